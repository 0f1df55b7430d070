import PyProof.Rows.All
import Wide.All
import OpenK.AllK
import Wide.FinOn
import KE.KStateDown
import KE.KDictKeyed
import KE.KDictWalk
import HandS.Base
import HandS.Call
import HandS.List
import HandS.Comp
import HandS.Ends
import HandS.Dict
import HandS.Iter
import HandS.Text
import HandS.Walk
import HandS.Exc
import HandS.TryOnly
import HandS.TryMany
import HandS.ExcOwn
import HandS.ExcInit
import HandS.ExcField
import HandS.Words
import HandS.WordsList
import HandS.WordsDict
import HandS.WordsExc
import HandS.Defaults
import HandS.Deep
import HandS.TupAny
import HandS.TupMul
import HandS.Wide
import HandS.Style
import HandS.Codes
import HandS.Conv
import HandS.IsInst
import HandS.Property
import HandS.SortOrd
import KE.GoesEnum
import KE.GoesZip
import KE.GoesMore
import HandS.CallSlots
import HandS.RaiseMore
import HandS.Head0
import HandS.Head1
import HandS.Head2
import HandS.HeadEnd
import HandS.HeadHook1
import HandS.HeadHook2
import HandS.TupLen
import KE.SortData
import HandS.DictComp
import KE.KDictZip
import KE.KExcInit
import HandS.SlotsOwn
import KE.KDictList
import KE.KDictCopyH
import HandS.SetBool
import HandS.Strs
import KE.DataCmp
import PyProof.ExcBaseAll.ValueError
import KE.KDictPairs
import HandS.SetFor
import HandS.GenList
import KE.KSuper
import HandS.GenBody
import HandS.MakeKwOnly
import HandS.MakeKw
import PyProof.ReprRoads
import PyProof.Rows.TupDisplay
import KE.KDictSum
import HandS.ExcValue
import PyProof.StrLawsRepr
import PySem.Challenge.RW_graftrules_k01_values_that_are_trees
noncomputable section
set_option linter.all false
/-! a small machine: values, store, codes -/
namespace G
inductive Val where
  | none | bool (b : Bool) | int (i : Int) | str (s : List Nat) | tup (vs : List Val) | ref (n : Nat) | scr (ns : List Int) | err
  deriving Inhabited
inductive Obj where
  | lst (xs : List Val) | dct (kvs : List (Val × Val)) | set (xs : List Int) | ins (c : Nat) (fs : List (Nat × Val)) | fz (kvs : List (Val × Val))
/-! the store: a tree by the binary digits of the number -/
inductive Tr where
  | nil | node (o : Option Obj) (l r : Tr)
def Tr.geto : Tr → Nat → Option Obj
  | .nil, _ => .none
  | .node o l r, n => match Nat.beq n 0 with
    | true => o
    | false => match Nat.beq (n % 2) 1 with
      | true => l.geto (n / 2)
      | false => r.geto (n / 2 - 1)
def Tr.seto : Nat → Tr → Nat → Obj → Tr
  | 0, t, _, _ => t
  | k + 1, .nil, n, x => match Nat.beq n 0 with
    | true => .node (some x) .nil .nil
    | false => match Nat.beq (n % 2) 1 with
      | true => .node .none (Tr.seto k .nil (n / 2) x) .nil
      | false => .node .none .nil (Tr.seto k .nil (n / 2 - 1) x)
  | k + 1, .node o l r, n, x => match Nat.beq n 0 with
    | true => .node (some x) l r
    | false => match Nat.beq (n % 2) 1 with
      | true => .node o (Tr.seto k l (n / 2) x) r
      | false => .node o l (Tr.seto k r (n / 2 - 1) x)
theorem Tr.seto_fuel : ∀ (k : Nat) (t : Tr) (n : Nat) (x : Obj), n < 2 ^ k → (Tr.seto (k + 1) t n x).geto n = some x
  | k, t, n, x, h => by
    cases e : Nat.beq n 0 with
    | true => cases t <;> simp [Tr.seto, Tr.geto, e]
    | false =>
      have hn : n ≠ 0 := fun q => by rw [q] at e; cases e
      cases k with
      | zero => omega
      | succ k =>
        have hk : 2 ^ (k + 1) = 2 * 2 ^ k := by rw [Nat.pow_succ, Nat.mul_comm]
        cases e2 : Nat.beq (n % 2) 1 with
        | true =>
          have h2 : n / 2 < 2 ^ k := by omega
          cases t with
          | nil =>
            have a : Tr.seto (k + 1 + 1) .nil n x = .node .none (Tr.seto (k + 1) .nil (n / 2) x) .nil := by rw [Tr.seto]; simp only [e, e2]
            rw [a, Tr.geto]; simp only [e, e2]; exact Tr.seto_fuel k _ _ _ h2
          | node o l r =>
            have a : Tr.seto (k + 1 + 1) (.node o l r) n x = .node o (Tr.seto (k + 1) l (n / 2) x) r := by rw [Tr.seto]; simp only [e, e2]
            rw [a, Tr.geto]; simp only [e, e2]; exact Tr.seto_fuel k _ _ _ h2
        | false =>
          have h2 : n / 2 - 1 < 2 ^ k := by omega
          cases t with
          | nil =>
            have a : Tr.seto (k + 1 + 1) .nil n x = .node .none .nil (Tr.seto (k + 1) .nil (n / 2 - 1) x) := by rw [Tr.seto]; simp only [e, e2]
            rw [a, Tr.geto]; simp only [e, e2]; exact Tr.seto_fuel k _ _ _ h2
          | node o l r =>
            have a : Tr.seto (k + 1 + 1) (.node o l r) n x = .node o l (Tr.seto (k + 1) r (n / 2 - 1) x) := by rw [Tr.seto]; simp only [e, e2]
            rw [a, Tr.geto]; simp only [e, e2]; exact Tr.seto_fuel k _ _ _ h2
theorem Tr.seto_other : ∀ (k : Nat) (t : Tr) (n m : Nat) (x : Obj), m ≠ n → (Tr.seto k t n x).geto m = t.geto m
  | 0, _, _, _, _, _ => rfl
  | k + 1, t, n, m, x, h => by
    have ih := Tr.seto_other k
    cases e : Nat.beq n 0 with
    | true =>
      have hn : n = 0 := Nat.eq_of_beq_eq_true e
      have hm : Nat.beq m 0 = false := by
        cases q : Nat.beq m 0 with
        | true => exact absurd ((Nat.eq_of_beq_eq_true q).trans hn.symm) h
        | false => rfl
      cases t with
      | nil => simp only [Tr.seto, Tr.geto, e, hm]; split <;> rfl
      | node o l r => simp only [Tr.seto, Tr.geto, e, hm]
    | false =>
      have hn : n ≠ 0 := fun q => by rw [q] at e; cases e
      cases f : Nat.beq m 0 with
      | true => cases t <;> simp only [Tr.seto, Tr.geto, e, f] <;> cases Nat.beq (n % 2) 1 <;> simp [Tr.geto, f]
      | false =>
        have hm : m ≠ 0 := fun q => by rw [q] at f; cases f
        cases e2 : Nat.beq (n % 2) 1 with
        | true =>
          have n2 : n % 2 = 1 := Nat.eq_of_beq_eq_true e2
          cases f2 : Nat.beq (m % 2) 1 with
          | true =>
            have m2 : m % 2 = 1 := Nat.eq_of_beq_eq_true f2
            cases t <;> simp only [Tr.seto, Tr.geto, e, f, e2, f2] <;> rw [ih _ _ _ _ (by omega)] <;> rfl
          | false => cases t <;> simp only [Tr.seto, Tr.geto, e, f, e2, f2]
        | false =>
          have n2 : n % 2 ≠ 1 := fun q => by rw [q] at e2; cases e2
          cases f2 : Nat.beq (m % 2) 1 with
          | true => cases t <;> simp only [Tr.seto, Tr.geto, e, f, e2, f2]
          | false =>
            have m2 : m % 2 ≠ 1 := fun q => by rw [q] at f2; cases f2
            cases t <;> simp only [Tr.seto, Tr.geto, e, f, e2, f2] <;> rw [ih _ _ _ _ (by omega)] <;> rfl
/-! the same by the recursors, for the kernel -/
def Tr.getR (n : Nat) (t : Tr) : Option Obj := Tr.rec (motive := fun _ => Nat → Option Obj) (fun _ => .none) (fun o _ _ gl gr n => Bool.rec (motive := fun _ => Option Obj) (Bool.rec (motive := fun _ => Option Obj) (gr (Nat.pred (Nat.div n (nat_lit 2)))) (gl (Nat.div n (nat_lit 2))) (Nat.beq (Nat.mod n (nat_lit 2)) (nat_lit 1))) o (Nat.beq n (nat_lit 0))) t n
def Tr.get (t : Tr) (n : Nat) : Option Obj := Tr.getR n t
def Tr.set (k : Nat) (t : Tr) (n : Nat) (x : Obj) : Tr := Nat.rec (motive := fun _ => Tr → Nat → Tr) (fun t _ => t)
  (fun _ ih t n => Tr.rec (motive := fun _ => Tr)
    (Bool.rec (motive := fun _ => Tr) (Bool.rec (motive := fun _ => Tr) (.node .none .nil (ih .nil (Nat.pred (Nat.div n (nat_lit 2))))) (.node .none (ih .nil (Nat.div n (nat_lit 2))) .nil) (Nat.beq (Nat.mod n (nat_lit 2)) (nat_lit 1))) (.node (some x) .nil .nil) (Nat.beq n (nat_lit 0)))
    (fun o l r _ _ => Bool.rec (motive := fun _ => Tr) (Bool.rec (motive := fun _ => Tr) (.node o l (ih r (Nat.pred (Nat.div n (nat_lit 2))))) (.node o (ih l (Nat.div n (nat_lit 2))) r) (Nat.beq (Nat.mod n (nat_lit 2)) (nat_lit 1))) (.node (some x) l r) (Nat.beq n (nat_lit 0))) t) k t n
theorem Tr.get_eq : ∀ (t : Tr) (n : Nat), t.get n = t.geto n
  | .nil, _ => rfl
  | .node o l r, n => by
    show Bool.rec (motive := fun _ => Option Obj) (Bool.rec (motive := fun _ => Option Obj) (r.get (n / 2 - 1)) (l.get (n / 2)) (Nat.beq (n % 2) 1)) o (Nat.beq n 0) = _
    rw [Tr.geto, Tr.get_eq r, Tr.get_eq l]
    cases Nat.beq n 0 <;> cases Nat.beq (n % 2) 1 <;> rfl
theorem Tr.set_eq : ∀ (k : Nat) (t : Tr) (n : Nat) (x : Obj), Tr.set k t n x = Tr.seto k t n x
  | 0, _, _, _ => by rw [Tr.seto]; rfl
  | k + 1, .nil, n, x => by
    show Bool.rec (motive := fun _ => Tr) (Bool.rec (motive := fun _ => Tr) (.node .none .nil (Tr.set k .nil (n / 2 - 1) x)) (.node .none (Tr.set k .nil (n / 2) x) .nil) (Nat.beq (n % 2) 1)) (.node (some x) .nil .nil) (Nat.beq n 0) = _
    rw [Tr.seto, Tr.set_eq k, Tr.set_eq k]
    cases Nat.beq n 0 <;> cases Nat.beq (n % 2) 1 <;> rfl
  | k + 1, .node o l r, n, x => by
    show Bool.rec (motive := fun _ => Tr) (Bool.rec (motive := fun _ => Tr) (.node o l (Tr.set k r (n / 2 - 1) x)) (.node o (Tr.set k l (n / 2) x) r) (Nat.beq (n % 2) 1)) (.node (some x) l r) (Nat.beq n 0) = _
    rw [Tr.seto, Tr.set_eq k, Tr.set_eq k]
    cases Nat.beq n 0 <;> cases Nat.beq (n % 2) 1 <;> rfl
theorem Tr.set_fuel (k : Nat) (t : Tr) (n : Nat) (x : Obj) (h : n < 2 ^ k) : (Tr.set (k + 1) t n x).get n = some x := by
  rw [Tr.get_eq, Tr.set_eq]; exact Tr.seto_fuel k t n x h
theorem Tr.set_other (k : Nat) (t : Tr) (n m : Nat) (x : Obj) (h : m ≠ n) : (Tr.set k t n x).get m = t.get m := by
  rw [Tr.get_eq, Tr.set_eq, Tr.get_eq]; exact Tr.seto_other k t n m x h
structure Store where
  nx : Nat
  t : Tr
def Store.get (S : Store) (n : Nat) : Option Obj := S.t.get n
def Store.put (S : Store) (n : Nat) (o : Obj) : Store := ⟨S.nx, S.t.set (Nat.succ n) n o⟩
def Store.new (S : Store) (o : Obj) : Store := ⟨S.nx + 1, S.t.set (Nat.succ S.nx) S.nx o⟩
def big : Nat := 2 ^ 64
/-- the store has no limit -/
abbrev Roomy (_ : Nat) : Prop := True
def roomB (_ : Nat) : Bool := true
theorem Store.get_put (S : Store) (n m : Nat) (o : Obj) (h : Roomy n) : (S.put n o).get m = if m = n then some o else S.get m := by
  by_cases e : m = n
  · subst e; rw [if_pos rfl]; exact Tr.set_fuel m S.t m o Nat.lt_two_pow_self
  · rw [if_neg e]; exact Tr.set_other (Nat.succ n) S.t n m o e
theorem Store.get_new (S : Store) (m : Nat) (o : Obj) (h : Roomy S.nx) : (S.new o).get m = if m = S.nx then some o else S.get m := Store.get_put S S.nx m o h
inductive R (α : Type) where
  | ok (a : α) (S : Store)
  | exc (c : Nat) (fs : List (Nat × Val)) (S : Store)
  | stuck (why : Nat)
/-- what a code may ask: a call by number, a method's and a property's number, whether a class's instances have a field, the handled exception's fields -/
structure Orc where
  call : Nat → List Val → Store → R Val
  meth : Nat → Nat → Option Nat
  prop : Nat → Nat → Option Nat
  fld : Nat → Nat → Bool
  err : Option (List (Nat × Val)) := .none
abbrev Env := List (Option Val)
abbrev E := Orc → Env → Store → R Val
abbrev EL := Orc → Env → Store → R (List Val)
def R.kExc {β : Type} (c : Nat) (fs : List (Nat × Val)) (S : Store) : R β := .exc c fs S
def R.kStk {β : Type} (w : Nat) : R β := .stuck w
def R.bind {α β} (m : R α) (k : α → Store → R β) : R β := R.rec (motive := fun _ => R β) k R.kExc R.kStk m
def hdE (l : Env) : Option (Option Val) := List.rec (motive := fun _ => Option (Option Val)) .none (fun a _ _ => some a) l
def getE (i : Nat) (l : Env) : Option (Option Val) := Nat.rec (motive := fun _ => Env → Option (Option Val)) hdE (fun _ ih l => List.rec (motive := fun _ => Option (Option Val)) .none (fun _ t _ => ih t) l) i l
theorem getE_eq : ∀ (i : Nat) (l : Env), getE i l = l[i]?
  | 0, [] => rfl
  | 0, _ :: _ => rfl
  | _ + 1, [] => rfl
  | i + 1, _ :: t => by rw [List.getElem?_cons_succ, ← getE_eq i t]; rfl
def setE (i : Nat) (v : Option Val) (l : Env) : Env := Nat.rec (motive := fun _ => Env → Env) (fun l => List.rec (motive := fun _ => Env) [] (fun _ t _ => v :: t) l) (fun _ ih l => List.rec (motive := fun _ => Env) [] (fun a t _ => a :: ih t) l) i l
theorem setE_eq : ∀ (i : Nat) (v : Option Val) (l : Env), setE i v l = l.set i v
  | 0, _, [] => rfl
  | 0, _, _ :: _ => rfl
  | _ + 1, _, [] => rfl
  | i + 1, v, a :: t => by rw [List.set_cons_succ, ← setE_eq i v t]; rfl
def noExc {α : Type} (r : R α) : R α := R.rec (motive := fun _ => R α) (fun a S => .ok a S) (fun _ _ _ => .stuck 94) (fun w => .stuck w) r
def maxLen : Nat := 16777216
/-! equality, order -/
def intEq : Int → Int → Bool
  | .ofNat m, .ofNat n => Nat.beq m n
  | .negSucc m, .negSucc n => Nat.beq m n
  | _, _ => false
def intLt : Int → Int → Bool
  | .ofNat m, .ofNat n => Nat.blt m n
  | .negSucc m, .negSucc n => Nat.blt n m
  | .negSucc _, .ofNat _ => true
  | .ofNat _, .negSucc _ => false
def strEq : List Nat → List Nat → Bool
  | [], [] => true
  | a :: r, b :: s => match Nat.beq a b with | true => strEq r s | false => false
  | _, _ => false
def strLt : List Nat → List Nat → Bool
  | [], [] => false
  | [], _ :: _ => true
  | _ :: _, [] => false
  | a :: r, b :: s => match Nat.beq a b with | true => strLt r s | false => Nat.blt a b
def boolEq : Bool → Bool → Bool
  | true, b => b
  | false, true => false
  | false, false => true
def b2i : Bool → Int
  | true => 1
  | false => 0
/-- == of two lists of values, item by item -/
def eqL (f : Val → Val → Option Bool) : List Val → List Val → Option Bool
  | [], [] => some true
  | a :: r, b :: s => match f a b with
    | some true => eqL f r s
    | some false => some false
    | .none => .none
  | _, _ => some false
def isList (x : Option Obj) : Option (List Val) := Option.rec (motive := fun _ => Option (List Val)) .none (fun y => Obj.rec (motive := fun _ => Option (List Val)) (fun xs => some xs) (fun _ => .none) (fun _ => .none) (fun _ _ => .none) (fun _ => .none) y) x
/-- ==, to a depth -/
def eqF (S : Store) : Nat → Val → Val → Option Bool
  | 0, _, _ => .none
  | k + 1, x, y => match x, y with
    | .none, .none => some true
    | .bool a, .bool b => some (boolEq a b)
    | .bool a, .int j => some (intEq (b2i a) j)
    | .int i, .bool b => some (intEq i (b2i b))
    | .int i, .int j => some (intEq i j)
    | .str a, .str b => some (strEq a b)
    | .tup a, .tup b => eqL (eqF S k) a b
    | .ref a, .ref b => match isList (S.get a), isList (S.get b) with
      | some xs, some ys => eqL (eqF S k) xs ys
      | _, _ => .none
    | .scr _, _ => .none
    | _, .scr _ => .none
    | .ref a, _ => match isList (S.get a) with
      | some _ => some false
      | .none => .none
    | _, .ref b => match isList (S.get b) with
      | some _ => some false
      | .none => .none
    | _, _ => some false
/-- data to a depth: no dict, no instance -/
def dOk (S : Store) : Nat → Val → Bool
  | 0, _ => false
  | k + 1, x => match x with
    | .tup a => a.all (dOk S k)
    | .ref a => match isList (S.get a) with
      | some xs => xs.all (dOk S k)
      | .none => false
    | .scr _ => false
    | .err => false
    | _ => true
def eqSo (S : Store) (x y : Val) : Option Bool := match dOk S 60 x && dOk S 60 y with
  | true => eqF S 60 x y
  | false => .none
/-! a number for a value: equal ones have the same; closed terms, so that they are worked out once -/
def hshI : Int → Nat
  | .ofNat n => n * 2 + 5
  | .negSucc n => n * 2 + 6
def hshS : List Nat → Nat
  | [] => 7
  | c :: r => (c * 1000003 + 31 * hshS r) % 4294967296
def hshL (f : Val → Nat) : List Val → Nat
  | [] => 3
  | v :: r => (f v * 1000003 + 31 * hshL f r) % 4294967296
def hsh : Nat → Val → Nat
  | 0, _ => 0
  | k + 1, v => match v with
    | .none => 1
    | .bool b => hshI (b2i b)
    | .int i => hshI i
    | .str s => hshS s
    | .tup vs => hshL (hsh k) vs
    | _ => 2
/-- no object of the store in it, to a depth -/
def pur : Nat → Val → Bool
  | 0, _ => false
  | k + 1, v => match v with
    | .none => true
    | .bool _ => true
    | .int _ => true
    | .str _ => true
    | .tup vs => vs.all (pur k)
    | _ => false
def isSo : Option Bool → Bool
  | some b => b
  | .none => false
def nilS : Store := ⟨0, .nil⟩
/-- == of two values without objects -/
def eqQ (x y : Val) : Bool := match Nat.beq (hsh 12 x) (hsh 12 y) with
  | true => isSo (eqF nilS 60 x y)
  | false => false
def eqS (S : Store) (x y : Val) : Option Bool := match pur 20 x && pur 20 y with
  | true => some (eqQ x y)
  | false => eqSo S x y
/-- a dict's key that is a tuple (of ints, texts, None, tuples), to depth 8 -/
def keyIn : Nat → Val → Bool
  | 0, _ => false
  | k + 1, x => match x with
    | .none => true
    | .int _ => true
    | .str _ => true
    | .tup a => a.all (keyIn k)
    | _ => false
/-- == of keys -/
def eqKo : Val → Val → Bool := fun x y => match eqF nilS 10 x y with
  | some b => b
  | .none => false
def eqK : Val → Val → Bool := fun x y => Bool.rec (motive := fun _ => Bool) false (eqKo x y) (Nat.beq (hsh 12 x) (hsh 12 y))
def look (k : Val) (l : List (Val × Val)) : Option Val := List.rec (motive := fun _ => Option Val) .none (fun p _ ih => Prod.rec (motive := fun _ => Option Val) (fun a v => Bool.rec (motive := fun _ => Option Val) ih (Bool.rec (motive := fun _ => Option Val) ih (some v) (eqKo a k)) (Nat.beq (hsh 12 a) (hsh 12 k))) p) l
def dput (k v : Val) (l : List (Val × Val)) : List (Val × Val) := List.rec (motive := fun _ => List (Val × Val)) [(k, v)] (fun p r ih => Prod.rec (motive := fun _ => List (Val × Val)) (fun a x => Bool.rec (motive := fun _ => List (Val × Val)) ((a, x) :: ih) (Bool.rec (motive := fun _ => List (Val × Val)) ((a, x) :: ih) ((a, v) :: r) (eqKo a k)) (Nat.beq (hsh 12 a) (hsh 12 k))) p) l
theorem dput_cons (k v a x : Val) (r : List (Val × Val)) : dput k v ((a, x) :: r) = match eqK a k with
    | true => (a, v) :: r
    | false => (a, x) :: dput k v r := by
  show Bool.rec (motive := fun _ => List (Val × Val)) ((a, x) :: dput k v r) (Bool.rec (motive := fun _ => List (Val × Val)) ((a, x) :: dput k v r) ((a, v) :: r) (eqKo a k)) (Nat.beq (hsh 12 a) (hsh 12 k)) = _
  unfold eqK
  cases Nat.beq (hsh 12 a) (hsh 12 k) <;> cases eqKo a k <;> rfl
/-- the kinds of dicts: keys all tuples, or all ints and texts -/
def isT : Val → Bool
  | .tup _ => true
  | _ => false
def isA : Val → Bool
  | .int _ => true
  | .str _ => true
  | _ => false
/-- the first key's kind -/
def hdK (f : Val → Bool) : List (Val × Val) → Bool
  | [] => true
  | (a, _) :: _ => f a
/-- may this key be asked of a dict with these entries -/
def keyFor (k : Val) (kvs : List (Val × Val)) : Bool := match isT k with
  | true => keyIn 8 k && hdK isT kvs
  | false => isA k && hdK isA kvs
def nonE {α : Type} : List α → Bool
  | [] => false
  | _ :: _ => true
def truthy (S : Store) : Val → Option Bool
  | .none => some false
  | .bool b => some b
  | .int i => some (!intEq i 0)
  | .str s => some (nonE s)
  | .tup s => some (nonE s)
  | .ref n => match isList (S.get n) with
    | some s => some (nonE s)
    | .none => .none
  | .scr ns => some (nonE ns)
  | .err => .none
def ofOpt (o : Option Val) (S : Store) (w : Nat) : R Val := Option.rec (motive := fun _ => R Val) (.stuck w) (fun v => .ok v S) o
def ofB (o : Option Bool) (S : Store) (w : Nat) : R Val := Option.rec (motive := fun _ => R Val) (.stuck w) (fun v => .ok (.bool v) S) o
/-- a new object; the numbers stay below 2 ^ 64 -/
def alloc (o : Obj) (S : Store) : R Val := match roomB S.nx with
  | true => .ok (.ref S.nx) (S.new o)
  | false => .stuck 0
/-! expressions -/
def isErr (v : Val) : Bool := Val.rec (motive_1 := fun _ => Bool) (motive_2 := fun _ => PUnit) false (fun _ => false) (fun _ => false) (fun _ => false) (fun _ _ => false) (fun _ => false) (fun _ => false) true ⟨⟩ (fun _ _ _ _ => ⟨⟩) v
def okV (v : Val) (S : Store) : R Val := Bool.rec (motive := fun _ => R Val) (.ok v S) (.stuck 1) (isErr v)
def noV (_ : Store) : R Val := .stuck 1
noncomputable def okW (v : Val) : Store → R Val := Val.rec (motive_1 := fun _ => Store → R Val) (motive_2 := fun _ => PUnit) (fun S => .ok .none S) (fun b S => .ok (.bool b) S) (fun i S => .ok (.int i) S) (fun s S => .ok (.str s) S) (fun vs _ S => .ok (.tup vs) S) (fun n S => .ok (.ref n) S) (fun ns S => .ok (.scr ns) S) noV ⟨⟩ (fun _ _ _ _ => ⟨⟩) v
theorem okW_eq (v : Val) (S : Store) : okW v S = okV v S := by cases v <;> rfl
def eVar (i : Nat) : E := fun _ ρ => Option.rec (motive := fun _ => Store → R Val) noV (fun w => Option.rec (motive := fun _ => Store → R Val) noV okW w) (getE i ρ)
theorem eVar_eq (i : Nat) (o : Orc) (ρ : Env) (S : Store) : eVar i o ρ S = match ρ[i]? with
  | some (some v) => match v with
    | .err => .stuck 1
    | v => .ok v S
  | _ => .stuck 1 := by
  rw [← getE_eq i ρ]
  show Option.rec (motive := fun _ => Store → R Val) noV (fun w => Option.rec (motive := fun _ => Store → R Val) noV okW w) (getE i ρ) S = _
  cases getE i ρ with
  | none => rfl
  | some w => cases w with
    | none => rfl
    | some v => cases v <;> rfl
def eC (v : Val) : E := fun _ _ S => .ok v S
def elNil : EL := fun _ _ S => .ok [] S
def elCons (a : E) (r : EL) : EL := fun o ρ S => (a o ρ S).bind fun v S => (r o ρ S).bind fun vs S => .ok (v :: vs) S
def few (vs : List Val) : Bool := Nat.ble vs.length 4096
def eTup (es : EL) : E := fun o ρ S => (es o ρ S).bind fun vs S => match few vs with
  | true => .ok (.tup vs) S
  | false => .stuck 2
def eLst (es : EL) : E := fun o ρ S => (es o ρ S).bind fun vs S => match few vs with
  | true => alloc (.lst vs) S
  | false => .stuck 2
abbrev Op2 := Orc → Val → Val → Store → R Val
def eOp (f : Op2) (a b : E) : E := fun o ρ S => (a o ρ S).bind fun x S => (b o ρ S).bind fun y S => f o x y S
def eNot (a : E) : E := fun o ρ S => (a o ρ S).bind fun x S => match truthy S x with
  | some b => .ok (.bool (!b)) S
  | .none => .stuck 2
def eNeg (a : E) : E := fun o ρ S => (a o ρ S).bind fun x S => match x with
  | .int i => .ok (.int (-i)) S
  | _ => .stuck 3
def eAnd (a b : E) : E := fun o ρ S => (a o ρ S).bind fun x S => match x with
  | .bool true => b o ρ S
  | .bool false => .ok x S
  | _ => .stuck 4
def eOr (a b : E) : E := fun o ρ S => (a o ρ S).bind fun x S => match x with
  | .bool false => b o ρ S
  | .bool true => .ok x S
  | _ => .stuck 5
def eIf (c a b : E) : E := fun o ρ S => (c o ρ S).bind fun x S => match truthy S x with
  | some true => a o ρ S
  | some false => b o ρ S
  | .none => .stuck 6
def eChain (f g : Op2) (a b c : E) : E := fun o ρ S => (a o ρ S).bind fun x S => (b o ρ S).bind fun y S => (f o x y S).bind fun z S => match z with
  | .bool true => (c o ρ S).bind fun w S => g o y w S
  | .bool false => .ok z S
  | _ => .stuck 7
def eCall (f : Nat) (as : EL) : E := fun o ρ S => (as o ρ S).bind fun vs S => o.call f vs S
abbrev Bi := Orc → List Val → Store → R Val
def eB (f : Bi) (as : EL) : E := fun o ρ S => (as o ρ S).bind fun vs S => f o vs S
def eNew (c init : Nat) (as : EL) : E := fun o ρ S => (as o ρ S).bind fun vs S => match roomB S.nx with
  | true => (o.call init (.ref S.nx :: vs) (S.new (.ins c []))).bind fun v S' => match v with
    | .none => .ok (.ref S.nx) S'
    | _ => .stuck 8
  | false => .stuck 8
def fldGet (f : Nat) : List (Nat × Val) → Option Val
  | [] => .none
  | (g, v) :: r => match Nat.beq f g with
    | true => some v
    | false => fldGet f r
def fldPut (f : Nat) (x : Val) : List (Nat × Val) → List (Nat × Val)
  | [] => [(f, x)]
  | (g, v) :: r => match Nat.beq f g with
    | true => (g, x) :: r
    | false => (g, v) :: fldPut f x r
noncomputable def fldGetR (f : Nat) (l : List (Nat × Val)) : Option Val := List.rec (motive := fun _ => Option Val) .none (fun p _ ih => Prod.rec (motive := fun _ => Option Val) (fun g v => Bool.rec (motive := fun _ => Option Val) ih (some v) (Nat.beq f g)) p) l
theorem fldGetR_eq (f : Nat) : ∀ l : List (Nat × Val), fldGetR f l = fldGet f l
  | [] => rfl
  | (g, v) :: r => by
    show Bool.rec (motive := fun _ => Option Val) (fldGetR f r) (some v) (Nat.beq f g) = _
    rw [fldGet, fldGetR_eq f r]
    cases Nat.beq f g <;> rfl
def attrF (f : Nat) (x : Val) (S : Store) : R Val := match x with
  | .ref n => match S.get n with
    | some (.ins _ fs) => ofOpt (fldGet f fs) S 9
    | _ => .stuck 10
  | _ => .stuck 11
noncomputable def attrO (f : Nat) (S : Store) (x : Option Obj) : R Val := Option.rec (motive := fun _ => R Val) (.stuck 10) (fun ob => Obj.rec (motive := fun _ => R Val) (fun _ => .stuck 10) (fun _ => .stuck 10) (fun _ => .stuck 10) (fun _ fs => ofOpt (fldGetR f fs) S 9) (fun _ => .stuck 10) ob) x
def attrK (f : Nat) (x : Val) (S : Store) : R Val := Val.rec (motive_1 := fun _ => R Val) (motive_2 := fun _ => PUnit) (.stuck 11) (fun _ => .stuck 11) (fun _ => .stuck 11) (fun _ => .stuck 11) (fun _ _ => .stuck 11) (fun n => attrO f S (S.get n)) (fun _ => .stuck 11) (.stuck 11) ⟨⟩ (fun _ _ _ _ => ⟨⟩) x
theorem attrK_eq (f : Nat) (x : Val) (S : Store) : attrK f x S = attrF f x S := by
  cases x with
  | ref n =>
    show attrO f S (S.get n) = (match S.get n with | some (.ins _ fs) => ofOpt (fldGet f fs) S 9 | _ => .stuck 10)
    unfold attrO
    cases S.get n with
    | none => rfl
    | some ob => cases ob <;> first | rfl | (simp only [fldGetR_eq])
  | _ => rfl
def eAttr (a : E) (f : Nat) : E := fun o ρ S => (a o ρ S).bind (attrK f)
theorem eAttr_eq (a : E) (f : Nat) (o : Orc) (ρ : Env) (S : Store) : eAttr a f o ρ S = (a o ρ S).bind (attrF f) := by
  show (a o ρ S).bind (attrK f) = _
  rw [show attrK f = attrF f from funext fun x => funext fun S => attrK_eq f x S]
/-- a field of the exception that is handled -/
def eErr (i f : Nat) : E := fun o ρ S => match ρ[i]? with
  | some (some .err) => match o.err with
    | some fs => ofOpt (fldGet f fs) S 13
    | .none => .stuck 14
  | _ => .stuck 14
def mthOf (m : Nat) (o : Orc) (x : Val) (S : Store) : Option Nat := match x with
  | .ref n => match S.get n with
    | some (.ins c _) => o.meth c m
    | _ => .none
  | _ => .none
def eMeth (a : E) (m : Nat) (as : EL) : E := fun o ρ S => (a o ρ S).bind fun x S => match mthOf m o x S with
  | some f => (as o ρ S).bind fun vs S => o.call f (x :: vs) S
  | .none => .stuck 15
/-- a method of a built-in type -/
abbrev Bm := Orc → Val → List Val → Store → R Val
inductive Knd where
  | lst | dct | str
def hasK (S : Store) (k : Knd) : Val → Bool
  | .str _ => match k with | .str => true | _ => false
  | .ref n => match S.get n with
    | some (.lst _) => match k with | .lst => true | _ => false
    | some (.dct _) => match k with | .dct => true | _ => false
    | _ => false
  | _ => false
def eBm (k : Knd) (f : Bm) (a : E) (as : EL) : E := fun o ρ S => (a o ρ S).bind fun x S => match hasK S k x with
  | true => (as o ρ S).bind fun vs S => f o x vs S
  | false => .stuck 18
/-! operators -/
def room2 {α : Type} (xs ys : List α) : Bool := Nat.ble (xs.length + ys.length) maxLen
def oAdd : Op2 := fun o x y S => match x, y with
  | .int i, .int j => .ok (.int (i + j)) S
  | .str a, .str b => match room2 a b with | true => .ok (.str (a ++ b)) S | false => .stuck 20
  | .tup a, .tup b => match room2 a b with | true => .ok (.tup (a ++ b)) S | false => .stuck 20
  | .ref a, .ref b => match S.get a, S.get b with
    | some (.lst xs), some (.lst ys) => match room2 xs ys with | true => alloc (.lst (xs ++ ys)) S | false => .stuck 20
    | _, _ => .stuck 21
  | _, _ => .stuck 21
def oSub : Op2 := fun _ x y S => match x, y with
  | .int i, .int j => .ok (.int (i - j)) S
  | _, _ => .stuck 22
def rep {α : Type} (xs : List α) : Nat → List α
  | 0 => []
  | n + 1 => xs ++ rep xs n
def oMul : Op2 := fun _ x y S => match x, y with
  | .int i, .int j => match Nat.blt (i.natAbs.log2 + j.natAbs.log2) 1000000 with | true => .ok (.int (i * j)) S | false => .stuck 23
  | .tup a, .int (.ofNat j) => match Nat.ble 2 j && (Nat.ble j 1000 && (Nat.ble a.length 1000 && nonE a)) with | true => .ok (.tup (rep a j)) S | false => .stuck 23
  | .str a, .int (.ofNat j) => match Nat.ble 2 j && (Nat.ble j 1000 && (Nat.ble a.length 1000 && nonE a)) with | true => .ok (.str (rep a j)) S | false => .stuck 23
  | .ref a, .int (.ofNat j) => match S.get a with
    | some (.lst xs) => match Nat.ble (xs.length * j) maxLen && Nat.ble j maxLen with | true => alloc (.lst (rep xs j)) S | false => .stuck 23
    | _ => .stuck 23
  | _, _ => .stuck 24
def oDiv : Op2 := fun _ x y S => match x, y with
  | .int i, .int j => match intLt 0 j && Nat.blt j.natAbs.log2 9000 with | true => .ok (.int (i / j)) S | false => .stuck 25
  | _, _ => .stuck 26
def oMod : Op2 := fun _ x y S => match x, y with
  | .int i, .int j => match intLt 0 j with | true => .ok (.int (i % j)) S | false => .stuck 27
  | _, _ => .stuck 28
def oPow : Op2 := fun _ x y S => match x, y with
  | .int i, .int j => match Nat.blt i.natAbs (2 ^ 64) && (!intLt j 0 && !intLt 1000000 j) with | true => .ok (.int (i ^ j.toNat)) S | false => .stuck 29
  | _, _ => .stuck 29
def oEq : Op2 := fun _ x y S => ofB (eqS S x y) S 31
def oNe : Op2 := fun _ x y S => match eqS S x y with
  | some b => .ok (.bool (!b)) S
  | .none => .stuck 32
def oLt : Op2 := fun _ x y S => match x, y with
  | .int i, .int j => .ok (.bool (intLt i j)) S
  | .str a, .str b => .ok (.bool (strLt a b)) S
  | _, _ => .stuck 34
def oGt : Op2 := fun _ x y S => match x, y with
  | .int i, .int j => .ok (.bool (intLt j i)) S
  | _, _ => .stuck 35
def oLe : Op2 := fun _ x y S => match x, y with
  | .int i, .int j => .ok (.bool (!intLt j i)) S
  | _, _ => .stuck 36
def anyEq (f : Val → Val → Option Bool) (x : Val) : List Val → Option Bool
  | [] => some false
  | a :: r => match f a x with
    | some true => some true
    | some false => anyEq f x r
    | .none => .none
def inVo (S : Store) (x y : Val) : Option Bool := match y with
  | .tup vs => match dOk S 60 x && vs.all (dOk S 60) with | true => anyEq (eqF S 60) x vs | false => .none
  | .str s => match x with
    | .str (c :: r) => match r with
      | [] => some (s.any (Nat.beq c))
      | _ => .none
    | _ => .none
  | .ref n => match isList (S.get n) with
    | some vs => match dOk S 60 x && vs.all (dOk S 60) with | true => anyEq (eqF S 60) x vs | false => .none
    | .none => .none
  | _ => .none
def inV (S : Store) (x y : Val) : Option Bool := match y with
  | .ref n => match isList (S.get n) with
    | some vs => match pur 20 x && vs.all (pur 20) with
      | true => some (vs.any fun a => eqQ a x)
      | false => inVo S x y
    | .none => .none
  | .tup vs => match pur 20 x && vs.all (pur 20) with
    | true => some (vs.any fun a => eqQ a x)
    | false => inVo S x y
  | _ => inVo S x y
/-- in, of a dict -/
def inK (S : Store) (x y : Val) : Option Bool := match y with
  | .ref n => match S.get n with
    | some (.dct kvs) => match keyFor x kvs with | true => some (look x kvs).isSome | false => .none
    | _ => .none
  | _ => .none
def oInK : Op2 := fun _ x y S => ofB (inK S x y) S 38
def oNotInK : Op2 := fun _ x y S => match inK S x y with
  | some b => .ok (.bool (!b)) S
  | .none => .stuck 39
def oIn : Op2 := fun _ x y S => ofB (inV S x y) S 38
def oNotIn : Op2 := fun _ x y S => match inV S x y with
  | some b => .ok (.bool (!b)) S
  | .none => .stuck 39
def isNo : Val → Bool
  | .none => true
  | _ => false
def isV (x y : Val) : Option Bool := match y with
  | .none => some (isNo x)
  | .bool b => match x with
    | .bool a => some (boolEq a b)
    | _ => .none
  | _ => .none
def oIs : Op2 := fun _ x y S => ofB (isV x y) S 47
def oIsNot : Op2 := fun _ x y S => match isV x y with
  | some b => .ok (.bool (!b)) S
  | .none => .stuck 48
/-! subscripts -/
def ixOf (n : Nat) (i : Int) : Option Nat := match i with
  | .ofNat k => match Nat.blt k n with | true => some k | false => .none
  | .negSucc k => match Nat.blt k n with | true => some (n - 1 - k) | false => .none
def getI {α : Type} (xs : List α) (i : Int) : Option α := match ixOf xs.length i with
  | some k => xs[k]?
  | .none => .none
def oIx : Op2 := fun _ x y S => match y with
  | .int i => match x with
    | .tup vs => ofOpt (getI vs i) S 50
    | .str vs => match getI vs i with
      | some c => .ok (.str [c]) S
      | .none => .stuck 52
    | .ref n => match isList (S.get n) with
      | some vs => ofOpt (getI vs i) S 54
      | .none => .stuck 57
    | _ => .stuck 58
  | _ => .stuck 58
/-- of a dict -/
def oIxK : Op2 := fun _ x y S => match x with
  | .ref n => match S.get n with
    | some (.dct kvs) => match keyFor y kvs with
      | true => ofOpt (look y kvs) S 56
      | false => .stuck 56
    | _ => .stuck 57
  | _ => .stuck 58
def clip (n : Nat) (i : Int) : Nat := match i with
  | .ofNat k => min k n
  | .negSucc k => n - (k + 1)
def bnd (n d : Nat) : Option Int → Nat
  | .none => d
  | some i => clip n i
def slc {α : Type} (xs : List α) (lo hi : Option Int) : List α := (xs.take (bnd xs.length xs.length hi)).drop (bnd xs.length 0 lo)
abbrev EO := Orc → Env → Store → R (Option Int)
def eoNone : EO := fun _ _ S => .ok .none S
def eoSome (a : E) : EO := fun o ρ S => (a o ρ S).bind fun v S => match v with
  | .int i => .ok (some i) S
  | _ => .stuck 59
def cutOf (x : Val) (l h : Option Int) (S : Store) : R Val := match x with
  | .tup vs => .ok (.tup (slc vs l h)) S
  | .str vs => .ok (.str (slc vs l h)) S
  | .ref n => match isList (S.get n) with
    | some vs => alloc (.lst (slc vs l h)) S
    | .none => .stuck 63
  | .scr ns => alloc (.lst ((slc ns l h).map .int)) S
  | _ => .stuck 64
def eSl (a : E) (lo hi : EO) : E := fun o ρ S => (a o ρ S).bind fun x S => (lo o ρ S).bind fun l S => (hi o ρ S).bind fun h S => cutOf x l h S
/-- x[::-1] -/
def eRev (a : E) : E := fun o ρ S => (a o ρ S).bind fun x S => match x with
  | .ref n => match S.get n with
    | some (.lst vs) => alloc (.lst vs.reverse) S
    | _ => .stuck 65
  | _ => .stuck 66
/-! iterables -/
inductive It where
  | lst (n i : Nat) | vals (vs : List Val) | enum (k : Int) (it : It) | zip (a b : It)
/-- none: stuck -/
def It.next (S : Store) : It → Option (Option (Val × It))
  | .lst n i => match S.get n with
    | some (.lst xs) => match xs[i]? with
      | some v => some (some (v, .lst n (i + 1)))
      | .none => match Nat.beq xs.length i with
        | true => some .none
        | false => .none
    | _ => .none
  | .vals [] => some .none
  | .vals (v :: r) => some (some (v, .vals r))
  | .enum k it => match it.next S with
    | some (some (v, it)) => some (some (.tup [.int k, v], .enum (k + 1) it))
    | some .none => some .none
    | .none => .none
  | .zip a b => match a.next S, b.next S with
    | some (some (v, a)), some (some (w, b)) => some (some (.tup [v, w], .zip a b))
    | some _, some _ => some .none
    | _, _ => .none
/-- the same by the recursors -/
noncomputable def getL (i : Nat) (l : List Val) : Option Val := Nat.rec (motive := fun _ => List Val → Option Val) (fun l => List.rec (motive := fun _ => Option Val) .none (fun a _ _ => some a) l) (fun _ ih l => List.rec (motive := fun _ => Option Val) .none (fun _ t _ => ih t) l) i l
theorem getL_eq : ∀ (i : Nat) (l : List Val), getL i l = l[i]?
  | 0, [] => rfl
  | 0, _ :: _ => rfl
  | _ + 1, [] => rfl
  | i + 1, _ :: t => by rw [List.getElem?_cons_succ, ← getL_eq i t]; rfl
abbrev NxT := Option (Option (Val × It))
noncomputable def nxL (n i : Nat) (x : Option Obj) : NxT := Option.rec (motive := fun _ => NxT) .none (fun ob => Obj.rec (motive := fun _ => NxT) (fun xs => Option.rec (motive := fun _ => NxT) (Bool.rec (motive := fun _ => NxT) .none (some .none) (Nat.beq xs.length i)) (fun v => some (some (v, .lst n (Nat.succ i)))) (getL i xs)) (fun _ => .none) (fun _ => .none) (fun _ _ => .none) (fun _ => .none) ob) x
def nextR (S : Store) (it : It) : NxT := It.rec (motive := fun _ => NxT) (fun n i => nxL n i (S.get n)) (fun vs => List.rec (motive := fun _ => NxT) (some .none) (fun v r _ => some (some (v, .vals r))) vs)
  (fun k _ ih => Option.rec (motive := fun _ => NxT) .none (fun x => Option.rec (motive := fun _ => NxT) (some .none) (fun p => Prod.rec (motive := fun _ => NxT) (fun v it => some (some (.tup [.int k, v], .enum (k + 1) it))) p) x) ih)
  (fun a b _ _ => It.next S (.zip a b)) it
theorem nextR_eq (S : Store) : ∀ it : It, nextR S it = it.next S
  | .lst n i => by
    show nxL n i (S.get n) = _
    rw [It.next]
    unfold nxL
    cases S.get n with
    | none => rfl
    | some ob =>
      cases ob with
      | lst xs =>
        show Option.rec (motive := fun _ => NxT) (Bool.rec (motive := fun _ => NxT) .none (some .none) (Nat.beq xs.length i)) (fun v => some (some (v, .lst n (Nat.succ i)))) (getL i xs) = _
        rw [getL_eq]
        show Option.rec (motive := fun _ => NxT) (Bool.rec (motive := fun _ => NxT) .none (some .none) (Nat.beq xs.length i)) (fun v => some (some (v, .lst n (Nat.succ i)))) xs[i]? = (match xs[i]? with | some v => some (some (v, .lst n (i + 1))) | .none => (match Nat.beq xs.length i with | true => some .none | false => .none))
        generalize xs[i]? = z
        cases z with
        | none => cases Nat.beq xs.length i <;> rfl
        | some v => rfl
      | _ => rfl
  | .vals [] => rfl
  | .vals (_ :: _) => rfl
  | .enum k it => by
    show Option.rec (motive := fun _ => NxT) .none (fun x => Option.rec (motive := fun _ => NxT) (some .none) (fun p => Prod.rec (motive := fun _ => NxT) (fun v it => some (some (.tup [.int k, v], .enum (k + 1) it))) p) x) (nextR S it) = _
    rw [It.next, nextR_eq S it]
    cases it.next S with
    | none => rfl
    | some x => cases x with
      | none => rfl
      | some p => rfl
  | .zip a b => rfl
abbrev EI := Orc → Env → Store → R It
def toIt (x : Val) (S : Store) : Option It := match x with
  | .tup vs => some (.vals vs)
  | .str s => some (.vals (s.map fun c => .str [c]))
  | .ref n => match S.get n with
    | some (.lst _) => some (.lst n 0)
    | _ => .none
  | _ => .none
def iVal (a : E) : EI := fun o ρ S => (a o ρ S).bind fun x S => match toIt x S with
  | some it => .ok it S
  | .none => .stuck 70
def iEnum (a : E) : EI := fun o ρ S => (a o ρ S).bind fun x S => match toIt x S with
  | some it => .ok (.enum 0 it) S
  | .none => .stuck 70
def iZip (es : EL) : EI := fun o ρ S => (es o ρ S).bind fun vs S => match vs with
  | [x, y] => match toIt x S, toIt y S with
    | some a, some b => .ok (.zip a b) S
    | _, _ => .stuck 70
  | _ => .stuck 70
def upTo (lo : Int) : Nat → List Val
  | 0 => []
  | n + 1 => .int lo :: upTo (lo + 1) n
def smallI (i : Int) : Bool := Nat.blt i.natAbs (2 ^ 24)
def iRange (as : EL) : EI := fun o ρ S => (as o ρ S).bind fun vs S => match vs with
  | .int n :: r => match r with
    | [] => match smallI n with | true => .ok (.vals (upTo 0 n.toNat)) S | false => .stuck 71
    | _ => .stuck 71
  | _ => .stuck 71
def iRange2 (as : EL) : EI := fun o ρ S => (as o ρ S).bind fun vs S => match vs with
  | .int a :: r => match r with
    | .int b :: r => match r with
      | [] => match smallI a && smallI b with | true => .ok (.vals (upTo a (b - a).toNat)) S | false => .stuck 71
      | _ => .stuck 71
    | _ => .stuck 71
  | _ => .stuck 71
/-! targets -/
abbrev T := Val → Orc → Env → Store → R Env
abbrev TL := List Val → Orc → Env → Store → R Env
def tName (i : Nat) : T := fun v _ ρ S => .ok (setE i (some v) ρ) S
def tNil : TL := fun vs _ ρ S => match vs with
  | [] => .ok ρ S
  | _ => .stuck 80
def tCons (t : T) (r : TL) : TL := fun vs o ρ S => match vs with
  | v :: vs => (t v o ρ S).bind fun ρ S => r vs o ρ S
  | [] => .stuck 81
def tTup (n : Nat) (r : TL) : T := fun v o ρ S => match v with
  | .tup vs => match Nat.beq vs.length n with
    | true => r vs o ρ S
    | false => .stuck 82
  | .ref k => match S.get k with
    | some (.lst vs) => match Nat.beq vs.length n with
      | true => r vs o ρ S
      | false => .stuck 82
    | _ => .stuck 82
  | _ => .stuck 83
def setL (x y v : Val) (S : Store) : R Unit := match x with
  | .ref n => match S.get n with
    | some (.lst xs) => match y with
      | .int i => match ixOf xs.length i with
        | some k => .ok () (S.put n (.lst (xs.set k v)))
        | .none => .stuck 84
      | _ => .stuck 84
    | _ => .stuck 86
  | _ => .stuck 87
def setK (x y v : Val) (S : Store) : R Unit := match x with
  | .ref n => match S.get n with
    | some (.dct kvs) => match keyFor y kvs && Nat.blt kvs.length maxLen with
      | true => .ok () (S.put n (.dct (dput y v kvs)))
      | false => .stuck 85
    | _ => .stuck 86
  | _ => .stuck 87
/-- l[i] = v -/
def tSub (a b : E) : T := fun v o ρ S => (a o ρ S).bind fun x S => (b o ρ S).bind fun y S => (setL x y v S).bind fun _ S => .ok ρ S
/-- d[k] = v -/
def tSubK (a b : E) : T := fun v o ρ S => (a o ρ S).bind fun x S => (b o ρ S).bind fun y S => (setK x y v S).bind fun _ S => .ok ρ S
def tAttr (a : E) (f : Nat) : T := fun v o ρ S => (a o ρ S).bind fun x S => match x with
  | .ref n => match S.get n with
    | some (.ins c fs) => match o.fld c f && Nat.blt fs.length 900 with
      | true => .ok ρ (S.put n (.ins c (fldPut f v fs)))
      | false => .stuck 88
    | _ => .stuck 88
  | _ => .stuck 89
/-! comprehensions; what raises within one is stuck -/
def wipe (ρ : Env) : List Nat → Env
  | [] => ρ
  | v :: vs => (wipe ρ vs).set v .none
/-- the list so far, its end ahead, and its length -/
abbrev Acc := Nat × List Val
abbrev Col := Orc → Env → Acc → Store → R Acc
def cElt (e : E) : Col := fun o ρ acc S => (e o ρ S).bind fun v S => match Nat.blt acc.1 maxLen with
  | true => .ok (acc.1 + 1, v :: acc.2) S
  | false => .stuck 90
def cIf (c : E) (k : Col) : Col := fun o ρ acc S => (c o ρ S).bind fun b S => match truthy S b with
  | some true => k o ρ acc S
  | some false => .ok acc S
  | .none => .stuck 91
def fuel : Nat := 1000000000
def cLoop (t : T) (k : Col) (o : Orc) (ρ : Env) (n : Nat) : It → Acc → Store → R Acc := Nat.rec (motive := fun _ => It → Acc → Store → R Acc) (fun _ _ _ => .stuck 92)
  (fun _ ih it acc S => Option.rec (motive := fun _ => R Acc) (.stuck 93) (fun x => Option.rec (motive := fun _ => R Acc) (.ok acc S) (fun p => Prod.rec (motive := fun _ => R Acc) (fun v it => (noExc (t v o ρ S)).bind fun ρ2 S => (k o ρ2 acc S).bind fun acc S => ih it acc S) p) x) (nextR S it)) n
theorem cLoop_succ (t : T) (k : Col) (o : Orc) (ρ : Env) (n : Nat) (it : It) (acc : Acc) (S : Store) : cLoop t k o ρ (n + 1) it acc S = match it.next S with
    | .none => .stuck 93
    | some .none => .ok acc S
    | some (some (v, it)) => (noExc (t v o ρ S)).bind fun ρ2 S => (k o ρ2 acc S).bind fun acc S => cLoop t k o ρ n it acc S := by
  show Option.rec (motive := fun _ => R Acc) (.stuck 93) (fun x => Option.rec (motive := fun _ => R Acc) (.ok acc S) (fun p => Prod.rec (motive := fun _ => R Acc) (fun v it => (noExc (t v o ρ S)).bind fun ρ2 S => (k o ρ2 acc S).bind fun acc S => cLoop t k o ρ n it acc S) p) x) (nextR S it) = _
  rw [nextR_eq]
  cases it.next S with
  | none => rfl
  | some x => cases x with
    | none => rfl
    | some p => rfl
def cFor (own : List Nat) (t : T) (i : EI) (k : Col) : Col := fun o ρ acc S => (i o ρ S).bind fun it S => cLoop t k o (wipe ρ own) fuel it acc S
def eLc (c : Col) : E := fun o ρ S => (noExc (c o ρ (0, []) S)).bind fun acc S => alloc (.lst acc.2.reverse) S
/-! built-ins -/
/-- the items of a value that is walked at once -/
def itemsOf (S : Store) (x : Val) : Option (List Val) := match x with
  | .tup vs => some vs
  | .ref n => isList (S.get n)
  | .scr ns => some (ns.map .int)
  | _ => .none
def bList : Bi := fun _ vs S => match vs with
  | [x] => match itemsOf S x with
    | some vs => alloc (.lst vs) S
    | .none => .stuck 100
  | _ => .stuck 100
/-- list(d) -/
def bListK : Bi := fun _ vs S => match vs with
  | [.ref n] => match S.get n with
    | some (.dct kvs) => alloc (.lst (kvs.map (·.1))) S
    | _ => .stuck 100
  | _ => .stuck 100
def bTuple : Bi := fun _ vs S => match vs with
  | [x] => match itemsOf S x with
    | some vs => .ok (.tup vs) S
    | .none => .stuck 101
  | _ => .stuck 101
def bLen : Bi := fun o vs S => match vs with
  | [.tup vs] => .ok (.int vs.length) S
  | [.str vs] => .ok (.int vs.length) S
  | [.scr vs] => .ok (.int vs.length) S
  | [.ref n] => match S.get n with
    | some (.lst vs) => .ok (.int vs.length) S
    | _ => .stuck 112
  | _ => .stuck 112
def bLenK : Bi := fun o vs S => match vs with
  | [.ref n] => match S.get n with
    | some (.dct vs) => .ok (.int vs.length) S
    | _ => .stuck 112
  | _ => .stuck 112
def boolsOf : List Val → Option (List Bool)
  | [] => some []
  | .bool b :: r => match boolsOf r with
    | some bs => some (b :: bs)
    | .none => .none
  | _ :: _ => .none
def intsOf : List Val → Option (List Int)
  | [] => some []
  | .int b :: r => match intsOf r with
    | some bs => some (b :: bs)
    | .none => .none
  | _ :: _ => .none
def boolsAt (S : Store) (x : Val) : Option (List Bool) := match x with
  | .ref n => match isList (S.get n) with
    | some vs => boolsOf vs
    | .none => .none
  | _ => .none
def intsAt (S : Store) (x : Val) : Option (List Int) := match x with
  | .ref n => match isList (S.get n) with
    | some vs => intsOf vs
    | .none => .none
  | _ => .none
def bAll : Bi := fun _ vs S => match vs with
  | [v] => match boolsAt S v with
    | some bs => .ok (.bool (bs.all id)) S
    | .none => .stuck 114
  | _ => .stuck 115
def bAny : Bi := fun _ vs S => match vs with
  | [v] => match boolsAt S v with
    | some bs => .ok (.bool (bs.any id)) S
    | .none => .stuck 114
  | _ => .stuck 115
def sumI : List Int → Int
  | [] => 0
  | a :: r => a + sumI r
def bSum : Bi := fun _ vs S => match vs with
  | [v] => match intsAt S v with
    | some ns => .ok (.int (sumI ns)) S
    | .none => .stuck 120
  | _ => .stuck 121
def maxI : Int → List Int → Int
  | m, [] => m
  | m, a :: r => maxI (match intLt m a with | true => a | false => m) r
def minI : Int → List Int → Int
  | m, [] => m
  | m, a :: r => minI (match intLt a m with | true => a | false => m) r
def bMax2 : Bi := fun _ vs S => match vs with
  | [.int i, .int j] => .ok (.int (match intLt i j with | true => j | false => i)) S
  | _ => .stuck 125
def bMin2 : Bi := fun _ vs S => match vs with
  | [.int i, .int j] => .ok (.int (match intLt j i with | true => j | false => i)) S
  | _ => .stuck 125
def bMax : Bi := fun _ vs S => match vs with
  | [v] => match intsAt S v with
    | some (a :: r) => .ok (.int (maxI a r)) S
    | _ => .stuck 124
  | _ => .stuck 125
def bMin : Bi := fun _ vs S => match vs with
  | [v] => match intsAt S v with
    | some (a :: r) => .ok (.int (minI a r)) S
    | _ => .stuck 127
  | _ => .stuck 128
def bAbs : Bi := fun _ vs S => match vs with
  | [.int i] => .ok (.int i.natAbs) S
  | _ => .stuck 129
def bInt : Bi := fun _ vs S => match vs with
  | [.int i] => .ok (.int i) S
  | [.bool b] => .ok (.int (b2i b)) S
  | _ => .stuck 130
/-- a value's kind, for isinstance -/
inductive Tg where
  | non | bool | int | str | tup | lst | dct | own (c : Nat)
def tgOf (S : Store) (v : Val) : Option Tg := match v with
  | .none => some .non
  | .bool _ => some .bool
  | .int _ => some .int
  | .str _ => some .str
  | .tup _ => some .tup
  | .ref n => match S.get n with
    | some (.lst _) => some .lst
    | some (.dct _) => some .dct
    | some (.ins c _) => some (.own c)
    | _ => .none
  | _ => .none
def aInt : Tg → Option Bool
  | .int => some true | .bool => some true | .own _ => .none | _ => some false
def aBool : Tg → Option Bool
  | .bool => some true | .own _ => .none | _ => some false
def aStr : Tg → Option Bool
  | .str => some true | .own _ => .none | _ => some false
def aTup : Tg → Option Bool
  | .tup => some true | .own _ => .none | _ => some false
def aLst : Tg → Option Bool
  | .lst => some true | .own _ => .none | _ => some false
def eIsI (a : E) (ans : Tg → Option Bool) : E := fun o ρ S => (a o ρ S).bind fun x S => match tgOf S x with
  | some t => ofB (ans t) S 133
  | .none => .stuck 133
def mAppend : Bm := fun _ x vs S => match x with
  | .ref n => match vs with
    | [v] => match S.get n with
      | some (.lst xs) => match Nat.blt xs.length maxLen with
        | true => .ok .none (S.put n (.lst (xs ++ [v])))
        | false => .stuck 140
      | _ => .stuck 140
    | _ => .stuck 141
  | _ => .stuck 141
def indexV (f : Val → Val → Option Bool) (x : Val) : List Val → Nat → Option Nat
  | [], _ => .none
  | a :: r, k => match f a x with
    | some true => some k
    | some false => indexV f x r (k + 1)
    | .none => .none
def mGet : Bm := fun _ x vs S => match x with
  | .ref n => match S.get n with
    | some (.dct kvs) => match vs with
      | [k] => match keyFor k kvs with
        | true => .ok ((look k kvs).getD .none) S
        | false => .stuck 155
      | [k, d] => match keyFor k kvs with
        | true => .ok ((look k kvs).getD d) S
        | false => .stuck 156
      | _ => .stuck 157
    | _ => .stuck 157
  | _ => .stuck 158
def strsOf : List Val → Option (List (List Nat))
  | [] => some []
  | .str b :: r => match strsOf r with
    | some bs => some (b :: bs)
    | .none => .none
  | _ :: _ => .none
def joinL (sep : List Nat) : List (List Nat) → List Nat
  | [] => []
  | s :: r => match r with
    | [] => s
    | _ => s ++ sep ++ joinL sep r
def sumLen : List (List Nat) → Nat
  | [] => 0
  | s :: r => s.length + sumLen r
def mJoin : Bm := fun _ x vs S => match x with
  | .str sep => match vs with
    | [v] => match itemsOf S v with
      | some xs => match strsOf xs with
        | some ss => match Nat.ble (sumLen ss + ss.length * sep.length) maxLen with
          | true => .ok (.str (joinL sep ss)) S
          | false => .stuck 159
        | .none => .stuck 159
      | .none => .stuck 160
    | _ => .stuck 161
  | _ => .stuck 161
def eDict0 : E := fun _ _ S => alloc (.dct []) S
/-! statements -/
inductive SR where
  | nx (ρ : Env) (S : Store)
  | rt (v : Val) (S : Store)
  | bk (ρ : Env) (S : Store)
  | exc (c : Nat) (fs : List (Nat × Val)) (ρ : Env) (S : Store)
  | stuck (w : Nat)
abbrev C := Orc → Env → Store → SR
def R.to {α} (m : R α) (ρ : Env) (k : α → Store → SR) : SR := R.rec (motive := fun _ => SR) k (fun c fs S => .exc c fs ρ S) (fun w => .stuck w) m
def cNil : C := fun _ ρ S => .nx ρ S
def SR.seq (m : SR) (k : Env → Store → SR) : SR := SR.rec (motive := fun _ => SR) k (fun v S => .rt v S) (fun ρ S => .bk ρ S) (fun c fs ρ S => .exc c fs ρ S) (fun w => .stuck w) m
def cSeq (a b : C) : C := fun o ρ S => (a o ρ S).seq (b o)
def sExpr (e : E) : C := fun o ρ S => (e o ρ S).to ρ fun _ S => .nx ρ S
def sAsg (t : T) (e : E) : C := fun o ρ S => (e o ρ S).to ρ fun v S => (noExc (t v o ρ S)).to ρ fun ρ S => .nx ρ S
def setAll : List Nat → List Val → Env → Option Env
  | [], [], ρ => some ρ
  | i :: is, v :: vs, ρ => setAll is vs (ρ.set i (some v))
  | _, _, _ => .none
/-- a, b = x, y -/
def sPar (is : List Nat) (es : EL) : C := fun o ρ S => (es o ρ S).to ρ fun vs S => match setAll is vs ρ with
  | some ρ => .nx ρ S
  | .none => .stuck 208
def sAug (i : Nat) (f : Op2) (e : E) : C := fun o ρ S => match ρ[i]? with
  | some (some x) => match x with
    | .err => .stuck 200
    | x => (e o ρ S).to ρ fun y S => (f o x y S).to ρ fun z S => .nx (ρ.set i (some z)) S
  | _ => .stuck 200
def sRet (e : E) : C := fun o ρ S => (e o ρ S).to ρ fun v S => .rt v S
def sIf (c : E) (a b : C) : C := fun o ρ S => (c o ρ S).to ρ fun x S => match truthy S x with
  | some true => a o ρ S
  | some false => b o ρ S
  | .none => .stuck 201
def sBreak : C := fun _ ρ S => .bk ρ S
def wLoop (c : E) (b : C) (o : Orc) : Nat → Env → Store → SR
  | 0, _, _ => .stuck 202
  | n + 1, ρ, S => (c o ρ S).to ρ fun x S => match truthy S x with
    | some true => match b o ρ S with
      | .nx ρ S => wLoop c b o n ρ S
      | .bk ρ S => .nx ρ S
      | r => r
    | some false => .nx ρ S
    | .none => .stuck 203
def sWhile (c : E) (b : C) : C := fun o ρ S => wLoop c b o fuel ρ S
/-- what comes behind a turn of a loop -/
noncomputable def SR.turn (m : SR) (k : Env → Store → SR) : SR := SR.rec (motive := fun _ => SR) k (fun v S => .rt v S) (fun ρ S => .nx ρ S) (fun c fs ρ S => .exc c fs ρ S) (fun w => .stuck w) m
def fLoop (t : T) (b : C) (o : Orc) (n : Nat) : It → Env → Store → SR := Nat.rec (motive := fun _ => It → Env → Store → SR) (fun _ _ _ => .stuck 204)
  (fun _ ih it ρ S => Option.rec (motive := fun _ => SR) (.stuck 205) (fun x => Option.rec (motive := fun _ => SR) (.nx ρ S) (fun p => Prod.rec (motive := fun _ => SR) (fun v it => (noExc (t v o ρ S)).to ρ fun ρ S => (b o ρ S).turn (ih it)) p) x) (nextR S it)) n
theorem fLoop_succ (t : T) (b : C) (o : Orc) (n : Nat) (it : It) (ρ : Env) (S : Store) : fLoop t b o (n + 1) it ρ S = match it.next S with
    | .none => .stuck 205
    | some .none => .nx ρ S
    | some (some (v, it)) => (noExc (t v o ρ S)).to ρ fun ρ S => match b o ρ S with
      | .nx ρ S => fLoop t b o n it ρ S
      | .bk ρ S => .nx ρ S
      | r => r := by
  show Option.rec (motive := fun _ => SR) (.stuck 205) (fun x => Option.rec (motive := fun _ => SR) (.nx ρ S) (fun p => Prod.rec (motive := fun _ => SR) (fun v it => (noExc (t v o ρ S)).to ρ fun ρ S => (b o ρ S).turn (fLoop t b o n it)) p) x) (nextR S it) = _
  rw [nextR_eq]
  cases it.next S with
  | none => rfl
  | some x => cases x with
    | none => rfl
    | some p =>
      obtain ⟨v, it2⟩ := p
      show (noExc (t v o ρ S)).to ρ (fun ρ S => (b o ρ S).turn (fLoop t b o n it2)) = (noExc (t v o ρ S)).to ρ fun ρ S => match b o ρ S with
        | .nx ρ S => fLoop t b o n it2 ρ S
        | .bk ρ S => .nx ρ S
        | r => r
      congr 1
      funext ρ1 S1
      cases b o ρ1 S1 <;> rfl
def sFor (t : T) (i : EI) (b : C) : C := fun o ρ S => (i o ρ S).to ρ fun it S => fLoop t b o fuel it ρ S
/-- raise of an own exception with one field; with none -/
def sRaise (c : Nat) (f : Nat) (e : E) : C := fun o ρ S => (e o ρ S).to ρ fun v S => .exc c [(f, v)] ρ S
def sRaise0 (c : Nat) : C := fun _ ρ S => .exc c [] ρ S
/-- one clause: the classes that it catches, those it does not, the slot of its name, its suite -/
abbrev H1 := List Nat × List Nat × Option Nat × C
def clr (ρ : Env) : Env := ρ.map fun v => match v with
  | some .err => .none
  | v => v
def setO (ρ : Env) (i : Option Nat) (v : Option Val) : Env := match i with
  | some i => ρ.set i v
  | .none => ρ
def handle (o : Orc) (c : Nat) (fs : List (Nat × Val)) (ρ : Env) (S : Store) : List H1 → SR
  | [] => .exc c fs ρ S
  | (ys, ns, i, k) :: r => match ys.any (Nat.beq c) with
    | true => match k { o with err := some fs } (setO (clr ρ) i (some .err)) S with
      | .nx ρ S => .nx (setO (clr ρ) i .none) S
      | .bk ρ S => .bk (setO (clr ρ) i .none) S
      | .exc _ _ _ _ => .stuck 206
      | r => r
    | false => match ns.any (Nat.beq c) with
      | true => handle o c fs ρ S r
      | false => .stuck 207
def sTry (b : C) (hs : List H1) : C := fun o ρ S => match b o ρ S with
  | .exc c fs ρ S => handle o c fs ρ S hs
  | r => r
structure Fn where
  np : Nat
  ns : Nat
  body : C
def runFn (f : Fn) (o : Orc) (args : List Val) (S : Store) : R Val := match Nat.beq args.length f.np with
  | false => .stuck 300
  | true => match f.body o (args.map some ++ List.replicate (f.ns - f.np) .none) S with
    | .nx _ S => .ok .none S
    | .rt v S => .ok v S
    | .bk _ _ => .stuck 301
    | .exc c fs _ S => .exc c fs S
    | .stuck w => .stuck w
/-- the tables of a text -/
structure Tb where
  fn : Nat → Fn
  meth : Nat → Nat → Option Nat
  prop : Nat → Nat → Option Nat
  fld : Nat → Nat → Bool
def callN (t : Tb) : Nat → Nat → List Val → Store → R Val
  | 0, _, _, _ => .stuck 302
  | n + 1, f, args, S => runFn (t.fn f) ⟨callN t n, t.meth, t.prop, t.fld, .none⟩ args S
def orcN (t : Tb) (n : Nat) : Orc := ⟨callN t n, t.meth, t.prop, t.fld, .none⟩
/-! later parts -/
def strC : List Nat → List Nat → Ordering
  | [], [] => .eq
  | [], _ :: _ => .lt
  | _ :: _, [] => .gt
  | a :: r, b :: s => match Nat.beq a b with
    | true => strC r s
    | false => match Nat.blt a b with
      | true => .lt
      | false => .gt
def cmpL (f : Val → Val → Ordering) : List Val → List Val → Ordering
  | [], [] => .eq
  | [], _ :: _ => .lt
  | _ :: _, [] => .gt
  | a :: r, b :: s => match f a b with
    | .eq => cmpL f r s
    | o => o
def cmpV : Nat → Val → Val → Ordering
  | 0, _, _ => .eq
  | k + 1, x, y => match x, y with
    | .int i, .int j => match intEq i j with
      | true => .eq
      | false => match intLt i j with
        | true => .lt
        | false => .gt
    | .str a, .str b => strC a b
    | .tup a, .tup b => cmpL (cmpV k) a b
    | _, _ => .eq
def isLt : Ordering → Bool
  | .lt => true
  | _ => false
def isEq : Ordering → Bool
  | .eq => true
  | _ => false
/-! shapes -/
def shI : Val → Bool
  | .int _ => true
  | _ => false
def shS : Val → Bool
  | .str _ => true
  | _ => false
def shT : Nat → Val → Bool
  | 0, _ => false
  | k + 1, x => match x with
    | .tup vs => match vs with
      | a :: r => Nat.blt 0 k && (shS a && r.all (shT k))
      | [] => false
    | _ => false
def shL (s : Val → Bool) : Val → Bool
  | .tup vs => vs.all s
  | _ => false
def all2 : List (Val → Bool) → List Val → Bool
  | [], [] => true
  | s :: r, v :: vs => match s v with
    | true => all2 r vs
    | false => false
  | _, _ => false
def shP (ss : List (Val → Bool)) : Val → Bool
  | .tup vs => all2 ss vs
  | _ => false
def insV (x : Val) : List Val → List Val
  | [] => [x]
  | a :: r => match isLt (cmpV 20 x a) with
    | true => x :: a :: r
    | false => a :: insV x r
def srtV : List Val → List Val → List Val
  | [], acc => acc
  | x :: r, acc => srtV r (insV x acc)
/-- the shapes that may be sorted: none of them a mix -/
def shapes : List (Val → Bool) := [shI, shP [shI, shT 19], shT 20, shP [shI, shL shI, shI], shP [shP [shI, shT 18], shL (shT 18)], shP [shI, shI], shP [shT 19, shT 19]]
def bSortV : Bi := fun _ vs S => match vs with
  | [.ref n] => match isList (S.get n) with
    | some vs => match shapes.any fun s => vs.all s with
      | true => alloc (.lst (srtV vs [])) S
      | false => .stuck 103
    | .none => .stuck 104
  | _ => .stuck 104
def dE (p : Val × Val) : Val := .tup [p.1, p.2]
def ofE : List Val → List (Val × Val)
  | [] => []
  | v :: r => match v with
    | .tup vs => match vs with
      | k :: t => match t with
        | x :: _ => (k, x) :: ofE r
        | [] => ofE r
      | [] => ofE r
    | _ => ofE r
/-- k: v for the dict so far -/
def cEltD (a b : E) : Col := fun o ρ acc S => (a o ρ S).bind fun k S => (b o ρ S).bind fun v S => match keyFor k (ofE acc.2) && Nat.blt (ofE acc.2).length maxLen with
  | true => .ok (acc.1 + 1, (dput k v (ofE acc.2)).map dE) S
  | false => .stuck 90
def eDcD (c : Col) : E := fun o ρ S => (noExc (c o ρ (0, []) S)).bind fun acc S => alloc (.dct (ofE acc.2)) S
def bLenJ (mi : Nat) : Bi := fun o vs S => match vs with
  | [x] => match mthOf mi o x S with
    | some f => (noExc (o.call f [x] S)).bind fun v S => match v with
      | .int i => match intLt i 0 with
        | true => .stuck 113
        | false => match intLt i 9223372036854775808 with
          | true => .ok (.int i) S
          | false => .stuck 113
      | _ => .stuck 113
    | .none => .stuck 113
  | _ => .stuck 112
def iEnumZ (es : EL) : EI := fun o ρ S => (iZip es o ρ S).bind fun it S => .ok (.enum 0 it) S
/-- the answer is a value without objects -/
def callP (f : Nat) (o : Orc) (vs : List Val) (S : Store) : R Val := match vs.all (pur 20) with
  | true => match o.call f vs nilS with
    | .ok v _ => match pur 20 v with
      | true => .ok v S
      | false => .stuck 997
    | .exc _ _ _ => .stuck 997
    | .stuck w => .stuck w
  | false => o.call f vs S
def eCallP (f : Nat) (as : EL) : E := fun o ρ S => (as o ρ S).bind fun vs S => callP f o vs S
/-- a list of such values -/
def lstAt (S : Store) : Val → Option (List Val)
  | .ref n => isList (S.get n)
  | _ => .none
def callL (f : Nat) (o : Orc) (vs : List Val) (S : Store) : R Val := match vs.all (pur 20) with
  | true => match o.call f vs nilS with
    | .ok v S' => match lstAt S' v with
      | some xs => match xs.all (pur 20) with
        | true => alloc (.lst xs) S
        | false => .stuck 997
      | .none => .stuck 997
    | .exc _ _ _ => .stuck 997
    | .stuck w => .stuck w
  | false => o.call f vs S
def eCallL (f : Nat) (as : EL) : E := fun o ρ S => (as o ρ S).bind fun vs S => callL f o vs S
/-- a dict is frozen for an expression -/
def isFz : Obj → Bool
  | .fz _ => true
  | _ => false
/-- dict(l), l a list of pairs whose keys are tuples -/
def pairsT : List Val → Option (List (Val × Val))
  | [] => some []
  | v :: r => match v with
    | .tup vs => match vs with
      | k :: t => match t with
        | x :: u => match u with
          | [] => match isT k && keyIn 8 k with
            | true => match pairsT r with
              | some l => some ((k, x) :: l)
              | .none => .none
            | false => .none
          | _ => .none
        | [] => .none
      | [] => .none
    | _ => .none
def putAllD : List (Val × Val) → List (Val × Val) → List (Val × Val)
  | d, [] => d
  | d, p :: r => putAllD (dput p.1 p.2 d) r
def bDictT : Bi := fun _ vs S => match vs with
  | [.ref n] => match isList (S.get n) with
    | some l => match pairsT l with
      | some kvs => match Nat.ble kvs.length maxLen with
        | true => alloc (.dct (putAllD [] kvs)) S
        | false => .stuck 131
      | .none => .stuck 131
    | .none => .stuck 132
  | _ => .stuck 132
/-- x.p, a property -/
def prpOf (pi : Nat) (o : Orc) (x : Val) (S : Store) : Option Nat := match x with
  | .ref n => match S.get n with
    | some (.ins c _) => o.prop c pi
    | _ => .none
  | _ => .none
def eProp (a : E) (pi : Nat) : E := fun o ρ S => (a o ρ S).bind fun x S => match prpOf pi o x S with
  | some f => noExc (o.call f [x] S)
  | .none => .stuck 19
/-- < of two values of one shape -/
def oLtS : Op2 := fun _ x y S => match shapes.any fun s => s x && s y with
  | true => .ok (.bool (isLt (cmpV 20 x y))) S
  | false => .stuck 34
/-! what the numbers are for -/
theorem strEq_true : ∀ {a b : List Nat}, strEq a b = true → a = b
  | [], [], _ => rfl
  | a :: r, b :: s, h => by
    rw [strEq] at h
    cases e : Nat.beq a b with
    | false => rw [e] at h; cases h
    | true =>
      rw [e] at h
      rw [Nat.eq_of_beq_eq_true e, strEq_true h]
  | [], _ :: _, h => by cases h
  | _ :: _, [], h => by cases h
theorem intEq_true : ∀ {a b : Int}, intEq a b = true → a = b
  | .ofNat m, .ofNat n, h => by rw [Nat.eq_of_beq_eq_true h]
  | .negSucc m, .negSucc n, h => by rw [Nat.eq_of_beq_eq_true h]
  | .ofNat m, .negSucc n, h => by cases h
  | .negSucc m, .ofNat n, h => by cases h
theorem eqF_hsh : ∀ (k : Nat) (x y : Val), eqF nilS k x y = some true → ∀ j, hsh j x = hsh j y
  | 0, x, y, h, _ => by cases h
  | k + 1, x, y, h, 0 => rfl
  | k + 1, x, y, h, j + 1 => by
    have all : ∀ (a b : List Val), eqL (eqF nilS k) a b = some true → hshL (hsh j) a = hshL (hsh j) b := by
      intro a
      induction a with
      | nil => intro b h; cases b with
        | nil => rfl
        | cons _ _ => cases h
      | cons u a ih =>
        intro b h
        cases b with
        | nil => cases h
        | cons v b =>
          rw [eqL] at h
          cases e : eqF nilS k u v with
          | none => rw [e] at h; cases h
          | some t =>
            rw [e] at h
            cases t with
            | false => cases h
            | true => rw [hshL, hshL, eqF_hsh k u v e j, ih b h]
    cases x with
    | none => cases y <;> first | rfl | (cases h; done)
    | bool a =>
      cases y with
      | bool b =>
        have h' : boolEq a b = true := Option.some.inj h
        cases a <;> cases b <;> first | rfl | cases h'
      | int i =>
        have h' := intEq_true (Option.some.inj h)
        show hshI (b2i a) = hshI i
        rw [h']
      | _ => cases h
    | int i =>
      cases y with
      | bool b =>
        have h' := intEq_true (Option.some.inj h)
        show hshI i = hshI (b2i b)
        rw [h']
      | int b =>
        have h' := intEq_true (Option.some.inj h)
        rw [h']
      | _ => cases h
    | str s =>
      cases y with
      | str t => rw [strEq_true (Option.some.inj h)]
      | _ => cases h
    | tup a =>
      cases y with
      | tup b => exact all a b h
      | _ => cases h
    | ref n => cases y <;> cases h
    | scr n => cases y <;> cases h
    | err => cases y <;> cases h
theorem eqK_eq (x y : Val) : eqK x y = eqKo x y := by
  unfold eqK
  cases e : Nat.beq (hsh 12 x) (hsh 12 y) with
  | true => rfl
  | false =>
    unfold eqKo
    cases h : eqF nilS 10 x y with
    | none => rfl
    | some b =>
      cases b with
      | false => rfl
      | true => rw [eqF_hsh 10 x y h 12, Nat.beq_refl] at e; cases e
theorem pur_dOk (S : Store) : ∀ (k j : Nat) (v : Val), pur k v = true → k ≤ j → dOk S j v = true
  | 0, _, v, h, _ => by cases h
  | k + 1, 0, v, _, h => by omega
  | k + 1, j + 1, v, h, hk => by
    cases v with
    | tup vs =>
      have h' : vs.all (pur k) = true := h
      show vs.all (dOk S j) = true
      exact List.all_eq_true.mpr fun a ha => pur_dOk S k j a (List.all_eq_true.mp h' a ha) (by omega)
    | ref n => cases h
    | scr n => cases h
    | err => cases h
    | _ => rfl
theorem pur_eqF (S T : Store) : ∀ (k j : Nat) (x y : Val), pur k x = true → pur k y = true → k ≤ j → ∃ b, eqF S j x y = some b ∧ eqF T j x y = some b
  | 0, _, x, y, h, _, _ => by cases h
  | k + 1, 0, x, y, _, _, h => by omega
  | k + 1, j + 1, x, y, h1, h2, hk => by
    have all : ∀ (a b : List Val), a.all (pur k) = true → b.all (pur k) = true → ∃ t, eqL (eqF S j) a b = some t ∧ eqL (eqF T j) a b = some t := by
      intro a
      induction a with
      | nil => intro b _ _; cases b <;> exact ⟨_, rfl, rfl⟩
      | cons u a ih =>
        intro b ha hb
        cases b with
        | nil => exact ⟨_, rfl, rfl⟩
        | cons v b =>
          obtain ⟨p1, p2⟩ := Bool.and_eq_true_iff.mp ha
          obtain ⟨q1, q2⟩ := Bool.and_eq_true_iff.mp hb
          obtain ⟨t, e1, e2⟩ := pur_eqF S T k j u v p1 q1 (by omega)
          rw [eqL, eqL, e1, e2]
          cases t with
          | true => exact ih b p2 q2
          | false => exact ⟨_, rfl, rfl⟩
    cases x <;> first | (cases h1; done) | skip
    all_goals (cases y <;> first | (cases h2; done) | exact ⟨_, rfl, rfl⟩ | exact all _ _ h1 h2)
theorem eqQ_eq (S : Store) {x y : Val} (h1 : pur 20 x = true) (h2 : pur 20 y = true) : eqF S 60 x y = some (eqQ x y) := by
  obtain ⟨b, e1, e2⟩ := pur_eqF S nilS 20 60 x y h1 h2 (by decide)
  rw [e1]
  unfold eqQ
  cases e : Nat.beq (hsh 12 x) (hsh 12 y) with
  | true => rw [e2]; rfl
  | false =>
    cases b with
    | false => rfl
    | true => rw [eqF_hsh 60 x y e2 12, Nat.beq_refl] at e; cases e
theorem eqS_eq (S : Store) (x y : Val) : eqS S x y = eqSo S x y := by
  unfold eqS
  cases e : pur 20 x && pur 20 y with
  | false => rfl
  | true =>
    obtain ⟨h1, h2⟩ := Bool.and_eq_true_iff.mp e
    unfold eqSo
    rw [pur_dOk S 20 60 x h1 (by decide), pur_dOk S 20 60 y h2 (by decide)]
    exact (eqQ_eq S h1 h2).symm
theorem anyEq_eq (S : Store) {x : Val} (h1 : pur 20 x = true) : ∀ {vs : List Val}, vs.all (pur 20) = true → anyEq (eqF S 60) x vs = some (vs.any fun a => eqQ a x)
  | [], _ => rfl
  | a :: r, h => by
    obtain ⟨p1, p2⟩ := Bool.and_eq_true_iff.mp h
    rw [anyEq, eqQ_eq S p1 h1, List.any_cons]
    cases eqQ a x with
    | true => rfl
    | false => exact anyEq_eq S h1 p2
theorem inV_eq (S : Store) (x y : Val) : inV S x y = inVo S x y := by
  have go : ∀ vs : List Val, (pur 20 x && vs.all (pur 20)) = true → (match dOk S 60 x && vs.all (dOk S 60) with | true => anyEq (eqF S 60) x vs | false => .none) = some (vs.any fun a => eqQ a x) := by
    intro vs e
    obtain ⟨h1, h2⟩ := Bool.and_eq_true_iff.mp e
    have h3 : vs.all (dOk S 60) = true := List.all_eq_true.mpr fun a ha => pur_dOk S 20 60 a (List.all_eq_true.mp h2 a ha) (by decide)
    rw [pur_dOk S 20 60 x h1 (by decide), h3]
    exact anyEq_eq S h1 h2
  cases y with
  | tup vs =>
    show (match pur 20 x && vs.all (pur 20) with | true => some (vs.any fun a => eqQ a x) | false => inVo S x (.tup vs)) = _
    cases e : pur 20 x && vs.all (pur 20) with
    | false => rfl
    | true => exact (go vs e).symm
  | ref n =>
    show (match isList (S.get n) with | some vs => (match pur 20 x && vs.all (pur 20) with | true => some (vs.any fun a => eqQ a x) | false => inVo S x (.ref n)) | .none => .none) = (match isList (S.get n) with | some vs => (match dOk S 60 x && vs.all (dOk S 60) with | true => anyEq (eqF S 60) x vs | false => .none) | .none => .none)
    cases q : isList (S.get n) with
    | none => rfl
    | some vs =>
      show (match pur 20 x && vs.all (pur 20) with | true => some (vs.any fun a => eqQ a x) | false => inVo S x (.ref n)) = (match dOk S 60 x && vs.all (dOk S 60) with | true => anyEq (eqF S 60) x vs | false => .none)
      cases e : pur 20 x && vs.all (pur 20) with
      | true => exact (go vs e).symm
      | false =>
        show (match isList (S.get n) with | some vs => (match dOk S 60 x && vs.all (dOk S 60) with | true => anyEq (eqF S 60) x vs | false => .none) | .none => .none) = _
        rw [q]
  | _ => rfl
end G
set_option linter.all false
/-! calls behind which the store holds what was there and what the answer reaches, and nothing else -/
namespace G
/-- the place of i in rs, from N on -/
def idxN : List Nat → Nat → Nat → Option Nat
  | [], _, _ => .none
  | a :: r, i, N => match Nat.beq a i with
    | true => some N
    | false => idxN r i (N + 1)
/-- the new number of i: what was there keeps its own -/
def renN (N : Nat) (rs : List Nat) (i : Nat) : Option Nat := match Nat.blt i N with
  | true => some i
  | false => idxN rs i N
def renVs (f : Val → Option Val) : List Val → Option (List Val)
  | [] => some []
  | v :: r => match f v with
    | some w => match renVs f r with
      | some ws => some (w :: ws)
      | .none => .none
    | .none => .none
def renV (N : Nat) (rs : List Nat) : Nat → Val → Option Val
  | 0, _ => .none
  | k + 1, v => match pur 20 v with
    | true => some v
    | false => match v with
      | .ref i => match renN N rs i with
        | some j => some (.ref j)
        | .none => .none
      | .tup vs => match renVs (renV N rs k) vs with
        | some ws => some (.tup ws)
        | .none => .none
      | .scr ns => some (.scr ns)
      | _ => .none
def renFs (f : Val → Option Val) : List (Nat × Val) → Option (List (Nat × Val))
  | [] => some []
  | (n, v) :: r => match f v with
    | some w => match renFs f r with
      | some ws => some ((n, w) :: ws)
      | .none => .none
    | .none => .none
def renO (N : Nat) (rs : List Nat) : Obj → Option Obj
  | .lst xs => match renVs (renV N rs 20) xs with
    | some ys => some (.lst ys)
    | .none => .none
  | .dct kvs => match kvs.all fun p => pur 20 p.1 && pur 20 p.2 with
    | true => some (.dct kvs)
    | false => .none
  | .set xs => some (.set xs)
  | .ins c fs => match renFs (renV N rs 20) fs with
    | some hs => some (.ins c hs)
    | .none => .none
  | .fz _ => .none
/-- the numbers that a value names -/
def refsV : Nat → Val → List Nat
  | 0, _ => []
  | k + 1, v => match v with
    | .ref i => [i]
    | .tup vs => match pur 20 (.tup vs) with
      | true => []
      | false => vs.flatMap (refsV k)
    | _ => []
def refsO : Obj → List Nat
  | .lst xs => xs.flatMap (refsV 20)
  | .ins _ fs => fs.flatMap fun p => refsV 20 p.2
  | _ => []
/-- what is reached beyond N, the last one ahead -/
def reachN (S : Store) (N : Nat) : Nat → List Nat → List Nat → List Nat
  | 0, _, f => f
  | _ + 1, [], f => f
  | k + 1, i :: r, f => match Nat.blt i N || f.any (Nat.beq i) with
    | true => reachN S N k r f
    | false => match S.get i with
      | some o => reachN S N k (refsO o ++ r) (i :: f)
      | .none => reachN S N k r f
def upN : Nat → List Nat
  | 0 => []
  | n + 1 => upN n ++ [n]
def buildT (S : Store) (N : Nat) (rs : List Nat) : List Nat → Store → Option Store
  | [], T => some T
  | i :: r, T => match S.get i with
    | some o => match renO N rs o with
      | some p => buildT S N rs r (T.new p)
      | .none => .none
    | .none => .none
def nodupN : List Nat → Bool
  | [] => true
  | a :: r => match r.any (Nat.beq a) with
    | true => false
    | false => nodupN r
def gcRs (rs : List Nat) (N : Nat) (v : Val) (S : Store) : Option (Val × Store) := match nodupN rs && (rs.all (Nat.ble N) && Nat.blt (N + rs.length) big) with
  | true => match buildT S N rs (upN N ++ rs) nilS with
    | some T => match renV N rs 20 v with
      | some w => some (w, T)
      | .none => .none
    | .none => .none
  | false => .none
def gcR (N : Nat) (v : Val) (S : Store) : Option (Val × Store) := gcRs (reachN S N 10000 (refsV 20 v ++ (upN N).flatMap fun i => match S.get i with | some o => refsO o | .none => []) []).reverse N v S
/-- an answer, the store swept -/
def swept (N : Nat) (r : R Val) : R Val := match r with
  | .ok v S => match gcR N v S with
    | some p => .ok p.1 p.2
    | .none => .ok v S
  | r => r
/-- l.index(v), v there -/
def mIndexL : Bm := fun _ x vs S => match x with
  | .ref n => match isList (S.get n) with
    | some xs => match vs with
      | [v] => match dOk S 60 v && xs.all (dOk S 60) with
        | true => match indexV (eqF S 60) v xs 0 with
          | some k => .ok (.int k) S
          | .none => .stuck 151
        | false => .stuck 151
      | _ => .stuck 151
    | .none => .stuck 152
  | _ => .stuck 152
/-- all that an iterator gives -/
def drainIt : Nat → It → Store → Acc → Option Acc
  | 0, _, _, _ => .none
  | k + 1, it, S, a => match nextR S it with
    | .none => .none
    | some .none => some a
    | some (some (v, it)) => match Nat.blt a.1 maxLen with
      | true => drainIt k it S (a.1 + 1, v :: a.2)
      | false => .none
def eListIt (c : EI) : E := fun o ρ S => (c o ρ S).bind fun it S => match drainIt fuel it S (0, []) with
  | some a => alloc (.lst a.2.reverse) S
  | .none => .stuck 75
/-- values behind the others; two lists of codes, one behind the other; values chosen from a list -/
def elD (es : EL) (ds : List Val) : EL := fun o ρ S => (es o ρ S).bind fun vs S => .ok (vs ++ ds) S
end G
set_option Elab.async false
set_option linter.all false
set_option maxRecDepth 100000
namespace G
open PySem PySem.Spec PyProof.Rows L2
/-! ### what stands for what -/
/-- the fixed things: the program, the world, the written part; the fields' names (so many), the classes' places, the exceptions' -/
structure Gx where
  P : Program
  w : World
  K : PySem.W.Frag
  nm : Nat → Str
  nf : Nat
  cl : Nat → Addr
  xc : Nat → Addr
  ex : Option (Addr × List (Nat × Val)) := .none
  ea : Option Addr := .none
/-- a field of a class's instances -/
structure FldOk (g : Gx) (c f : Nat) : Prop where
  lt : f < g.nf
  no : NoAttr g.K (g.cl c) (g.nm f)
def sOk (s : List Nat) : Prop := s.length ≤ sizeLine ∧ ∀ c ∈ s, c < 128
/-- a list that is read alone: frozen, or of the written part -/
def RoL (K : PySem.W.Frag) (H : Hp) (a : Addr) (xs : List V) : Prop := (∃ o, H a = some (.frz o (.lst xs))) ∨
  ∃ (o : PySem.Obj) (its : Array Value) (n : Nat), K.lookup a = some o ∧ o.cls = .type "list" ∧ o.dict = .none ∧ o.data = .seq its n ∧ its.size ≤ sizeLine ∧ Vals xs its.toList
theorem RoL.sq {K : PySem.W.Frag} {H : Hp} {a : Addr} {xs : List V} (h : RoL K H a xs) : SqL K H a xs := by
  rcases h with ⟨o, h⟩ | h
  · exact .inl (.inr ⟨o, h⟩)
  · exact .inr h
/-- the written part, and where the store's objects stand -/
structure Mp where
  K : PySem.W.Frag
  l : List Addr
  ea : Addr
def Mp.add (m : Mp) (a : Addr) : Mp := ⟨m.K, m.l ++ [a], m.ea⟩
mutual
/-- m: where the store's objects stand -/
inductive RV (m : Mp) (H : Hp) : Val → V → Prop
  | none : RV m H .none .non
  | bool (b : Bool) : RV m H (.bool b) (.bl b)
  | int (i : Int) : RV m H (.int i) (.int i)
  | str {s : List Nat} (h : sOk s) : RV m H (.str s) (.str ⟨s.toArray⟩)
  | tup {a : Addr} {xs : List V} {vs : List Val} (h : H a = some (.tup xs)) (r : RVs m H vs xs) : RV m H (.tup vs) (.ref a)
  | ref {n : Nat} {a : Addr} (h : m.l[n]? = some a) : RV m H (.ref n) (.ref a)
  | scr {ns : List Int} {a : Addr} (h : RoL m.K H a (ns.map V.int)) : RV m H (.scr ns) (.ref a)
inductive RVs (m : Mp) (H : Hp) : List Val → List V → Prop
  | nil : RVs m H [] []
  | cons {v : Val} {x : V} {vs : List Val} {xs : List V} (h : RV m H v x) (r : RVs m H vs xs) : RVs m H (v :: vs) (x :: xs)
end
abbrev RF (g : Gx) (m : Mp) (H : Hp) : List (Nat × Val) → List (Str × V) → Prop := Paired fun p q => q.1 = g.nm p.1 ∧ RV m H p.2 q.2
mutual
/-- a key that is a tuple -/
def kOf : Val → Option NestedKey
  | .none => some .none
  | .int i => some (.num i)
  | .str s => some (.text ⟨s.toArray⟩)
  | .tup vs => (kOfs vs).map .tup
  | .bool _ => .none
  | .ref _ => .none
  | .scr _ => .none
  | .err => .none
def kOfs : List Val → Option (List NestedKey)
  | [] => some []
  | v :: vs => match kOf v, kOfs vs with
    | some k, some ks => some (k :: ks)
    | _, _ => .none
end
/-- a key that is an int or a text -/
def kAt : Val → Option Key
  | .int i => some (.inl i)
  | .str s => some (.inr ⟨s.toArray⟩)
  | _ => .none
/-- a dict by its entries -/
def dO (a : Addr) (es : Array DictEntry) : HO := .ext fun h => (a == sysModules) = false ∧ ∃ o ep, h.get? a = some o ∧ o.ExactDict ∧ o.data = .dict es ep
/-- an entry: its value -/
def RU (m : Mp) (H : Hp) (v : Val) (u : Value) : Prop := ∃ x, RV m H v x ∧ RelV x u
inductive DR (g : Gx) (m : Mp) (H : Hp) (kvs : List (Val × Val)) (es : Array DictEntry) : Prop
  | tup (xs : List (NestedKey × Addr × Value)) (he : es.toList = xs.map (entryOfKey (nestedKind g.P g.w))) (hn : (xs.map (·.1)).Nodup)
      (hr : Paired (fun (kv : Val × Val) (x : NestedKey × Addr × Value) => kOf kv.1 = some x.1 ∧ isT kv.1 = true ∧ x.1.depth ≤ 8 ∧ RV m H kv.1 (.ref x.2.1) ∧ RU m H kv.2 x.2.2) kvs xs)
  | flat (xs : List (Key × Value)) (hk : KeysOf (mixKind g.P g.w) es) (he : Pairs (mixKind g.P g.w) es.toList xs) (hn : (xs.map (·.1)).Nodup)
      (hr : Paired (fun (kv : Val × Val) (x : Key × Value) => kAt kv.1 = some x.1 ∧ RV m H kv.1 (kV x.1) ∧ RU m H kv.2 x.2) kvs xs)
def RO (g : Gx) (m : Mp) (H : Hp) (a : Addr) : Obj → Prop
  | .lst xs => ∃ ys, H a = some (.lst ys) ∧ RVs m H xs ys
  | .dct kvs => kvs.length ≤ sizeLine ∧ ∃ es, H a = some (dO a es) ∧ DR g m H kvs es
  | .set xs => xs.Nodup ∧ H a = some (.set (fun i => decide (i ∈ xs)) xs.length)
  | .fz kvs => kvs.length ≤ sizeLine ∧ ∃ ob es, H a = some (.frz ob (dO a es)) ∧ DR g m H kvs es
  | .ins c fs => (Cls g.K (g.cl c) ∧ ∀ p ∈ fs, FldOk g c p.1) ∧ ∃ dx hs, H a = some (.ins (g.cl c) dx hs) ∧ RF g m H fs hs
/-- what is never written -/
def imm : HO → Bool
  | .tup _ => true
  | .frz _ _ => true
  | .own _ => true
  | _ => false
structure RS (g : Gx) (m : Mp) (S : Store) (H : Hp) : Prop where
  K : m.K = g.K
  len : m.l.length = S.nx
  lim : True
  inj : ∀ (i j : Nat) (a : Addr), m.l[i]? = some a → m.l[j]? = some a → i = j
  obj : ∀ (n : Nat) (o : Obj), S.get n = some o → ∃ a, m.l[n]? = some a ∧ RO g m H a o
  all : ∀ n, n < S.nx → ∃ o, S.get n = some o
  xf : ∀ a fs, g.ex = some (a, fs) → a ∉ m.l ∧ ∃ hs, H a = some (.xd hs) ∧ RF g m H fs hs
  he : ∀ a, g.ea = some a → m.ea = a
structure Ex0 (m : Mp) (H : Hp) (m' : Mp) (H' : Hp) : Prop where
  K : m'.K = m.K
  pre : m.l <+: m'.l
  keep : ∀ b o, H b = some o → imm o = true → H' b = some o
structure Ex (m : Mp) (H : Hp) (m' : Mp) (H' : Hp) : Prop where
  K : m'.K = m.K
  ea : m'.ea = m.ea
  pre : m.l <+: m'.l
  keep : ∀ b o, H b = some o → imm o = true ∨ b ∉ m.l → H' b = some o
  new : ∀ a ∈ m'.l, a ∉ m.l → H a = .none
theorem Ex.toEx0 {m m' : Mp} {H H' : Hp} (x : Ex m H m' H') : Ex0 m H m' H' := ⟨x.K, x.pre, fun b o h i => x.keep b o h (.inl i)⟩
section
variable {g : Gx} {m m' m'' : Mp} {H H' H'' : Hp} {a : Addr}
theorem Ex.rfl' : Ex m H m H := ⟨rfl, rfl, List.prefix_rfl, fun _ _ h _ => h, fun a h1 h2 => absurd h1 h2⟩
theorem Ex.trans (x : Ex m H m' H') (y : Ex m' H' m'' H'') : Ex m H m'' H'' := by
  refine ⟨y.K.trans x.K, y.ea.trans x.ea, x.pre.trans y.pre, fun b o h c => ?_, fun a h1 h2 => ?_⟩
  · refine y.keep b o (x.keep b o h c) ?_
    rcases c with c | c
    · exact .inl c
    · refine .inr fun q => ?_
      have := x.new b q c
      rw [h] at this; cases this
  · by_cases q : a ∈ m'.l
    · exact x.new a q h2
    · have := y.new a h1 q
      cases e : H a with
      | none => rfl
      | some o => rw [x.keep a o e (.inr h2)] at this; cases this
theorem Ex0.get (x : Ex0 m H m' H') {n : Nat} (h : m.l[n]? = some a) : m'.l[n]? = some a := by
  obtain ⟨t, e⟩ := x.pre
  rw [← e]
  exact List.getElem?_append_left (List.getElem?_eq_some_iff.mp h).1 ▸ h
theorem RoL.mono0 (x : Ex0 m H m' H') {xs : List V} (h : RoL m.K H a xs) : RoL m'.K H' a xs := by
  rcases h with ⟨o, h⟩ | h
  · exact .inl ⟨o, x.keep _ _ h rfl⟩
  · rw [x.K]; exact .inr h
theorem Ex0.tup (x : Ex0 m H m' H') {xs : List V} (h : H a = some (.tup xs)) : H' a = some (.tup xs) := x.keep a _ h rfl
mutual
theorem RV.mono0 (x : Ex0 m H m' H') : ∀ {v : Val} {y : V}, RV m H v y → RV m' H' v y
  | _, _, .none => .none
  | _, _, .bool b => .bool b
  | _, _, .int i => .int i
  | _, _, .str h => .str h
  | _, _, .tup h r => .tup (x.tup h) (RVs.mono0 x r)
  | _, _, .ref h => .ref (x.get h)
  | _, _, .scr h => .scr (RoL.mono0 x h)
theorem RVs.mono0 (x : Ex0 m H m' H') : ∀ {v : List Val} {y : List V}, RVs m H v y → RVs m' H' v y
  | _, _, .nil => .nil
  | _, _, .cons h r => .cons (RV.mono0 x h) (RVs.mono0 x r)
end
theorem Ex.get (x : Ex m H m' H') {n : Nat} (h : m.l[n]? = some a) : m'.l[n]? = some a := x.toEx0.get h
theorem Ex.tup (x : Ex m H m' H') {xs : List V} (h : H a = some (.tup xs)) : H' a = some (.tup xs) := x.toEx0.tup h
theorem RV.mono (x : Ex m H m' H') {v : Val} {y : V} (r : RV m H v y) : RV m' H' v y := r.mono0 x.toEx0
theorem RVs.mono (x : Ex m H m' H') {v : List Val} {y : List V} (r : RVs m H v y) : RVs m' H' v y := r.mono0 x.toEx0
theorem RVs.length : ∀ {v : List Val} {y : List V}, RVs m H v y → v.length = y.length
  | _, _, .nil => rfl
  | _, _, .cons _ r => congrArg (· + 1) (RVs.length r)
theorem RVs.get : ∀ {vs : List Val} {ys : List V} {i : Nat} {v : Val}, RVs m H vs ys → vs[i]? = some v → ∃ y, ys[i]? = some y ∧ RV m H v y
  | _, _, _, _, .nil, e => by simp at e
  | _, _, 0, _, .cons h _, e => by simp at e; subst e; exact ⟨_, rfl, h⟩
  | _, _, i + 1, v, .cons _ r, e => by
    obtain ⟨y, h1, h2⟩ := RVs.get (i := i) (v := v) r (by simpa using e)
    exact ⟨y, by simpa using h1, h2⟩
theorem RVs.app : ∀ {v w : List Val} {y z : List V}, RVs m H v y → RVs m H w z → RVs m H (v ++ w) (y ++ z)
  | _, _, _, _, .nil, s => s
  | _, _, _, _, .cons h r, s => .cons h (RVs.app r s)
theorem RVs.take : ∀ {v : List Val} {y : List V} (n : Nat), RVs m H v y → RVs m H (v.take n) (y.take n)
  | _, _, 0, _ => by simp; exact .nil
  | _, _, _ + 1, .nil => .nil
  | _, _, n + 1, .cons h r => .cons h (RVs.take n r)
theorem RVs.drop : ∀ {v : List Val} {y : List V} (n : Nat), RVs m H v y → RVs m H (v.drop n) (y.drop n)
  | _, _, 0, r => r
  | _, _, _ + 1, .nil => .nil
  | _, _, n + 1, .cons h r => RVs.drop n r
theorem RVs.set {v : Val} {x : V} (q : RV m H v x) : ∀ {vs : List Val} {ys : List V} (i : Nat), RVs m H vs ys → RVs m H (vs.set i v) (ys.set i x)
  | _, _, _, .nil => .nil
  | _, _, 0, .cons _ t => .cons q t
  | _, _, i + 1, .cons h t => .cons h (RVs.set q i t)
theorem RVs.erase : ∀ {v : List Val} {y : List V} (n : Nat), RVs m H v y → RVs m H (v.eraseIdx n) (y.eraseIdx n)
  | _, _, _, .nil => .nil
  | _, _, 0, .cons _ r => r
  | _, _, n + 1, .cons h r => .cons h (RVs.erase n r)
theorem RVs.ints : ∀ {ns : List Int} {ys : List V}, RVs m H (ns.map Val.int) ys → ys = ns.map V.int
  | [], _, .nil => rfl
  | n :: ns, _, .cons h r => by cases h; rw [RVs.ints r]; rfl
theorem RVs.ofInts : ∀ (ns : List Int), RVs m H (ns.map Val.int) (ns.map V.int)
  | [] => .nil
  | n :: ns => .cons (.int n) (RVs.ofInts ns)
theorem RF.mono0 (x : Ex0 m H m' H') {fs : List (Nat × Val)} {hs : List (Str × V)} (r : RF g m H fs hs) : RF g m' H' fs hs := Paired.mapP r fun _ _ q => ⟨q.1, q.2.mono0 x⟩
theorem RU.mono0 (x : Ex0 m H m' H') {v : Val} {u : Value} (r : RU m H v u) : RU m' H' v u := let ⟨y, a, b⟩ := r; ⟨y, a.mono0 x, b⟩
theorem DR.mono0 (x : Ex0 m H m' H') {kvs : List (Val × Val)} {es : Array DictEntry} (r : DR g m H kvs es) : DR g m' H' kvs es := by
  cases r with
  | tup xs he hn hr => exact .tup xs he hn (Paired.mapP hr fun _ _ q => ⟨q.1, q.2.1, q.2.2.1, q.2.2.2.1.mono0 x, q.2.2.2.2.mono0 x⟩)
  | flat xs hk he hn hr => exact .flat xs hk he hn (Paired.mapP hr fun _ _ q => ⟨q.1, q.2.1.mono0 x, q.2.2.mono0 x⟩)
/-- an object that was not touched -/
theorem RO.mono0 (x : Ex0 m H m' H') (e : ∀ o, H a = some o → H' a = some o) {o : Obj} (r : RO g m H a o) : RO g m' H' a o := by
  cases o with
  | lst xs => obtain ⟨ys, h, q⟩ := r; exact ⟨ys, e _ h, q.mono0 x⟩
  | dct kvs => obtain ⟨z, es, h, q⟩ := r; exact ⟨z, es, e _ h, q.mono0 x⟩
  | set xs => exact ⟨r.1, e _ r.2⟩
  | fz kvs => obtain ⟨z, ob, es, h, q⟩ := r; exact ⟨z, ob, es, e _ h, q.mono0 x⟩
  | ins c fs => obtain ⟨f, dx, hs, h, q⟩ := r; exact ⟨f, dx, hs, e _ h, RF.mono0 x q⟩
theorem RF.mono (x : Ex m H m' H') {fs : List (Nat × Val)} {hs : List (Str × V)} (r : RF g m H fs hs) : RF g m' H' fs hs := RF.mono0 x.toEx0 r
theorem RO.mono (x : Ex m H m' H') (e : ∀ o, H a = some o → H' a = some o) {o : Obj} (r : RO g m H a o) : RO g m' H' a o := RO.mono0 x.toEx0 e r
theorem RS.lt {S : Store} (r : RS g m S H) {n : Nat} {o : Obj} (h : S.get n = some o) : n < S.nx := by
  obtain ⟨a, e, _⟩ := r.obj n o h
  rw [← r.len]; exact (List.getElem?_eq_some_iff.mp e).1
theorem RS.lim' {S : Store} (r : RS g m S H) {n : Nat} {o : Obj} (h : S.get n = some o) : Roomy n := trivial
theorem RS.fresh {S : Store} (r : RS g m S H) : S.get S.nx = .none := by
  cases e : S.get S.nx with
  | none => rfl
  | some o => exact absurd (r.lt e) (Nat.lt_irrefl _)
/-- the heap has grown elsewhere (tuples, things of others) -/
theorem RS.grow {S : Store} (r : RS g m S H) (x : Ex m H m H') (e : ∀ (n : Nat) (a : Addr) (o : HO), m.l[n]? = some a → H a = some o → H' a = some o) : RS g m S H' := by
  refine ⟨r.K, r.len, r.lim, r.inj, fun n o h => ?_, r.all, fun a fs h => let ⟨h1, hs, h2, h3⟩ := r.xf a fs h; ⟨h1, hs, x.keep _ _ h2 (.inr h1), RF.mono x h3⟩, r.he⟩
  obtain ⟨a, q, ro⟩ := r.obj n o h
  exact ⟨a, q, RO.mono x (fun o h => e n a o q h) ro⟩
/-- a new tuple, or a thing of others, at a free place -/
theorem Ex.upd {o : HO} (h : H a = .none) : Ex m H m (L2.upd H a o) :=
  ⟨rfl, rfl, List.prefix_rfl, fun b u q _ => by rw [upd_ne (ne_of_none q h)]; exact q, fun b h1 h2 => absurd h1 h2⟩
theorem RS.upd {S : Store} {o : HO} (r : RS g m S H) (h : H a = .none) : RS g m S (L2.upd H a o) :=
  r.grow (Ex.upd h) fun n b u _ q => by rw [upd_ne (ne_of_none q h)]; exact q
/-- what an object of the store shows of the heap: it is there -/
theorem RO.mut {o : Obj} (r : RO g m H a o) (nf : isFz o = false) : ∃ u, H a = some u ∧ imm u = false := by
  cases o with
  | lst xs => obtain ⟨ys, h, q⟩ := r; exact ⟨_, h, rfl⟩
  | dct kvs => obtain ⟨z, es, h, q⟩ := r; exact ⟨_, h, rfl⟩
  | set xs => exact ⟨_, r.2, rfl⟩
  | fz kvs => cases nf
  | ins c fs => obtain ⟨f, dx, hs, h, q⟩ := r; exact ⟨_, h, rfl⟩
theorem RO.there {o : Obj} (r : RO g m H a o) : ∃ u, H a = some u := by
  cases o with
  | lst xs => obtain ⟨ys, h, q⟩ := r; exact ⟨_, h⟩
  | dct kvs => obtain ⟨z, es, h, q⟩ := r; exact ⟨_, h⟩
  | set xs => exact ⟨_, r.2⟩
  | fz kvs => obtain ⟨z, ob, es, h, q⟩ := r; exact ⟨_, h⟩
  | ins c fs => obtain ⟨f, dx, hs, h, q⟩ := r; exact ⟨_, h⟩
theorem RS.there {S : Store} (r : RS g m S H) (h : a ∈ m.l) : ∃ u, H a = some u := by
  obtain ⟨i, hi⟩ := List.getElem?_of_mem h
  obtain ⟨o, ho⟩ := r.all i (by rw [← r.len]; exact (List.getElem?_eq_some_iff.mp hi).1)
  obtain ⟨b, hb, ro⟩ := r.obj i o ho
  rw [hi] at hb; cases hb
  exact ro.there
theorem RS.notIn {S : Store} (r : RS g m S H) (h : H a = .none) : a ∉ m.l := fun q => by
  obtain ⟨u, e⟩ := r.there q
  rw [h] at e; cases e
theorem Ex.add {u : HO} (h : H a = .none) : Ex m H (m.add a) (L2.upd H a u) :=
  ⟨rfl, rfl, List.prefix_append _ _, fun b v q _ => by rw [upd_ne (ne_of_none q h)]; exact q, fun b h1 h2 => by
    rcases List.mem_append.mp h1 with q | q
    · exact absurd q h2
    · rw [List.mem_singleton.mp q]; exact h⟩
theorem RO.noxd {o : Obj} (r : RO g m H a o) {hs : List (Str × V)} : H a ≠ some (.xd hs) := fun e => by
  cases o with
  | lst xs => obtain ⟨ys, h, q⟩ := r; rw [h] at e; cases e
  | dct kvs => obtain ⟨z, es, h, q⟩ := r; rw [h] at e; cases e
  | set xs => rw [r.2] at e; cases e
  | fz kvs => obtain ⟨z, ob, es, h, q⟩ := r; rw [h] at e; cases e
  | ins c fs => obtain ⟨f, dx, hs, h, q⟩ := r; rw [h] at e; cases e
/-- an object that stands comes to the store -/
theorem RS.newAt {S : Store} {o : Obj} (r : RS g m S H) (na : a ∉ m.l) (hl : Roomy S.nx) (ho : RO g (m.add a) H a o) : RS g (m.add a) (S.new o) H := by
  have x : Ex0 m H (m.add a) H := ⟨rfl, List.prefix_append _ _, fun _ _ q _ => q⟩
  have gn : ∀ n, (S.new o).get n = if n = S.nx then some o else S.get n := fun n => Store.get_new S n o hl
  have nn : m.l.length = S.nx := r.len
  have old : ∀ {i : Nat} {b : Addr}, i ≠ S.nx → (m.add a).l[i]? = some b → m.l[i]? = some b := fun {i b} ne hi => by
    have h1 := (List.getElem?_eq_some_iff.mp hi).1
    have h2 : (m.add a).l.length = S.nx + 1 := by simp [Mp.add, nn]
    have h3 : (m.add a).l = m.l ++ [a] := rfl
    rw [h3, List.getElem?_append_left (by omega)] at hi
    exact hi
  have atn : (m.add a).l[S.nx]? = some a := by
    have h3 : (m.add a).l = m.l ++ [a] := rfl
    rw [h3, ← nn]; simp
  refine ⟨r.K, by simp [nn, Store.new, Mp.add], hl, fun i j b hi hj => ?_, fun n p hp => ?_, fun n hn => ?_, fun b fs hb => ?_, r.he⟩
  · by_cases ei : i = S.nx
    · by_cases ej : j = S.nx
      · exact ei.trans ej.symm
      · rw [ei, atn] at hi; cases hi
        exact absurd (List.mem_of_getElem? (old ej hj)) na
    · by_cases ej : j = S.nx
      · rw [ej, atn] at hj; cases hj
        exact absurd (List.mem_of_getElem? (old ei hi)) na
      · exact r.inj i j b (old ei hi) (old ej hj)
  · rw [gn] at hp
    by_cases e : n = S.nx
    · rw [if_pos e] at hp
      cases hp
      exact ⟨a, by rw [e]; exact atn, ho⟩
    · rw [if_neg e] at hp
      obtain ⟨b, hb, ro⟩ := r.obj n p hp
      exact ⟨b, x.get hb, RO.mono0 x (fun v hv => hv) ro⟩
  · rw [gn]
    by_cases e : n = S.nx
    · exact ⟨o, if_pos e⟩
    · rw [if_neg e]
      have : n < S.nx + 1 := hn
      exact r.all n (by omega)
  · obtain ⟨h1, hs, h2, h3⟩ := r.xf b fs hb
    refine ⟨fun q => ?_, hs, h2, RF.mono0 x h3⟩
    rcases List.mem_append.mp q with q | q
    · exact h1 q
    · rw [List.mem_singleton.mp q] at h2
      exact RO.noxd ho h2
/-- a new object of the store -/
theorem RS.new {S : Store} {o : Obj} {u : HO} (r : RS g m S H) (h : H a = .none) (hl : Roomy S.nx)
    (ho : RO g (m.add a) (L2.upd H a u) a o) : RS g (m.add a) (S.new o) (L2.upd H a u) := (r.upd h).newAt (r.notIn h) hl ho
theorem RS.exPut {S : Store} {n : Nat} {p : Obj} {u : HO} (r : RS g m S H) (hp : S.get n = some p) (hm : m.l[n]? = some a) (nf : isFz p = false := by rfl) : Ex m H m (L2.upd H a u) := by
  have am := List.mem_of_getElem? hm
  obtain ⟨v, hv, iv⟩ : ∃ v, H a = some v ∧ imm v = false := by
    obtain ⟨b, hb, ro⟩ := r.obj n p hp
    rw [hm] at hb; cases hb
    exact ro.mut nf
  refine ⟨rfl, rfl, List.prefix_rfl, fun b w q c => ?_, fun b h1 h2 => absurd h1 h2⟩
  have : b ≠ a := by
    rintro rfl
    rw [hv] at q; cases q
    rcases c with c | c
    · rw [iv] at c; cases c
    · exact c am
  rw [upd_ne this]; exact q
/-- an object of the store is written -/
theorem RS.put {S : Store} {n : Nat} {o p : Obj} {u : HO} (r : RS g m S H) (hp : S.get n = some p) (hm : m.l[n]? = some a)
    (ho : RO g m (L2.upd H a u) a o) (nf : isFz p = false := by rfl) : RS g m (S.put n o) (L2.upd H a u) := by
  have x : Ex m H m (L2.upd H a u) := r.exPut hp hm nf
  have gn : ∀ k, (S.put n o).get k = if k = n then some o else S.get k := fun k => Store.get_put S n k o (r.lim' hp)
  refine ⟨r.K, r.len, r.lim, r.inj, fun k q hq => ?_, fun k hk => ?_, (fun b fs h => let ⟨h1, hs, h2, h3⟩ := r.xf b fs h; ⟨h1, hs, x.keep _ _ h2 (.inr h1), RF.mono x h3⟩), r.he⟩
  · rw [gn] at hq
    by_cases e : k = n
    · rw [if_pos e] at hq
      cases hq
      exact ⟨a, by rw [e]; exact hm, ho⟩
    · rw [if_neg e] at hq
      obtain ⟨b, hb, ro⟩ := r.obj k q hq
      refine ⟨b, hb, RO.mono x (fun w hw => ?_) ro⟩
      have : b ≠ a := by
        rintro rfl
        exact e (r.inj k n b hb hm)
      rw [upd_ne this]; exact hw
  · rw [gn]
    by_cases e : k = n
    · exact ⟨o, if_pos e⟩
    · rw [if_neg e]; exact r.all k hk
end
/-! ### what is wanted of an answer -/
/-- an exception's own dict -/
def XR (g : Gx) (m' : Mp) (H H' : Hp) (fs : List (Nat × Val)) (d : Option Addr) : Prop :=
  (fs = [] ∧ d = .none) ∨ ∃ a hs, d = some a ∧ a ∉ m'.l ∧ H a = .none ∧ H' a = some (.xd hs) ∧ RF g m' H' fs hs ∧ ∀ p ∈ fs, p.1 < g.nf
/-- r, found from the state m, H, is what Q wants; what is raised is what W wants -/
def PostG {α β : Type} (g : Gx) (rel : Mp → Hp → α → β → Prop) (m : Mp) (H : Hp) (Q : β → Hp → Prop) (W : XK) : R α → Prop
  | .ok v S => ∀ m' H' x, Ex m H m' H' → RS g m' S H' → rel m' H' v x → Q x H'
  | .exc c fs S => ∀ m' H' d, Ex m H m' H' → RS g m' S H' → XR g m' H H' fs d → W (.ref (g.xc c)) d H'
  | .stuck _ => False
theorem XR.base {g : Gx} {m m1 m' : Mp} {H H1 H' : Hp} {fs : List (Nat × Val)} {d : Option Addr} (x : Ex m H m1 H1) (y : Ex m1 H1 m' H') (h : XR g m' H1 H' fs d) : XR g m' H H' fs d := by
  rcases h with h | ⟨a, hs, h1, h2, h3, h4, h5⟩
  · exact .inl h
  · refine .inr ⟨a, hs, h1, h2, ?_, h4, h5⟩
    cases e : H a with
    | none => rfl
    | some o =>
      have := x.keep a o e (.inr fun q => h2 (y.pre.subset (x.pre.subset q)))
      rw [h3] at this; cases this
section
variable {α β γ δ : Type} {g : Gx} {rel : Mp → Hp → α → β → Prop} {rel' : Mp → Hp → γ → δ → Prop} {m m1 : Mp} {H H1 : Hp} {Q : β → Hp → Prop} {W : XK}
theorem PostG.base {r : R α} (x : Ex m H m1 H1) (p : PostG g rel m H Q W r) : PostG g rel m1 H1 Q W r := by
  cases r with
  | ok v S => exact fun m' H' y e rs q => p m' H' y (x.trans e) rs q
  | exc c fs S => exact fun m' H' d e rs q => p m' H' d (x.trans e) rs (q.base x e)
  | stuck w => exact p
/-- the first part of a code, the rest behind it -/
theorem PostG.bind {r : R γ} {k : γ → Store → R α} (p : PostG g rel m H Q W (r.bind k)) :
    PostG g rel' m H (fun y H1 => ∃ m1 v S1, Ex m H m1 H1 ∧ RS g m1 S1 H1 ∧ rel' m1 H1 v y ∧ PostG g rel m1 H1 Q W (k v S1)) W r := by
  cases r with
  | ok v S => exact fun m' H' y e rs q => ⟨m', v, S, e, rs, q, p.base e⟩
  | exc c fs S => exact p
  | stuck w => exact p
end
end G
set_option Elab.async false
set_option linter.all false
set_option maxRecDepth 100000
namespace G
open PySem PySem.Spec L2
open PyProof.Rows hiding St
/-! ### the judgements: a piece of syntax and its code -/
structure RE (m : Mp) (H : Hp) (ρ : G.Env) (σ : St) : Prop where
  len : ρ.length = σ.length
  at_ : ∀ (i : Nat) (v : Val), ρ[i]? = some (some v) → ∃ x, σ[i]? = some (some x) ∧ (RV m H v x ∨ (v = .err ∧ x = .ref m.ea))
theorem RE.mono0 {m m' : Mp} {H H' : Hp} {ρ : G.Env} {σ : St} (x : Ex0 m H m' H') (e : m'.ea = m.ea) (r : RE m H ρ σ) : RE m' H' ρ σ :=
  ⟨r.len, fun i v h => let ⟨y, a, b⟩ := r.at_ i v h; ⟨y, a, b.imp (·.mono0 x) fun q => ⟨q.1, by rw [e]; exact q.2⟩⟩⟩
theorem RE.mono {m m' : Mp} {H H' : Hp} {ρ : G.Env} {σ : St} (x : Ex m H m' H') (r : RE m H ρ σ) : RE m' H' ρ σ := r.mono0 x.toEx0 x.ea
theorem RE.get {m : Mp} {H : Hp} {ρ : G.Env} {σ : St} (r : RE m H ρ σ) {i : Nat} {v : Val} (h : ρ[i]? = some (some v)) (ne : v ≠ .err) : ∃ x, σ[i]? = some (some x) ∧ RV m H v x :=
  let ⟨y, a, b⟩ := r.at_ i v h; ⟨y, a, b.resolve_right fun q => ne q.1⟩
theorem RE.setG {m : Mp} {H : Hp} {ρ : G.Env} {σ : St} {v : Val} {x : V} (r : RE m H ρ σ) (i : Nat) (q : RV m H v x ∨ (v = .err ∧ x = .ref m.ea)) : RE m H (ρ.set i (some v)) (σ.set i (some x)) := by
  refine ⟨by simpa using r.len, fun j w h => ?_⟩
  by_cases e : j = i
  · subst e
    have hj : j < ρ.length := by
      have := (List.getElem?_eq_some_iff.mp h).1
      simpa using this
    rw [List.getElem?_set_self hj] at h
    cases h
    exact ⟨x, List.getElem?_set_self (r.len ▸ hj), q⟩
  · rw [List.getElem?_set_ne (Ne.symm e)] at h ⊢
    exact r.at_ j w h
theorem RE.set {m : Mp} {H : Hp} {ρ : G.Env} {σ : St} {v : Val} {x : V} (r : RE m H ρ σ) (i : Nat) (q : RV m H v x) : RE m H (ρ.set i (some v)) (σ.set i (some x)) := r.setG i (.inl q)
theorem RE.unset {m : Mp} {H : Hp} {ρ : G.Env} {σ : St} (r : RE m H ρ σ) (i : Nat) (o : Option V) : RE m H (ρ.set i .none) (σ.set i o) := by
  refine ⟨by simpa using r.len, fun j w h => ?_⟩
  by_cases e : j = i
  · subst e
    have hj : j < ρ.length := by
      have := (List.getElem?_eq_some_iff.mp h).1
      simpa using this
    rw [List.getElem?_set_self hj] at h
    cases h
  · rw [List.getElem?_set_ne (Ne.symm e)] at h ⊢
    exact r.at_ j w h
theorem RE.wipe {m : Mp} {H : Hp} {ρ : G.Env} {σ : St} (r : RE m H ρ σ) : ∀ vs : List Nat, RE m H (G.wipe ρ vs) (L2.wipe σ vs)
  | [] => r
  | v :: vs => (r.wipe vs).unset v .none
/-- the wish of exceptions at the slots σ -/
abbrev atS (W : WX) (σ : St) : XK := fun cls d H => W cls d σ H
def tM (g : Gx) (o : Orc) (W : WX) (c : G.E) : TE := fun σ H Q => ∃ m ρ S, RE m H ρ σ ∧ RS g m S H ∧ PostG g RV m H Q (atS W σ) (c o ρ S)
def tL (g : Gx) (o : Orc) (W : WX) (c : G.EL) : TA := fun σ H Q => ∃ m ρ S, RE m H ρ σ ∧ RS g m S H ∧ PostG g RVs m H Q (atS W σ) (c o ρ S)
/-- a test -/
def tst (v : Val) (S : Store) : R Bool := match truthy S v with
  | some b => .ok b S
  | .none => .stuck 900
abbrev REq {α : Type} (_ : Mp) (_ : Hp) (a b : α) : Prop := a = b
def tT (g : Gx) (o : Orc) (W : WX) (c : G.E) : TT := fun σ H Q => ∃ m ρ S, RE m H ρ σ ∧ RS g m S H ∧ PostG g REq m H Q (atS W σ) ((c o ρ S).bind tst)
abbrev Wno : WX := fun _ _ _ _ => False
abbrev Eno : XK := fun _ _ _ => False
/-- a target: nothing is raised there -/
def tE (g : Gx) (o : Orc) (t : G.T) : TG := fun x σ H Q => ∃ m ρ S v, RE m H ρ σ ∧ RS g m S H ∧ RV m H v x ∧ PostG g RE m H Q Eno (t v o ρ S)
def tEs (g : Gx) (o : Orc) (t : G.TL) : TGs := fun xs σ H Q => ∃ m ρ S vs, RE m H ρ σ ∧ RS g m S H ∧ RVs m H vs xs ∧ PostG g RE m H Q Eno (t vs o ρ S)
/-- a statement's answer -/
def PostS (g : Gx) (m : Mp) (H : Hp) (D : Ends) (W : WX) : SR → Prop
  | .nx ρ S => ∀ m' H' σ', Ex m H m' H' → RS g m' S H' → RE m' H' ρ σ' → D.nx σ' H'
  | .bk ρ S => ∀ m' H' σ', Ex m H m' H' → RS g m' S H' → RE m' H' ρ σ' → D.bk σ' H'
  | .rt v S => ∀ m' H' x, Ex m H m' H' → RS g m' S H' → RV m' H' v x → D.rt x H'
  | .exc c fs ρ S => ∀ m' H' σ' d, Ex m H m' H' → RS g m' S H' → RE m' H' ρ σ' → XR g m' H H' fs d → W (.ref (g.xc c)) d σ' H'
  | .stuck _ => False
theorem PostS.base {g : Gx} {m m1 : Mp} {H H1 : Hp} {D : Ends} {W : WX} {r : SR} (x : Ex m H m1 H1) (p : PostS g m H D W r) : PostS g m1 H1 D W r := by
  cases r with
  | nx ρ S => exact fun m' H' y e rs q => p m' H' y (x.trans e) rs q
  | bk ρ S => exact fun m' H' y e rs q => p m' H' y (x.trans e) rs q
  | rt v S => exact fun m' H' y e rs q => p m' H' y (x.trans e) rs q
  | exc c fs ρ S => exact fun m' H' σ' d e rs q z => p m' H' σ' d (x.trans e) rs q (z.base x e)
  | stuck w => exact p
def tS (g : Gx) (o : Orc) (W : WX) (c : G.C) : TS := fun D σ H => ∃ m ρ S, RE m H ρ σ ∧ RS g m S H ∧ PostS g m H D W (c o ρ S)
/-- an expression's part of a statement -/
theorem PostS.to {α β : Type} {g : Gx} {rel : Mp → Hp → α → β → Prop} {m : Mp} {H : Hp} {D : Ends} {W : WX} {r : R α} {ρ : G.Env} {σ : St} {k : α → Store → SR} (re : RE m H ρ σ) (p : PostS g m H D W (r.to ρ k)) :
    PostG g rel m H (fun y H1 => ∃ m1 v S1, Ex m H m1 H1 ∧ RS g m1 S1 H1 ∧ rel m1 H1 v y ∧ PostS g m1 H1 D W (k v S1)) (atS W σ) r := by
  cases r with
  | ok v S => exact fun m' H' y e rs q => ⟨m', v, S, e, rs, q, p.base e⟩
  | exc c fs S => exact fun m' H' d e rs q => p m' H' σ d e rs (re.mono e) q
  | stuck w => exact p
section
variable {X : Cx} {g : Gx} {o : Orc} {W : WX} {α β : Type} {rel : Mp → Hp → α → β → Prop} {pins : List (Addr × PySem.Obj)} {s : Shared} {σ : St} {ρ : G.Env} {m : Mp} {H : Hp} {S : Store}
/-- the first part of an expression, then what follows -/
theorem thnE {e : PySem.Expr} {c : G.E} {k : Val → Store → R α} {Q : β → Hp → Prop} {P : Value → Shared → Prop} (h : PE X e (tM g o W c)) (I : Inv X pins σ H s) (re : RE m H ρ σ) (rs : RS g m S H)
    (p : PostG g rel m H Q (atS W σ) ((c o ρ S).bind k))
    (hk : ∀ u s1 v S1 m1 H1 x, Inv X pins σ H1 s1 → RelV x u → RV m1 H1 v x → RS g m1 S1 H1 → RE m1 H1 ρ σ → Ex m H m1 H1 → PostG g rel m1 H1 Q (atS W σ) (k v S1) → P u s1) :
    wpAny (model X.prog X.w) X.A (eval e X.env) P X.xe s :=
  thn (h.run pins s σ H _ I ⟨m, ρ, S, re, rs, p.bind⟩) fun u s1 ⟨x, H1, I1, r1, m1, v, S1, e1, rs1, rv, p1⟩ => hk u s1 v S1 m1 H1 x I1 r1 rv rs1 (re.mono e1) e1 p1
theorem thnL {es : List PySem.Expr} {c : G.EL} {k : List Val → Store → R α} {Q : β → Hp → Prop} {P : List Value → Shared → Prop} {pos : Pos} (h : PA X es (tL g o W c)) (I : Inv X pins σ H s) (re : RE m H ρ σ) (rs : RS g m S H)
    (p : PostG g rel m H Q (atS W σ) ((c o ρ S).bind k))
    (hk : ∀ us s1 vs S1 m1 H1 xs, Inv X pins σ H1 s1 → Vals xs us → RVs m1 H1 vs xs → RS g m1 S1 H1 → RE m1 H1 ρ σ → Ex m H m1 H1 → PostG g rel m1 H1 Q (atS W σ) (k vs S1) → P us s1) :
    wpAny (model X.prog X.w) X.A (spliced (backTo pos (starEach es X.env))) P X.xe s :=
  thn (h.run pos pins s σ H _ I ⟨m, ρ, S, re, rs, p.bind⟩) fun u s1 ⟨x, H1, I1, r1, m1, v, S1, e1, rs1, rv, p1⟩ => hk u s1 v S1 m1 H1 x I1 r1 rv rs1 (re.mono e1) e1 p1
theorem thnT {e : PySem.Expr} {c : G.E} {k : Bool → Store → R α} {Q : β → Hp → Prop} {P : Bool → Shared → Prop} (h : PT X e (tT g o W c)) (I : Inv X pins σ H s) (re : RE m H ρ σ) (rs : RS g m S H)
    (p : PostG g rel m H Q (atS W σ) (((c o ρ S).bind tst).bind k))
    (hk : ∀ b s1 S1 m1 H1, Inv X pins σ H1 s1 → RS g m1 S1 H1 → RE m1 H1 ρ σ → Ex m H m1 H1 → PostG g rel m1 H1 Q (atS W σ) (k b S1) → P b s1) :
    wpAny (model X.prog X.w) X.A (isTrue e X.env (eval e X.env)) P X.xe s :=
  thn (h.run pins s σ H _ I ⟨m, ρ, S, re, rs, p.bind⟩) fun u s1 ⟨H1, I1, m1, v, S1, e1, rs1, rv, p1⟩ => by
    cases rv
    exact hk _ s1 S1 m1 H1 I1 rs1 (re.mono e1) e1 p1
theorem bindA {α β γ : Type} (r : R α) (k : α → Store → R β) (l : β → Store → R γ) : (r.bind k).bind l = r.bind fun v S => (k v S).bind l := by
  cases r <;> rfl
/-! ### weaker readings -/
theorem PostG.no {r : R α} {Q : β → Hp → Prop} {E : XK} (p : PostG g rel m H Q E (noExc r)) : PostG g rel m H Q Eno r := by
  cases r with
  | ok v S => exact p
  | exc c fs S => exact p.elim
  | stuck w => exact p
theorem PE.imp {e : PySem.Expr} {t t' : TE} (h : PE X e t) (hi : ∀ σ H Q, t' σ H Q → t σ H Q) : PE X e t' := ⟨fun pins s σ H Q I q => h.run pins s σ H Q I (hi σ H Q q)⟩
theorem PT.imp {e : PySem.Expr} {t t' : TT} (h : PT X e t) (hi : ∀ σ H Q, t' σ H Q → t σ H Q) : PT X e t' := ⟨fun pins s σ H Q I q => h.run pins s σ H Q I (hi σ H Q q)⟩
theorem PA.imp {e : List PySem.Expr} {t t' : TA} (h : PA X e t) (hi : ∀ σ H Q, t' σ H Q → t σ H Q) : PA X e t' := ⟨fun pos pins s σ H Q I q => h.run pos pins s σ H Q I (hi σ H Q q)⟩
theorem PS.imp {e : Stmt} {t t' : TS} (h : PS X e t) (hi : ∀ D σ H, t' D σ H → t D σ H) : PS X e t' := ⟨fun pins s σ H D I q => h.run pins s σ H D I (hi D σ H q)⟩
theorem PSs.imp {e : List Stmt} {t t' : TS} (h : PSs X e t) (hi : ∀ D σ H, t' D σ H → t D σ H) : PSs X e t' := ⟨fun pins s σ H D I q => h.run pins s σ H D I (hi D σ H q)⟩
theorem PI.imp {tg e : PySem.Expr} {t t' : TI} (h : PI X tg e t) (hi : ∀ σ H Q, t' σ H Q → t σ H Q) : PI X tg e t' := ⟨fun pins s σ H Q I q => h.run pins s σ H Q I (hi σ H Q q)⟩
theorem PG.imp {e : PySem.Expr} {t t' : TG} (h : PG X e t) (hi : ∀ x σ H Q, t' x σ H Q → t x σ H Q) : PG X e t' := ⟨fun pins s σ H v u Q I r q => h.run pins s σ H v u Q I r (hi _ σ H Q q)⟩
theorem PGs.imp {e : List PySem.Expr} {t t' : TGs} (h : PGs X e t) (hi : ∀ x σ H Q, t' x σ H Q → t x σ H Q) : PGs X e t' := ⟨fun pins s σ H v u Q I r q => h.run pins s σ H v u Q I r (hi _ σ H Q q)⟩
/-! ### names, constants, lists of arguments, displays -/
theorem m_var {i : Nat} {x : Str} {pos : Pos} (hN : X.N[i]? = some x) (hv : Vis X.env.scope x) (hd : (x == ("__debug__" : Str)) = false) (hcd : (x == ("__classdict__" : Str)) = false) : PE X (.Name x pos) (tM g o W (eVar i)) :=
  PE.imp (pe_var hN hv hd hcd) fun σ H Q ⟨m, ρ, S, re, rs, p⟩ => by
    rw [eVar_eq] at p
    split at p
    · rename_i v hv
      split at p
      · exact p.elim
      · rename_i w hw
        obtain ⟨x, h1, h2⟩ := re.get hv hw
        exact ⟨x, h1, p m H x Ex.rfl' rs h2⟩
    · exact p.elim
theorem m_int {i j pos} : PE X (.Constant (.int i) j pos) (tM g o W (eC (.int i))) := PE.imp pe_int fun σ H Q ⟨m, ρ, S, re, rs, p⟩ => p m H _ Ex.rfl' rs (.int i)
theorem m_bl {i j pos} : PE X (.Constant (.bool i) j pos) (tM g o W (eC (.bool i))) := PE.imp pe_bl fun σ H Q ⟨m, ρ, S, re, rs, p⟩ => p m H _ Ex.rfl' rs (.bool i)
theorem m_non {j pos} : PE X (.Constant .none j pos) (tM g o W (eC .none)) := PE.imp pe_non fun σ H Q ⟨m, ρ, S, re, rs, p⟩ => p m H _ Ex.rfl' rs .none
theorem m_str {x : Str} {l : List Nat} {j pos} (e : x.cps.toList = l) (h : sOk l) : PE X (.Constant (.str x) j pos) (tM g o W (eC (.str l))) :=
  PE.imp pe_str fun σ H Q ⟨m, ρ, S, re, rs, p⟩ => p m H _ Ex.rfl' rs (by
    have : x = ⟨l.toArray⟩ := by rw [← e]
    rw [this]; exact .str h)
theorem l_nil : PA X [] (tL g o W elNil) := PA.imp pa_nil fun σ H Q ⟨m, ρ, S, re, rs, p⟩ => p m H _ Ex.rfl' rs .nil
theorem PostG.mono {r : R α} {Q Q' : β → Hp → Prop} {E : XK} (p : PostG g rel m H Q E r) (h : ∀ x H', Q x H' → Q' x H') : PostG g rel m H Q' E r := by
  cases r with
  | ok v S => exact fun m' H' x e rs q => h x H' (p m' H' x e rs q)
  | exc c fs S => exact p
  | stuck w => exact p
theorem l_cons {e : PySem.Expr} {es : List PySem.Expr} {a : G.E} {r : G.EL} (ha : PE X e (tM g o W a)) (hr : PA X es (tL g o W r)) (hs : starEach (e :: es) X.env = (false, eval e X.env) :: starEach es X.env) : PA X (e :: es) (tL g o W (elCons a r)) :=
  PA.imp (pa_cons ha hr hs) fun σ H Q ⟨m, ρ, S, re, rs, p⟩ => ⟨m, ρ, S, re, rs, PostG.mono (PostG.bind (k := fun v S => (r o ρ S).bind fun vs S => .ok (v :: vs) S) p) fun x H1 ⟨m1, v, S1, e1, rs1, rv, p1⟩ =>
    ⟨m1, ρ, S1, re.mono e1, rs1, PostG.mono (PostG.bind p1) fun xs H2 ⟨m2, vs, S2, e2, rs2, rvs, p2⟩ => p2 m2 H2 _ Ex.rfl' rs2 (.cons (rv.mono e2) rvs)⟩⟩
theorem few_ok {vs : List Val} {xs : List V} (h : few vs = true) (r : RVs m H vs xs) : xs.length ≤ sizeLine := by
  have h1 : vs.length ≤ 4096 := Nat.le_of_ble_eq_true h
  rw [← r.length]
  exact Nat.le_trans h1 (by decide)
theorem m_tup {es : List PySem.Expr} {x1 pos} {c : G.EL} (h : PA X es (tL g o W c)) : PE X (.Tuple es x1 pos) (tM g o W (eTup c)) :=
  PE.imp (pe_tup h) fun σ H Q ⟨m, ρ, S, re, rs, p⟩ => ⟨m, ρ, S, re, rs, PostG.mono (PostG.bind (k := fun vs S => match few vs with | true => .ok (Val.tup vs) S | false => .stuck 2) p) fun xs H1 ⟨m1, vs, S1, e1, rs1, rvs, p1⟩ => by
    cases e : few vs with
    | false => rw [e] at p1; exact p1.elim
    | true =>
      rw [e] at p1
      exact ⟨few_ok e rvs, fun q hq => p1 m1 _ _ (Ex.upd hq) (rs1.upd hq) (RV.tup upd_same (rvs.mono (Ex.upd hq)))⟩⟩
/-- a new object of the store, laid at any free place -/
theorem PostG.alloc {ob : G.Obj} {u : HO} {Q : VK} {E : XK} {q : Addr} (rs : RS g m S H) (p : PostG g RV m H Q E (alloc ob S)) (hq : H q = .none)
    (ho : Ex m H (m.add q) (upd H q u) → RO g (m.add q) (upd H q u) q ob) : Q (.ref q) (upd H q u) := by
  unfold G.alloc at p
  cases e : roomB S.nx with
  | false => rw [e] at p; exact p.elim
  | true =>
    rw [e] at p
    have hl : Roomy S.nx := trivial
    refine p _ _ _ (Ex.add hq) (rs.new hq hl (ho (Ex.add hq))) (RV.ref ?_)
    have h3 : (m.add q).l = m.l ++ [q] := rfl
    rw [h3, ← rs.len]; simp
theorem m_lst {es : List PySem.Expr} {pos} {c : G.EL} (h : PA X es (tL g o W c)) : PE X (.List es pos) (tM g o W (eLst c)) :=
  PE.imp (pe_lst h) fun σ H Q ⟨m, ρ, S, re, rs, p⟩ => ⟨m, ρ, S, re, rs, PostG.mono (PostG.bind (k := fun vs S => match few vs with | true => alloc (.lst vs) S | false => .stuck 2) p) fun xs H1 ⟨m1, vs, S1, e1, rs1, rvs, p1⟩ => by
    cases e : few vs with
    | false => rw [e] at p1; exact p1.elim
    | true =>
      rw [e] at p1
      exact ⟨few_ok e rvs, fun q hq => p1.alloc rs1 hq fun x => ⟨xs, upd_same, rvs.mono x⟩⟩⟩
/-! ### operators -/
def OpS (X : Cx) (g : Gx) (o : Orc) (W : WX) (f : G.Op2) (sem : Value → Value → Sem Value) : Prop :=
  ∀ {pins : List (Addr × PySem.Obj)} {s : Shared} {σ : St} {H : Hp} {m : Mp} {S : Store} {v w : Val} {x y : V} {a b : Value} {Q : VK}, Inv X pins σ H s → RV m H v x → RV m H w y → RelV x a → RelV y b → RS g m S H →
    PostG g RV m H Q (atS W σ) (f o v w S) → wpAny (model X.prog X.w) X.A (sem a b) (EP X pins σ Q) X.xe s
/-- from a rule of the layer -/
theorem OpS.of {f : G.Op2} {sem : Value → Value → Sem Value} {r : R2} (h : OpR X sem r)
    (hr : ∀ {σ : St} {H : Hp} {m : Mp} {S : Store} {v w : Val} {x y : V} {Q : VK}, RV m H v x → RV m H w y → RS g m S H → PostG g RV m H Q (atS W σ) (f o v w S) → r x y H Q) : OpS X g o W f sem :=
  fun {pins s σ H m S v w x y a b Q} I rv rw ra rb rs p => h pins s σ H x y a b Q I ra rb (hr rv rw rs p)
variable {a b c : PySem.Expr} {ca cb cc : G.E} {pos : Pos} {f f' : G.Op2}
theorem m_bin {op : Operator} (h : OpS X g o W f (binaryOp op)) (ha : PE X a (tM g o W ca)) (hb : PE X b (tM g o W cb)) : PE X (.BinOp a op b pos) (tM g o W (eOp f ca cb)) :=
  ⟨fun pins s σ H Q I ⟨m, ρ, S, re, rs, p⟩ => wpAny_BinOp (thnE ha I re rs p fun u s1 v S1 m1 H1 x I1 r1 rv1 rs1 re1 e1 p1 => thnE hb I1 re1 rs1 p1 fun u2 s2 w S2 m2 H2 y I2 r2 rv2 rs2 re2 e2 p2 => h I2 (rv1.mono e2) rv2 r1 r2 rs2 p2)⟩
theorem m_cmp {op : CmpOp} (h : OpS X g o W f (compareOp op)) (ha : PE X a (tM g o W ca)) (hb : PE X b (tM g o W cb)) (hm : behindInMarks op b = false) : PE X (.Compare a [op] [b] pos) (tM g o W (eOp f ca cb)) :=
  ⟨fun pins s σ H Q I ⟨m, ρ, S, re, rs, p⟩ => wpAny_Compare1 (thnE ha I re rs p fun u s1 v S1 m1 H1 x I1 r1 rv1 rs1 re1 e1 p1 => thnE hb I1 re1 rs1 p1 fun u2 s2 w S2 m2 H2 y I2 r2 rv2 rs2 re2 e2 p2 => h I2 (rv1.mono e2) rv2 r1 r2 rs2 p2) hm⟩
theorem intEq_eq : ∀ (i j : Int), intEq i j = decide (i = j)
  | .ofNat m, .ofNat n => by
    show Nat.beq m n = _
    rw [Bool.eq_iff_iff]; simp only [Nat.beq_eq, decide_eq_true_eq, Int.ofNat_eq_natCast]; omega
  | .negSucc m, .negSucc n => by
    show Nat.beq m n = _
    rw [Bool.eq_iff_iff]; simp [Int.negSucc_inj]
  | .ofNat m, .negSucc n => by rw [Bool.eq_iff_iff]; simp [intEq]
  | .negSucc m, .ofNat n => by rw [Bool.eq_iff_iff]; simp [intEq]
theorem intLt_eq : ∀ (i j : Int), intLt i j = decide (i < j)
  | .ofNat m, .ofNat n => by
    show Nat.blt m n = _
    rw [Bool.eq_iff_iff]; simp [Nat.blt_eq]
  | .negSucc m, .negSucc n => by
    show Nat.blt n m = _
    rw [Bool.eq_iff_iff]; simp only [Nat.blt_eq, decide_eq_true_eq]; omega
  | .ofNat m, .negSucc n => by rw [Bool.eq_iff_iff]; simp only [intLt, decide_eq_true_eq]; constructor
                               · intro h; cases h
                               · intro h; simp only [Int.ofNat_eq_natCast] at h; omega
  | .negSucc m, .ofNat n => by rw [Bool.eq_iff_iff]; simp only [intLt, decide_eq_true_eq, true_iff]; simp only [Int.ofNat_eq_natCast]; omega
theorem isList_of {S : Store} {n : Nat} {xs : List Val} (h : isList (S.get n) = some xs) : S.get n = some (.lst xs) := by
  cases e : S.get n with
  | none => rw [e] at h; cases h
  | some ob =>
    rw [e] at h
    cases ob <;> cases h
    rfl
/-- a list of the store, read -/
theorem RS.list (rs : RS g m S H) {n : Nat} {xs : List Val} {x : V} (h : S.get n = some (.lst xs)) (r : RV m H (.ref n) x) : ∃ q ys, x = .ref q ∧ m.l[n]? = some q ∧ H q = some (.lst ys) ∧ RVs m H xs ys := by
  cases r with
  | ref hm =>
    obtain ⟨q, hq, ys, h1, h2⟩ := rs.obj n _ h
    rw [hm] at hq; cases hq
    exact ⟨_, ys, rfl, hm, h1, h2⟩
theorem RVs.nonE {vs : List Val} {xs : List V} (r : RVs m H vs xs) : G.nonE vs = !xs.isEmpty := by cases r <;> rfl
theorem truS {v : Val} {x : V} {u : Value} {Q : Bool → Hp → Prop} (hK : g.K = X.K) (I : Inv X pins σ H s) (rv : RV m H v x) (ru : RelV x u) (rs : RS g m S H) (p : PostG g REq m H Q (atS W σ) (tst v S)) :
    wpAny (model X.prog X.w) X.A (PySem.truthy u) (TP X pins σ Q) X.xe s := by
  refine tru_ok pins s σ H x u Q I ru ?_
  unfold tst at p
  have ok : ∀ b, truthy S v = some b → Q b H := fun b e => by
    rw [e] at p
    exact p m H b Ex.rfl' rs rfl
  cases e : truthy S v with
  | none => rw [e] at p; exact p.elim
  | some b =>
    refine ⟨b, ?_, ok b e⟩
    cases rv with
    | none => cases e; rfl
    | bool b => cases e; rfl
    | int i =>
      cases e
      show (!intEq i 0) = (i != 0)
      rw [intEq_eq, bne, Bool.beq_eq_decide_eq]
    | @str l h =>
      cases e
      refine ⟨by simpa [Str.length] using h.1, ?_⟩
      cases l <;> simp [Str.length, nonE]
      omega
    | tup h r =>
      cases e
      exact .inr (.inl ⟨_, SqT.of h, r.nonE⟩)
    | @ref n a hm =>
      have e' : (match isList (S.get n) with | some l => some (nonE l) | .none => .none) = some b := e
      cases q : isList (S.get n) with
      | none => rw [q] at e'; cases e'
      | some l =>
        rw [q] at e'; cases e'
        obtain ⟨qq, ys, h1, _, h2, h3⟩ := rs.list (isList_of q) (RV.ref hm)
        cases h1
        exact .inl ⟨ys, SqL.of h2, h3.nonE⟩
    | @scr ns a hm =>
      cases e
      refine .inl ⟨ns.map V.int, ?_, by cases ns <;> rfl⟩
      rw [← hK, ← rs.K]; exact hm.sq
theorem m_cmpT {op : CmpOp} (hK : g.K = X.K) (h : OpS X g o W f (compareOp op)) (ha : PE X a (tM g o W ca)) (hb : PE X b (tM g o W cb)) (hm : behindInMarks op b = false) : PT X (.Compare a [op] [b] pos) (tT g o W (eOp f ca cb)) := by
  refine ⟨fun pins s σ H Q I ⟨m, ρ, S, re, rs, p⟩ => wpAny_isTrue_Compare1 ?_ hm⟩
  unfold eOp at p
  rw [bindA] at p
  refine thnE ha I re rs p fun u s1 v S1 m1 H1 x I1 r1 rv1 rs1 re1 e1 p1 => ?_
  rw [bindA] at p1
  refine thnE hb I1 re1 rs1 p1 fun u2 s2 w S2 m2 H2 y I2 r2 rv2 rs2 re2 e2 p2 => ?_
  exact thn (h I2 (rv1.mono e2) rv2 r1 r2 rs2 p2.bind) fun c s3 ⟨z, H3, I3, r3, m3, t, S3, e3, rs3, rv3, p3⟩ => truS hK I3 rv3 r3 rs3 p3
/-- any expression whose test is its value's truth -/
theorem m_truth (hK : g.K = X.K) (ha : PE X a (tM g o W ca)) (he : ∀ whole, isTrue a X.env whole = (do let v ← whole; standAt a.pos; holding [v] (PySem.truthy v))) : PT X a (tT g o W ca) :=
  ⟨fun pins s σ H Q I ⟨m, ρ, S, re, rs, p⟩ => isTrue_plain (thnE ha I re rs p fun u s1 v S1 m1 H1 x I1 r1 rv1 rs1 re1 e1 p1 => truS hK I1 rv1 r1 rs1 p1) (he _)⟩
theorem m_notT (ha : PT X a (tT g o W ca)) : PT X (.UnaryOp .Not a pos) (tT g o W (eNot ca)) := by
  refine ⟨fun pins s σ H Q I ⟨m, ρ, S, re, rs, p⟩ => isTrue_not ?_⟩
  have p2 : PostG g REq m H Q (atS W σ) (((ca o ρ S).bind tst).bind fun b S => .ok (!b) S) := by
    unfold eNot at p
    rw [bindA] at p ⊢
    revert p
    cases ca o ρ S with
    | ok v S1 =>
      show PostG g REq m H Q (atS W σ) (R.bind (match truthy S1 v with | some b => .ok (.bool (!b)) S1 | .none => .stuck 2) tst) → PostG g REq m H Q (atS W σ) (R.bind (tst v S1) _)
      unfold tst
      cases truthy S1 v <;> exact id
    | exc c fs S1 => exact id
    | stuck w => exact id
  exact thnT ha I re rs p2 fun b s1 S1 m1 H1 I1 rs1 re1 e1 p1 => ⟨H1, I1, p1 m1 H1 _ Ex.rfl' rs1 rfl⟩
theorem m_and {rest : List PySem.Expr} (ha : PE X a (tM g o W ca)) (hb : PE X (.BoolOp .And (b :: rest) pos) (tM g o W cb)) : PE X (.BoolOp .And (a :: b :: rest) pos) (tM g o W (eAnd ca cb)) := by
  refine ⟨fun pins s σ H Q I ⟨m, ρ, S, re, rs, p⟩ => BoolOp_and ?_⟩
  refine thnE ha I re rs p fun u s1 v S1 m1 H1 x I1 r1 rv1 rs1 re1 e1 p1 => ?_
  cases rv1 with
  | bool t =>
    cases r1
    refine wpAny_truthy_bool ?_
    cases t with
    | true => exact hb.run pins s1 σ H1 Q I1 ⟨m1, ρ, S1, re1, rs1, p1⟩
    | false => exact ⟨.bl false, H1, I1, rfl, p1 m1 H1 _ Ex.rfl' rs1 (RV.bool _)⟩
  | _ => exact p1.elim
/-- and, or as tests, whatever the whole is -/
theorem w_and1 (ha : PT X a (tT g o W ca)) : PW X (.BoolOp .And [a] pos) (tT g o W ca) := pw_and1 ha
theorem w_or1 (ha : PT X a (tT g o W ca)) : PW X (.BoolOp .Or [a] pos) (tT g o W ca) := pw_or1 ha
theorem w_and {rest : List PySem.Expr} (ha : PT X a (tT g o W ca)) (hb : PW X (.BoolOp .And (b :: rest) pos) (tT g o W cb)) : PW X (.BoolOp .And (a :: b :: rest) pos) (tT g o W (eAnd ca cb)) := by
  refine ⟨fun wh pins s σ H Q I ⟨m, ρ, S, re, rs, p⟩ => isTrue_and ?_⟩
  have p2 : PostG g REq m H Q (atS W σ) (((ca o ρ S).bind tst).bind fun t S => match t with | true => (cb o ρ S).bind tst | false => .ok false S) := by
    unfold eAnd at p
    rw [bindA] at p ⊢
    revert p
    cases ca o ρ S with
    | ok v S1 =>
      cases v with
      | bool t => cases t <;> exact id
      | _ => exact fun p => p.elim
    | exc c fs S1 => exact id
    | stuck w => exact id
  refine thnT ha I re rs p2 fun t s1 S1 m1 H1 I1 rs1 re1 e1 p1 => ?_
  cases t with
  | true => exact hb.run wh pins s1 σ H1 Q I1 ⟨m1, ρ, S1, re1, rs1, p1⟩
  | false => exact ⟨H1, I1, p1 m1 H1 _ Ex.rfl' rs1 rfl⟩
theorem w_or {rest : List PySem.Expr} (ha : PT X a (tT g o W ca)) (hb : PW X (.BoolOp .Or (b :: rest) pos) (tT g o W cb)) : PW X (.BoolOp .Or (a :: b :: rest) pos) (tT g o W (eOr ca cb)) := by
  refine ⟨fun wh pins s σ H Q I ⟨m, ρ, S, re, rs, p⟩ => isTrue_or ?_⟩
  have p2 : PostG g REq m H Q (atS W σ) (((ca o ρ S).bind tst).bind fun t S => match t with | false => (cb o ρ S).bind tst | true => .ok true S) := by
    unfold eOr at p
    rw [bindA] at p ⊢
    revert p
    cases ca o ρ S with
    | ok v S1 =>
      cases v with
      | bool t => cases t <;> exact id
      | _ => exact fun p => p.elim
    | exc c fs S1 => exact id
    | stuck w => exact id
  refine thnT ha I re rs p2 fun t s1 S1 m1 H1 I1 rs1 re1 e1 p1 => ?_
  cases t with
  | false => exact hb.run wh pins s1 σ H1 Q I1 ⟨m1, ρ, S1, re1, rs1, p1⟩
  | true => exact ⟨H1, I1, p1 m1 H1 _ Ex.rfl' rs1 rfl⟩
theorem m_if {cc' : PySem.Expr} {ct : G.E} (hc : PT X cc' (tT g o W ct)) (ha : PE X a (tM g o W ca)) (hb : PE X b (tM g o W cb)) : PE X (.IfExp cc' a b pos) (tM g o W (eIf ct ca cb)) := by
  refine ⟨fun pins s σ H Q I ⟨m, ρ, S, re, rs, p⟩ => wpAny_IfExp ?_⟩
  have p2 : PostG g RV m H Q (atS W σ) (((ct o ρ S).bind tst).bind fun t S => match t with | true => ca o ρ S | false => cb o ρ S) := by
    unfold eIf at p
    rw [bindA]
    revert p
    cases ct o ρ S with
    | ok v S1 =>
      show PostG g RV m H Q (atS W σ) (match truthy S1 v with | some true => ca o ρ S1 | some false => cb o ρ S1 | .none => .stuck 6) → PostG g RV m H Q (atS W σ) ((tst v S1).bind fun t S => match t with | true => ca o ρ S | false => cb o ρ S)
      unfold tst
      cases truthy S1 v with
      | none => exact fun p => p.elim
      | some t => cases t <;> exact id
    | exc c fs S1 => exact id
    | stuck w => exact id
  refine thnT hc I re rs p2 fun t s1 S1 m1 H1 I1 rs1 re1 e1 p1 => ?_
  cases t with
  | true => exact ha.run pins s1 σ H1 Q I1 ⟨m1, ρ, S1, re1, rs1, p1⟩
  | false => exact hb.run pins s1 σ H1 Q I1 ⟨m1, ρ, S1, re1, rs1, p1⟩
theorem m_chain {op op' : CmpOp} (h : OpS X g o W f (compareOp op)) (h' : OpS X g o W f' (compareOp op')) (ha : PE X a (tM g o W ca)) (hb : PE X b (tM g o W cb)) (hc : PE X c (tM g o W cc))
    (hm : lastMarks [op, op'] [b, c] = false) : PE X (.Compare a [op, op'] [b, c] pos) (tM g o W (eChain f f' ca cb cc)) := by
  refine ⟨fun pins s σ H Q I ⟨m, ρ, S, re, rs, p⟩ => Compare_chain ?_ hm⟩
  refine thnE ha I re rs p fun u s1 v S1 m1 H1 x I1 r1 rv1 rs1 re1 e1 p1 => chain_link ?_
  refine thnE hb I1 re1 rs1 p1 fun u2 s2 w S2 m2 H2 y I2 r2 rv2 rs2 re2 e2 p2 => ?_
  refine thn (h I2 (rv1.mono e2) rv2 r1 r2 rs2 p2.bind) fun d s3 ⟨z, H3, I3, r3, m3, t, S3, e3, rs3, rv3, p3⟩ => ?_
  cases rv3 with
  | bool t =>
    cases r3
    refine wpAny_truthy_bool ?_
    cases t with
    | false => exact ite_ff ⟨.bl false, H3, I3, rfl, p3 m3 H3 _ Ex.rfl' rs3 (RV.bool _)⟩
    | true =>
      refine ite_tt (chain_last ?_)
      exact thnE hc I3 (re2.mono e3) rs3 p3 fun u4 s4 w4 S4 m4 H4 y4 I4 r4 rv4 rs4 re4 e4 p4 => h' I4 (rv2.mono (e3.trans e4)) rv4 r2 r4 rs4 p4
  | _ => exact p3.elim
theorem m_chainT {op op' : CmpOp} (hK : g.K = X.K) (h : OpS X g o W f (compareOp op)) (h' : OpS X g o W f' (compareOp op')) (ha : PE X a (tM g o W ca)) (hb : PE X b (tM g o W cb)) (hc : PE X c (tM g o W cc))
    (hm : lastMarks [op, op'] [b, c] = false) : PT X (.Compare a [op, op'] [b, c] pos) (tT g o W (eChain f f' ca cb cc)) := by
  refine ⟨fun pins s σ H Q I ⟨m, ρ, S, re, rs, p⟩ => isTrue_chain ?_ hm⟩
  unfold eChain at p
  rw [bindA] at p
  refine thnE ha I re rs p fun u s1 v S1 m1 H1 x I1 r1 rv1 rs1 re1 e1 p1 => test_link ?_
  rw [bindA] at p1
  refine thnE hb I1 re1 rs1 p1 fun u2 s2 w S2 m2 H2 y I2 r2 rv2 rs2 re2 e2 p2 => ?_
  rw [bindA] at p2
  refine thn (h I2 (rv1.mono e2) rv2 r1 r2 rs2 p2.bind) fun d s3 ⟨z, H3, I3, r3, m3, t, S3, e3, rs3, rv3, p3⟩ => ?_
  cases rv3 with
  | bool t =>
    cases r3
    refine wpAny_truthy_bool ?_
    cases t with
    | false => exact ite_ff ⟨H3, I3, p3 m3 H3 _ Ex.rfl' rs3 rfl⟩
    | true =>
      refine ite_tt (test_last ?_)
      have p4 : PostG g REq m3 H3 Q (atS W σ) ((cc o ρ S3).bind fun w4 S4 => (f' o w w4 S4).bind tst) := by
        rw [← bindA]; exact p3
      exact thnE hc I3 (re2.mono e3) rs3 p4 fun u4 s4 w4 S4 m4 H4 y4 I4 r4 rv4 rs4 re4 e4 p5 =>
        thn (h' I4 (rv2.mono (e3.trans e4)) rv4 r2 r4 rs4 p5.bind) fun d5 s5 ⟨z5, H5, I5, r5, m5, t5, S5, e5, rs5, rv5, p6⟩ => truS hK I5 rv5 r5 rs5 p6
  | _ => exact p3.elim
end
end G
set_option Elab.async false
set_option linter.all false
set_option maxRecDepth 100000
namespace G
open PySem PySem.Spec L2
open PyProof.Rows hiding St
section
variable {X : Cx} {g : Gx} {o : Orc} {W : WX} {α β : Type} {rel : Mp → Hp → α → β → Prop} {pins : List (Addr × PySem.Obj)} {s : Shared} {σ : St} {ρ : G.Env} {m : Mp} {H : Hp} {S : Store}
variable {e : PySem.Expr} {ce : G.E} {pos : Pos}
/-! ### small statements, blocks -/
theorem s_expr (he : PE X e (tM g o W ce)) (hs : swapsWith e .none pos.line X.env = pure false) : PS X (.Expr e pos) (tS g o W (sExpr ce)) :=
  PS.imp (ps_expr he hs) fun D σ H ⟨m, ρ, S, re, rs, p⟩ => ⟨m, ρ, S, re, rs, PostG.mono (PostS.to re p) fun x H1 ⟨m1, v, S1, e1, rs1, rv, p1⟩ => p1 m1 H1 σ Ex.rfl' rs1 (re.mono e1)⟩
theorem s_ret (he : PE X e (tM g o W ce)) : PS X (.Return (some e) pos) (tS g o W (sRet ce)) :=
  PS.imp (ps_ret he) fun D σ H ⟨m, ρ, S, re, rs, p⟩ => ⟨m, ρ, S, re, rs, PostG.mono (PostS.to re p) fun x H1 ⟨m1, v, S1, e1, rs1, rv, p1⟩ => p1 m1 H1 x Ex.rfl' rs1 rv⟩
theorem ss_nil : PSs X [] (tS g o W cNil) := PSs.imp pss_nil fun D σ H ⟨m, ρ, S, re, rs, p⟩ => p m H σ Ex.rfl' rs re
/-- the end of a statement's answer turned to another wish -/
theorem PostS.turn {D D' : Ends} {r : SR} (k : G.Env → Store → SR) (hr : D'.rt = D.rt) (hb : D'.bk = D.bk)
    (hn : ∀ ρ S m1 H1 σ1, Ex m H m1 H1 → RS g m1 S H1 → RE m1 H1 ρ σ1 → PostS g m1 H1 D W (k ρ S) → D'.nx σ1 H1)
    (p : PostS g m H D W (r.seq k)) : PostS g m H D' W r := by
  cases r with
  | nx ρ S => exact fun m' H' σ' x rs re => hn ρ S m' H' σ' x rs re (PostS.base x p)
  | bk ρ S =>
    have p' : PostS g m H D W (.bk ρ S) := p
    exact fun m' H' σ' x rs re => hb ▸ p' m' H' σ' x rs re
  | rt v S =>
    have p' : PostS g m H D W (.rt v S) := p
    exact fun m' H' y x rs re => hr ▸ p' m' H' y x rs re
  | exc c fs ρ S => exact p
  | stuck w => exact p
theorem ss_cons {st : Stmt} {rest : List Stmt} {c d : G.C} (h1 : PS X st (tS g o W c)) (h2 : PSs X rest (tS g o W d)) : PSs X (st :: rest) (tS g o W (cSeq c d)) :=
  PSs.imp (pss_cons h1 h2) fun D σ H ⟨m, ρ, S, re, rs, p⟩ => ⟨m, ρ, S, re, rs, PostS.turn (D := D) (fun ρ S => d o ρ S) rfl rfl (fun ρ1 S1 m1 H1 σ1 x rs1 re1 p1 => ⟨m1, ρ1, S1, re1, rs1, p1⟩) p⟩
theorem toBind {γ δ : Type} (r : R γ) (k : γ → Store → R δ) (l : δ → Store → SR) : (r.bind k).to ρ l = r.to ρ fun v S => (k v S).to ρ l := by cases r <;> rfl
theorem s_if {c : PySem.Expr} {cc : G.E} {a b : List Stmt} {ca cb : G.C} (hc : PT X c (tT g o W cc)) (ha : PSs X a (tS g o W ca)) (hb : PSs X b (tS g o W cb)) : PS X (.If c a b pos) (tS g o W (sIf cc ca cb)) :=
  PS.imp (ps_if hc ha hb) fun D σ H ⟨m, ρ, S, re, rs, p⟩ => by
    have p2 : PostS g m H D W (((cc o ρ S).bind tst).to ρ fun t S => match t with | true => ca o ρ S | false => cb o ρ S) := by
      rw [toBind]
      revert p
      unfold sIf
      cases cc o ρ S with
      | ok v S1 =>
        show PostS g m H D W (match truthy S1 v with | some true => ca o ρ S1 | some false => cb o ρ S1 | .none => .stuck 201) → PostS g m H D W ((tst v S1).to ρ fun t S => match t with | true => ca o ρ S | false => cb o ρ S)
        unfold tst
        cases truthy S1 v with
        | none => exact fun p => p.elim
        | some t => cases t <;> exact id
      | exc c fs S1 => exact id
      | stuck w => exact id
    refine ⟨m, ρ, S, re, rs, PostG.mono (PostS.to re p2) fun t H1 ⟨m1, t', S1, e1, rs1, rb, p1⟩ => ?_⟩
    cases rb
    cases t with
    | true => exact ⟨m1, ρ, S1, re.mono e1, rs1, p1⟩
    | false => exact ⟨m1, ρ, S1, re.mono e1, rs1, p1⟩
/-! ### targets -/
theorem g_name {i : Nat} {x : Str} (hN : X.N.Nodup) (hi : X.N[i]? = some x) (hx : Loc X.env.scope x) (hf : X.fn x = true ∨ X.env.scope.names.lookup x = some .local) : PG X (.Name x pos) (tE g o (tName i)) :=
  PG.imp (pg_name hN hi hx hf) fun x σ H Q ⟨m, ρ, S, v, re, rs, rv, p⟩ => p m H _ Ex.rfl' rs (by rw [setE_eq]; exact re.set i rv)
theorem gs_nil : PGs X [] (tEs g o tNil) := PGs.imp pgs_nil fun xs σ H Q ⟨m, ρ, S, vs, re, rs, rv, p⟩ => by
  cases rv with
  | nil => exact ⟨rfl, p m H σ Ex.rfl' rs re⟩
  | cons _ _ => exact p.elim
theorem gs_cons {es : List PySem.Expr} {t : G.T} {r : G.TL} (h1 : PG X e (tE g o t)) (h2 : PGs X es (tEs g o r)) (hs : (assignEach (e :: es) X.env).map (·.2) = assign e X.env :: (assignEach es X.env).map (·.2)) :
    PGs X (e :: es) (tEs g o (tCons t r)) :=
  PGs.imp (pgs_cons h1 h2 hs) fun xs σ H Q ⟨m, ρ, S, vs, re, rs, rv, p⟩ => by
    cases rv with
    | nil => exact p.elim
    | @cons v x vs xs q qs =>
      exact ⟨x, xs, rfl, m, ρ, S, v, re, rs, q, PostG.mono (PostG.bind (k := fun ρ S => r vs o ρ S) p) fun σ1 H1 ⟨m1, ρ1, S1, e1, rs1, re1, p1⟩ => ⟨m1, ρ1, S1, vs, re1, rs1, qs.mono e1, p1⟩⟩
theorem g_tup {es : List PySem.Expr} {k : Nat} {t : G.TL} {n : Nat} (hc : X.calm = true) (h : PGs X es (tEs g o t)) (hn : (assignEach es X.env).length = n) (hst : (assignEach es X.env).findIdx? (·.1) = .none) :
    PG X (.Tuple es k pos) (tE g o (tTup n t)) := by
  refine ⟨fun pins s σ H x u Q I r ⟨m, ρ, S, v, re, rs, rv, p⟩ => ?_⟩
  cases rv with
  | @tup a xs vs ht rr =>
    have p' : PostG g RE m H Q Eno (match Nat.beq vs.length n with | true => t vs o ρ S | false => .stuck 82) := p
    cases e : Nat.beq vs.length n with
    | false => rw [e] at p'; exact p'.elim
    | true =>
      rw [e] at p'
      exact (pg_tup hc h hn hst).run pins s σ H _ u Q I r ⟨a, xs, rfl, SqT.of ht, by rw [← rr.length]; exact Nat.eq_of_beq_eq_true e, m, ρ, S, vs, re, rs, rr, p'⟩
  | @ref k a hm =>
    have p' : PostG g RE m H Q Eno (match S.get k with | some (.lst vs) => (match Nat.beq vs.length n with | true => t vs o ρ S | false => .stuck 82) | _ => .stuck 82) := p
    cases e1 : S.get k with
    | none => rw [e1] at p'; exact p'.elim
    | some ob =>
      cases ob with
      | lst vs =>
        rw [e1] at p'
        obtain ⟨q, ys, h1, _, h2, h3⟩ := rs.list e1 (RV.ref hm)
        cases h1
        have p2 : PostG g RE m H Q Eno (match Nat.beq vs.length n with | true => t vs o ρ S | false => .stuck 82) := p'
        cases e : Nat.beq vs.length n with
        | false => rw [e] at p2; exact p2.elim
        | true =>
          rw [e] at p2
          exact (pg_lst hc h hn hst).run pins s σ H _ u Q I r ⟨a, ys, rfl, SqL.of h2, by rw [← h3.length]; exact Nat.eq_of_beq_eq_true e, m, ρ, S, vs, re, rs, h3, p2⟩
      | _ => rw [e1] at p'; exact p'.elim
  | _ => exact p.elim
/-- the fields by their names -/
theorem RF.lookup {fs : List (Nat × Val)} {hs : List (Str × V)} (hi : ∀ i j, i < g.nf → j < g.nf → g.nm i = g.nm j → i = j) {f : Nat} (hf : f < g.nf) : RF g m H fs hs → (∀ p ∈ fs, p.1 < g.nf) →
    (∀ v, fldGet f fs = some v → ∃ x, hs.lookup (g.nm f) = some x ∧ RV m H v x) ∧ (fldGet f fs = .none → hs.lookup (g.nm f) = .none) := by
  intro r
  induction r with
  | nil => exact fun _ => ⟨(fun v h => nomatch h), fun _ => rfl⟩
  | @cons p q fs hs pq r ih =>
    intro hp
    obtain ⟨pi, pv⟩ := p
    obtain ⟨qn, qv⟩ := q
    obtain ⟨h1, h2⟩ := pq
    have h1' : qn = g.nm pi := h1
    subst h1'
    have ih := ih fun z hz => hp z (List.mem_cons_of_mem _ hz)
    have hpi : pi < g.nf := hp _ List.mem_cons_self
    cases e : Nat.beq f pi with
    | true =>
      have ef : f = pi := Nat.eq_of_beq_eq_true e
      subst ef
      refine ⟨fun v hv => ?_, fun hv => ?_⟩
      · rw [fldGet, e] at hv; cases hv
        exact ⟨qv, by simp [List.lookup], h2⟩
      · rw [fldGet, e] at hv; cases hv
    | false =>
      have ef : f ≠ pi := fun z => by rw [z, Nat.beq_refl] at e; cases e
      have en : (g.nm f == g.nm pi) = false := by
        cases z : g.nm f == g.nm pi with
        | false => rfl
        | true => exact absurd (hi f pi hf hpi (eq_of_beq z)) ef
      rw [fldGet, e, List.lookup, en]
      exact ih
theorem RF.put {fs : List (Nat × Val)} {hs : List (Str × V)} (hi : ∀ i j, i < g.nf → j < g.nf → g.nm i = g.nm j → i = j) {f : Nat} (hf : f < g.nf) {v : Val} {x : V} (rv : RV m H v x) : RF g m H fs hs → (∀ p ∈ fs, p.1 < g.nf) →
    RF g m H (fldPut f v fs) (putF (g.nm f) x hs) := by
  intro r
  induction r with
  | nil => exact fun _ => .cons ⟨rfl, rv⟩ .nil
  | @cons p q fs hs pq r ih =>
    intro hp
    obtain ⟨pi, pv⟩ := p
    obtain ⟨qn, qv⟩ := q
    obtain ⟨h1, h2⟩ := pq
    have h1' : qn = g.nm pi := h1
    subst h1'
    have ih := ih fun z hz => hp z (List.mem_cons_of_mem _ hz)
    have hpi : pi < g.nf := hp _ List.mem_cons_self
    cases e : Nat.beq f pi with
    | true =>
      have ef : f = pi := Nat.eq_of_beq_eq_true e
      subst ef
      rw [fldPut, e, putF, if_pos rfl]
      exact .cons ⟨rfl, rv⟩ r
    | false =>
      have ef : ¬ g.nm pi = g.nm f := fun z => by
        rw [hi pi f hpi hf z, Nat.beq_refl] at e; cases e
      rw [fldPut, e, putF, if_neg ef]
      exact .cons ⟨rfl, h2⟩ ih
theorem paired_len {α β : Type} {F : α → β → Prop} : ∀ {l : List α} {k : List β}, Paired F l k → l.length = k.length
  | _, _, .nil => rfl
  | _, _, .cons _ t => congrArg (· + 1) (paired_len t)
/-- target = value -/
theorem s_asg {tg : PySem.Expr} {t : G.T} (he : PE X e (tM g o W ce)) (hg : PG X tg (tE g o t)) (hs : swapsWithSole [tg] e pos.line X.env = pure false) (hw : swappedStores [tg] e X.env = pure .none) (h1 : (assignEach [tg] X.env).map (·.2) = [assign tg X.env]) :
    PS X (.Assign [tg] e pos) (tS g o W (sAsg t ce)) :=
  PS.imp (ps_asg he hg hs hw h1) fun D σ H ⟨m, ρ, S, re, rs, p⟩ => ⟨m, ρ, S, re, rs, PostG.mono (PostS.to re p) fun x H1 ⟨m1, v, S1, e1, rs1, rv, p1⟩ =>
    ⟨m1, ρ, S1, v, re.mono e1, rs1, rv, PostG.mono (PostG.no (PostS.to (rel := RE) (re.mono e1) p1)) fun σ2 H2 ⟨m2, ρ2, S2, e2, rs2, re2, p2⟩ => p2 m2 H2 σ2 Ex.rfl' rs2 re2⟩⟩
theorem s_set {i : Nat} {x : Str} {pos' : Pos} (hN : X.N.Nodup) (hi : X.N[i]? = some x) (hx : Loc X.env.scope x) (he : PE X e (tM g o W ce)) (hs : swapsWith e (some (.Name x pos')) pos.line X.env = pure false) (hf : X.fn x = true ∨ X.env.scope.names.lookup x = some .local) :
    PS X (.Assign [.Name x pos'] e pos) (tS g o W (sAsg (tName i) ce)) :=
  PS.imp (ps_set hN hi hx he hs hf) fun D σ H ⟨m, ρ, S, re, rs, p⟩ => ⟨m, ρ, S, re, rs, PostG.mono (PostS.to re p) fun x H1 ⟨m1, v, S1, e1, rs1, rv, p1⟩ =>
    p1 m1 H1 _ Ex.rfl' rs1 (by rw [setE_eq]; exact (re.mono e1).set i rv)⟩
end
end G
set_option Elab.async false
set_option linter.all false
set_option maxRecDepth 100000
namespace G
open PySem PySem.Spec L2
open PyProof.Rows hiding St
/-! ### what is walked -/
/-- J, at its i-th turn, gives what the iterable gives -/
structure Walks (g : Gx) (J : L2.It) (P : Nat → G.It → Mp → Hp → Prop) : Prop where
  mono : ∀ {i it m H m' H'}, P i it m H → Ex0 m H m' H' → P i it m' H'
  stop : ∀ {i it m H S}, P i it m H → RS g m S H → it.next S = some .none → J.stop i H
  go : ∀ {i it m H S v it'}, P i it m H → RS g m S H → it.next S = some (some (v, it')) → J.go i H ∧ ∀ x H', J.yld i H x H' → Ex m H m H' ∧ RS g m S H' ∧ RV m H' v x ∧ P (i + 1) it' m H'
def RI (g : Gx) (m : Mp) (H : Hp) (it : G.It) (J : L2.It) : Prop := ∃ P, Walks g J P ∧ P 0 it m H
def tI (g : Gx) (o : Orc) (W : WX) (c : G.EI) : TI := fun σ H Q => ∃ m ρ S, RE m H ρ σ ∧ RS g m S H ∧ PostG g (RI g) m H Q (atS W σ) (c o ρ S)
section
variable {X : Cx} {g : Gx} {o : Orc} {W : WX} {pins : List (Addr × PySem.Obj)} {s : Shared} {σ : St} {ρ : G.Env} {m : Mp} {H : Hp} {S : Store}
variable {e : PySem.Expr} {ce : G.E} {pos : Pos}
/-- values that stand: a list of them with their readings, all of which stay -/
inductive RVx (m : Mp) (H : Hp) : List Val → List V → Prop
  | mk {vs : List Val} {xs : List V} (r : RVs m H vs xs) : RVx m H vs xs
theorem walks_list {a : Addr} {n : Nat} {K : PySem.W.Frag} : Walks g (Itl K a) (fun i it m _ => it = .lst n i ∧ m.l[n]? = some a) where
  mono := fun ⟨h1, h2⟩ x => ⟨h1, x.get h2⟩
  stop := by
    rintro i it m H S ⟨rfl, h2⟩ rs e
    rw [It.next] at e
    cases q : S.get n with
    | none => rw [q] at e; cases e
    | some ob =>
      cases ob with
      | lst xs =>
        rw [q] at e
        obtain ⟨b, hb, ys, h3, h4⟩ := rs.obj n _ q
        rw [h2] at hb; cases hb
        refine ⟨ys, SqL.of h3, ?_⟩
        rw [← h4.length]
        have e' : (match xs[i]? with | some v => some (some (v, G.It.lst n (i + 1))) | .none => (match Nat.beq xs.length i with | true => some .none | false => .none)) = some .none := e
        cases z : xs[i]? with
        | none => exact List.getElem?_eq_none_iff.mp z
        | some v => rw [z] at e'; cases e'
      | _ => rw [q] at e; cases e
  go := by
    rintro i it m H S v it' ⟨rfl, h2⟩ rs e
    rw [It.next] at e
    cases q : S.get n with
    | none => rw [q] at e; cases e
    | some ob =>
      cases ob with
      | lst xs =>
        rw [q] at e
        obtain ⟨b, hb, ys, h3, h4⟩ := rs.obj n _ q
        rw [h2] at hb; cases hb
        have e' : (match xs[i]? with | some v => some (some (v, G.It.lst n (i + 1))) | .none => (match Nat.beq xs.length i with | true => some .none | false => .none)) = some (some (v, it')) := e
        cases z : xs[i]? with
        | none =>
          rw [z] at e'
          have e2 : (match Nat.beq xs.length i with | true => some .none | false => .none) = some (some (v, it')) := e'
          cases hb : Nat.beq xs.length i <;> rw [hb] at e2 <;> cases e2
        | some w =>
          rw [z] at e'; cases e'
          obtain ⟨y, hy, rv⟩ := h4.get z
          refine ⟨⟨ys, y, SqL.of h3, hy⟩, fun x H' ⟨e1, e2⟩ => ?_⟩
          subst e1
          have := e2 ys (SqL.of h3)
          rw [hy] at this; cases this
          exact ⟨Ex.rfl', rs, rv, rfl, h2⟩
      | _ => rw [q] at e; cases e
theorem drop_cons {α : Type} {l r : List α} {v : α} {i : Nat} (h : l.drop i = v :: r) : l[i]? = some v ∧ l.drop (i + 1) = r := by
  have hi : i < l.length := by
    cases Nat.lt_or_ge i l.length with
    | inl h' => exact h'
    | inr h' => rw [List.drop_eq_nil_of_le h'] at h; cases h
  rw [List.drop_eq_getElem_cons hi] at h
  cases h
  exact ⟨List.getElem?_eq_getElem hi, rfl⟩
theorem drop_nil {α : Type} {l : List α} {i : Nat} (h : l.drop i = []) : l.length ≤ i := List.drop_eq_nil_iff.mp h
/-- the values that are left are those behind the i-th -/
theorem vals_next {S : Store} {vs : List Val} {v : Val} {it' : G.It} (h : (G.It.vals vs).next S = some (some (v, it'))) : ∃ r, vs = v :: r ∧ it' = .vals r := by
  cases vs with
  | nil => rw [It.next] at h; cases h
  | cons a r => rw [It.next] at h; cases h; exact ⟨r, rfl, rfl⟩
theorem vals_end {S : Store} {vs : List Val} (h : (G.It.vals vs).next S = some .none) : vs = [] := by
  cases vs with
  | nil => rfl
  | cons a r => rw [It.next] at h; cases h
theorem walks_tup {a : Addr} {vs : List Val} {K : PySem.W.Frag} : Walks g (Itt K a) (fun i it m H => it = .vals (vs.drop i) ∧ ∃ xs, H a = some (.tup xs) ∧ RVs m H vs xs) where
  mono := fun ⟨h1, xs, h2, h3⟩ x => ⟨h1, xs, x.tup h2, h3.mono0 x⟩
  stop := by
    rintro i it m H S ⟨rfl, xs, h2, h3⟩ rs e
    have := drop_nil (vals_end e)
    exact ⟨xs, SqT.of h2, by rw [← h3.length]; exact this⟩
  go := by
    rintro i it m H S v it' ⟨rfl, xs, h2, h3⟩ rs e
    obtain ⟨r, e1, rfl⟩ := vals_next e
    obtain ⟨e2, e3⟩ := drop_cons e1
    obtain ⟨y, hy, rv⟩ := h3.get e2
    refine ⟨⟨xs, y, SqT.of h2, hy⟩, fun x H' ⟨z1, z2⟩ => ?_⟩
    subst z1
    have := z2 xs (SqT.of h2)
    rw [hy] at this; cases this
    exact ⟨Ex.rfl', rs, rv, by rw [e3], xs, h2, h3⟩
theorem upTo_get : ∀ {n : Nat} {lo : Int} {i : Nat} {v : Val}, (upTo lo n)[i]? = some v → i < n ∧ v = .int (lo + i)
  | 0, _, _, _, h => by simp [upTo] at h
  | n + 1, lo, 0, v, h => by simp [upTo] at h; exact ⟨Nat.succ_pos _, by rw [← h]; simp⟩
  | n + 1, lo, i + 1, v, h => by
    have h' : (upTo (lo + 1) n)[i]? = some v := by simpa [upTo] using h
    obtain ⟨h1, h2⟩ := upTo_get h'
    exact ⟨Nat.succ_lt_succ h1, by rw [h2]; congr 1; push_cast; omega⟩
theorem upTo_len : ∀ (n : Nat) (lo : Int), (upTo lo n).length = n
  | 0, _ => rfl
  | n + 1, lo => congrArg (· + 1) (upTo_len n (lo + 1))
theorem walks_range {lo : Int} {n : Nat} : Walks g (Itr lo n) (fun i it _ _ => it = .vals ((upTo lo n).drop i)) where
  mono := fun h _ => h
  stop := by
    rintro i it m H S rfl rs e
    have := drop_nil (vals_end e)
    rw [upTo_len] at this
    exact this
  go := by
    rintro i it m H S v it' rfl rs e
    obtain ⟨r, e1, rfl⟩ := vals_next e
    obtain ⟨e2, e3⟩ := drop_cons e1
    obtain ⟨h1, rfl⟩ := upTo_get e2
    refine ⟨h1, fun x H' ⟨z1, z2⟩ => ?_⟩
    subst z1 z2
    exact ⟨Ex.rfl', rs, RV.int _, by rw [e3]⟩
theorem sOk.one {l : List Nat} (h : sOk l) {c : Nat} (hc : c ∈ l) : sOk [c] := ⟨by show 1 ≤ sizeLine; decide, fun d hd => by rw [List.mem_singleton.mp hd]; exact h.2 c hc⟩
theorem walks_str {l : List Nat} (hl : sOk l) : Walks g (Its ⟨l.toArray⟩) (fun i it _ _ => it = .vals ((l.map fun c => Val.str [c]).drop i)) where
  mono := fun h _ => h
  stop := by
    rintro i it m H S rfl rs e
    have := drop_nil (vals_end e)
    rw [List.length_map] at this
    show (⟨l.toArray⟩ : Str).cps.size ≤ i
    simpa using this
  go := by
    rintro i it m H S v it' rfl rs e
    obtain ⟨r, e1, rfl⟩ := vals_next e
    obtain ⟨e2, e3⟩ := drop_cons e1
    rw [List.getElem?_map] at e2
    cases hc : l[i]? with
    | none => rw [hc] at e2; cases e2
    | some c =>
      rw [hc] at e2; cases e2
      have hi := (List.getElem?_eq_some_iff.mp hc).1
      refine ⟨by show i < (⟨l.toArray⟩ : Str).cps.size; simpa using hi, fun x H' ⟨z1, d, z2, z3⟩ => ?_⟩
      subst z1 z3
      have z4 : l[i]? = some d := by simpa using z2
      rw [hc] at z4; cases z4
      exact ⟨Ex.rfl', rs, RV.str (hl.one (List.mem_of_getElem? hc)), by rw [e3]⟩
/-! ### for -/
theorem s_for {tg iter : PySem.Expr} {ci : G.EI} {t : G.T} {b : List Stmt} {cb : G.C} (hp : PassesOwn (model X.prog X.w) X.A X.env X.xe) (hc : X.calm = true) (hi : PI X tg iter (tI g o W ci)) (hg : PG X tg (tE g o t)) (hb : PSs X b (tS g o W cb))
    (hs : ∀ x, foldedSetIterable iter X.env x = pure x) : PS X (.For tg iter b [] pos) (tS g o W (sFor t ci cb)) :=
  PS.imp (ps_for hp hc hi hg hb hs) fun D σ H ⟨m, ρ, S, re, rs, p⟩ => by
    refine ⟨m, ρ, S, re, rs, PostG.mono (PostS.to re p) fun J H1 ⟨m1, it, S1, e1, rs1, ⟨P, wk, p0⟩, p1⟩ => ?_⟩
    refine ⟨fun i n σ H => ∃ m ρ S it, RE m H ρ σ ∧ RS g m S H ∧ P i it m H ∧ PostS g m H D W (fLoop t cb o n it ρ S), ⟨fuel, m1, ρ, S1, it, re.mono e1, rs1, p0, p1⟩, ?_⟩
    rintro i n σ H ⟨m, ρ, S, it, re, rs, pi, p⟩
    cases n with
    | zero => exact p.elim
    | succ n =>
      rw [fLoop_succ] at p
      cases q : it.next S with
      | none => rw [q] at p; exact p.elim
      | some z =>
        rw [q] at p
        cases z with
        | none => exact .inl ⟨wk.stop pi rs q, p m H σ Ex.rfl' rs re⟩
        | some z =>
          obtain ⟨v, it'⟩ := z
          obtain ⟨jg, jy⟩ := wk.go pi rs q
          refine .inr ⟨jg, fun σ' H' => ∃ m ρ S it, RE m H' ρ σ' ∧ RS g m S H' ∧ P (i + 1) it m H' ∧ PostS g m H' D W (fLoop t cb o n it ρ S), fun σ' H' z => ⟨n, Nat.lt_succ_self n, z⟩, fun x H' y => ?_⟩
          obtain ⟨x1, rs1, rv, pn⟩ := jy x H' y
          refine ⟨m, ρ, S, v, re.mono x1, rs1, rv, PostG.mono (PostG.no (PostS.to (rel := RE) (re.mono x1) (PostS.base x1 p))) fun σ2 H2 ⟨m2, ρ2, S2, e2, rs2, re2, p2⟩ => ?_⟩
          refine ⟨m2, ρ2, S2, re2, rs2, ?_⟩
          have pn2 : P (i + 1) it' m2 H2 := wk.mono pn e2.toEx0
          revert p2
          cases cb o ρ2 S2 with
          | nx ρ3 S3 => exact fun p2 m' H3 σ' x rs' re' => ⟨m', ρ3, S3, it', re', rs', wk.mono pn2 x.toEx0, PostS.base x p2⟩
          | bk ρ3 S3 => exact fun p2 => p2
          | rt v3 S3 => exact fun p2 => p2
          | exc c fs ρ3 S3 => exact fun p2 => p2
          | stuck w => exact fun p2 => p2
/-! ### targets that store names alone -/
def relV (vs : List Nat) (σ : St) : Mp → Hp → G.Env → St → Prop := fun m H ρ' σ' => RE m H ρ' σ' ∧ L2.wipe σ' vs = L2.wipe σ vs
def tEv (g : Gx) (o : Orc) (vs : List Nat) (t : G.T) : TG := fun x σ H Q => ∃ m ρ S v, RE m H ρ σ ∧ RS g m S H ∧ RV m H v x ∧ PostG g (relV vs σ) m H Q Eno (t v o ρ S)
def tEsv (g : Gx) (o : Orc) (vs : List Nat) (t : G.TL) : TGs := fun xs σ H Q => ∃ m ρ S ws, RE m H ρ σ ∧ RS g m S H ∧ RVs m H ws xs ∧ PostG g (relV vs σ) m H Q Eno (t ws o ρ S)
theorem wipe_get (σ : St) : ∀ (vs : List Nat) (i : Nat), (L2.wipe σ vs)[i]? = if i ∈ vs then (σ[i]?).map (fun _ => .none) else σ[i]?
  | [], i => by simp [L2.wipe]
  | v :: vs, i => by
    rw [L2.wipe]
    by_cases e : v = i
    · subst e
      rw [if_pos List.mem_cons_self]
      cases h : σ[v]? with
      | none =>
        have h1 : (L2.wipe σ vs).length ≤ v := by rw [wipe_length]; exact List.getElem?_eq_none_iff.mp h
        rw [List.getElem?_eq_none_iff.mpr (by simpa using h1)]; rfl
      | some x =>
        have h1 : v < (L2.wipe σ vs).length := by rw [wipe_length]; exact (List.getElem?_eq_some_iff.mp h).1
        rw [List.getElem?_set_self h1]; rfl
    · rw [List.getElem?_set_ne e, wipe_get σ vs i]
      by_cases c : i ∈ vs
      · rw [if_pos c, if_pos (List.mem_cons_of_mem _ c)]
      · rw [if_neg c, if_neg (fun z => (List.mem_cons.mp z).elim (fun z => e z.symm) c)]
theorem wipe_set {σ : St} {vs : List Nat} {i : Nat} {x : Option V} (h : i ∈ vs) : L2.wipe (σ.set i x) vs = L2.wipe σ vs := by
  refine List.ext_getElem? fun j => ?_
  rw [wipe_get, wipe_get]
  by_cases c : j ∈ vs
  · rw [if_pos c, if_pos c]
    by_cases e : i = j
    · subst e
      rw [List.getElem?_set]
      cases q : σ[i]? with
      | none =>
        have := List.getElem?_eq_none_iff.mp q
        simp; omega
      | some y =>
        have := (List.getElem?_eq_some_iff.mp q).1
        simp [this]
    · rw [List.getElem?_set_ne e]
  · rw [if_neg c, if_neg c, List.getElem?_set_ne (by rintro rfl; exact c h)]
theorem wipe_idem (σ : St) (vs : List Nat) : L2.wipe (L2.wipe σ vs) vs = L2.wipe σ vs := by
  refine List.ext_getElem? fun j => ?_
  rw [wipe_get, wipe_get]
  by_cases c : j ∈ vs
  · rw [if_pos c, if_pos c]; cases σ[j]? <;> rfl
  · rw [if_neg c, if_neg c]
theorem v_name {vs : List Nat} {i : Nat} {x : Str} (hv : i ∈ vs) (hN : X.N.Nodup) (hi : X.N[i]? = some x) (hx : Loc X.env.scope x) (hf : X.fn x = true ∨ X.env.scope.names.lookup x = some .local) : PG X (.Name x pos) (tEv g o vs (tName i)) :=
  PG.imp (pg_name hN hi hx hf) fun x σ H Q ⟨m, ρ, S, v, re, rs, rv, p⟩ => p m H _ Ex.rfl' rs ⟨by rw [setE_eq]; exact re.set i rv, wipe_set hv⟩
theorem vs_nil {vs : List Nat} : PGs X [] (tEsv g o vs tNil) := PGs.imp pgs_nil fun xs σ H Q ⟨m, ρ, S, ws, re, rs, rv, p⟩ => by
  cases rv with
  | nil => exact ⟨rfl, p m H σ Ex.rfl' rs ⟨re, rfl⟩⟩
  | cons _ _ => exact p.elim
theorem vs_cons {vs : List Nat} {es : List PySem.Expr} {t : G.T} {r : G.TL} (h1 : PG X e (tEv g o vs t)) (h2 : PGs X es (tEsv g o vs r)) (hs : (assignEach (e :: es) X.env).map (·.2) = assign e X.env :: (assignEach es X.env).map (·.2)) :
    PGs X (e :: es) (tEsv g o vs (tCons t r)) :=
  PGs.imp (pgs_cons h1 h2 hs) fun xs σ H Q ⟨m, ρ, S, ws, re, rs, rv, p⟩ => by
    cases rv with
    | nil => exact p.elim
    | @cons v x ws xs q qs =>
      refine ⟨x, xs, rfl, m, ρ, S, v, re, rs, q, PostG.mono (PostG.bind (rel' := relV vs σ) (k := fun ρ S => r ws o ρ S) p) fun σ1 H1 ⟨m1, ρ1, S1, e1, rs1, ⟨re1, w1⟩, p1⟩ => ⟨m1, ρ1, S1, ws, re1, rs1, qs.mono e1, ?_⟩⟩
      revert p1
      cases r ws o ρ1 S1 with
      | ok ρ2 S2 => exact fun p1 m' H' σ' x rs' ⟨re', w'⟩ => p1 m' H' σ' x rs' ⟨re', w'.trans w1⟩
      | exc c fs S2 => exact fun p1 => p1
      | stuck w => exact fun p1 => p1
theorem v_tup {vs : List Nat} {es : List PySem.Expr} {k : Nat} {t : G.TL} {n : Nat} (hc : X.calm = true) (h : PGs X es (tEsv g o vs t)) (hn : (assignEach es X.env).length = n) (hst : (assignEach es X.env).findIdx? (·.1) = .none) :
    PG X (.Tuple es k pos) (tEv g o vs (tTup n t)) := by
  refine ⟨fun pins s σ H x u Q I r ⟨m, ρ, S, v, re, rs, rv, p⟩ => ?_⟩
  cases rv with
  | @tup a xs ws ht rr =>
    have p' : PostG g (relV vs σ) m H Q Eno (match Nat.beq ws.length n with | true => t ws o ρ S | false => .stuck 82) := p
    cases e : Nat.beq ws.length n with
    | false => rw [e] at p'; exact p'.elim
    | true =>
      rw [e] at p'
      exact (pg_tup hc h hn hst).run pins s σ H _ u Q I r ⟨a, xs, rfl, SqT.of ht, by rw [← rr.length]; exact Nat.eq_of_beq_eq_true e, m, ρ, S, ws, re, rs, rr, p'⟩
  | @ref k a hm =>
    have p' : PostG g (relV vs σ) m H Q Eno (match S.get k with | some (.lst ws) => (match Nat.beq ws.length n with | true => t ws o ρ S | false => .stuck 82) | _ => .stuck 82) := p
    cases e1 : S.get k with
    | none => rw [e1] at p'; exact p'.elim
    | some ob =>
      cases ob with
      | lst ws =>
        rw [e1] at p'
        obtain ⟨q, ys, h1, _, h2, h3⟩ := rs.list e1 (RV.ref hm)
        cases h1
        have p2 : PostG g (relV vs σ) m H Q Eno (match Nat.beq ws.length n with | true => t ws o ρ S | false => .stuck 82) := p'
        cases e : Nat.beq ws.length n with
        | false => rw [e] at p2; exact p2.elim
        | true =>
          rw [e] at p2
          exact (pg_lst hc h hn hst).run pins s σ H _ u Q I r ⟨a, ys, rfl, SqL.of h2, by rw [← h3.length]; exact Nat.eq_of_beq_eq_true e, m, ρ, S, ws, re, rs, h3, p2⟩
      | _ => rw [e1] at p'; exact p'.elim
  | _ => exact p.elim
/-! ### comprehensions -/
section
variable {α β γ δ ε : Type} {rel : Mp → Hp → α → β → Prop} {rel' : Mp → Hp → γ → δ → Prop} {m0 : Mp} {H0 : Hp} {Q : β → Hp → Prop} {E E' : XK}
/-- the first part of a code of which nothing may leave, the base kept -/
theorem PostG.bindNo {r : R γ} {k : γ → Store → R ε} {l : ε → Store → R α} (x : Ex m0 H0 m H) (p : PostG g rel m0 H0 Q E ((noExc (r.bind k)).bind l)) :
    PostG g rel' m H (fun y H1 => ∃ m1 v S1, Ex m H m1 H1 ∧ RS g m1 S1 H1 ∧ rel' m1 H1 v y ∧ PostG g rel m0 H0 Q E ((noExc (k v S1)).bind l)) E' r := by
  cases r with
  | ok v S => exact fun m' H' y e rs q => ⟨m', v, S, e, rs, q, p⟩
  | exc c fs S => exact p.elim
  | stuck w => exact p.elim
/-- .. with the whole of the current state as its base (the new list is not the store's yet) -/
theorem PostG.bindNo' {r : R γ} {k : γ → Store → R ε} {l : ε → Store → R α} (p : PostG g rel m0 H0 Q E ((noExc (r.bind k)).bind l)) :
    PostG g rel' m H (fun y H1 => ∃ m1 v S1, Ex m H m1 H1 ∧ RS g m1 S1 H1 ∧ rel' m1 H1 v y ∧ PostG g rel m0 H0 Q E ((noExc (k v S1)).bind l)) E' r := by
  cases r with
  | ok v S => exact fun m' H' y e rs q => ⟨m', v, S, e, rs, q, p⟩
  | exc c fs S => exact p.elim
  | stuck w => exact p.elim
end
theorem maxLen_eq : maxLen = sizeLine := by decide
/-- the state of a comprehension's loop: D the new list, not the store's; m0, H0 the state ahead of it -/
structure LcI (g : Gx) (m0 : Mp) (H0 : Hp) (D : Addr) (m : Mp) (S : Store) (H : Hp) (acc : Acc) : Prop where
  ex : Ex m0 H0 m H
  rs : RS g m S H
  out : D ∉ m.l
  none0 : H0 D = .none
  at_ : ∃ ys, H D = some (.lst ys) ∧ RVs m H acc.2.reverse ys
  len : acc.1 = acc.2.length
theorem LcI.step {m0 m' : Mp} {H0 H' : Hp} {D : Addr} {S' : Store} {acc : Acc} (l : LcI g m0 H0 D m S H acc) (x : Ex m H m' H') (rs : RS g m' S' H') : LcI g m0 H0 D m' S' H' acc := by
  obtain ⟨ys, h1, h2⟩ := l.at_
  refine ⟨l.ex.trans x, rs, fun q => ?_, l.none0, ⟨ys, x.keep _ _ h1 (.inr l.out), h2.mono x⟩, l.len⟩
  have := x.new D q l.out
  rw [h1] at this; cases this
theorem RS.updOut {D : Addr} {u : HO} {ys : List V} (rs : RS g m S H) (hD : H D = some (.lst ys)) (out : D ∉ m.l) : RS g m S (L2.upd H D u) ∧ Ex0 m H m (L2.upd H D u) := by
  have x : Ex0 m H m (L2.upd H D u) := ⟨rfl, List.prefix_rfl, fun b o h i => by
    have : b ≠ D := by rintro rfl; rw [hD] at h; cases h; cases i
    rw [upd_ne this]; exact h⟩
  refine ⟨⟨rs.K, rs.len, rs.lim, rs.inj, fun n o h => ?_, rs.all, fun b fs h => ?_, rs.he⟩, x⟩
  · obtain ⟨a, h1, h2⟩ := rs.obj n o h
    refine ⟨a, h1, RO.mono0 x (fun v hv => ?_) h2⟩
    have : a ≠ D := by rintro rfl; exact out (List.mem_of_getElem? h1)
    rw [upd_ne this]; exact hv
  · obtain ⟨h1, hs, h2, h3⟩ := rs.xf b fs h
    have : b ≠ D := by rintro rfl; rw [hD] at h2; cases h2
    exact ⟨h1, hs, by rw [upd_ne this]; exact h2, RF.mono0 x h3⟩
theorem LcI.push {m0 : Mp} {H0 : Hp} {D : Addr} {acc : Acc} {v : Val} {y : V} (l : LcI g m0 H0 D m S H acc) (rv : RV m H v y) : ∃ ys, H D = some (.lst ys) ∧ ys.length = acc.1 ∧ LcI g m0 H0 D m S (upd H D (.lst (ys ++ [y]))) (acc.1 + 1, v :: acc.2) ∧ Ex0 m H m (upd H D (.lst (ys ++ [y]))) := by
  obtain ⟨ys, h1, h2⟩ := l.at_
  obtain ⟨rs, x⟩ := l.rs.updOut (u := .lst (ys ++ [y])) h1 l.out
  refine ⟨ys, h1, ?_, ⟨⟨l.ex.K, l.ex.ea, l.ex.pre, fun b o h c => ?_, l.ex.new⟩, rs, l.out, l.none0, ⟨_, upd_same, ?_⟩, ?_⟩, x⟩
  · rw [← h2.length, l.len]; simp
  · have : b ≠ D := by rintro rfl; rw [l.none0] at h; cases h
    rw [upd_ne this]; exact l.ex.keep b o h c
  · simp only [List.reverse_cons]
    exact RVs.app (h2.mono0 x) (.cons (rv.mono0 x) .nil)
  · simp [l.len]
/-- the end: the list comes to the store -/
theorem LcI.fin {m0 : Mp} {H0 : Hp} {D : Addr} {acc : Acc} {Q : VK} {E : XK} (l : LcI g m0 H0 D m S H acc) (p : PostG g RV m0 H0 Q E (alloc (.lst acc.2.reverse) S)) : Q (.ref D) H := by
  unfold G.alloc at p
  cases e : roomB S.nx with
  | false => rw [e] at p; exact p.elim
  | true =>
    rw [e] at p
    have hl : Roomy S.nx := trivial
    obtain ⟨ys, h1, h2⟩ := l.at_
    have x0 : Ex0 m H (m.add D) H := ⟨rfl, List.prefix_append _ _, fun _ _ q _ => q⟩
    have rs1 : RS g (m.add D) (S.new (.lst acc.2.reverse)) H := l.rs.newAt l.out hl ⟨ys, h1, h2.mono0 x0⟩
    refine p (m.add D) H _ ⟨l.ex.K, l.ex.ea, l.ex.pre.trans (List.prefix_append _ _), l.ex.keep, fun a h1 h2 => ?_⟩ rs1 (RV.ref ?_)
    · rcases List.mem_append.mp h1 with q | q
      · exact l.ex.new a q h2
      · rw [List.mem_singleton.mp q]; exact l.none0
    · have h3 : (m.add D).l = m.l ++ [D] := rfl
      rw [h3, ← l.rs.len]; simp
end
end G
set_option Elab.async false
set_option linter.all false
set_option maxRecDepth 100000
namespace G
open PySem PySem.Spec L2
open PyProof.Rows hiding St
/-! ### list comprehensions -/
/-- what a collector's answer is to reach -/
def PostC (L : Mp → Store → Hp → Acc → Prop) (ms : Mp) (Hs : Hp) (Fin : Hp → Prop) : R Acc → Prop
  | .ok acc S => ∀ m H, Ex0 ms Hs m H → L m S H acc → Fin H
  | .exc _ _ _ => False
  | .stuck _ => False
theorem Ex0.trans {m m' m'' : Mp} {H H' H'' : Hp} (x : Ex0 m H m' H') (y : Ex0 m' H' m'' H'') : Ex0 m H m'' H'' :=
  ⟨y.K.trans x.K, x.pre.trans y.pre, fun b o h i => y.keep b o (x.keep b o h i) i⟩
/-- what is known of the state while the collector goes on -/
structure LOk (g : Gx) (L : Mp → Store → Hp → Acc → Prop) : Prop where
  rs : ∀ {m S H acc}, L m S H acc → RS g m S H
  step : ∀ {m m' S S' H H' acc}, L m S H acc → Ex m H m' H' → RS g m' S' H' → L m' S' H' acc
  ea : ∀ {m m' S S' H H' acc acc'}, L m S H acc → L m' S' H' acc' → m.ea = m'.ea
section
variable {g : Gx} {o : Orc} {m0 : Mp} {H0 : Hp} {D : Addr} {L : Mp → Store → Hp → Acc → Prop} {ms m m1 : Mp} {Hs H H1 : Hp} {Fin : Hp → Prop} {α β : Type} {rel : Mp → Hp → α → β → Prop} {X : Cx} {W : WX}
theorem LcI.ok : LOk g (LcI g m0 H0 D) := ⟨fun l => l.rs, fun l x rs => l.step x rs, fun l l' => l.ex.ea.trans l'.ex.ea.symm⟩
theorem PostC.base {r : R Acc} (x : Ex0 ms Hs m H) (p : PostC L ms Hs Fin r) : PostC L m H Fin r := by
  cases r with
  | ok acc S => exact fun m' H' y l => p m' H' (x.trans y) l
  | exc c fs S => exact p
  | stuck w => exact p
theorem PostC.bind {r : R α} {k : α → Store → R Acc} {E : XK} (p : PostC L m H Fin (r.bind k)) :
    PostG g rel m H (fun y H1 => ∃ m1 v S1, Ex m H m1 H1 ∧ RS g m1 S1 H1 ∧ rel m1 H1 v y ∧ PostC L m1 H1 Fin (k v S1)) E r := by
  cases r with
  | ok v S => exact fun m' H' y e rs q => ⟨m', v, S, e, rs, q, p.base e.toEx0⟩
  | exc c fs S => exact p.elim
  | stuck w => exact p.elim
theorem PostC.bindNo {r : R α} {k : α → Store → R Acc} {E : XK} (p : PostC L m H Fin ((noExc r).bind k)) :
    PostG g rel m H (fun y H1 => ∃ m1 v S1, Ex m H m1 H1 ∧ RS g m1 S1 H1 ∧ rel m1 H1 v y ∧ PostC L m1 H1 Fin (k v S1)) E r := by
  cases r with
  | ok v S => exact fun m' H' y e rs q => ⟨m', v, S, e, rs, q, p.base e.toEx0⟩
  | exc c fs S => exact p.elim
  | stuck w => exact p.elim
/-- what a collector does, as the reading of the turns -/
abbrev Bdy := (Hp → Prop) → St → Hp → Prop
def ColOk (g : Gx) (o : Orc) (L : Mp → Store → Hp → Acc → Prop) (k : Col) (B : Bdy) : Prop :=
  ∀ (m : Mp) (H : Hp) (ρ : G.Env) (σ : St) (S : Store) (acc : Acc) (Nx : Hp → Prop), L m S H acc → RE m H ρ σ → PostC L m H Nx (k o ρ acc S) → B Nx σ H
def bElt (te : TE) (D : Addr) : Bdy := fun Nx σ H => te σ H fun y H4 => ∃ acc, H4 D = some (.lst acc) ∧ acc.length < sizeLine ∧ Nx (upd H4 D (.lst (acc ++ [y])))
def bIf (tt : TT) (B : Bdy) : Bdy := fun Nx σ H => tt σ H fun b H3 => if b = true then B Nx σ H3 else Nx H3
theorem col_elt {ce : G.E} : ColOk g o (LcI g m0 H0 D) (cElt ce) (bElt (tM g o Wno ce) D) := fun m H ρ σ S acc Nx l re p => by
  refine ⟨m, ρ, S, re, l.rs, PostG.mono (PostC.bind p) fun y H4 ⟨m4, v, S4, e4, rs4, rv, p4⟩ => ?_⟩
  cases e : Nat.blt acc.1 maxLen with
  | false => rw [e] at p4; exact p4.elim
  | true =>
    rw [e] at p4
    obtain ⟨ys, h1, h2, h3, h4⟩ := (l.step e4 rs4).push rv
    exact ⟨ys, h1, by rw [h2, ← maxLen_eq]; simpa [Nat.blt_eq] using e, p4 m4 _ h4 h3⟩
theorem col_yes {k : Col} {B : Bdy} (h : ColOk g o L k B) : ColOk g o L k (bIf tYes B) := fun m H ρ σ S acc Nx l re p => by
  show if true = true then B Nx σ H else Nx H
  exact h m H ρ σ S acc Nx l re p
theorem col_if {cc : G.E} {k : Col} {B : Bdy} (HL : LOk g L) (h : ColOk g o L k B) : ColOk g o L (cIf cc k) (bIf (tT g o Wno cc) B) := fun m H ρ σ S acc Nx l re p => by
  have p2 : PostC L m H Nx (((cc o ρ S).bind tst).bind fun t S => match t with | true => k o ρ acc S | false => .ok acc S) := by
    unfold cIf at p
    rw [bindA]
    revert p
    cases cc o ρ S with
    | ok v S1 =>
      show PostC L m H Nx (match truthy S1 v with | some true => k o ρ acc S1 | some false => .ok acc S1 | .none => .stuck 91) → PostC L m H Nx ((tst v S1).bind fun t S => match t with | true => k o ρ acc S | false => .ok acc S)
      unfold tst
      cases truthy S1 v with
      | none => exact fun p => p.elim
      | some t => cases t <;> exact id
    | exc c fs S1 => exact id
    | stuck w => exact id
  refine ⟨m, ρ, S, re, HL.rs l, PostG.mono (PostC.bind p2) fun b H3 ⟨m3, t, S3, e3, rs3, rb, p3⟩ => ?_⟩
  cases rb
  cases b with
  | true => exact h m3 H3 ρ σ S3 acc Nx (HL.step l e3 rs3) (re.mono e3) p3
  | false => exact p3 m3 H3 ⟨rfl, List.prefix_rfl, fun _ _ q _ => q⟩ (HL.step l e3 rs3)
/-- a loop of turns -/
def tTurns (J : L2.It) (gt : TG) (vs : List Nat) (σ : St) (B : Bdy) (Fin : Hp → Prop) (Hb : Hp) : Prop := ∃ W : Nat → Nat → Hp → Prop, (∃ m, W 0 m Hb) ∧ ∀ i m H, W i m H →
  (J.stop i H ∧ Fin H) ∨ (J.go i H ∧ ∃ Nx : Hp → Prop, (∀ H', Nx H' → ∃ m', m' < m ∧ W (i + 1) m' H') ∧ ∀ x H', J.yld i H x H' → gt x (L2.wipe σ vs) H' fun σ2 H2 => L2.wipe σ2 vs = L2.wipe σ vs ∧ B Nx σ2 H2)
theorem turns_ok {J : L2.It} {P : Nat → G.It → Mp → Hp → Prop} {t : G.T} {k : Col} {B : Bdy} {vs : List Nat} {it : G.It} {S : Store} {acc : Acc} {ρ : G.Env} {σ : St} {n : Nat} (HL : LOk g L) (wk : Walks g J P) (hk : ColOk g o L k B) (l : L m S H acc) (pi : P 0 it m H) (re : RE m H ρ σ)
    (p : PostC L m H Fin (cLoop t k o (G.wipe ρ vs) n it acc S)) : tTurns J (tEv g o vs t) vs σ B Fin H := by
  refine ⟨fun i n H' => ∃ m' S it acc, Ex0 m H m' H' ∧ L m' S H' acc ∧ P i it m' H' ∧ PostC L m' H' Fin (cLoop t k o (G.wipe ρ vs) n it acc S), ⟨n, m, S, it, acc, ⟨rfl, List.prefix_rfl, fun _ _ q _ => q⟩, l, pi, p⟩, ?_⟩
  have l00 := l
  rintro i n H' ⟨m', S, it, acc, x, l, pi, p⟩
  cases n with
  | zero => exact p.elim
  | succ n =>
    rw [cLoop_succ] at p
    cases q : it.next S with
    | none => rw [q] at p; exact p.elim
    | some z =>
      rw [q] at p
      cases z with
      | none => exact .inl ⟨wk.stop pi (HL.rs l) q, p m' H' ⟨rfl, List.prefix_rfl, fun _ _ q _ => q⟩ l⟩
      | some z =>
        obtain ⟨v, it'⟩ := z
        obtain ⟨jg, jy⟩ := wk.go pi (HL.rs l) q
        refine .inr ⟨jg, fun H'' => ∃ m' S it acc, Ex0 m H m' H'' ∧ L m' S H'' acc ∧ P (i + 1) it m' H'' ∧ PostC L m' H'' Fin (cLoop t k o (G.wipe ρ vs) n it acc S), fun H'' z => ⟨n, Nat.lt_succ_self n, z⟩, fun y H2 yd => ?_⟩
        obtain ⟨x1, rs1, rv, pn⟩ := jy y H2 yd
        have x2 : Ex0 m H m' H2 := x.trans x1.toEx0
        refine ⟨m', G.wipe ρ vs, S, v, (re.mono0 x2 (HL.ea l l00)).wipe vs, rs1, rv, PostG.mono (PostC.bindNo (p.base x1.toEx0)) fun σ2 H3 ⟨m3, ρ3, S3, e3, rs3, ⟨re3, w3⟩, p3⟩ => ?_⟩
        refine ⟨w3.trans (wipe_idem σ vs), hk m3 H3 ρ3 σ2 S3 acc _ (HL.step l (x1.trans e3) rs3) re3 ?_⟩
        have pn3 : P (i + 1) it' m3 H3 := wk.mono pn e3.toEx0
        revert p3
        cases k o ρ3 acc S3 with
        | ok acc4 S4 => exact fun p3 m4 H4 x4 l4 => ⟨m4, S4, it', acc4, x2.trans (e3.toEx0.trans x4), l4, wk.mono pn3 x4, p3.base x4⟩
        | exc c fs S4 => exact fun p3 => p3
        | stuck w => exact fun p3 => p3
/-- the whole: from the answer's post to the turns' reading -/
theorem lc_ok {t : G.T} {i : G.EI} {k : Col} {B : Addr → Bdy} {vs : List Nat} {σ : St} {Q : VK} (hk : ∀ m0 H0 D, ColOk g o (LcI g m0 H0 D) k (B D)) (h : tM g o W (eLc (cFor vs t i k)) σ H Q) :
    tI g o W i σ H fun J H1 => ∀ D, H1 D = .none → tTurns J (tEv g o vs t) vs σ (B D) (fun H => Q (.ref D) H) (upd H1 D (.lst [])) := by
  obtain ⟨m, ρ, S, re, rs, p⟩ := h
  refine ⟨m, ρ, S, re, rs, ?_⟩
  have p2 : PostG g RV m H Q (atS W σ) ((noExc ((i o ρ S).bind fun it S => cLoop t k o (G.wipe ρ vs) fuel it (0, []) S)).bind fun acc S => alloc (.lst acc.2.reverse) S) := p
  refine PostG.mono (PostG.bindNo' (rel' := RI g) p2) fun J H1 ⟨m1, it, S1, e1, rs1, ⟨P, wk, p0⟩, p1⟩ D hD => ?_
  have out : D ∉ m1.l := rs1.notIn hD
  have x0 : Ex m1 H1 m1 (upd H1 D (.lst [])) := Ex.upd hD
  have l : LcI g m1 H1 D m1 S1 (upd H1 D (.lst [])) (0, []) := ⟨x0, rs1.upd hD, out, hD, ⟨[], upd_same, .nil⟩, rfl⟩
  refine turns_ok (n := fuel) LcI.ok wk (hk m1 H1 D) l (wk.mono p0 x0.toEx0) ((re.mono e1).mono x0) ?_
  have p3 := PostG.base e1 p1
  revert p3
  cases cLoop t k o (G.wipe ρ vs) fuel it (0, []) S1 with
  | ok acc S2 => exact fun p3 m2 H2 x2 l2 => l2.fin p3
  | exc c fs S2 => exact fun p3 => p3.elim
  | stuck w => exact fun p3 => p3.elim
end
section
variable {X : Cx} {g : Gx} {o : Orc} {W : WX} {elt tg iter tg1 iter1 c c1 : PySem.Expr} {scope : Scope} {own : List (Str × Nat)} {pos spos py : Pos} {t t1 : G.T} {ci ci1 : G.EI} {cc cc1 ce : G.E} {y : Str} {i : Nat} {vs1 : List Nat}
/-- the context of a block, and any rule there -/
abbrev InBlk (X : Cx) (scope : Scope) (F : Cx → Prop) : Prop := ∀ (s : Shared) (H : Hp) (C : Addr) (cl : List (Str × Addr)) (fp : List Addr), F (X.blk s H scope (compEnvC scope cl C X.env) fp)
/-- the tests of a clause: none, or one -/
inductive Tst (X : Cx) (g : Gx) (o : Orc) (scope : Scope) : List PySem.Expr → (Col → Col) → Prop
  | no : Tst X g o scope [] id
  | one {c : PySem.Expr} {cc : G.E} (h : InBlk X scope fun Y => PT Y c (tT g o Wno cc)) : Tst X g o scope [c] (cIf cc)
theorem m_lc {ifs : List PySem.Expr} {f : Col → Col} (hc : X.calm = true) (hN : X.N.Nodup) (hi : PI X tg iter (tI g o W ci)) (ok : BlkOk X.N X.env.scope scope own)
    (hg : InBlk X scope fun Y => PG Y tg (tEv g o (own.map (·.2)) t)) (ht : Tst X g o scope ifs f) (he : InBlk X scope fun Y => PE Y elt (tM g o Wno ce)) (hs : ∀ x, foldedSetIterable iter X.env x = pure x) :
    PE X (.ListComp elt [⟨tg, iter, ifs, 0⟩] scope pos) (tM g o W (eLc (cFor (own.map (·.2)) t ci (f (cElt ce))))) := by
  cases ht with
  | no => exact PE.imp (pe_lc hc hN hi ok hg (fun _ _ _ _ _ => pts_nil) he hs) fun σ H Q h => lc_ok (B := fun D => bIf tYes (bElt (tM g o Wno ce) D)) (fun _ _ _ => col_yes col_elt) h
  | one h1 => exact PE.imp (pe_lc hc hN hi ok hg (fun s H C cl fp => pts_one (h1 s H C cl fp)) he hs) fun σ H Q h => lc_ok (B := fun D => bIf _ (bElt (tM g o Wno ce) D)) (fun _ _ _ => col_if LcI.ok col_elt) h
end
end G
set_option Elab.async false
set_option linter.all false
set_option maxRecDepth 100000
namespace G
open PySem PySem.Spec L2
open PyProof.Rows hiding St
/-! ### enumerate, zip over lists, tuples, texts -/
inductive SK where
  | lst (a : Addr) | tup (a : Addr) | str (x : Str)
def SK.cont (H : Hp) : SK → List V → Prop
  | .lst a, xs => H a = some (.lst xs)
  | .tup a, xs => H a = some (.tup xs)
  | .str x, xs => xs = x.cps.toList.map fun c => V.str ⟨#[c]⟩
def SK.stt (it i : Nat) (h : Heap) : SK → Prop
  | .lst a => h.IsListIter it a i
  | .tup a => h.IsTupleIter it a i
  | .str x => ∃ t, h.IsStrIter it (strIterType x) x t i
def SK.obj : SK → Value → PySem.Obj
  | .lst a, _ => { cls := .type "list_iterator", data := .fields #[.ref a, .int 0 0] }
  | .tup a, _ => { cls := .type "tuple_iterator", data := .fields #[.ref a, .int 0 0] }
  | .str x, v => { cls := .type (strIterType x), data := .fields #[v, .int 0 0] }
def SK.val : SK → V
  | .lst a => .ref a
  | .tup a => .ref a
  | .str x => .str x
section
variable {X : Cx} {g : Gx} {pins : List (Addr × PySem.Obj)} {s : Shared} {σ : St} {m m' : Mp} {H H' : Hp} {S : Store} {k : SK} {xs ys : List V} {it i : Nat} {A : Around}
theorem SK.uniq (h : k.cont H xs) (h' : k.cont H ys) : xs = ys := by
  cases k with
  | lst a => exact HO.lst.inj (Option.some.inj (h.symm.trans h'))
  | tup a => exact HO.tup.inj (Option.some.inj (h.symm.trans h'))
  | str x => exact h.trans h'.symm
theorem Vals.back : ∀ {xs : List V} {us : List Value} {j : Nat} {u : Value}, Vals xs us → us[j]? = some u → ∃ x, xs[j]? = some x ∧ RelV x u
  | _, _, _, _, .nil, e => by simp at e
  | _, _, 0, _, .cons r _, e => by simp at e; subst e; exact ⟨_, rfl, r⟩
  | _, _, j + 1, u, .cons _ r, e => by
    obtain ⟨x, h1, h2⟩ := Vals.back (j := j) (u := u) r (by simpa using e)
    exact ⟨x, by simpa using h1, h2⟩
theorem SK.draws (hh : A.handled = .none) (I : Inv X pins σ H s) (c : k.cont H xs) (st : k.stt it i s.heap) (f : H it = .none) : ∃ (fp : List Addr) (P : Nat → Value → Prop) (St : Nat → Heap → Prop), Draws X.prog X.w A it fp xs.length P St ∧ St i s.heap ∧
    (∀ j u, P j u → ∃ x, xs[j]? = some x ∧ RelV x u) ∧ (∀ j h, St j h → k.stt it j h) ∧ it ∈ fp ∧ ∀ b ∈ fp, b = it ∨ H b ≠ .none := by
  cases k with
  | lst a =>
    obtain ⟨its, rv, p, hz⟩ := I.list (SqL.of c)
    have c' : H a = some (.lst xs) := c
    have ne : a ≠ it := by rintro rfl; rw [f] at c'; cases c'
    refine ⟨_, _, _, (show xs.length = its.toArray.size by rw [rv.length]; simp) ▸ Draws.list hh it a ne its.toArray, ⟨st, p.isList⟩, fun j u hu => Vals.back rv (by simpa using hu), fun j h q => q.1, by simp, fun b hb => ?_⟩
    have : b = it ∨ b = a := by simpa using hb
    rcases this with q | q
    · exact .inl q
    · exact .inr (by rw [q, c']; exact fun z => nomatch z)
  | tup a =>
    obtain ⟨its, rv, p, hz⟩ := I.tuple (SqT.of c)
    have c' : H a = some (.tup xs) := c
    have ne : a ≠ it := by rintro rfl; rw [f] at c'; cases c'
    refine ⟨_, _, _, (show xs.length = its.toArray.size by rw [rv.length]; simp) ▸ Draws.tuple hh it a ne its.toArray, ⟨st, p⟩, fun j u hu => Vals.back rv (by simpa using hu), fun j h q => q.1, by simp, fun b hb => ?_⟩
    have : b = it ∨ b = a := by simpa using hb
    rcases this with q | q
    · exact .inl q
    · exact .inr (by rw [q, c']; exact fun z => nomatch z)
  | str x =>
    obtain ⟨t, st⟩ := st
    have c' : xs = x.cps.toList.map fun c => V.str ⟨#[c]⟩ := c
    subst c'
    refine ⟨_, _, _, (show (x.cps.toList.map fun c => V.str ⟨#[c]⟩).length = x.cps.size by simp) ▸ Draws.text hh it x t, st, fun j u ⟨c, w, h1, h2⟩ => ⟨.str ⟨#[c]⟩, ?_, by rw [h2]; exact ⟨w, rfl⟩⟩, fun j h q => ⟨t, q⟩, by simp, fun b hb => .inl (by simpa using hb)⟩
    simp [h1]
theorem SK.stt_obj {h : Heap} (st : k.stt it i h) : ∃ o, h.get? it = some o ∧ ∀ v, o.data ≠ .cell v := by
  cases k with
  | lst a => obtain ⟨o, e, c, d⟩ := st; exact ⟨o, e, fun v z => by rw [d] at z; cases z⟩
  | tup a => obtain ⟨o, e, c, d⟩ := st; exact ⟨o, e, fun v z => by rw [d] at z; cases z⟩
  | str x => obtain ⟨t, o, e, c, d⟩ := st; exact ⟨o, e, fun v z => by rw [d] at z; cases z⟩
theorem SK.stt_at {h h' : Heap} (st : k.stt it i h) (q : ∀ o, h.get? it = some o → h'.get? it = some o) : k.stt it i h' := by
  cases k with
  | lst a => obtain ⟨o, e, c, d⟩ := st; exact ⟨o, q o e, c, d⟩
  | tup a => obtain ⟨o, e, c, d⟩ := st; exact ⟨o, q o e, c, d⟩
  | str x => obtain ⟨t, o, e, c, d⟩ := st; exact ⟨t, o, q o e, c, d⟩
theorem SK.begins (I : Inv X pins σ H s) (c : k.cont H xs) {u : Value} (r : RelV k.val u) : ∃ B : Heap → Prop, Begins u (k.obj u) B ∧ B s.heap ∧ ∀ h, h.get? it = some (k.obj u) → k.stt it 0 h := by
  cases k with
  | lst a =>
    cases r
    obtain ⟨its, rv, p, hz⟩ := I.list (SqL.of c)
    exact ⟨_, begins_list a its.toArray, p.isList, fun h e => ⟨_, e, rfl, rfl⟩⟩
  | tup a =>
    cases r
    obtain ⟨its, rv, p, hz⟩ := I.tuple (SqT.of c)
    exact ⟨_, begins_tuple a its.toArray, p, fun h e => ⟨_, e, rfl, rfl⟩⟩
  | str x =>
    obtain ⟨t, rfl⟩ := r
    exact ⟨_, begins_text x t, trivial, fun h e => ⟨t, _, e, rfl, rfl⟩⟩
end
section
set_option maxHeartbeats 1000000 in
theorem meets_enumerate_1B {v : Value} {o : PySem.Obj} {H : Heap → Prop} (B : Begins v o H) :
    Meets (Builtin.«enumerate.__new__» ⟨[.type "enumerate", v], []⟩) (fun _ R s => H s.heap ∧
      R (.ok (.ret (.ref (s.heap.push o).objs.size))) { s with heap := (s.heap.push o).push { cls := .type "enumerate", data := .fields #[.none, .bool false, .ref s.heap.objs.size, rawInt 0, .none, .none] } }) :=
  .of_wp fun prog w A R s h => by
    obtain ⟨hp, g, d, tk, os⟩ := s; obtain ⟨h1, h⟩ := h
    have hsub := sub_enumerate
    have q1 : ∀ {A' : Around} {E : Value → Shared → Prop} {Q : Value → Shared → Prop}, Q (.ref hp.objs.size) ⟨hp.push o, g, d, tk, os⟩ → wpAny (model prog w) A' (pyIter v) Q E ⟨hp, g, d, tk, os⟩ :=
      fun q => B.iter prog w _ _ ⟨hp, g, d, tk, os⟩ _ h1 q
    wp_walk using q1
    refine wpAny_stack_any fun st => wpAny_pure ?_
    split
    · rename_i c _ _ _ _ _
      cases (c == Value.type "enumerate")
      · wp_walk using q1
        exact ⟨_, rfl, h⟩
      · wp_walk using q1
        exact ⟨_, rfl, h⟩
    · wp_walk using q1
      exact ⟨_, rfl, h⟩
theorem enum_begins1 {prog : Program} {w : World} {A : Around} {E : Value → Shared → Prop} {s : Shared} {v : Value} {o : PySem.Obj} {H : Heap → Prop} {Q : Value → Shared → Prop} (B : Begins v o H) (h1 : H s.heap)
    (h : ∀ h', IsEnum h' (s.heap.objs.size + 1) s.heap.objs.size 0 .none → h'.get? s.heap.objs.size = some o → h'.objs.size = s.heap.objs.size + 2 →
      (∀ b o, s.heap.get? b = some o → h'.get? b = some o) → Q (.ref (s.heap.objs.size + 1)) { s with heap := h' }) :
    wpAny (model prog w) A (call (.type "enumerate") [v]) Q E s := by
  refine callType_new F.called_enumerate (by decide) (F.typeCall_enumerate_1 _) (F.newCall_enumerate_1 _) (fun obj => F.args_object_init_2 obj _) F.entry_enumerate_new (meets_enumerate_1B B) ⟨h1, ?_⟩
  have hz : (s.heap.push o).objs.size = s.heap.objs.size + 1 := Heap.size_push ..
  show _ ∧ _
  rw [hz]
  have he : IsEnum ((s.heap.push o).push { cls := .type "enumerate", data := .fields #[.none, .bool false, .ref s.heap.objs.size, rawInt 0, .none, .none] }) (s.heap.objs.size + 1) s.heap.objs.size 0 .none := by
    have := Heap.get?_push_size (s.heap.push o) (o := { cls := .type "enumerate", data := .fields #[.none, .bool false, .ref s.heap.objs.size, rawInt 0, .none, .none] }) rfl
    rw [hz] at this; exact this
  exact ⟨⟨_, he, rfl⟩, h _ he (Heap.get?_push_of_some _ (Heap.get?_push_size _ B.free)) (by rw [Heap.size_push, hz]) fun b o x => Heap.get?_push_of_some _ (Heap.get?_push_of_some _ x)⟩
end
section
variable {X : Cx} {g : Gx} {pins : List (Addr × PySem.Obj)} {s : Shared} {σ : St} {m m' : Mp} {H H' : Hp} {S : Store} {k : SK} {xs ys : List V} {it i : Nat} {A : Around}
/-- pairs: what is walked gives new pairs -/
def Jp (go stop : Nat → Hp → Prop) (Y : Nat → Hp → V → V → Prop) : L2.It :=
  ⟨go, fun i H v H' => ∃ T x y, v = .ref T ∧ H T = .none ∧ H' = upd H T (.tup [x, y]) ∧ Y i H x y, stop⟩
theorem turn_pair {P : Program} {w : World} {K : PySem.W.Frag} {elts : List PySem.Expr} {kk : Nat} {tpos : Pos} {go stop : Nat → Hp → Prop} {Y : Nat → Hp → V → V → Prop} {fp : List Addr} {I0 : Addr} {tn : Nat → Heap → Prop} (mem : I0 ∈ fp)
    (obj : ∀ i h, tn i h → ∀ b ∈ fp, ∃ o, h.get? b = some o ∧ ∀ v, o.data ≠ .cell v) (keep : ∀ i h h', tn i h → (∀ b ∈ fp, ∀ o, h.get? b = some o → h'.get? b = some o) → tn i h')
    (wt : ∀ (X : Cx) (pins : List (Addr × PySem.Obj)) (s : Shared) (σ : St) (H : Hp) (i : Nat), X.prog = P → X.w = w → X.A.handled = .none → Inv X pins σ H s → (∀ b ∈ fp, FpOk X pins H b) → tn i s.heap → go i H →
      ∃ (fp' wr : List Addr) (n : Nat) (Pt : Nat → Array Value → Prop) (St : Nat → Heap → Prop) (Mid : Nat → Addr → Heap → Prop), WalksT X.prog X.w X.A I0 fp' wr n Pt St Mid ∧ (∀ b ∈ wr, b ∈ fp) ∧ i < n ∧ St i s.heap ∧
        (∀ vals, Pt i vals → ∃ x y u w, vals = #[u, w] ∧ RelV x u ∧ RelV y w ∧ Y i H x y) ∧ ∀ h', St (i + 1) h' → tn (i + 1) h')
    (we : ∀ (X : Cx) (pins : List (Addr × PySem.Obj)) (s : Shared) (σ : St) (H : Hp) (i : Nat), X.prog = P → X.w = w → X.A.handled = .none → Inv X pins σ H s → (∀ b ∈ fp, FpOk X pins H b) → tn i s.heap → stop i H →
      ∀ (E : Value → Shared → Prop) (Q : Option Value → Shared → Prop), (∀ h' tk, (∀ b o, b ∉ fp → s.heap.get? b = some o → h'.get? b = some o) → Q .none { s with heap := h', toks := tk }) → wpAny (model X.prog X.w) X.A (pyNext (.ref I0)) Q E s)
    (self : ∀ (A : Around) (i : Nat) (s : Shared) (Q : Value → Shared → Prop) (E : Value → Shared → Prop), tn i s.heap → Q (.ref I0) s → wpAny (model P w) A (pyIter (.ref I0)) Q E s) :
    Turn P w K (.Tuple elts kk tpos) (Jp go stop Y) fp I0 tn where
  mem := mem
  obj := obj
  keep := keep
  self := self
  item := by
    intro X hP hw hK hc i pins s σ H E I hf st hg
    have hd := I.ok.hd hc
    obtain ⟨fp', wr, n, Pt, St, Mid, W, hwr, hlt, hst, hp, hn⟩ := wt X pins s σ H i hP hw hd I hf st hg
    subst hP hw hK
    refine W.item i s _ E hlt hst fun T vals h' tk hpt hsz hT hmid hk => ?_
    obtain ⟨x, y, u, v, rfl, ru, rv, hy⟩ := hp _ hpt
    refine ⟨_, rfl, W.go elts kk tpos i T { s with heap := h', toks := tk } _ E hmid fun h'' hst2 hk2 => ?_⟩
    have hT2 : h''.IsTuple T #[u, v] := by
      obtain ⟨o, e, c, z, d⟩ := hT
      exact ⟨o, hk2 T o (W.apart i T h' hmid) e, c, z, d⟩
    have new : ObjOk X.prog X.w (upd H T (.tup [x, y])) h'' T (.tup [x, y]) := ⟨by show 2 ≤ sizeLine; decide, [u, v], .cons ru (.cons rv .nil), hT2⟩
    have I1 : Inv X pins σ (upd H T (.tup [x, y])) { s with heap := h'', toks := tk } :=
      I.turnedNew (ch := fp) (fun b o hb q => hk2 b o (fun z => hb (hwr b z)) (hk b o (fun z => hb (hwr b z)) q)) hf hsz new
    refine ⟨.ref T, _, I1, rfl, ⟨T, x, y, rfl, I.hok.fresh hsz, rfl, hy⟩, hn _ hst2, fun b hb => ?_⟩
    obtain ⟨o, e, _⟩ := obj i _ st b hb
    have : b ≠ T := Nat.ne_of_lt (Nat.lt_of_lt_of_le (Heap.lt_size e) hsz)
    rw [upd_ne this]; exact (hf b hb).1
  done := by
    intro X hP hw hK hc i pins s σ H E I hf st hg
    have hd := I.ok.hd hc
    have w1 := we X pins s σ H i hP hw hd I hf st hg E
    subst hP hw hK
    exact w1 _ fun h' tk hk => ⟨rfl, I.turnedL (ch := fp) hk hf⟩
/-- enumerate -/
def Jenum (k : SK) : L2.It := Jp (fun i H => ∃ xs x, k.cont H xs ∧ xs[i]? = some x) (fun i H => ∃ xs, k.cont H xs ∧ xs.length = i) (fun i H x y => x = .int (i : Nat) ∧ ∀ xs, k.cont H xs → xs[i]? = some y)
theorem in1_handled {A : Around} (h : A.handled = .none) : A.in1.handled = .none := h
theorem turn_enumS {P : Program} {w : World} {K : PySem.W.Frag} {elts : List PySem.Expr} {kk : Nat} {tpos : Pos} (k : SK) (e it : Addr) :
    Turn P w K (.Tuple elts kk tpos) (Jenum k) [e, it] e (fun i h => (∃ old, IsEnum h e it ((i : Nat) : Int) old) ∧ k.stt it i h ∧ e ≠ it) := by
  refine turn_pair (by simp) (fun i h st b hb => ?_) (fun i h h' st kp => ?_) (fun X pins s σ H i hP hw hd I hf st hg => ?_) (fun X pins s σ H i hP hw hd I hf st hg E Q hQ => ?_) (fun A i s Q E st h => let ⟨⟨_, he⟩, _⟩ := st; wpAny_pyIter_enum he h)
  · obtain ⟨⟨old, he⟩, hi, _⟩ := st
    have e' : b = e ∨ b = it := by simpa using hb
    rcases e' with z | z
    · rw [z]; exact ⟨_, he, fun v q => nomatch q⟩
    · rw [z]; exact SK.stt_obj (k := k) hi
  · obtain ⟨⟨old, he⟩, hi, hne⟩ := st
    exact ⟨⟨old, kp e (by simp) _ he⟩, SK.stt_at (k := k) hi fun o q => kp it (by simp) o q, hne⟩
  · obtain ⟨⟨old, he⟩, hi, hne⟩ := st
    obtain ⟨xs, x, hc, hx⟩ := hg
    obtain ⟨fp, Pd, Sd, D, s0, hp, hs, hm, hb⟩ := SK.draws (A := X.A.in1) (in1_handled hd) I hc hi (hf it (by simp)).1
    refine ⟨_, _, _, _, _, _, WalksT.enumerateD D e hne (fun z => ?_) hm, fun b hb => hb, (List.getElem?_eq_some_iff.mp hx).1, ⟨⟨old, he⟩, s0⟩, fun vals ⟨t, u, h1, h2⟩ => ?_, fun h' ⟨h1, h2⟩ => ⟨?_, hs _ _ h2, hne⟩⟩
    · rcases hb e z with q | q
      · exact hne q
      · exact q (hf e (by simp)).1
    · obtain ⟨y, h3, h4⟩ := hp i u h1
      exact ⟨.int (i : Nat), y, .int i t, u, h2, ⟨t, rfl⟩, h4, rfl, fun ys hy => by rw [SK.uniq hy hc]; exact h3⟩
    · obtain ⟨o, ho⟩ := h1
      exact ⟨o, ho⟩
  · obtain ⟨⟨old, he⟩, hi, hne⟩ := st
    obtain ⟨xs, hc, hx⟩ := hg
    obtain ⟨fp, Pd, Sd, D, s0, hp, hs, hm, hb⟩ := SK.draws (A := X.A.in1) (in1_handled hd) I hc hi (hf it (by simp)).1
    have hef : e ∉ fp := fun z => by
      rcases hb e z with q | q
      · exact hne q
      · exact q (hf e (by simp)).1
    refine (WalksT.enumerateD D e hne hef hm).done s Q E (hx ▸ ⟨⟨old, he⟩, s0⟩) fun h' tk hk => hQ h' tk fun b o hb => hk b o hb
/-! ### the readings of a walk of a value -/
/-- what the evaluator's iterable is, at turn i -/
def SK.P (k : SK) (i : Nat) (it : G.It) (m : Mp) (H : Hp) : Prop := match k with
  | .lst a => ∃ n, it = .lst n i ∧ m.l[n]? = some a
  | .tup a => ∃ vs : List Val, it = .vals (vs.drop i) ∧ i ≤ vs.length ∧ ∃ xs, H a = some (.tup xs) ∧ RVs m H vs xs
  | .str x => ∃ l : List Nat, x = ⟨l.toArray⟩ ∧ sOk l ∧ it = .vals ((l.map fun c => Val.str [c]).drop i) ∧ i ≤ l.length
theorem SK.P_mono {it : G.It} {i : Nat} (h : k.P i it m H) (x : Ex0 m H m' H') : k.P i it m' H' := by
  cases k with
  | lst a => obtain ⟨n, e, q⟩ := h; exact ⟨n, e, x.get q⟩
  | tup a => obtain ⟨vs, e, hi, xs, q, r⟩ := h; exact ⟨vs, e, hi, xs, x.tup q, r.mono0 x⟩
  | str y => exact h
/-- what stands there is long enough; and the next item -/
theorem SK.next {it : G.It} {i : Nat} (h : k.P i it m H) (rs : RS g m S H) {r : Option (Val × G.It)} (e : it.next S = some r) : ∃ xs, k.cont H xs ∧ i ≤ xs.length ∧ (r = .none → xs.length = i) ∧ ∀ v it', r = some (v, it') → ∃ x, xs[i]? = some x ∧ RV m H v x ∧ k.P (i + 1) it' m H := by
  cases k with
  | lst a =>
    obtain ⟨n, rfl, hn⟩ := h
    rw [It.next] at e
    cases q : S.get n with
    | none => rw [q] at e; cases e
    | some ob =>
      cases ob with
      | lst xs =>
        rw [q] at e
        obtain ⟨b, hb, ys, h3, h4⟩ := rs.obj n _ q
        rw [hn] at hb; cases hb
        have e' : (match xs[i]? with | some v => some (some (v, G.It.lst n (i + 1))) | .none => (match Nat.beq xs.length i with | true => some .none | false => .none)) = some r := e
        cases z : xs[i]? with
        | none =>
          rw [z] at e'
          have e2 : (match Nat.beq xs.length i with | true => some .none | false => .none) = some r := e'
          cases hb : Nat.beq xs.length i with
          | false => rw [hb] at e2; cases e2
          | true =>
            rw [hb] at e2; cases e2
            have hl := Nat.eq_of_beq_eq_true hb
            exact ⟨ys, h3, by rw [← h4.length]; omega, fun _ => by rw [← h4.length]; exact hl, fun v it' q => nomatch q⟩
        | some v =>
          rw [z] at e'; cases e'
          obtain ⟨y, hy, rv⟩ := h4.get z
          refine ⟨ys, h3, Nat.le_of_lt (List.getElem?_eq_some_iff.mp hy).1, (fun q => nomatch q), fun v' it' q => ?_⟩
          cases q
          exact ⟨y, hy, rv, n, rfl, hn⟩
      | _ => rw [q] at e; cases e
  | tup a =>
    obtain ⟨vs, rfl, hi, xs, h2, h3⟩ := h
    refine ⟨xs, h2, by rw [← h3.length]; exact hi, fun q => ?_, fun v it' q => ?_⟩
    · subst q
      have := drop_nil (vals_end e)
      rw [← h3.length]; omega
    · subst q
      obtain ⟨r, e1, rfl⟩ := vals_next e
      obtain ⟨e2, e3⟩ := drop_cons e1
      obtain ⟨y, hy, rv⟩ := h3.get e2
      exact ⟨y, hy, rv, vs, by rw [e3], (List.getElem?_eq_some_iff.mp e2).1, xs, h2, h3⟩
  | str y =>
    obtain ⟨l, rfl, hl, rfl, hi⟩ := h
    refine ⟨_, rfl, by simpa using hi, fun q => ?_, fun v it' q => ?_⟩
    · subst q
      have := drop_nil (vals_end e)
      simp at this ⊢; omega
    · subst q
      obtain ⟨r, e1, rfl⟩ := vals_next e
      obtain ⟨e2, e3⟩ := drop_cons e1
      rw [List.getElem?_map] at e2
      cases hc : l[i]? with
      | none => rw [hc] at e2; cases e2
      | some c =>
        rw [hc] at e2; cases e2
        exact ⟨.str ⟨#[c]⟩, by simp [hc], RV.str (hl.one (List.mem_of_getElem? hc)), l, rfl, hl, by rw [e3], (List.getElem?_eq_some_iff.mp hc).1⟩
/-- a value that is walked: its kind -/
theorem SK.of {v : Val} {x : V} {it : G.It} (rv : RV m H v x) (rs : RS g m S H) (e : toIt v S = some it) : ∃ k : SK, k.val = x ∧ k.P 0 it m H ∧ ∃ xs, k.cont H xs := by
  cases rv with
  | @tup a xs vs h r => cases e; exact ⟨.tup a, rfl, ⟨vs, rfl, Nat.zero_le _, xs, h, r⟩, xs, h⟩
  | @str l h => cases e; exact ⟨.str ⟨l.toArray⟩, rfl, ⟨l, rfl, h, rfl, Nat.zero_le _⟩, _, rfl⟩
  | @ref n a hm =>
    have e' : (match S.get n with | some (.lst _) => some (G.It.lst n 0) | _ => .none) = some it := e
    cases q : S.get n with
    | none => rw [q] at e'; cases e'
    | some ob =>
      cases ob with
      | lst xs =>
        rw [q] at e'; cases e'
        obtain ⟨b, hb, ys, h3, h4⟩ := rs.obj n _ q
        rw [hm] at hb; cases hb
        exact ⟨.lst _, rfl, ⟨n, rfl, hm⟩, ys, h3⟩
      | _ => rw [q] at e'; cases e'
  | _ => cases e
/-- a new pair for the store -/
theorem pair_new {T : Addr} {x y : V} {v w : Val} (hT : H T = .none) (rs : RS g m S H) (rv : RV m H v x) (rw_ : RV m H w y) : Ex m H m (upd H T (.tup [x, y])) ∧ RS g m S (upd H T (.tup [x, y])) ∧ RV m (upd H T (.tup [x, y])) (.tup [v, w]) (.ref T) := by
  have x1 : Ex m H m (upd H T (.tup [x, y])) := Ex.upd hT
  exact ⟨x1, rs.upd hT, RV.tup upd_same (.cons (rv.mono x1) (.cons (rw_.mono x1) .nil))⟩
theorem walks_enum : Walks g (Jenum k) (fun i it m H => ∃ j, it = .enum (i : Nat) j ∧ k.P i j m H) where
  mono := fun ⟨j, e, h⟩ x => ⟨j, e, SK.P_mono (k := k) h x⟩
  stop := by
    rintro i it m H S ⟨j, rfl, h⟩ rs e
    rw [It.next] at e
    cases q : j.next S with
    | none => rw [q] at e; cases e
    | some r =>
      rw [q] at e
      cases r with
      | some p => cases e
      | none =>
        obtain ⟨xs, h1, h2, h3, h4⟩ := SK.next h rs q
        exact ⟨xs, h1, h3 rfl⟩
  go := by
    rintro i it m H S v it' ⟨j, rfl, h⟩ rs e
    rw [It.next] at e
    cases q : j.next S with
    | none => rw [q] at e; cases e
    | some r =>
      rw [q] at e
      cases r with
      | none => cases e
      | some p =>
        obtain ⟨w, j'⟩ := p
        cases e
        obtain ⟨xs, h1, h2, h3, h4⟩ := SK.next h rs q
        obtain ⟨x, hx, rv, hn⟩ := h4 w j' rfl
        refine ⟨⟨xs, x, h1, hx⟩, fun v H' ⟨T, a, b, e1, hT, e2, e3, e4⟩ => ?_⟩
        subst e1 e2 e3
        have := e4 xs h1
        rw [hx] at this; cases this
        obtain ⟨x1, rs1, r1⟩ := pair_new (v := .int (i : Nat)) hT rs (RV.int _) rv
        exact ⟨x1, rs1, r1, j', by push_cast; rfl, SK.P_mono (k := k) hn x1.toEx0⟩
end
end G
set_option Elab.async false
set_option linter.all false
set_option maxRecDepth 100000
namespace G
open PySem PySem.Spec L2
open PyProof.Rows hiding St
section
variable {X : Cx} {g : Gx} {o : Orc} {W : WX} {pins : List (Addr × PySem.Obj)} {s : Shared} {σ : St} {ρ : G.Env} {m : Mp} {H : Hp} {S : Store} {tg e a b c : PySem.Expr} {ce : G.E} {cs : G.EL} {p pos tpos : Pos} {elts : List PySem.Expr} {kk : Nat}
/-! ### what is walked: values -/
theorem i_val (he : PE X e (tM g o W ce)) : PI X tg e (tI g o W (iVal ce)) := by
  refine ⟨fun pins s σ H R I ⟨m, ρ, S, re, rs, p⟩ => ?_⟩
  refine thnE he I re rs p fun u s1 v S1 m1 H1 x I1 r1 rv1 rs1 re1 e1 p1 => ?_
  cases rv1 with
  | @tup a xs vs h r =>
    cases r1
    obtain ⟨its, rv, pt, hz⟩ := I1.tuple (SqT.of h)
    refine wpAny_pyIter_tuple (show s1.heap.IsTuple a its.toArray from pt) (pi_one (tk := s1.toks) I1 _ (turn_tuple a _) ⟨_, Heap.get?_push_size _ rfl, rfl, rfl⟩ ?_)
    exact p1 m1 H1 _ Ex.rfl' rs1 ⟨_, walks_tup, rfl, xs, h, r⟩
  | @str l h =>
    obtain ⟨t, rfl⟩ := r1
    have q : R (Its ⟨l.toArray⟩) H1 := p1 m1 H1 _ Ex.rfl' rs1 ⟨_, walks_str h, rfl⟩
    cases ha : (⟨l.toArray⟩ : Str).cps.all (· < 128)
    · exact wpAny_pyIter_wide ha (pi_one (tk := s1.toks) I1 _ (turn_str _ _ t "str_iterator" (.inr rfl)) ⟨_, Heap.get?_push_size _ rfl, rfl, rfl⟩ q)
    · exact wpAny_pyIter_ascii ha (pi_one (tk := s1.toks) I1 _ (turn_str _ _ t "str_ascii_iterator" (.inl rfl)) ⟨_, Heap.get?_push_size _ rfl, rfl, rfl⟩ q)
  | @ref n a hm =>
    cases r1
    have p2 : PostG g (RI g) m1 H1 R (atS W σ) (match (match S1.get n with | some (.lst _) => some (G.It.lst n 0) | _ => .none) with | some it => .ok it S1 | .none => .stuck 70) := p1
    cases q : S1.get n with
    | none => rw [q] at p2; exact p2.elim
    | some ob =>
      cases ob with
      | lst xs =>
        rw [q] at p2
        obtain ⟨b, hb, ys, h3, h4⟩ := rs1.obj n _ q
        rw [hm] at hb; cases hb
        obtain ⟨its, rv, pt, hz⟩ := I1.list (SqL.of h3)
        refine wpAny_pyIter_list pt.isList (pi_one (tk := s1.toks) I1 _ (turn_list _ _) ⟨_, Heap.get?_push_size _ rfl, rfl, rfl⟩ ?_)
        exact p2 m1 H1 _ Ex.rfl' rs1 ⟨_, walks_list, rfl, hm⟩
      | _ => rw [q] at p2; exact p2.elim
  | _ => exact p1.elim
theorem i_enum (hg : Gl X "enumerate") (hm : X.mg "enumerate" = .none) (ha : PE X e (tM g o W ce)) (hs : starEach [e] X.env = (false, eval e X.env) :: starEach [] X.env) : PI X (.Tuple elts kk tpos) (.Call (.Name "enumerate" p) [e] [] pos) (tI g o W (iEnum ce)) := by
  refine ⟨fun pins s σ H R I ⟨m, ρ, S, re, rs, pp⟩ => ?_⟩
  have hl : PA X [e] (tL g o W (elCons ce elNil)) := l_cons ha l_nil hs
  have p2 : PostG g (RI g) m H R (atS W σ) ((elCons ce elNil o ρ S).bind fun vs S => match vs with | [x] => (match toIt x S with | some it => .ok (.enum 0 it) S | .none => .stuck 70) | _ => .stuck 70) := by
    unfold iEnum at pp
    unfold elCons elNil
    rw [bindA]
    exact pp
  refine Call_ (ld_blt I hg hm boot_enumerate (PyProof.Rows.callWith_type1 (thnL (pos := pos) hl I re rs p2 fun us s1 vs S1 m1 H1 xs I1 r1 rv1 rs1 re1 e1 p1 => ?_) hs rfl))
  cases rv1 with
  | nil => exact p1.elim
  | @cons v x vs xs rv rvs =>
    cases rvs with
    | cons _ _ => exact p1.elim
    | nil =>
      cases r1 with
      | cons r rr =>
        cases rr
        cases e2 : toIt v S1 with
        | none =>
          have p1' : PostG g (RI g) m1 H1 R (atS W σ) (match toIt v S1 with | some it => .ok (.enum 0 it) S1 | .none => .stuck 70) := p1
          rw [e2] at p1'; exact p1'.elim
        | some it =>
          have p1' : PostG g (RI g) m1 H1 R (atS W σ) (match toIt v S1 with | some it => .ok (.enum 0 it) S1 | .none => .stuck 70) := p1
          rw [e2] at p1'
          obtain ⟨k, rfl, hk, ys, hc⟩ := SK.of rv rs1 e2
          obtain ⟨B, hB, hb, hst⟩ := SK.begins (it := s1.heap.objs.size) I1 hc r
          refine enum_begins1 hB hb fun h' he hob hsz hk2 => wpAny_pyIter_enum he ?_
          have I2 : Inv X pins σ H1 { s1 with heap := h' } := I1.kept (t' := s1.toks) hk2
          refine ⟨s1.heap.objs.size + 1, [s1.heap.objs.size + 1, s1.heap.objs.size], _, _, H1, rfl, I2, turn_enumS k (s1.heap.objs.size + 1) s1.heap.objs.size, ⟨⟨.none, he⟩, hst _ hob, Nat.succ_ne_self _⟩, fun b hb => ?_, ?_⟩
          · have e' : b = s1.heap.objs.size + 1 ∨ b = s1.heap.objs.size := by simpa using hb
            have hle : s1.heap.objs.size ≤ b := by
              rcases e' with z | z
              · rw [z]; exact Nat.le_add_right _ _
              · rw [z]; exact Nat.le_refl _
            exact I1.fpOk hle (I1.hok.fresh hle)
          · exact p1' m1 H1 _ Ex.rfl' rs1 ⟨_, walks_enum, it, rfl, hk⟩
/-! ### range -/
theorem smallI_lt {i : Int} (h : smallI i = true) : -(2 ^ 62) ≤ i ∧ i < 2 ^ 62 := by
  have : i.natAbs < 2 ^ 24 := by simpa [smallI, Nat.blt_eq] using h
  omega
theorem i_range1 (hg : Gl X "range") (hm : X.mg "range" = .none) (ha : PA X [a] (tL g o W cs)) (hs : starEach [a] X.env = [(false, eval a X.env)]) : PI X tg (.Call (.Name "range" p) [a] [] pos) (tI g o W (iRange cs)) := by
  refine ⟨fun pins s σ H R I ⟨m, ρ, S, re, rs, pp⟩ => ?_⟩
  refine Call_ (ld_blt I hg hm boot_range (PyProof.Rows.callWith_type1 (thnL (pos := pos) ha I re rs pp fun us s1 vs S1 m1 H1 xs I1 r1 rv1 rs1 re1 e1 p1 => ?_) hs rfl))
  cases rv1 with
  | nil => exact p1.elim
  | @cons v x vs xs rv rvs =>
    cases rv with
    | int j =>
      cases rvs with
      | cons _ _ => exact p1.elim
      | nil =>
        cases r1 with
        | cons r rr =>
          cases rr
          obtain ⟨t, rfl⟩ := r
          have p2 : PostG g (RI g) m1 H1 R (atS W σ) (match smallI j with | true => .ok (.vals (upTo 0 j.toNat)) S1 | false => .stuck 71) := p1
          cases e : smallI j with
          | false => rw [e] at p2; exact p2.elim
          | true =>
            rw [e] at p2
            obtain ⟨b1, b2⟩ := smallI_lt e
            exact call_range_1 (range_it I1 (by omega) (by omega) b1 b2 (by simpa using p2 m1 H1 _ Ex.rfl' rs1 ⟨_, walks_range, rfl⟩))
    | _ => exact p1.elim
end
end G
set_option Elab.async false
set_option linter.all false
set_option maxRecDepth 100000
namespace G
open PySem PySem.Spec L2
open PyProof.Rows hiding St
/-! ### functions -/
def spG (g : Gx) (t : Tb) (n f : Nat) : Sp := fun vs H Q E => ∃ m args S, RVs m H args vs ∧ RS g m S H ∧ PostG g RV m H Q E (callN t n f args S)
theorem spG_len {g : Gx} {t : Tb} {n f k : Nat} (hn : (t.fn f).np = k) (vs : List V) (H : Hp) (Q : VK) (E : XK) (h : spG g t n f vs H Q E) : vs.length = k := by
  obtain ⟨m, args, S, rv, rs, p⟩ := h
  cases n with
  | zero => exact p.elim
  | succ n =>
    rw [callN, runFn] at p
    cases e : Nat.beq args.length (t.fn f).np with
    | false => rw [e] at p; exact p.elim
    | true => rw [← rv.length, ← hn]; exact Nat.eq_of_beq_eq_true e
theorem RE.start {m : Mp} {H : Hp} {args : List Val} {vs : List V} (rv : RVs m H args vs) (k : Nat) : RE m H (args.map some ++ List.replicate (k - args.length) .none) (vs.map some ++ List.replicate (k - vs.length) .none) := by
  have hl := rv.length
  refine ⟨by simp [hl], fun i v h => ?_⟩
  by_cases hi : i < args.length
  · rw [List.getElem?_append_left (by simpa using hi)] at h
    rw [List.getElem?_append_left (by simp; omega)]
    rw [List.getElem?_map] at h ⊢
    cases e : args[i]? with
    | none => rw [e] at h; cases h
    | some w =>
      rw [e] at h
      cases h
      obtain ⟨y, h1, h2⟩ := rv.get e
      exact ⟨y, by rw [h1]; rfl, .inl h2⟩
  · rw [List.getElem?_append_right (by simpa using hi)] at h
    have := List.mem_of_getElem? h
    rw [List.mem_replicate] at this
    cases this.2
/-- every function of the text, at level n -/
structure Ft where
  a : Nat → Addr
  fd : Nat → FuncData
  ps : Nat → List Str
/-- room for n calls, and no guard -/
structure Rm (n : Nat) (A : Around) : Prop where
  hd : A.handled = .none
  dp : A.depth + 2 * n + 40 < recursionLimit
  un : A.units + 16 * n + 500 < cLine
  gd : A.guards = some []
theorem Rm.room {n : Nat} {A : Around} (r : Rm n A) : Room 2 A := ⟨r.hd, by have := r.dp; omega, by have := r.un; omega⟩
/-- the same within a body: one depth more, for an instance that is made -/
structure Rb (n : Nat) (A : Around) : Prop where
  hd : A.handled = .none
  dp : A.depth + 2 * n + 41 < recursionLimit
  un : A.units + 16 * n + 510 < cLine
  gd : A.guards = some []
theorem Rm.deeper {n : Nat} {A : Around} (r : Rm (n + 1) A) (env : PySem.Env) : Rb n (A.deeper env) :=
  ⟨r.hd, by have := r.dp; show A.depth + 1 + 2 * n + 41 < _; omega, by have := r.un; show A.units + 3 + 16 * n + 510 < _; omega, r.gd⟩
theorem Rb.rm {n : Nat} {A : Around} (r : Rb n A) : Rm n A := ⟨r.hd, by have := r.dp; omega, by have := r.un; omega, r.gd⟩
/-- a def's promise, at such room -/
structure FnG (P : Program) (w : World) (K : PySem.W.Frag) (mg : Str → Option Value) (base : Heap) (n : Nat) (f : Addr) (fd : FuncData) (ps : List Str) (sp : Sp) : Prop where
  len : ∀ vs H Q E, sp vs H Q E → vs.length = ps.length
  run : ∀ (A : Around) (outer : List PySem.Env) (s : Shared) (H : Hp) (args : Args) (us : List Value) (vs : List V) (Q : VK) (E : XK), Rm n A → Env0 P w K mg base A outer s H → BindsTo s fd args (ps.zip us) → Vals vs us → sp vs H Q E →
    codeAny (model P w) A (.call (.ref f) args) (CR (L2.CX P w) outer P w H s Q E) s
def AllOk (P : Program) (w : World) (K : PySem.W.Frag) (mg : Str → Option Value) (base : Heap) (g : Gx) (t : Tb) (F : Ft) (nf n : Nat) : Prop :=
  ∀ f, f < nf → FnG P w K mg base n (F.a f) (F.fd f) (F.ps f) (spG g t n f)
theorem fnOk0 {P : Program} {w : World} {K : PySem.W.Frag} {mg : Str → Option Value} {base : Heap} {g : Gx} {t : Tb} {i k : Nat} {a : Addr} {fd : FuncData} {ps : List Str} : FnG P w K mg base k a fd ps (spG g t 0 i) :=
  ⟨fun vs H Q E ⟨m, args, S, rv, rs, p⟩ => p.elim, fun A outer s H args us vs Q E hr he hb hv ⟨m, args', S, rv, rs, p⟩ => p.elim⟩
/-- a def by its body's code -/
theorem fn_ok {P : Program} {w : World} {K : PySem.W.Frag} {mg : Str → Option Value} {base : Heap} {g : Gx} {t : Tb} {n i : Nat} {f : Addr} {name qual : Str} {params : Arguments} {body : List Stmt} {scope : Scope} {dV kV doc pm cdv ct oc : Value} {an od : Option Addr}
    {osl : Array (Option Value)} {N ps : List Str} (lk : K.lookup f = some ⟨oc, od, .func (PySem.W.fnOf name qual params body scope dV kV doc pm an cdv ct), osl⟩) (hcd : PySem.W.codeIn K cdv qual = true) (S : FnScope N ps scope)
    (hnp : (t.fn i).np = ps.length) (hns : (t.fn i).ns = N.length)
    (hbody : ∀ (A : Around) (outer : List PySem.Env) (s : Shared) (H : Hp) (E : XK), Rb n (A.deeper (envOfC qual scope s.heap.objs.size f cdv)) →
      PSs (cxOf (L2.CX P w) P w K mg base N qual scope f cdv A outer s H E) body (tS g (orcN t n) (fun c d _ H => E c d H) (t.fn i).body)) :
    FnG P w K mg base (n + 1) f (PySem.W.fnOf name qual params body scope dV kV doc pm an cdv ct) ps (spG g t (n + 1) i) := by
  refine ⟨fun vs H Q E h => spG_len hnp vs H Q E h, fun A outer s H bargs us vs Q E hr e0 hb r hsp => ?_⟩
  have hlen := spG_len hnp vs H Q E hsp
  have inK : K.In s.heap := e0.mod.kin.keeps fun b o e => (e0.bs b o e).1
  have limit : s.heap.NoLimit := e0.mod.nolimit.keeps fun b o e => (e0.bs b o e).1
  have kinds : ∀ y ∈ ps.zip us, scope.names.lookup y.1 = some .local ∨ (scope.names.lookup y.1 = some .cell ∧ ((cellsFrom (s.heap.objs.size + 1) scope.names []).lookup y.1).isSome = true) := by
    rintro ⟨z, v⟩ hz
    exact (S.par z (List.of_mem_zip hz).1).imp id fun q => ⟨q, PySem.W.cellsFrom_some _ _ _ (.inl q)⟩
  refine codeAny_call_function (by have := hr.dp; omega) (inK _ _ lk) rfl S.co S.gen rfl (PySem.W.codeRec_of inK hcd) (hb _ _ _ _ (wpAny_newFunctionEnv_cells S.kind kinds fun ev hev s1 ic => ?_))
  subst hev
  refine ⟨limit.keeps ic.toInCall.keep, codeAny_func ?_⟩
  have I := inv_start (CX := L2.CX P w) (E := E) S hr.hd e0 hlen r ic
  have start : tS g (orcN t n) (fun c d _ H => E c d H) (t.fn i).body { nx := fun _ H' => Q .non H', rt := Q } (L2.start N vs) H := by
    obtain ⟨m, args, St, rv, rs, p⟩ := hsp
    rw [callN, runFn] at p
    cases e : Nat.beq args.length (t.fn i).np with
    | false => rw [e] at p; exact p.elim
    | true =>
      rw [e] at p
      have hl := Nat.eq_of_beq_eq_true e
      refine ⟨m, args.map some ++ List.replicate (N.length - args.length) .none, St, RE.start rv N.length, rs, ?_⟩
      have p2 : PostG g RV m H Q E (match (t.fn i).body (orcN t n) (args.map some ++ List.replicate (N.length - args.length) .none) St with
        | .nx _ S => .ok .none S
        | .rt v S => .ok v S
        | .bk _ _ => .stuck 301
        | .exc c fs _ S => .exc c fs S
        | .stuck w => .stuck w) := by
        rw [hl, ← hns]; exact p
      revert p2
      cases (t.fn i).body (orcN t n) (args.map some ++ List.replicate (N.length - args.length) .none) St with
      | nx ρ S => exact fun p2 m' H' σ' x rs' re' => p2 m' H' .non x rs' .none
      | rt v S => exact fun p2 m' H' y x rs' rv' => p2 m' H' y x rs' rv'
      | bk ρ S => exact fun p2 => p2.elim
      | exc c fs ρ S => exact fun p2 m' H' σ' d x rs' re' q => p2 m' H' d x rs' q
      | stuck w => exact fun p2 => p2
  refine wpAny_mono ((hbody A outer s H E (hr.deeper _)).run [] s1 _ H _ I start) (fun fl s' hs => ?_) fun e s' hs => hs
  cases fl with
  | ret u =>
    obtain ⟨v, σ', H', J, rv, q⟩ := hs
    exact ⟨v, H', J.os, J.bare, J.base, J.hok, rv, q⟩
  | next =>
    obtain ⟨σ', H', J, q⟩ := hs
    exact ⟨V.non, H', J.os, J.bare, J.base, J.hok, rfl, q⟩
  | brk => exact hs.elim fun _ h => h.elim fun _ h => h.2.elim
  | cont => exact hs.elim fun _ h => h.elim fun _ h => h.2.elim
/-- a call of such a def -/
theorem run_fnG {X : Cx} {n : Nat} {a : Addr} {fd : FuncData} {ps : List Str} {sp : Sp} {ds : List Value} {dvs : List V} {W : WX} {pins : List (Addr × PySem.Obj)} {σ : St} {H : Hp} {s : Shared} {Q : VK} {us : List Value} {vs : List V} (F : FnG X.prog X.w X.K X.mg X.base n a fd ps sp) (hr : Rm n X.A)
    (hb : Binds X.K fd ps ds) (hd : Vals dvs ds) (tk : Takes X W) (I : Inv X pins σ H s) (r : Vals vs us) (h : sp (vs ++ dvs) H Q (fun c d H => W c d σ H)) : wpAny (model X.prog X.w) X.A (call (.ref a) us) (EP X pins σ Q) X.xe s := by
  have rr : Vals (vs ++ dvs) (us ++ ds) := r.append hd
  refine wpAny_call (codeAny_mono (F.run X.A X.stack s H ⟨us, []⟩ _ _ Q _ hr I.env0 (hb s us I.kIn (by rw [← rr.length]; exact F.len _ _ _ _ h)) rr h) fun ans s' hq => ?_)
  match ans, hq with
  | .error e, hq => exact passAt tk σ pins H s e s' I hq
  | .ok (.ret u), hq => exact I.after hq
/-- what stands in a context -/
structure Rn (X : Cx) (g : Gx) (o : Orc) (t : Tb) (F : Ft) (nf n : Nat) (W : WX) : Prop where
  K : g.K = X.K
  P : g.P = X.prog
  w : g.w = X.w
  nd : X.N.Nodup
  calm : X.calm = true
  room : Rb n X.A
  takes : Takes X W
  owns : PassesOwn (model X.prog X.w) X.A X.env X.xe
  orc : o = orcN t n
  ok : AllOk X.prog X.w X.K X.mg X.base g t F nf n
theorem takes_blk {X : Cx} {s : Shared} {H : Hp} {scope : Scope} {cenv : PySem.Env} {fp : List Addr} : Takes (X.blk s H scope cenv fp) Wno := fun u s' ⟨_, _, _, _, _, _, _, _, _, _, _, _, _, _, _, _, h⟩ => h.elim
section
variable {X : Cx} {g : Gx} {o : Orc} {W : WX} {t : Tb} {F : Ft} {nf n : Nat} {pins : List (Addr × PySem.Obj)} {s : Shared} {σ : St} {ρ : G.Env} {m : Mp} {H : Hp} {S : Store} {pos p apos : Pos} {e : PySem.Expr} {es : List PySem.Expr} {cs : G.EL} {x : Str}
theorem Rn.blk (R : Rn X g o t F nf n W) {s : Shared} {H : Hp} {scope : Scope} {C : Addr} {cl : List (Str × Addr)} {fp : List Addr} : Rn (X.blk s H scope (compEnvC scope cl C X.env) fp) g o t F nf n Wno :=
  ⟨R.K, R.P, R.w, R.nd, R.calm, R.room, takes_blk, PassesOwn.never, R.orc, R.ok⟩
theorem Rn.tr (R : Rn X g o t F nf n W) {W' : WX} {pn : List (Addr × PySem.Obj)} {xe : Value → Shared → Prop} (h1 : Takes (X.tr pn xe) W') (h2 : PassesOwn (model X.prog X.w) X.A X.env xe) : Rn (X.tr pn xe) g o t F nf n W' :=
  ⟨R.K, R.P, R.w, R.nd, R.calm, R.room, h1, h2, R.orc, R.ok⟩
/-- a def's context -/
theorem Rn.fn {P : Program} {w : World} {K : PySem.W.Frag} {mg : Str → Option Value} {base : Heap} {N : List Str} {qual : Str} {scope : Scope} {f : Addr} {cd : Value} {A : Around} {outer : List PySem.Env} {s : Shared} {H : Hp} {E : XK}
    (hK : g.K = K) (hP : g.P = P) (hw : g.w = w) (nd : N.Nodup) (hr : Rb n (A.deeper (envOfC qual scope s.heap.objs.size f cd))) (ok : AllOk P w K mg base g t F nf n) :
    Rn (cxOf (L2.CX P w) P w K mg base N qual scope f cd A outer s H E) g (orcN t n) t F nf n (fun c d _ H => E c d H) :=
  ⟨hK, hP, hw, nd, rfl, hr, takes_of (E := E) rfl rfl rfl rfl, passes_of rfl, rfl, ok⟩
/-! ### calls of defs -/
theorem e_call (R : Rn X g o t F nf n W) {f : Nat} (hf : f < nf) (hg : Gl X x) (hm : X.mg x = some (.ref (F.a f))) (hk : PySem.W.keepIn X.K (.ref (F.a f)) = true) (hb : Binds X.K (F.fd f) (F.ps f) [])
    (ha : PA X (e :: es) (tL g o W cs)) (hdb : (x == ("__debug__" : Str)) = false) (he : starEach (e :: es) X.env = (false, eval e X.env) :: starEach es X.env) (hpl : (backTo pos (starEach es X.env)).any (·.1) = false) :
    PE X (.Call (.Name x p) (e :: es) [] pos) (tM g o W (eCall f cs)) := by
  refine ⟨fun pins s σ H Q I ⟨m, ρ, S, re, rs, pp⟩ => wpAny_Call_Name_kw (ld_glob I hg hm ?_ hdb)⟩
  refine PySem.W.callWith_K (h₀ := X.base) I.ok.mod.kin hk (thnL (pos := pos) ha I re rs pp fun us s1 vs S1 m1 H1 xs I1 r1 rv1 rs1 re1 e1 p1 => ⟨I1.kIn, ?_⟩) he hpl
  rw [R.orc] at p1
  exact run_fnG (R.ok f hf) R.room.rm hb .nil R.takes I1 r1 ⟨m1, vs, S1, by rw [List.append_nil]; exact rv1, rs1, p1⟩
end
end G
set_option Elab.async false
set_option linter.all false
set_option maxRecDepth 100000
namespace G
open PySem PySem.Spec L2
open PyProof.Rows hiding St
/-! ### exceptions with one field -/
section
variable {X : Cx} {g : Gx} {o : Orc} {W : WX} {t : Tb} {F : Ft} {nf n : Nat} {pins : List (Addr × PySem.Obj)} {s : Shared} {σ : St} {ρ : G.Env} {m : Mp} {H : Hp} {S : Store} {pos p apos : Pos} {e : PySem.Expr} {es : List PySem.Expr} {cs : G.EL} {ce : G.E} {x : Str}
/-! ### try -/
theorem Ex0.ea {m : Mp} {H : Hp} {a : Addr} : Ex0 m H { m with ea := a } H := ⟨rfl, List.prefix_rfl, fun _ _ h _ => h⟩
def Gx.at_ (g : Gx) (a : Addr) (d : Option Addr) (fs : List (Nat × Val)) : Gx := { g with ex := match d with | some a => some (a, fs) | .none => .none, ea := some a }
theorem DR.gx {g g' : Gx} (hP : g'.P = g.P) (hw : g'.w = g.w) {m : Mp} {H : Hp} {kvs : List (Val × Val)} {es : Array DictEntry} (r : DR g m H kvs es) : DR g' m H kvs es := by
  obtain ⟨P, w, K, nm, nf, cl, xc, ex, ea⟩ := g
  obtain ⟨P', w', K', nm', nf', cl', xc', ex', ea'⟩ := g'
  have e1 : P' = P := hP
  have e2 : w' = w := hw
  subst e1 e2
  cases r with
  | tup xs he hn hr => exact .tup xs he hn hr
  | flat xs hk he hn hr => exact .flat xs hk he hn hr
theorem RO.gx {m : Mp} {H : Hp} {a : Addr} {ob : G.Obj} {ex : Option (Addr × List (Nat × Val))} {ea : Option Addr} (r : RO g m H a ob) : RO { g with ex := ex, ea := ea } m H a ob := by
  cases ob with
  | lst xs => exact r
  | dct kvs => obtain ⟨z, es, h, q⟩ := r; exact ⟨z, es, h, DR.gx (g := g) (g' := { g with ex := ex, ea := ea }) rfl rfl q⟩
  | set xs => exact r
  | fz kvs => obtain ⟨z, b, es, h, q⟩ := r; exact ⟨z, b, es, h, DR.gx (g := g) (g' := { g with ex := ex, ea := ea }) rfl rfl q⟩
  | ins c fs => obtain ⟨⟨f1, f2⟩, q⟩ := r; exact ⟨⟨f1, fun p hp => ⟨(f2 p hp).lt, (f2 p hp).no⟩⟩, q⟩
theorem RS.gx {a : Addr} {ex : Option (Addr × List (Nat × Val))} {ea : Option Addr} (rs : RS g m S H) (h : ∀ b fs, ex = some (b, fs) → b ∉ m.l ∧ ∃ hs, H b = some (.xd hs) ∧ RF g m H fs hs) (h2 : ∀ b, ea = some b → a = b) : RS { g with ex := ex, ea := ea } { m with ea := a } S H :=
  ⟨rs.K, rs.len, rs.lim, rs.inj, fun n o hn => let ⟨b, hb, ro⟩ := rs.obj n o hn; ⟨b, hb, RO.mono0 Ex0.ea (fun _ q => q) ro.gx⟩, rs.all, (fun b fs hb => let ⟨h1, hs, h2, h3⟩ := h b fs hb; ⟨h1, hs, h2, RF.mono0 (g := g) Ex0.ea h3⟩), h2⟩
theorem RE.clr {a : Addr} (re : RE m H ρ σ) : RE { m with ea := a } H (clr ρ) σ := by
  refine ⟨by simp [G.clr, re.len], fun i v h => ?_⟩
  unfold G.clr at h
  rw [List.getElem?_map] at h
  cases e : ρ[i]? with
  | none => rw [e] at h; cases h
  | some w =>
    rw [e] at h
    cases w with
    | none => cases h
    | some w =>
      have ne : w ≠ .err := by rintro rfl; cases h
      have hw : w = v := by cases w <;> first | exact absurd rfl ne | (cases h; rfl)
      subst hw
      obtain ⟨y, h1, h2⟩ := re.get e ne
      exact ⟨y, h1, .inl (h2.mono0 Ex0.ea)⟩
/-- fields that are told -/
structure FsOk (g : Gx) (fs : List (Nat × Val)) (d : Option Addr) : Prop where
  no : d = .none → fs = []
  lt : ∀ p ∈ fs, p.1 < g.nf
/-- what a suite is to keep: for whatever it caught -/
abbrev SuOk (X : Cx) (g : Gx) (o : Orc) (ys : List Nat) (su : List Stmt) (k : G.C) : Prop := ∀ (a : Addr) (oe : PySem.Obj) (c : Nat) (d : Option Addr) (fs : List (Nat × Val)) (pn : List (Addr × PySem.Obj)), Zc (.ref (g.xc c)) d oe → (∃ vs, oe.data = .fields vs) → ys.any (Nat.beq c) = true → FsOk g fs d →
  PSs (X.suite a ((a, oe) :: pn)) su (fun D σ H => ∃ m ρ S, RE m H ρ σ ∧ RS (g.at_ a d fs) m S H ∧ PostS (g.at_ a d fs) m H D (fun _ _ _ _ => False) (k { o with err := some fs } ρ S))
def tsG (g : Gx) (o : Orc) (ys : List Nat) (k : G.C) (a : Addr) (cls : Value) (d : Option Addr) : TS := fun D σ H => ∃ c fs m ρ S, cls = .ref (g.xc c) ∧ ys.any (Nat.beq c) = true ∧ FsOk g fs d ∧ RE m H ρ σ ∧ RS (g.at_ a d fs) m S H ∧ PostS (g.at_ a d fs) m H D (fun _ _ _ _ => False) (k { o with err := some fs } ρ S)
theorem SuOk.run {ys : List Nat} {su : List Stmt} {k : G.C} (h : SuOk X g o ys su k) (a : Addr) (oe : PySem.Obj) (cls : Value) (d : Option Addr) (pn : List (Addr × PySem.Obj)) (hz : Zc cls d oe) (hf : ∃ vs, oe.data = .fields vs) : PSs (X.suite a ((a, oe) :: pn)) su (tsG g o ys k a cls d) :=
  ⟨fun pins s σ H D I ⟨c, fs, m, ρ, S, e, hc, hq, q⟩ => by
    subst e
    exact (h a oe c d fs pn hz hf hc hq).run pins s σ H D I ⟨m, ρ, S, q⟩⟩
/-- a clause's class, told by numbers -/
structure ClOk (K : PySem.W.Frag) (g : Gx) (v : Value) (ys ns : List Nat) : Prop where
  yes : ∀ c ∈ ys, PySem.W.exmOne K (.ref (g.xc c)) v = some true
  no : ∀ c ∈ ns, PySem.W.exmOne K (.ref (g.xc c)) v = some false
/-! ### in a suite -/
end
end G
set_option Elab.async false
set_option linter.all false
set_option maxRecDepth 100000
namespace G
open PySem PySem.Spec L2
open PyProof.Rows hiding St
/-! ### data -/
def dat (S : Store) : Nat → Val → PyData
  | 0, _ => .none
  | k + 1, x => match x with
    | .bool b => .bool b
    | .int i => .int i
    | .str s => .str ⟨s.toArray⟩
    | .tup a => .tuple (a.map (dat S k))
    | .ref a => match isList (S.get a) with
      | some xs => .list (xs.map (dat S k))
      | .none => .none
    | _ => .none
section
variable {g : Gx} {m : Mp} {H : Hp} {S : Store} {K : PySem.W.Frag}
theorem dat_ok (rs : RS g m S H) : ∀ (k : Nat) (v : Val) (x : V), dOk S k v = true → RV m H v x → Dp K H x (dat S k v)
  | 0, v, x, h, r => by cases h
  | k + 1, v, x, h, r => by
    have all : ∀ (vs : List Val) (xs : List V), vs.all (dOk S k) = true → RVs m H vs xs → DpAll K H xs (vs.map (dat S k)) := by
      intro vs
      induction vs with
      | nil => intro xs _ r; cases r; exact .nil
      | cons v vs ih =>
        intro xs h r
        cases r with
        | cons r1 r2 =>
          obtain ⟨h1, h2⟩ := Bool.and_eq_true_iff.mp h
          exact .cons (dat_ok rs k v _ h1 r1) (ih _ h2 r2)
    cases r with
    | none => exact .non
    | bool b => exact .bl b
    | int i => exact .int i
    | str hs => exact .str _
    | tup ha r => exact .tup (SqT.of ha) (all _ _ h r)
    | @ref n a hm =>
      have h' : (match isList (S.get n) with | some xs => xs.all (dOk S k) | .none => false) = true := h
      cases e : isList (S.get n) with
      | none => rw [e] at h'; cases h'
      | some xs =>
        rw [e] at h'
        obtain ⟨q, ys, h1, _, h2, h3⟩ := rs.list (isList_of e) (RV.ref hm)
        cases h1
        have : dat S (k + 1) (.ref n) = .list (xs.map (dat S k)) := by
          show (match isList (S.get n) with | some xs => PyData.list (xs.map (dat S k)) | .none => .none) = _
          rw [e]
        rw [this]
        exact .lst (SqL.of h2) (all _ _ h' h3)
    | scr _ => cases h
theorem dat_depth (S : Store) : ∀ (k : Nat) (v : Val), (dat S k v).depth ≤ k
  | 0, v => Nat.zero_le _
  | k + 1, v => by
    have all : ∀ (vs : List Val), PyData.depthAll (vs.map (dat S k)) ≤ k := by
      intro vs
      induction vs with
      | nil => exact Nat.zero_le _
      | cons v vs ih => exact Nat.max_le.mpr ⟨dat_depth S k v, ih⟩
    cases v with
    | tup a => exact Nat.succ_le_succ (all a)
    | ref n =>
      show (match isList (S.get n) with | some xs => PyData.list (xs.map (dat S k)) | .none => .none).depth ≤ _
      cases isList (S.get n) with
      | none => exact Nat.zero_le _
      | some xs => exact Nat.succ_le_succ (all xs)
    | _ => exact Nat.zero_le _
theorem strOk_of {l : List Nat} (h : sOk l) : PyData.strOk ⟨l.toArray⟩ = true := by
  unfold PyData.strOk
  rw [← Array.all_toList]
  exact List.all_eq_true.mpr fun c hc => decide_eq_true (Nat.lt_trans (h.2 c (by simpa using hc)) (by decide))
theorem dat_lay (rs : RS g m S H) : ∀ (k : Nat) (v : Val) (x : V), RV m H v x → (dat S k v).canLay0 = true
  | 0, v, x, r => rfl
  | k + 1, v, x, r => by
    have all : ∀ (vs : List Val) (xs : List V), RVs m H vs xs → PyData.canLayAll0 (vs.map (dat S k)) = true := by
      intro vs
      induction vs with
      | nil => intro xs r; rfl
      | cons v vs ih =>
        intro xs r
        cases r with
        | cons r1 r2 => exact Bool.and_eq_true_iff.mpr ⟨dat_lay rs k v _ r1, ih _ r2⟩
    cases r with
    | str hs => exact strOk_of hs
    | tup ha r => exact all _ _ r
    | @ref n a hm =>
      show (match isList (S.get n) with | some xs => PyData.list (xs.map (dat S k)) | .none => .none).canLay0 = true
      cases e : isList (S.get n) with
      | none => rfl
      | some xs =>
        obtain ⟨q, ys, h1, _, h2, h3⟩ := rs.list (isList_of e) (RV.ref hm)
        exact all _ _ h3
    | _ => rfl
theorem dat_shaped (rs : RS g m S H) {k : Nat} (hk : k ≤ 64) {v : Val} {x : V} (r : RV m H v x) : SeqAt.shaped (dat S k v) = true :=
  Bool.and_eq_true_iff.mpr ⟨dat_lay rs k v x r, decide_eq_true (Nat.le_trans (dat_depth S k v) hk)⟩
theorem boolEq_eq : ∀ a b : Bool, boolEq a b = (a == b)
  | true, true => rfl
  | true, false => rfl
  | false, true => rfl
  | false, false => rfl
theorem intEq_beq (i j : Int) : intEq i j = (i == j) := by rw [intEq_eq]; exact (Bool.beq_eq_decide_eq i j).symm
theorem b2i_eq (b : Bool) : G.b2i b = if b = true then 1 else 0 := by cases b <;> rfl
theorem strEq_eq : ∀ a b : List Nat, strEq a b = decide (a = b)
  | [], [] => rfl
  | [], _ :: _ => rfl
  | _ :: _, [] => rfl
  | a :: r, b :: s => by
    rw [strEq]
    cases e : Nat.beq a b with
    | true =>
      have := Nat.eq_of_beq_eq_true e
      subst this
      show strEq r s = _
      rw [strEq_eq r s]
      exact decide_eq_decide.mpr ⟨fun h => by rw [h], fun h => by cases h; rfl⟩
    | false =>
      have : a ≠ b := fun h => by rw [h, Nat.beq_refl] at e; cases e
      exact (decide_eq_false fun h => this (List.cons.inj h).1).symm
theorem strEq_beq (a b : List Nat) : strEq a b = ((⟨a.toArray⟩ : Str) == ⟨b.toArray⟩) := by
  rw [strEq_eq]
  exact (SX.S_beq_eq (a := a) (b := b)).symm
theorem eqF_dat : ∀ (k : Nat) (x y : Val), dOk S k x = true → dOk S k y = true → eqF S k x y = some (PyData.eqv (dat S k x) (dat S k y))
  | 0, x, y, h, _ => by cases h
  | k + 1, x, y, hx, hy => by
    have all : ∀ (a b : List Val), a.all (dOk S k) = true → b.all (dOk S k) = true → eqL (eqF S k) a b = some (PyData.eqvAll (a.map (dat S k)) (b.map (dat S k))) := by
      intro a
      induction a with
      | nil =>
        intro b _ _
        cases b <;> rfl
      | cons u a ih =>
        intro b h1 h2
        cases b with
        | nil => rfl
        | cons v b =>
          obtain ⟨h3, h4⟩ := Bool.and_eq_true_iff.mp h1
          obtain ⟨h5, h6⟩ := Bool.and_eq_true_iff.mp h2
          rw [eqL, eqF_dat k u v h3 h5]
          show (match some (PyData.eqv (dat S k u) (dat S k v)) with | some true => eqL (eqF S k) a b | some false => some false | .none => .none) = some (PyData.eqv (dat S k u) (dat S k v) && PyData.eqvAll (a.map (dat S k)) (b.map (dat S k)))
          cases PyData.eqv (dat S k u) (dat S k v) with
          | true => exact ih b h4 h6
          | false => rfl
    have lst : ∀ (n : Nat), dOk S (k + 1) (.ref n) = true → ∃ xs, isList (S.get n) = some xs ∧ xs.all (dOk S k) = true ∧ dat S (k + 1) (.ref n) = .list (xs.map (dat S k)) := by
      intro n h
      have h' : (match isList (S.get n) with | some xs => xs.all (dOk S k) | .none => false) = true := h
      cases e : isList (S.get n) with
      | none => rw [e] at h'; cases h'
      | some xs =>
        rw [e] at h'
        refine ⟨xs, rfl, h', ?_⟩
        show (match isList (S.get n) with | some xs => PyData.list (xs.map (dat S k)) | .none => .none) = _
        rw [e]
    cases x with
    | none => cases y <;> first | rfl | (cases hy; done) | (obtain ⟨ys, e1, e2, e3⟩ := lst _ hy; rw [e3]; simp only [eqF, e1]; rfl)
    | bool a =>
      cases y with
      | bool b => show some (boolEq a b) = some (a == b); rw [boolEq_eq]
      | int j => show some (intEq (G.b2i a) j) = some ((if a then 1 else 0) == j); rw [intEq_beq, b2i_eq]
      | ref n => obtain ⟨ys, e1, e2, e3⟩ := lst _ hy; rw [e3]; simp only [eqF, e1]; rfl
      | scr _ => cases hy
      | err => cases hy
      | _ => rfl
    | int i =>
      cases y with
      | bool b => show some (intEq i (G.b2i b)) = some (i == (if b then 1 else 0)); rw [intEq_beq, b2i_eq]
      | int j => show some (intEq i j) = some (i == j); rw [intEq_beq]
      | ref n => obtain ⟨ys, e1, e2, e3⟩ := lst _ hy; rw [e3]; simp only [eqF, e1]; rfl
      | scr _ => cases hy
      | err => cases hy
      | _ => rfl
    | str a =>
      cases y with
      | str b => show some (strEq a b) = some ((⟨a.toArray⟩ : Str) == ⟨b.toArray⟩); rw [strEq_beq]
      | ref n => obtain ⟨ys, e1, e2, e3⟩ := lst _ hy; rw [e3]; simp only [eqF, e1]; rfl
      | scr _ => cases hy
      | err => cases hy
      | _ => rfl
    | tup a =>
      cases y with
      | tup b => exact all a b hx hy
      | ref n => obtain ⟨ys, e1, e2, e3⟩ := lst _ hy; rw [e3]; simp only [eqF, e1]; rfl
      | scr _ => cases hy
      | err => cases hy
      | _ => rfl
    | ref n =>
      obtain ⟨xs, e1, e2, e3⟩ := lst _ hx
      rw [e3]
      cases y with
      | ref n' =>
        obtain ⟨ys, f1, f2, f3⟩ := lst _ hy
        rw [f3]
        show (match isList (S.get n), isList (S.get n') with | some xs, some ys => eqL (eqF S k) xs ys | _, _ => .none) = _
        rw [e1, f1]
        exact all xs ys e2 f2
      | scr _ => cases hy
      | err => cases hy
      | _ => simp only [eqF, e1]; rfl
    | scr _ => cases hx
    | err => cases hx
theorem eqS_dat {x y : Val} {b : Bool} (h : eqS S x y = some b) : dOk S 60 x = true ∧ dOk S 60 y = true ∧ b = PyData.eqv (dat S 60 x) (dat S 60 y) := by
  rw [eqS_eq] at h
  unfold eqSo at h
  cases e : (dOk S 60 x && dOk S 60 y) with
  | false => rw [e] at h; cases h
  | true =>
    rw [e] at h
    obtain ⟨h1, h2⟩ := Bool.and_eq_true_iff.mp e
    rw [eqF_dat 60 x y h1 h2] at h
    exact ⟨h1, h2, (Option.some.inj h).symm⟩
end
section
variable {X : Cx} {g : Gx} {o : Orc} {W : WX} {pins : List (Addr × PySem.Obj)} {s : Shared} {σ : St} {ρ : G.Env} {m : Mp} {H : Hp} {S : Store}
theorem ofB_ok {b : Option Bool} {w : Nat} {Q : VK} {E : XK} (rs : RS g m S H) (p : PostG g RV m H Q E (ofB b S w)) : ∃ c, b = some c ∧ Q (.bl c) H := by
  unfold ofB at p
  cases b with
  | none => exact p.elim
  | some c => exact ⟨c, rfl, p m H _ Ex.rfl' rs (RV.bool c)⟩
theorem o_eq (hu : X.A.units + 64 < cLine) : OpS X g o W oEq (compareOp .Eq) := OpS.of (op_eqD hu) fun {σ H m S v w x y Q} rv rw_ rs p => by
  obtain ⟨b, h, q⟩ := ofB_ok rs p
  obtain ⟨h1, h2, rfl⟩ := eqS_dat h
  exact ⟨_, _, dat_ok rs _ _ _ h1 rv, dat_ok rs _ _ _ h2 rw_, dat_shaped rs (by decide) rv, dat_shaped rs (by decide) rw_, q⟩
theorem o_ne (hu : X.A.units + 64 < cLine) : OpS X g o W oNe (compareOp .NotEq) := OpS.of (op_neD hu) fun {σ H m S v w x y Q} rv rw_ rs p => by
  unfold oNe at p
  cases h : eqS S v w with
  | none => rw [h] at p; exact p.elim
  | some b =>
    rw [h] at p
    obtain ⟨h1, h2, rfl⟩ := eqS_dat h
    exact ⟨_, _, dat_ok rs _ _ _ h1 rv, dat_ok rs _ _ _ h2 rw_, dat_shaped rs (by decide) rv, dat_shaped rs (by decide) rw_, p m H _ Ex.rfl' rs (RV.bool _)⟩
/-! ### ints -/
theorem o_sub : OpS X g o W oSub (binaryOp .Sub) := OpS.of op_sub fun {σ H m S v w x y Q} rv rw_ rs p => by
  cases rv with
  | int i => cases rw_ with
    | int j => exact ⟨i, j, rfl, rfl, p m H _ Ex.rfl' rs (RV.int _)⟩
    | _ => exact p.elim
  | _ => exact p.elim
theorem o_div : OpS X g o W oDiv (binaryOp .FloorDiv) := OpS.of op_fdivW fun {σ H m S v w x y Q} rv rw_ rs p => by
  cases rv with
  | int i => cases rw_ with
    | int j =>
      have p' : PostG g RV m H Q (atS W σ) (match intLt 0 j && Nat.blt j.natAbs.log2 9000 with | true => .ok (.int (i / j)) S | false => .stuck 25) := p
      cases e : (intLt 0 j && Nat.blt j.natAbs.log2 9000) with
      | false => rw [e] at p'; exact p'.elim
      | true =>
        rw [e] at p'
        obtain ⟨e1, e2⟩ := Bool.and_eq_true_iff.mp e
        rw [intLt_eq] at e1
        exact ⟨i, j, rfl, rfl, ⟨of_decide_eq_true e1, by simpa [Nat.blt_eq] using e2⟩, p' m H _ Ex.rfl' rs (RV.int _)⟩
    | _ => exact p.elim
  | _ => exact p.elim
theorem o_mod : OpS X g o W oMod (binaryOp .Mod) := OpS.of op_mod fun {σ H m S v w x y Q} rv rw_ rs p => by
  cases rv with
  | int i => cases rw_ with
    | int j =>
      have p' : PostG g RV m H Q (atS W σ) (match intLt 0 j with | true => .ok (.int (i % j)) S | false => .stuck 27) := p
      cases e : intLt 0 j with
      | false => rw [e] at p'; exact p'.elim
      | true =>
        rw [e] at p'
        rw [intLt_eq] at e
        exact ⟨i, j, rfl, rfl, of_decide_eq_true e, p' m H _ Ex.rfl' rs (RV.int _)⟩
    | _ => exact p.elim
  | _ => exact p.elim
theorem o_gt : OpS X g o W oGt (compareOp .Gt) := OpS.of op_gt fun {σ H m S v w x y Q} rv rw_ rs p => by
  cases rv with
  | int i => cases rw_ with
    | int j => exact ⟨i, j, rfl, rfl, by show Q (.bl (decide (j < i))) H; rw [← intLt_eq]; exact p m H _ Ex.rfl' rs (RV.bool _)⟩
    | _ => exact p.elim
  | _ => exact p.elim
theorem o_le : OpS X g o W oLe (compareOp .LtE) := OpS.of op_le fun {σ H m S v w x y Q} rv rw_ rs p => by
  cases rv with
  | int i => cases rw_ with
    | int j =>
      refine ⟨i, j, rfl, rfl, ?_⟩
      have : decide (i ≤ j) = !intLt j i := by rw [intLt_eq]; by_cases h : i ≤ j <;> simp [h] <;> omega
      show Q (.bl _) H
      rw [this]
      exact p m H _ Ex.rfl' rs (RV.bool _)
    | _ => exact p.elim
  | _ => exact p.elim
theorem o_pow : OpS X g o W oPow (binaryOp .Pow) := OpS.of op_pow fun {σ H m S v w x y Q} rv rw_ rs p => by
  cases rv with
  | int i => cases rw_ with
    | int j =>
      have p' : PostG g RV m H Q (atS W σ) (match Nat.blt i.natAbs (2 ^ 64) && (!intLt j 0 && !intLt 1000000 j) with | true => .ok (.int (i ^ j.toNat)) S | false => .stuck 29) := p
      cases e : (Nat.blt i.natAbs (2 ^ 64) && (!intLt j 0 && !intLt 1000000 j)) with
      | false => rw [e] at p'; exact p'.elim
      | true =>
        rw [e] at p'
        obtain ⟨e1, e2⟩ := Bool.and_eq_true_iff.mp e
        obtain ⟨e2, e3⟩ := Bool.and_eq_true_iff.mp e2
        rw [intLt_eq] at e2 e3
        simp only [Bool.not_eq_true', decide_eq_false_iff_not, Int.not_lt] at e2 e3
        exact ⟨i, j, rfl, rfl, ⟨e2, e3, by simpa [Nat.blt_eq] using e1⟩, p' m H _ Ex.rfl' rs (RV.int _)⟩
    | _ => exact p.elim
  | _ => exact p.elim
/-! ### sequences put together -/
theorem PostG.tup {vs : List Val} {ys : List V} {Q : VK} {E : XK} (p : PostG g RV m H Q E (.ok (.tup vs) S)) (rs : RS g m S H) (r : RVs m H vs ys) (a : Addr) (ha : H a = .none) : Q (.ref a) (upd H a (.tup ys)) :=
  p m _ _ (Ex.upd ha) (rs.upd ha) (RV.tup upd_same (r.mono (Ex.upd ha)))
theorem PostG.lst {vs : List Val} {ys : List V} {Q : VK} {E : XK} (p : PostG g RV m H Q E (G.alloc (.lst vs) S)) (rs : RS g m S H) (r : RVs m H vs ys) (a : Addr) (ha : H a = .none) : Q (.ref a) (upd H a (.lst ys)) :=
  PostG.alloc rs p ha fun x => ⟨ys, upd_same, r.mono x⟩
theorem room2_ok {α β : Type} {a b : List α} {c d : List β} (h1 : a.length = c.length) (h2 : b.length = d.length) (h : room2 a b = true) : c.length + d.length ≤ sizeLine := by
  have := Nat.le_of_ble_eq_true h
  rw [h1, h2] at this
  rw [← maxLen_eq]; exact this
theorem sOk.app {a b : List Nat} (h1 : sOk a) (h2 : sOk b) (h : room2 a b = true) : sOk (a ++ b) :=
  ⟨by rw [List.length_append, ← maxLen_eq]; exact Nat.le_of_ble_eq_true h, fun c hc => (List.mem_append.mp hc).elim (h1.2 c) (h2.2 c)⟩
theorem o_add : OpS X g o W oAdd (binaryOp .Add) := by
  intro pins s σ H m S v w x y a b Q I rv rw_ ra rb rs p
  cases rv with
  | int i => cases rw_ with
    | int j => exact op_add pins s σ H _ _ _ _ Q I ra rb ⟨i, j, rfl, rfl, p m H _ Ex.rfl' rs (RV.int _)⟩
    | _ => exact p.elim
  | @str l hl => cases rw_ with
    | @str k hk =>
      have p' : PostG g RV m H Q (atS W σ) (match room2 l k with | true => .ok (.str (l ++ k)) S | false => .stuck 20) := p
      cases e : room2 l k with
      | false => rw [e] at p'; exact p'.elim
      | true =>
        rw [e] at p'
        refine op_add_str pins s σ H _ _ _ _ Q I ra rb ⟨_, _, rfl, rfl, ?_, ?_⟩
        · have := Nat.le_of_ble_eq_true e
          rw [← maxLen_eq]; simpa [Str.length] using this
        · rw [SX.S_cat]; exact p' m H _ Ex.rfl' rs (RV.str (hl.app hk e))
    | _ => exact p.elim
  | @tup q xs l hq rl => cases rw_ with
    | @tup q2 ys k hq2 rk =>
      have p' : PostG g RV m H Q (atS W σ) (match room2 l k with | true => .ok (.tup (l ++ k)) S | false => .stuck 20) := p
      cases e : room2 l k with
      | false => rw [e] at p'; exact p'.elim
      | true =>
        rw [e] at p'
        refine op_catA pins s σ H _ _ _ _ Q I ra rb ⟨_, _, _, _, rfl, rfl, SqT.of hq, SqT.of hq2, room2_ok rl.length rk.length e, fun h => ?_, fun h h' => ?_, fun _ _ => PostG.tup p' rs (rl.app rk)⟩
        · subst h; cases rl
          exact p' m H _ Ex.rfl' rs (RV.tup hq2 rk)
        · subst h'; cases rk
          rw [List.append_nil] at p'
          exact p' m H _ Ex.rfl' rs (RV.tup hq rl)
    | _ => exact p.elim
  | @ref n q hq => cases rw_ with
    | @ref n2 q2 hq2 =>
      have p' : PostG g RV m H Q (atS W σ) (match S.get n, S.get n2 with | some (.lst xs), some (.lst ys) => (match room2 xs ys with | true => alloc (.lst (xs ++ ys)) S | false => .stuck 20) | _, _ => .stuck 21) := p
      split at p'
      · rename_i xs ys e1 e2
        cases e : room2 xs ys with
        | false => rw [e] at p'; exact p'.elim
        | true =>
          rw [e] at p'
          obtain ⟨q', xs', h1, _, h2, h3⟩ := rs.list e1 (RV.ref hq)
          cases h1
          obtain ⟨q2', ys', k1, _, k2, k3⟩ := rs.list e2 (RV.ref hq2)
          cases k1
          exact op_cat pins s σ H _ _ _ _ Q I ra rb ⟨_, _, _, _, rfl, rfl, h2, k2, room2_ok h3.length k3.length e, PostG.lst p' rs (h3.app k3)⟩
      · exact p'.elim
    | _ => exact p.elim
  | _ => exact p.elim
end
end G
set_option Elab.async false
set_option linter.all false
set_option maxRecDepth 100000
namespace G
open PySem PySem.Spec L2
open PyProof.Rows hiding St
section
variable {X : Cx} {g : Gx} {o : Orc} {W : WX} {pins : List (Addr × PySem.Obj)} {s : Shared} {σ : St} {ρ : G.Env} {m : Mp} {H : Hp} {S : Store}
/-! ### more operators -/
theorem rep_len {α : Type} (xs : List α) : ∀ n, (rep xs n).length = xs.length * n
  | 0 => rfl
  | n + 1 => by rw [rep, List.length_append, rep_len xs n, Nat.mul_succ, Nat.add_comm]
theorem RVs.rep {vs : List Val} {ys : List V} (r : RVs m H vs ys) : ∀ n, RVs m H (G.rep vs n) (List.replicate n ys).flatten
  | 0 => .nil
  | n + 1 => by rw [G.rep, List.replicate_succ, List.flatten_cons]; exact r.app (RVs.rep r n)
theorem rep_fold (l : List Nat) : ∀ (n : Nat) (acc : Array Nat), (List.replicate n l.toArray).foldl (· ++ ·) acc = acc ++ (G.rep l n).toArray
  | 0, acc => by simp [G.rep]
  | n + 1, acc => by rw [List.replicate_succ, List.foldl_cons, rep_fold l n, G.rep]; simp
theorem rep_mem {l : List Nat} {c : Nat} : ∀ {n : Nat}, c ∈ G.rep l n → c ∈ l
  | n + 1, h => by
    rw [G.rep, List.mem_append] at h
    exact h.elim id rep_mem
theorem o_mul : OpS X g o W oMul (binaryOp .Mult) := by
  intro pins s σ H m S v w x y a b Q I rv rw_ ra rb rs p
  cases rw_ with
  | int j =>
    cases rv with
    | int i =>
      have p' : PostG g RV m H Q (atS W σ) (match Nat.blt (i.natAbs.log2 + j.natAbs.log2) 1000000 with | true => .ok (.int (i * j)) S | false => .stuck 23) := p
      cases e : Nat.blt (i.natAbs.log2 + j.natAbs.log2) 1000000 with
      | false => rw [e] at p'; exact p'.elim
      | true =>
        rw [e] at p'
        exact op_mulW pins s σ H _ _ _ _ Q I ra rb ⟨i, j, rfl, rfl, by show _ < _; simpa [Nat.blt_eq] using e, p' m H _ Ex.rfl' rs (RV.int _)⟩
    | @tup q xs vs hq r =>
      cases j with
      | negSucc j => exact p.elim
      | ofNat j =>
        have p' : PostG g RV m H Q (atS W σ) (match Nat.ble 2 j && (Nat.ble j 1000 && (Nat.ble vs.length 1000 && nonE vs)) with | true => .ok (.tup (rep vs j)) S | false => .stuck 23) := p
        cases e : (Nat.ble 2 j && (Nat.ble j 1000 && (Nat.ble vs.length 1000 && nonE vs))) with
        | false => rw [e] at p'; exact p'.elim
        | true =>
          rw [e] at p'
          obtain ⟨e1, e2⟩ := Bool.and_eq_true_iff.mp e
          obtain ⟨e2, e3⟩ := Bool.and_eq_true_iff.mp e2
          obtain ⟨e3, e4⟩ := Bool.and_eq_true_iff.mp e3
          have h1 := Nat.le_of_ble_eq_true e1
          have h2 := Nat.le_of_ble_eq_true e2
          have h3 := Nat.le_of_ble_eq_true e3
          refine op_repT pins s σ H _ _ _ _ Q I ra rb ⟨_, _, _, rfl, rfl, SqT.of hq, ?_, ?_, ?_, by rw [← r.length]; exact h3, ?_⟩
          · rintro rfl; cases r; cases e4
          · show (2 : Int) ≤ (j : Int); omega
          · show (j : Int) ≤ 1000; omega
          · exact PostG.tup p' rs (r.rep j)
    | @str l hl =>
      cases j with
      | negSucc j => exact p.elim
      | ofNat j =>
        have p' : PostG g RV m H Q (atS W σ) (match Nat.ble 2 j && (Nat.ble j 1000 && (Nat.ble l.length 1000 && nonE l)) with | true => .ok (.str (rep l j)) S | false => .stuck 23) := p
        cases e : (Nat.ble 2 j && (Nat.ble j 1000 && (Nat.ble l.length 1000 && nonE l))) with
        | false => rw [e] at p'; exact p'.elim
        | true =>
          rw [e] at p'
          obtain ⟨e1, e2⟩ := Bool.and_eq_true_iff.mp e
          obtain ⟨e2, e3⟩ := Bool.and_eq_true_iff.mp e2
          obtain ⟨e3, e4⟩ := Bool.and_eq_true_iff.mp e3
          have h1 := Nat.le_of_ble_eq_true e1
          have h2 := Nat.le_of_ble_eq_true e2
          have h3 := Nat.le_of_ble_eq_true e3
          obtain ⟨t, rfl⟩ := ra
          obtain ⟨u, rfl⟩ := rb
          have hj : (Int.ofNat j : Int) = (j : Int) := rfl
          have hlen : (⟨l.toArray⟩ : Str).length = l.length := by simp [Str.length]
          have hmul : l.length * j ≤ 1000 * 1000 := Nat.mul_le_mul h3 h2
          have hz : sOk (rep l j) := ⟨by rw [rep_len]; exact Nat.le_trans hmul (by decide), fun c hc => hl.2 c (rep_mem hc)⟩
          refine P.mul_str (x := ⟨l.toArray⟩) (n := (j : Int)) ?_ (fun _ _ => ?_) (fun _ _ => ?_) ?_
          · rw [decide_eq_false (by omega), decide_eq_false (by omega)]; rfl
          · rw [hlen]
            have : (l.length : Int) ≤ (2 ^ 63 - 1) / (j : Int) := by
              rw [Int.le_ediv_iff_mul_le (by omega)]
              have : (l.length : Int) * (j : Int) ≤ 1000 * 1000 := by exact_mod_cast hmul
              omega
            exact Int.not_lt.mpr this
          · rw [hlen, Int.toNat_natCast]
            exact decide_eq_false (by
              have : (1000 * 1000 : Nat) ≤ sizeLine := by decide
              omega)
          · have hn1 : ¬ ((j : Int) < 1) := by omega
            show Made.post (if (j : Int) < 1 then _ else _) _ s
            rw [if_neg hn1]
            have hb : ((j : Int) == 1 || (⟨l.toArray⟩ : Str).length == 0) = false := by
              rw [hlen]
              have h7 : l.length ≠ 0 := fun z => by
                cases l with
                | nil => cases e4
                | cons _ _ => cases z
              have h8 : (j : Int) ≠ 1 := by omega
              rw [beq_eq_false_iff_ne.mpr h8, beq_eq_false_iff_ne.mpr h7]; rfl
            rw [hb]
            show Made.post (if false = true then _ else _) _ s
            rw [if_neg Bool.false_ne_true, Int.toNat_natCast]
            have ef : (List.replicate j l.toArray).foldl (· ++ ·) #[] = (G.rep l j).toArray := by rw [rep_fold]; simp
            show Made.post (Made.str ⟨(List.replicate j l.toArray).foldl (· ++ ·) #[]⟩) _ s
            rw [ef]
            exact ⟨by
              show (G.rep l j).toArray.size ≤ sizeLine
              rw [List.size_toArray]; exact hz.1, ⟨.str ⟨(G.rep l j).toArray⟩, H, I.tok _, ⟨_, rfl⟩, p' m H _ Ex.rfl' rs (RV.str hz)⟩⟩
    | @ref n q hq =>
      cases j with
      | negSucc j => exact p.elim
      | ofNat j =>
        have p' : PostG g RV m H Q (atS W σ) (match S.get n with | some (.lst xs) => (match Nat.ble (xs.length * j) maxLen && Nat.ble j maxLen with | true => alloc (.lst (rep xs j)) S | false => .stuck 23) | _ => .stuck 23) := p
        split at p'
        · rename_i xs e1
          cases e : (Nat.ble (xs.length * j) maxLen && Nat.ble j maxLen) with
          | false => rw [e] at p'; exact p'.elim
          | true =>
            rw [e] at p'
            obtain ⟨e2, e3⟩ := Bool.and_eq_true_iff.mp e
            have h2 := Nat.le_of_ble_eq_true e2
            have h3 := Nat.le_of_ble_eq_true e3
            obtain ⟨q', ys, h4, _, h5, h6⟩ := rs.list e1 (RV.ref hq)
            cases h4
            refine op_rep pins s σ H _ _ _ _ Q I ra rb ⟨_, _, _, rfl, rfl, h5, ?_, ?_, ?_, PostG.lst p' rs (h6.rep j)⟩
            · show -(2 ^ 63) ≤ (j : Int); omega
            · show (j : Int) < 2 ^ 63
              have : maxLen = 16777216 := rfl
              omega
            · show ys.length * j ≤ sizeLine
              rw [← h6.length, ← maxLen_eq]; exact h2
        · exact p'.elim
    | _ => exact p.elim
  | _ => cases rv <;> exact p.elim
theorem anyEq_dat {x : Val} : ∀ (vs : List Val), dOk S 60 x = true → vs.all (dOk S 60) = true → anyEq (eqF S 60) x vs = some ((vs.map (dat S 60)).any fun z => PyData.eqv z (dat S 60 x))
  | [], _, _ => rfl
  | v :: vs, hx, h => by
    obtain ⟨h1, h2⟩ := Bool.and_eq_true_iff.mp h
    rw [anyEq, eqF_dat 60 v x h1 hx]
    show (match some (PyData.eqv (dat S 60 v) (dat S 60 x)) with | some true => some true | some false => anyEq (eqF S 60) x vs | .none => .none) = some (PyData.eqv (dat S 60 v) (dat S 60 x) || _)
    cases PyData.eqv (dat S 60 v) (dat S 60 x) with
    | true => rfl
    | false => exact anyEq_dat vs hx h2
theorem dpAll (rs : RS g m S H) {K : PySem.W.Frag} : ∀ {vs : List Val} {xs : List V}, RVs m H vs xs → vs.all (dOk S 60) = true → DpAll K H xs (vs.map (dat S 60))
  | _, _, .nil, _ => .nil
  | _, _, .cons r t, h => let ⟨h1, h2⟩ := Bool.and_eq_true_iff.mp h; .cons (dat_ok rs 60 _ _ h1 r) (dpAll rs t h2)
theorem shAll (rs : RS g m S H) : ∀ {vs : List Val} {xs : List V}, RVs m H vs xs → PyData.canLayAll0 (vs.map (dat S 60)) = true ∧ PyData.depthAll (vs.map (dat S 60)) ≤ 60
  | _, _, .nil => ⟨rfl, Nat.zero_le _⟩
  | _, _, .cons r t => let ⟨h1, h2⟩ := shAll rs t; ⟨Bool.and_eq_true_iff.mpr ⟨dat_lay rs 60 _ _ r, h1⟩, Nat.max_le.mpr ⟨dat_depth S 60 _, h2⟩⟩
theorem shList (rs : RS g m S H) {vs : List Val} {xs : List V} (r : RVs m H vs xs) : SeqAt.shaped (.list (vs.map (dat S 60))) = true ∧ SeqAt.shaped (.tuple (vs.map (dat S 60))) = true := by
  obtain ⟨h1, h2⟩ := shAll rs r
  have h3 : PyData.depthAll (vs.map (dat S 60)) + 1 ≤ 64 := by omega
  exact ⟨Bool.and_eq_true_iff.mpr ⟨h1, decide_eq_true h3⟩, Bool.and_eq_true_iff.mpr ⟨h1, decide_eq_true h3⟩⟩
theorem in_gen (hu : X.A.units + 65 < cLine) (hK : g.K = X.K) {v w : Val} {x y : V} {a b : Value} {r : Bool} (neg : Bool) (I : Inv X pins σ H s) (rv : RV m H v x) (rw_ : RV m H w y) (ra : RelV x a) (rb : RelV y b) (rs : RS g m S H) (h : inV S v w = some r) {Q : VK} (q : Q (.bl (if neg then !r else r)) H) :
    wpAny (model X.prog X.w) X.A (compareOp (if neg then .NotIn else .In) a b) (EP X pins σ Q) X.xe s := by
  rw [inV_eq] at h
  have seq : ∀ (vs : List Val) (ys : List V), RVs m H vs ys → (dOk S 60 v && vs.all (dOk S 60)) = true → r = ((vs.map (dat S 60)).any fun z => PyData.eqv z (dat S 60 v)) → (Dp X.K H y (.list (vs.map (dat S 60))) ∨ Dp X.K H y (.tuple (vs.map (dat S 60)))) → wpAny (model X.prog X.w) X.A (compareOp (if neg then .NotIn else .In) a b) (EP X pins σ Q) X.xe s := by
    intro vs ys rr e hr hd
    obtain ⟨e1, e2⟩ := Bool.and_eq_true_iff.mp e
    obtain ⟨as, r1⟩ := Dp.reads I _ x a (dat_ok rs 60 v x e1 rv) ra
    have sd := dat_shaped rs (k := 60) (by decide) rv
    obtain ⟨s1, s2⟩ := shList rs rr
    subst hr
    rcases hd with hd | hd
    · obtain ⟨bs, r2⟩ := Dp.reads I _ y b hd rb
      cases neg with
      | true => exact SeqAt.notIn_list_reads r2 r1 (SeqAt.canLay_of_shaped s1) (SeqAt.canLay_of_shaped sd) (room_in_shaped sd hu) ⟨.bl _, H, I, rfl, q⟩
      | false => exact SeqAt.in_list_reads r2 r1 (SeqAt.canLay_of_shaped s1) (SeqAt.canLay_of_shaped sd) (room_in_shaped sd hu) ⟨.bl _, H, I, rfl, q⟩
    · obtain ⟨bs, r2⟩ := Dp.reads I _ y b hd rb
      cases neg with
      | true => exact SeqAt.notIn_tuple_reads r2 r1 (SeqAt.canLay_of_shaped s2) (SeqAt.canLay_of_shaped sd) (room_in_shaped sd hu) ⟨.bl _, H, I, rfl, q⟩
      | false => exact SeqAt.in_tuple_reads r2 r1 (SeqAt.canLay_of_shaped s2) (SeqAt.canLay_of_shaped sd) (room_in_shaped sd hu) ⟨.bl _, H, I, rfl, q⟩
  cases rw_ with
  | @tup q ys vs hq rr =>
    have h' : (match dOk S 60 v && vs.all (dOk S 60) with | true => anyEq (eqF S 60) v vs | false => .none) = some r := h
    cases e : (dOk S 60 v && vs.all (dOk S 60)) with
    | false => rw [e] at h'; cases h'
    | true =>
      rw [e] at h'
      obtain ⟨e1, e2⟩ := Bool.and_eq_true_iff.mp e
      have h3 : anyEq (eqF S 60) v vs = some r := h'
      rw [anyEq_dat vs e1 e2] at h3
      exact seq vs ys rr e (Option.some.inj h3).symm (.inr (.tup (SqT.of hq) (dpAll rs rr e2)))
  | @str l hl =>
    cases rv with
    | @str k hk =>
      cases k with
      | nil => cases h
      | cons c k =>
        cases k with
        | cons _ _ => cases h
        | nil =>
          have h' : some (l.any (Nat.beq c)) = some r := h
          have hr : r = decide (c ∈ (⟨l.toArray⟩ : Str).cps.toList) := by
            rw [← Option.some.inj h']
            rw [Bool.eq_iff_iff]
            simp only [decide_eq_true_eq, List.any_eq_true]
            constructor
            · rintro ⟨d, h1, h2⟩; rw [Nat.eq_of_beq_eq_true h2]; simpa using h1
            · intro h1; exact ⟨c, by simpa using h1, Nat.beq_refl c⟩
          subst hr
          cases neg with
          | true => exact op_notIn_sign pins s σ H _ _ _ _ Q I ra rb ⟨c, _, rfl, rfl, q⟩
          | false => exact op_in_sign pins s σ H _ _ _ _ Q I ra rb ⟨c, _, rfl, rfl, q⟩
    | _ => cases h
  | @ref n q hq =>
    have h' : (match isList (S.get n) with | some vs => (match dOk S 60 v && vs.all (dOk S 60) with | true => anyEq (eqF S 60) v vs | false => .none) | .none => .none) = some r := h
    cases e0 : isList (S.get n) with
    | none => rw [e0] at h'; cases h'
    | some vs =>
      rw [e0] at h'
      have h2 : (match dOk S 60 v && vs.all (dOk S 60) with | true => anyEq (eqF S 60) v vs | false => .none) = some r := h'
      cases e : (dOk S 60 v && vs.all (dOk S 60)) with
      | false => rw [e] at h2; cases h2
      | true =>
        rw [e] at h2
        obtain ⟨e1, e2⟩ := Bool.and_eq_true_iff.mp e
        have h3 : anyEq (eqF S 60) v vs = some r := h2
        rw [anyEq_dat vs e1 e2] at h3
        obtain ⟨q', ys, k1, _, k2, k3⟩ := rs.list (isList_of e0) (RV.ref hq)
        cases k1
        exact seq vs ys k3 e (Option.some.inj h3).symm (.inl (.lst (SqL.of k2) (dpAll rs k3 e2)))
  | _ => cases h
theorem o_in (hu : X.A.units + 65 < cLine) (hK : g.K = X.K) : OpS X g o W oIn (compareOp .In) := by
  intro pins s σ H m S v w x y a b Q I rv rw_ ra rb rs p
  obtain ⟨c, h, q⟩ := ofB_ok rs p
  exact in_gen hu hK false I rv rw_ ra rb rs h q
theorem o_notin (hu : X.A.units + 65 < cLine) (hK : g.K = X.K) : OpS X g o W oNotIn (compareOp .NotIn) := by
  intro pins s σ H m S v w x y a b Q I rv rw_ ra rb rs p
  unfold oNotIn at p
  cases h : inV S v w with
  | none => rw [h] at p; exact p.elim
  | some c =>
    rw [h] at p
    exact in_gen hu hK true I rv rw_ ra rb rs h (p m H _ Ex.rfl' rs (RV.bool _))
/-! ### subscripts -/
theorem getI_atI {α : Type} (xs : List α) (i : Int) : getI xs i = atI xs i := by
  unfold getI atI
  have h : ixOf xs.length i = ixN xs.length i := by
    unfold ixOf ixN
    cases i with
    | ofNat k =>
      rw [if_pos (by show (0 : Int) ≤ (k : Int); omega)]
      by_cases h : k < xs.length
      · rw [if_pos (by show (k : Int) < _; omega)]
        have : Nat.blt k xs.length = true := by simpa [Nat.blt_eq] using h
        simp only [this]; rfl
      · rw [if_neg (by show ¬ (k : Int) < _; omega)]
        have : Nat.blt k xs.length = false := Bool.eq_false_iff.mpr (by simpa [Nat.blt_eq] using h)
        simp only [this]
    | negSucc k =>
      rw [if_neg (by omega)]
      by_cases h : k < xs.length
      · rw [if_pos (by omega)]
        have : Nat.blt k xs.length = true := by simpa [Nat.blt_eq] using h
        simp only [this]
        congr 1; omega
      · rw [if_neg (by omega)]
        have : Nat.blt k xs.length = false := Bool.eq_false_iff.mpr (by simpa [Nat.blt_eq] using h)
        simp only [this]
  rw [h]
  cases ixN xs.length i <;> rfl
theorem RVs.atI {vs : List Val} {xs : List V} (r : RVs m H vs xs) {i : Int} {v : Val} (h : L2.atI vs i = some v) : ∃ x, L2.atI xs i = some x ∧ RV m H v x := by
  unfold L2.atI at h ⊢
  rw [r.length] at h
  cases e : ixN xs.length i with
  | none => rw [e] at h; cases h
  | some j =>
    rw [e] at h
    exact r.get h
theorem ix_ok {v w : Val} {x y : V} {Q : VK} {E : XK} (rv : RV m H v x) (rw_ : RV m H w y) (rs : RS g m S H) (p : PostG g RV m H Q E (oIx o v w S)) (K : PySem.W.Frag) : L2.rIx K x y H Q := by
  cases rw_ with
  | int i =>
    cases rv with
    | @tup q ys vs hq r =>
      have p' : PostG g RV m H Q E (ofOpt (getI vs i) S 50) := p
      rw [getI_atI] at p'
      cases e : L2.atI vs i with
      | none => rw [e] at p'; exact p'.elim
      | some u =>
        rw [e] at p'
        obtain ⟨y, h1, h2⟩ := r.atI e
        exact .inr (.inl ⟨q, ys, i, y, rfl, rfl, SqT.of hq, h1, p' m H _ Ex.rfl' rs h2⟩)
    | @str l hl =>
      have p' : PostG g RV m H Q E (match getI l i with | some c => .ok (.str [c]) S | .none => .stuck 52) := p
      rw [getI_atI] at p'
      cases e : L2.atI l i with
      | none => rw [e] at p'; exact p'.elim
      | some c =>
        rw [e] at p'
        have hc : c ∈ l := by
          unfold L2.atI at e
          cases z : ixN l.length i with
          | none => rw [z] at e; cases e
          | some j => rw [z] at e; exact List.mem_of_getElem? e
        exact .inr (.inr ⟨_, i, c, rfl, rfl, by simpa [Str.length] using hl.1, by simpa using e, p' m H _ Ex.rfl' rs (RV.str (hl.one hc))⟩)
    | @ref n q hq =>
      have p' : PostG g RV m H Q E (match isList (S.get n) with | some vs => ofOpt (getI vs i) S 54 | .none => .stuck 57) := p
      cases e0 : isList (S.get n) with
      | none => rw [e0] at p'; exact p'.elim
      | some vs =>
        rw [e0] at p'
        have p2 : PostG g RV m H Q E (ofOpt (getI vs i) S 54) := p'
        rw [getI_atI] at p2
        obtain ⟨q', ys, k1, _, k2, k3⟩ := rs.list (isList_of e0) (RV.ref hq)
        cases k1
        cases e : L2.atI vs i with
        | none => rw [e] at p2; exact p2.elim
        | some u =>
          rw [e] at p2
          obtain ⟨y, h1, h2⟩ := k3.atI e
          exact .inl ⟨_, ys, i, y, rfl, rfl, SqL.of k2, h1, p2 m H _ Ex.rfl' rs h2⟩
    | _ => exact p.elim
  | _ => exact p.elim
theorem m_ix {a b : PySem.Expr} {ca cb : G.E} {pos : Pos} (ha : PE X a (tM g o W ca)) (hb : PE X b (tM g o W cb)) (hs : PlainIx b) : PE X (.Subscript a b pos) (tM g o W (eOp oIx ca cb)) :=
  ⟨fun pins s σ H Q I ⟨m, ρ, S, re, rs, p⟩ => Subscript_ (thnE ha I re rs p fun u s1 v S1 m1 H1 x I1 r1 rv1 rs1 re1 e1 p1 => thnE hb I1 re1 rs1 p1 fun u2 s2 w S2 m2 H2 y I2 r2 rv2 rs2 re2 e2 p2 =>
    ix_seq a b pins s2 σ H2 x y _ _ Q I2 r1 r2 (ix_ok (rv1.mono e2) rv2 rs2 p2 X.K) (hs _ _))⟩
end
end G
set_option Elab.async false
set_option linter.all false
set_option maxRecDepth 100000
namespace G
open PySem PySem.Spec L2
open PyProof.Rows hiding St
section
variable {X : Cx} {g : Gx} {o : Orc} {W : WX} {pins : List (Addr × PySem.Obj)} {s : Shared} {σ : St} {ρ : G.Env} {m : Mp} {H : Hp} {S : Store} {pos p apos : Pos} {e : PySem.Expr} {es : List PySem.Expr} {cs : G.EL} {ce : G.E} {x : Str}
/-! ### slices -/
theorem clip_sIx (n d : Nat) (i : Int) : clip n i = HT.sIx n d (some i) := by
  unfold clip HT.sIx
  cases i with
  | ofNat k =>
    show min k n = if (k : Int) < 0 then _ else min (k : Int).toNat n
    rw [if_neg (by omega)]; simp
  | negSucc k =>
    show n - (k + 1) = if Int.negSucc k < 0 then (Int.negSucc k + n).toNat else _
    rw [if_pos (by omega)]; omega
theorem bnd_sIx (n d : Nat) (i : Option Int) : bnd n d i = HT.sIx n d i := by
  cases i with
  | none => rfl
  | some i => exact clip_sIx n d i
theorem slc_cut {α : Type} (xs : List α) (lo hi : Option Int) : slc xs lo hi = (xs.drop (HT.sIx xs.length 0 lo)).take (HT.sIx xs.length xs.length hi - HT.sIx xs.length 0 lo) := by
  unfold slc
  rw [bnd_sIx, bnd_sIx, List.drop_take]
theorem RVs.cut {vs : List Val} {xs : List V} (r : RVs m H vs xs) (lo hi : Option Int) : RVs m H (slc vs lo hi) (cutV xs lo hi) := by
  rw [slc_cut, r.length]
  exact (r.drop _).take _
def tO (g : Gx) (o : Orc) (W : WX) (c : G.EO) : L2.TO := fun σ H Q => ∃ m ρ S, RE m H ρ σ ∧ RS g m S H ∧ PostG g REq m H Q (atS W σ) (c o ρ S)
theorem o_none : PO X .none (tO g o W eoNone) := ⟨fun pins s σ H Q I ⟨m, ρ, S, re, rs, p⟩ => po_none.run pins s σ H Q I (p m H _ Ex.rfl' rs rfl)⟩
theorem o_some (h : PE X e (tM g o W ce)) : PO X (some e) (tO g o W (eoSome ce)) := ⟨fun pins s σ H Q I ⟨m, ρ, S, re, rs, p⟩ =>
  (po_some h).run pins s σ H Q I ⟨m, ρ, S, re, rs, PostG.mono (PostG.bind p) fun x H1 ⟨m1, v, S1, e1, rs1, rv, p1⟩ => by
    cases rv with
    | int i => exact ⟨i, rfl, p1 m1 H1 _ Ex.rfl' rs1 rfl⟩
    | _ => exact p1.elim⟩⟩
theorem sOk.cut {l : List Nat} (h : sOk l) (lo hi : Option Int) : sOk (slc l lo hi) := by
  have sub : ∀ c ∈ slc l lo hi, c ∈ l := fun c hc => by
    unfold slc at hc
    exact List.mem_of_mem_take (List.mem_of_mem_drop hc)
  refine ⟨Nat.le_trans ?_ h.1, fun c hc => h.2 c (sub c hc)⟩
  unfold slc
  rw [List.length_drop, List.length_take]
  omega
theorem ints_cut (ns : List Int) (lo hi : Option Int) : cutV (ns.map V.int) lo hi = (slc ns lo hi).map V.int := by
  unfold cutV
  rw [slc_cut, List.length_map, List.map_take, List.map_drop]
theorem cut_ok (hK : g.K = X.K) {v : Val} {x : V} {lo hi : Option Int} {Q : VK} {E : XK} (rv : RV m H v x) (rs : RS g m S H) (p : PostG g RV m H Q E (cutOf v lo hi S)) : L2.rSlS x lo hi H Q ∨ rSlL X.K x lo hi H Q ∨ rSlA X.K x lo hi H Q := by
  cases rv with
  | @tup q xs vs hq r =>
    have p' : PostG g RV m H Q E (.ok (.tup (slc vs lo hi)) S) := p
    refine .inr (.inr ⟨q, xs, rfl, SqT.of hq, fun ⟨h1, h2⟩ => ?_, fun _ => PostG.tup p' rs (r.cut lo hi)⟩)
    have e : slc vs lo hi = vs := by
      rw [slc_cut, r.length, h1, h2]
      simp [← r.length]
    rw [e] at p'
    exact p' m H _ Ex.rfl' rs (RV.tup hq r)
  | @str l hl =>
    have p' : PostG g RV m H Q E (.ok (.str (slc l lo hi)) S) := p
    refine .inl ⟨_, rfl, by simpa [Str.length] using hl.1, ?_⟩
    have e : cutS ⟨l.toArray⟩ lo hi = ⟨(slc l lo hi).toArray⟩ := by
      unfold cutS
      rw [slc_cut]
      simp [Str.length]
    rw [e]
    exact p' m H _ Ex.rfl' rs (RV.str (hl.cut lo hi))
  | @ref n q hq =>
    have p' : PostG g RV m H Q E (match isList (S.get n) with | some vs => alloc (.lst (slc vs lo hi)) S | .none => .stuck 63) := p
    cases e0 : isList (S.get n) with
    | none => rw [e0] at p'; exact p'.elim
    | some vs =>
      rw [e0] at p'
      obtain ⟨q', ys, k1, _, k2, k3⟩ := rs.list (isList_of e0) (RV.ref hq)
      cases k1
      exact .inr (.inl ⟨_, ys, rfl, SqL.of k2, PostG.lst p' rs (k3.cut lo hi)⟩)
  | @scr ns q hq =>
    have p' : PostG g RV m H Q E (alloc (.lst ((slc ns lo hi).map .int)) S) := p
    have hsq : SqL X.K H q (ns.map V.int) := by rw [← hK, ← rs.K]; exact hq.sq
    refine .inr (.inl ⟨q, _, rfl, hsq, ?_⟩)
    rw [ints_cut]
    exact PostG.lst p' rs (RVs.ofInts _)
  | _ => exact p.elim
theorem m_sl {lo hi : Option PySem.Expr} {cl ch : G.EO} {p2 : Pos} (hK : g.K = X.K) (he : PE X e (tM g o W ce)) (hl : PO X lo (tO g o W cl)) (hh : PO X hi (tO g o W ch)) : PE X (.Subscript e (.Slice lo hi .none p2) pos) (tM g o W (eSl ce cl ch)) :=
  PE.imp (pe_slice (sl_str.or (sl_list.or sl_tupA)) he hl hh) fun σ H Q ⟨m, ρ, S, re, rs, pp⟩ => ⟨m, ρ, S, re, rs, PostG.mono (PostG.bind pp) fun x H1 ⟨m1, v, S1, e1, rs1, rv, p1⟩ =>
    ⟨m1, ρ, S1, re.mono e1, rs1, PostG.mono (PostG.bind p1) fun l H2 ⟨m2, l', S2, e2, rs2, rl, p2⟩ => ⟨m2, ρ, S2, re.mono (e1.trans e2), rs2, PostG.mono (PostG.bind p2) fun h H3 ⟨m3, h', S3, e3, rs3, rh, p3⟩ => by
      cases rl; cases rh
      exact cut_ok hK ((rv.mono e2).mono e3) rs3 p3⟩⟩⟩
/-! ### a, b = x, y -/
theorem s_par {i j : Nat} {x y : Str} {a b : PySem.Expr} {px py pt : Pos} {kt k2 pt2} (hc : X.calm = true) (hN : X.N.Nodup) (hi : X.N[i]? = some x) (hj : X.N[j]? = some y) (hij : i ≠ j)
    (hx : X.env.scope.names.lookup x = some .local) (hy : X.env.scope.names.lookup y = some .local) (ha : PA X [a, b] (tL g o W cs))
    (hw : swappedStores [.Tuple [.Name x px, .Name y py] kt pt] (.Tuple [a, b] k2 pt2) X.env = pure (some [x, y])) (hs : swapsWithSole [.Tuple [.Name x px, .Name y py] kt pt] (.Tuple [a, b] k2 pt2) pos.line X.env = pure false) :
    PS X (.Assign [.Tuple [.Name x px, .Name y py] kt pt] (.Tuple [a, b] k2 pt2) pos) (tS g o W (sPar [i, j] cs)) :=
  PS.imp (ps_par hc hN hi hj hij hx hy ha hw hs) fun D σ H ⟨m, ρ, S, re, rs, pp⟩ => ⟨m, ρ, S, re, rs, PostG.mono (PostS.to re pp) fun xs H1 ⟨m1, vs, S1, e1, rs1, rv, p1⟩ => by
    cases rv with
    | nil => exact p1.elim
    | cons r rr =>
      cases rr with
      | nil => exact p1.elim
      | cons r2 rr =>
        cases rr with
        | cons _ _ => exact p1.elim
        | nil => exact ⟨_, _, rfl, p1 m1 H1 _ Ex.rfl' rs1 (((re.mono e1).set i r).set j r2)⟩⟩
/-! ### built-ins -/
def BiR (g : Gx) (o : Orc) (f : Bi) : List V → Hp → VK → Prop := fun xs H Q => ∃ m vs S E, RVs m H vs xs ∧ RS g m S H ∧ PostG g RV m H Q E (f o vs S)
def BmR (g : Gx) (o : Orc) (f : Bm) : V → List V → Hp → VK → Prop := fun x xs H Q => ∃ m v vs S E, RV m H v x ∧ RVs m H vs xs ∧ RS g m S H ∧ PostG g RV m H Q E (f o v vs S)
theorem CallR.imp {f : Value} {r r' : List V → Hp → VK → Prop} (h : CallR X f r) (hi : ∀ xs H Q, r' xs H Q → r xs H Q) : CallR X f r' := fun pins s σ H xs us Q I rv q => h pins s σ H xs us Q I rv (hi xs H Q q)
theorem MtR.imp {f : String} {r r' : V → List V → Hp → VK → Prop} (h : MtR X f r) (hi : ∀ x xs H Q, r' x xs H Q → r x xs H Q) : MtR X f r' := fun pins s σ H x xs v us Q I rv rvs q => h pins s σ H x xs v us Q I rv rvs (hi x xs H Q q)
theorem e_bi {f : Bi} {id : String} (hc : CallR X (.builtin id) (BiR g o f)) (hg : Gl X x) (hm : X.mg x = .none) (hv : bootBuiltins x = some (.builtin id)) (ha : PA X (e :: es) (tL g o W cs)) (hn : x ≠ "__name__") (hdb : (x == ("__debug__" : Str)) = false)
    (he : starEach (e :: es) X.env = (false, eval e X.env) :: starEach es X.env) (hpl : (backTo pos (starEach es X.env)).any (·.1) = false) : PE X (.Call (.Name x p) (e :: es) [] pos) (tM g o W (eB f cs)) :=
  PE.imp (pe_callB hc hg hm hv ha hn hdb he hpl) fun σ H Q ⟨m, ρ, S, re, rs, pp⟩ => ⟨m, ρ, S, re, rs, PostG.mono (PostG.bind pp) fun xs H1 ⟨m1, vs, S1, e1, rs1, rv, p1⟩ => ⟨m1, vs, S1, _, rv, rs1, p1⟩⟩
theorem e_ty {f : Bi} {T : String} (hc : CallR X (.type T) (BiR g o f)) (hg : Gl X x) (hm : X.mg x = .none) (hv : bootBuiltins x = some (.type T)) (ha : PA X (e :: es) (tL g o W cs)) (hn : x ≠ "__name__") (hdb : (x == ("__debug__" : Str)) = false)
    (he : starEach (e :: es) X.env = (false, eval e X.env) :: starEach es X.env) (hpl : (backTo pos (starEach es X.env)).any (·.1) = false) : PE X (.Call (.Name x p) (e :: es) [] pos) (tM g o W (eB f cs)) :=
  PE.imp (pe_callTy hc hg hm hv ha hn hdb he hpl) fun σ H Q ⟨m, ρ, S, re, rs, pp⟩ => ⟨m, ρ, S, re, rs, PostG.mono (PostG.bind pp) fun xs H1 ⟨m1, vs, S1, e1, rs1, rv, p1⟩ => ⟨m1, vs, S1, _, rv, rs1, p1⟩⟩
theorem b_len (hK : g.K = X.K) : CallR X (.builtin "len") (BiR g o bLen) := CallR.imp call_len fun xs H Q ⟨m, vs, S, E, rv, rs, pp⟩ => by
  cases rv with
  | nil => exact pp.elim
  | @cons v x vs xs r rr =>
    cases rr with
    | cons _ _ => cases r <;> exact pp.elim
    | nil =>
      cases r with
      | @tup q ys vs hq rt => exact ⟨_, vs.length, rfl, .inr ⟨ys, SqT.of hq, rt.length⟩, pp m H _ Ex.rfl' rs (RV.int _)⟩
      | @str l hl => exact ⟨_, l.length, rfl, ⟨by simpa [Str.length] using hl.1, by simp [Str.length]⟩, pp m H _ Ex.rfl' rs (RV.int _)⟩
      | @scr ns q hq => exact ⟨_, ns.length, rfl, .inl ⟨ns.map V.int, by rw [← hK, ← rs.K]; exact hq.sq, by simp⟩, pp m H _ Ex.rfl' rs (RV.int _)⟩
      | @ref n q hq =>
        have p' : PostG g RV m H Q E (match S.get n with | some (.lst vs) => .ok (.int vs.length) S | _ => .stuck 112) := pp
        cases e0 : S.get n with
        | none => rw [e0] at p'; exact p'.elim
        | some ob =>
          cases ob with
          | lst vs =>
            rw [e0] at p'
            obtain ⟨q', ys, k1, _, k2, k3⟩ := rs.list e0 (RV.ref hq)
            cases k1
            exact ⟨_, vs.length, rfl, .inl ⟨ys, SqL.of k2, k3.length⟩, p' m H _ Ex.rfl' rs (RV.int _)⟩
          | _ => rw [e0] at p'; exact p'.elim
      | _ => exact pp.elim
end
end G
set_option Elab.async false
set_option linter.all false
set_option maxRecDepth 100000
namespace G
open PySem PySem.Spec L2
open PyProof.Rows hiding St
section
variable {X : Cx} {g : Gx} {o : Orc} {W : WX} {pins : List (Addr × PySem.Obj)} {s : Shared} {σ : St} {ρ : G.Env} {m : Mp} {H : Hp} {S : Store} {pos p apos : Pos} {e : PySem.Expr} {es : List PySem.Expr} {cs : G.EL} {ce : G.E} {x : Str}
/-- items at once -/
theorem items_ok (hK : g.K = X.K) {v : Val} {x : V} {vs : List Val} (rv : RV m H v x) (rs : RS g m S H) (h : itemsOf S v = some vs) : ∃ q ys, x = .ref q ∧ RVs m H vs ys ∧ (SqL X.K H q ys ∨ (SqT X.K H q ys ∧ v = .tup vs)) := by
  cases rv with
  | @tup q ys ws hq r => cases h; exact ⟨q, ys, rfl, r, .inr ⟨SqT.of hq, rfl⟩⟩
  | @ref n q hq =>
    obtain ⟨q', ys, k1, _, k2, k3⟩ := rs.list (isList_of h) (RV.ref hq)
    cases k1
    exact ⟨_, ys, rfl, k3, .inl (SqL.of k2)⟩
  | @scr ns q hq => cases h; exact ⟨q, _, rfl, RVs.ofInts ns, .inl (by rw [← hK, ← rs.K]; exact hq.sq)⟩
  | _ => cases h
theorem b_list (hK : g.K = X.K) : CallR X (.type "list") (BiR g o bList) := CallR.imp call_list_of fun xs H Q ⟨m, vs, S, E, rv, rs, pp⟩ => by
  cases rv with
  | nil => exact pp.elim
  | @cons v x vs xs r rr =>
    cases rr with
    | cons _ _ => exact pp.elim
    | nil =>
      have p' : PostG g RV m H Q E (match itemsOf S v with | some vs => alloc (.lst vs) S | .none => .stuck 100) := pp
      cases e : itemsOf S v with
      | none => rw [e] at p'; exact p'.elim
      | some ws =>
        rw [e] at p'
        obtain ⟨q, ys, rfl, r2, h⟩ := items_ok hK r rs e
        exact ⟨q, ys, rfl, h.imp id (·.1), PostG.lst p' rs r2⟩
theorem b_tuple (hK : g.K = X.K) : CallR X (.type "tuple") (BiR g o bTuple) := CallR.imp call_tuple_of fun xs H Q ⟨m, vs, S, E, rv, rs, pp⟩ => by
  cases rv with
  | nil => exact pp.elim
  | @cons v x vs xs r rr =>
    cases rr with
    | cons _ _ => exact pp.elim
    | nil =>
      have p' : PostG g RV m H Q E (match itemsOf S v with | some vs => .ok (.tup vs) S | .none => .stuck 101) := pp
      cases e : itemsOf S v with
      | none => rw [e] at p'; exact p'.elim
      | some ws =>
        rw [e] at p'
        obtain ⟨q, ys, rfl, r2, h⟩ := items_ok hK r rs e
        refine ⟨q, ys, rfl, h.imp (fun h => ⟨h, PostG.tup p' rs r2⟩) fun ⟨h, e2⟩ => ⟨h, ?_⟩⟩
        subst e2
        exact p' m H _ Ex.rfl' rs r
theorem b_abs : CallR X (.builtin "abs") (BiR g o bAbs) := CallR.imp call_abs fun xs H Q ⟨m, vs, S, E, rv, rs, pp⟩ => by
  cases rv with
  | nil => exact pp.elim
  | @cons v x vs xs r rr =>
    cases rr with
    | cons _ _ => cases r <;> exact pp.elim
    | nil =>
      cases r with
      | int i =>
        refine ⟨i, rfl, ?_⟩
        have e : (if i < 0 then -i else i) = ((i.natAbs : Nat) : Int) := by split <;> omega
        rw [e]
        exact pp m H _ Ex.rfl' rs (RV.int _)
      | _ => exact pp.elim
theorem b_int : CallR X (.type "int") (BiR g o bInt) := CallR.imp call_int1 fun xs H Q ⟨m, vs, S, E, rv, rs, pp⟩ => by
  cases rv with
  | nil => exact pp.elim
  | @cons v x vs xs r rr =>
    cases rr with
    | cons _ _ => cases r <;> exact pp.elim
    | nil =>
      cases r with
      | int i => exact .inl ⟨i, rfl, pp m H _ Ex.rfl' rs (RV.int _)⟩
      | bool b =>
        refine .inr ⟨b, rfl, ?_⟩
        have p' : PostG g RV m H Q E (.ok (.int (G.b2i b)) S) := pp
        rw [b2i_eq] at p'
        exact p' m H _ Ex.rfl' rs (RV.int _)
      | _ => exact pp.elim
theorem b_max2 (hc : X.calm = true) : CallR X (.builtin "max") (BiR g o bMax2) := CallR.imp (call_max2 hc) fun xs H Q ⟨m, vs, S, E, rv, rs, pp⟩ => by
  cases rv with
  | nil => exact pp.elim
  | cons r rr =>
    cases rr with
    | nil => cases r <;> exact pp.elim
    | cons r2 rr =>
      cases rr with
      | cons _ _ => cases r <;> first | exact pp.elim | (cases r2 <;> exact pp.elim)
      | nil =>
        cases r with
        | int i => cases r2 with
          | int j =>
            refine ⟨i, j, rfl, ?_⟩
            have p' : PostG g RV m H Q E (.ok (.int (match intLt i j with | true => j | false => i)) S) := pp
            have e : (match intLt i j with | true => j | false => i) = if j > i then j else i := by
              rw [intLt_eq]
              by_cases h : i < j
              · rw [if_pos h, decide_eq_true h]
              · rw [if_neg h, decide_eq_false h]
            rw [e] at p'
            exact p' m H _ Ex.rfl' rs (RV.int _)
          | _ => exact pp.elim
        | _ => exact pp.elim
theorem b_min2 (hc : X.calm = true) : CallR X (.builtin "min") (BiR g o bMin2) := CallR.imp (call_min2 hc) fun xs H Q ⟨m, vs, S, E, rv, rs, pp⟩ => by
  cases rv with
  | nil => exact pp.elim
  | cons r rr =>
    cases rr with
    | nil => cases r <;> exact pp.elim
    | cons r2 rr =>
      cases rr with
      | cons _ _ => cases r <;> first | exact pp.elim | (cases r2 <;> exact pp.elim)
      | nil =>
        cases r with
        | int i => cases r2 with
          | int j =>
            refine ⟨i, j, rfl, ?_⟩
            have p' : PostG g RV m H Q E (.ok (.int (match intLt j i with | true => j | false => i)) S) := pp
            have e : (match intLt j i with | true => j | false => i) = if j < i then j else i := by
              rw [intLt_eq]
              by_cases h : j < i
              · rw [if_pos h, decide_eq_true h]
              · rw [if_neg h, decide_eq_false h]
            rw [e] at p'
            exact p' m H _ Ex.rfl' rs (RV.int _)
          | _ => exact pp.elim
        | _ => exact pp.elim
theorem bools_ok : ∀ {vs : List Val} {ys : List V} {bs : List Bool}, RVs m H vs ys → boolsOf vs = some bs → ys = bs.map V.bl
  | _, _, bs, .nil, h => by cases h; rfl
  | _, _, bs, .cons r t, h => by
    cases r with
    | bool b =>
      rw [boolsOf] at h
      cases e : boolsOf _ with
      | none => rw [e] at h; cases h
      | some cs => rw [e] at h; cases h; rw [bools_ok t e]; rfl
    | _ => cases h
theorem boolsAt_ok {v : Val} {x : V} {bs : List Bool} (r : RV m H v x) (rs : RS g m S H) (h : boolsAt S v = some bs) (K : PySem.W.Frag) : ∃ q, x = .ref q ∧ SqL K H q (bs.map V.bl) := by
  cases r with
  | @ref n q hq =>
    have h' : (match isList (S.get n) with | some vs => boolsOf vs | .none => .none) = some bs := h
    cases e : isList (S.get n) with
    | none => rw [e] at h'; cases h'
    | some vs =>
      rw [e] at h'
      obtain ⟨q', ys, k1, _, k2, k3⟩ := rs.list (isList_of e) (RV.ref hq)
      cases k1
      rw [bools_ok k3 h'] at k2
      exact ⟨_, rfl, SqL.of k2⟩
  | _ => cases h
theorem b_all (hc : X.calm = true) : CallR X (.builtin "all") (BiR g o bAll) := CallR.imp (cr_all hc) fun xs H Q ⟨m, vs, S, E, rv, rs, pp⟩ => by
  cases rv with
  | nil => exact pp.elim
  | @cons v x vs xs r rr =>
    cases rr with
    | cons _ _ => exact pp.elim
    | nil =>
      have p' : PostG g RV m H Q E (match boolsAt S v with | some bs => .ok (.bool (bs.all id)) S | .none => .stuck 114) := pp
      cases e : boolsAt S v with
      | none => rw [e] at p'; exact p'.elim
      | some bs =>
        rw [e] at p'
        obtain ⟨q, rfl, h⟩ := boolsAt_ok r rs e X.K
        exact ⟨q, bs, rfl, h, p' m H _ Ex.rfl' rs (RV.bool _)⟩
end
end G
set_option Elab.async false
set_option linter.all false
set_option maxRecDepth 100000
namespace G
open PySem PySem.Spec L2
open PyProof.Rows hiding St
/-- a text as a value, where it fits -/
def strR (l : List Nat) (S : Store) : R Val := match Nat.ble l.length maxLen && l.all (fun c => Nat.blt c 128) with
  | true => .ok (.str l) S
  | false => .stuck 170
/-- repr of an int, a text, a bool, None -/
def bRepr : Bi := fun _ vs S => match vs with
  | [v] => match v with
    | .int i => match Nat.blt i.natAbs.log2 1920 with
      | true => strR (Str.ofString (toString i)).cps.toList S
      | false => .stuck 171
    | .str l => strR (reprText ⟨l.toArray⟩).cps.toList S
    | _ => .stuck 172
  | _ => .stuck 172
section
variable {X : Cx} {g : Gx} {o : Orc} {W : WX} {pins : List (Addr × PySem.Obj)} {s : Shared} {σ : St} {ρ : G.Env} {m : Mp} {H : Hp} {S : Store} {pos p apos : Pos} {e e' : PySem.Expr} {es : List PySem.Expr} {cs : G.EL} {ce : G.E} {x : Str}
theorem strR_ok {l : List Nat} {Q : VK} {E : XK} (rs : RS g m S H) (pp : PostG g RV m H Q E (strR l S)) : sOk l ∧ Q (.str ⟨l.toArray⟩) H := by
  unfold strR at pp
  cases e : (Nat.ble l.length maxLen && l.all (fun c => Nat.blt c 128)) with
  | false => rw [e] at pp; exact pp.elim
  | true =>
    rw [e] at pp
    obtain ⟨e1, e2⟩ := Bool.and_eq_true_iff.mp e
    have h : sOk l := ⟨by rw [← maxLen_eq]; exact Nat.le_of_ble_eq_true e1, fun c hc => by simpa [Nat.blt_eq] using List.all_eq_true.mp e2 c hc⟩
    exact ⟨h, pp m H _ Ex.rfl' rs (RV.str h)⟩
theorem call_repr_str : CallR X (.builtin "repr") (fun xs H Q => ∃ z, xs = [.str z] ∧ (reprText z).length ≤ sizeLine ∧ Q (.str (reprText z)) H) := by
  intro pins s σ H xs us Q I r h
  obtain ⟨z, rfl, hz, q⟩ := h
  obtain ⟨u, rfl, t, rfl⟩ := vals1 r
  exact PySem.P.repr_of_str ⟨.str _, H, I.tok _, ⟨_, rfl⟩, q⟩ hz
theorem b_repr : CallR X (.builtin "repr") (BiR g o bRepr) := CallR.imp (CallR.or SkE.call_repr_int call_repr_str) fun xs H Q ⟨m, vs, S, E, rv, rs, pp⟩ => by
  cases rv with
  | nil => exact pp.elim
  | @cons v x vs xs r rr =>
    cases rr with
    | cons _ _ => exact pp.elim
    | nil =>
      cases r with
      | int i =>
        have p' : PostG g RV m H Q E (match Nat.blt i.natAbs.log2 1920 with | true => strR (Str.ofString (toString i)).cps.toList S | false => .stuck 171) := pp
        cases e : Nat.blt i.natAbs.log2 1920 with
        | false => rw [e] at p'; exact p'.elim
        | true =>
          rw [e] at p'
          exact .inl ⟨i, rfl, by simpa [Nat.blt_eq] using e, (strR_ok rs p').2⟩
      | @str l hl =>
        have p' : PostG g RV m H Q E (strR (reprText ⟨l.toArray⟩).cps.toList S) := pp
        obtain ⟨h1, h2⟩ := strR_ok rs p'
        exact .inr ⟨_, rfl, by simpa [Str.length] using h1.1, h2⟩
      | _ => exact pp.elim
/-! ### methods of built-in types -/
theorem knd_lst {v : Val} {x : V} (r : RV m H v x) (rs : RS g m S H) (h : hasK S .lst v = true) (K : PySem.W.Frag) : tyV K "list" x H := by
  cases r with
  | @ref n q hq =>
    have h' : (match S.get n with | some (.lst _) => true | some (.dct _) => false | _ => false) = true := h
    split at h'
    · rename_i ys e
      obtain ⟨q', zs, k1, _, k2, k3⟩ := rs.list e (RV.ref hq)
      cases k1
      exact .inl ⟨rfl, zs, SqL.of k2⟩
    · cases h'
    · cases h'
  | str _ => cases h
  | _ => cases h
theorem knd_str {v : Val} {x : V} (r : RV m H v x) (rs : RS g m S H) (h : hasK S .str v = true) : ∃ l, v = .str l ∧ sOk l ∧ x = .str ⟨l.toArray⟩ := by
  cases r with
  | @str l hl => exact ⟨l, rfl, hl, rfl⟩
  | @ref n q hq =>
    have h' : (match S.get n with | some (.lst _) => false | some (.dct _) => false | _ => false) = true := h
    split at h' <;> cases h'
  | _ => cases h
/-- l.append(v) and the like, one argument -/
theorem e_bmL {f : Bm} {id : String} {name : Str} (slot : Slot "list" name id) (hty : typeOf (.builtin id) = pure (.type "method_descriptor")) (hm : MtR X id (BmR g o f)) (ho : PE X e (tM g o W ce)) (ha : PA X (e' :: es) (tL g o W cs))
    (hbase : attributeBase e name X.env (eval e X.env) = eval e X.env)
    (hfew : ((backTo pos (starEach (e' :: es) X.env)).all (fun x => !x.1) && (backToKw pos (keywordEach [] X.env)).all (fun x => x.1.isSome)
      && decide ((e' :: es).length + ([] : List Keyword).length + (if ([] : List Keyword).isEmpty then 0 else 1) < 30)) = true)
    (hline : (apos.endLine == pos.line) = true) (hs : starEach (e' :: es) X.env = (false, eval e' X.env) :: starEach es X.env) (hplain : (backTo pos (starEach es X.env)).any (·.1) = false) :
    PE X (.Call (.Attribute e name apos) (e' :: es) [] pos) (tM g o W (eBm .lst f ce cs)) :=
  PE.imp (pe_bm PySem.F.plainAttrs_list slot hty hm ho ha hbase hfew hline hs hplain) fun σ H Q ⟨m, ρ, S, re, rs, pp⟩ => ⟨m, ρ, S, re, rs, PostG.mono (PostG.bind pp) fun x H1 ⟨m1, v, S1, e1, rs1, rv, p1⟩ => by
    cases hk : hasK S1 .lst v with
    | false => rw [hk] at p1; exact p1.elim
    | true =>
      rw [hk] at p1
      exact ⟨knd_lst rv rs1 hk X.K, m1, ρ, S1, re.mono e1, rs1, PostG.mono (PostG.bind p1) fun xs H2 ⟨m2, vs, S2, e2, rs2, rvs, p2⟩ => ⟨m2, v, vs, S2, _, rv.mono e2, rvs, rs2, p2⟩⟩⟩
theorem PostG.put {α : Type} {n : Nat} {q : Addr} {ob p' : G.Obj} {u : HO} {v : Val} {y : V} {Q : VK} {E : XK} (rs : RS g m S H) (hp : S.get n = some p') (hq : m.l[n]? = some q) (pp : PostG g RV m H Q E (.ok v (S.put n ob)))
    (ho : Ex m H m (upd H q u) → RO g m (upd H q u) q ob) (rv : Ex m H m (upd H q u) → RV m (upd H q u) v y) (nf : isFz p' = false := by rfl) : Q y (upd H q u) :=
  let x := rs.exPut hp hq nf; pp m _ _ x (rs.put hp hq (ho x) nf) (rv x)
theorem bm_append : MtR X "list.append" (BmR g o mAppend) := MtR.imp mt_append fun x xs H Q ⟨m, v, vs, S, E, r, rvs, rs, pp⟩ => by
  cases r with
  | @ref n q hq =>
    cases rvs with
    | nil => exact pp.elim
    | @cons w y vs ys r2 rr =>
      cases rr with
      | cons _ _ => exact pp.elim
      | nil =>
        have p' : PostG g RV m H Q E (match S.get n with | some (.lst xs) => (match Nat.blt xs.length maxLen with | true => .ok .none (S.put n (.lst (xs ++ [w]))) | false => .stuck 140) | _ => .stuck 140) := pp
        split at p'
        · rename_i zs e0
          obtain ⟨q', ys, k1, hq', k2, k3⟩ := rs.list e0 (RV.ref hq)
          cases k1
          cases e : Nat.blt zs.length maxLen with
          | false => rw [e] at p'; exact p'.elim
          | true =>
            rw [e] at p'
            refine ⟨_, ys, y, rfl, rfl, k2, by rw [← k3.length, ← maxLen_eq]; simpa [Nat.blt_eq] using e, ?_⟩
            exact PostG.put (α := Unit) rs e0 hq p' (fun x => ⟨_, upd_same, (k3.mono x).app (.cons (r2.mono x) .nil)⟩) fun x => RV.none
        · exact p'.elim
  | _ => exact pp.elim
theorem strs_ok : ∀ {vs : List Val} {ys : List V} {ss : List (List Nat)}, RVs m H vs ys → strsOf vs = some ss → ys = (ss.map SX.S).map V.str ∧ ∀ l ∈ ss, sOk l
  | _, _, ss, .nil, h => by cases h; exact ⟨rfl, fun l hl => nomatch hl⟩
  | _, _, ss, .cons r t, h => by
    cases r with
    | @str l hl =>
      rw [strsOf] at h
      cases e : strsOf _ with
      | none => rw [e] at h; cases h
      | some cs =>
        rw [e] at h; cases h
        obtain ⟨h1, h2⟩ := strs_ok t e
        exact ⟨by rw [h1]; rfl, fun k hk => (List.mem_cons.mp hk).elim (fun z => z ▸ hl) (h2 k)⟩
    | _ => cases h
theorem joinL_eq (a : List Nat) : ∀ l, joinL a l = TL.joinL a l
  | [] => rfl
  | [p] => rfl
  | p :: q :: r => by
    show p ++ a ++ joinL a (q :: r) = p ++ (a ++ TL.joinL a (q :: r))
    rw [joinL_eq a (q :: r), List.append_assoc]
theorem sumLen_eq : ∀ l : List (List Nat), sumLen l = (l.map (·.length)).sum
  | [] => rfl
  | a :: l => by rw [sumLen, sumLen_eq l]; simp
theorem joinL_ok {a : List Nat} (ha : ∀ c ∈ a, c < 128) : ∀ {l : List (List Nat)}, (∀ p ∈ l, sOk p) → (∀ c ∈ joinL a l, c < 128) ∧ (joinL a l).length ≤ sumLen l + l.length * a.length
  | [], _ => ⟨(fun c h => nomatch h), Nat.zero_le _⟩
  | [p], h => ⟨(h p List.mem_cons_self).2, by show p.length ≤ p.length + 0 + 1 * a.length; omega⟩
  | p :: q :: r, h => by
    obtain ⟨h1, h2⟩ := joinL_ok ha (l := q :: r) fun x hx => h x (List.mem_cons_of_mem _ hx)
    have e : joinL a (p :: q :: r) = p ++ a ++ joinL a (q :: r) := rfl
    refine ⟨fun c hc => ?_, ?_⟩
    · rw [e] at hc
      rcases List.mem_append.mp hc with hc | hc
      · exact (List.mem_append.mp hc).elim ((h p List.mem_cons_self).2 c) (ha c)
      · exact h1 c hc
    · rw [e, List.length_append, List.length_append]
      show _ ≤ p.length + sumLen (q :: r) + ((q :: r).length + 1) * a.length
      rw [Nat.add_mul]
      omega
/-- sep.join(v) -/
theorem e_join (hK : g.K = X.K) (ho : PE X e (tM g o W ce)) {cb : G.E} (ha : PE X e' (tM g o W cb)) (hs : starEach [e'] X.env = [(false, eval e' X.env)]) (hbase : attributeBase e "join" X.env (eval e X.env) = eval e X.env) (hline : (apos.endLine == pos.line) = true) :
    PE X (.Call (.Attribute e "join" apos) [e'] [] pos) (tM g o W (eBm .str mJoin ce (elCons cb elNil))) :=
  PE.imp (pe_join ho ha hs hbase hline) fun σ H Q ⟨m, ρ, S, re, rs, pp⟩ => ⟨m, ρ, S, re, rs, PostG.mono (PostG.bind pp) fun x H1 ⟨m1, v, S1, e1, rs1, rv, p1⟩ => by
    cases hk : hasK S1 .str v with
    | false => rw [hk] at p1; exact p1.elim
    | true =>
      rw [hk] at p1
      obtain ⟨l, rfl, hl, rfl⟩ := knd_str rv rs1 hk
      have p2 : PostG g RV m1 H1 Q (atS W σ) ((cb o ρ S1).bind fun w S => mJoin o (.str l) [w] S) := by
        unfold elCons elNil at p1
        rw [bindA] at p1
        exact p1
      refine ⟨⟨_, rfl⟩, m1, ρ, S1, re.mono e1, rs1, PostG.mono (PostG.bind p2) fun y H2 ⟨m2, w, S2, e2, rs2, rw_, p3⟩ => ?_⟩
      have p4 : PostG g RV m2 H2 Q (atS W σ) (match itemsOf S2 w with | some xs => (match strsOf xs with | some ss => (match Nat.ble (sumLen ss + ss.length * l.length) maxLen with | true => .ok (.str (joinL l ss)) S2 | false => .stuck 159) | .none => .stuck 159) | .none => .stuck 160) := p3
      cases e3 : itemsOf S2 w with
      | none => rw [e3] at p4; exact p4.elim
      | some xs =>
        rw [e3] at p4
        have p5 : PostG g RV m2 H2 Q (atS W σ) (match strsOf xs with | some ss => (match Nat.ble (sumLen ss + ss.length * l.length) maxLen with | true => .ok (.str (joinL l ss)) S2 | false => .stuck 159) | .none => .stuck 159) := p4
        cases e4 : strsOf xs with
        | none => rw [e4] at p5; exact p5.elim
        | some ss =>
          rw [e4] at p5
          have p6 : PostG g RV m2 H2 Q (atS W σ) (match Nat.ble (sumLen ss + ss.length * l.length) maxLen with | true => .ok (.str (joinL l ss)) S2 | false => .stuck 159) := p5
          cases e5 : Nat.ble (sumLen ss + ss.length * l.length) maxLen with
          | false => rw [e5] at p6; exact p6.elim
          | true =>
            rw [e5] at p6
            obtain ⟨q, ys, rfl, r2, h⟩ := items_ok hK rw_ rs2 e3
            obtain ⟨h1, h2⟩ := strs_ok r2 e4
            have hb := Nat.le_of_ble_eq_true e5
            obtain ⟨j1, j2⟩ := joinL_ok (a := l) hl.2 h2
            subst h1
            refine ⟨_, q, ss.map SX.S, rfl, rfl, h.imp id (·.1), ?_, ?_⟩
            · rw [SX.lens, ← sumLen_eq, List.length_map]
              show _ + _ * l.length ≤ _
              exact hb
            · show Q (.str (Txt.join (SX.S l) (ss.map SX.S))) H2
              rw [SX.join_S, ← joinL_eq]
              exact p6 m2 H2 _ Ex.rfl' rs2 (RV.str ⟨by rw [← maxLen_eq]; exact Nat.le_trans j2 hb, j1⟩)⟩
end
end G
set_option Elab.async false
set_option linter.all false
set_option maxRecDepth 100000
namespace G
open PySem PySem.Spec L2
open PyProof.Rows hiding St
/-! ### a def's address: a global's, a class's method, a property's getter -/
def adP (K : PySem.W.Frag) (p : Str × Option Str) : Addr := match p.2 with
  | none => He.ga K p.1
  | some m => match PySem.W.recIn K (He.ma K (He.ga K p.1) m) "property" with
    | some (.ref g :: _) => g
    | _ => He.ma K (He.ga K p.1) m
def fnWP (K : PySem.W.Frag) (p : Str × Option Str) : He.FnW := match K.lookup (adP K p) with
  | some ⟨_, _, .func fd, _⟩ => some (fd.name, fd.qualname, fd.params, fd.body, fd.scope, fd.globals, fd.closure, fd.builtins)
  | _ => none
def okP (K : PySem.W.Frag) (d : He.DefD) : Bool := PySem.W.keepIn K (.ref (adP K d.at_)) && (match K.lookup (adP K d.at_) with
  | some ⟨_, _, .func fd, _⟩ => PySem.W.codeIn K fd.code d.qual && (He.dflB K fd.defaults (d.dvs K) && He.kwdB K fd.kwdefaults (d.kws K))
  | _ => false)
theorem funDP {K : PySem.W.Frag} {d : He.DefD} (e : fnWP K d.at_ = d.val) (c : okP K d = true) : ∃ fd, FunD K d.name d.qual d.params d.body d.scope (d.dvs K) (d.kws K) (adP K d.at_) fd := by
  obtain ⟨kp, c2⟩ := He.ba c
  unfold fnWP at e
  cases q : K.lookup (adP K d.at_) with
  | none =>
    rw [q] at c2
    cases c2
  | some o =>
    obtain ⟨oc, od, dt, osl⟩ := o
    rw [q] at c2 e
    cases dt with
    | func fd =>
      obtain ⟨n1, n2, n3, n4, n5, n6, n7, n8, n9, n10, n11, n12, n13, n14, n15⟩ := fd
      have e2 : (some (n1, n2, n3, n4, n5, n6, n7, n15) : He.FnW) = some (d.name, d.qual, d.params, .stmts d.body, d.scope, mainGlobals, [], builtinsNs) := e
      simp only [Option.some.injEq, Prod.mk.injEq] at e2
      obtain ⟨h1, h2, h3, h4, h5, h6, h7, h8⟩ := e2
      subst h1 h2 h3 h4 h5 h6 h7 h8
      have c3 : (PySem.W.codeIn K n13 d.qual && (He.dflB K n8 (d.dvs K) && He.kwdB K n9 (d.kws K))) = true := c2
      obtain ⟨k1, k2⟩ := He.ba c3
      obtain ⟨k3, k4⟩ := He.ba k2
      exact ⟨_, ⟨oc, od, n8, n9, n10, n11, n12, n13, n14, osl, rfl, q, k1, He.dflB_ok k3, He.kwdB_ok k4⟩, kp⟩
    | _ => cases c2
/-! ### the head's facts, by any test -/
def obsX (ck : PySem.W.Frag → Bool) (fn : List He.DefD) (K : PySem.W.Frag) : He.AlD := (ck K && fn.all fun d => okP K d, fn.map fun d => fnWP K d.at_)
def SaysX (ck : PySem.W.Frag → Bool) (fn : List He.DefD) (K : PySem.W.Frag) : Prop := obsX ck fn K = He.valD fn
section
variable {ck : PySem.W.Frag → Bool} {fn : List He.DefD} {K : PySem.W.Frag}
theorem SaysX.ck_ (c : SaysX ck fn K) : ck K = true := (He.ba (show (ck K && fn.all fun d => okP K d) = true from congrArg (fun z : He.AlD => z.1) c)).1
theorem SaysX.def_ (c : SaysX ck fn K) {i : Nat} {d : He.DefD} (h : fn[i]? = some d) : ∃ fd, FunD K d.name d.qual d.params d.body d.scope (d.dvs K) (d.kws K) (adP K d.at_) fd := by
  have c2 := (He.ba (show (ck K && fn.all fun d => okP K d) = true from congrArg (fun z : He.AlD => z.1) c)).2
  have e : fn.map (fun d => fnWP K d.at_) = fn.map He.DefD.val := congrArg (fun z : He.AlD => z.2) c
  have e2 : (fn.map fun d => fnWP K d.at_)[i]? = (fn.map He.DefD.val)[i]? := by rw [e]
  rw [List.getElem?_map, List.getElem?_map, h] at e2
  exact funDP (Option.some.inj e2) (List.all_eq_true.mp c2 d (List.mem_of_getElem? h))
end
/-- the function's data where it stands -/
def fdAt (K : PySem.W.Frag) (a : Addr) : FuncData := match K.lookup a with
  | some ⟨_, _, .func fd, _⟩ => fd
  | _ => PySem.W.fnOf Str.empty Str.empty ⟨[], [], none, [], [], none, []⟩ [] ⟨.function, [], false, false, []⟩ .none .none .none .none none .none .none
theorem fdAt_eq {K : PySem.W.Frag} {x qual : Str} {params : Arguments} {body : List Stmt} {scope : Scope} {dvs : List V} {kws : List (Str × V)} {a : Addr} {fd : FuncData} (F : FunD K x qual params body scope dvs kws a fd) : fdAt K a = fd := by
  obtain ⟨oc, od, dV, kV, doc, pm, an, cdv, ct, osl, rfl, lk, hcd, _, _⟩ := F.ex
  unfold fdAt
  rw [lk]
theorem fun_at {K : PySem.W.Frag} {x qual : Str} {params : Arguments} {body : List Stmt} {scope : Scope} {dvs : List V} {kws : List (Str × V)} {a : Addr} (h : ∃ fd, FunD K x qual params body scope dvs kws a fd) : FunD K x qual params body scope dvs kws a (fdAt K a) := by
  obtain ⟨fd, F⟩ := h
  rw [fdAt_eq F]; exact F
/-- a def by its body's code, over its datum -/
theorem fn_okD {P : Program} {w : World} {K : PySem.W.Frag} {mg : Str → Option Value} {base : Heap} {g : Gx} {t : Tb} {n i : Nat} {f : Addr} {x qual : Str} {params : Arguments} {body : List Stmt} {scope : Scope} {dvs : List V} {kws : List (Str × V)} {fd : FuncData} {N ps : List Str}
    (D : FunD K x qual params body scope dvs kws f fd) (S : FnScope N ps scope) (hnp : (t.fn i).np = ps.length) (hns : (t.fn i).ns = N.length)
    (hbody : ∀ (cdv : Value) (A : Around) (outer : List PySem.Env) (s : Shared) (H : Hp) (E : XK), Rb n (A.deeper (envOfC qual scope s.heap.objs.size f cdv)) →
      PSs (cxOf (L2.CX P w) P w K mg base N qual scope f cdv A outer s H E) body (tS g (orcN t n) (fun c d _ H => E c d H) (t.fn i).body)) :
    FnG P w K mg base (n + 1) f fd ps (spG g t (n + 1) i) := by
  obtain ⟨oc, od, dV, kV, doc, pm, an, cdv, ct, osl, rfl, lk, hcd, _, _⟩ := D.ex
  exact fn_ok lk hcd S hnp hns fun A outer s H E hr => hbody cdv A outer s H E hr
/-! ### to the law's own end -/
/-- the script's list as the abstract heap has it: in the written part, or locked -/
theorem end_core {P : Program} {w : World} {K : PySem.W.Frag} {mg mb : Str → Option Value} {n : Nat} {fa a : Addr} {fd : FuncData} {x : Str} {sp : Sp} {s1 : Shared} {vs : List Value} {H : Hp}
    (inK : K.In s1.heap) (hG : s1.heap.Ns mainGlobals mg) (hB : s1.heap.Ns builtinsNs mb) (hbb : ∀ z : Str, z ≠ "__name__" → mb z = bootBuiltins z) (lim : s1.heap.NoLimit) (gn : s1.gens = #[])
    (at_ : s1.heap.get? a = some { cls := .type "list", data := .seq vs.toArray }) (rm : Rm n callerA) (F : ∀ base : Heap, K.In base → base.Ns mainGlobals mg → FnG P w K mg base n fa fd [x] sp)
    (bind : ∀ (s : Shared) (u : Value), BindsTo s fd ⟨[u], []⟩ [(x, u)]) (only : Only H) (hok : HOk P w H s1.heap) (one : ∀ b, H b ≠ .none → b = a) (kno : H a ≠ .none → K.lookup a = .none)
    (wish : sp [.ref a] H (fun v _ => v = .bl true) Eno) :
    codeAny (model P w) callerA (.call (.ref fa) ⟨[.ref a], []⟩) (fun r s' => r = .ok (.ret (.bool true)) ∧ OldK s1.heap s'.heap ∧ s'.os = s1.os ∧ AllBare s'.gens) s1 := by
  have out : ∀ {b : Addr} {ob : PySem.Obj}, s1.heap.get? b = some ob → (∀ its k, ob.data ≠ .seq its k) → H b = .none := by
    intro b ob e nd
    by_cases q : H b = .none
    · exact q
    · rw [one b q, at_] at e
      cases e
      exact absurd rfl (nd _ _)
  have low : ∀ {b : Addr} {f : Str → Option Value}, s1.heap.Ns b f → (hidT s1.heap H).Ns b f := by
    rintro b f ⟨ob, es, ep, e, d, r⟩
    exact ⟨ob, es, ep, hidT_get e (out e fun its k z => by rw [d] at z; cases z), d, r⟩
  have kin : K.In (hidT s1.heap H) := fun b ob e => hidT_get (inK b ob e) (by
    by_cases q : H b = .none
    · exact q
    · have z := one b q
      subst z
      rw [kno q] at e; cases e)
  obtain ⟨ml, l1, l2⟩ := lim
  have env : Env0 P w K mg (hidT s1.heap H) callerA [] s1 H :=
    ⟨rfl, ⟨kin, low hG, ⟨mb, low hB, hbb⟩, ⟨ml, low l1, l2⟩⟩, fun b ob e => of_hidT e, Nat.le_of_eq (hidT_size _ _), trivial, (fun b hb => nomatch (show b ∈ ([] : List Addr) from hb)), hok, .of_eq gn⟩
  refine codeAny_mono ((F _ kin (low hG)).run callerA [] s1 H ⟨[.ref a], []⟩ [.ref a] [.ref a] _ _ rm env (bind s1 (.ref a)) (.cons rfl .nil) wish) fun ans s' h => ?_
  match ans, h with
  | .error e, h =>
    obtain ⟨_, _, _, _, _, _, _, _, _, _, _, _, z⟩ := h
    exact z.elim
  | .ok (.ret u), h =>
    obtain ⟨v, H', os, bare, un, hok', rv, q⟩ := h
    have qv : v = .bl true := q
    subst qv
    cases (show u = Value.bool true from rv)
    refine ⟨rfl, OldK.of_keep fun b ob e => ?_, os, bare⟩
    rcases only b with z | ⟨o2, xs, z⟩
    · exact un.keep b ob e z (fun h => nomatch (show b ∈ ([] : List Addr) from h)) (fun h => nomatch h)
    · obtain ⟨k1, _⟩ := hok b _ z
      obtain ⟨k2, _⟩ := hok' b _ (un.frzs b o2 _ z)
      rw [e] at k1; cases k1
      exact k2
theorem end_walk {l : PySem.W.OpenLaw} {most n : Nat} {q : Program} {loose : List Str} {XP : (Str → Option Value) → Heap → Prop} {YP : World → Heap → Prop} {d : DefRec} {x : Str} (hn : l.most = some most) (hn2 : most ≤ sizeLine) (hdf : d.params.defaults = []) (rm : Rm n callerA)
    (F : ∀ (w : World) (mg : Str → Option Value) (fa : Addr) (h : Heap), YP w h → h.Ns mainGlobals mg → mg d.name = some (.ref fa) →
      ∃ (K : PySem.W.Frag) (fd : FuncData) (sp : Sp), K.In h ∧ (∀ (s : Shared) (u : Value), BindsTo s fd ⟨[u], []⟩ [(x, u)]) ∧
        (∀ (H : Hp) (a : Addr) (ns : List Int), ns.length ≤ most → Only H → SqL K H a (ns.map V.int) → sp [.ref a] H (fun v _ => v = .bl true) Eno) ∧ ∀ base : Heap, K.In base → base.Ns mainGlobals mg → FnG l.prog w K mg base n fa fd [x] sp) :
    PySem.W.WalkO q loose XP YP l.row.toRowW d [] (fun f vs => PySem.call f vs) := by
  refine Att.attach_call hn hdf fun w s0 s1 mg mb fa o pm cd doc a vs ns G Y ho hd hcd hmg hobj hints hlen hg => ?_
  obtain ⟨K, fd, sp, inK, hb, hsp, hF⟩ := F w mg fa _ Y G.T.g hmg
  have rv := vals_ints hints
  have hz : ns.length ≤ sizeLine := Nat.le_trans hlen hn2
  have lv := hints.length
  by_cases kl : K.lookup a = .none
  · have lockd : ∀ (b : Addr) (u : HO), (fun b => if b = a then some (HO.frz { cls := .type "list", data := .seq vs.toArray } (.lst (ns.map V.int))) else .none) b = some u → b = a ∧ u = HO.frz { cls := .type "list", data := .seq vs.toArray } (.lst (ns.map V.int)) := by
      intro b u e
      by_cases z : b = a
      · exact ⟨z, (Option.some.inj ((if_pos z).symm.trans e)).symm⟩
      · exact nomatch (if_neg z).symm.trans e
    have only : Only (fun b => if b = a then some (HO.frz { cls := .type "list", data := .seq vs.toArray } (.lst (ns.map V.int))) else .none) := fun b => by
      by_cases z : b = a
      · exact .inr ⟨_, _, if_pos z⟩
      · exact .inl (if_neg z)
    refine end_core inK G.T.g G.T.b G.T.builtins G.T.nolimit hg hobj rm hF hb only (fun b u e => ?_) (fun b q => ?_) (fun _ => kl) (hsp _ a ns hlen only (.inl (.inr ⟨_, if_pos rfl⟩)))
    · obtain ⟨rfl, rfl⟩ := lockd b u e
      exact ⟨hobj, by rw [List.length_map]; exact hz, vs, _, rv, hobj⟩
    · by_cases z : b = a
      · exact z
      · exact absurd (if_neg z) q
  · obtain ⟨ob, kl⟩ := Option.ne_none_iff_exists'.mp kl
    have e := inK a ob kl
    rw [hobj] at e
    cases e
    exact end_core inK G.T.g G.T.b G.T.builtins G.T.nolimit hg hobj rm hF hb (H := fun _ => .none) (fun _ => .inl rfl) (fun b u e => nomatch e) (fun b q => absurd rfl q) (fun q => absurd rfl q)
      (hsp _ a ns hlen (fun _ => .inl rfl) (.inr ⟨_, vs.toArray, _, kl, rfl, rfl, rfl, by rw [List.size_toArray, lv]; exact hz, by simpa using rv⟩))
/-- the law's wish, by its code's answer -/
theorem law_wish {g : Gx} {t : Tb} {n f : Nat} (hx : g.ex = .none ∧ g.ea = .none) (h : ∀ ns : List Int, ns.length ≤ 63 → ∃ S, callN t n f [.scr ns] ⟨0, .nil⟩ = .ok (.bool true) S) {H : Hp} {a : Addr} {ns : List Int} (hl : ns.length ≤ 63) (ho : Only H) (hS : SqL g.K H a (ns.map V.int)) :
    spG g t n f [.ref a] H (fun v _ => v = .bl true) Eno := by
  obtain ⟨S, e⟩ := h ns hl
  have ro : RoL g.K H a (ns.map V.int) := by
    rcases hS with (q | ⟨o, q⟩) | q
    · rcases ho a with z | ⟨o, xs, z⟩
      · rw [z] at q; cases q
      · rw [z] at q; cases q
    · exact .inl ⟨o, q⟩
    · exact .inr q
  refine ⟨⟨g.K, [], 0⟩, [.scr ns], ⟨0, .nil⟩, .cons (.scr ro) .nil, ⟨rfl, rfl, trivial, (fun i j b hi hj => by simp at hi), (fun n o hn => ?_), (fun n hn => absurd hn (Nat.not_lt_zero _)), (fun b fs hb => by rw [hx.1] at hb; cases hb), (fun b hb => by rw [hx.2] at hb; cases hb)⟩, ?_⟩
  · have : (Store.get ⟨0, .nil⟩ n) = .none := rfl
    rw [this] at hn; cases hn
  · rw [e]
    intro m' H' x _ _ r
    cases r
    rfl
theorem vis_of {sc : Scope} {x : Str} (h : (match sc.names.lookup x with | some .local => true | some .cell => true | some .free => true | _ => false) = true) : Vis sc x := by
  unfold Vis
  cases e : sc.names.lookup x with
  | none => rw [e] at h; cases h
  | some k => rw [e] at h; cases k <;> first | exact .inl rfl | exact .inr (.inl rfl) | exact .inr (.inr rfl) | cases h
theorem loc_of {sc : Scope} {x : Str} (h : (match sc.names.lookup x with | some .local => true | some .cell => true | _ => false) = true) : L2.Loc sc x := by
  unfold L2.Loc
  cases e : sc.names.lookup x with
  | none => rw [e] at h; cases h
  | some k => rw [e] at h; cases k <;> first | exact .inl rfl | exact .inr rfl | cases h
section
variable {X : Cx} {g : Gx} {o : Orc} {W : WX} {pos p : Pos} {x : Str}
theorem m_gint {i : Int} (hg : Gl X x) (hm : ∃ t, X.mg x = some (.int i t)) (hd : (x == ("__debug__" : Str)) = false) : PE X (.Name x p) (tM g o W (eC (.int i))) := by
  obtain ⟨t, hm⟩ := hm
  exact PE.imp (pe_glob (v := .int i) hg hm ⟨t, rfl⟩ hd) fun σ H Q ⟨m, ρ, S, re, rs, pp⟩ => pp m H _ Ex.rfl' rs (RV.int i)
theorem m_gstr {z : Str} {l : List Nat} (hg : Gl X x) (hm : ∃ t, X.mg x = some (.str z t)) (e : z.cps.toList = l) (h : sOk l) (hd : (x == ("__debug__" : Str)) = false) : PE X (.Name x p) (tM g o W (eC (.str l))) := by
  obtain ⟨t, hm⟩ := hm
  have : z = ⟨l.toArray⟩ := by rw [← e]
  exact PE.imp (pe_glob (v := .str z) hg hm ⟨t, rfl⟩ hd) fun σ H Q ⟨m, ρ, S, re, rs, pp⟩ => pp m H _ Ex.rfl' rs (by rw [this]; exact RV.str h)
theorem sOk_of {l : List Nat} (h : (Nat.ble l.length sizeLine && l.all fun c => Nat.blt c 128) = true) : sOk l := by
  obtain ⟨h1, h2⟩ := Bool.and_eq_true_iff.mp h
  exact ⟨Nat.le_of_ble_eq_true h1, fun c hc => by simpa [Nat.blt_eq] using List.all_eq_true.mp h2 c hc⟩
end
end G
set_option Elab.async false
set_option linter.all false
set_option maxRecDepth 100000
namespace G
open PySem PySem.Spec L2
open PyProof.Rows hiding St
section
variable {X : Cx} {g : Gx} {o : Orc} {W : WX} {pins : List (Addr × PySem.Obj)} {s : Shared} {σ : St} {ρ : G.Env} {m : Mp} {H : Hp} {S : Store} {pos p : Pos} {x : Str}
theorem ixOf_ixN (n : Nat) (i : Int) : ixOf n i = ixN n i := by
  unfold ixOf ixN
  cases i with
  | ofNat k =>
    rw [if_pos (by show (0 : Int) ≤ (k : Int); omega)]
    by_cases h : k < n
    · rw [if_pos (by show (k : Int) < _; omega)]
      have : Nat.blt k n = true := by simpa [Nat.blt_eq] using h
      simp only [this]; rfl
    · rw [if_neg (by show ¬ (k : Int) < _; omega)]
      have : Nat.blt k n = false := Bool.eq_false_iff.mpr (by simpa [Nat.blt_eq] using h)
      simp only [this]
  | negSucc k =>
    rw [if_neg (by omega)]
    by_cases h : k < n
    · rw [if_pos (by omega)]
      have : Nat.blt k n = true := by simpa [Nat.blt_eq] using h
      simp only [this]
      congr 1; omega
    · rw [if_neg (by omega)]
      have : Nat.blt k n = false := Bool.eq_false_iff.mpr (by simpa [Nat.blt_eq] using h)
      simp only [this]
theorem g_sub {a b : PySem.Expr} {ca cb : G.E} (ha : PE X a (tM g o Wno ca)) (hb : PE X b (tM g o Wno cb))
    (hs : ∀ v, assign (.Subscript a b pos) X.env v = (do
      let ov ← holding [v] (eval a X.env)
      let iv ← holding [v, ov] (eval b X.env)
      standAt pos
      holding [v, ov, iv] (setItem ov iv v)
      release [v, ov, iv] [])) : PG X (.Subscript a b pos) (tE g o (tSub ca cb)) := by
  refine ⟨fun pins s σ H v u Q I r ⟨m, ρ, S, w, re, rs, rv, pp⟩ => ?_⟩
  rw [hs]
  refine wpAny_bind (wpAny_holding (thnE (W := Wno) ha I re rs pp fun ov s1 v1 S1 m1 H1 x I1 r1 rv1 rs1 re1 e1 p1 => ?_))
  refine wpAny_bind (wpAny_holding (thnE (W := Wno) hb I1 re1 rs1 p1 fun iv s2 v2 S2 m2 H2 y I2 r2 rv2 rs2 re2 e2 p2 => ?_))
  refine wpAny_bind (wpAny_standAt (wpAny_bind (wpAny_holding ?_)))
  have rv1' := rv1.mono e2
  cases rv1' with
  | @ref n q hq =>
    cases rv2 with
    | int i =>
      have p3 : PostG g RE m2 H2 Q Eno (R.bind (match S2.get n with | some (.lst xs) => (match ixOf xs.length i with | some k => .ok () (S2.put n (.lst (xs.set k w))) | .none => .stuck 84) | _ => .stuck 86) fun _ S => .ok ρ S) := p2
      cases e0 : S2.get n with
      | none => rw [e0] at p3; exact p3.elim
      | some ob =>
        cases ob with
        | lst xs =>
          rw [e0] at p3
          obtain ⟨q', ys, k1, hq', k2, k3⟩ := rs2.list e0 (RV.ref hq)
          cases k1
          have p4 : PostG g RE m2 H2 Q Eno (R.bind (match ixOf xs.length i with | some k => .ok () (S2.put n (.lst (xs.set k w))) | .none => .stuck 84) fun _ S => .ok ρ S) := p3
          rw [ixOf_ixN, k3.length] at p4
          cases e4 : ixN ys.length i with
          | none => rw [e4] at p4; exact p4.elim
          | some k =>
            rw [e4] at p4
            refine thn (set_list pins s2 σ H2 _ _ _ ov iv u _ I2 r1 r2 r ⟨_, ys, i, k, rfl, rfl, k2, e4, rfl⟩) fun _ s3 ⟨H3, I3, q3⟩ => ?_
            refine wpAny_release ⟨σ, H3, I3, ?_⟩
            subst q3
            have x2 := rs2.exPut (u := .lst (ys.set k v)) e0 hq
            exact p4 m2 _ σ x2 (rs2.put e0 hq ⟨_, upd_same, (k3.mono x2).set (((rv.mono e1).mono e2).mono x2) k⟩) (re2.mono x2)
        | _ => rw [e0] at p3; exact p3.elim
    | _ =>
      have p3 : PostG g RE m2 H2 Q Eno (R.bind (match S2.get n with | some (.lst xs) => .stuck 84 | _ => .stuck 86) fun (_ : Unit) S => .ok ρ S) := p2
      split at p3 <;> exact p3.elim
  | _ => exact p2.elim
theorem m_and1 {e : PySem.Expr} {ce : G.E} {op : BoolOp} (he : PE X e (tM g o W ce)) : PE X (.BoolOp op [e] pos) (tM g o W ce) := pe_one he
theorem hu_of {n : Nat} {A : Around} (r : Rb n A) : A.units + 64 < cLine := by have := r.un; omega
theorem hu5_of {n : Nat} {A : Around} (r : Rb n A) : A.units + 65 < cLine := by have := r.un; omega
def blkB (N : List Str) (sc scope : Scope) (own : List (Str × Nat)) : Bool :=
  decide (scope.kind = .function) && (scope.names.all (fun y => decide (scope.names.lookup y.1 = some y.2)) && (own.all (fun p => decide (N[p.2]? = some p.1)) &&
    (scope.names.all (fun y => decide (y.2 = .free → sc.names.lookup y.1 = some .cell ∨ sc.names.lookup y.1 = some .free)) && scope.names.all (fun y => decide (y.2 = .local ∨ y.2 = .cell → y.1 ∈ own.map (·.1) ∨ y.1 ∉ N)))))
theorem blk_ok {N : List Str} {sc scope : Scope} {own : List (Str × Nat)} (h : blkB N sc scope own = true) : BlkOk N sc scope own := by
  obtain ⟨h1, h⟩ := He.ba h
  obtain ⟨h2, h⟩ := He.ba h
  obtain ⟨h3, h⟩ := He.ba h
  obtain ⟨h4, h5⟩ := He.ba h
  exact ⟨of_decide_eq_true h1, fun y hy => of_decide_eq_true (List.all_eq_true.mp h2 y hy), fun y hy => of_decide_eq_true (List.all_eq_true.mp h3 y hy), fun y hy => of_decide_eq_true (List.all_eq_true.mp h4 y hy), fun y hy => of_decide_eq_true (List.all_eq_true.mp h5 y hy)⟩
end
end G
set_option Elab.async false
set_option linter.all false
set_option maxRecDepth 100000
namespace G
open PySem PySem.Spec L2
open PyProof.Rows hiding St
def tgV (g : Gx) : Tg → Value
  | .non => .type "NoneType"
  | .bool => .type "bool"
  | .int => .type "int"
  | .str => .type "str"
  | .tup => .type "tuple"
  | .lst => .type "list"
  | .dct => .type "dict"
  | .own c => .ref (g.cl c)
/-- what isinstance asks of an own class -/
structure InsT (K : PySem.W.Frag) (C : Addr) : Prop where
  ha : PySem.W.findIn K (.ref C) "__class__" = some (some (.builtin "object.__class__"))
  hn : PySem.W.specialIn K (.builtin "object.__class__") "__get__" = some (some (.builtin "getset_descriptor.__get__"))
  htk : PySem.W.takesIn K (.builtin "object.__class__") = some true
  hm : PySem.W.mroIn K C (.type "object") = some true
/-- the class cv, told by the kinds' answers -/
structure TyOk (K : PySem.W.Frag) (g : Gx) (ans : Tg → Option Bool) (cv : Value) : Prop where
  one : ∀ t b, ans t = some b → PySem.W.kitOne K (tgV g t) cv = some b
  own : ∀ c b, ans (.own c) = some b → InsT K (g.cl c)
section
variable {X : Cx} {g : Gx} {o : Orc} {W : WX} {pins : List (Addr × PySem.Obj)} {s : Shared} {σ : St} {ρ : G.Env} {m : Mp} {H : Hp} {S : Store} {pos p p2 : Pos} {x y : Str}
theorem kit_val (hK : g.K = X.K) {ans : Tg → Option Bool} {cv : Value} (T : TyOk X.K g ans cv) {v : Val} {x : V} {u : Value} {t : Tg} {b : Bool} (I : Inv X pins σ H s) (rv : RV m H v x) (ru : RelV x u) (rs : RS g m S H) (ht : tgOf S v = some t) (ha : ans t = some b) {Q : Value → Shared → Prop}
    (h : ∀ tk, Q (.bool b) { s with toks := tk }) : wpAny (model X.prog X.w) X.A (call (.builtin "isinstance") [u, cv]) Q X.xe s := by
  have e := T.one t b ha
  cases rv with
  | none => cases ht; exact isinst_ok I ru .non e h
  | bool z => cases ht; exact isinst_ok I ru (.bl z) e h
  | int z => cases ht; exact isinst_ok I ru (.int z) e h
  | str z => cases ht; exact isinst_ok I ru (.str _) e h
  | tup hq r => cases ht; exact isinst_ok I ru (.tup hq) e h
  | @ref n a hm =>
    have ht' : (match S.get n with | some (.lst _) => some Tg.lst | some (.dct _) => some .dct | some (.ins c _) => some (.own c) | _ => .none) = some t := ht
    split at ht'
    · rename_i xs e0
      cases ht'
      obtain ⟨q, ys, k1, _, k2, k3⟩ := rs.list e0 (RV.ref hm)
      cases k1
      exact isinst_ok I ru (.lst k2) e h
    · rename_i kvs e0
      cases ht'
      obtain ⟨q, hq, z, es, h1, h2⟩ := rs.obj n _ e0
      rw [hm] at hq; cases hq
      cases (show u = Value.ref a from ru)
      obtain ⟨⟨_, ob, ep, h3, h4, h5⟩, _⟩ := (show ObjOk X.prog X.w H s.heap a (dO a es) from I.hok a _ h1)
      exact PySem.W.kia_one PySem.W.kitx_dict I.kIn ⟨ob, h3, h4.1⟩ e (fun z => nomatch z) h
    · rename_i c fs e0
      cases ht'
      obtain ⟨q, hq, ⟨hc, _⟩, dx, hs, h1, h2⟩ := rs.obj n _ e0
      rw [hm] at hq; cases hq
      have it := T.own c b ha
      exact isinst_ok I ru (.ins h1 (hK ▸ hc) it.ha it.hn it.htk it.hm) e h
    · cases ht'
  | scr _ => cases ht
theorem e_isi (hK : g.K = X.K) {ans : Tg → Option Bool} {a : PySem.Expr} {ca : G.E} {c : V} {cv : Value} (T : TyOk X.K g ans cv) (hg : Gl X "isinstance") (hm : X.mg "isinstance" = .none) (ha : PE X a (tM g o W ca)) {b : PySem.Expr} (hb : PE X b (tC c)) (hc : ClsV c cv)
    (h1 : starEach [a, b] X.env = (false, eval a X.env) :: starEach [b] X.env) (h2 : starEach [b] X.env = (false, eval b X.env) :: starEach [] X.env) (hpl : (backTo pos (starEach [b] X.env)).any (·.1) = false) : PE X (.Call (.Name "isinstance" p) [a, b] [] pos) (tM g o W (eIsI ca ans)) := by
  have cr : CallR X (.builtin "isinstance") (fun xs H Q => ∃ m S v x t r, xs = [x, c] ∧ RV m H v x ∧ RS g m S H ∧ tgOf S v = some t ∧ ans t = some r ∧ Q (.bl r) H) := by
    intro pins s σ H xs us Q I r ⟨m, S, v, x, t, z, e, rv, rs, h1, h2, q⟩
    subst e
    obtain ⟨u1, u2, rfl, r1, r2⟩ := vals2 r
    have e2 := hc.eq r2
    subst e2
    exact kit_val hK T I rv r1 rs h1 h2 fun tk => ⟨.bl z, H, I.tok tk, rfl, q⟩
  exact PE.imp (pe_callB cr hg hm (by decide +kernel) (pa_cons ha (pa_cons hb pa_nil h2) h1) (by decide) rfl h1 hpl) fun σ H Q ⟨m, ρ, S, re, rs, pp⟩ => ⟨m, ρ, S, re, rs, PostG.mono (PostG.bind pp) fun x H1 ⟨m1, v, S1, e1, rs1, rv, p1⟩ => by
    have p2 : PostG g RV m1 H1 Q (atS W σ) (match tgOf S1 v with | some t => ofB (ans t) S1 133 | .none => .stuck 133) := p1
    cases e : tgOf S1 v with
    | none => rw [e] at p2; exact p2.elim
    | some t =>
      rw [e] at p2
      obtain ⟨r, h1, h2⟩ := ofB_ok rs1 p2
      exact ⟨m1, S1, v, x, t, r, rfl, rv, rs1, e, h1, h2⟩⟩
/-- a built-in type -/
theorem tyB {T : String} {ans : Tg → Option Bool} {K : PySem.W.Frag} (h : ∀ t b, ans t = some b → (∃ n, tgV g t = .type n ∧ kitB n T = some b)) (ho : ∀ c, ans (.own c) = .none) : TyOk K g ans (.type T) :=
  ⟨fun t b e => by obtain ⟨n, h1, h2⟩ := h t b e; rw [h1]; exact kit_ty h2, fun c b e => by rw [ho c] at e; cases e⟩
theorem ty_str {K : PySem.W.Frag} : TyOk K g aStr (.type "str") := tyB (fun t b e => by cases t <;> cases e <;> exact ⟨_, rfl, by decide +kernel⟩) fun c => rfl
theorem ty_tup {K : PySem.W.Frag} : TyOk K g aTup (.type "tuple") := tyB (fun t b e => by cases t <;> cases e <;> exact ⟨_, rfl, by decide +kernel⟩) fun c => rfl
/-! ### instances -/
/-- what the text's names of fields and methods keep -/
structure Nms (g : Gx) : Prop where
  inj : ∀ i j, i < g.nf → j < g.nf → g.nm i = g.nm j → i = j
/-- a method by its number: the classes that have it -/
structure MtOk (X : Cx) (g : Gx) (F : Ft) (nf : Nat) (mt : Nat → Nat → Option Nat) (mi : Nat) (mn : Str) : Prop where
  at_ : ∀ c f, mt c mi = some f → f < nf ∧ Meth X.K (g.cl c) mn (F.a f) ∧ Binds X.K (F.fd f) (F.ps f) []
  no : ∀ i, i < g.nf → g.nm i ≠ mn
end
end G
set_option Elab.async false
set_option linter.all false
set_option maxRecDepth 100000
namespace G
open PySem PySem.Spec L2
open PyProof.Rows hiding St
section
variable {X : Cx} {g : Gx} {o : Orc} {W : WX} {t : Tb} {F : Ft} {nf n : Nat} {pins : List (Addr × PySem.Obj)} {s : Shared} {σ : St} {ρ : G.Env} {m : Mp} {H : Hp} {S : Store} {pos p p2 : Pos} {x y : Str} {es : List PySem.Expr} {e : PySem.Expr} {cs : G.EL}
/-! ### a new instance -/
end
end G
set_option Elab.async false
set_option linter.all false
set_option maxRecDepth 100000
namespace G
open PySem PySem.Spec L2
open PyProof.Rows hiding St
/-! ### keys that are tuples -/
section
variable {X : Cx} {g : Gx} {pins : List (Addr × PySem.Obj)} {s : Shared} {σ : St} {m : Mp} {H : Hp} {S : Store}
mutual
theorem nested_of (I : Inv X pins σ H s) : ∀ {v : Val} {x : V} {u : Value} {k : NestedKey}, RV m H v x → RelV x u → kOf v = some k → NestedIs s.heap k u
  | _, _, u, k, .none, ru, h => by
    rw [kOf] at h; cases h
    cases (show u = Value.none from ru); exact .none
  | _, _, u, k, .int i, ru, h => by
    rw [kOf] at h; cases h
    obtain ⟨t, rfl⟩ := ru; exact .int i t
  | _, _, u, k, .str (s := l) hl, ru, h => by
    rw [kOf] at h; cases h
    obtain ⟨t, rfl⟩ := ru; exact .text _ t
  | _, _, u, k, .tup (a := a) (vs := vs) (xs := xs) ht r, ru, h => by
    rw [kOf] at h
    cases e : kOfs vs with
    | none => rw [e] at h; cases h
    | some ks =>
      rw [e] at h; cases h
      cases ru
      obtain ⟨its, rv, ⟨o, e1, e2, n, e3⟩, _⟩ := I.tuple (SqT.of ht)
      exact .tup e1 e2 e3 (by simpa using nesteds_of I r rv e)
  | _, _, u, k, .bool b, ru, h => by rw [kOf] at h; cases h
  | _, _, u, k, .ref _, ru, h => by rw [kOf] at h; cases h
  | _, _, u, k, .scr _, ru, h => by rw [kOf] at h; cases h
theorem nesteds_of (I : Inv X pins σ H s) : ∀ {vs : List Val} {xs : List V} {us : List Value} {ks : List NestedKey}, RVs m H vs xs → Vals xs us → kOfs vs = some ks → NestedAll s.heap ks us
  | _, _, _, ks, .nil, .nil, h => by rw [kOfs] at h; cases h; exact .nil
  | _, _, _, ks, .cons (v := v) (vs := vs) r rr, .cons u uu, h => by
    rw [kOfs] at h
    cases e1 : kOf v with
    | none => rw [e1] at h; cases h
    | some k =>
      cases e2 : kOfs vs with
      | none => rw [e1, e2] at h; cases h
      | some ks' =>
        rw [e1, e2] at h; cases h
        exact .cons (nested_of I r u e1) (nesteds_of I rr uu e2)
end
theorem keyIn_ok : ∀ (n : Nat) (v : Val), keyIn n v = true → ∃ k, kOf v = some k ∧ k.depth ≤ n
  | 0, _, h => nomatch h
  | n + 1, .none, _ => ⟨.none, by rw [kOf], by rw [NestedKey.depth]; exact Nat.zero_le _⟩
  | n + 1, .int i, _ => ⟨.num i, by rw [kOf], by rw [NestedKey.depth]; exact Nat.zero_le _⟩
  | n + 1, .str l, _ => ⟨.text _, by rw [kOf], by rw [NestedKey.depth]; exact Nat.zero_le _⟩
  | n + 1, .tup a, h => by
    have h' : a.all (keyIn n) = true := h
    have all : ∀ a : List Val, a.all (keyIn n) = true → ∃ ks, kOfs a = some ks ∧ NestedKey.depthAll ks ≤ n := by
      intro a
      induction a with
      | nil => intro _; exact ⟨[], by rw [kOfs], by rw [NestedKey.depthAll]; exact Nat.zero_le _⟩
      | cons v a ih =>
        intro h
        obtain ⟨h1, h2⟩ := Bool.and_eq_true_iff.mp h
        obtain ⟨k, e1, d1⟩ := keyIn_ok n v h1
        obtain ⟨ks, e2, d2⟩ := ih h2
        exact ⟨k :: ks, by rw [kOfs, e1, e2], by rw [NestedKey.depthAll]; exact Nat.max_le.mpr ⟨d1, d2⟩⟩
    obtain ⟨ks, e, d⟩ := all a h'
    exact ⟨.tup ks, by rw [kOf, e]; rfl, by rw [NestedKey.depth]; omega⟩
  | n + 1, .bool b, h => nomatch h
  | n + 1, .ref b, h => nomatch h
  | n + 1, .scr b, h => nomatch h
  | n + 1, .err, h => nomatch h
/-- == of such keys -/
theorem eqF_key : ∀ (n : Nat) (v w : Val) (a b : NestedKey), kOf v = some a → kOf w = some b → a.depth < n → eqF nilS n v w = some (NestedKey.beq a b)
  | 0, _, _, _, _, _, _, h => absurd h (Nat.not_lt_zero _)
  | n + 1, v, w, a, b, ha, hb, hd => by
    have all : ∀ (vs ws : List Val) (ks ls : List NestedKey), kOfs vs = some ks → kOfs ws = some ls → NestedKey.depthAll ks < n → eqL (eqF nilS n) vs ws = some (NestedKey.beqAll ks ls) := by
      intro vs
      induction vs with
      | nil =>
        intro ws ks ls h1 h2 _
        rw [kOfs] at h1; cases h1
        cases ws with
        | nil => rw [kOfs] at h2; cases h2; rw [NestedKey.beqAll]; rfl
        | cons w ws =>
          rw [kOfs] at h2
          cases e1 : kOf w with
          | none => rw [e1] at h2; cases h2
          | some k =>
            cases e2 : kOfs ws with
            | none => rw [e1, e2] at h2; cases h2
            | some ks => rw [e1, e2] at h2; cases h2; rw [NestedKey.beqAll]; rfl; all_goals (intros; intro z; cases z)
      | cons v vs ih =>
        intro ws ks ls h1 h2 hd
        rw [kOfs] at h1
        cases e1 : kOf v with
        | none => rw [e1] at h1; cases h1
        | some k =>
          cases e2 : kOfs vs with
          | none => rw [e1, e2] at h1; cases h1
          | some ks' =>
            rw [e1, e2] at h1; cases h1
            rw [NestedKey.depthAll] at hd
            cases ws with
            | nil => rw [kOfs] at h2; cases h2; rw [NestedKey.beqAll]; rfl; all_goals (intros; intro z; cases z)
            | cons w ws =>
              rw [kOfs] at h2
              cases e3 : kOf w with
              | none => rw [e3] at h2; cases h2
              | some k2 =>
                cases e4 : kOfs ws with
                | none => rw [e3, e4] at h2; cases h2
                | some ls' =>
                  rw [e3, e4] at h2; cases h2
                  rw [eqL, eqF_key n v w k k2 e1 e3 (by omega), NestedKey.beqAll]
                  show (match some (NestedKey.beq k k2) with | some true => eqL (eqF nilS n) vs ws | some false => some false | .none => .none) = _
                  cases NestedKey.beq k k2 with
                  | true => exact ih ws ks' ls' e2 e4 (by omega)
                  | false => rfl
    cases v with
    | none =>
      rw [kOf] at ha; cases ha
      cases w <;> rw [kOf] at hb
      case none => cases hb; rw [NestedKey.beq]; rfl
      case int => cases hb; rfl
      case str => cases hb; rfl
      case tup ws =>
        cases e : kOfs ws with
        | none => rw [e] at hb; cases hb
        | some ls => rw [e] at hb; cases hb; rfl
      all_goals cases hb
    | int i =>
      rw [kOf] at ha; cases ha
      cases w <;> rw [kOf] at hb
      case none => cases hb; rfl
      case int j => cases hb; rw [NestedKey.beq]; show some (intEq i j) = _; rw [intEq_eq]
      case str => cases hb; rfl
      case tup ws =>
        cases e : kOfs ws with
        | none => rw [e] at hb; cases hb
        | some ls => rw [e] at hb; cases hb; rfl
      all_goals cases hb
    | str l =>
      rw [kOf] at ha; cases ha
      cases w <;> rw [kOf] at hb
      case none => cases hb; rfl
      case int j => cases hb; rfl
      case str k =>
        cases hb; rw [NestedKey.beq]
        show some (strEq l k) = _
        rw [strEq_eq]
        congr 1
        exact decide_eq_decide.mpr ⟨fun h => by rw [h], fun h => by simpa using h⟩
      case tup ws =>
        cases e : kOfs ws with
        | none => rw [e] at hb; cases hb
        | some ls => rw [e] at hb; cases hb; rfl
      all_goals cases hb
    | tup vs =>
      rw [kOf] at ha
      cases e : kOfs vs with
      | none => rw [e] at ha; cases ha
      | some ks =>
        rw [e] at ha; cases ha
        cases w <;> rw [kOf] at hb
        case none => cases hb; rfl
        case int j => cases hb; rfl
        case str k => cases hb; rfl
        case tup ws =>
          cases e2 : kOfs ws with
          | none => rw [e2] at hb; cases hb
          | some ls =>
            rw [e2] at hb; cases hb
            have hd' : NestedKey.depthAll ks + 1 < n + 1 := by
              have h3 : (NestedKey.tup ks).depth = NestedKey.depthAll ks + 1 := by rw [NestedKey.depth]
              rw [← h3]; exact hd
            rw [NestedKey.beq]
            exact all vs ws ks ls e e2 (by omega)
        all_goals cases hb
    | bool b => rw [kOf] at ha; cases ha
    | ref b => rw [kOf] at ha; cases ha
    | scr b => rw [kOf] at ha; cases ha
    | err => rw [kOf] at ha; cases ha
theorem eqK_key {v w : Val} {a b : NestedKey} (ha : kOf v = some a) (hb : kOf w = some b) (hd : a.depth ≤ 8) : eqK v w = decide (a = b) := by
  rw [eqK_eq]
  unfold eqKo
  rw [eqF_key 10 v w a b ha hb (by omega), NestedKey.decide_eq]
end
end G
set_option Elab.async false
set_option linter.all false
set_option maxRecDepth 100000
namespace G
open PySem PySem.Spec L2
open PyProof.Rows hiding St
section
variable {X : Cx} {g : Gx} {o : Orc} {W : WX} {pins : List (Addr × PySem.Obj)} {s : Shared} {σ : St} {ρ : G.Env} {m : Mp} {H : Hp} {S : Store}
/-! ### dicts whose keys are tuples -/
def KP (m : Mp) (H : Hp) (kv : Val × Val) (x : NestedKey × Addr × Value) : Prop := kOf kv.1 = some x.1 ∧ isT kv.1 = true ∧ x.1.depth ≤ 8 ∧ RV m H kv.1 (.ref x.2.1) ∧ RU m H kv.2 x.2.2
theorem atKey_cons_eq {x : NestedKey × Addr × Value} {xs : List (NestedKey × Addr × Value)} {k : NestedKey} (h : x.1 = k) : atKey (x :: xs) k = some x.2 := by simp [atKey, h]
theorem atKey_cons_ne {x : NestedKey × Addr × Value} {xs : List (NestedKey × Addr × Value)} {k : NestedKey} (h : x.1 ≠ k) : atKey (x :: xs) k = atKey xs k := by simp [atKey, h]
theorem storedH_eq {x : NestedKey × Addr × Value} {xs : List (NestedKey × Addr × Value)} {k : NestedKey} {a : Addr} {u : Value} (h : x.1 = k) (nd : ((x :: xs).map (·.1)).Nodup) : storedH (x :: xs) k a u = (x.1, x.2.1, u) :: xs := by
  rw [storedH_old (atKey_cons_eq h), List.map_cons]
  have h1 : putAt k u x = (x.1, x.2.1, u) := by simp [putAt, h]
  have h2 : xs.map (putAt k u) = xs := by
    rw [List.map_cons, List.nodup_cons] at nd
    have : ∀ y ∈ xs, putAt k u y = y := fun y hy => by
      have ne : y.1 ≠ k := fun z => nd.1 (by rw [h, ← z]; exact List.mem_map_of_mem hy)
      simp [putAt, ne]
    exact (List.map_congr_left this).trans (List.map_id _)
  rw [h1, h2]
theorem storedH_ne {x : NestedKey × Addr × Value} {xs : List (NestedKey × Addr × Value)} {k : NestedKey} {a : Addr} {u : Value} (h : x.1 ≠ k) : storedH (x :: xs) k a u = x :: storedH xs k a u := by
  cases e : atKey xs k with
  | none => rw [storedH_new (by rw [atKey_cons_ne h]; exact e), storedH_new e]; rfl
  | some p =>
    rw [storedH_old (p := p) (by rw [atKey_cons_ne h]; exact e), storedH_old e, List.map_cons]
    congr 1
    simp [putAt, h]
theorem dput_key {k v : Val} {kk : NestedKey} {a : Addr} {u : Value} (hk : KP m H (k, v) (kk, a, u)) : ∀ {kvs : List (Val × Val)} {xs : List (NestedKey × Addr × Value)}, Paired (KP m H) kvs xs → (xs.map (·.1)).Nodup → Paired (KP m H) (dput k v kvs) (storedH xs kk a u) := by
  intro kvs xs r
  induction r with
  | nil => intro _; exact .cons hk .nil
  | @cons kv x kvs xs q r ih =>
    intro nd
    obtain ⟨b, w⟩ := kv
    obtain ⟨h1, h2, h3, h4, h5⟩ := q
    have e : eqK b k = decide (x.1 = kk) := eqK_key h1 hk.1 h3
    by_cases c : x.1 = kk
    · rw [storedH_eq c nd, dput_cons, e, decide_eq_true c]
      exact .cons ⟨h1, h2, h3, h4, hk.2.2.2.2⟩ r
    · rw [storedH_ne c, dput_cons, e, decide_eq_false c]
      rw [List.map_cons, List.nodup_cons] at nd
      exact .cons ⟨h1, h2, h3, h4, h5⟩ (ih nd.2)
theorem dO_at {a : Addr} {es : Array DictEntry} (I : Inv X pins σ H s) (h : H a = some (dO a es)) : (a == sysModules) = false ∧ ∃ ob ep, s.heap.get? a = some ob ∧ ob.ExactDict ∧ ob.data = .dict es ep := by
  obtain ⟨q, _⟩ := (show ObjOk X.prog X.w H s.heap a (dO a es) from I.hok a _ h)
  exact q
theorem dO_ok {P : Program} {w : World} {h : Heap} {a : Addr} {es : Array DictEntry} {ob : PySem.Obj} {ep : Nat} (hs : (a == sysModules) = false) (h1 : h.get? a = some ob) (h2 : ob.ExactDict) (h3 : ob.data = .dict es ep) : ObjOk P w H h a (dO a es) :=
  ⟨⟨hs, ob, ep, h1, h2, h3⟩, ⟨ob, h1⟩, fun h1 h2 ⟨k1, ob, ep, k2, k3, k4⟩ hk => ⟨k1, ob, ep, hk _ k2, k3, k4⟩⟩
theorem key_is (I : Inv X pins σ H s) {kv : Val × Val} {x : NestedKey × Addr × Value} (q : KP m H kv x) : (nestedKind X.prog X.w).is s.heap x.1 x.2.1 := ⟨nested_of I q.2.2.2.1 rfl q.1, q.2.2.1⟩
theorem paired_mem {α β : Type} {R : α → β → Prop} : ∀ {l : List α} {k : List β}, Paired R l k → ∀ b ∈ k, ∃ a, R a b
  | _, _, .nil, b, h => nomatch h
  | _, _, .cons q r, b, h => (List.mem_cons.mp h).elim (fun e => ⟨_, e ▸ q⟩) (paired_mem r b)
theorem dictOf (I : Inv X pins σ H s) {a : Addr} {es : Array DictEntry} {kvs : List (Val × Val)} {xs : List (NestedKey × Addr × Value)} (h : H a = some (dO a es)) (he : es.toList = xs.map (entryOfKey (nestedKind X.prog X.w))) (hn : (xs.map (·.1)).Nodup) (hr : Paired (KP m H) kvs xs) :
    s.heap.DictOfH (nestedKind X.prog X.w) a xs := by
  obtain ⟨_, ob, ep, h1, h2, h3⟩ := dO_at I h
  exact ⟨ob, es, ep, h1, h2, h3, he, fun x hx => let ⟨kv, q⟩ := paired_mem hr x hx; key_is I q, hn⟩
end
end G
set_option Elab.async false
set_option linter.all false
set_option maxRecDepth 100000
namespace G
open PySem PySem.Spec L2
open PyProof.Rows hiding St
section
variable {X : Cx} {g : Gx} {o : Orc} {W : WX} {pins : List (Addr × PySem.Obj)} {s : Shared} {σ : St} {ρ : G.Env} {m : Mp} {H : Hp} {S : Store}
/-! ### dicts whose keys are ints and texts -/
def KF (m : Mp) (H : Hp) (kv : Val × Val) (x : Key × Value) : Prop := kAt kv.1 = some x.1 ∧ RV m H kv.1 (kV x.1) ∧ RU m H kv.2 x.2
theorem eqK_at {v w : Val} {a b : Key} (ha : kAt v = some a) (hb : kAt w = some b) : eqK v w = decide (a = b) := by
  rw [eqK_eq]
  have e1 : ∀ x y : List Nat, (⟨x.toArray⟩ : Str) = ⟨y.toArray⟩ ↔ x = y := fun x y => ⟨fun h => by simpa using h, fun h => by rw [h]⟩
  cases v with
  | int i =>
    cases (show some (Sum.inl i) = some a from ha)
    cases w with
    | int j =>
      cases (show some (Sum.inl j) = some b from hb)
      show intEq i j = _
      rw [intEq_eq]
      exact decide_eq_decide.mpr ⟨fun h => by rw [h], fun h => Sum.inl.inj h⟩
    | str l =>
      cases (show some (Sum.inr ⟨l.toArray⟩) = some b from hb)
      exact (decide_eq_false (fun h => nomatch h)).symm
    | _ => exact nomatch (show (Option.none : Option Key) = some b from hb)
  | str l =>
    cases (show some (Sum.inr ⟨l.toArray⟩) = some a from ha)
    cases w with
    | int j =>
      cases (show some (Sum.inl j) = some b from hb)
      exact (decide_eq_false (fun h => nomatch h)).symm
    | str k =>
      cases (show some (Sum.inr ⟨k.toArray⟩) = some b from hb)
      show strEq l k = _
      rw [strEq_eq]
      exact decide_eq_decide.mpr ⟨fun h => by rw [h], fun h => (e1 l k).mp (Sum.inr.inj h)⟩
    | _ => exact nomatch (show (Option.none : Option Key) = some b from hb)
  | _ => exact nomatch (show (Option.none : Option Key) = some a from ha)
/-- what a dict answers for a key -/
structure Ask (X : Cx) (s : Shared) (a : Addr) (u : Value) (r : Option Value) : Prop where
  in_ : ∀ (Q : Value → Shared → Prop), (∀ tk, Q (.bool r.isSome) { s with toks := tk }) → wpAny (model X.prog X.w) X.A (compareOp .In u (.ref a)) Q X.xe s
  notIn : ∀ (Q : Value → Shared → Prop), (∀ tk, Q (.bool (!r.isSome)) { s with toks := tk }) → wpAny (model X.prog X.w) X.A (compareOp .NotIn u (.ref a)) Q X.xe s
  item : ∀ (w : Value) (Q : Value → Shared → Prop), r = some w → (∀ tk, Q w { s with toks := tk }) → wpAny (model X.prog X.w) X.A (getItem (.ref a) u) Q X.xe s
  get1 : ∀ (Q : Value → Shared → Prop), (∀ tk, Q (r.getD .none) { s with toks := tk }) → wpAny (model X.prog X.w) X.A (call (.builtin "dict.get") [.ref a, u]) Q X.xe s
  get2 : ∀ (d : Value) (Q : Value → Shared → Prop), (∀ tk, Q (r.getD d) { s with toks := tk }) → wpAny (model X.prog X.w) X.A (call (.builtin "dict.get") [.ref a, u, d]) Q X.xe s
theorem kAt_is {P : Program} {w : World} {k : Val} {kk : Key} {y : V} {u : Value} (rv : RV m H k y) (ru : RelV y u) (hk : kAt k = some kk) : (mixKind P w).is kk u = true := by
  cases rv with
  | int i => cases (show some (Sum.inl i) = some kk from hk); obtain ⟨t, rfl⟩ := ru; exact mixKind_int P w i t
  | @str l hl => cases (show some (Sum.inr ⟨l.toArray⟩) = some kk from hk); obtain ⟨t, rfl⟩ := ru; exact mixKind_str P w _ t
  | _ => exact nomatch (show (Option.none : Option Key) = some kk from hk)
end
end G
set_option Elab.async false
set_option linter.all false
set_option maxRecDepth 100000
namespace G
open PySem PySem.Spec L2
open PyProof.Rows hiding St
section
variable {X : Cx} {g : Gx} {o : Orc} {W : WX} {pins : List (Addr × PySem.Obj)} {s : Shared} {σ : St} {ρ : G.Env} {m : Mp} {H : Hp} {S : Store} {pos p apos : Pos}
end
end G
set_option Elab.async false
set_option linter.all false
set_option maxRecDepth 100000
namespace G
open PySem PySem.Spec L2
open PyProof.Rows hiding St
section
variable {X : Cx} {g : Gx} {o : Orc} {W : WX} {pins : List (Addr × PySem.Obj)} {s : Shared} {σ : St} {ρ : G.Env} {m : Mp} {H : Hp} {S : Store} {pos p apos : Pos}
theorem dput_len (k v : Val) : ∀ l : List (Val × Val), (dput k v l).length ≤ l.length + 1
  | [] => Nat.le_refl _
  | (a, x) :: r => by
    rw [dput_cons]
    cases eqK a k with
    | true => exact Nat.le_succ _
    | false => exact Nat.succ_le_succ (dput_len k v r)
theorem stored_eq {x : Key × Value} {xs : List (Key × Value)} {k : Key} {u : Value} (h : x.1 = k) (nd : ((x :: xs).map (·.1)).Nodup) : stored (x :: xs) k u = (x.1, u) :: xs := by
  have h2 : xs.map (fun kv => if kv.1 = k then (kv.1, u) else kv) = xs := by
    rw [List.map_cons, List.nodup_cons] at nd
    have : ∀ y ∈ xs, (if y.1 = k then (y.1, u) else y) = y := fun y hy => by
      have ne : y.1 ≠ k := fun z => nd.1 (by rw [h, ← z]; exact List.mem_map_of_mem hy)
      simp [ne]
    exact (List.map_congr_left this).trans (List.map_id _)
  unfold stored
  rw [if_pos (by simp [h]), List.map_cons, h2]
  simp [h]
theorem stored_ne {x : Key × Value} {xs : List (Key × Value)} {k : Key} {u : Value} (h : x.1 ≠ k) : stored (x :: xs) k u = x :: stored xs k u := by
  unfold stored
  have e : ((x :: xs).any fun kv => decide (kv.1 = k)) = xs.any fun kv => decide (kv.1 = k) := by simp [h]
  rw [e]
  split
  · rw [List.map_cons]; congr 1; simp [h]
  · rfl
theorem dput_at {k v : Val} {kk : Key} {u : Value} (hk : KF m H (k, v) (kk, u)) : ∀ {kvs : List (Val × Val)} {xs : List (Key × Value)}, Paired (KF m H) kvs xs → (xs.map (·.1)).Nodup → Paired (KF m H) (dput k v kvs) (stored xs kk u) := by
  intro kvs xs r
  induction r with
  | nil => intro _; exact .cons hk .nil
  | @cons kv x kvs xs q r ih =>
    intro nd
    obtain ⟨b, w⟩ := kv
    obtain ⟨h1, h4, h5⟩ := q
    have e : eqK b k = decide (x.1 = kk) := eqK_at h1 hk.1
    by_cases c : x.1 = kk
    · rw [stored_eq c nd, dput_cons, e, decide_eq_true c]
      exact .cons ⟨h1, h4, hk.2.2⟩ r
    · rw [stored_ne c, dput_cons, e, decide_eq_false c]
      rw [List.map_cons, List.nodup_cons] at nd
      exact .cons ⟨h1, h4, h5⟩ (ih nd.2)
theorem kAt_kV {k : Val} {kk : Key} {y : V} (rv : RV m H k y) (hk : kAt k = some kk) : y = kV kk := by
  cases rv with
  | int i => cases (show some (Sum.inl i) = some kk from hk); rfl
  | @str l hl => cases (show some (Sum.inr ⟨l.toArray⟩) = some kk from hk); rfl
  | _ => exact nomatch (show (Option.none : Option Key) = some kk from hk)
end
end G
set_option Elab.async false
set_option linter.all false
set_option maxRecDepth 100000
namespace G
open PySem PySem.Spec L2
open PyProof.Rows hiding St
section
variable {X : Cx} {g : Gx} {o : Orc} {W : WX} {pins : List (Addr × PySem.Obj)} {s : Shared} {σ : St} {ρ : G.Env} {m : Mp} {H : Hp} {S : Store} {pos p apos : Pos}
/-- {} -/
theorem m_dict0 : PE X (.Dict [] [] pos) (tM g o W eDict0) := by
  refine ⟨fun pins s σ H Q I ⟨m, ρ, S, re, rs, pp⟩ => wpAny_Dict_empty ⟨.ref s.heap.objs.size, _, I.laid (a := s.heap.objs.size) (o := dO s.heap.objs.size #[]) (t' := s.toks) (fun _ _ q => Heap.get?_push_of_some _ q) (Nat.le_refl _) ?_, rfl, ?_⟩⟩
  · exact dO_ok (beq_eq_false_iff_ne.mpr (Ne.symm (Nat.ne_of_lt I.big))) (Heap.get?_push_size _ rfl) ⟨rfl, rfl, rfl⟩ rfl
  · exact PostG.alloc rs pp (I.hok.fresh (Nat.le_refl _)) fun x => ⟨Nat.zero_le _, #[], upd_same, .tup [] rfl List.nodup_nil .nil⟩
end
end G
set_option Elab.async false
set_option linter.all false
set_option maxRecDepth 100000
namespace G
open PySem PySem.Spec L2
open PyProof.Rows hiding St
section
variable {X : Cx} {g : Gx} {o : Orc} {W : WX} {pins : List (Addr × PySem.Obj)} {s : Shared} {σ : St} {ρ : G.Env} {m : Mp} {H : Hp} {S : Store} {pos p apos : Pos}
theorem inBlk {t : Tb} {F : Ft} {nf n : Nat} {scope : Scope} {Fm : Cx → Prop} (R : Rn X g o t F nf n W)
    (h : ∀ (s : Shared) (H : Hp) (C : Addr) (cl : List (Str × Addr)) (fp : List Addr), Rn (X.blk s H scope (compEnvC scope cl C X.env) fp) g o t F nf n Wno → Fm (X.blk s H scope (compEnvC scope cl C X.env) fp)) : InBlk X scope Fm :=
  fun s H C cl fp => h s H C cl fp R.blk
end
/-- the same context where nothing may be raised -/
theorem Rn.no {X : Cx} {g : Gx} {o : Orc} {t : Tb} {F : Ft} {nf n : Nat} {W : WX} (R : Rn X g o t F nf n W) : Rn X g o t F nf n Wno :=
  ⟨R.K, R.P, R.w, R.nd, R.calm, R.room, fun u s' ⟨_, _, _, _, _, _, _, _, _, _, _, _, _, _, _, _, h⟩ => h.elim, R.owns, R.orc, R.ok⟩
end G
set_option Elab.async false
set_option linter.all false
set_option maxRecDepth 100000
/-! sorted(..): ints, trees and tuples of these -/
namespace G
open PySem PySem.Spec L2
open PyProof.Rows hiding St
open PySem.W (alike alikeAll dataLt keyToks keyToksAll dataLe AllAlike Sortable EachIs alike_all_cons dataLt_all_yes dataLt_all_no toks_all_cons lex_pre toks_eqv)
/-! what is known of two values of a shape -/
structure Gd (S : Store) (k : Nat) (a b : Val) : Prop where
  al : alike (dat S k a) (dat S k b) = true
  ev : PyData.eqv (dat S k a) (dat S k b) = isEq (cmpV k a b)
  lt : dataLt (dat S k a) (dat S k b) = isLt (cmpV k a b)
  eq : cmpV k a b = .eq → a = b
/-- of two rows -/
inductive GdL (S : Store) (k : Nat) : List Val → List Val → Prop
  | nil (b : List Val) : GdL S k [] b
  | one (a : Val) (r : List Val) : GdL S k (a :: r) []
  | cons {a b : Val} {r t : List Val} (h : Gd S k a b) (q : GdL S k r t) : GdL S k (a :: r) (b :: t)
theorem GdL.all {S : Store} {k : Nat} {s : Val → Bool} (h : ∀ a b, s a = true → s b = true → Gd S k a b) : ∀ (a b : List Val), a.all s = true → b.all s = true → GdL S k a b
  | [], b, _, _ => .nil b
  | a :: r, [], _, _ => .one a r
  | a :: r, b :: t, h1, h2 => by
    obtain ⟨p1, p2⟩ := Bool.and_eq_true_iff.mp h1
    obtain ⟨q1, q2⟩ := Bool.and_eq_true_iff.mp h2
    exact .cons (h a b p1 q1) (GdL.all h r t p2 q2)
theorem toks_nil_cons (x : PyData) (xs : List PyData) : PyProof.Rows.lexLt itemOrd (keyToksAll []) (keyToksAll (x :: xs)) = true := by
  rw [toks_all_cons]; simp only [keyToksAll]
  exact PyProof.Rows.lex_diff (O := itemOrd) (by simp)
theorem toks_cons_nil (x : PyData) (xs : List PyData) : PyProof.Rows.lexLt itemOrd (keyToksAll (x :: xs)) (keyToksAll []) = false := by
  rw [toks_all_cons]; simp only [keyToksAll]
  exact PyProof.Rows.lex_diff (O := itemOrd) (by simp)
theorem GdL.ok {S : Store} {k : Nat} {a b : List Val} (h : GdL S k a b) : alikeAll (a.map (dat S k)) (b.map (dat S k)) = true ∧ PyData.eqvAll (a.map (dat S k)) (b.map (dat S k)) = isEq (cmpL (cmpV k) a b) ∧
    PyProof.Rows.lexLt itemOrd (keyToksAll (a.map (dat S k))) (keyToksAll (b.map (dat S k))) = isLt (cmpL (cmpV k) a b) ∧ (cmpL (cmpV k) a b = .eq → a = b) := by
  induction h with
  | nil b =>
    cases b with
    | nil => exact ⟨by simp [alikeAll], by simp [PyData.eqvAll, cmpL, isEq], PyProof.Rows.lex_irrefl _, fun _ => rfl⟩
    | cons b t => exact ⟨by simp [alikeAll], by simp [PyData.eqvAll, cmpL, isEq], toks_nil_cons _ _, fun e => by cases e⟩
  | one a r => exact ⟨by simp [alikeAll], by simp [PyData.eqvAll, cmpL, isEq], toks_cons_nil _ _, fun e => by cases e⟩
  | @cons a b r t g _ ih =>
    obtain ⟨i1, i2, i3, i4⟩ := ih
    have ev := g.ev
    rw [List.map_cons, List.map_cons, alikeAll, g.al, i1, PySem.W.eqv_all_cons, g.ev, i2]
    cases e : cmpV k a b with
    | eq =>
      rw [e] at ev
      rw [dataLt_all_yes g.al ev, i3, cmpL, e]
      exact ⟨rfl, by simp [isEq], rfl, fun q => by rw [g.eq e, i4 q]⟩
    | lt =>
      rw [e] at ev
      rw [dataLt_all_no g.al ev, g.lt, e, cmpL, e]
      exact ⟨rfl, by simp [isEq], rfl, fun q => by cases q⟩
    | gt =>
      rw [e] at ev
      rw [dataLt_all_no g.al ev, g.lt, e, cmpL, e]
      exact ⟨rfl, by simp [isEq], rfl, fun q => by cases q⟩
theorem GdL.tup {S : Store} {k : Nat} {a b : List Val} (h : GdL S k a b) : Gd S (k + 1) (.tup a) (.tup b) := by
  obtain ⟨i1, i2, i3, i4⟩ := h.ok
  refine ⟨?_, ?_, ?_, fun q => by rw [i4 q]⟩
  · show alike (.tuple _) (.tuple _) = true
    rw [alike]; exact i1
  · show PyData.eqv (.tuple _) (.tuple _) = _
    rw [PyData.eqv]; exact i2
  · show dataLt (.tuple _) (.tuple _) = _
    rw [PySem.W.dataLt_tuple]; exact i3
/-- all of a shape -/
structure Shp (S : Store) (k : Nat) (s : Val → Bool) : Prop where
  gd : ∀ a b, s a = true → s b = true → Gd S k a b
  dk : ∀ a, s a = true → dOk S k a = true
theorem GdL.all2 {S : Store} {k : Nat} : ∀ (ss : List (Val → Bool)) (a b : List Val), (∀ s ∈ ss, Shp S k s) → G.all2 ss a = true → G.all2 ss b = true → GdL S k a b
  | [], [], b, _, _, _ => .nil b
  | [], _ :: _, _, _, h, _ => by cases h
  | s :: ss, [], _, _, h, _ => by cases h
  | s :: ss, a :: r, [], _, _, h => by cases h
  | s :: ss, a :: r, b :: t, h, h1, h2 => by
    have h1' : (match s a with | true => G.all2 ss r | false => false) = true := h1
    have h2' : (match s b with | true => G.all2 ss t | false => false) = true := h2
    cases e1 : s a with
    | false => rw [e1] at h1'; cases h1'
    | true =>
      cases e2 : s b with
      | false => rw [e2] at h2'; cases h2'
      | true =>
        rw [e1] at h1'; rw [e2] at h2'
        exact .cons ((h s List.mem_cons_self).gd a b e1 e2) (GdL.all2 ss r t (fun z hz => h z (List.mem_cons_of_mem _ hz)) h1' h2')
/-- one shape, of ints or of tuples that have an item -/
structure ShTop (S : Store) (s : Val → Bool) : Prop extends Shp S 20 s where
  kd : (∀ a, s a = true → ∃ x r, dat S 20 a = .tuple (x :: r)) ∨ (∀ a, s a = true → ∃ i, dat S 20 a = .int i)
/-! the order -/
section
variable {X : Cx} {g : Gx} {o : Orc} {W : WX} {pins : List (Addr × PySem.Obj)} {s : Shared} {σ : St} {ρ : G.Env} {m : Mp} {H : Hp} {S : Store}
end
end G
set_option Elab.async false
set_option linter.all false
set_option maxRecDepth 100000
/-! dict comprehensions -/
namespace G
open PySem PySem.Spec L2
open PyProof.Rows hiding St
theorem ofE_map : ∀ l : List (Val × Val), ofE (l.map dE) = l
  | [] => rfl
  | (k, v) :: r => by rw [List.map_cons]; show (k, v) :: ofE (r.map dE) = _; rw [ofE_map r]
section
variable {X : Cx} {g : Gx} {o : Orc} {W : WX} {pins : List (Addr × PySem.Obj)} {s : Shared} {σ : St} {ρ : G.Env} {m : Mp} {H : Hp} {S : Store} {pos p apos : Pos}
theorem dr_tup (hP : g.P = X.prog) (hw : g.w = X.w) {es : Array DictEntry} {kvs : List (Val × Val)} {k : Val} (h2 : DR g m H kvs es) (ht : isT k = true) (hf : keyFor k kvs = true) :
    ∃ xs kk, es.toList = xs.map (entryOfKey (nestedKind X.prog X.w)) ∧ (xs.map (·.1)).Nodup ∧ Paired (KP m H) kvs xs ∧ kOf k = some kk ∧ kk.depth ≤ 8 := by
  have hf' : (keyIn 8 k && hdK isT kvs) = true := by
    unfold keyFor at hf; rw [ht] at hf; exact hf
  obtain ⟨f1, f2⟩ := Bool.and_eq_true_iff.mp hf'
  obtain ⟨kk, k1, k2⟩ := keyIn_ok 8 k f1
  cases h2 with
  | tup xs he hn hr => exact ⟨xs, kk, by rw [← hP, ← hw]; exact he, hn, hr, k1, k2⟩
  | flat xs hk he hn hr =>
    cases hr with
    | nil =>
      refine ⟨[], kk, ?_, List.nodup_nil, .nil, k1, k2⟩
      cases es' : es.toList with
      | nil => rfl
      | cons b r => rw [es'] at he; cases he
    | @cons kv x kvs xs q r =>
      obtain ⟨b, w⟩ := kv
      have hb : isT b = true := f2
      cases b with
      | tup vs => exact nomatch (show (Option.none : Option Key) = some x.1 from q.1)
      | _ => cases hb
theorem dr_flat (hP : g.P = X.prog) (hw : g.w = X.w) {es : Array DictEntry} {kvs : List (Val × Val)} {k : Val} (h2 : DR g m H kvs es) (ht : isT k = false) (hf : keyFor k kvs = true) :
    ∃ xs kk, PySem.KeysOf (mixKind X.prog X.w) es ∧ Pairs (mixKind X.prog X.w) es.toList xs ∧ (xs.map (·.1)).Nodup ∧ Paired (KF m H) kvs xs ∧ kAt k = some kk := by
  have hf' : (isA k && hdK isA kvs) = true := by
    unfold keyFor at hf; rw [ht] at hf; exact hf
  obtain ⟨f1, f2⟩ := Bool.and_eq_true_iff.mp hf'
  have hk : ∃ kk, kAt k = some kk := by cases k <;> first | exact ⟨_, rfl⟩ | cases f1
  obtain ⟨kk, hk⟩ := hk
  cases h2 with
  | flat xs ho he hn hr => exact ⟨xs, kk, by rw [← hP, ← hw]; exact ho, by rw [← hP, ← hw]; exact he, hn, hr, hk⟩
  | tup xs he hn hr =>
    cases hr with
    | nil =>
      have e0 : es.toList = [] := he
      have e1 : es = #[] := by simpa using e0
      subst e1
      exact ⟨[], kk, fun e h => by simp at h, by exact .nil, List.nodup_nil, .nil, hk⟩
    | @cons kv x kvs xs q r =>
      obtain ⟨b, w⟩ := kv
      have hb : isA b = true := f2
      have hb2 : isT b = true := q.2.1
      cases b <;> first | (cases hb; done) | (cases hb2; done)
/-- an entry put into a dict that stands at D -/
theorem dr_set (hP : g.P = X.prog) (hw : g.w = X.w) (hu : X.A.units + 64 < cLine) {D : Addr} {es : Array DictEntry} {kvs : List (Val × Val)} {k v : Val} {y z : V} {u r : Value} (I : Inv X pins σ H s) (h1 : H D = some (dO D es)) (dr : DR g m H kvs es) (rk : RV m H k y) (ru : RelV y u) (rv : RV m H v z) (rr : RelV z r)
    (hf : keyFor k kvs = true) (hl : kvs.length < maxLen) {Q : Unit → Shared → Prop} {E : Value → Shared → Prop} (h : ∀ s' es', Inv X pins σ (upd H D (dO D es')) s' → DR g m H (dput k v kvs) es' → Q () s') : wpAny (model X.prog X.w) X.A (dictSet D u r) Q E s := by
  obtain ⟨hs, ob0, ep0, g1, g2, g3⟩ := dO_at I h1
  have hz : kvs.length ≤ sizeLine := by rw [← maxLen_eq]; exact Nat.le_of_lt hl
  have fin : ∀ {h' : Heap} {tk : Nat} {es' : Array DictEntry} {ob : PySem.Obj} {ep : Nat}, h'.get? D = some ob → ob.ExactDict → ob.data = .dict es' ep → Heap.SameBut D s.heap h' → DR g m H (dput k v kvs) es' → Q () { s with heap := h', toks := tk } := by
    intro h' tk es' ob ep k1 k2 k3 sb dr
    exact h _ es' (I.write (x := D) (e := D) (by rw [h1]; exact True.intro) (.inl rfl) (fun b w hb q => (sb.2 b hb).trans q) ⟨ob, k1⟩ (dO_ok hs k1 k2 k3)) dr
  cases ht : isT k with
  | true =>
    obtain ⟨xs, kk, h2, h3, h4, h5, h6⟩ := dr_tup hP hw dr ht hf
    have D' := dictOf I h1 h2 h3 h4
    have hky := nested_of I rk ru h5
    have rk' := rk
    cases rk with
    | @tup b ys vs hb rr' =>
      cases ru
      have hkey : (nestedKind X.prog X.w).is s.heap kk b := ⟨hky, h6⟩
      have room : (nestedKind X.prog X.w).room X.A := by show X.A.units + 8 < cLine; omega
      have hn : xs.length ≤ sizeLine := by rw [← paired_len h4]; exact hz
      refine wpAny_dictSet_heap (hsz := hn) room hkey D' fun h' hm' sb => ?_
      obtain ⟨ob, es', ep, k1, k2, k3, k4, _, k6⟩ := hm'
      exact fin k1 k2 k3 sb (.tup _ (by rw [hP, hw]; exact k4) k6 (dput_key ⟨h5, ht, h6, rk', z, rv, rr⟩ h4 h3))
    | _ => cases ht
  | false =>
    obtain ⟨xs, kk, h2, h3, h4, h5, h6⟩ := dr_flat hP hw dr ht hf
    have D' : s.heap.DictOf (mixKind X.prog X.w) D xs := ⟨ob0, es, ep0, g1, g2, g3, h2, h3, h4⟩
    have hkey := kAt_is (P := X.prog) (w := X.w) rk ru h6
    have hn : xs.length ≤ sizeLine := by rw [← paired_len h5]; exact hz
    refine wpAny_dictSet_pairs (hsz := hn) hkey D' fun h' hm' sb => ?_
    obtain ⟨ob, es', ep, k1, k2, k3, k4, k5, k6⟩ := hm'
    refine fin k1 k2 k3 sb (.flat (stored xs kk r) (by rw [hP, hw]; exact k4) (by rw [hP, hw]; exact k5) k6 (dput_at ⟨h6, ?_, z, rv, rr⟩ h5 h4))
    show RV m H k (kV kk)
    rw [← kAt_kV rk h6]; exact rk
/-! ### the state of a dict that grows at D -/
structure LdI (g : Gx) (m0 : Mp) (H0 : Hp) (D : Addr) (m : Mp) (S : Store) (H : Hp) (acc : Acc) : Prop where
  ex : Ex m0 H0 m H
  rs : RS g m S H
  out : D ∉ m.l
  none0 : H0 D = .none
  at_ : ∃ kvs es, acc.2 = kvs.map dE ∧ kvs.length ≤ sizeLine ∧ H D = some (dO D es) ∧ DR g m H kvs es
theorem RS.updOut' {D : Addr} {u v : HO} (rs : RS g m S H) (hD : H D = some v) (iv : imm v = false) (xv : ∀ hs, v ≠ .xd hs) (out : D ∉ m.l) : RS g m S (L2.upd H D u) ∧ Ex0 m H m (L2.upd H D u) := by
  have x : Ex0 m H m (L2.upd H D u) := ⟨rfl, List.prefix_rfl, fun b o h i => by
    have : b ≠ D := by rintro rfl; rw [hD] at h; cases h; rw [iv] at i; cases i
    rw [upd_ne this]; exact h⟩
  refine ⟨⟨rs.K, rs.len, rs.lim, rs.inj, fun n o h => ?_, rs.all, fun b fs h => ?_, rs.he⟩, x⟩
  · obtain ⟨a, h1, h2⟩ := rs.obj n o h
    refine ⟨a, h1, RO.mono0 x (fun v hv => ?_) h2⟩
    have : a ≠ D := by rintro rfl; exact out (List.mem_of_getElem? h1)
    rw [upd_ne this]; exact hv
  · obtain ⟨h1, hs, h2, h3⟩ := rs.xf b fs h
    have : b ≠ D := by rintro rfl; rw [hD] at h2; cases h2; exact xv hs rfl
    exact ⟨h1, hs, by rw [upd_ne this]; exact h2, RF.mono0 x h3⟩
theorem LdI.step {m0 m' : Mp} {H0 H' : Hp} {D : Addr} {S' : Store} {acc : Acc} (l : LdI g m0 H0 D m S H acc) (x : Ex m H m' H') (rs : RS g m' S' H') : LdI g m0 H0 D m' S' H' acc := by
  obtain ⟨kvs, es, h0, hz, h1, h2⟩ := l.at_
  refine ⟨l.ex.trans x, rs, fun q => ?_, l.none0, ⟨kvs, es, h0, hz, x.keep _ _ h1 (.inr l.out), h2.mono0 x.toEx0⟩⟩
  have := x.new D q l.out
  rw [h1] at this; cases this
theorem LdI.ok {m0 : Mp} {H0 : Hp} {D : Addr} : LOk g (LdI g m0 H0 D) := ⟨fun l => l.rs, fun l x rs => l.step x rs, fun l l' => l.ex.ea.trans l'.ex.ea.symm⟩
theorem LdI.put {m0 : Mp} {H0 : Hp} {D : Addr} {acc : Acc} {es es' : Array DictEntry} {kvs' : List (Val × Val)} {n : Nat} (l : LdI g m0 H0 D m S H acc) (hD : H D = some (dO D es)) (dr : DR g m H kvs' es') (hz : kvs'.length ≤ sizeLine) : LdI g m0 H0 D m S (upd H D (dO D es')) (n, kvs'.map dE) ∧ Ex0 m H m (upd H D (dO D es')) := by
  obtain ⟨rs, x⟩ := l.rs.updOut' (u := dO D es') hD rfl (fun _ h => by cases h) l.out
  refine ⟨⟨⟨l.ex.K, l.ex.ea, l.ex.pre, fun b o h c => ?_, l.ex.new⟩, rs, l.out, l.none0, ⟨kvs', es', rfl, hz, upd_same, dr.mono0 x⟩⟩, x⟩
  have : b ≠ D := by rintro rfl; rw [l.none0] at h; cases h
  rw [upd_ne this]; exact l.ex.keep b o h c
theorem LdI.fin {m0 : Mp} {H0 : Hp} {D : Addr} {acc : Acc} {Q : VK} {E : XK} (l : LdI g m0 H0 D m S H acc) (p : PostG g RV m0 H0 Q E (alloc (.dct (ofE acc.2)) S)) : Q (.ref D) H := by
  obtain ⟨kvs, es, h0, hz, h1, h2⟩ := l.at_
  rw [h0, ofE_map] at p
  unfold G.alloc at p
  cases e : roomB S.nx with
  | false => rw [e] at p; exact p.elim
  | true =>
    rw [e] at p
    have hl : Roomy S.nx := trivial
    have x0 : Ex0 m H (m.add D) H := ⟨rfl, List.prefix_append _ _, fun _ _ q _ => q⟩
    have rs' : RS g (m.add D) (S.new (.dct kvs)) H := l.rs.newAt l.out hl ⟨hz, es, h1, h2.mono0 x0⟩
    have at_ : (m.add D).l[S.nx]? = some D := by
      have h3 : (m.add D).l = m.l ++ [D] := rfl
      rw [h3, ← l.rs.len]; simp
    have xx : Ex m0 H0 (m.add D) H := ⟨l.ex.K, l.ex.ea, l.ex.pre.trans (List.prefix_append _ _), l.ex.keep, fun a h1 h2 => by
      rcases List.mem_append.mp (show a ∈ m.l ++ [D] from h1) with q | q
      · exact l.ex.new a q h2
      · rw [List.mem_singleton.mp q]; exact l.none0⟩
    exact p _ _ _ xx rs' (RV.ref at_)
end
end G
namespace G
open PySem PySem.Spec L2
open PyProof.Rows hiding St
/-- one entry comes to the dict at D, and then Nx holds -/
def DS (X : Cx) (y z : V) (D : Addr) (H : Hp) (Nx : Hp → Prop) : Prop := ∀ (Y : Cx) (pins : List (Addr × PySem.Obj)) (s : Shared) (σ : St) (u r : Value) (Q : Unit → Shared → Prop) (E : Value → Shared → Prop), Y.prog = X.prog → Y.w = X.w → Y.A = X.A → Inv Y pins σ H s → RelV y u → RelV z r →
  (∀ s' H', Inv Y pins σ H' s' → Nx H' → Q () s') → wpAny (model Y.prog Y.w) Y.A (dictSet D u r) Q E s
def bDct (X : Cx) (D : Addr) (tk tv : TE) : Bdy := fun Nx σ H => tk σ H fun y H4 => tv σ H4 fun z H5 => DS X y z D H5 Nx
section
variable {X : Cx} {g : Gx} {o : Orc} {W : WX} {kx vx tg iter : PySem.Expr} {ifs : List PySem.Expr} {scope : Scope} {own : List (Str × Nat)} {pos : Pos}
end
end G
namespace G
open PySem PySem.Spec L2
open PyProof.Rows hiding St
section
variable {X : Cx} {g : Gx} {o : Orc} {W : WX} {kx vx tg iter : PySem.Expr} {ifs : List PySem.Expr} {scope : Scope} {own : List (Str × Nat)} {pos : Pos} {m0 : Mp} {H0 : Hp} {D : Addr} {ck cv : G.E} {t : G.T} {ci : G.EI}
theorem col_dct (hP : g.P = X.prog) (hw : g.w = X.w) (hu : X.A.units + 64 < cLine) : ColOk g o (LdI g m0 H0 D) (cEltD ck cv) (bDct X D (tM g o Wno ck) (tM g o Wno cv)) := fun m H ρ σ S acc Nx l re p => by
  refine ⟨m, ρ, S, re, l.rs, PostG.mono (PostC.bind p) fun y H4 ⟨m4, k, S4, e4, rs4, rk, p4⟩ => ⟨m4, ρ, S4, re.mono e4, rs4, PostG.mono (PostC.bind p4) fun z H5 ⟨m5, v, S5, e5, rs5, rv, p5⟩ => ?_⟩⟩
  have l5 := (l.step e4 rs4).step e5 rs5
  obtain ⟨kvs, es, h0, hz, h1, h2⟩ := l5.at_
  rw [h0, ofE_map] at p5
  cases e : keyFor k kvs && Nat.blt kvs.length maxLen with
  | false => rw [e] at p5; exact p5.elim
  | true =>
    rw [e] at p5
    obtain ⟨f1, f2⟩ := Bool.and_eq_true_iff.mp e
    have lt : kvs.length < maxLen := by simpa [Nat.blt_eq] using f2
    intro Y pins s σ' u r Q E eP ew eA I ru rr done
    refine dr_set (hP.trans eP.symm) (hw.trans ew.symm) (by rw [eA]; exact hu) I h1 h2 (rk.mono e5) ru rv rr f1 lt fun s' es' I' dr' => ?_
    have hz' : (dput k v kvs).length ≤ sizeLine := by rw [← maxLen_eq]; exact Nat.le_trans (dput_len k v kvs) lt
    obtain ⟨l6, x6⟩ := l5.put (n := acc.1 + 1) h1 dr' hz'
    exact done s' _ I' (p5 m5 _ x6 l6)
end
end G
set_option Elab.async false
set_option linter.all false
set_option maxRecDepth 100000
/-! what is never come to; facts of own classes -/
namespace G
open PySem PySem.Spec L2
open PyProof.Rows hiding St
section
variable {X : Cx} {g : Gx} {o : Orc} {W : WX} {e tg : PySem.Expr} {st : Stmt}
end
section
variable {K : PySem.W.Frag} {C f : Addr} {m : Str}
end
end G
set_option Elab.async false
set_option linter.all false
set_option maxRecDepth 100000
/-! zip whose pairs a name holds -/
namespace G
open PySem PySem.Spec L2
open PyProof.Rows hiding St
section
variable {P : Program} {w : World} {A : Around} {E : Value → Shared → Prop} {s : Shared} {z TI TO i1 i2 : Addr} {fpA fpB : List Addr} {nA nB i : Nat} {PA PB : Nat → Value → Prop} {SA SB : Nat → Heap → Prop} {y1 y2 v : Value} {f : Bool}
end
end G
namespace G
open PySem PySem.Spec L2
open PyProof.Rows hiding St
section
variable {P : Program} {w : World} {A : Around} {E : Value → Shared → Prop} {s : Shared} {z TI TO i1 i2 : Addr} {fpA fpB : List Addr} {nA nB i : Nat} {PA PB : Nat → Value → Prop} {SA SB : Nat → Heap → Prop} {y1 y2 v : Value} {f : Bool}
end
section
variable {X : Cx} {g : Gx} {o : Orc} {W : WX} {pins : List (Addr × PySem.Obj)} {s : Shared} {σ : St} {ρ : G.Env} {m : Mp} {H : Hp} {S : Store} {a b tg : PySem.Expr} {cs : G.EL} {p pos : Pos}
end
end G
set_option Elab.async false
set_option linter.all false
set_option maxRecDepth 100000
/-! len(x) by an own __len__ -/
namespace G
open PySem PySem.Spec L2
open PyProof.Rows hiding St
section
variable {X : Cx} {g : Gx} {o : Orc} {W : WX} {t : Tb} {F : Ft} {nf n : Nat} {pins : List (Addr × PySem.Obj)} {s : Shared} {σ : St} {ρ : G.Env} {m : Mp} {H : Hp} {S : Store}
end
end G
set_option Elab.async false
set_option linter.all false
set_option maxRecDepth 100000
/-! enumerate(zip(a, b)) -/
namespace G
open PySem PySem.Spec L2
open PyProof.Rows hiding St
section
variable {P : Program} {w : World} {A : Around} {E : Value → Shared → Prop} {s : Shared} {e it : Addr} {c : Int} {old : Value}
end
section
variable {P : Program} {w : World} {A : Around} {E : Value → Shared → Prop} {s : Shared} {z TI TO i1 i2 : Addr} {fpA fpB : List Addr} {nA nB i : Nat} {PA PB : Nat → Value → Prop} {SA SB : Nat → Heap → Prop} {y1 y2 v : Value} {f : Bool}
end
end G
namespace G
open PySem PySem.Spec L2
open PyProof.Rows hiding St
section
end
end G
namespace G
open PySem PySem.Spec L2
open PyProof.Rows hiding St
section
variable {X : Cx} {g : Gx} {o : Orc} {W : WX} {pins : List (Addr × PySem.Obj)} {s : Shared} {σ : St} {ρ : G.Env} {m : Mp} {H : Hp} {S : Store} {a b tg : PySem.Expr} {cs : G.EL} {p pos p2 pos2 tpos : Pos} {elts : List PySem.Expr} {kk : Nat} {k l : SK}
end
end G
set_option Elab.async false
set_option linter.all false
set_option maxRecDepth 100000
/-! the draws of the laws: feed, take, pick -/
namespace G
def cFeed : C := cSeq (sAsg (tName 2) (eOp oIx (eOp oAdd (eB bList (elCons (eSl (eVar 0) (eoSome (eVar 1)) (eoSome (eOp oAdd (eVar 1) (eC (.int 1))))) (elNil))) (eLst (elCons (eOp oAdd (eOp oMul (eC (.int 71)) (eVar 1)) (eC (.int 23))) (elNil)))) (eC (.int 0)))) (cSeq (sAsg (tName 3) (eB bMax2 (elCons (eC (.int 0)) (elCons (eOp oSub (eB bAbs (elCons (eVar 2) (elNil))) (eOp oPow (eC (.int 10)) (eC (.int 18)))) (elNil))))) (cSeq (sRet (eLst (elCons (eVar 3) (elCons (eOp oMod (eB bInt (elCons (eOp oAdd (eOp oAdd (eOp oMul (eOp oMod (eB bInt (elCons (eB bAbs (elCons (eVar 2) (elNil))) (elNil))) (eC (.int 1000003))) (eC (.int 7919))) (eOp oMul (eC (.int 31)) (eVar 1))) (eC (.int 17))) (elNil))) (eC (.int 1000033))) (elNil))))) (cNil)))
def cTake : C := cSeq (sIf (eOp oGt (eOp oIx (eVar 0) (eC (.int 0))) (eC (.int 0))) (cSeq (sAsg (tName 2) (eOp oMod (eB bInt (elCons (eOp oIx (eVar 0) (eC (.int 0))) (elNil))) (eVar 1))) (cSeq (sAsg (tSub (eVar 0) (eC (.int 0))) (eOp oDiv (eOp oIx (eVar 0) (eC (.int 0))) (eVar 1))) (cSeq (sRet (eVar 2)) (cNil)))) (cNil)) (cSeq (sAsg (tSub (eVar 0) (eC (.int 1))) (eOp oMod (eB bInt (elCons (eOp oAdd (eOp oMul (eOp oIx (eVar 0) (eC (.int 1))) (eC (.int 69069))) (eC (.int 12345))) (elNil))) (eC (.int 4294967311)))) (cSeq (sRet (eOp oMod (eB bInt (elCons (eOp oDiv (eOp oIx (eVar 0) (eC (.int 1))) (eC (.int 65536))) (elNil))) (eVar 1))) (cNil)))
def cPick (t : Nat) : C := cSeq (sRet (eOp oIx (eVar 1) (eCall t (elCons (eVar 0) (elCons (eB bLen (elCons (eVar 1) (elNil))) (elNil)))))) (cNil)
theorem log2_small {a : Int} (h0 : 0 ≤ a) (h : a < 2 ^ 64) : a.natAbs.log2 < 64 := by
  have h1 : a.natAbs < 2 ^ 64 := by omega
  rcases Nat.eq_zero_or_pos a.natAbs with e | e
  · rw [e]; decide
  · exact (Nat.log2_lt (by omega)).mpr h1
theorem oMul_small {o : Orc} {S : Store} {a b : Int} (h0 : 0 ≤ a) (h : a < 2 ^ 64) (k0 : 0 ≤ b) (k : b < 2 ^ 64) : oMul o (.int a) (.int b) S = .ok (.int (a * b)) S := by
  have h1 := log2_small h0 h
  have h2 := log2_small k0 k
  have e : Nat.blt (a.natAbs.log2 + b.natAbs.log2) 1000000 = true := by simp [Nat.blt_eq]; omega
  show (match Nat.blt (a.natAbs.log2 + b.natAbs.log2) 1000000 with | true => (G.R.ok (Val.int (a * b)) S : G.R Val) | false => .stuck 23) = _
  rw [e]
theorem run_seq {o : Orc} {ρ ρ' : Env} {S S' : Store} {a b : C} {r : SR} (h : a o ρ S = .nx ρ' S') (k : b o ρ' S' = r) : cSeq a b o ρ S = r := by
  show (a o ρ S).seq (b o) = r
  rw [h]; exact k
theorem run_last {o : Orc} {ρ : Env} {S S' : Store} {a b : C} {v : Val} (h : a o ρ S = .rt v S') : cSeq a b o ρ S = .rt v S' := by
  show (a o ρ S).seq (b o) = _
  rw [h]; rfl
theorem run_asg {o : Orc} {ρ : Env} {S S' : Store} {i : Nat} {e : E} {v : Val} (h : e o ρ S = .ok v S') : sAsg (tName i) e o ρ S = .nx (ρ.set i (some v)) S' := by
  rw [← setE_eq]
  show (e o ρ S).to ρ _ = _
  rw [h]; rfl
theorem run_ret {o : Orc} {ρ : Env} {S S' : Store} {e : E} {v : Val} (h : e o ρ S = .ok v S') : sRet e o ρ S = .rt v S' := by
  show (e o ρ S).to ρ _ = _
  rw [h]; rfl
theorem run_fn {f : Fn} {o : Orc} {args : List Val} {S S' : Store} {v : Val} (hl : Nat.beq args.length f.np = true) (h : f.body o (args.map some ++ List.replicate (f.ns - f.np) .none) S = .rt v S') : runFn f o args S = .ok v S' := by
  unfold runFn
  rw [hl]
  show (match f.body o (args.map some ++ List.replicate (f.ns - f.np) .none) S with | .nx _ S => (G.R.ok Val.none S : G.R Val) | .rt v S => .ok v S | .bk _ _ => .stuck 301 | .exc c fs _ S => .exc c fs S | .stuck w => .stuck w) = _
  rw [h]
theorem run_if {o : Orc} {ρ : Env} {S S' : Store} {c : E} {a b : C} {x : Val} {r : SR} (t : Bool) (h : c o ρ S = .ok x S') (ht : truthy S' x = some t) (k : (match t with | true => a o ρ S' | false => b o ρ S') = r) : sIf c a b o ρ S = r := by
  show (c o ρ S).to ρ _ = _
  rw [h]
  show (match truthy S' x with | some true => a o ρ S' | some false => b o ρ S' | .none => .stuck 201) = r
  rw [ht]
  cases t <;> exact k
theorem run_sub {o : Orc} {ρ : Env} {S S' S2 : Store} {e a b : E} {v x : Val} {k : Int} (h : e o ρ S = .ok v S') (ha : a o ρ S' = .ok x S') (hb : b o ρ S' = .ok (.int k) S') (hp : setL x (.int k) v S' = .ok () S2) : sAsg (tSub a b) e o ρ S = .nx ρ S2 := by
  show (e o ρ S).to ρ _ = _
  rw [h]
  show (noExc ((a o ρ S').bind fun x S => (b o ρ S).bind fun y S => (setL x y v S).bind fun _ S => .ok ρ S)).to ρ (fun ρ S => SR.nx ρ S) = _
  rw [ha]
  show (noExc ((b o ρ S').bind fun y S => (setL x y v S).bind fun _ S => .ok ρ S)).to ρ (fun ρ S => SR.nx ρ S) = _
  rw [hb]
  show (noExc ((setL x (.int k) v S').bind fun _ S => .ok ρ S)).to ρ (fun ρ S => SR.nx ρ S) = _
  rw [hp]; rfl
theorem read_ok {o : Orc} {S : Store} {ρ : Env} {r : Nat} {vs : List Val} {k : Nat} {v : Val} (h : ρ[0]? = some (some (.ref r))) (hS : S.get r = some (.lst vs)) (hk : k < vs.length) (hv : vs[k]? = some v) : eOp oIx (eVar 0) (eC (.int (.ofNat k))) o ρ S = .ok v S := by
  have e1 : eVar 0 o ρ S = .ok (.ref r) S := by rw [eVar_eq, h]
  show (eVar 0 o ρ S).bind _ = _
  rw [e1]
  show (match isList (S.get r) with | some vs => ofOpt (getI vs (.ofNat k)) S 54 | .none => .stuck 57) = _
  rw [hS]
  show ofOpt (match (match Nat.blt k vs.length with | true => some k | false => .none) with | some j => vs[j]? | .none => .none) S 54 = _
  have e2 : Nat.blt k vs.length = true := by simpa [Nat.blt_eq] using hk
  rw [e2]
  show ofOpt vs[k]? S 54 = _
  rw [hv]; rfl
theorem take_eq (o : Orc) {S : Store} {r : Nat} {d y m : Int} (hS : S.get r = some (.lst [.int d, .int y])) (hr : Roomy r) (hd : 0 ≤ d) (hy : 0 ≤ y) (hy2 : y < 2 ^ 40) (hm : 0 < m) (hm2 : Nat.blt m.natAbs.log2 9000 = true) :
    ∃ j d' y', 0 ≤ j ∧ j < m ∧ 0 ≤ d' ∧ 0 ≤ y' ∧ y' < 2 ^ 40 ∧ runFn ⟨2, 3, cTake⟩ o [.ref r, .int m] S = .ok (.int j) (S.put r (.lst [.int d', .int y'])) := by
  have hm1 : intLt 0 m = true := by rw [intLt_eq]; exact decide_eq_true hm
  have rd0 : ∀ ρ : Env, ρ[0]? = some (some (.ref r)) → eOp oIx (eVar 0) (eC (.int 0)) o ρ S = .ok (.int d) S := fun ρ h => read_ok (k := 0) h hS (by simp) rfl
  have rd1 : ∀ ρ : Env, ρ[0]? = some (some (.ref r)) → eOp oIx (eVar 0) (eC (.int 1)) o ρ S = .ok (.int y) S := fun ρ h => read_ok (k := 1) h hS (by simp) rfl
  have md : ∀ (a : Int) (T : Store), oMod o (.int a) (.int m) T = .ok (.int (a % m)) T := fun a T => by
    show (match intLt 0 m with | true => (G.R.ok (Val.int (a % m)) T : G.R Val) | false => .stuck 27) = _
    rw [hm1]
  have dv : ∀ (a : Int) (T : Store), oDiv o (.int a) (.int m) T = .ok (.int (a / m)) T := fun a T => by
    show (match intLt 0 m && Nat.blt m.natAbs.log2 9000 with | true => (G.R.ok (Val.int (a / m)) T : G.R Val) | false => .stuck 25) = _
    rw [hm1, hm2]; rfl
  have put : ∀ (i : Nat) (v : Val), i < 2 → setL (.ref r) (.int (.ofNat i)) v S = .ok () (S.put r (.lst ([Val.int d, .int y].set i v))) := fun i v hi => by
    show (match S.get r with | some (.lst xs) => (match ixOf xs.length (.ofNat i) with | some k => (G.R.ok () (S.put r (.lst (xs.set k v))) : G.R Unit) | .none => .stuck 84) | _ => .stuck 86) = _
    rw [hS]
    show (match (match Nat.blt i 2 with | true => some i | false => .none) with | some k => (G.R.ok () (S.put r (.lst ([Val.int d, .int y].set k v))) : G.R Unit) | .none => .stuck 84) = _
    rw [show Nat.blt i 2 = true by simpa [Nat.blt_eq] using hi]
  have cnd : ∀ ρ : Env, ρ[0]? = some (some (.ref r)) → eOp oGt (eOp oIx (eVar 0) (eC (.int 0))) (eC (.int 0)) o ρ S = .ok (.bool (intLt 0 d)) S := fun ρ h => by
    show G.R.bind (eOp oIx (eVar 0) (eC (.int 0)) o ρ S) _ = _
    rw [rd0 ρ h]; rfl
  cases z : intLt 0 d with
  | true =>
    have d0 : 0 < d := by rw [intLt_eq] at z; exact of_decide_eq_true z
    refine ⟨d % m, d / m, y, Int.emod_nonneg _ (by omega), Int.emod_lt_of_pos _ hm, Int.ediv_nonneg hd (by omega), hy, hy2, ?_⟩
    refine run_fn rfl (run_last (run_if true (cnd _ rfl) (by rw [z]; rfl) ?_))
    refine run_seq (run_asg (v := .int (d % m)) (S' := S) ?_) (run_seq (run_sub (v := .int (d / m)) (x := .ref r) (k := 0) (S' := S) ?_ rfl rfl (put 0 _ (by decide))) (run_last (run_ret rfl)))
    · show G.R.bind (G.R.bind (G.R.bind (eOp oIx (eVar 0) (eC (.int 0)) o [some (.ref r), some (.int m), .none] S) _) _) _ = _
      rw [rd0 _ rfl]
      exact md d S
    · show G.R.bind (eOp oIx (eVar 0) (eC (.int 0)) o [some (.ref r), some (.int m), some (.int (d % m))] S) _ = _
      rw [rd0 _ rfl]
      exact dv d S
  | false =>
    let y' := (y * 69069 + 12345) % 4294967311
    have hy' : 0 ≤ y' ∧ y' < 4294967311 := ⟨Int.emod_nonneg _ (by decide), Int.emod_lt_of_pos _ (by decide)⟩
    refine ⟨y' / 65536 % m, d, y', Int.emod_nonneg _ (by omega), Int.emod_lt_of_pos _ hm, hd, hy'.1, by omega, ?_⟩
    refine run_fn rfl (run_seq (run_if false (cnd _ rfl) (by rw [z]; rfl) rfl) ?_)
    have ml : oMul o (.int y) (.int 69069) S = .ok (.int (y * 69069)) S := oMul_small hy (by omega) (by decide) (by decide)
    refine run_seq (run_sub (v := .int y') (x := .ref r) (k := 1) (S' := S) ?_ rfl rfl (put 1 _ (by decide))) (run_last (run_ret ?_))
    · show G.R.bind (G.R.bind (G.R.bind (G.R.bind (G.R.bind (eOp oIx (eVar 0) (eC (.int 1)) o [some (.ref r), some (.int m), .none] S) _) _) _) _) _ = _
      rw [rd1 _ rfl]
      show G.R.bind (G.R.bind (G.R.bind (G.R.bind (oMul o (.int y) (.int 69069) S) _) _) _) _ = _
      rw [ml]; rfl
    · have hS2 : (S.put r (.lst ([Val.int d, .int y].set 1 (.int y')))).get r = some (.lst [.int d, .int y']) := by rw [Store.get_put _ _ _ _ hr, if_pos rfl]; rfl
      show G.R.bind (G.R.bind (G.R.bind (G.R.bind (eOp oIx (eVar 0) (eC (.int 1)) o [some (.ref r), some (.int m), .none] _) _) _) _) _ = _
      have rd : eOp oIx (eVar 0) (eC (.int 1)) o [some (.ref r), some (.int m), .none] (S.put r (.lst ([Val.int d, .int y].set 1 (.int y')))) = .ok (.int y') (S.put r (.lst ([Val.int d, .int y].set 1 (.int y')))) := read_ok (k := 1) rfl hS2 (by simp) rfl
      rw [rd]
      exact md (y' / 65536) _
end G
namespace G
theorem pick_eq {t : Nat} {o o' : Orc} {S : Store} {f l : Nat} {d y : Int} {vs : List Val} (ho : ∀ args S, o.call t args S = runFn ⟨2, 3, cTake⟩ o' args S) (hf : S.get f = some (.lst [.int d, .int y])) (hl : S.get l = some (.lst vs)) (hne : l ≠ f) (hr : Roomy f) (hd : 0 ≤ d) (hy : 0 ≤ y) (hy2 : y < 2 ^ 40) (h0 : 0 < vs.length) (hz : Nat.blt vs.length.log2 9000 = true) :
    ∃ (j : Nat) (d' y' : Int) (v : Val), j < vs.length ∧ 0 ≤ d' ∧ 0 ≤ y' ∧ y' < 2 ^ 40 ∧ vs[j]? = some v ∧ runFn ⟨2, 2, cPick t⟩ o [.ref f, .ref l] S = .ok v (S.put f (.lst [.int d', .int y'])) := by
  obtain ⟨j, d', y', j0, j1, d0, y0, y1, e⟩ := take_eq o' (m := vs.length) hf hr hd hy hy2 (by omega) hz
  obtain ⟨k, rfl⟩ := Int.eq_ofNat_of_zero_le j0
  have hk : k < vs.length := by omega
  refine ⟨k, d', y', vs[k], hk, d0, y0, y1, List.getElem?_eq_getElem hk, run_fn rfl (run_last (run_ret ?_))⟩
  have len : eB bLen (elCons (eVar 1) elNil) o [some (.ref f), some (.ref l)] S = .ok (.int vs.length) S := by
    show (match S.get l with | some (.lst vs) => (G.R.ok (Val.int vs.length) S : G.R Val) | _ => .stuck 112) = _
    rw [hl]
  have cl : eCall t (elCons (eVar 0) (elCons (eB bLen (elCons (eVar 1) elNil)) elNil)) o [some (.ref f), some (.ref l)] S = .ok (.int k) (S.put f (.lst [.int d', .int y'])) := by
    show G.R.bind (G.R.bind (G.R.bind (eB bLen (elCons (eVar 1) elNil) o [some (.ref f), some (.ref l)] S) _) _) _ = _
    rw [len]
    show o.call t [.ref f, .int vs.length] S = _
    rw [ho, e]
  show G.R.bind (eCall t (elCons (eVar 0) (elCons (eB bLen (elCons (eVar 1) elNil)) elNil)) o [some (.ref f), some (.ref l)] S) _ = _
  rw [cl]
  show (match isList ((S.put f (.lst [.int d', .int y'])).get l) with | some vs => ofOpt (getI vs (.ofNat k)) (S.put f (.lst [.int d', .int y'])) 54 | .none => .stuck 57) = _
  rw [Store.get_put _ _ _ _ hr, if_neg hne, hl]
  show ofOpt (match (match Nat.blt k vs.length with | true => some k | false => .none) with | some j => vs[j]? | .none => .none) _ 54 = _
  rw [show Nat.blt k vs.length = true by simpa [Nat.blt_eq] using hk]
  show ofOpt vs[k]? _ 54 = _
  rw [List.getElem?_eq_getElem hk]; rfl
end G
set_option Elab.async false
set_option linter.all false
set_option maxRecDepth 100000
/-! own ==, isinstance of an own class, list(d) -/
namespace G
open PySem PySem.Spec L2
open PyProof.Rows hiding St
section
variable {X : Cx} {g : Gx} {o : Orc} {W : WX} {t : Tb} {F : Ft} {nf n : Nat} {pins : List (Addr × PySem.Obj)} {s : Shared} {σ : St} {ρ : G.Env} {m : Mp} {H : Hp} {S : Store}
theorem is_kV {P : Program} {w : World} {k : Key} {u : Value} (h : (mixKind P w).is k u = true) : RelV (kV k) u := by
  rw [mixKind_is] at h
  rcases keyIs_shape h with ⟨i, t, rfl, rfl⟩ | ⟨x, t, rfl, rfl⟩
  · exact ⟨t, rfl⟩
  · exact ⟨t, rfl⟩
/-- the entries, one by one -/
theorem dr_each {kvs : List (Val × Val)} {es : Array DictEntry} (h : DR g m H kvs es) : Paired (fun (kv : Val × Val) (e : DictEntry) => (∃ x, RV m H kv.1 x ∧ RelV x e.key) ∧ RU m H kv.2 e.val) kvs es.toList := by
  cases h with
  | tup xs he hn hr =>
    rw [he]
    clear hn he
    induction hr with
    | nil => exact .nil
    | @cons kv x kvs xs q r ih => exact .cons ⟨⟨_, q.2.2.2.1, rfl⟩, q.2.2.2.2⟩ ih
  | flat xs hk he hn hr =>
    have go : ∀ {kvs : List (Val × Val)} {xs : List (Key × Value)} {es : List DictEntry}, Pairs (mixKind g.P g.w) es xs → Paired (KF m H) kvs xs → Paired (fun (kv : Val × Val) (e : DictEntry) => (∃ x, RV m H kv.1 x ∧ RelV x e.key) ∧ RU m H kv.2 e.val) kvs es := by
      intro kvs xs es hp
      induction hp generalizing kvs with
      | nil => intro hr; cases hr; exact .nil
      | @cons e kv es xs k1 k2 _ ih =>
        intro hr
        cases hr with
        | @cons a b l r q rr => exact .cons ⟨⟨_, q.2.1, is_kV k1⟩, k2 ▸ q.2.2⟩ (ih rr)
    exact go he hr
end
structure IsiC (K : PySem.W.Frag) (C : Addr) : Prop where
  no : ∀ T ∈ ["NoneType", "bool", "int", "str", "tuple", "list", "dict"], PySem.W.kitOne K (.type T) (.ref C) = some false
  it : InsT K C
end G
namespace G
open PySem PySem.Spec L2
open PyProof.Rows hiding St
section
variable {X : Cx} {g : Gx} {o : Orc} {W : WX} {t : Tb} {F : Ft} {nf n : Nat} {pins : List (Addr × PySem.Obj)} {s : Shared} {σ : St} {ρ : G.Env} {m : Mp} {H : Hp} {S : Store}
end
end G
set_option Elab.async false
set_option linter.all false
set_option maxRecDepth 100000
/-! calls whose arguments and answer hold no objects: worked out apart from the store -/
namespace G
open PySem PySem.Spec L2
open PyProof.Rows hiding St
section
variable {X : Cx} {g : Gx} {o : Orc} {W : WX} {t : Tb} {F : Ft} {nf n : Nat} {pins : List (Addr × PySem.Obj)} {s : Shared} {σ : St} {ρ : G.Env} {m m' : Mp} {H : Hp} {S : Store} {pos p apos : Pos} {e : PySem.Expr} {es : List PySem.Expr} {cs : G.EL} {x : Str}
mutual
theorem RV.purv {m' : Mp} : ∀ (k : Nat) {v : Val} {y : V}, RV m H v y → pur k v = true → RV m' H v y
  | 0, _, _, _, h => by cases h
  | _ + 1, _, _, .none, _ => .none
  | _ + 1, _, _, .bool b, _ => .bool b
  | _ + 1, _, _, .int i, _ => .int i
  | _ + 1, _, _, .str h, _ => .str h
  | k + 1, _, _, .tup h r, q => .tup h (RVs.purv k r q)
  | _ + 1, _, _, .ref _, h => by cases h
  | _ + 1, _, _, .scr _, h => by cases h
theorem RVs.purv {m' : Mp} : ∀ (k : Nat) {vs : List Val} {ys : List V}, RVs m H vs ys → vs.all (pur k) = true → RVs m' H vs ys
  | _, _, _, .nil, _ => .nil
  | k, _, _, .cons h r, q => by
    obtain ⟨q1, q2⟩ := Bool.and_eq_true_iff.mp q
    exact .cons (RV.purv k h q1) (RVs.purv k r q2)
end
abbrev Mp.none (m : Mp) : Mp := ⟨m.K, [], m.ea⟩
theorem rs_none (hx : g.ex = .none) (rs : RS g m S H) : RS g m.none nilS H :=
  ⟨rs.K, rfl, trivial, fun i j a h => (by simp at h), fun n o h => (by cases (show (Option.none : Option Obj) = some o from h)), fun n h => absurd h (Nat.not_lt_zero _), fun a fs h => (by rw [hx] at h; cases h), rs.he⟩
theorem ex_none {m1 : Mp} {H1 : Hp} (rs : RS g m S H) (x : Ex m.none H m1 H1) : Ex m H m H1 ∧ RS g m S H1 := by
  have kp : ∀ b o, H b = some o → H1 b = some o := fun b o h => x.keep b o h (.inr (by simp))
  have e : Ex m H m H1 := ⟨rfl, rfl, List.prefix_rfl, fun b o h _ => kp b o h, fun a h1 h2 => absurd h1 h2⟩
  exact ⟨e, rs.grow e fun _ a o _ h => kp a o h⟩
theorem callP_ok (hx : g.ex = .none) {f : Nat} {vs : List Val} {xs : List V} {Q : VK} {E : XK} (ho : o = orcN t n) (rv : RVs m H vs xs) (rs : RS g m S H) (p : PostG g RV m H Q E (callP f o vs S)) : spG g t n f xs H Q E := by
  unfold callP at p
  cases e : vs.all (pur 20) with
  | false =>
    rw [e] at p
    have p' : PostG g RV m H Q E (o.call f vs S) := p
    rw [ho] at p'
    exact ⟨m, vs, S, rv, rs, p'⟩
  | true =>
    rw [e] at p
    have p' : PostG g RV m H Q E (match o.call f vs nilS with | .ok v _ => (match pur 20 v with | true => .ok v S | false => .stuck 997) | .exc _ _ _ => .stuck 997 | .stuck w => .stuck w) := p
    refine ⟨m.none, vs, nilS, rv.purv 20 e, rs_none hx rs, ?_⟩
    rw [ho] at p'
    revert p'
    show PostG g RV m H Q E (match callN t n f vs nilS with | .ok v _ => (match pur 20 v with | true => .ok v S | false => .stuck 997) | .exc _ _ _ => .stuck 997 | .stuck w => .stuck w) → _
    cases callN t n f vs nilS with
    | stuck w => exact fun p => p
    | exc c fs S' => exact fun p => p.elim
    | ok v S' =>
      intro p2 m1 H1 y x1 rs1 r1
      cases q : pur 20 v with
      | false =>
        have p3 : PostG g RV m H Q E (match pur 20 v with | true => .ok v S | false => .stuck 997) := p2
        rw [q] at p3; exact p3.elim
      | true =>
        have p3 : PostG g RV m H Q E (match pur 20 v with | true => .ok v S | false => .stuck 997) := p2
        rw [q] at p3
        obtain ⟨x2, rs2⟩ := ex_none rs x1
        exact p3 m H1 y x2 rs2 (r1.purv 20 q)
theorem e_callP (hx : g.ex = .none) (R : Rn X g o t F nf n W) {f : Nat} (hf : f < nf) (hg : Gl X x) (hm : X.mg x = some (.ref (F.a f))) (hk : PySem.W.keepIn X.K (.ref (F.a f)) = true) (hb : Binds X.K (F.fd f) (F.ps f) [])
    (ha : PA X (e :: es) (tL g o W cs)) (hdb : (x == ("__debug__" : Str)) = false) (he : starEach (e :: es) X.env = (false, eval e X.env) :: starEach es X.env) (hpl : (backTo pos (starEach es X.env)).any (·.1) = false) :
    PE X (.Call (.Name x p) (e :: es) [] pos) (tM g o W (eCallP f cs)) := by
  refine ⟨fun pins s σ H Q I ⟨m, ρ, S, re, rs, pp⟩ => wpAny_Call_Name_kw (ld_glob I hg hm ?_ hdb)⟩
  refine PySem.W.callWith_K (h₀ := X.base) I.ok.mod.kin hk (thnL (pos := pos) ha I re rs pp fun us s1 vs S1 m1 H1 xs I1 r1 rv1 rs1 re1 e1 p1 => ⟨I1.kIn, ?_⟩) he hpl
  exact run_fnG (R.ok f hf) R.room.rm hb .nil R.takes I1 r1 (by rw [List.append_nil]; exact callP_ok hx R.orc rv1 rs1 p1)
end
end G
set_option Elab.async false
set_option linter.all false
set_option maxRecDepth 100000
/-! the last step in parts: sums of calls whose answers are lists without objects; names by int(cell) % 3 -/
namespace G
/-! int(abs((list(script[:1]) + [1])[0])) -/
end G
namespace G
end G
set_option Elab.async false
set_option linter.all false
set_option maxRecDepth 100000
/-! a dict that is walked by items() is frozen meanwhile -/
namespace G
open PySem PySem.Spec L2
open PyProof.Rows hiding St
section
variable {X : Cx} {g : Gx} {o : Orc} {W : WX} {pins : List (Addr × PySem.Obj)} {s : Shared} {σ : St} {ρ : G.Env} {m : Mp} {H H' : Hp} {S : Store} {a : Addr}
/-- H' is H but for the frozen dict at a -/
structure Th (H H' : Hp) (a : Addr) : Prop where
  keep : ∀ b o, H b = some o → b ≠ a → H' b = some o
  at_ : ∃ od φ, H a = some (.frz od (.ext φ))
end
/-! ### items() of a frozen dict -/
def EnR (en : DictEntry) (p : V × V) : Prop := RelV p.1 en.key ∧ RelV p.2 en.val
def kvR (m : Mp) (H : Hp) (kv : Val × Val) (p : V × V) : Prop := RV m H kv.1 p.1 ∧ RV m H kv.2 p.2
theorem DR.pairs {g : Gx} {m : Mp} {H : Hp} {kvs : List (Val × Val)} {es : Array DictEntry} (r : DR g m H kvs es) : ∃ xs : List (V × V), Paired EnR es.toList xs ∧ Paired (kvR m H) kvs xs := by
  cases r with
  | tup ks he hn hr =>
    rw [he]
    clear he hn
    induction hr with
    | nil => exact ⟨[], .nil, .nil⟩
    | cons q r ih =>
      obtain ⟨xs, h1, h2⟩ := ih
      obtain ⟨q1, q2, q3, q4, z, q5, q6⟩ := q
      exact ⟨(.ref _, z) :: xs, .cons ⟨rfl, q6⟩ h1, .cons ⟨q4, q5⟩ h2⟩
  | flat ks hk he hn hr =>
    clear hk hn
    generalize es.toList = el at he ⊢
    induction he generalizing kvs with
    | nil => cases hr; exact ⟨[], .nil, .nil⟩
    | cons h1 h2 _ ih =>
      cases hr with
      | cons q r =>
        obtain ⟨xs, k1, k2⟩ := ih r
        obtain ⟨q1, q2, z, q3, q4⟩ := q
        exact ⟨(kV _, z) :: xs, .cons ⟨relV_key h1, by rw [h2]; exact q4⟩ k1, .cons ⟨q2, q3⟩ k2⟩
section
variable {P : Program} {w : World} {K : PySem.W.Frag} {d : Addr} {ob : PySem.Obj} {es : Array DictEntry} {ep : Nat} {xs : List (V × V)}
end
section
variable {X : Cx} {g : Gx} {o : Orc} {W : WX}
end
end G
set_option Elab.async false
set_option linter.all false
set_option maxRecDepth 100000
/-! sorted({.. for ..}), a set of ints -/
namespace G
open PySem PySem.Spec L2
open PyProof.Rows hiding St
section
variable {X : Cx} {g : Gx} {o : Orc} {W : WX} {vx tg iter : PySem.Expr} {ifs : List PySem.Expr} {scope : Scope} {own : List (Str × Nat)} {pos : Pos}
end
/-! ### the state of a set that grows at D -/
structure LsI (g : Gx) (w : World) (m0 : Mp) (H0 : Hp) (D : Addr) (m : Mp) (S : Store) (H : Hp) (acc : Acc) : Prop where
  ex : Ex m0 H0 m H
  rs : RS g m S H
  out : D ∉ m.l
  none0 : H0 D = .none
  at_ : ∃ ns : List Int, acc.2 = ns.map Val.int ∧ ns.length ≤ 60 ∧ ns.Pairwise (· < ·) ∧ H D = some (SetO w D (fun j => decide (j ∈ ns)) ns.length)
section
variable {X : Cx} {g : Gx} {o : Orc} {W : WX} {vx tg iter : PySem.Expr} {ifs : List PySem.Expr} {scope : Scope} {own : List (Str × Nat)} {pos : Pos} {w : World} {m m0 : Mp} {H H0 : Hp} {S : Store} {D : Addr} {cv : G.E} {t : G.T} {ci : G.EI}
theorem LsI.step {m' : Mp} {H' : Hp} {S' : Store} {acc : Acc} (l : LsI g w m0 H0 D m S H acc) (x : Ex m H m' H') (rs : RS g m' S' H') : LsI g w m0 H0 D m' S' H' acc := by
  obtain ⟨ns, h0, hz, hp, h1⟩ := l.at_
  refine ⟨l.ex.trans x, rs, fun q => ?_, l.none0, ⟨ns, h0, hz, hp, x.keep _ _ h1 (.inr l.out)⟩⟩
  have := x.new D q l.out
  rw [h1] at this; cases this
theorem LsI.ok : LOk g (LsI g w m0 H0 D) := ⟨fun l => l.rs, fun l x rs => l.step x rs, fun l l' => l.ex.ea.trans l'.ex.ea.symm⟩
end
end G
set_option Elab.async false
set_option linter.all false
set_option maxRecDepth 100000
/-! < of tuples -/
namespace G
open PySem PySem.Spec L2
open PyProof.Rows hiding St
section
variable {X : Cx} {g : Gx} {o : Orc} {W : WX} {pins : List (Addr × PySem.Obj)} {s : Shared} {σ : St} {ρ : G.Env} {m : Mp} {H : Hp} {S : Store}
end
end G
namespace G
open PySem PySem.Spec L2
open PyProof.Rows hiding St
end G
set_option Elab.async false
set_option linter.all false
set_option maxRecDepth 100000
/-! raise C(); x.p of a property; several except clauses, with and without a name -/
namespace G
open PySem PySem.Spec L2
open PyProof.Rows hiding St
section
variable {X : Cx} {g : Gx} {o : Orc} {W : WX} {t : Tb} {F : Ft} {nf n : Nat} {pins : List (Addr × PySem.Obj)} {s : Shared} {σ : St} {ρ : G.Env} {m : Mp} {H : Hp} {S : Store} {pos p apos : Pos} {x : Str}
/-! ### a property -/
theorem Rb.in1 {n : Nat} {A : Around} (r : Rb n A) : Rm n A.in1 := ⟨r.hd, by have := r.dp; show A.depth + 2 * n + 40 < _; omega, by have := r.un; show A.units + 1 + 16 * n + 500 < _; omega, r.gd⟩
/-- what the text's properties of a name keep -/
structure PrOk (X : Cx) (g : Gx) (F : Ft) (nf : Nat) (pr : Nat → Nat → Option Nat) (pi : Nat) (pn : Str) : Prop where
  at_ : ∀ c f, pr c pi = some f → f < nf ∧ (∃ p, PropOf X.K (g.cl c) pn p (F.a f)) ∧ Binds X.K (F.fd f) (F.ps f) []
end
/-! ### several clauses -/
abbrev TsX := Addr → Value → Option Addr → TS
inductive HdsN (X : Cx) : List ExceptHandler → List (Value × Option Nat × TsX) → Prop
  | nil : HdsN X [] []
  | only {x : Str} {c : Value} {ts : TsX} {b₀ : Stmt} {suite : List Stmt} {np pos' : Pos} {hds : List ExceptHandler} {l : List (Value × Option Nat × TsX)} (hc : Names X x c)
      (hsu : ∀ (a : Addr) (oe : PySem.Obj) (cls : Value) (d : Option Addr) (pn : List (Addr × PySem.Obj)), Zc cls d oe → (∃ vs, oe.data = .fields vs) → PSs (X.suite a ((a, oe) :: pn)) (b₀ :: suite) (ts a cls d)) (r : HdsN X hds l) :
      HdsN X (.ExceptHandler (some (.Name x np)) none (b₀ :: suite) pos' :: hds) ((c, .none, ts) :: l)
  | as_ {x nm : Str} {i : Nat} {c : Value} {ts : TsX} {b₀ : Stmt} {suite : List Stmt} {np pos' : Pos} {hds : List ExceptHandler} {l : List (Value × Option Nat × TsX)} (hc : Names X x c) (hi : X.N[i]? = some nm) (hln : X.env.kindOf nm = some .local)
      (hsu : ∀ (a : Addr) (oe : PySem.Obj) (cls : Value) (d : Option Addr) (pn : List (Addr × PySem.Obj)), Zc cls d oe → (∃ vs, oe.data = .fields vs) → PSs (X.suite a ((a, oe) :: pn)) (b₀ :: suite) (ts a cls d)) (r : HdsN X hds l) :
      HdsN X (.ExceptHandler (some (.Name x np)) (some nm) (b₀ :: suite) pos' :: hds) ((c, some i, ts) :: l)
section
variable {X : Cx} {body : List Stmt} {h₀ : ExceptHandler} {hds : List ExceptHandler} {l : List (Value × Option Nat × TsX)} {pos : Pos} {tb : WX → TS} {Wout : WX}
end
/-- the clauses and their codes -/
inductive HdsG (X : Cx) (g : Gx) (o : Orc) : List ExceptHandler → List H1 → Prop
  | nil : HdsG X g o [] []
  | only {x : Str} {cv : Value} {su : List Stmt} {b₀ : Stmt} {np pos' : Pos} {ys ns : List Nat} {k : G.C} {hds : List ExceptHandler} {hs : List H1} (hc : Names X x cv) (hcl : ClOk X.K g cv ys ns) (hsu : SuOk X g o ys (b₀ :: su) k) (r : HdsG X g o hds hs) :
      HdsG X g o (.ExceptHandler (some (.Name x np)) none (b₀ :: su) pos' :: hds) ((ys, ns, .none, k) :: hs)
  | as_ {x nm : Str} {i : Nat} {cv : Value} {su : List Stmt} {b₀ : Stmt} {np pos' : Pos} {ys ns : List Nat} {k : G.C} {hds : List ExceptHandler} {hs : List H1} (hc : Names X x cv) (hi : X.N[i]? = some nm) (hln : X.env.kindOf nm = some .local) (hcl : ClOk X.K g cv ys ns) (hsu : SuOk X g o ys (b₀ :: su) k) (r : HdsG X g o hds hs) :
      HdsG X g o (.ExceptHandler (some (.Name x np)) (some nm) (b₀ :: su) pos' :: hds) ((ys, ns, some i, k) :: hs)
section
variable {X : Cx} {g : Gx} {o : Orc} {W : WX} {m : Mp} {H : Hp} {D : Ends}
end
end G
set_option Elab.async false
set_option linter.all false
set_option maxRecDepth 100000
/-! dict comprehensions of two clauses -/
namespace G
open PySem PySem.Spec L2
open PyProof.Rows hiding St
section
variable {prog : Program} {w : World} {A : Around} {R : Result → Shared → Prop} {s : Shared} {kx vx t0 i0 t1 i1 : PySem.Expr} {ifs0 ifs1 : List PySem.Expr} {scope : Scope} {pos : Pos} {it acc : Value} {D : Addr} {env : PySem.Env}
end
section
variable {X : Cx} {g : Gx} {o : Orc} {W : WX} {kx vx tg iter tg1 iter1 : PySem.Expr} {ifs ifs1 : List PySem.Expr} {scope : Scope} {own : List (Str × Nat)} {vs1 : List Nat} {pos : Pos}
end
section
variable {X : Cx} {g : Gx} {o : Orc} {W : WX} {kx vx tg iter tg1 iter1 : PySem.Expr} {ifs ifs1 : List PySem.Expr} {scope : Scope} {own : List (Str × Nat)} {vs1 : List Nat} {pos : Pos} {t t1 : G.T} {ci ci1 : G.EI} {ck cv : G.E}
end
end G
set_option Elab.async false
set_option linter.all false
set_option maxRecDepth 100000
/-! dict(l), l a list of pairs whose keys are tuples -/
namespace G
open PySem PySem.Spec L2
open PyProof.Rows hiding St
section
variable {X : Cx} {g : Gx} {o : Orc} {W : WX} {pins : List (Addr × PySem.Obj)} {s : Shared} {σ : St} {m : Mp} {H : Hp} {S : Store}
end
end G
set_option Elab.async false
set_option linter.all false
set_option maxRecDepth 100000
/-! laws that draw more than once -/
namespace G
end G
namespace G
end G
set_option Elab.async false
set_option linter.all false
set_option maxRecDepth 100000
/-! calls behind which the store is swept -/
namespace G
open PySem PySem.Spec L2
open PyProof.Rows hiding St
section
variable {g : Gx} {m1 m2 : Mp} {H : Hp} {N : Nat} {rs : List Nat}
/-- m2 knows by the new numbers what m1 knew -/
structure Mv (m1 m2 : Mp) (N : Nat) (rs : List Nat) : Prop where
  K : m2.K = m1.K
  at_ : ∀ i j a, renN N rs i = some j → m1.l[i]? = some a → m2.l[j]? = some a
end
section
variable {X : Cx} {g : Gx} {o : Orc} {W : WX} {t : Tb} {F : Ft} {nf n : Nat} {pins : List (Addr × PySem.Obj)} {s : Shared} {σ : St} {ρ : G.Env} {m m1 : Mp} {H H1 : Hp} {S S' : Store} {pos p apos : Pos} {e : PySem.Expr} {es : List PySem.Expr} {cs : G.EL} {x : Str}
end
end G
set_option Elab.async false
set_option linter.all false
set_option maxRecDepth 100000
/-! a new instance, the store swept; index, count; list(range(..)) -/
namespace G
open PySem PySem.Spec L2
open PyProof.Rows hiding St
section
variable {X : Cx} {g : Gx} {o : Orc} {W : WX} {t : Tb} {F : Ft} {nf n : Nat} {pins : List (Addr × PySem.Obj)} {s : Shared} {σ : St} {ρ : G.Env} {m : Mp} {H : Hp} {S : Store} {pos p apos : Pos} {e a b : PySem.Expr} {ca cb : G.E} {es : List PySem.Expr} {cs : G.EL} {x : Str}
end
end G
set_option Elab.async false
set_option linter.all false
set_option maxRecDepth 100000
/-! list(..) of an iterator -/
namespace G
open PySem PySem.Spec L2
open PyProof.Rows hiding St
section
variable {P : Program} {w : World} {A : Around} {E : Value → Shared → Prop} {s : Shared}
end
section
variable {X : Cx} {g : Gx} {o : Orc} {W : WX} {pins : List (Addr × PySem.Obj)} {s : Shared} {σ : St} {ρ : G.Env} {m : Mp} {H : Hp} {S : Store} {a b tg : PySem.Expr} {cs : G.EL} {p pos p2 pos2 : Pos}
end
end G
set_option Elab.async false
set_option linter.all false
set_option maxRecDepth 100000
/-! a method that begins with super().__init__(..) -/
namespace G
open PySem PySem.Spec L2
open PyProof.Rows hiding St
/-- such a method, in the written part -/
structure FunS (K : PySem.W.Frag) (file x qual : Str) (params : Arguments) (body : List Stmt) (scope : Scope) (f : Addr) (fd : FuncData) (D : Addr) (cc cda : Addr) : Prop where
  ex : ∃ (oc : Value) (od : Option Addr) (doc pm : Value) (an : Option Addr) (ct : Value) (osl : Array (Option Value)), fd = PySem.W.ksFn x qual params body scope .none .none doc pm an (.ref cda) ct cc ∧ K.lookup f = some ⟨oc, od, .func fd, osl⟩
  code : PySem.W.codeIn K (.ref cda) qual = true
  cell : ∃ (cl : Value) (cld : Option Addr) (csl : Array (Option Value)), K.lookup cc = some ⟨cl, cld, .cell (some (.ref D)), csl⟩
  file : ∃ (cl : Value) (cld : Option Addr) (csl : Array (Option Value)) (vs : Array Value) (tf : Tok), K.lookup cda = some ⟨cl, cld, .fields vs, csl⟩ ∧ vs[2]? = some (.str file tf)
  kp : PySem.W.keepIn K (.ref f) = true
/-- the names of such a method -/
structure SScope (N ps : List Str) (sc : Scope) : Prop where
  kind : sc.kind = .function
  co : sc.isCoroutine = false
  gen : sc.isGenerator = false
  nd : N.Nodup
  pre : N.take ps.length = ps
  par : ∀ x ∈ ps, sc.names.lookup x = some .local
  nocell : ∀ y ∈ sc.names, y.2 ≠ .cell
  onefree : ∀ y ∈ sc.names, y.2 = .free → y.1 = "__class__"
  cls : sc.names.lookup ("__class__" : Str) = some .free
  sup : sc.names.lookup ("super" : Str) = some .globalImplicit
/-- what of the text such a call asks: D the class, whose instance self is; f2 the base's __init__ -/
structure SupOk (K : PySem.W.Frag) (D f2 : Addr) : Prop where
  cls : (PySem.W.clsIn K D).isSome = true
  sub : PySem.W.mroIn K D (.ref D) = some true
  at_ : PySem.W.ks_superIn K D D "__init__" = some (some (.ref f2))
  ty : PySem.W.typeIn K (.ref f2) = some (.type "function")
  fn : PySem.W.fnIn K f2 = true
  noany : PySem.W.nsIn K cStatics "thirdparty.any" = some .none
section
variable {P : Program} {w : World} {K : PySem.W.Frag} {mg : Str → Option Value} {base : Heap} {N ps : List Str} {file x qual self : Str} {params : Arguments} {body : List Stmt} {scope : Scope} {f cc cda D f2 : Addr} {fd : FuncData} {A : Around} {outer : List PySem.Env} {s0 s : Shared} {H0 H : Hp} {E : XK} {g : Gx} {t : Tb} {F : Ft} {nf n c j : Nat} {cs : G.EL}
  {p0 p1 p2 p3 : Pos} {e : PySem.Expr} {es : List PySem.Expr} {σ : St} {Q : VK} {a0 : Arg} {pl : Sem Bool}
end
end G
set_option Elab.async false
set_option linter.all false
set_option maxRecDepth 100000
/-! the head's facts where methods say super() -/
namespace G
open PySem PySem.Spec L2
open PyProof.Rows hiding St
def fnWS (K : PySem.W.Frag) (p : Str × Option Str) : He.FnW := match K.lookup (adP K p) with
  | some ⟨_, _, .func fd, _⟩ => some (fd.name, fd.qualname, fd.params, fd.body, fd.scope, fd.globals, [], fd.builtins)
  | _ => none
theorem FunS.bindsN {K : PySem.W.Frag} {file x qual : Str} {params : Arguments} {body : List Stmt} {scope : Scope} {a D cc cda : Addr} {fd : FuncData} {ps : List Str} (F : FunS K file x qual params body scope a fd D cc cda)
    (h : ∀ (doc pm : Value) (an : Option Addr) (ct : Value) (us : List Value), us.length = ps.length → bindArgs (PySem.W.ksFn x qual params body scope .none .none doc pm an (.ref cda) ct cc) ⟨us, []⟩ = pure (ps.zip us)) : Binds K fd ps [] := by
  obtain ⟨oc, od, doc, pm, an, ct, osl, rfl, lk⟩ := F.ex
  exact Binds.all fun us hl => h doc pm an ct us hl
/-! ### the observation -/
def obsX2 (ck : PySem.W.Frag → Bool) (fn fs : List He.DefD) (K : PySem.W.Frag) : He.AlD := (ck K && fn.all fun d => okP K d, (fn.map fun d => fnWP K d.at_) ++ fs.map fun d => fnWS K d.at_)
def SaysX2 (ck : PySem.W.Frag → Bool) (fn fs : List He.DefD) (K : PySem.W.Frag) : Prop := obsX2 ck fn fs K = He.valD (fn ++ fs)
section
variable {ck : PySem.W.Frag → Bool} {fn fs : List He.DefD} {K : PySem.W.Frag}
theorem SaysX2.maps (c : SaysX2 ck fn fs K) : (fn.map fun d => fnWP K d.at_) = fn.map He.DefD.val ∧ (fs.map fun d => fnWS K d.at_) = fs.map He.DefD.val := by
  have e : (fn.map fun d => fnWP K d.at_) ++ (fs.map fun d => fnWS K d.at_) = (fn ++ fs).map He.DefD.val := congrArg (fun z : He.AlD => z.2) c
  rw [List.map_append] at e
  exact List.append_inj e (by simp)
theorem SaysX2.one (c : SaysX2 ck fn fs K) : SaysX ck fn K := by
  have h1 : (ck K && fn.all fun d => okP K d) = true := congrArg (fun z : He.AlD => z.1) c
  show (ck K && fn.all fun d => okP K d, fn.map fun d => fnWP K d.at_) = (true, fn.map He.DefD.val)
  rw [h1, c.maps.1]
theorem SaysX2.sup (c : SaysX2 ck fn fs K) {i : Nat} {d : He.DefD} (h : fs[i]? = some d) : fnWS K d.at_ = d.val := by
  have e2 : (fs.map fun d => fnWS K d.at_)[i]? = (fs.map He.DefD.val)[i]? := by rw [c.maps.2]
  rw [List.getElem?_map, List.getElem?_map, h] at e2
  exact Option.some.inj e2
end
end G
set_option Elab.async false
set_option linter.all false
set_option maxRecDepth 100000
/-! generators that sleep stay as they are through code that a rule proves: such code runs with any table, so also with one whose sleepers cannot be woken -/
namespace G
open PySem PySem.Spec L2
open Sem (wp)
open PyProof.Rows (AllBare)
def numb : Resume → Sem PySem.Fin := fun _ => .unsupported ""
/-- the sleepers of a table made numb -/
def numbed : GenState → GenState
  | .suspended _ l c p fs cl => .suspended numb l c p fs cl
  | x => x
def sleeps : GenState → Bool
  | .suspended .. => true
  | _ => false
/-- a: the table where the sleepers of T are numb; b: the true one -/
structure Num (T a b : Array GenState) : Prop where
  le : T.size ≤ a.size
  sz : a.size = b.size
  same : ∀ (j : Nat), (∀ x, T[j]? = some x → sleeps x = false) → a[j]? = b[j]?
  stay : ∀ (j : Nat) (x : GenState), T[j]? = some x → sleeps x = true → a[j]? = some (numbed x) ∧ b[j]? = some x
  clean : ∀ (j : Nat) (k : Resume → Sem PySem.Fin) (l : List Value) (c : Code) (p : Pos) (fs : List Frame) (cl : Bool), a[j]? = some (.suspended k l c p fs cl) → (∀ x, T[j]? = some x → sleeps x = false) → splitAtGen fs = none
variable {T a b : Array GenState}
/-- an entry that is no sleeper of T stands in both; a sleeper of T is numb -/
theorem Num.at_ (h : Num T a b) {g : Nat} {st : GenState} (e : a[g]? = some st) : ((∀ x, T[g]? = some x → sleeps x = false) ∧ b[g]? = some st) ∨ ∃ l c p fs cl, st = .suspended numb l c p fs cl := by
  by_cases q : ∀ x, T[g]? = some x → sleeps x = false
  · exact .inl ⟨q, by rw [← h.same g q]; exact e⟩
  · refine .inr ?_
    cases z : T[g]? with
    | none => exact absurd (fun x hx => by rw [z] at hx; cases hx) q
    | some x =>
      cases w : sleeps x with
      | true =>
        obtain ⟨h1, _⟩ := h.stay g x z w
        rw [e] at h1
        cases h1
        cases x with
        | suspended k l c p fs cl => exact ⟨l, c, p, fs, cl, rfl⟩
        | _ => cases w
      | false => exact absurd (fun y hy => by rw [z] at hy; cases hy; exact w) q
theorem Num.set (h : Num T a b) {g : Nat} {x : GenState} (q : ∀ x, T[g]? = some x → sleeps x = false) (cl : ∀ k l c p fs cl, x = .suspended k l c p fs cl → splitAtGen fs = none) : Num T (a.setIfInBounds g x) (b.setIfInBounds g x) := by
  refine ⟨by simpa using h.le, by simpa using h.sz, fun j hj => ?_, fun j y hy hs => ?_, fun j k l c p fs cl' e hj => ?_⟩
  · by_cases e : g = j
    · subst e
      have := h.same g hj
      rw [Array.getElem?_setIfInBounds, Array.getElem?_setIfInBounds, h.sz, if_pos rfl, if_pos rfl]
    · rw [Array.getElem?_setIfInBounds_ne e, Array.getElem?_setIfInBounds_ne e]; exact h.same j hj
  · have e : g ≠ j := by
      rintro rfl
      rw [q y hy] at hs; cases hs
    rw [Array.getElem?_setIfInBounds_ne e, Array.getElem?_setIfInBounds_ne e]; exact h.stay j y hy hs
  · by_cases e2 : g = j
    · subst e2
      rw [Array.getElem?_setIfInBounds] at e
      split at e
      · split at e
        · cases e
          exact cl _ _ _ _ _ _ rfl
        · cases e
      · rename_i z; exact absurd rfl z
    · rw [Array.getElem?_setIfInBounds_ne e2] at e
      exact h.clean j k l c p fs cl' e hj
theorem Num.push (h : Num T a b) {x : GenState} (cl : ∀ k l c p fs cl, x = .suspended k l c p fs cl → splitAtGen fs = none) : Num T (a.push x) (b.push x) := by
  refine ⟨by rw [Array.size_push]; have := h.le; omega, by rw [Array.size_push, Array.size_push, h.sz], fun j hj => ?_, fun j y hy hs => ?_, fun j k l c p fs cl' e hj => ?_⟩
  · rw [Array.getElem?_push, Array.getElem?_push, h.sz]
    split
    · rfl
    · exact h.same j hj
  · have lt : j < T.size := (Array.getElem?_eq_some_iff.mp hy).1
    have ne : ¬ j = a.size := by have := h.le; omega
    have ne2 : ¬ j = b.size := by rw [← h.sz]; exact ne
    rw [Array.getElem?_push, Array.getElem?_push, if_neg ne, if_neg ne2]
    exact h.stay j y hy hs
  · rw [Array.getElem?_push] at e
    split at e
    · cases e
      exact cl _ _ _ _ _ _ rfl
    · exact h.clean j k l c p fs cl' e hj
theorem Num.start (s : Array GenState) : Num s (s.map numbed) s := by
  refine ⟨by simp, by simp, fun j hj => ?_, fun j x hx hs => ⟨by rw [Array.getElem?_map, hx]; rfl, hx⟩, fun j k l c p fs cl e hj => ?_⟩
  · rw [Array.getElem?_map]
    cases z : s[j]? with
    | none => rfl
    | some x =>
      have := hj x z
      cases x <;> first | rfl | cases this
  · rw [Array.getElem?_map] at e
    cases z : s[j]? with
    | none => rw [z] at e; cases e
    | some x =>
      rw [z] at e
      have := hj x z
      cases x <;> first | (cases this; done) | (simp [numbed] at e)
def tab (s : Shared) (g : Array GenState) : Shared := { s with gens := g }
section
variable {M : Model}
/-- all that sleeps in the one table sleeps in the other -/
def Sleep (a b : Array GenState) : Prop := ∀ (j : Nat) (x : GenState), a[j]? = some x → sleeps x = true → b[j]? = some x
end
end G
set_option Elab.async false
set_option linter.all false
set_option maxRecDepth 100000
/-! a generator's code as it runs: q is what was known when it was last woken -/
namespace G
open PySem PySem.Spec L2
open Sem (wp)
open PyProof.Rows (AllBare)
section
variable {γ : Type}
abbrev EndT (γ : Type) := γ → Result → Shared → Prop
abbrev YldT (γ : Type) := γ → Value → Shared → (γ → Shared → Prop) → Prop
def EndL (R : EndT γ) (Y : YldT γ) (q : γ) (go : γ → Code → Sem PySem.Fin → List Frame → Shared → Prop) (e : End) (s' : Shared) : Prop := match e with
  | .ret r => R q r s'
  | .susp v g l k c p fs => (End.susp v g l k c p fs).quiet = true ∧ Y q v s' fun q1 s'' => go q1 c (k (.send .none)) fs s''
def Live (M : Model) (A : Around) (R : EndT γ) (Y : YldT γ) : Nat → γ → Code → Sem PySem.Fin → List Frame → Shared → Prop
  | 0 => fun q c t fs s => ∀ Γ p, Γ.code = c → Γ.Woken A → ∃ e s', Runs M Γ p t fs s e s' ∧ EndL R Y q (fun _ _ _ _ _ => False) e s'
  | n + 1 => fun q c t fs s => ∀ Γ p, Γ.code = c → Γ.Woken A → ∃ e s', Runs M Γ p t fs s e s' ∧ EndL R Y q (fun q1 c' t' fs' s'' => Live M A R Y n q1 c' t' fs' s'') e s'
def Live.next (M : Model) (A : Around) (R : EndT γ) (Y : YldT γ) : Nat → γ → Code → Sem PySem.Fin → List Frame → Shared → Prop
  | 0 => fun _ _ _ _ _ => False
  | n + 1 => fun q c t fs s => Live M A R Y n q c t fs s
variable {M : Model} {A : Around} {R : EndT γ} {Y : YldT γ} {n : Nat} {q : γ} {c : Code} {fs : List Frame} {s : Shared}
end
section
variable {γ : Type} {P : Program} {w : World} {A : Around} {R : EndT γ} {Y : YldT γ} {n : Nat} {q : γ} {E : Value → Shared → Prop} {s : Shared}
end
end G
set_option Elab.async false
set_option linter.all false
set_option maxRecDepth 100000
/-! a generator def's frame: its context at each waking -/
namespace G
open PySem PySem.Spec L2
open PyProof.Rows hiding St
/-- the heap's first objects -/
def cut (L : Nat) (h : Heap) : Heap := { h with objs := h.objs.extract 0 L }
/-- the world when a generator is woken: how many it has given out, its part of the store -/
structure Wk where
  s : Shared
  H : Hp
  m : Mp
  i : Nat
/-- a generator: its def, its frame's names, where it stands; A: where it is woken -/
structure Own where
  P : Program
  w : World
  K : PySem.W.Frag
  mg : Str → Option Value
  base : Heap
  outer : List PySem.Env
  N : List Str
  qual : Str
  scope : Scope
  f : Addr
  cd : Value
  L : Addr
  A : Around
  a : Addr
  go : PySem.Obj
abbrev Own.env (O : Own) : PySem.Env := envOfC O.qual O.scope O.L O.f O.cd
/-- sleepers that it leans on -/
def GlOk (gl : List (Nat × GenState)) (G : Array GenState) : Prop := ∀ p ∈ gl, G[p.1]? = some p.2 ∧ sleeps p.2 = true
theorem GlOk.sleep {gl : List (Nat × GenState)} {a b : Array GenState} (h : GlOk gl a) (s : Sleep a b) : GlOk gl b := fun p hp => ⟨s _ _ (h p hp).1 (h p hp).2, (h p hp).2⟩
/-- what its consumer keeps while it sleeps; pl: its own objects as they stand -/
structure WakeOk (O : Own) (pl : List (Addr × PySem.Obj)) (gl : List (Nat × GenState)) (m : Mp) (H : Hp) (q : Wk) : Prop where
  env : Env0 O.P O.w O.K O.mg O.base O.A O.outer q.s q.H
  pl : ∀ p ∈ pl, q.s.heap.get? p.1 = some p.2 ∧ q.H p.1 = .none
  gl : GlOk gl q.s.gens
  mp : q.m = m
  keep : ∀ b o, H b = some o → imm o = true ∨ b ∈ m.l → q.H b = some o
theorem RS.woken {g : Gx} {m : Mp} {S : Store} {H H' : Hp} (hx : g.ex = .none) (rs : RS g m S H) (keep : ∀ b o, H b = some o → imm o = true ∨ b ∈ m.l → H' b = some o) : RS g m S H' := by
  have x : Ex0 m H m H' := ⟨rfl, List.prefix_rfl, fun b o e i => keep b o e (.inl i)⟩
  refine ⟨rs.K, rs.len, rs.lim, rs.inj, fun n o h => ?_, rs.all, fun b fs h => (by rw [hx] at h; cases h), rs.he⟩
  obtain ⟨a, h1, h2⟩ := rs.obj n o h
  exact ⟨a, h1, RO.mono0 x (fun v hv => keep a v hv (.inr (List.mem_of_getElem? h1))) h2⟩
section
variable {O : Own} {q q1 : Wk} {ip : List (Addr × PySem.Obj)} {gl : List (Nat × GenState)} {σ : St} {m : Mp} {H : Hp} {s : Shared}
end
end G
set_option Elab.async false
set_option linter.all false
set_option maxRecDepth 100000
/-! a dict that is walked by its keys is frozen meanwhile; it may be asked -/
namespace G
open PySem PySem.Spec L2
open PyProof.Rows hiding St
section
variable {X : Cx} {g : Gx} {o : Orc} {W : WX} {pins : List (Addr × PySem.Obj)} {s : Shared} {σ : St} {ρ : G.Env} {m : Mp} {H H' : Hp} {S : Store} {pos : Pos}
end
/-! ### the keys of a frozen dict -/
section
variable {P : Program} {w : World} {K : PySem.W.Frag} {d : Addr} {ob : PySem.Obj} {es : Array DictEntry} {ep : Nat} {xs : List (V × V)}
end
section
variable {X : Cx} {g : Gx} {o : Orc} {W : WX}
end
section
variable {X : Cx} {g : Gx} {o : Orc} {W : WX} {m : Mp} {H H' : Hp} {a : Addr}
end
end G
set_option Elab.async false
set_option linter.all false
set_option maxRecDepth 100000
/-! calls with keywords, and with defaults -/
namespace G
open PySem PySem.Spec L2
open PyProof.Rows hiding St
section
variable {X : Cx} {g : Gx} {o : Orc} {W : WX} {t : Tb} {F : Ft} {nf n : Nat} {pins : List (Addr × PySem.Obj)} {s : Shared} {σ : St} {ρ : G.Env} {m : Mp} {H : Hp} {S : Store} {pos p p2 : Pos} {x y : Str} {es : List PySem.Expr} {e : PySem.Expr} {cs ck : G.EL} {kws : List Keyword}
/-! ### keywords -/
end
section
variable {K : PySem.W.Frag} {x qual : Str} {params : Arguments} {body : List Stmt} {scope : Scope} {kws : List (Str × V)} {f : Addr} {fd : FuncData} {ps : List Str}
end
end G
set_option Elab.async false
set_option linter.all false
set_option maxRecDepth 100000
/-! repr of None, truths, tuples and lists -/
namespace G
open PySem PySem.Spec L2
open PyProof.Rows hiding St
mutual
/-- what repr can be worked out of -/
def shOk (S : Store) : Nat → Val → Bool
  | 0, _ => false
  | k + 1, x => match x with
    | .none => true
    | .bool _ => true
    | .int i => Nat.blt i.natAbs.log2 1920
    | .str _ => true
    | .tup a => a.all (shOk S k)
    | .ref a => match isList (S.get a) with
      | some xs => xs.all (shOk S k)
      | .none => false
    | _ => false
end
/-- repr -/
def bReprN : Bi := fun o vs S => match vs with
  | [.none] => strR (Str.ofString "None").cps.toList S
  | [.bool b] => strR (Str.ofString (if b then "True" else "False")).cps.toList S
  | [.tup a] => match dOk S 30 (.tup a) && shOk S 30 (.tup a) with
    | true => strR (dat S 30 (.tup a)).shown.cps.toList S
    | false => .stuck 173
  | [.ref n] => match dOk S 30 (.ref n) && shOk S 30 (.ref n) with
    | true => strR (dat S 30 (.ref n)).shown.cps.toList S
    | false => .stuck 173
  | vs => bRepr o vs S
section
variable {X : Cx} {g : Gx} {o : Orc} {W : WX} {pins : List (Addr × PySem.Obj)} {s : Shared} {σ : St} {ρ : G.Env} {m : Mp} {H : Hp} {S : Store}
theorem showable_dat (S : Store) : ∀ (k : Nat) (v : Val), shOk S k v = true → (dat S k v).showable = true ∧ (dat S k v).hasDict = false
  | 0, v, h => by cases h
  | k + 1, v, h => by
    have all : ∀ (vs : List Val), vs.all (shOk S k) = true → PyData.showableAll (vs.map (dat S k)) = true ∧ PyData.hasDictAll (vs.map (dat S k)) = false := by
      intro vs
      induction vs with
      | nil => intro _; exact ⟨rfl, rfl⟩
      | cons v vs ih =>
        intro h
        obtain ⟨h1, h2⟩ := Bool.and_eq_true_iff.mp h
        obtain ⟨a1, a2⟩ := showable_dat S k v h1
        obtain ⟨b1, b2⟩ := ih h2
        exact ⟨Bool.and_eq_true_iff.mpr ⟨a1, b1⟩, Bool.or_eq_false_iff.mpr ⟨a2, b2⟩⟩
    cases v with
    | none => exact ⟨rfl, rfl⟩
    | bool b => exact ⟨rfl, rfl⟩
    | int i =>
      have h' : Nat.blt i.natAbs.log2 1920 = true := h
      exact ⟨decide_eq_true (by simpa [Nat.blt_eq] using h'), rfl⟩
    | str s => exact ⟨rfl, rfl⟩
    | tup a => exact all a h
    | ref n =>
      have h' : (match isList (S.get n) with | some xs => xs.all (shOk S k) | .none => false) = true := h
      show (match isList (S.get n) with | some xs => PyData.list (xs.map (dat S k)) | .none => .none).showable = true ∧ (match isList (S.get n) with | some xs => PyData.list (xs.map (dat S k)) | .none => .none).hasDict = false
      cases e : isList (S.get n) with
      | none => exact ⟨rfl, rfl⟩
      | some xs => rw [e] at h'; exact all xs h'
    | scr _ => cases h
    | err => cases h
theorem call_repr_dat (hg : X.A.guards = some []) (hu : X.A.units + 80 < cLine) : CallR X (.builtin "repr") (fun xs H Q => ∃ a d, xs = [.ref a] ∧ Dp X.K H (.ref a) d ∧ d.showable = true ∧ d.hasDict = false ∧ d.depth ≤ 40 ∧ d.shown.length ≤ sizeLine ∧ Q (.str d.shown) H) := by
  intro pins s σ H xs us Q I r h
  obtain ⟨a, d, rfl, hd, h1, h2, h3, h4, q⟩ := h
  obtain ⟨u, rfl, t⟩ := vals1 r
  cases t
  obtain ⟨as, rd⟩ := Dp.reads I d _ _ hd rfl
  exact PySem.repr_of_reads' rd h1 (fun z => by rw [h2] at z; cases z) hg (by omega) (fun _ _ e => e) (fun h' u tk hk => ⟨.str _, H, I.kept hk, ⟨_, rfl⟩, q⟩) h4
theorem call_repr_none : CallR X (.builtin "repr") (fun xs H Q => xs = [.non] ∧ Q (.str "None") H) := by
  intro pins s σ H xs us Q I r h
  obtain ⟨rfl, q⟩ := h
  obtain ⟨u, rfl, t⟩ := vals1 r
  cases t
  exact PySem.P.repr_of_none ⟨.str _, H, I.tok _, ⟨_, rfl⟩, q⟩
theorem call_repr_bool : CallR X (.builtin "repr") (fun xs H Q => ∃ b, xs = [.bl b] ∧ Q (.str (if b then "True" else "False")) H) := by
  intro pins s σ H xs us Q I r h
  obtain ⟨b, rfl, q⟩ := h
  obtain ⟨u, rfl, t⟩ := vals1 r
  cases t
  exact PySem.P.repr_of_bool ⟨.str _, H, I.tok _, ⟨_, rfl⟩, by cases b <;> exact q⟩
theorem b_reprN (hK : g.K = X.K) (hg : X.A.guards = some []) (hu : X.A.units + 80 < cLine) : CallR X (.builtin "repr") (BiR g o bReprN) :=
  CallR.imp (CallR.or (b_repr (g := g) (o := o)) (CallR.or (call_repr_dat hg hu) (CallR.or call_repr_none call_repr_bool))) fun xs H Q ⟨m, vs, S, E, rv, rs, pp⟩ => by
    cases rv with
    | nil => exact .inl ⟨m, [], S, E, .nil, rs, pp⟩
    | @cons v x vs xs r rr =>
      cases rr with
      | cons r2 rr => exact .inl ⟨m, _, S, E, .cons r (.cons r2 rr), rs, by cases v <;> exact pp⟩
      | nil =>
        have dt : ∀ a, x = .ref a → PostG g RV m H Q E (match dOk S 30 v && shOk S 30 v with | true => strR (dat S 30 v).shown.cps.toList S | false => .stuck 173) → (∃ a d, [x] = [V.ref a] ∧ Dp X.K H (.ref a) d ∧ d.showable = true ∧ d.hasDict = false ∧ d.depth ≤ 40 ∧ d.shown.length ≤ sizeLine ∧ Q (.str d.shown) H) := fun a e pp => by
          subst e
          cases e : (dOk S 30 v && shOk S 30 v) with
          | false => rw [e] at pp; exact pp.elim
          | true =>
            rw [e] at pp
            obtain ⟨h1, h2⟩ := Bool.and_eq_true_iff.mp e
            obtain ⟨h3, h4⟩ := showable_dat S 30 v h2
            obtain ⟨h5, h6⟩ := strR_ok rs pp
            exact ⟨a, _, rfl, dat_ok rs 30 v _ h1 r, h3, h4, Nat.le_trans (dat_depth S 30 v) (by decide), by simpa [PySem.Str.length] using h5.1, h6⟩
        cases r with
        | none => exact .inr (.inr (.inl ⟨rfl, (strR_ok rs pp).2⟩))
        | bool b =>
          have q := (strR_ok rs pp).2
          exact .inr (.inr (.inr ⟨b, rfl, by cases b <;> exact q⟩))
        | int i => exact .inl ⟨m, [.int i], S, E, .cons (.int i) .nil, rs, pp⟩
        | str hs => exact .inl ⟨m, [.str _], S, E, .cons (.str hs) .nil, rs, pp⟩
        | tup ha r => exact .inr (.inl (dt _ rfl pp))
        | ref hm => exact .inr (.inl (dt _ rfl pp))
        | scr h => exact .inl ⟨m, [.scr _], S, E, .cons (.scr h) .nil, rs, pp⟩
end
end G
set_option Elab.async false
set_option linter.all false
set_option maxRecDepth 100000
/-! dict(l), l a list of pairs whose keys are ints or texts -/
namespace G
open PySem PySem.Spec L2
open PyProof.Rows hiding St
def pairsA : List Val → Option (List (Val × Val))
  | [] => some []
  | v :: r => match v with
    | .tup vs => match vs with
      | k :: t => match t with
        | x :: u => match u with
          | [] => match isA k with
            | true => match pairsA r with
              | some l => some ((k, x) :: l)
              | .none => .none
            | false => .none
          | _ :: _ => .none
        | [] => .none
      | [] => .none
    | _ => .none
/-- dict of a list of pairs -/
def bDictA : Bi := fun _ vs S => match vs with
  | [.ref n] => match isList (S.get n) with
    | some l => match pairsA l with
      | some kvs => match Nat.ble kvs.length maxLen with
        | true => alloc (.dct (putAllD [] kvs)) S
        | false => .stuck 131
      | .none => .stuck 131
    | .none => .stuck 132
  | _ => .stuck 132
section
variable {X : Cx} {g : Gx} {o : Orc} {W : WX} {pins : List (Addr × PySem.Obj)} {s : Shared} {σ : St} {m : Mp} {H : Hp} {S : Store}
end
end G
set_option Elab.async false
set_option linter.all false
set_option maxRecDepth 100000
/-! a dict display of one pair -/
namespace G
open PySem PySem.Spec L2
open PyProof.Rows hiding St
section
variable {X : Cx} {g : Gx} {o : Orc} {W : WX} {ke ve : PySem.Expr} {pos : Pos} {ck cv : G.E}
/-- {ke: ve} -/
theorem m_dict1 (hP : g.P = X.prog) (hw : g.w = X.w) (hu : X.A.units + 64 < cLine) (hk : PE X ke (tM g o Wno ck)) (hv : PE X ve (tM g o Wno cv)) : PE X (.Dict [some ke] [ve] pos) (tM g o W (eDcD (cEltD ck cv))) := by
  refine ⟨fun pins s0 σ H0 Q I0 ⟨m, ρ, S, re, rs, p⟩ => ?_⟩
  refine wpAny_Dict_any rfl rfl (by simp) (by show 1 ≤ 15; decide) ?_
  generalize eD : s0.heap.objs.size = D
  have freeD : H0 D = .none := I0.hok.fresh (Nat.le_of_eq eD)
  have Ib : Inv X pins σ (upd H0 D (dO D #[])) ({ s0 with heap := s0.heap.push { cls := .type "dict", data := .dict #[] } } : Shared) := by
    refine I0.laid (t' := s0.toks) (fun b u e => Heap.get?_push_of_some _ e) (Nat.le_of_eq eD) ?_
    rw [← eD]
    exact dO_ok (beq_eq_false_iff_ne.mpr (Ne.symm (Nat.ne_of_lt I0.big))) (Heap.get?_push_size _ rfl) ⟨rfl, rfl, rfl⟩ rfl
  have x0 : Ex m H0 m (upd H0 D (dO D #[])) := Ex.upd freeD
  have l : LdI g m H0 D m S (upd H0 D (dO D #[])) (0, []) := ⟨x0, rs.upd freeD, rs.notIn freeD, freeD, ⟨[], #[], rfl, Nat.zero_le _, upd_same, .tup [] rfl List.nodup_nil .nil⟩⟩
  have pc : PostC (LdI g m H0 D) m (upd H0 D (dO D #[])) (fun H => Q (.ref D) H) (cEltD ck cv o ρ (0, []) S) := by
    have p2 : PostG g RV m H0 Q (atS W σ) ((noExc (cEltD ck cv o ρ (0, []) S)).bind fun acc S => alloc (.dct (ofE acc.2)) S) := p
    revert p2
    cases cEltD ck cv o ρ (0, []) S with
    | ok acc S2 => exact fun p3 m2 H2 x2 l2 => l2.fin p3
    | exc c fs S2 => exact fun p3 => p3.elim
    | stuck w => exact fun p3 => p3.elim
  have b := col_dct hP hw hu m _ ρ σ S (0, []) (fun H => Q (.ref D) H) l (re.mono x0) pc
  refine pairTrees_cons_walk (thn (hk.run _ _ σ _ _ Ib b) fun ku si ⟨ky, Hi, Ii, rk, afterK⟩ => thn (hv.run _ si σ Hi _ Ii afterK) fun vu sj ⟨vy, Hj, Ij, rv, ds⟩ => pairTrees_nil_walk ?_)
  unfold storeAll
  rw [List.forIn_cons]
  refine wpAny_bind (wpAny_bind ?_)
  exact ds X _ sj σ ku vu _ _ rfl rfl rfl Ij rk rv fun s' H' I' nx => wpAny_pure (by
    show wpAny (model X.prog X.w) X.A (forIn ([] : List (Value × Value)) PUnit.unit _) _ X.xe s'
    rw [List.forIn_nil]
    exact wpAny_pure ⟨.ref D, H', I', rfl, nx⟩)
end
end G
set_option Elab.async false
set_option linter.all false
set_option maxRecDepth 100000
/-! pop(i), insert -/
namespace G
open PySem PySem.Spec L2
open PyProof.Rows hiding St
def mPopI : Bm := fun _ x vs S => match x with
  | .ref n => match vs with
    | [.int i] => match S.get n with
      | some (.lst xs) => match smallI i && !intLt i 0 with
        | true => match xs[i.toNat]? with
          | some v => .ok v (S.put n (.lst (xs.eraseIdx i.toNat)))
          | .none => .stuck 143
        | false => .stuck 143
      | _ => .stuck 143
    | _ => .stuck 144
  | _ => .stuck 144
def mInsI : Bm := fun _ x vs S => match x with
  | .ref n => match vs with
    | [.int i, v] => match S.get n with
      | some (.lst xs) => match smallI i && (!intLt i 0 && Nat.blt xs.length maxLen) with
        | true => .ok .none (S.put n (.lst (xs.take i.toNat ++ [v] ++ xs.drop i.toNat)))
        | false => .stuck 147
      | _ => .stuck 147
    | _ => .stuck 148
  | _ => .stuck 148
section
variable {X : Cx} {g : Gx} {o : Orc} {W : WX} {pins : List (Addr × PySem.Obj)} {s : Shared} {σ : St} {ρ : G.Env} {m : Mp} {H : Hp} {S : Store} {pos p apos : Pos}
end
end G
set_option Elab.async false
set_option linter.all false
set_option maxRecDepth 100000
/-! repr of {} too -/
namespace G
open PySem PySem.Spec L2
open PyProof.Rows hiding St
section
variable {X : Cx} {g : Gx} {o : Orc} {W : WX} {pins : List (Addr × PySem.Obj)} {s : Shared} {σ : St} {ρ : G.Env} {m : Mp} {H : Hp} {S : Store}
theorem Rn.u80 {t : Tb} {F : Ft} {nf n : Nat} (R : Rn X g o t F nf n W) : X.A.units + 80 < cLine := by have := R.room.un; omega
end
end G
set_option Elab.async false
set_option linter.all false
set_option maxRecDepth 100000
/-! == of a shallow value and one of any depth -/
namespace G
open PySem PySem.Spec L2
open PyProof.Rows hiding St
section
variable {X : Cx} {g : Gx} {o : Orc} {W : WX} {pins : List (Addr × PySem.Obj)} {s : Shared} {σ : St} {ρ : G.Env} {m : Mp} {H : Hp} {S : Store}
end
end G
set_option Elab.async false
set_option linter.all false
set_option maxRecDepth 100000
/-! sorted(..) of texts; sorted(d) by a dict's keys that are texts -/
section
open PySem PySem.W PySem.Calls PyProof.Rows PyProof.V PySem.Spec
end
namespace G
open PySem PySem.Spec L2
open PyProof.Rows hiding St
open PySem.W (alike alikeAll dataLt keyToks keyToksAll dataLe AllAlike Sortable EachIs)
section
variable {X : Cx} {g : Gx} {o : Orc}
end
end G
set_option Elab.async false
set_option linter.all false
set_option maxRecDepth 100000
/-! sorted(set(l)), l a list of ints -/
section
open PySem PySem.Spec PyProof.Rows L2
end
namespace G
open PySem PySem.Spec L2
open PyProof.Rows hiding St
section
variable {X : Cx} {g : Gx} {o : Orc} {W : WX} {e : PySem.Expr} {cs : EL}
end
end G
set_option Elab.async false
set_option linter.all false
set_option maxRecDepth 100000
/-! repr of values that hold dicts -/
namespace G
open PySem PySem.Spec L2
open PyProof.Rows hiding St
def okD (S : Store) : Nat → Val → Bool
  | 0, _ => false
  | k + 1, x => match x with
    | .none => true
    | .bool _ => true
    | .int _ => true
    | .str _ => true
    | .tup a => a.all (okD S k)
    | .ref n => match S.get n with
      | some (.lst xs) => xs.all (okD S k)
      | some (.dct kvs) => kvs.all fun p => okD S k p.1 && okD S k p.2
      | _ => false
    | _ => false
def datD (S : Store) : Nat → Val → PyData
  | 0, _ => .none
  | k + 1, x => match x with
    | .bool b => .bool b
    | .int i => .int i
    | .str s => .str ⟨s.toArray⟩
    | .tup a => .tuple (a.map (datD S k))
    | .ref n => match S.get n with
      | some (.lst xs) => .list (xs.map (datD S k))
      | some (.dct kvs) => .dict (kvs.map fun p => (datD S k p.1, datD S k p.2))
      | _ => .none
    | _ => .none
def dsp (S : Store) (v : Val) : R Val := match okD S 70 v && (datD S 70 v).showable with
  | true => strR (datD S 70 v).shown.cps.toList S
  | false => .stuck 174
def bReprD : Bi := fun o vs S => match vs with
  | [.tup a] => dsp S (.tup a)
  | [.ref n] => dsp S (.ref n)
  | vs => bReprN o vs S
/-- sys.modules stands in the written part -/
def SmOk (K : PySem.W.Frag) : Prop := ∃ o, K.lookup sysModules = some o
def smB (K : PySem.W.Frag) : Bool := (K.lookup sysModules).isSome
theorem smB_ok {K : PySem.W.Frag} (h : smB K = true) : SmOk K := Option.isSome_iff_exists.mp h
section
variable {X : Cx} {g : Gx} {o : Orc} {W : WX} {pins : List (Addr × PySem.Obj)} {s : Shared} {σ : St} {ρ : G.Env} {m : Mp} {H : Hp} {S : Store}
theorem SmOk.free (I : Inv X pins σ H s) (h : SmOk X.K) : H sysModules = none := by
  obtain ⟨o, e⟩ := h
  exact (I.bs _ o (I.mod.kin _ _ e)).2
theorem readsD (I : Inv X pins σ H s) (sm : H sysModules = none) (rs : RS g m S H) : ∀ (k : Nat) (v : Val) (x : V) (u : Value), okD S k v = true → RV m H v x → RelV x u → ∃ as, Reads s.heap u (datD S k v) as ∧ sysModules ∉ as
  | 0, v, x, u, h, _, _ => by cases h
  | k + 1, v, x, u, h, r, ru => by
    have all : ∀ (vs : List Val) (xs : List V) (us : List Value), vs.all (okD S k) = true → RVs m H vs xs → Vals xs us → ∃ as, ReadsAll s.heap us (vs.map (datD S k)) as ∧ sysModules ∉ as := by
      intro vs
      induction vs with
      | nil => intro xs us _ r ru; cases r; cases ru; exact ⟨_, .nil, by simp⟩
      | cons v vs ih =>
        intro xs us h r ru
        cases r with
        | cons r1 r2 =>
          cases ru with
          | cons u1 u2 =>
            obtain ⟨h1, h2⟩ := Bool.and_eq_true_iff.mp h
            obtain ⟨as, a1, a2⟩ := readsD I sm rs k v _ _ h1 r1 u1
            obtain ⟨bs, b1, b2⟩ := ih _ _ h2 r2 u2
            exact ⟨_, .cons a1 b1, fun q => (List.mem_append.mp q).elim a2 b2⟩
    have pairs : ∀ (kvs : List (Val × Val)) (el : List DictEntry), Paired (fun (kv : Val × Val) (e : DictEntry) => (∃ x, RV m H kv.1 x ∧ RelV x e.key) ∧ RU m H kv.2 e.val) kvs el → kvs.all (fun p => okD S k p.1 && okD S k p.2) = true → ∃ as bs, ReadsAll s.heap (el.map (·.key)) (kvs.map fun p => datD S k p.1) as ∧ ReadsAll s.heap (el.map (·.val)) (kvs.map fun p => datD S k p.2) bs ∧ sysModules ∉ as ∧ sysModules ∉ bs := by
      intro kvs el de
      induction de with
      | nil => intro _; exact ⟨_, _, .nil, .nil, by simp, by simp⟩
      | @cons kv en kvs el q hr ih =>
        intro h'
        obtain ⟨⟨x, q1, q2⟩, y, q3, q4⟩ := q
        obtain ⟨h1, h2⟩ := Bool.and_eq_true_iff.mp h'
        obtain ⟨h3, h4⟩ := Bool.and_eq_true_iff.mp h1
        obtain ⟨as, a1, a2⟩ := readsD I sm rs k kv.1 _ _ h3 q1 q2
        obtain ⟨bs, b1, b2⟩ := readsD I sm rs k kv.2 _ _ h4 q3 q4
        obtain ⟨cs, ds, c1, c2, c3, c4⟩ := ih h2
        exact ⟨_, _, .cons a1 c1, .cons b1 c2, fun q => (List.mem_append.mp q).elim a2 c3, fun q => (List.mem_append.mp q).elim b2 c4⟩
    cases r with
    | none => cases ru; exact ⟨_, .none, by simp⟩
    | bool b => cases ru; exact ⟨_, .bool b, by simp⟩
    | int i => obtain ⟨t, rfl⟩ := ru; exact ⟨_, .int i t, by simp⟩
    | str hs => obtain ⟨t, rfl⟩ := ru; exact ⟨_, .str _ t, by simp⟩
    | tup ha r =>
      cases ru
      obtain ⟨its, rv, ⟨o, ho, hc, n, hd⟩, _⟩ := I.tuple (SqT.of ha)
      obtain ⟨as, a1, a2⟩ := all _ _ _ h r rv
      exact ⟨_, .tuple ho hc hd a1, a2⟩
    | scr _ => cases h
    | @ref n a hm =>
      cases ru
      have h' : (match S.get n with | some (.lst xs) => xs.all (okD S k) | some (.dct kvs) => kvs.all (fun p => okD S k p.1 && okD S k p.2) | _ => false) = true := h
      show ∃ as, Reads s.heap (.ref a) (match S.get n with | some (.lst xs) => .list (xs.map (datD S k)) | some (.dct kvs) => .dict (kvs.map fun p => (datD S k p.1, datD S k p.2)) | _ => .none) as ∧ sysModules ∉ as
      cases e : S.get n with
      | none => rw [e] at h'; cases h'
      | some ob =>
        rw [e] at h'
        obtain ⟨a', hm', ro⟩ := rs.obj n ob e
        have ea : a' = a := Option.some.inj (hm'.symm.trans hm)
        subst ea
        have ne : ∀ {o : HO}, H a' = some o → sysModules ≠ a' := fun e q => by rw [← q, sm] at e; cases e
        cases ob with
        | lst xs =>
          obtain ⟨ys, hy, r⟩ := ro
          obtain ⟨its, rv, ⟨o, n, ho, hc, _, hd⟩, _⟩ := I.list (.inl (.inl hy))
          obtain ⟨as, a1, a2⟩ := all _ _ _ h' r rv
          exact ⟨_, .list ho hc hd a1, fun q => (List.mem_cons.mp q).elim (ne hy) a2⟩
        | dct kvs =>
          obtain ⟨hlen, es, hy, dr⟩ := ro
          obtain ⟨hs, ob, ep, k1, k2, k3⟩ := dO_at I hy
          obtain ⟨as, bs, p1, p2, p3, p4⟩ := pairs _ _ (dr_each dr) h'
          refine ⟨a' :: as ++ bs, Reads.dict k1 k2.1 k3 (by rw [List.map_map]; exact p1) (by rw [List.map_map]; exact p2), fun q => ?_⟩
          rcases List.mem_append.mp q with q | q
          · exact (List.mem_cons.mp q).elim (ne hy) p3
          · exact p4 q
        | _ => cases h'
theorem datD_depth (S : Store) : ∀ (k : Nat) (v : Val), (datD S k v).depth ≤ k
  | 0, v => Nat.zero_le _
  | k + 1, v => by
    have all : ∀ (vs : List Val), PyData.depthAll (vs.map (datD S k)) ≤ k := by
      intro vs
      induction vs with
      | nil => exact Nat.zero_le _
      | cons v vs ih => exact Nat.max_le.mpr ⟨datD_depth S k v, ih⟩
    have kvd : ∀ (kvs : List (Val × Val)), PyData.depthKv (kvs.map fun p => (datD S k p.1, datD S k p.2)) ≤ k := by
      intro kvs
      induction kvs with
      | nil => exact Nat.zero_le _
      | cons v vs ih => exact Nat.max_le.mpr ⟨Nat.max_le.mpr ⟨datD_depth S k v.1, datD_depth S k v.2⟩, ih⟩
    cases v with
    | tup a => exact Nat.succ_le_succ (all a)
    | ref n =>
      show (match S.get n with | some (.lst xs) => PyData.list (xs.map (datD S k)) | some (.dct kvs) => PyData.dict (kvs.map fun (p : Val × Val) => (datD S k p.1, datD S k p.2)) | _ => PyData.none).depth ≤ _
      cases S.get n with
      | none => exact Nat.zero_le _
      | some o =>
        cases o with
        | lst xs => exact Nat.succ_le_succ (all xs)
        | dct kvs => exact Nat.succ_le_succ (kvd kvs)
        | _ => exact Nat.zero_le _
    | _ => exact Nat.zero_le _
theorem call_repr_dsp (hsm : SmOk X.K) (hg : X.A.guards = some []) (hu : X.A.units + 80 < cLine) : CallR X (.builtin "repr") (fun xs H Q => ∃ (g : Gx) (m : Mp) (S : Store) (v : Val) (a : Addr), RS g m S H ∧ RV m H v (.ref a) ∧ xs = [.ref a] ∧ okD S 70 v = true ∧ (datD S 70 v).showable = true ∧ (datD S 70 v).shown.length ≤ sizeLine ∧ Q (.str (datD S 70 v).shown) H) := by
  intro pins s σ H xs us Q I r h
  obtain ⟨g, m, S, v, a, rs, rv, rfl, h1, h2, h3, q⟩ := h
  obtain ⟨u, rfl, t⟩ := vals1 r
  cases t
  obtain ⟨as, rd, hno⟩ := readsD I (hsm.free I) rs 70 v _ _ h1 rv rfl
  have := datD_depth S 70 v
  exact PySem.repr_of_reads' rd h2 (fun _ => hno) hg (by omega) (fun _ _ e => e) (fun h' u tk hk => ⟨.str _, H, I.kept hk, ⟨_, rfl⟩, q⟩) h3
theorem b_reprD (hsm : SmOk X.K) (hK : g.K = X.K) (hg : X.A.guards = some []) (hu : X.A.units + 80 < cLine) : CallR X (.builtin "repr") (BiR g o bReprD) :=
  CallR.imp (CallR.or (b_reprN (o := o) hK hg hu) (call_repr_dsp hsm hg hu)) fun xs H Q ⟨m, vs, S, E, rv, rs, pp⟩ => by
    have sp : ∀ (v : Val) (a : Addr), RV m H v (.ref a) → PostG g RV m H Q E (dsp S v) → ∃ (g : Gx) (m : Mp) (S : Store) (v : Val) (b : Addr), RS g m S H ∧ RV m H v (.ref b) ∧ [V.ref a] = [.ref b] ∧ okD S 70 v = true ∧ (datD S 70 v).showable = true ∧ (datD S 70 v).shown.length ≤ sizeLine ∧ Q (.str (datD S 70 v).shown) H := fun v a r pp => by
      unfold dsp at pp
      cases e : (okD S 70 v && (datD S 70 v).showable) with
      | false => rw [e] at pp; exact pp.elim
      | true =>
        rw [e] at pp
        obtain ⟨h1, h2⟩ := Bool.and_eq_true_iff.mp e
        obtain ⟨h5, h6⟩ := strR_ok rs pp
        exact ⟨g, m, S, v, a, rs, r, rfl, h1, h2, by simpa [PySem.Str.length] using h5.1, h6⟩
    cases rv with
    | nil => exact .inl ⟨m, [], S, E, .nil, rs, pp⟩
    | @cons v x vs xs r rr =>
      cases rr with
      | cons r2 rr => exact .inl ⟨m, _, S, E, .cons r (.cons r2 rr), rs, by cases v <;> exact pp⟩
      | nil =>
        cases r with
        | tup ha r => exact .inr (sp _ _ (.tup ha r) pp)
        | ref hm => exact .inr (sp _ _ (.ref hm) pp)
        | none => exact .inl ⟨m, [.none], S, E, .cons .none .nil, rs, pp⟩
        | bool b => exact .inl ⟨m, [.bool b], S, E, .cons (.bool b) .nil, rs, pp⟩
        | int i => exact .inl ⟨m, [.int i], S, E, .cons (.int i) .nil, rs, pp⟩
        | str hs => exact .inl ⟨m, [.str _], S, E, .cons (.str hs) .nil, rs, pp⟩
        | scr h => exact .inl ⟨m, [.scr _], S, E, .cons (.scr h) .nil, rs, pp⟩
theorem Rn.reprD {t : Tb} {F : Ft} {nf n : Nat} (R : Rn X g o t F nf n W) (hsm : SmOk X.K) : CallR X (.builtin "repr") (BiR g o bReprD) := b_reprD hsm R.K R.room.gd R.u80
end
/-! ### the head's facts, sys.modules too -/
def obsXGm (n : Nat) (ck : PySem.W.Frag → Bool) (fn : List He.DefD) (f : Addr → Option PySem.Obj) : He.AlD := obsX ck fn (He.frG f (sysModules :: He.asD f n))
def hookXm (n : Nat) (ck : PySem.W.Frag → Bool) (fn : List He.DefD) : PySem.W.Hook where
  α := He.AlD
  obs := fun s => obsXGm n ck fn s.heap.get?
  val := fun _ => He.valD fn
  says := fun _ h => ∃ K : PySem.W.Frag, K.In h ∧ SaysX ck fn K
  of := fun _ _ e => ⟨_, He.frG_in, e⟩
  keeps := fun _ _ _ ⟨K, hK, c⟩ k => ⟨K, PySem.W.Frag.In.keeps hK k, c⟩
theorem obsXGm_eq {n : Nat} {ck : PySem.W.Frag → Bool} {fn : List He.DefD} {f : Addr → Option PySem.Obj} {s : Shared} (h : ∀ a, f a = s.heap.get? a) : obsXGm n ck fn f = (hookXm n ck fn).obs s := by
  have e : f = s.heap.get? := funext h
  rw [e] <;> rfl
end G
set_option Elab.async false
set_option linter.all false
set_option maxRecDepth 100000
/-! a list of anything == [] -/
namespace G
open PySem PySem.Spec L2
open PyProof.Rows hiding St
def oEqE : Op2 := fun _ x y S => match x, y with
  | .ref a, .ref b => match S.get a, S.get b with
    | some (.lst xs), some (.lst []) => .ok (.bool xs.isEmpty) S
    | _, _ => .stuck 31
  | _, _ => .stuck 31
section
variable {X : Cx} {g : Gx} {o : Orc} {W : WX} {pins : List (Addr × PySem.Obj)} {s : Shared} {σ : St} {ρ : G.Env} {m : Mp} {H : Hp} {S : Store}
def rEqE (K : PySem.W.Frag) : R2 := fun x y H Q => ∃ a b xs, x = .ref a ∧ y = .ref b ∧ SqL K H a xs ∧ SqL K H b [] ∧ Q (.bl xs.isEmpty) H
theorem op_eqE (hu : X.A.units < cLine) : OpR X (compareOp .Eq) (rEqE X.K) := by
  intro pins s σ H x y v u Q I rx ry h
  obtain ⟨a, b, xs, rfl, rfl, h1, h2, q⟩ := h
  cases rx
  cases ry
  obtain ⟨its, rv, ⟨o, n, ho, hc, _, hd⟩, _⟩ := I.list h1
  obtain ⟨its2, rv2, ⟨o2, n2, ho2, hc2, _, hd2⟩, _⟩ := I.list h2
  cases rv2
  have hl : s.heap.IsList a its.toArray := ⟨_, ho, hc, _, hd⟩
  have hl2 : s.heap.IsList b #[] := ⟨_, ho2, hc2, _, hd2⟩
  cases rv with
  | nil =>
    exact SeqAt.RcAt.lists (e := fun _ => true) hl hl2 rfl hu (fun j h1 => absurd h1 (by simp)) _ _ _ _ ⟨.bl _, H, I, rfl, q⟩
  | cons r1 r2 =>
    exact SeqAt.RcAt.lists_lengths hl hl2 (by simp) hu _ _ _ _ ⟨.bl _, H, I, rfl, q⟩
theorem o_eqE (hu : X.A.units < cLine) : OpS X g o W oEqE (compareOp .Eq) := OpS.of (op_eqE hu) fun {σ H m S v w x y Q} rv rw_ rs p => by
  unfold oEqE at p
  cases rv with
  | @ref n a hm =>
    cases rw_ with
    | @ref n2 b hm2 =>
      cases e1 : S.get n with
      | none => simp only [e1] at p; exact p.elim
      | some o1 =>
        cases e2 : S.get n2 with
        | none => simp only [e1, e2] at p; cases o1 <;> exact p.elim
        | some o2 =>
          simp only [e1, e2] at p
          cases o1 with
          | lst xs =>
            cases o2 with
            | lst ys =>
              cases ys with
              | nil =>
                obtain ⟨a', k1, ys, k2, k3⟩ := rs.obj n _ e1
                obtain ⟨b', j1, zs, j2, j3⟩ := rs.obj n2 _ e2
                cases hm.symm.trans k1
                cases hm2.symm.trans j1
                cases j3
                refine ⟨a, b, ys, rfl, rfl, .inl (.inl k2), .inl (.inl j2), ?_⟩
                have : ys.isEmpty = xs.isEmpty := by cases k3 <;> rfl
                rw [this]
                exact p m H _ Ex.rfl' rs (RV.bool _)
              | cons _ _ => exact p.elim
            | _ => exact p.elim
          | _ => cases o2 <;> exact p.elim
    | _ => exact p.elim
  | _ => exact p.elim
end
end G
set_option Elab.async false
set_option linter.all false
set_option maxRecDepth 100000
set_option maxHeartbeats 0
namespace L01
open G
/-- is_name -/
def c_0 : C := cSeq (sRet (eAnd (eIsI (eVar 0) aStr) (eAnd (eChain oLe oLe (eC (.int 1)) (eB bLen (elCons (eVar 0) (elNil))) (eC (.int 8))) (eB bAll (elCons (eLc (cFor [1] (tName 1) (iVal (eVar 0)) (cElt (eOp oIn (eVar 1) (eC (.str [97, 98, 99, 100, 101, 102, 103, 104, 105, 106, 107, 108, 109, 110, 111, 112, 113, 114, 115, 116, 117, 118, 119, 120, 121, 122])))))) (elNil)))))) (cNil)
/-- is_tree -/
def c_1 : C := cSeq (sIf (eOr (eNot (eIsI (eVar 0) aTup)) (eOr (eNot (eChain oLe oLe (eC (.int 1)) (eB bLen (elCons (eVar 0) (elNil))) (eOp oAdd (eC (.int 4)) (eC (.int 1))))) (eNot (eCallP 0 (elCons (eOp oIx (eVar 0) (eC (.int 0))) (elNil)))))) (cSeq (sRet (eC (.bool false))) (cNil)) (cNil)) (cSeq (sRet (eB bAll (elCons (eLc (cFor [1] (tName 1) (iVal (eSl (eVar 0) (eoSome (eC (.int 1))) (eoNone))) (cElt (eCallP 1 (elCons (eVar 1) (elNil)))))) (elNil)))) (cNil))
/-- _law_feed -/
def c_2 : C := cSeq (sAsg (tName 2) (eOp oIx (eOp oAdd (eB bList (elCons (eSl (eVar 0) (eoSome (eVar 1)) (eoSome (eOp oAdd (eVar 1) (eC (.int 1))))) (elNil))) (eLst (elCons (eOp oAdd (eOp oMul (eC (.int 71)) (eVar 1)) (eC (.int 23))) (elNil)))) (eC (.int 0)))) (cSeq (sAsg (tName 3) (eB bMax2 (elCons (eC (.int 0)) (elCons (eOp oSub (eB bAbs (elCons (eVar 2) (elNil))) (eOp oPow (eC (.int 10)) (eC (.int 18)))) (elNil))))) (cSeq (sRet (eLst (elCons (eVar 3) (elCons (eOp oMod (eB bInt (elCons (eOp oAdd (eOp oAdd (eOp oMul (eOp oMod (eB bInt (elCons (eB bAbs (elCons (eVar 2) (elNil))) (elNil))) (eC (.int 1000003))) (eC (.int 7919))) (eOp oMul (eC (.int 31)) (eVar 1))) (eC (.int 17))) (elNil))) (eC (.int 1000033))) (elNil))))) (cNil)))
/-- _law_take -/
def c_3 : C := cSeq (sIf (eOp oGt (eOp oIx (eVar 0) (eC (.int 0))) (eC (.int 0))) (cSeq (sAsg (tName 2) (eOp oMod (eB bInt (elCons (eOp oIx (eVar 0) (eC (.int 0))) (elNil))) (eVar 1))) (cSeq (sAsg (tSub (eVar 0) (eC (.int 0))) (eOp oDiv (eOp oIx (eVar 0) (eC (.int 0))) (eVar 1))) (cSeq (sRet (eVar 2)) (cNil)))) (cNil)) (cSeq (sAsg (tSub (eVar 0) (eC (.int 1))) (eOp oMod (eB bInt (elCons (eOp oAdd (eOp oMul (eOp oIx (eVar 0) (eC (.int 1))) (eC (.int 69069))) (eC (.int 12345))) (elNil))) (eC (.int 4294967311)))) (cSeq (sRet (eOp oMod (eB bInt (elCons (eOp oDiv (eOp oIx (eVar 0) (eC (.int 1))) (eC (.int 65536))) (elNil))) (eVar 1))) (cNil)))
/-- _law_pick -/
def c_4 : C := cSeq (sRet (eOp oIx (eVar 1) (eCall 3 (elCons (eVar 0) (elCons (eB bLen (elCons (eVar 1) (elNil))) (elNil)))))) (cNil)
/-- _law_names -/
def c_5 : C := cSeq (sAsg (tName 1) (eLst (elCons (eLst (elCons (eC (.str [97])) (elCons (eC (.str [98])) (elCons (eC (.str [99])) (elCons (eC (.str [102])) (elCons (eC (.str [103])) (elCons (eC (.str [104])) (elNil)))))))) (elCons (eLst (elCons (eC (.str [102])) (elCons (eC (.str [103])) (elCons (eC (.str [104])) (elCons (eC (.str [97])) (elCons (eC (.str [98])) (elCons (eC (.str [99])) (elNil)))))))) (elCons (eLst (elCons (eC (.str [97])) (elCons (eC (.str [98])) (elCons (eC (.str [99])) (elCons (eC (.str [97])) (elCons (eC (.str [98])) (elCons (eC (.str [97])) (elNil)))))))) (elNil)))))) (cSeq (sAsg (tName 1) (eOp oAdd (eVar 1) (eLst (elCons (eLst (elCons (eC (.str [108, 101, 97, 102])) (elCons (eC (.str [116, 105, 112])) (elCons (eC (.str [98, 117, 100])) (elCons (eC (.str [116, 119, 105, 103])) (elCons (eC (.str [102, 111, 114, 107])) (elCons (eC (.str [99, 114, 111, 119, 110])) (elNil)))))))) (elCons (eLst (elCons (eC (.str [97, 98, 99, 100, 101, 102, 103, 104])) (elCons (eC (.str [98])) (elCons (eC (.str [97, 98, 99, 100, 101, 102, 103])) (elCons (eC (.str [97, 97])) (elCons (eC (.str [97, 98])) (elCons (eC (.str [98, 97])) (elNil)))))))) (elNil)))))) (cSeq (sRet (eCall 4 (elCons (eVar 0) (elCons (eOp oAdd (eVar 1) (eLst (elCons (eLst (elCons (eC (.str [122])) (elCons (eC (.str [122, 122])) (elCons (eC (.str [121])) (elCons (eC (.str [120])) (elCons (eC (.str [122, 122, 122])) (elCons (eC (.str [119])) (elNil)))))))) (elNil)))) (elNil))))) (cNil)))
/-- _law_grow -/
def c_6 : C := cSeq (sAsg (tName 4) (eCall 3 (elCons (eVar 0) (elCons (eC (.int 4)) (elNil))))) (cSeq (sIf (eOr (eOp oEq (eVar 2) (eC (.int 1))) (eOr (eOp oEq (eVar 3) (eC (.int 1))) (eOp oEq (eVar 4) (eC (.int 0))))) (cSeq (sRet (eTup (elCons (eOp oIx (eVar 1) (eCall 3 (elCons (eVar 0) (elCons (eC (.int 3)) (elNil))))) (elNil)))) (cNil)) (cNil)) (cSeq (sIf (eOr (eOp oEq (eVar 2) (eC (.int 2))) (eOp oEq (eVar 4) (eC (.int 1)))) (cSeq (sRet (eTup (elCons (eOp oIx (eVar 1) (eOp oAdd (eC (.int 3)) (eCall 3 (elCons (eVar 0) (elCons (eC (.int 2)) (elNil)))))) (elCons (eCall 6 (elCons (eVar 0) (elCons (eVar 1) (elCons (eOp oSub (eVar 2) (eC (.int 1))) (elCons (eOp oSub (eVar 3) (eC (.int 1))) (elNil)))))) (elNil))))) (cNil)) (cNil)) (cSeq (sAsg (tName 5) (eOp oAdd (eC (.int 1)) (eCall 3 (elCons (eVar 0) (elCons (eOp oSub (eVar 2) (eC (.int 2))) (elNil)))))) (cSeq (sAsg (tName 6) (eCall 6 (elCons (eVar 0) (elCons (eVar 1) (elCons (eVar 5) (elCons (eOp oSub (eVar 3) (eC (.int 1))) (elNil))))))) (cSeq (sRet (eTup (elCons (eOp oIx (eVar 1) (eC (.int 5))) (elCons (eVar 6) (elCons (eCall 6 (elCons (eVar 0) (elCons (eVar 1) (elCons (eOp oSub (eOp oSub (eVar 2) (eC (.int 1))) (eVar 5)) (elCons (eOp oSub (eVar 3) (eC (.int 1))) (elNil)))))) (elNil)))))) (cNil))))))
/-- _law_tree -/
def c_7 : C := cSeq (sRet (eCall 6 (elCons (eVar 0) (elCons (eVar 1) (elCons (eVar 2) (elCons (eC (.int 6)) (elNil))))))) (cNil)
/-- _law_places -/
def c_8 : C := cSeq (sAsg (tName 1) (eLst (elCons (eTup (elCons (eTup (elNil)) (elCons (eVar 0) (elNil)))) (elNil)))) (cSeq (sFor (tTup 2 (tCons (tName 2) (tCons (tName 3) (tNil)))) (iEnum (eSl (eVar 0) (eoSome (eC (.int 1))) (eoNone))) (cSeq (sAsg (tName 1) (eOp oAdd (eVar 1) (eLc (cFor [4, 5] (tTup 2 (tCons (tName 4) (tCons (tName 5) (tNil)))) (iVal (eCall 8 (elCons (eVar 3) (elNil)))) (cElt (eTup (elCons (eOp oAdd (eTup (elCons (eVar 2) (elNil))) (eVar 4)) (elCons (eVar 5) (elNil))))))))) (cNil))) (cSeq (sRet (eVar 1)) (cNil)))
/-- _law_put -/
def c_9 : C := cSeq (sIf (eOp oEq (eVar 1) (eTup (elNil))) (cSeq (sRet (eVar 2)) (cNil)) (cNil)) (cSeq (sAsg (tName 3) (eOp oAdd (eOp oIx (eVar 1) (eC (.int 0))) (eC (.int 1)))) (cSeq (sRet (eOp oAdd (eOp oAdd (eSl (eVar 0) (eoNone) (eoSome (eVar 3))) (eTup (elCons (eCall 9 (elCons (eOp oIx (eVar 0) (eVar 3)) (elCons (eSl (eVar 1) (eoSome (eC (.int 1))) (eoNone)) (elCons (eVar 2) (elNil))))) (elNil)))) (eSl (eVar 0) (eoSome (eOp oAdd (eVar 3) (eC (.int 1)))) (eoNone)))) (cNil)))
/-- _law_odd -/
def c_10 : C := cSeq (sAsg (tName 2) (eLst (elCons (eC .none) (elCons (eC (.int 5)) (elCons (eC (.bool true)) (elCons (eC (.str [])) (elCons (eC (.str [97])) (elCons (eTup (elNil)) (elCons (eLst (elNil)) (elCons (eDict0) (elCons (eTup (elCons (eC (.str [97])) (elCons (eC (.int 5)) (elNil)))) (elCons (eTup (elCons (eC (.str [65])) (elNil))) (elCons (eTup (elCons (eC (.str [97, 49])) (elNil))) (elCons (eTup (elCons (eC (.str [97, 98, 99, 100, 101, 102, 103, 104, 105])) (elNil))) (elCons (eTup (elCons (eTup (elCons (eC (.str [97])) (elNil))) (elNil))) (elCons (eTup (elCons (eC (.str [])) (elNil))) (elCons (eTup (elCons (eC (.int 5)) (elNil))) (elNil)))))))))))))))))) (cSeq (sAsg (tName 2) (eOp oAdd (eVar 2) (eLst (elCons (eB bList (elCons (eVar 1) (elNil))) (elCons (eOp oAdd (eVar 1) (eOp oMul (eTup (elCons (eTup (elCons (eC (.str [98])) (elNil))) (elNil))) (eC (.int 5)))) (elCons (eOp oAdd (eVar 1) (eTup (elCons (eC .none) (elNil)))) (elCons (eOp oAdd (eVar 1) (eTup (elCons (eC (.str [97])) (elNil)))) (elCons (eTup (elCons (eVar 1) (elNil))) (elCons (eTup (elCons (eOp oIx (eVar 1) (eC (.int 0))) (elCons (eLst (elCons (eVar 1) (elNil))) (elNil)))) (elNil)))))))))) (cSeq (sExpr (eBm .lst mAppend (eVar 2) (elCons (eDcD (cEltD (eC (.str [97])) (eVar 1))) (elNil)))) (cSeq (sRet (eCall 4 (elCons (eVar 0) (elCons (eOp oAdd (eVar 2) (eLst (elCons (eTup (elCons (eC (.str [97])) (elCons (eTup (elCons (eC (.str [98])) (elCons (eTup (elCons (eC (.str [99, 32, 100])) (elNil))) (elNil)))) (elNil)))) (elCons (eTup (elCons (eC (.str [97])) (elCons (eTup (elCons (eC (.str [98])) (elCons (eLst (elCons (eC (.str [99])) (elNil))) (elNil)))) (elNil)))) (elCons (eOp oAdd (eTup (elCons (eC .none) (elNil))) (eSl (eVar 1) (eoSome (eC (.int 1))) (eoNone))) (elCons (eOp oPow (eC (.int 10)) (eC (.int 30))) (elNil))))))) (elNil))))) (cNil))))
/-- _law_is_tree -/
def c_11 : C := cSeq (sIf (eOr (eNot (eIsI (eVar 0) aTup)) (eOr (eNot (eChain oLe oLe (eC (.int 1)) (eB bLen (elCons (eVar 0) (elNil))) (eC (.int 5)))) (eNot (eIsI (eOp oIx (eVar 0) (eC (.int 0))) aStr)))) (cSeq (sRet (eC (.bool false))) (cNil)) (cNil)) (cSeq (sIf (eOr (eNot (eChain oLe oLe (eC (.int 1)) (eB bLen (elCons (eOp oIx (eVar 0) (eC (.int 0))) (elNil))) (eC (.int 8)))) (eOp oNe (eLc (cFor [2] (tName 2) (iVal (eOp oIx (eVar 0) (eC (.int 0)))) (cIf (eOp oNotIn (eVar 2) (eC (.str [97, 98, 99, 100, 101, 102, 103, 104, 105, 106, 107, 108, 109, 110, 111, 112, 113, 114, 115, 116, 117, 118, 119, 120, 121, 122]))) (cElt (eVar 2))))) (eLst (elNil)))) (cSeq (sRet (eC (.bool false))) (cNil)) (cNil)) (cSeq (sRet (eOp oEqE (eLc (cFor [1] (tName 1) (iVal (eSl (eVar 0) (eoSome (eC (.int 1))) (eoNone))) (cIf (eNot (eCall 11 (elCons (eVar 1) (elNil)))) (cElt (eVar 1))))) (eLst (elNil)))) (cNil)))
/-- _law_word -/
def c_12 : C := cSeq (sAsg (tName 1) (eC (.str [97, 98, 99, 100, 101, 102, 103, 104, 105, 106, 107, 108, 109, 110, 111, 112, 113, 114, 115, 116, 117, 118, 119, 120, 121, 122]))) (cSeq (sAsg (tName 2) (eBm .str mJoin (eC (.str [])) (elCons (eLc (cFor [5] (tName 5) (iRange (elCons (eOp oAdd (eC (.int 1)) (eCall 3 (elCons (eVar 0) (elCons (eC (.int 9)) (elNil))))) (elNil))) (cElt (eCall 4 (elCons (eVar 0) (elCons (eVar 1) (elNil))))))) elNil))) (cSeq (sAsg (tName 3) (eC (.str [32, 33, 34, 35, 38, 39, 40, 41, 42, 43, 44, 45, 46, 47, 48, 49, 50, 51, 52, 53, 54, 55, 56, 57, 58, 59, 60, 61, 62, 63, 64, 65, 66, 67, 68, 69, 70, 71, 72, 73, 74, 75, 76, 77, 78, 79, 80, 81, 82, 83, 84, 85, 86, 87, 88, 89, 90, 91, 93, 94, 95, 96, 36, 123, 124, 125, 126, 10]))) (cSeq (sIf (eOp oEq (eCall 3 (elCons (eVar 0) (elCons (eC (.int 3)) (elNil)))) (eC (.int 0))) (cSeq (sAsg (tName 4) (eCall 3 (elCons (eVar 0) (elCons (eOp oAdd (eB bLen (elCons (eVar 2) (elNil))) (eC (.int 1))) (elNil))))) (cSeq (sAsg (tName 2) (eOp oAdd (eOp oAdd (eSl (eVar 2) (eoNone) (eoSome (eVar 4))) (eCall 4 (elCons (eVar 0) (elCons (eVar 3) (elNil))))) (eSl (eVar 2) (eoSome (eOp oAdd (eVar 4) (eCall 3 (elCons (eVar 0) (elCons (eC (.int 2)) (elNil)))))) (eoNone)))) (cNil))) (cNil)) (cSeq (sRet (eVar 2)) (cNil)))))
/-- _law_value -/
def c_13 : C := cSeq (sPar [2, 3] (elCons (eCall 3 (elCons (eVar 0) (elCons (eC (.int 8)) (elNil)))) (elCons (eCall 8 (elCons (eVar 1) (elNil))) (elNil)))) (cSeq (sAsg (tTup 2 (tCons (tName 4) (tCons (tName 5) (tNil)))) (eCall 4 (elCons (eVar 0) (elCons (eVar 3) (elNil))))) (cSeq (sIf (eOp oEq (eVar 2) (eC (.int 0))) (cSeq (sRet (eVar 1)) (cNil)) (cNil)) (cSeq (sIf (eOp oEq (eVar 2) (eC (.int 1))) (cSeq (sRet (eCall 9 (elCons (eVar 1) (elCons (eVar 4) (elCons (eCall 10 (elCons (eVar 0) (elCons (eVar 5) (elNil)))) (elNil)))))) (cNil)) (cNil)) (cSeq (sIf (eOp oEq (eVar 2) (eC (.int 2))) (cSeq (sRet (eCall 9 (elCons (eVar 1) (elCons (eVar 4) (elCons (eOp oAdd (eTup (elCons (eCall 12 (elCons (eVar 0) (elNil))) (elNil))) (eSl (eVar 5) (eoSome (eC (.int 1))) (eoNone))) (elNil)))))) (cNil)) (cNil)) (cSeq (sIf (eOp oEq (eVar 2) (eC (.int 3))) (cSeq (sAsg (tName 6) (eOp oMul (eLst (elCons (eVar 5) (elNil))) (eCall 3 (elCons (eVar 0) (elCons (eC (.int 6)) (elNil)))))) (cSeq (sIf (eAnd (eOp oNe (eVar 6) (eLst (elNil))) (eOp oEq (eCall 3 (elCons (eVar 0) (elCons (eC (.int 2)) (elNil)))) (eC (.int 0)))) (cSeq (sAsg (tSub (eVar 6) (eCall 3 (elCons (eVar 0) (elCons (eB bLen (elCons (eVar 6) (elNil))) (elNil))))) (eCall 10 (elCons (eVar 0) (elCons (eVar 5) (elNil))))) (cNil)) (cNil)) (cSeq (sRet (eCall 9 (elCons (eVar 1) (elCons (eVar 4) (elCons (eOp oAdd (eTup (elCons (eOp oIx (eVar 5) (eC (.int 0))) (elNil))) (eB bTuple (elCons (eVar 6) (elNil)))) (elNil)))))) (cNil)))) (cNil)) (cSeq (sIf (eOp oEq (eVar 2) (eC (.int 4))) (cSeq (sRet (eCall 9 (elCons (eVar 1) (elCons (eVar 4) (elCons (eOp oAdd (eVar 5) (eTup (elCons (eCall 10 (elCons (eVar 0) (elCons (eVar 5) (elNil)))) (elNil)))) (elNil)))))) (cNil)) (cNil)) (cSeq (sIf (eOp oEq (eVar 2) (eC (.int 6))) (cSeq (sAsg (tName 7) (eLst (elCons (eC (.str [65])) (elCons (eC (.str [])) (elCons (eC (.str [97, 49])) (elCons (eC .none) (elCons (eOp oIx (eVar 5) (eC (.int 0))) (elCons (eOp oIx (eVar 5) (eC (.int 0))) (elNil))))))))) (cSeq (sAsg (tName 6) (eSl (eLst (elCons (eCall 10 (elCons (eVar 0) (elCons (eVar 5) (elNil)))) (elCons (eCall 10 (elCons (eVar 0) (elCons (eVar 5) (elNil)))) (elCons (eVar 5) (elNil))))) (eoSome (eCall 3 (elCons (eVar 0) (elCons (eC (.int 2)) (elNil))))) (eoNone))) (cSeq (sRet (eCall 9 (elCons (eVar 1) (elCons (eVar 4) (elCons (eOp oAdd (eTup (elCons (eCall 4 (elCons (eVar 0) (elCons (eVar 7) (elNil)))) (elNil))) (eB bTuple (elCons (eVar 6) (elNil)))) (elNil)))))) (cNil)))) (cNil)) (cSeq (sIf (eOp oEq (eVar 2) (eC (.int 5))) (cSeq (sAsg (tName 8) (eVar 1)) (cSeq (sFor (tName 9) (iRange (elCons (eOp oAdd (eC (.int 20)) (eCall 3 (elCons (eVar 0) (elCons (eC (.int 18)) (elNil))))) (elNil))) (cSeq (sAsg (tName 8) (eTup (elCons (eIf (eOp oEq (eVar 9) (eC (.int 3))) (eCall 12 (elCons (eVar 0) (elNil))) (eC (.str [102]))) (elCons (eVar 8) (elNil))))) (cNil))) (cSeq (sRet (eVar 8)) (cNil)))) (cNil)) (cSeq (sRet (eCall 10 (elCons (eVar 0) (elCons (eVar 1) (elNil))))) (cNil))))))))))
/-- law -/
def c_14 : C := cSeq (sFor (tName 1) (iRange (elCons (eB bMax2 (elCons (eC (.int 1)) (elCons (eB bMin2 (elCons (eC (.int 3)) (elCons (eB bLen (elCons (eVar 0) (elNil))) (elNil)))) (elNil)))) (elNil))) (cSeq (sAsg (tName 2) (eCall 2 (elCons (eVar 0) (elCons (eVar 1) (elNil))))) (cSeq (sAsg (tName 3) (eCall 5 (elCons (eVar 2) (elNil)))) (cSeq (sFor (tName 4) (iRange (elCons (eC (.int 12)) (elNil))) (cSeq (sAsg (tName 5) (eCall 13 (elCons (eVar 2) (elCons (eCall 7 (elCons (eVar 2) (elCons (eVar 3) (elCons (eOp oAdd (eC (.int 1)) (eCall 3 (elCons (eVar 2) (elCons (eC (.int 12)) (elNil))))) (elNil))))) (elNil))))) (cSeq (sPar [6, 7] (elCons (eB bReprD (elCons (eVar 5) (elNil))) (elCons (eCallP 1 (elCons (eVar 5) (elNil))) (elNil)))) (cSeq (sIf (eOr (eOp oNe (eB bReprD (elCons (eVar 7) (elNil))) (eB bReprD (elCons (eCall 11 (elCons (eVar 5) (elNil))) (elNil)))) (eOp oNe (eB bReprD (elCons (eVar 5) (elNil))) (eVar 6))) (cSeq (sRet (eC (.bool false))) (cNil)) (cNil)) (cNil))))) (cNil))))) (cSeq (sRet (eC (.bool true))) (cNil))
def fnl_0 : List Fn := [⟨1, 2, c_0⟩, ⟨1, 2, c_1⟩, ⟨2, 4, c_2⟩, ⟨2, 3, c_3⟩, ⟨2, 2, c_4⟩, ⟨1, 2, c_5⟩, ⟨4, 7, c_6⟩, ⟨3, 3, c_7⟩, ⟨1, 6, c_8⟩, ⟨3, 4, c_9⟩, ⟨2, 3, c_10⟩, ⟨1, 3, c_11⟩, ⟨1, 6, c_12⟩, ⟨2, 10, c_13⟩, ⟨1, 8, c_14⟩]
def fnl : List Fn := fnl_0
def prl : List (List (Option Nat)) := []
def mtl : List (List (Option Nat)) := []
def fll : List (List Bool) := []
def tb : Tb := ⟨fun k => fnl.getD k ⟨0, 0, cNil⟩, fun c m => (mtl.getD c []).getD m .none, fun c m => (prl.getD c []).getD m .none, fun c f => (fll.getD c []).getD f false⟩
end L01
set_option Elab.async false
set_option linter.all false
set_option maxRecDepth 100000
set_option maxHeartbeats 0
namespace L01
open PySem PySem.Spec L2 G
open PyProof.Rows hiding St
def top (i : Nat) : Stmt := PySem.Challenge.pw_graftrules_k01_values_that_are_trees.main.body.getD i (.Pass ⟨0, 0, 0, 0⟩)
def clsBody : Stmt → List Stmt
  | .ClassDef _ _ _ b _ _ _ _ _ _ _ => b
  | _ => []
def sub (i j : Nat) : Stmt := (clsBody (top i)).getD j (.Pass ⟨0, 0, 0, 0⟩)
def nms : List Str := []
def excn : List Str := []
def clsn : List Str := []
def ats_0 : List (Str × Option Str) := [("is_name", none), ("is_tree", none), ("_law_feed", none), ("_law_take", none), ("_law_pick", none), ("_law_names", none), ("_law_grow", none), ("_law_tree", none), ("_law_places", none), ("_law_put", none), ("_law_odd", none), ("_law_is_tree", none), ("_law_word", none), ("_law_value", none), ("law", none)]
def ats : List (Str × Option Str) := ats_0
def pss_0 : List (List Str) := [["value"], ["value"], ["script", "k"], ["feed", "many"], ["feed", "some"], ["feed"], ["feed", "names", "nodes", "levels"], ["feed", "names", "nodes"], ["tree"], ["tree", "place", "part"], ["feed", "tree"], ["value"], ["feed"], ["feed", "tree"], ["script"]]
def pss : List (List Str) := pss_0
abbrev gx (P : Program) (w : World) (K : PySem.W.Frag) : Gx := { P := P, w := w, K := K, nm := fun i => nms.getD i "", nf := 0, cl := fun c => He.ga K (clsn.getD c ""), xc := fun c => He.ga K (excn.getD c "") }
abbrev ft (K : PySem.W.Frag) : Ft := ⟨fun k => adP K (ats.getD k ("", none)), fun k => fdAt K (adP K (ats.getD k ("", none))), fun k => pss.getD k []⟩
def fn : List He.DefD := [
  ⟨("is_name", none), "is_name", "is_name", defArgs (top 4), defBody (top 4), defScope (top 4), [], []⟩,
  ⟨("is_tree", none), "is_tree", "is_tree", defArgs (top 5), defBody (top 5), defScope (top 5), [], []⟩,
  ⟨("_law_feed", none), "_law_feed", "_law_feed", defArgs (top 7), defBody (top 7), defScope (top 7), [], []⟩,
  ⟨("_law_take", none), "_law_take", "_law_take", defArgs (top 8), defBody (top 8), defScope (top 8), [], []⟩,
  ⟨("_law_pick", none), "_law_pick", "_law_pick", defArgs (top 9), defBody (top 9), defScope (top 9), [], []⟩,
  ⟨("_law_names", none), "_law_names", "_law_names", defArgs (top 10), defBody (top 10), defScope (top 10), [], []⟩,
  ⟨("_law_grow", none), "_law_grow", "_law_grow", defArgs (top 11), defBody (top 11), defScope (top 11), [], []⟩,
  ⟨("_law_tree", none), "_law_tree", "_law_tree", defArgs (top 12), defBody (top 12), defScope (top 12), [], []⟩,
  ⟨("_law_places", none), "_law_places", "_law_places", defArgs (top 13), defBody (top 13), defScope (top 13), [], []⟩,
  ⟨("_law_put", none), "_law_put", "_law_put", defArgs (top 14), defBody (top 14), defScope (top 14), [], []⟩,
  ⟨("_law_odd", none), "_law_odd", "_law_odd", defArgs (top 15), defBody (top 15), defScope (top 15), [], []⟩,
  ⟨("_law_is_tree", none), "_law_is_tree", "_law_is_tree", defArgs (top 16), defBody (top 16), defScope (top 16), [], []⟩,
  ⟨("_law_word", none), "_law_word", "_law_word", defArgs (top 17), defBody (top 17), defScope (top 17), [], []⟩,
  ⟨("_law_value", none), "_law_value", "_law_value", defArgs (top 18), defBody (top 18), defScope (top 18), [], []⟩,
  ⟨("law", none), "law", "law", defArgs (top 19), defBody (top 19), defScope (top 19), [], []⟩]
def cks : List (PySem.W.Frag → Bool) := [
  fun K => smB K,
  fun K => (He.Fa.glo "is_name").ok K,
  fun K => (He.Fa.glo "is_tree").ok K,
  fun K => (He.Fa.glo "_law_feed").ok K,
  fun K => (He.Fa.glo "_law_take").ok K,
  fun K => (He.Fa.glo "_law_pick").ok K,
  fun K => (He.Fa.glo "_law_names").ok K,
  fun K => (He.Fa.glo "_law_grow").ok K,
  fun K => (He.Fa.glo "_law_tree").ok K,
  fun K => (He.Fa.glo "_law_places").ok K,
  fun K => (He.Fa.glo "_law_put").ok K,
  fun K => (He.Fa.glo "_law_odd").ok K,
  fun K => (He.Fa.glo "_law_is_tree").ok K,
  fun K => (He.Fa.glo "_law_word").ok K,
  fun K => (He.Fa.glo "_law_value").ok K,
  fun K => (He.Fa.glo "law").ok K,
  fun K => (He.Fa.free "abs").ok K,
  fun K => (He.Fa.free "all").ok K,
  fun K => (He.Fa.free "enumerate").ok K,
  fun K => (He.Fa.free "int").ok K,
  fun K => (He.Fa.free "isinstance").ok K,
  fun K => (He.Fa.free "len").ok K,
  fun K => (He.Fa.free "list").ok K,
  fun K => (He.Fa.free "max").ok K,
  fun K => (He.Fa.free "min").ok K,
  fun K => (He.Fa.free "range").ok K,
  fun K => (He.Fa.free "repr").ok K,
  fun K => (He.Fa.free "str").ok K,
  fun K => (He.Fa.free "tuple").ok K,
  fun K => (He.Fa.str "LETTERS" "abcdefghijklmnopqrstuvwxyz").ok K,
  fun K => (He.Fa.int "MAX_NAME" 8).ok K,
  fun K => (He.Fa.int "MAX_CHILDREN" 4).ok K]
def ck (K : PySem.W.Frag) : Bool := cks.all fun f => f K
structure WF (K : PySem.W.Frag) (mg : Str → Option Value) : Prop where
  sm : SmOk K
  g_0 : mg "is_name" = some (.ref ((ft K).a 0))
  g_1 : mg "is_tree" = some (.ref ((ft K).a 1))
  g_2 : mg "_law_feed" = some (.ref ((ft K).a 2))
  g_3 : mg "_law_take" = some (.ref ((ft K).a 3))
  g_4 : mg "_law_pick" = some (.ref ((ft K).a 4))
  g_5 : mg "_law_names" = some (.ref ((ft K).a 5))
  g_6 : mg "_law_grow" = some (.ref ((ft K).a 6))
  g_7 : mg "_law_tree" = some (.ref ((ft K).a 7))
  g_8 : mg "_law_places" = some (.ref ((ft K).a 8))
  g_9 : mg "_law_put" = some (.ref ((ft K).a 9))
  g_10 : mg "_law_odd" = some (.ref ((ft K).a 10))
  g_11 : mg "_law_is_tree" = some (.ref ((ft K).a 11))
  g_12 : mg "_law_word" = some (.ref ((ft K).a 12))
  g_13 : mg "_law_value" = some (.ref ((ft K).a 13))
  g_14 : mg "law" = some (.ref ((ft K).a 14))
  f_abs : mg "abs" = none
  f_all : mg "all" = none
  f_enumerate : mg "enumerate" = none
  f_int : mg "int" = none
  f_isinstance : mg "isinstance" = none
  f_len : mg "len" = none
  f_list : mg "list" = none
  f_max : mg "max" = none
  f_min : mg "min" = none
  f_range : mg "range" = none
  f_repr : mg "repr" = none
  f_str : mg "str" = none
  f_tuple : mg "tuple" = none
  c_LETTERS : ∃ t, mg "LETTERS" = some (.str "abcdefghijklmnopqrstuvwxyz" t)
  c_MAX_NAME : ∃ t, mg "MAX_NAME" = some (.int 8 t)
  c_MAX_CHILDREN : ∃ t, mg "MAX_CHILDREN" = some (.int 4 t)
  d_0 : ∃ fd, FunD K "is_name" "is_name" (defArgs (top 4)) (defBody (top 4)) (defScope (top 4)) [] [] ((ft K).a 0) fd
  d_1 : ∃ fd, FunD K "is_tree" "is_tree" (defArgs (top 5)) (defBody (top 5)) (defScope (top 5)) [] [] ((ft K).a 1) fd
  d_2 : ∃ fd, FunD K "_law_feed" "_law_feed" (defArgs (top 7)) (defBody (top 7)) (defScope (top 7)) [] [] ((ft K).a 2) fd
  d_3 : ∃ fd, FunD K "_law_take" "_law_take" (defArgs (top 8)) (defBody (top 8)) (defScope (top 8)) [] [] ((ft K).a 3) fd
  d_4 : ∃ fd, FunD K "_law_pick" "_law_pick" (defArgs (top 9)) (defBody (top 9)) (defScope (top 9)) [] [] ((ft K).a 4) fd
  d_5 : ∃ fd, FunD K "_law_names" "_law_names" (defArgs (top 10)) (defBody (top 10)) (defScope (top 10)) [] [] ((ft K).a 5) fd
  d_6 : ∃ fd, FunD K "_law_grow" "_law_grow" (defArgs (top 11)) (defBody (top 11)) (defScope (top 11)) [] [] ((ft K).a 6) fd
  d_7 : ∃ fd, FunD K "_law_tree" "_law_tree" (defArgs (top 12)) (defBody (top 12)) (defScope (top 12)) [] [] ((ft K).a 7) fd
  d_8 : ∃ fd, FunD K "_law_places" "_law_places" (defArgs (top 13)) (defBody (top 13)) (defScope (top 13)) [] [] ((ft K).a 8) fd
  d_9 : ∃ fd, FunD K "_law_put" "_law_put" (defArgs (top 14)) (defBody (top 14)) (defScope (top 14)) [] [] ((ft K).a 9) fd
  d_10 : ∃ fd, FunD K "_law_odd" "_law_odd" (defArgs (top 15)) (defBody (top 15)) (defScope (top 15)) [] [] ((ft K).a 10) fd
  d_11 : ∃ fd, FunD K "_law_is_tree" "_law_is_tree" (defArgs (top 16)) (defBody (top 16)) (defScope (top 16)) [] [] ((ft K).a 11) fd
  d_12 : ∃ fd, FunD K "_law_word" "_law_word" (defArgs (top 17)) (defBody (top 17)) (defScope (top 17)) [] [] ((ft K).a 12) fd
  d_13 : ∃ fd, FunD K "_law_value" "_law_value" (defArgs (top 18)) (defBody (top 18)) (defScope (top 18)) [] [] ((ft K).a 13) fd
  d_14 : ∃ fd, FunD K "law" "law" (defArgs (top 19)) (defBody (top 19)) (defScope (top 19)) [] [] ((ft K).a 14) fd
theorem wf {K : PySem.W.Frag} {h : Heap} {mg : Str → Option Value} (X : K.In h) (G : h.Ns mainGlobals mg) (c : SaysX ck fn K) : WF K mg := by
  have k : ∀ (i : Nat) (f : PySem.W.Frag → Bool), cks[i]? = some f → f K = true := fun i f h => List.all_eq_true.mp c.ck_ f (List.mem_of_getElem? h)
  exact {
    sm := smB_ok (k 0 _ rfl)
    g_0 := He.glo_ok X G (k 1 _ rfl)
    g_1 := He.glo_ok X G (k 2 _ rfl)
    g_2 := He.glo_ok X G (k 3 _ rfl)
    g_3 := He.glo_ok X G (k 4 _ rfl)
    g_4 := He.glo_ok X G (k 5 _ rfl)
    g_5 := He.glo_ok X G (k 6 _ rfl)
    g_6 := He.glo_ok X G (k 7 _ rfl)
    g_7 := He.glo_ok X G (k 8 _ rfl)
    g_8 := He.glo_ok X G (k 9 _ rfl)
    g_9 := He.glo_ok X G (k 10 _ rfl)
    g_10 := He.glo_ok X G (k 11 _ rfl)
    g_11 := He.glo_ok X G (k 12 _ rfl)
    g_12 := He.glo_ok X G (k 13 _ rfl)
    g_13 := He.glo_ok X G (k 14 _ rfl)
    g_14 := He.glo_ok X G (k 15 _ rfl)
    f_abs := He.free_ok X G (k 16 _ rfl)
    f_all := He.free_ok X G (k 17 _ rfl)
    f_enumerate := He.free_ok X G (k 18 _ rfl)
    f_int := He.free_ok X G (k 19 _ rfl)
    f_isinstance := He.free_ok X G (k 20 _ rfl)
    f_len := He.free_ok X G (k 21 _ rfl)
    f_list := He.free_ok X G (k 22 _ rfl)
    f_max := He.free_ok X G (k 23 _ rfl)
    f_min := He.free_ok X G (k 24 _ rfl)
    f_range := He.free_ok X G (k 25 _ rfl)
    f_repr := He.free_ok X G (k 26 _ rfl)
    f_str := He.free_ok X G (k 27 _ rfl)
    f_tuple := He.free_ok X G (k 28 _ rfl)
    c_LETTERS := He.str_ok X G (k 29 _ rfl)
    c_MAX_NAME := He.int_ok X G (k 30 _ rfl)
    c_MAX_CHILDREN := He.int_ok X G (k 31 _ rfl)
    d_0 := c.def_ (i := 0) rfl
    d_1 := c.def_ (i := 1) rfl
    d_2 := c.def_ (i := 2) rfl
    d_3 := c.def_ (i := 3) rfl
    d_4 := c.def_ (i := 4) rfl
    d_5 := c.def_ (i := 5) rfl
    d_6 := c.def_ (i := 6) rfl
    d_7 := c.def_ (i := 7) rfl
    d_8 := c.def_ (i := 8) rfl
    d_9 := c.def_ (i := 9) rfl
    d_10 := c.def_ (i := 10) rfl
    d_11 := c.def_ (i := 11) rfl
    d_12 := c.def_ (i := 12) rfl
    d_13 := c.def_ (i := 13) rfl
    d_14 := c.def_ (i := 14) rfl }
section
variable {P : Program} {w : World} {K : PySem.W.Frag} {mg : Str → Option Value} {base : Heap} {n : Nat}
theorem WF.v_abs (W : WF K mg) : bootBuiltins "abs" = some (.builtin "abs") := by decide +kernel
theorem WF.v_all (W : WF K mg) : bootBuiltins "all" = some (.builtin "all") := by decide +kernel
theorem WF.v_int (W : WF K mg) : bootBuiltins "int" = some (.type "int") := by decide +kernel
theorem WF.v_len (W : WF K mg) : bootBuiltins "len" = some (.builtin "len") := by decide +kernel
theorem WF.v_list (W : WF K mg) : bootBuiltins "list" = some (.type "list") := by decide +kernel
theorem WF.v_max (W : WF K mg) : bootBuiltins "max" = some (.builtin "max") := by decide +kernel
theorem WF.v_min (W : WF K mg) : bootBuiltins "min" = some (.builtin "min") := by decide +kernel
theorem WF.v_repr (W : WF K mg) : bootBuiltins "repr" = some (.builtin "repr") := by decide +kernel
theorem WF.v_tuple (W : WF K mg) : bootBuiltins "tuple" = some (.type "tuple") := by decide +kernel
theorem WF.F_0 (W : WF K mg) : FunD K "is_name" "is_name" (defArgs (top 4)) (defBody (top 4)) (defScope (top 4)) [] [] ((ft K).a 0) ((ft K).fd 0) := fun_at W.d_0
theorem WF.k_0 (W : WF K mg) : PySem.W.keepIn K (.ref ((ft K).a 0)) = true := W.F_0.kp
theorem WF.b_0 (W : WF K mg) : Binds K ((ft K).fd 0) ((ft K).ps 0) [] := W.F_0.bindsN fun _ _ _ _ _ _ us hl => match us, hl with | [_], _ => rfl
theorem WF.F_1 (W : WF K mg) : FunD K "is_tree" "is_tree" (defArgs (top 5)) (defBody (top 5)) (defScope (top 5)) [] [] ((ft K).a 1) ((ft K).fd 1) := fun_at W.d_1
theorem WF.k_1 (W : WF K mg) : PySem.W.keepIn K (.ref ((ft K).a 1)) = true := W.F_1.kp
theorem WF.b_1 (W : WF K mg) : Binds K ((ft K).fd 1) ((ft K).ps 1) [] := W.F_1.bindsN fun _ _ _ _ _ _ us hl => match us, hl with | [_], _ => rfl
theorem WF.F_2 (W : WF K mg) : FunD K "_law_feed" "_law_feed" (defArgs (top 7)) (defBody (top 7)) (defScope (top 7)) [] [] ((ft K).a 2) ((ft K).fd 2) := fun_at W.d_2
theorem WF.k_2 (W : WF K mg) : PySem.W.keepIn K (.ref ((ft K).a 2)) = true := W.F_2.kp
theorem WF.b_2 (W : WF K mg) : Binds K ((ft K).fd 2) ((ft K).ps 2) [] := W.F_2.bindsN fun _ _ _ _ _ _ us hl => match us, hl with | [_, _], _ => rfl
theorem WF.F_3 (W : WF K mg) : FunD K "_law_take" "_law_take" (defArgs (top 8)) (defBody (top 8)) (defScope (top 8)) [] [] ((ft K).a 3) ((ft K).fd 3) := fun_at W.d_3
theorem WF.k_3 (W : WF K mg) : PySem.W.keepIn K (.ref ((ft K).a 3)) = true := W.F_3.kp
theorem WF.b_3 (W : WF K mg) : Binds K ((ft K).fd 3) ((ft K).ps 3) [] := W.F_3.bindsN fun _ _ _ _ _ _ us hl => match us, hl with | [_, _], _ => rfl
theorem WF.F_4 (W : WF K mg) : FunD K "_law_pick" "_law_pick" (defArgs (top 9)) (defBody (top 9)) (defScope (top 9)) [] [] ((ft K).a 4) ((ft K).fd 4) := fun_at W.d_4
theorem WF.k_4 (W : WF K mg) : PySem.W.keepIn K (.ref ((ft K).a 4)) = true := W.F_4.kp
theorem WF.b_4 (W : WF K mg) : Binds K ((ft K).fd 4) ((ft K).ps 4) [] := W.F_4.bindsN fun _ _ _ _ _ _ us hl => match us, hl with | [_, _], _ => rfl
theorem WF.F_5 (W : WF K mg) : FunD K "_law_names" "_law_names" (defArgs (top 10)) (defBody (top 10)) (defScope (top 10)) [] [] ((ft K).a 5) ((ft K).fd 5) := fun_at W.d_5
theorem WF.k_5 (W : WF K mg) : PySem.W.keepIn K (.ref ((ft K).a 5)) = true := W.F_5.kp
theorem WF.b_5 (W : WF K mg) : Binds K ((ft K).fd 5) ((ft K).ps 5) [] := W.F_5.bindsN fun _ _ _ _ _ _ us hl => match us, hl with | [_], _ => rfl
theorem WF.F_6 (W : WF K mg) : FunD K "_law_grow" "_law_grow" (defArgs (top 11)) (defBody (top 11)) (defScope (top 11)) [] [] ((ft K).a 6) ((ft K).fd 6) := fun_at W.d_6
theorem WF.k_6 (W : WF K mg) : PySem.W.keepIn K (.ref ((ft K).a 6)) = true := W.F_6.kp
theorem WF.b_6 (W : WF K mg) : Binds K ((ft K).fd 6) ((ft K).ps 6) [] := W.F_6.bindsN fun _ _ _ _ _ _ us hl => match us, hl with | [_, _, _, _], _ => rfl
theorem WF.F_7 (W : WF K mg) : FunD K "_law_tree" "_law_tree" (defArgs (top 12)) (defBody (top 12)) (defScope (top 12)) [] [] ((ft K).a 7) ((ft K).fd 7) := fun_at W.d_7
theorem WF.k_7 (W : WF K mg) : PySem.W.keepIn K (.ref ((ft K).a 7)) = true := W.F_7.kp
theorem WF.b_7 (W : WF K mg) : Binds K ((ft K).fd 7) ((ft K).ps 7) [] := W.F_7.bindsN fun _ _ _ _ _ _ us hl => match us, hl with | [_, _, _], _ => rfl
theorem WF.F_8 (W : WF K mg) : FunD K "_law_places" "_law_places" (defArgs (top 13)) (defBody (top 13)) (defScope (top 13)) [] [] ((ft K).a 8) ((ft K).fd 8) := fun_at W.d_8
theorem WF.k_8 (W : WF K mg) : PySem.W.keepIn K (.ref ((ft K).a 8)) = true := W.F_8.kp
theorem WF.b_8 (W : WF K mg) : Binds K ((ft K).fd 8) ((ft K).ps 8) [] := W.F_8.bindsN fun _ _ _ _ _ _ us hl => match us, hl with | [_], _ => rfl
theorem WF.F_9 (W : WF K mg) : FunD K "_law_put" "_law_put" (defArgs (top 14)) (defBody (top 14)) (defScope (top 14)) [] [] ((ft K).a 9) ((ft K).fd 9) := fun_at W.d_9
theorem WF.k_9 (W : WF K mg) : PySem.W.keepIn K (.ref ((ft K).a 9)) = true := W.F_9.kp
theorem WF.b_9 (W : WF K mg) : Binds K ((ft K).fd 9) ((ft K).ps 9) [] := W.F_9.bindsN fun _ _ _ _ _ _ us hl => match us, hl with | [_, _, _], _ => rfl
theorem WF.F_10 (W : WF K mg) : FunD K "_law_odd" "_law_odd" (defArgs (top 15)) (defBody (top 15)) (defScope (top 15)) [] [] ((ft K).a 10) ((ft K).fd 10) := fun_at W.d_10
theorem WF.k_10 (W : WF K mg) : PySem.W.keepIn K (.ref ((ft K).a 10)) = true := W.F_10.kp
theorem WF.b_10 (W : WF K mg) : Binds K ((ft K).fd 10) ((ft K).ps 10) [] := W.F_10.bindsN fun _ _ _ _ _ _ us hl => match us, hl with | [_, _], _ => rfl
theorem WF.F_11 (W : WF K mg) : FunD K "_law_is_tree" "_law_is_tree" (defArgs (top 16)) (defBody (top 16)) (defScope (top 16)) [] [] ((ft K).a 11) ((ft K).fd 11) := fun_at W.d_11
theorem WF.k_11 (W : WF K mg) : PySem.W.keepIn K (.ref ((ft K).a 11)) = true := W.F_11.kp
theorem WF.b_11 (W : WF K mg) : Binds K ((ft K).fd 11) ((ft K).ps 11) [] := W.F_11.bindsN fun _ _ _ _ _ _ us hl => match us, hl with | [_], _ => rfl
theorem WF.F_12 (W : WF K mg) : FunD K "_law_word" "_law_word" (defArgs (top 17)) (defBody (top 17)) (defScope (top 17)) [] [] ((ft K).a 12) ((ft K).fd 12) := fun_at W.d_12
theorem WF.k_12 (W : WF K mg) : PySem.W.keepIn K (.ref ((ft K).a 12)) = true := W.F_12.kp
theorem WF.b_12 (W : WF K mg) : Binds K ((ft K).fd 12) ((ft K).ps 12) [] := W.F_12.bindsN fun _ _ _ _ _ _ us hl => match us, hl with | [_], _ => rfl
theorem WF.F_13 (W : WF K mg) : FunD K "_law_value" "_law_value" (defArgs (top 18)) (defBody (top 18)) (defScope (top 18)) [] [] ((ft K).a 13) ((ft K).fd 13) := fun_at W.d_13
theorem WF.k_13 (W : WF K mg) : PySem.W.keepIn K (.ref ((ft K).a 13)) = true := W.F_13.kp
theorem WF.b_13 (W : WF K mg) : Binds K ((ft K).fd 13) ((ft K).ps 13) [] := W.F_13.bindsN fun _ _ _ _ _ _ us hl => match us, hl with | [_, _], _ => rfl
theorem WF.F_14 (W : WF K mg) : FunD K "law" "law" (defArgs (top 19)) (defBody (top 19)) (defScope (top 19)) [] [] ((ft K).a 14) ((ft K).fd 14) := fun_at W.d_14
def N_0 : List Str := ["value", "sign"]
theorem p_0 (W : WF K mg) (ih : AllOk P w K mg base (gx P w K) tb (ft K) 15 n) (cdv : Value) (A : Around) (outer : List PySem.Env) (s : Shared) (H : Hp) (E : XK) (hr0 : Rb n (A.deeper (envOfC "is_name" (defScope (top 4)) s.heap.objs.size ((ft K).a 0) cdv))) :
    PSs (cxOf (L2.CX P w) P w K mg base N_0 "is_name" (defScope (top 4)) ((ft K).a 0) cdv A outer s H E) (defBody (top 4)) (tS (gx P w K) (orcN tb n) (fun c d _ H => E c d H) c_0) := by
  have R : Rn (cxOf (L2.CX P w) P w K mg base N_0 "is_name" (defScope (top 4)) ((ft K).a 0) cdv A outer s H E) (gx P w K) (orcN tb n) tb (ft K) 15 n (fun c d _ H => E c d H) := Rn.fn rfl rfl rfl (by decide +kernel) hr0 ih
  have hu := G.hu_of R.room
  have hu5 := G.hu5_of R.room
  exact ss_cons (s_ret (m_and (e_isi R.K ty_str rfl W.f_isinstance (m_var (i := 0) rfl (vis_of rfl) rfl rfl) (pe_bltn (v := .ty "str") (u := .type "str") rfl W.f_str (by decide +kernel) rfl (by decide) rfl) (.ty "str") rfl rfl rfl) (m_and (m_chain o_le o_le (m_int) (e_bi (x := "len") (b_len R.K) rfl W.f_len W.v_len (l_cons (m_var (i := 0) rfl (vis_of rfl) rfl rfl) (l_nil) rfl) (by decide) rfl rfl rfl) (m_gint rfl W.c_MAX_NAME rfl) (by with_unfolding_all rfl)) (m_and1 (e_bi (x := "all") (b_all R.calm) rfl W.f_all W.v_all (l_cons (by refine m_lc R.calm R.nd (own := [("sign", 1)]) (f := id) (hi := ?hi_7) (ok := ?ok_7) (hg := ?hg_7) (ht := ?ht_7) (he := ?he_7) (hs := ?hs_7); (case hi_7 => exact i_val (m_var (i := 0) rfl (vis_of rfl) rfl rfl)); (case ok_7 => exact blk_ok (N := N_0) (sc := defScope (top 4)) (own := [("sign", 1)]) (by decide +kernel)); (case hg_7 => exact (inBlk R fun s H C cl fp R => v_name (by decide) R.nd rfl (loc_of rfl) (by first | exact .inl rfl | exact .inr rfl))); (case ht_7 => exact .no); (case he_7 => exact (inBlk R fun s H C cl fp R => m_cmp (o_in (by exact hu5) R.K) (m_var (i := 1) rfl (vis_of rfl) rfl rfl) (m_gstr rfl W.c_LETTERS rfl (sOk_of rfl) rfl) rfl)); (case hs_7 => exact fun _ => rfl)) (l_nil) rfl) (by decide) rfl rfl rfl))))) (ss_nil)
theorem ok_0 (W : WF K mg) (ih : AllOk P w K mg base (gx P w K) tb (ft K) 15 n) : FnG P w K mg base (n + 1) ((ft K).a 0) ((ft K).fd 0) ((ft K).ps 0) (spG (gx P w K) tb (n + 1) 0) :=
  fn_okD (N := N_0) (ps := ["value"]) W.F_0 ⟨rfl, rfl, rfl, by decide +kernel, rfl, by decide +kernel, by decide +kernel⟩ rfl rfl (p_0 W ih)
def N_1 : List Str := ["value", "child"]
theorem p_1 (W : WF K mg) (ih : AllOk P w K mg base (gx P w K) tb (ft K) 15 n) (cdv : Value) (A : Around) (outer : List PySem.Env) (s : Shared) (H : Hp) (E : XK) (hr0 : Rb n (A.deeper (envOfC "is_tree" (defScope (top 5)) s.heap.objs.size ((ft K).a 1) cdv))) :
    PSs (cxOf (L2.CX P w) P w K mg base N_1 "is_tree" (defScope (top 5)) ((ft K).a 1) cdv A outer s H E) (defBody (top 5)) (tS (gx P w K) (orcN tb n) (fun c d _ H => E c d H) c_1) := by
  have R : Rn (cxOf (L2.CX P w) P w K mg base N_1 "is_tree" (defScope (top 5)) ((ft K).a 1) cdv A outer s H E) (gx P w K) (orcN tb n) tb (ft K) 15 n (fun c d _ H => E c d H) := Rn.fn rfl rfl rfl (by decide +kernel) hr0 ih
  have hu := G.hu_of R.room
  have hu5 := G.hu5_of R.room
  exact ss_cons (s_if (PW.pt (w_or (m_notT (m_truth R.K (e_isi R.K ty_tup rfl W.f_isinstance (m_var (i := 0) rfl (vis_of rfl) rfl rfl) (pe_bltn (v := .ty "tuple") (u := .type "tuple") rfl W.f_tuple (by decide +kernel) rfl (by decide) rfl) (.ty "tuple") rfl rfl rfl) (fun _ => rfl))) (w_or (m_notT (m_chainT R.K o_le o_le (m_int) (e_bi (x := "len") (b_len R.K) rfl W.f_len W.v_len (l_cons (m_var (i := 0) rfl (vis_of rfl) rfl rfl) (l_nil) rfl) (by decide) rfl rfl rfl) (m_bin o_add (m_gint rfl W.c_MAX_CHILDREN rfl) (m_int)) (by with_unfolding_all rfl))) (w_or1 (m_notT (m_truth R.K (e_callP (x := "is_name") rfl R (f := 0) (by decide) rfl W.g_0 W.k_0 W.b_0 (l_cons (m_ix (m_var (i := 0) rfl (vis_of rfl) rfl rfl) (m_int) (fun _ _ => rfl)) (l_nil) rfl) rfl rfl rfl) (fun _ => rfl))))))) (ss_cons (s_ret (m_bl)) (ss_nil)) (ss_nil)) (ss_cons (s_ret (e_bi (x := "all") (b_all R.calm) rfl W.f_all W.v_all (l_cons (by refine m_lc R.calm R.nd (own := [("child", 1)]) (f := id) (hi := ?hi_8) (ok := ?ok_8) (hg := ?hg_8) (ht := ?ht_8) (he := ?he_8) (hs := ?hs_8); (case hi_8 => exact i_val (m_sl R.K (m_var (i := 0) rfl (vis_of rfl) rfl rfl) (o_some (m_int)) (o_none))); (case ok_8 => exact blk_ok (N := N_1) (sc := defScope (top 5)) (own := [("child", 1)]) (by decide +kernel)); (case hg_8 => exact (inBlk R fun s H C cl fp R => v_name (by decide) R.nd rfl (loc_of rfl) (by first | exact .inl rfl | exact .inr rfl))); (case ht_8 => exact .no); (case he_8 => exact (inBlk R fun s H C cl fp R => e_callP (x := "is_tree") rfl R (f := 1) (by decide) rfl W.g_1 W.k_1 W.b_1 (l_cons (m_var (i := 1) rfl (vis_of rfl) rfl rfl) (l_nil) rfl) rfl rfl rfl)); (case hs_8 => exact fun _ => rfl)) (l_nil) rfl) (by decide) rfl rfl rfl)) (ss_nil))
theorem ok_1 (W : WF K mg) (ih : AllOk P w K mg base (gx P w K) tb (ft K) 15 n) : FnG P w K mg base (n + 1) ((ft K).a 1) ((ft K).fd 1) ((ft K).ps 1) (spG (gx P w K) tb (n + 1) 1) :=
  fn_okD (N := N_1) (ps := ["value"]) W.F_1 ⟨rfl, rfl, rfl, by decide +kernel, rfl, by decide +kernel, by decide +kernel⟩ rfl rfl (p_1 W ih)
def N_2 : List Str := ["script", "k", "seed", "digits"]
theorem p_2 (W : WF K mg) (ih : AllOk P w K mg base (gx P w K) tb (ft K) 15 n) (cdv : Value) (A : Around) (outer : List PySem.Env) (s : Shared) (H : Hp) (E : XK) (hr0 : Rb n (A.deeper (envOfC "_law_feed" (defScope (top 7)) s.heap.objs.size ((ft K).a 2) cdv))) :
    PSs (cxOf (L2.CX P w) P w K mg base N_2 "_law_feed" (defScope (top 7)) ((ft K).a 2) cdv A outer s H E) (defBody (top 7)) (tS (gx P w K) (orcN tb n) (fun c d _ H => E c d H) c_2) := by
  have R : Rn (cxOf (L2.CX P w) P w K mg base N_2 "_law_feed" (defScope (top 7)) ((ft K).a 2) cdv A outer s H E) (gx P w K) (orcN tb n) tb (ft K) 15 n (fun c d _ H => E c d H) := Rn.fn rfl rfl rfl (by decide +kernel) hr0 ih
  have hu := G.hu_of R.room
  have hu5 := G.hu5_of R.room
  exact ss_cons (s_set R.nd rfl (loc_of rfl) (m_ix (m_bin o_add (e_ty (x := "list") (b_list R.K) rfl W.f_list W.v_list (l_cons (m_sl R.K (m_var (i := 0) rfl (vis_of rfl) rfl rfl) (o_some (m_var (i := 1) rfl (vis_of rfl) rfl rfl)) (o_some (m_bin o_add (m_var (i := 1) rfl (vis_of rfl) rfl rfl) (m_int)))) (l_nil) rfl) (by decide) rfl rfl rfl) (m_lst (l_cons (m_bin o_add (m_bin o_mul (m_int) (m_var (i := 1) rfl (vis_of rfl) rfl rfl)) (m_int)) (l_nil) rfl))) (m_int) (fun _ _ => rfl)) rfl (.inl rfl)) (ss_cons (s_set R.nd rfl (loc_of rfl) (e_bi (x := "max") (b_max2 R.calm) rfl W.f_max W.v_max (l_cons (m_int) (l_cons (m_bin o_sub (e_bi (x := "abs") b_abs rfl W.f_abs W.v_abs (l_cons (m_var (i := 2) rfl (vis_of rfl) rfl rfl) (l_nil) rfl) (by decide) rfl rfl rfl) (m_bin o_pow (m_int) (m_int))) (l_nil) rfl) rfl) (by decide) rfl rfl rfl) rfl (.inl rfl)) (ss_cons (s_ret (m_lst (l_cons (m_var (i := 3) rfl (vis_of rfl) rfl rfl) (l_cons (m_bin o_mod (e_ty (x := "int") b_int rfl W.f_int W.v_int (l_cons (m_bin o_add (m_bin o_add (m_bin o_mul (m_bin o_mod (e_ty (x := "int") b_int rfl W.f_int W.v_int (l_cons (e_bi (x := "abs") b_abs rfl W.f_abs W.v_abs (l_cons (m_var (i := 2) rfl (vis_of rfl) rfl rfl) (l_nil) rfl) (by decide) rfl rfl rfl) (l_nil) rfl) (by decide) rfl rfl rfl) (m_int)) (m_int)) (m_bin o_mul (m_int) (m_var (i := 1) rfl (vis_of rfl) rfl rfl))) (m_int)) (l_nil) rfl) (by decide) rfl rfl rfl) (m_int)) (l_nil) rfl) rfl))) (ss_nil)))
theorem ok_2 (W : WF K mg) (ih : AllOk P w K mg base (gx P w K) tb (ft K) 15 n) : FnG P w K mg base (n + 1) ((ft K).a 2) ((ft K).fd 2) ((ft K).ps 2) (spG (gx P w K) tb (n + 1) 2) :=
  fn_okD (N := N_2) (ps := ["script", "k"]) W.F_2 ⟨rfl, rfl, rfl, by decide +kernel, rfl, by decide +kernel, by decide +kernel⟩ rfl rfl (p_2 W ih)
def N_3 : List Str := ["feed", "many", "digit"]
theorem p_3 (W : WF K mg) (ih : AllOk P w K mg base (gx P w K) tb (ft K) 15 n) (cdv : Value) (A : Around) (outer : List PySem.Env) (s : Shared) (H : Hp) (E : XK) (hr0 : Rb n (A.deeper (envOfC "_law_take" (defScope (top 8)) s.heap.objs.size ((ft K).a 3) cdv))) :
    PSs (cxOf (L2.CX P w) P w K mg base N_3 "_law_take" (defScope (top 8)) ((ft K).a 3) cdv A outer s H E) (defBody (top 8)) (tS (gx P w K) (orcN tb n) (fun c d _ H => E c d H) c_3) := by
  have R : Rn (cxOf (L2.CX P w) P w K mg base N_3 "_law_take" (defScope (top 8)) ((ft K).a 3) cdv A outer s H E) (gx P w K) (orcN tb n) tb (ft K) 15 n (fun c d _ H => E c d H) := Rn.fn rfl rfl rfl (by decide +kernel) hr0 ih
  have hu := G.hu_of R.room
  have hu5 := G.hu5_of R.room
  exact ss_cons (s_if (m_cmpT R.K o_gt (m_ix (m_var (i := 0) rfl (vis_of rfl) rfl rfl) (m_int) (fun _ _ => rfl)) (m_int) (nomark _)) (ss_cons (s_set R.nd rfl (loc_of rfl) (m_bin o_mod (e_ty (x := "int") b_int rfl W.f_int W.v_int (l_cons (m_ix (m_var (i := 0) rfl (vis_of rfl) rfl rfl) (m_int) (fun _ _ => rfl)) (l_nil) rfl) (by decide) rfl rfl rfl) (m_var (i := 1) rfl (vis_of rfl) rfl rfl)) rfl (.inl rfl)) (ss_cons (s_asg (m_bin o_div (m_ix (m_var (i := 0) rfl (vis_of rfl) rfl rfl) (m_int) (fun _ _ => rfl)) (m_var (i := 1) rfl (vis_of rfl) rfl rfl)) (g_sub (m_var (i := 0) rfl (vis_of rfl) rfl rfl) (m_int) (fun _ => rfl)) rfl rfl rfl) (ss_cons (s_ret (m_var (i := 2) rfl (vis_of rfl) rfl rfl)) (ss_nil)))) (ss_nil)) (ss_cons (s_asg (m_bin o_mod (e_ty (x := "int") b_int rfl W.f_int W.v_int (l_cons (m_bin o_add (m_bin o_mul (m_ix (m_var (i := 0) rfl (vis_of rfl) rfl rfl) (m_int) (fun _ _ => rfl)) (m_int)) (m_int)) (l_nil) rfl) (by decide) rfl rfl rfl) (m_int)) (g_sub (m_var (i := 0) rfl (vis_of rfl) rfl rfl) (m_int) (fun _ => rfl)) rfl rfl rfl) (ss_cons (s_ret (m_bin o_mod (e_ty (x := "int") b_int rfl W.f_int W.v_int (l_cons (m_bin o_div (m_ix (m_var (i := 0) rfl (vis_of rfl) rfl rfl) (m_int) (fun _ _ => rfl)) (m_int)) (l_nil) rfl) (by decide) rfl rfl rfl) (m_var (i := 1) rfl (vis_of rfl) rfl rfl))) (ss_nil)))
theorem ok_3 (W : WF K mg) (ih : AllOk P w K mg base (gx P w K) tb (ft K) 15 n) : FnG P w K mg base (n + 1) ((ft K).a 3) ((ft K).fd 3) ((ft K).ps 3) (spG (gx P w K) tb (n + 1) 3) :=
  fn_okD (N := N_3) (ps := ["feed", "many"]) W.F_3 ⟨rfl, rfl, rfl, by decide +kernel, rfl, by decide +kernel, by decide +kernel⟩ rfl rfl (p_3 W ih)
def N_4 : List Str := ["feed", "some"]
theorem p_4 (W : WF K mg) (ih : AllOk P w K mg base (gx P w K) tb (ft K) 15 n) (cdv : Value) (A : Around) (outer : List PySem.Env) (s : Shared) (H : Hp) (E : XK) (hr0 : Rb n (A.deeper (envOfC "_law_pick" (defScope (top 9)) s.heap.objs.size ((ft K).a 4) cdv))) :
    PSs (cxOf (L2.CX P w) P w K mg base N_4 "_law_pick" (defScope (top 9)) ((ft K).a 4) cdv A outer s H E) (defBody (top 9)) (tS (gx P w K) (orcN tb n) (fun c d _ H => E c d H) c_4) := by
  have R : Rn (cxOf (L2.CX P w) P w K mg base N_4 "_law_pick" (defScope (top 9)) ((ft K).a 4) cdv A outer s H E) (gx P w K) (orcN tb n) tb (ft K) 15 n (fun c d _ H => E c d H) := Rn.fn rfl rfl rfl (by decide +kernel) hr0 ih
  have hu := G.hu_of R.room
  have hu5 := G.hu5_of R.room
  exact ss_cons (s_ret (m_ix (m_var (i := 1) rfl (vis_of rfl) rfl rfl) (e_call (x := "_law_take") R (f := 3) (by decide) rfl W.g_3 W.k_3 W.b_3 (l_cons (m_var (i := 0) rfl (vis_of rfl) rfl rfl) (l_cons (e_bi (x := "len") (b_len R.K) rfl W.f_len W.v_len (l_cons (m_var (i := 1) rfl (vis_of rfl) rfl rfl) (l_nil) rfl) (by decide) rfl rfl rfl) (l_nil) rfl) rfl) rfl rfl rfl) (fun _ _ => rfl))) (ss_nil)
theorem ok_4 (W : WF K mg) (ih : AllOk P w K mg base (gx P w K) tb (ft K) 15 n) : FnG P w K mg base (n + 1) ((ft K).a 4) ((ft K).fd 4) ((ft K).ps 4) (spG (gx P w K) tb (n + 1) 4) :=
  fn_okD (N := N_4) (ps := ["feed", "some"]) W.F_4 ⟨rfl, rfl, rfl, by decide +kernel, rfl, by decide +kernel, by decide +kernel⟩ rfl rfl (p_4 W ih)
def N_5 : List Str := ["feed", "some"]
theorem p_5 (W : WF K mg) (ih : AllOk P w K mg base (gx P w K) tb (ft K) 15 n) (cdv : Value) (A : Around) (outer : List PySem.Env) (s : Shared) (H : Hp) (E : XK) (hr0 : Rb n (A.deeper (envOfC "_law_names" (defScope (top 10)) s.heap.objs.size ((ft K).a 5) cdv))) :
    PSs (cxOf (L2.CX P w) P w K mg base N_5 "_law_names" (defScope (top 10)) ((ft K).a 5) cdv A outer s H E) (defBody (top 10)) (tS (gx P w K) (orcN tb n) (fun c d _ H => E c d H) c_5) := by
  have R : Rn (cxOf (L2.CX P w) P w K mg base N_5 "_law_names" (defScope (top 10)) ((ft K).a 5) cdv A outer s H E) (gx P w K) (orcN tb n) tb (ft K) 15 n (fun c d _ H => E c d H) := Rn.fn rfl rfl rfl (by decide +kernel) hr0 ih
  have hu := G.hu_of R.room
  have hu5 := G.hu5_of R.room
  exact ss_cons (s_set R.nd rfl (loc_of rfl) (m_lst (l_cons (m_lst (l_cons (m_str rfl (sOk_of rfl)) (l_cons (m_str rfl (sOk_of rfl)) (l_cons (m_str rfl (sOk_of rfl)) (l_cons (m_str rfl (sOk_of rfl)) (l_cons (m_str rfl (sOk_of rfl)) (l_cons (m_str rfl (sOk_of rfl)) (l_nil) rfl) rfl) rfl) rfl) rfl) rfl)) (l_cons (m_lst (l_cons (m_str rfl (sOk_of rfl)) (l_cons (m_str rfl (sOk_of rfl)) (l_cons (m_str rfl (sOk_of rfl)) (l_cons (m_str rfl (sOk_of rfl)) (l_cons (m_str rfl (sOk_of rfl)) (l_cons (m_str rfl (sOk_of rfl)) (l_nil) rfl) rfl) rfl) rfl) rfl) rfl)) (l_cons (m_lst (l_cons (m_str rfl (sOk_of rfl)) (l_cons (m_str rfl (sOk_of rfl)) (l_cons (m_str rfl (sOk_of rfl)) (l_cons (m_str rfl (sOk_of rfl)) (l_cons (m_str rfl (sOk_of rfl)) (l_cons (m_str rfl (sOk_of rfl)) (l_nil) rfl) rfl) rfl) rfl) rfl) rfl)) (l_nil) rfl) rfl) rfl)) rfl (.inl rfl)) (ss_cons (s_set R.nd rfl (loc_of rfl) (m_bin o_add (m_var (i := 1) rfl (vis_of rfl) rfl rfl) (m_lst (l_cons (m_lst (l_cons (m_str rfl (sOk_of rfl)) (l_cons (m_str rfl (sOk_of rfl)) (l_cons (m_str rfl (sOk_of rfl)) (l_cons (m_str rfl (sOk_of rfl)) (l_cons (m_str rfl (sOk_of rfl)) (l_cons (m_str rfl (sOk_of rfl)) (l_nil) rfl) rfl) rfl) rfl) rfl) rfl)) (l_cons (m_lst (l_cons (m_str rfl (sOk_of rfl)) (l_cons (m_str rfl (sOk_of rfl)) (l_cons (m_str rfl (sOk_of rfl)) (l_cons (m_str rfl (sOk_of rfl)) (l_cons (m_str rfl (sOk_of rfl)) (l_cons (m_str rfl (sOk_of rfl)) (l_nil) rfl) rfl) rfl) rfl) rfl) rfl)) (l_nil) rfl) rfl))) rfl (.inl rfl)) (ss_cons (s_ret (e_call (x := "_law_pick") R (f := 4) (by decide) rfl W.g_4 W.k_4 W.b_4 (l_cons (m_var (i := 0) rfl (vis_of rfl) rfl rfl) (l_cons (m_bin o_add (m_var (i := 1) rfl (vis_of rfl) rfl rfl) (m_lst (l_cons (m_lst (l_cons (m_str rfl (sOk_of rfl)) (l_cons (m_str rfl (sOk_of rfl)) (l_cons (m_str rfl (sOk_of rfl)) (l_cons (m_str rfl (sOk_of rfl)) (l_cons (m_str rfl (sOk_of rfl)) (l_cons (m_str rfl (sOk_of rfl)) (l_nil) rfl) rfl) rfl) rfl) rfl) rfl)) (l_nil) rfl))) (l_nil) rfl) rfl) rfl rfl rfl)) (ss_nil)))
theorem ok_5 (W : WF K mg) (ih : AllOk P w K mg base (gx P w K) tb (ft K) 15 n) : FnG P w K mg base (n + 1) ((ft K).a 5) ((ft K).fd 5) ((ft K).ps 5) (spG (gx P w K) tb (n + 1) 5) :=
  fn_okD (N := N_5) (ps := ["feed"]) W.F_5 ⟨rfl, rfl, rfl, by decide +kernel, rfl, by decide +kernel, by decide +kernel⟩ rfl rfl (p_5 W ih)
def N_6 : List Str := ["feed", "names", "nodes", "levels", "way", "left", "child"]
theorem p_6 (W : WF K mg) (ih : AllOk P w K mg base (gx P w K) tb (ft K) 15 n) (cdv : Value) (A : Around) (outer : List PySem.Env) (s : Shared) (H : Hp) (E : XK) (hr0 : Rb n (A.deeper (envOfC "_law_grow" (defScope (top 11)) s.heap.objs.size ((ft K).a 6) cdv))) :
    PSs (cxOf (L2.CX P w) P w K mg base N_6 "_law_grow" (defScope (top 11)) ((ft K).a 6) cdv A outer s H E) (defBody (top 11)) (tS (gx P w K) (orcN tb n) (fun c d _ H => E c d H) c_6) := by
  have R : Rn (cxOf (L2.CX P w) P w K mg base N_6 "_law_grow" (defScope (top 11)) ((ft K).a 6) cdv A outer s H E) (gx P w K) (orcN tb n) tb (ft K) 15 n (fun c d _ H => E c d H) := Rn.fn rfl rfl rfl (by decide +kernel) hr0 ih
  have hu := G.hu_of R.room
  have hu5 := G.hu5_of R.room
  exact ss_cons (s_set R.nd rfl (loc_of rfl) (e_call (x := "_law_take") R (f := 3) (by decide) rfl W.g_3 W.k_3 W.b_3 (l_cons (m_var (i := 0) rfl (vis_of rfl) rfl rfl) (l_cons (m_int) (l_nil) rfl) rfl) rfl rfl rfl) rfl (.inl rfl)) (ss_cons (s_if (PW.pt (w_or (m_cmpT R.K (o_eq (by exact hu)) (m_var (i := 2) rfl (vis_of rfl) rfl rfl) (m_int) (nomark _)) (w_or (m_cmpT R.K (o_eq (by exact hu)) (m_var (i := 3) rfl (vis_of rfl) rfl rfl) (m_int) (nomark _)) (w_or1 (m_cmpT R.K (o_eq (by exact hu)) (m_var (i := 4) rfl (vis_of rfl) rfl rfl) (m_int) (nomark _)))))) (ss_cons (s_ret (m_tup (l_cons (m_ix (m_var (i := 1) rfl (vis_of rfl) rfl rfl) (e_call (x := "_law_take") R (f := 3) (by decide) rfl W.g_3 W.k_3 W.b_3 (l_cons (m_var (i := 0) rfl (vis_of rfl) rfl rfl) (l_cons (m_int) (l_nil) rfl) rfl) rfl rfl rfl) (fun _ _ => rfl)) (l_nil) rfl))) (ss_nil)) (ss_nil)) (ss_cons (s_if (PW.pt (w_or (m_cmpT R.K (o_eq (by exact hu)) (m_var (i := 2) rfl (vis_of rfl) rfl rfl) (m_int) (nomark _)) (w_or1 (m_cmpT R.K (o_eq (by exact hu)) (m_var (i := 4) rfl (vis_of rfl) rfl rfl) (m_int) (nomark _))))) (ss_cons (s_ret (m_tup (l_cons (m_ix (m_var (i := 1) rfl (vis_of rfl) rfl rfl) (m_bin o_add (m_int) (e_call (x := "_law_take") R (f := 3) (by decide) rfl W.g_3 W.k_3 W.b_3 (l_cons (m_var (i := 0) rfl (vis_of rfl) rfl rfl) (l_cons (m_int) (l_nil) rfl) rfl) rfl rfl rfl)) (fun _ _ => rfl)) (l_cons (e_call (x := "_law_grow") R (f := 6) (by decide) rfl W.g_6 W.k_6 W.b_6 (l_cons (m_var (i := 0) rfl (vis_of rfl) rfl rfl) (l_cons (m_var (i := 1) rfl (vis_of rfl) rfl rfl) (l_cons (m_bin o_sub (m_var (i := 2) rfl (vis_of rfl) rfl rfl) (m_int)) (l_cons (m_bin o_sub (m_var (i := 3) rfl (vis_of rfl) rfl rfl) (m_int)) (l_nil) rfl) rfl) rfl) rfl) rfl rfl rfl) (l_nil) rfl) rfl))) (ss_nil)) (ss_nil)) (ss_cons (s_set R.nd rfl (loc_of rfl) (m_bin o_add (m_int) (e_call (x := "_law_take") R (f := 3) (by decide) rfl W.g_3 W.k_3 W.b_3 (l_cons (m_var (i := 0) rfl (vis_of rfl) rfl rfl) (l_cons (m_bin o_sub (m_var (i := 2) rfl (vis_of rfl) rfl rfl) (m_int)) (l_nil) rfl) rfl) rfl rfl rfl)) rfl (.inl rfl)) (ss_cons (s_set R.nd rfl (loc_of rfl) (e_call (x := "_law_grow") R (f := 6) (by decide) rfl W.g_6 W.k_6 W.b_6 (l_cons (m_var (i := 0) rfl (vis_of rfl) rfl rfl) (l_cons (m_var (i := 1) rfl (vis_of rfl) rfl rfl) (l_cons (m_var (i := 5) rfl (vis_of rfl) rfl rfl) (l_cons (m_bin o_sub (m_var (i := 3) rfl (vis_of rfl) rfl rfl) (m_int)) (l_nil) rfl) rfl) rfl) rfl) rfl rfl rfl) rfl (.inl rfl)) (ss_cons (s_ret (m_tup (l_cons (m_ix (m_var (i := 1) rfl (vis_of rfl) rfl rfl) (m_int) (fun _ _ => rfl)) (l_cons (m_var (i := 6) rfl (vis_of rfl) rfl rfl) (l_cons (e_call (x := "_law_grow") R (f := 6) (by decide) rfl W.g_6 W.k_6 W.b_6 (l_cons (m_var (i := 0) rfl (vis_of rfl) rfl rfl) (l_cons (m_var (i := 1) rfl (vis_of rfl) rfl rfl) (l_cons (m_bin o_sub (m_bin o_sub (m_var (i := 2) rfl (vis_of rfl) rfl rfl) (m_int)) (m_var (i := 5) rfl (vis_of rfl) rfl rfl)) (l_cons (m_bin o_sub (m_var (i := 3) rfl (vis_of rfl) rfl rfl) (m_int)) (l_nil) rfl) rfl) rfl) rfl) rfl rfl rfl) (l_nil) rfl) rfl) rfl))) (ss_nil))))))
theorem ok_6 (W : WF K mg) (ih : AllOk P w K mg base (gx P w K) tb (ft K) 15 n) : FnG P w K mg base (n + 1) ((ft K).a 6) ((ft K).fd 6) ((ft K).ps 6) (spG (gx P w K) tb (n + 1) 6) :=
  fn_okD (N := N_6) (ps := ["feed", "names", "nodes", "levels"]) W.F_6 ⟨rfl, rfl, rfl, by decide +kernel, rfl, by decide +kernel, by decide +kernel⟩ rfl rfl (p_6 W ih)
def N_7 : List Str := ["feed", "names", "nodes"]
theorem p_7 (W : WF K mg) (ih : AllOk P w K mg base (gx P w K) tb (ft K) 15 n) (cdv : Value) (A : Around) (outer : List PySem.Env) (s : Shared) (H : Hp) (E : XK) (hr0 : Rb n (A.deeper (envOfC "_law_tree" (defScope (top 12)) s.heap.objs.size ((ft K).a 7) cdv))) :
    PSs (cxOf (L2.CX P w) P w K mg base N_7 "_law_tree" (defScope (top 12)) ((ft K).a 7) cdv A outer s H E) (defBody (top 12)) (tS (gx P w K) (orcN tb n) (fun c d _ H => E c d H) c_7) := by
  have R : Rn (cxOf (L2.CX P w) P w K mg base N_7 "_law_tree" (defScope (top 12)) ((ft K).a 7) cdv A outer s H E) (gx P w K) (orcN tb n) tb (ft K) 15 n (fun c d _ H => E c d H) := Rn.fn rfl rfl rfl (by decide +kernel) hr0 ih
  have hu := G.hu_of R.room
  have hu5 := G.hu5_of R.room
  exact ss_cons (s_ret (e_call (x := "_law_grow") R (f := 6) (by decide) rfl W.g_6 W.k_6 W.b_6 (l_cons (m_var (i := 0) rfl (vis_of rfl) rfl rfl) (l_cons (m_var (i := 1) rfl (vis_of rfl) rfl rfl) (l_cons (m_var (i := 2) rfl (vis_of rfl) rfl rfl) (l_cons (m_int) (l_nil) rfl) rfl) rfl) rfl) rfl rfl rfl)) (ss_nil)
theorem ok_7 (W : WF K mg) (ih : AllOk P w K mg base (gx P w K) tb (ft K) 15 n) : FnG P w K mg base (n + 1) ((ft K).a 7) ((ft K).fd 7) ((ft K).ps 7) (spG (gx P w K) tb (n + 1) 7) :=
  fn_okD (N := N_7) (ps := ["feed", "names", "nodes"]) W.F_7 ⟨rfl, rfl, rfl, by decide +kernel, rfl, by decide +kernel, by decide +kernel⟩ rfl rfl (p_7 W ih)
def N_8 : List Str := ["tree", "found", "number", "child", "place", "part"]
theorem p_8 (W : WF K mg) (ih : AllOk P w K mg base (gx P w K) tb (ft K) 15 n) (cdv : Value) (A : Around) (outer : List PySem.Env) (s : Shared) (H : Hp) (E : XK) (hr0 : Rb n (A.deeper (envOfC "_law_places" (defScope (top 13)) s.heap.objs.size ((ft K).a 8) cdv))) :
    PSs (cxOf (L2.CX P w) P w K mg base N_8 "_law_places" (defScope (top 13)) ((ft K).a 8) cdv A outer s H E) (defBody (top 13)) (tS (gx P w K) (orcN tb n) (fun c d _ H => E c d H) c_8) := by
  have R : Rn (cxOf (L2.CX P w) P w K mg base N_8 "_law_places" (defScope (top 13)) ((ft K).a 8) cdv A outer s H E) (gx P w K) (orcN tb n) tb (ft K) 15 n (fun c d _ H => E c d H) := Rn.fn rfl rfl rfl (by decide +kernel) hr0 ih
  have hu := G.hu_of R.room
  have hu5 := G.hu5_of R.room
  exact ss_cons (s_set R.nd rfl (loc_of rfl) (m_lst (l_cons (m_tup (l_cons (m_tup (l_nil)) (l_cons (m_var (i := 0) rfl (vis_of rfl) rfl rfl) (l_nil) rfl) rfl)) (l_nil) rfl)) rfl (.inl rfl)) (ss_cons (s_for R.owns R.calm (i_enum rfl (W.f_enumerate) (m_sl R.K (m_var (i := 0) rfl (vis_of rfl) rfl rfl) (o_some (m_int)) (o_none)) rfl) (g_tup R.calm (gs_cons (g_name R.nd rfl (loc_of rfl) (.inl rfl)) (gs_cons (g_name R.nd rfl (loc_of rfl) (.inl rfl)) (gs_nil) rfl) rfl) rfl rfl) (ss_cons (s_set R.nd rfl (loc_of rfl) (m_bin o_add (m_var (i := 1) rfl (vis_of rfl) rfl rfl) (by refine m_lc R.calm R.nd (own := [("place", 4), ("part", 5)]) (f := id) (hi := ?hi_9) (ok := ?ok_9) (hg := ?hg_9) (ht := ?ht_9) (he := ?he_9) (hs := ?hs_9); (case hi_9 => exact i_val (e_call (x := "_law_places") R (f := 8) (by decide) rfl W.g_8 W.k_8 W.b_8 (l_cons (m_var (i := 3) rfl (vis_of rfl) rfl rfl) (l_nil) rfl) rfl rfl rfl)); (case ok_9 => exact blk_ok (N := N_8) (sc := defScope (top 13)) (own := [("place", 4), ("part", 5)]) (by decide +kernel)); (case hg_9 => exact (inBlk R fun s H C cl fp R => v_tup R.calm (vs_cons (v_name (by decide) R.nd rfl (loc_of rfl) (by first | exact .inl rfl | exact .inr rfl)) (vs_cons (v_name (by decide) R.nd rfl (loc_of rfl) (by first | exact .inl rfl | exact .inr rfl)) (vs_nil) rfl) rfl) rfl rfl)); (case ht_9 => exact .no); (case he_9 => exact (inBlk R fun s H C cl fp R => m_tup (l_cons (m_bin o_add (m_tup (l_cons (m_var (i := 2) rfl (vis_of rfl) rfl rfl) (l_nil) rfl)) (m_var (i := 4) rfl (vis_of rfl) rfl rfl)) (l_cons (m_var (i := 5) rfl (vis_of rfl) rfl rfl) (l_nil) rfl) rfl))); (case hs_9 => exact fun _ => rfl))) rfl (.inl rfl)) (ss_nil)) (fun _ => rfl)) (ss_cons (s_ret (m_var (i := 1) rfl (vis_of rfl) rfl rfl)) (ss_nil)))
theorem ok_8 (W : WF K mg) (ih : AllOk P w K mg base (gx P w K) tb (ft K) 15 n) : FnG P w K mg base (n + 1) ((ft K).a 8) ((ft K).fd 8) ((ft K).ps 8) (spG (gx P w K) tb (n + 1) 8) :=
  fn_okD (N := N_8) (ps := ["tree"]) W.F_8 ⟨rfl, rfl, rfl, by decide +kernel, rfl, by decide +kernel, by decide +kernel⟩ rfl rfl (p_8 W ih)
def N_9 : List Str := ["tree", "place", "part", "at"]
theorem p_9 (W : WF K mg) (ih : AllOk P w K mg base (gx P w K) tb (ft K) 15 n) (cdv : Value) (A : Around) (outer : List PySem.Env) (s : Shared) (H : Hp) (E : XK) (hr0 : Rb n (A.deeper (envOfC "_law_put" (defScope (top 14)) s.heap.objs.size ((ft K).a 9) cdv))) :
    PSs (cxOf (L2.CX P w) P w K mg base N_9 "_law_put" (defScope (top 14)) ((ft K).a 9) cdv A outer s H E) (defBody (top 14)) (tS (gx P w K) (orcN tb n) (fun c d _ H => E c d H) c_9) := by
  have R : Rn (cxOf (L2.CX P w) P w K mg base N_9 "_law_put" (defScope (top 14)) ((ft K).a 9) cdv A outer s H E) (gx P w K) (orcN tb n) tb (ft K) 15 n (fun c d _ H => E c d H) := Rn.fn rfl rfl rfl (by decide +kernel) hr0 ih
  have hu := G.hu_of R.room
  have hu5 := G.hu5_of R.room
  exact ss_cons (s_if (m_cmpT R.K (o_eq (by exact hu)) (m_var (i := 1) rfl (vis_of rfl) rfl rfl) (m_tup (l_nil)) (nomark _)) (ss_cons (s_ret (m_var (i := 2) rfl (vis_of rfl) rfl rfl)) (ss_nil)) (ss_nil)) (ss_cons (s_set R.nd rfl (loc_of rfl) (m_bin o_add (m_ix (m_var (i := 1) rfl (vis_of rfl) rfl rfl) (m_int) (fun _ _ => rfl)) (m_int)) rfl (.inl rfl)) (ss_cons (s_ret (m_bin o_add (m_bin o_add (m_sl R.K (m_var (i := 0) rfl (vis_of rfl) rfl rfl) (o_none) (o_some (m_var (i := 3) rfl (vis_of rfl) rfl rfl))) (m_tup (l_cons (e_call (x := "_law_put") R (f := 9) (by decide) rfl W.g_9 W.k_9 W.b_9 (l_cons (m_ix (m_var (i := 0) rfl (vis_of rfl) rfl rfl) (m_var (i := 3) rfl (vis_of rfl) rfl rfl) (fun _ _ => rfl)) (l_cons (m_sl R.K (m_var (i := 1) rfl (vis_of rfl) rfl rfl) (o_some (m_int)) (o_none)) (l_cons (m_var (i := 2) rfl (vis_of rfl) rfl rfl) (l_nil) rfl) rfl) rfl) rfl rfl rfl) (l_nil) rfl))) (m_sl R.K (m_var (i := 0) rfl (vis_of rfl) rfl rfl) (o_some (m_bin o_add (m_var (i := 3) rfl (vis_of rfl) rfl rfl) (m_int))) (o_none)))) (ss_nil)))
theorem ok_9 (W : WF K mg) (ih : AllOk P w K mg base (gx P w K) tb (ft K) 15 n) : FnG P w K mg base (n + 1) ((ft K).a 9) ((ft K).fd 9) ((ft K).ps 9) (spG (gx P w K) tb (n + 1) 9) :=
  fn_okD (N := N_9) (ps := ["tree", "place", "part"]) W.F_9 ⟨rfl, rfl, rfl, by decide +kernel, rfl, by decide +kernel, by decide +kernel⟩ rfl rfl (p_9 W ih)
def N_10 : List Str := ["feed", "tree", "some"]
theorem p_10 (W : WF K mg) (ih : AllOk P w K mg base (gx P w K) tb (ft K) 15 n) (cdv : Value) (A : Around) (outer : List PySem.Env) (s : Shared) (H : Hp) (E : XK) (hr0 : Rb n (A.deeper (envOfC "_law_odd" (defScope (top 15)) s.heap.objs.size ((ft K).a 10) cdv))) :
    PSs (cxOf (L2.CX P w) P w K mg base N_10 "_law_odd" (defScope (top 15)) ((ft K).a 10) cdv A outer s H E) (defBody (top 15)) (tS (gx P w K) (orcN tb n) (fun c d _ H => E c d H) c_10) := by
  have R : Rn (cxOf (L2.CX P w) P w K mg base N_10 "_law_odd" (defScope (top 15)) ((ft K).a 10) cdv A outer s H E) (gx P w K) (orcN tb n) tb (ft K) 15 n (fun c d _ H => E c d H) := Rn.fn rfl rfl rfl (by decide +kernel) hr0 ih
  have hu := G.hu_of R.room
  have hu5 := G.hu5_of R.room
  exact ss_cons (s_set R.nd rfl (loc_of rfl) (m_lst (l_cons (m_non) (l_cons (m_int) (l_cons (m_bl) (l_cons (m_str rfl (sOk_of rfl)) (l_cons (m_str rfl (sOk_of rfl)) (l_cons (m_tup (l_nil)) (l_cons (m_lst (l_nil)) (l_cons (m_dict0) (l_cons (m_tup (l_cons (m_str rfl (sOk_of rfl)) (l_cons (m_int) (l_nil) rfl) rfl)) (l_cons (m_tup (l_cons (m_str rfl (sOk_of rfl)) (l_nil) rfl)) (l_cons (m_tup (l_cons (m_str rfl (sOk_of rfl)) (l_nil) rfl)) (l_cons (m_tup (l_cons (m_str rfl (sOk_of rfl)) (l_nil) rfl)) (l_cons (m_tup (l_cons (m_tup (l_cons (m_str rfl (sOk_of rfl)) (l_nil) rfl)) (l_nil) rfl)) (l_cons (m_tup (l_cons (m_str rfl (sOk_of rfl)) (l_nil) rfl)) (l_cons (m_tup (l_cons (m_int) (l_nil) rfl)) (l_nil) rfl) rfl) rfl) rfl) rfl) rfl) rfl) rfl) rfl) rfl) rfl) rfl) rfl) rfl) rfl)) rfl (.inl rfl)) (ss_cons (s_set R.nd rfl (loc_of rfl) (m_bin o_add (m_var (i := 2) rfl (vis_of rfl) rfl rfl) (m_lst (l_cons (e_ty (x := "list") (b_list R.K) rfl W.f_list W.v_list (l_cons (m_var (i := 1) rfl (vis_of rfl) rfl rfl) (l_nil) rfl) (by decide) rfl rfl rfl) (l_cons (m_bin o_add (m_var (i := 1) rfl (vis_of rfl) rfl rfl) (m_bin o_mul (m_tup (l_cons (m_tup (l_cons (m_str rfl (sOk_of rfl)) (l_nil) rfl)) (l_nil) rfl)) (m_int))) (l_cons (m_bin o_add (m_var (i := 1) rfl (vis_of rfl) rfl rfl) (m_tup (l_cons (m_non) (l_nil) rfl))) (l_cons (m_bin o_add (m_var (i := 1) rfl (vis_of rfl) rfl rfl) (m_tup (l_cons (m_str rfl (sOk_of rfl)) (l_nil) rfl))) (l_cons (m_tup (l_cons (m_var (i := 1) rfl (vis_of rfl) rfl rfl) (l_nil) rfl)) (l_cons (m_tup (l_cons (m_ix (m_var (i := 1) rfl (vis_of rfl) rfl rfl) (m_int) (fun _ _ => rfl)) (l_cons (m_lst (l_cons (m_var (i := 1) rfl (vis_of rfl) rfl rfl) (l_nil) rfl)) (l_nil) rfl) rfl)) (l_nil) rfl) rfl) rfl) rfl) rfl) rfl))) rfl (.inl rfl)) (ss_cons (s_expr (e_bmL PySem.F.slot_list_append PySem.F.type_list_append bm_append (m_var (i := 2) rfl (vis_of rfl) rfl rfl) (l_cons (m_dict1 R.P R.w (by exact hu) (m_str rfl (sOk_of rfl)) (m_var (i := 1) rfl (vis_of rfl) rfl rfl)) (l_nil) rfl) rfl rfl rfl rfl rfl) rfl) (ss_cons (s_ret (e_call (x := "_law_pick") R (f := 4) (by decide) rfl W.g_4 W.k_4 W.b_4 (l_cons (m_var (i := 0) rfl (vis_of rfl) rfl rfl) (l_cons (m_bin o_add (m_var (i := 2) rfl (vis_of rfl) rfl rfl) (m_lst (l_cons (m_tup (l_cons (m_str rfl (sOk_of rfl)) (l_cons (m_tup (l_cons (m_str rfl (sOk_of rfl)) (l_cons (m_tup (l_cons (m_str rfl (sOk_of rfl)) (l_nil) rfl)) (l_nil) rfl) rfl)) (l_nil) rfl) rfl)) (l_cons (m_tup (l_cons (m_str rfl (sOk_of rfl)) (l_cons (m_tup (l_cons (m_str rfl (sOk_of rfl)) (l_cons (m_lst (l_cons (m_str rfl (sOk_of rfl)) (l_nil) rfl)) (l_nil) rfl) rfl)) (l_nil) rfl) rfl)) (l_cons (m_bin o_add (m_tup (l_cons (m_non) (l_nil) rfl)) (m_sl R.K (m_var (i := 1) rfl (vis_of rfl) rfl rfl) (o_some (m_int)) (o_none))) (l_cons (m_bin o_pow (m_int) (m_int)) (l_nil) rfl) rfl) rfl) rfl))) (l_nil) rfl) rfl) rfl rfl rfl)) (ss_nil))))
theorem ok_10 (W : WF K mg) (ih : AllOk P w K mg base (gx P w K) tb (ft K) 15 n) : FnG P w K mg base (n + 1) ((ft K).a 10) ((ft K).fd 10) ((ft K).ps 10) (spG (gx P w K) tb (n + 1) 10) :=
  fn_okD (N := N_10) (ps := ["feed", "tree"]) W.F_10 ⟨rfl, rfl, rfl, by decide +kernel, rfl, by decide +kernel, by decide +kernel⟩ rfl rfl (p_10 W ih)
def N_11 : List Str := ["value", "child", "sign"]
theorem p_11 (W : WF K mg) (ih : AllOk P w K mg base (gx P w K) tb (ft K) 15 n) (cdv : Value) (A : Around) (outer : List PySem.Env) (s : Shared) (H : Hp) (E : XK) (hr0 : Rb n (A.deeper (envOfC "_law_is_tree" (defScope (top 16)) s.heap.objs.size ((ft K).a 11) cdv))) :
    PSs (cxOf (L2.CX P w) P w K mg base N_11 "_law_is_tree" (defScope (top 16)) ((ft K).a 11) cdv A outer s H E) (defBody (top 16)) (tS (gx P w K) (orcN tb n) (fun c d _ H => E c d H) c_11) := by
  have R : Rn (cxOf (L2.CX P w) P w K mg base N_11 "_law_is_tree" (defScope (top 16)) ((ft K).a 11) cdv A outer s H E) (gx P w K) (orcN tb n) tb (ft K) 15 n (fun c d _ H => E c d H) := Rn.fn rfl rfl rfl (by decide +kernel) hr0 ih
  have hu := G.hu_of R.room
  have hu5 := G.hu5_of R.room
  exact ss_cons (s_if (PW.pt (w_or (m_notT (m_truth R.K (e_isi R.K ty_tup rfl W.f_isinstance (m_var (i := 0) rfl (vis_of rfl) rfl rfl) (pe_bltn (v := .ty "tuple") (u := .type "tuple") rfl W.f_tuple (by decide +kernel) rfl (by decide) rfl) (.ty "tuple") rfl rfl rfl) (fun _ => rfl))) (w_or (m_notT (m_chainT R.K o_le o_le (m_int) (e_bi (x := "len") (b_len R.K) rfl W.f_len W.v_len (l_cons (m_var (i := 0) rfl (vis_of rfl) rfl rfl) (l_nil) rfl) (by decide) rfl rfl rfl) (m_int) (by with_unfolding_all rfl))) (w_or1 (m_notT (m_truth R.K (e_isi R.K ty_str rfl W.f_isinstance (m_ix (m_var (i := 0) rfl (vis_of rfl) rfl rfl) (m_int) (fun _ _ => rfl)) (pe_bltn (v := .ty "str") (u := .type "str") rfl W.f_str (by decide +kernel) rfl (by decide) rfl) (.ty "str") rfl rfl rfl) (fun _ => rfl))))))) (ss_cons (s_ret (m_bl)) (ss_nil)) (ss_nil)) (ss_cons (s_if (PW.pt (w_or (m_notT (m_chainT R.K o_le o_le (m_int) (e_bi (x := "len") (b_len R.K) rfl W.f_len W.v_len (l_cons (m_ix (m_var (i := 0) rfl (vis_of rfl) rfl rfl) (m_int) (fun _ _ => rfl)) (l_nil) rfl) (by decide) rfl rfl rfl) (m_int) (by with_unfolding_all rfl))) (w_or1 (m_cmpT R.K (o_ne (by exact hu)) (by refine m_lc R.calm R.nd (own := [("sign", 2)]) (f := cIf (eOp oNotIn (eVar 2) (eC (.str [97, 98, 99, 100, 101, 102, 103, 104, 105, 106, 107, 108, 109, 110, 111, 112, 113, 114, 115, 116, 117, 118, 119, 120, 121, 122])))) (hi := ?hi_10) (ok := ?ok_10) (hg := ?hg_10) (ht := ?ht_10) (he := ?he_10) (hs := ?hs_10); (case hi_10 => exact i_val (m_ix (m_var (i := 0) rfl (vis_of rfl) rfl rfl) (m_int) (fun _ _ => rfl))); (case ok_10 => exact blk_ok (N := N_11) (sc := defScope (top 16)) (own := [("sign", 2)]) (by decide +kernel)); (case hg_10 => exact (inBlk R fun s H C cl fp R => v_name (by decide) R.nd rfl (loc_of rfl) (by first | exact .inl rfl | exact .inr rfl))); (case ht_10 => exact (.one (inBlk R fun s H C cl fp R => m_cmpT R.K (o_notin (by exact hu5) R.K) (m_var (i := 2) rfl (vis_of rfl) rfl rfl) (m_str rfl (sOk_of rfl)) rfl))); (case he_10 => exact (inBlk R fun s H C cl fp R => m_var (i := 2) rfl (vis_of rfl) rfl rfl)); (case hs_10 => exact fun _ => rfl)) (m_lst (l_nil)) (nomark _))))) (ss_cons (s_ret (m_bl)) (ss_nil)) (ss_nil)) (ss_cons (s_ret (m_cmp (o_eqE (by have := hu; omega)) (by refine m_lc R.calm R.nd (own := [("child", 1)]) (f := cIf (eNot (eCall 11 (elCons (eVar 1) (elNil))))) (hi := ?hi_11) (ok := ?ok_11) (hg := ?hg_11) (ht := ?ht_11) (he := ?he_11) (hs := ?hs_11); (case hi_11 => exact i_val (m_sl R.K (m_var (i := 0) rfl (vis_of rfl) rfl rfl) (o_some (m_int)) (o_none))); (case ok_11 => exact blk_ok (N := N_11) (sc := defScope (top 16)) (own := [("child", 1)]) (by decide +kernel)); (case hg_11 => exact (inBlk R fun s H C cl fp R => v_name (by decide) R.nd rfl (loc_of rfl) (by first | exact .inl rfl | exact .inr rfl))); (case ht_11 => exact (.one (inBlk R fun s H C cl fp R => m_notT (m_truth R.K (e_call (x := "_law_is_tree") R (f := 11) (by decide) rfl W.g_11 W.k_11 W.b_11 (l_cons (m_var (i := 1) rfl (vis_of rfl) rfl rfl) (l_nil) rfl) rfl rfl rfl) (fun _ => rfl))))); (case he_11 => exact (inBlk R fun s H C cl fp R => m_var (i := 1) rfl (vis_of rfl) rfl rfl)); (case hs_11 => exact fun _ => rfl)) (m_lst (l_nil)) (nomark _))) (ss_nil)))
theorem ok_11 (W : WF K mg) (ih : AllOk P w K mg base (gx P w K) tb (ft K) 15 n) : FnG P w K mg base (n + 1) ((ft K).a 11) ((ft K).fd 11) ((ft K).ps 11) (spG (gx P w K) tb (n + 1) 11) :=
  fn_okD (N := N_11) (ps := ["value"]) W.F_11 ⟨rfl, rfl, rfl, by decide +kernel, rfl, by decide +kernel, by decide +kernel⟩ rfl rfl (p_11 W ih)
def N_12 : List Str := ["feed", "letters", "word", "signs", "at", "turn"]
theorem p_12 (W : WF K mg) (ih : AllOk P w K mg base (gx P w K) tb (ft K) 15 n) (cdv : Value) (A : Around) (outer : List PySem.Env) (s : Shared) (H : Hp) (E : XK) (hr0 : Rb n (A.deeper (envOfC "_law_word" (defScope (top 17)) s.heap.objs.size ((ft K).a 12) cdv))) :
    PSs (cxOf (L2.CX P w) P w K mg base N_12 "_law_word" (defScope (top 17)) ((ft K).a 12) cdv A outer s H E) (defBody (top 17)) (tS (gx P w K) (orcN tb n) (fun c d _ H => E c d H) c_12) := by
  have R : Rn (cxOf (L2.CX P w) P w K mg base N_12 "_law_word" (defScope (top 17)) ((ft K).a 12) cdv A outer s H E) (gx P w K) (orcN tb n) tb (ft K) 15 n (fun c d _ H => E c d H) := Rn.fn rfl rfl rfl (by decide +kernel) hr0 ih
  have hu := G.hu_of R.room
  have hu5 := G.hu5_of R.room
  exact ss_cons (s_set R.nd rfl (loc_of rfl) (m_str rfl (sOk_of rfl)) rfl (.inl rfl)) (ss_cons (s_set R.nd rfl (loc_of rfl) (e_join R.K (m_str rfl (sOk_of rfl)) (by refine m_lc R.calm R.nd (own := [("turn", 5)]) (f := id) (hi := ?hi_12) (ok := ?ok_12) (hg := ?hg_12) (ht := ?ht_12) (he := ?he_12) (hs := ?hs_12); (case hi_12 => exact i_range1 rfl (W.f_range) (l_cons (m_bin o_add (m_int) (e_call (x := "_law_take") R (f := 3) (by decide) rfl W.g_3 W.k_3 W.b_3 (l_cons (m_var (i := 0) rfl (vis_of rfl) rfl rfl) (l_cons (m_int) (l_nil) rfl) rfl) rfl rfl rfl)) (l_nil) rfl) rfl); (case ok_12 => exact blk_ok (N := N_12) (sc := defScope (top 17)) (own := [("turn", 5)]) (by decide +kernel)); (case hg_12 => exact (inBlk R fun s H C cl fp R => v_name (by decide) R.nd rfl (loc_of rfl) (by first | exact .inl rfl | exact .inr rfl))); (case ht_12 => exact .no); (case he_12 => exact (inBlk R fun s H C cl fp R => e_call (x := "_law_pick") R (f := 4) (by decide) rfl W.g_4 W.k_4 W.b_4 (l_cons (m_var (i := 0) rfl (vis_of rfl) rfl rfl) (l_cons (m_var (i := 1) rfl (vis_of rfl) rfl rfl) (l_nil) rfl) rfl) rfl rfl rfl)); (case hs_12 => exact fun _ => rfl)) rfl rfl rfl) rfl (.inl rfl)) (ss_cons (s_set R.nd rfl (loc_of rfl) (m_str rfl (sOk_of rfl)) rfl (.inl rfl)) (ss_cons (s_if (m_cmpT R.K (o_eq (by exact hu)) (e_call (x := "_law_take") R (f := 3) (by decide) rfl W.g_3 W.k_3 W.b_3 (l_cons (m_var (i := 0) rfl (vis_of rfl) rfl rfl) (l_cons (m_int) (l_nil) rfl) rfl) rfl rfl rfl) (m_int) (nomark _)) (ss_cons (s_set R.nd rfl (loc_of rfl) (e_call (x := "_law_take") R (f := 3) (by decide) rfl W.g_3 W.k_3 W.b_3 (l_cons (m_var (i := 0) rfl (vis_of rfl) rfl rfl) (l_cons (m_bin o_add (e_bi (x := "len") (b_len R.K) rfl W.f_len W.v_len (l_cons (m_var (i := 2) rfl (vis_of rfl) rfl rfl) (l_nil) rfl) (by decide) rfl rfl rfl) (m_int)) (l_nil) rfl) rfl) rfl rfl rfl) rfl (.inl rfl)) (ss_cons (s_set R.nd rfl (loc_of rfl) (m_bin o_add (m_bin o_add (m_sl R.K (m_var (i := 2) rfl (vis_of rfl) rfl rfl) (o_none) (o_some (m_var (i := 4) rfl (vis_of rfl) rfl rfl))) (e_call (x := "_law_pick") R (f := 4) (by decide) rfl W.g_4 W.k_4 W.b_4 (l_cons (m_var (i := 0) rfl (vis_of rfl) rfl rfl) (l_cons (m_var (i := 3) rfl (vis_of rfl) rfl rfl) (l_nil) rfl) rfl) rfl rfl rfl)) (m_sl R.K (m_var (i := 2) rfl (vis_of rfl) rfl rfl) (o_some (m_bin o_add (m_var (i := 4) rfl (vis_of rfl) rfl rfl) (e_call (x := "_law_take") R (f := 3) (by decide) rfl W.g_3 W.k_3 W.b_3 (l_cons (m_var (i := 0) rfl (vis_of rfl) rfl rfl) (l_cons (m_int) (l_nil) rfl) rfl) rfl rfl rfl))) (o_none))) rfl (.inl rfl)) (ss_nil))) (ss_nil)) (ss_cons (s_ret (m_var (i := 2) rfl (vis_of rfl) rfl rfl)) (ss_nil)))))
theorem ok_12 (W : WF K mg) (ih : AllOk P w K mg base (gx P w K) tb (ft K) 15 n) : FnG P w K mg base (n + 1) ((ft K).a 12) ((ft K).fd 12) ((ft K).ps 12) (spG (gx P w K) tb (n + 1) 12) :=
  fn_okD (N := N_12) (ps := ["feed"]) W.F_12 ⟨rfl, rfl, rfl, by decide +kernel, rfl, by decide +kernel, by decide +kernel⟩ rfl rfl (p_12 W ih)
def N_13 : List Str := ["feed", "tree", "way", "some", "place", "part", "children", "names", "deep", "turn"]
theorem p_13 (W : WF K mg) (ih : AllOk P w K mg base (gx P w K) tb (ft K) 15 n) (cdv : Value) (A : Around) (outer : List PySem.Env) (s : Shared) (H : Hp) (E : XK) (hr0 : Rb n (A.deeper (envOfC "_law_value" (defScope (top 18)) s.heap.objs.size ((ft K).a 13) cdv))) :
    PSs (cxOf (L2.CX P w) P w K mg base N_13 "_law_value" (defScope (top 18)) ((ft K).a 13) cdv A outer s H E) (defBody (top 18)) (tS (gx P w K) (orcN tb n) (fun c d _ H => E c d H) c_13) := by
  have R : Rn (cxOf (L2.CX P w) P w K mg base N_13 "_law_value" (defScope (top 18)) ((ft K).a 13) cdv A outer s H E) (gx P w K) (orcN tb n) tb (ft K) 15 n (fun c d _ H => E c d H) := Rn.fn rfl rfl rfl (by decide +kernel) hr0 ih
  have hu := G.hu_of R.room
  have hu5 := G.hu5_of R.room
  exact ss_cons (s_par R.calm R.nd rfl rfl (by decide) rfl rfl (l_cons (e_call (x := "_law_take") R (f := 3) (by decide) rfl W.g_3 W.k_3 W.b_3 (l_cons (m_var (i := 0) rfl (vis_of rfl) rfl rfl) (l_cons (m_int) (l_nil) rfl) rfl) rfl rfl rfl) (l_cons (e_call (x := "_law_places") R (f := 8) (by decide) rfl W.g_8 W.k_8 W.b_8 (l_cons (m_var (i := 1) rfl (vis_of rfl) rfl rfl) (l_nil) rfl) rfl rfl rfl) (l_nil) rfl) rfl) rfl rfl) (ss_cons (s_asg (e_call (x := "_law_pick") R (f := 4) (by decide) rfl W.g_4 W.k_4 W.b_4 (l_cons (m_var (i := 0) rfl (vis_of rfl) rfl rfl) (l_cons (m_var (i := 3) rfl (vis_of rfl) rfl rfl) (l_nil) rfl) rfl) rfl rfl rfl) (g_tup R.calm (gs_cons (g_name R.nd rfl (loc_of rfl) (.inl rfl)) (gs_cons (g_name R.nd rfl (loc_of rfl) (.inl rfl)) (gs_nil) rfl) rfl) rfl rfl) rfl rfl rfl) (ss_cons (s_if (m_cmpT R.K (o_eq (by exact hu)) (m_var (i := 2) rfl (vis_of rfl) rfl rfl) (m_int) (nomark _)) (ss_cons (s_ret (m_var (i := 1) rfl (vis_of rfl) rfl rfl)) (ss_nil)) (ss_nil)) (ss_cons (s_if (m_cmpT R.K (o_eq (by exact hu)) (m_var (i := 2) rfl (vis_of rfl) rfl rfl) (m_int) (nomark _)) (ss_cons (s_ret (e_call (x := "_law_put") R (f := 9) (by decide) rfl W.g_9 W.k_9 W.b_9 (l_cons (m_var (i := 1) rfl (vis_of rfl) rfl rfl) (l_cons (m_var (i := 4) rfl (vis_of rfl) rfl rfl) (l_cons (e_call (x := "_law_odd") R (f := 10) (by decide) rfl W.g_10 W.k_10 W.b_10 (l_cons (m_var (i := 0) rfl (vis_of rfl) rfl rfl) (l_cons (m_var (i := 5) rfl (vis_of rfl) rfl rfl) (l_nil) rfl) rfl) rfl rfl rfl) (l_nil) rfl) rfl) rfl) rfl rfl rfl)) (ss_nil)) (ss_nil)) (ss_cons (s_if (m_cmpT R.K (o_eq (by exact hu)) (m_var (i := 2) rfl (vis_of rfl) rfl rfl) (m_int) (nomark _)) (ss_cons (s_ret (e_call (x := "_law_put") R (f := 9) (by decide) rfl W.g_9 W.k_9 W.b_9 (l_cons (m_var (i := 1) rfl (vis_of rfl) rfl rfl) (l_cons (m_var (i := 4) rfl (vis_of rfl) rfl rfl) (l_cons (m_bin o_add (m_tup (l_cons (e_call (x := "_law_word") R (f := 12) (by decide) rfl W.g_12 W.k_12 W.b_12 (l_cons (m_var (i := 0) rfl (vis_of rfl) rfl rfl) (l_nil) rfl) rfl rfl rfl) (l_nil) rfl)) (m_sl R.K (m_var (i := 5) rfl (vis_of rfl) rfl rfl) (o_some (m_int)) (o_none))) (l_nil) rfl) rfl) rfl) rfl rfl rfl)) (ss_nil)) (ss_nil)) (ss_cons (s_if (m_cmpT R.K (o_eq (by exact hu)) (m_var (i := 2) rfl (vis_of rfl) rfl rfl) (m_int) (nomark _)) (ss_cons (s_set R.nd rfl (loc_of rfl) (m_bin o_mul (m_lst (l_cons (m_var (i := 5) rfl (vis_of rfl) rfl rfl) (l_nil) rfl)) (e_call (x := "_law_take") R (f := 3) (by decide) rfl W.g_3 W.k_3 W.b_3 (l_cons (m_var (i := 0) rfl (vis_of rfl) rfl rfl) (l_cons (m_int) (l_nil) rfl) rfl) rfl rfl rfl)) rfl (.inl rfl)) (ss_cons (s_if (PW.pt (w_and (m_cmpT R.K (o_ne (by exact hu)) (m_var (i := 6) rfl (vis_of rfl) rfl rfl) (m_lst (l_nil)) (nomark _)) (w_and1 (m_cmpT R.K (o_eq (by exact hu)) (e_call (x := "_law_take") R (f := 3) (by decide) rfl W.g_3 W.k_3 W.b_3 (l_cons (m_var (i := 0) rfl (vis_of rfl) rfl rfl) (l_cons (m_int) (l_nil) rfl) rfl) rfl rfl rfl) (m_int) (nomark _))))) (ss_cons (s_asg (e_call (x := "_law_odd") R (f := 10) (by decide) rfl W.g_10 W.k_10 W.b_10 (l_cons (m_var (i := 0) rfl (vis_of rfl) rfl rfl) (l_cons (m_var (i := 5) rfl (vis_of rfl) rfl rfl) (l_nil) rfl) rfl) rfl rfl rfl) (g_sub (m_var (i := 6) rfl (vis_of rfl) rfl rfl) (have R := R.no; e_call (x := "_law_take") R (f := 3) (by decide) rfl W.g_3 W.k_3 W.b_3 (l_cons (m_var (i := 0) rfl (vis_of rfl) rfl rfl) (l_cons (e_bi (x := "len") (b_len R.K) rfl W.f_len W.v_len (l_cons (m_var (i := 6) rfl (vis_of rfl) rfl rfl) (l_nil) rfl) (by decide) rfl rfl rfl) (l_nil) rfl) rfl) rfl rfl rfl) (fun _ => rfl)) rfl rfl rfl) (ss_nil)) (ss_nil)) (ss_cons (s_ret (e_call (x := "_law_put") R (f := 9) (by decide) rfl W.g_9 W.k_9 W.b_9 (l_cons (m_var (i := 1) rfl (vis_of rfl) rfl rfl) (l_cons (m_var (i := 4) rfl (vis_of rfl) rfl rfl) (l_cons (m_bin o_add (m_tup (l_cons (m_ix (m_var (i := 5) rfl (vis_of rfl) rfl rfl) (m_int) (fun _ _ => rfl)) (l_nil) rfl)) (e_ty (x := "tuple") (b_tuple R.K) rfl W.f_tuple W.v_tuple (l_cons (m_var (i := 6) rfl (vis_of rfl) rfl rfl) (l_nil) rfl) (by decide) rfl rfl rfl)) (l_nil) rfl) rfl) rfl) rfl rfl rfl)) (ss_nil)))) (ss_nil)) (ss_cons (s_if (m_cmpT R.K (o_eq (by exact hu)) (m_var (i := 2) rfl (vis_of rfl) rfl rfl) (m_int) (nomark _)) (ss_cons (s_ret (e_call (x := "_law_put") R (f := 9) (by decide) rfl W.g_9 W.k_9 W.b_9 (l_cons (m_var (i := 1) rfl (vis_of rfl) rfl rfl) (l_cons (m_var (i := 4) rfl (vis_of rfl) rfl rfl) (l_cons (m_bin o_add (m_var (i := 5) rfl (vis_of rfl) rfl rfl) (m_tup (l_cons (e_call (x := "_law_odd") R (f := 10) (by decide) rfl W.g_10 W.k_10 W.b_10 (l_cons (m_var (i := 0) rfl (vis_of rfl) rfl rfl) (l_cons (m_var (i := 5) rfl (vis_of rfl) rfl rfl) (l_nil) rfl) rfl) rfl rfl rfl) (l_nil) rfl))) (l_nil) rfl) rfl) rfl) rfl rfl rfl)) (ss_nil)) (ss_nil)) (ss_cons (s_if (m_cmpT R.K (o_eq (by exact hu)) (m_var (i := 2) rfl (vis_of rfl) rfl rfl) (m_int) (nomark _)) (ss_cons (s_set R.nd rfl (loc_of rfl) (m_lst (l_cons (m_str rfl (sOk_of rfl)) (l_cons (m_str rfl (sOk_of rfl)) (l_cons (m_str rfl (sOk_of rfl)) (l_cons (m_non) (l_cons (m_ix (m_var (i := 5) rfl (vis_of rfl) rfl rfl) (m_int) (fun _ _ => rfl)) (l_cons (m_ix (m_var (i := 5) rfl (vis_of rfl) rfl rfl) (m_int) (fun _ _ => rfl)) (l_nil) rfl) rfl) rfl) rfl) rfl) rfl)) rfl (.inl rfl)) (ss_cons (s_set R.nd rfl (loc_of rfl) (m_sl R.K (m_lst (l_cons (e_call (x := "_law_odd") R (f := 10) (by decide) rfl W.g_10 W.k_10 W.b_10 (l_cons (m_var (i := 0) rfl (vis_of rfl) rfl rfl) (l_cons (m_var (i := 5) rfl (vis_of rfl) rfl rfl) (l_nil) rfl) rfl) rfl rfl rfl) (l_cons (e_call (x := "_law_odd") R (f := 10) (by decide) rfl W.g_10 W.k_10 W.b_10 (l_cons (m_var (i := 0) rfl (vis_of rfl) rfl rfl) (l_cons (m_var (i := 5) rfl (vis_of rfl) rfl rfl) (l_nil) rfl) rfl) rfl rfl rfl) (l_cons (m_var (i := 5) rfl (vis_of rfl) rfl rfl) (l_nil) rfl) rfl) rfl)) (o_some (e_call (x := "_law_take") R (f := 3) (by decide) rfl W.g_3 W.k_3 W.b_3 (l_cons (m_var (i := 0) rfl (vis_of rfl) rfl rfl) (l_cons (m_int) (l_nil) rfl) rfl) rfl rfl rfl)) (o_none)) rfl (.inl rfl)) (ss_cons (s_ret (e_call (x := "_law_put") R (f := 9) (by decide) rfl W.g_9 W.k_9 W.b_9 (l_cons (m_var (i := 1) rfl (vis_of rfl) rfl rfl) (l_cons (m_var (i := 4) rfl (vis_of rfl) rfl rfl) (l_cons (m_bin o_add (m_tup (l_cons (e_call (x := "_law_pick") R (f := 4) (by decide) rfl W.g_4 W.k_4 W.b_4 (l_cons (m_var (i := 0) rfl (vis_of rfl) rfl rfl) (l_cons (m_var (i := 7) rfl (vis_of rfl) rfl rfl) (l_nil) rfl) rfl) rfl rfl rfl) (l_nil) rfl)) (e_ty (x := "tuple") (b_tuple R.K) rfl W.f_tuple W.v_tuple (l_cons (m_var (i := 6) rfl (vis_of rfl) rfl rfl) (l_nil) rfl) (by decide) rfl rfl rfl)) (l_nil) rfl) rfl) rfl) rfl rfl rfl)) (ss_nil)))) (ss_nil)) (ss_cons (s_if (m_cmpT R.K (o_eq (by exact hu)) (m_var (i := 2) rfl (vis_of rfl) rfl rfl) (m_int) (nomark _)) (ss_cons (s_set R.nd rfl (loc_of rfl) (m_var (i := 1) rfl (vis_of rfl) rfl rfl) rfl (.inl rfl)) (ss_cons (s_for R.owns R.calm (i_range1 rfl (W.f_range) (l_cons (m_bin o_add (m_int) (e_call (x := "_law_take") R (f := 3) (by decide) rfl W.g_3 W.k_3 W.b_3 (l_cons (m_var (i := 0) rfl (vis_of rfl) rfl rfl) (l_cons (m_int) (l_nil) rfl) rfl) rfl rfl rfl)) (l_nil) rfl) rfl) (g_name R.nd rfl (loc_of rfl) (.inl rfl)) (ss_cons (s_set R.nd rfl (loc_of rfl) (m_tup (l_cons (m_if (m_cmpT R.K (o_eq (by exact hu)) (m_var (i := 9) rfl (vis_of rfl) rfl rfl) (m_int) (nomark _)) (e_call (x := "_law_word") R (f := 12) (by decide) rfl W.g_12 W.k_12 W.b_12 (l_cons (m_var (i := 0) rfl (vis_of rfl) rfl rfl) (l_nil) rfl) rfl rfl rfl) (m_str rfl (sOk_of rfl))) (l_cons (m_var (i := 8) rfl (vis_of rfl) rfl rfl) (l_nil) rfl) rfl)) rfl (.inl rfl)) (ss_nil)) (fun _ => rfl)) (ss_cons (s_ret (m_var (i := 8) rfl (vis_of rfl) rfl rfl)) (ss_nil)))) (ss_nil)) (ss_cons (s_ret (e_call (x := "_law_odd") R (f := 10) (by decide) rfl W.g_10 W.k_10 W.b_10 (l_cons (m_var (i := 0) rfl (vis_of rfl) rfl rfl) (l_cons (m_var (i := 1) rfl (vis_of rfl) rfl rfl) (l_nil) rfl) rfl) rfl rfl rfl)) (ss_nil))))))))))
theorem ok_13 (W : WF K mg) (ih : AllOk P w K mg base (gx P w K) tb (ft K) 15 n) : FnG P w K mg base (n + 1) ((ft K).a 13) ((ft K).fd 13) ((ft K).ps 13) (spG (gx P w K) tb (n + 1) 13) :=
  fn_okD (N := N_13) (ps := ["feed", "tree"]) W.F_13 ⟨rfl, rfl, rfl, by decide +kernel, rfl, by decide +kernel, by decide +kernel⟩ rfl rfl (p_13 W ih)
def N_14 : List Str := ["script", "k", "feed", "names", "turn", "value", "shown", "found"]
theorem p_14 (W : WF K mg) (ih : AllOk P w K mg base (gx P w K) tb (ft K) 15 n) (cdv : Value) (A : Around) (outer : List PySem.Env) (s : Shared) (H : Hp) (E : XK) (hr0 : Rb n (A.deeper (envOfC "law" (defScope (top 19)) s.heap.objs.size ((ft K).a 14) cdv))) :
    PSs (cxOf (L2.CX P w) P w K mg base N_14 "law" (defScope (top 19)) ((ft K).a 14) cdv A outer s H E) (defBody (top 19)) (tS (gx P w K) (orcN tb n) (fun c d _ H => E c d H) c_14) := by
  have R : Rn (cxOf (L2.CX P w) P w K mg base N_14 "law" (defScope (top 19)) ((ft K).a 14) cdv A outer s H E) (gx P w K) (orcN tb n) tb (ft K) 15 n (fun c d _ H => E c d H) := Rn.fn rfl rfl rfl (by decide +kernel) hr0 ih
  have hu := G.hu_of R.room
  have hu5 := G.hu5_of R.room
  exact ss_cons (s_for R.owns R.calm (i_range1 rfl (W.f_range) (l_cons (e_bi (x := "max") (b_max2 R.calm) rfl W.f_max W.v_max (l_cons (m_int) (l_cons (e_bi (x := "min") (b_min2 R.calm) rfl W.f_min W.v_min (l_cons (m_int) (l_cons (e_bi (x := "len") (b_len R.K) rfl W.f_len W.v_len (l_cons (m_var (i := 0) rfl (vis_of rfl) rfl rfl) (l_nil) rfl) (by decide) rfl rfl rfl) (l_nil) rfl) rfl) (by decide) rfl rfl rfl) (l_nil) rfl) rfl) (by decide) rfl rfl rfl) (l_nil) rfl) rfl) (g_name R.nd rfl (loc_of rfl) (.inl rfl)) (ss_cons (s_set R.nd rfl (loc_of rfl) (e_call (x := "_law_feed") R (f := 2) (by decide) rfl W.g_2 W.k_2 W.b_2 (l_cons (m_var (i := 0) rfl (vis_of rfl) rfl rfl) (l_cons (m_var (i := 1) rfl (vis_of rfl) rfl rfl) (l_nil) rfl) rfl) rfl rfl rfl) rfl (.inl rfl)) (ss_cons (s_set R.nd rfl (loc_of rfl) (e_call (x := "_law_names") R (f := 5) (by decide) rfl W.g_5 W.k_5 W.b_5 (l_cons (m_var (i := 2) rfl (vis_of rfl) rfl rfl) (l_nil) rfl) rfl rfl rfl) rfl (.inl rfl)) (ss_cons (s_for R.owns R.calm (i_range1 rfl (W.f_range) (l_cons (m_int) (l_nil) rfl) rfl) (g_name R.nd rfl (loc_of rfl) (.inl rfl)) (ss_cons (s_set R.nd rfl (loc_of rfl) (e_call (x := "_law_value") R (f := 13) (by decide) rfl W.g_13 W.k_13 W.b_13 (l_cons (m_var (i := 2) rfl (vis_of rfl) rfl rfl) (l_cons (e_call (x := "_law_tree") R (f := 7) (by decide) rfl W.g_7 W.k_7 W.b_7 (l_cons (m_var (i := 2) rfl (vis_of rfl) rfl rfl) (l_cons (m_var (i := 3) rfl (vis_of rfl) rfl rfl) (l_cons (m_bin o_add (m_int) (e_call (x := "_law_take") R (f := 3) (by decide) rfl W.g_3 W.k_3 W.b_3 (l_cons (m_var (i := 2) rfl (vis_of rfl) rfl rfl) (l_cons (m_int) (l_nil) rfl) rfl) rfl rfl rfl)) (l_nil) rfl) rfl) rfl) rfl rfl rfl) (l_nil) rfl) rfl) rfl rfl rfl) rfl (.inl rfl)) (ss_cons (s_par R.calm R.nd rfl rfl (by decide) rfl rfl (l_cons (e_bi (x := "repr") (R.reprD W.sm) rfl W.f_repr W.v_repr (l_cons (m_var (i := 5) rfl (vis_of rfl) rfl rfl) (l_nil) rfl) (by decide) rfl rfl rfl) (l_cons (e_callP (x := "is_tree") rfl R (f := 1) (by decide) rfl W.g_1 W.k_1 W.b_1 (l_cons (m_var (i := 5) rfl (vis_of rfl) rfl rfl) (l_nil) rfl) rfl rfl rfl) (l_nil) rfl) rfl) rfl rfl) (ss_cons (s_if (PW.pt (w_or (m_cmpT R.K (o_ne (by exact hu)) (e_bi (x := "repr") (R.reprD W.sm) rfl W.f_repr W.v_repr (l_cons (m_var (i := 7) rfl (vis_of rfl) rfl rfl) (l_nil) rfl) (by decide) rfl rfl rfl) (e_bi (x := "repr") (R.reprD W.sm) rfl W.f_repr W.v_repr (l_cons (e_call (x := "_law_is_tree") R (f := 11) (by decide) rfl W.g_11 W.k_11 W.b_11 (l_cons (m_var (i := 5) rfl (vis_of rfl) rfl rfl) (l_nil) rfl) rfl rfl rfl) (l_nil) rfl) (by decide) rfl rfl rfl) (nomark _)) (w_or1 (m_cmpT R.K (o_ne (by exact hu)) (e_bi (x := "repr") (R.reprD W.sm) rfl W.f_repr W.v_repr (l_cons (m_var (i := 5) rfl (vis_of rfl) rfl rfl) (l_nil) rfl) (by decide) rfl rfl rfl) (m_var (i := 6) rfl (vis_of rfl) rfl rfl) (nomark _))))) (ss_cons (s_ret (m_bl)) (ss_nil)) (ss_nil)) (ss_nil)))) (fun _ => rfl)) (ss_nil)))) (fun _ => rfl)) (ss_cons (s_ret (m_bl)) (ss_nil))
theorem ok_14 (W : WF K mg) (ih : AllOk P w K mg base (gx P w K) tb (ft K) 15 n) : FnG P w K mg base (n + 1) ((ft K).a 14) ((ft K).fd 14) ((ft K).ps 14) (spG (gx P w K) tb (n + 1) 14) :=
  fn_okD (N := N_14) (ps := ["script"]) W.F_14 ⟨rfl, rfl, rfl, by decide +kernel, rfl, by decide +kernel, by decide +kernel⟩ rfl rfl (p_14 W ih)
theorem all_ok (W : WF K mg) : ∀ n, AllOk P w K mg base (gx P w K) tb (ft K) 15 n
  | 0 => fun f _ => fnOk0
  | n + 1 => fun f hf => match f, hf with
    | 0, _ => ok_0 W (all_ok W n)
    | 1, _ => ok_1 W (all_ok W n)
    | 2, _ => ok_2 W (all_ok W n)
    | 3, _ => ok_3 W (all_ok W n)
    | 4, _ => ok_4 W (all_ok W n)
    | 5, _ => ok_5 W (all_ok W n)
    | 6, _ => ok_6 W (all_ok W n)
    | 7, _ => ok_7 W (all_ok W n)
    | 8, _ => ok_8 W (all_ok W n)
    | 9, _ => ok_9 W (all_ok W n)
    | 10, _ => ok_10 W (all_ok W n)
    | 11, _ => ok_11 W (all_ok W n)
    | 12, _ => ok_12 W (all_ok W n)
    | 13, _ => ok_13 W (all_ok W n)
    | 14, _ => ok_14 W (all_ok W n)
    | k + 15, h => absurd h (by omega)
end
def names0 : List Str := ["LETTERS", "MAX_NAME", "MAX_CHILDREN", "is_name", "is_tree", "_law_feed", "_law_take", "_law_pick", "_law_names", "_law_grow", "_law_tree", "_law_places", "_law_put", "_law_odd", "_law_is_tree", "_law_word", "_law_value"]
def names : List Str := names0
abbrev R : PySem.W.OpenRow := PySem.W.OpenLaw.row PySem.Challenge.rw_graftrules_k01_values_that_are_trees
abbrev hk : PySem.W.Hook := hookXm 4 ck fn
def ob (s : PySem.W.SharedT) : He.AlD := obsXGm 4 ck fn (HandSHeadRun.getT s)
theorem ob_eq (s : PySem.W.SharedT) : ob s = hk.obs s.abs := obsXGm_eq (HandSHeadRun.getT_eq s)
theorem run (w : World) : HandSHeadRun.RunEq R (PySem.W.view R.prog [19]) hk ob 20000 names w := by
  intro os
  kernel_rfl
end L01
set_option linter.all false
set_option maxHeartbeats 0
set_option maxRecDepth 20000
namespace G
/-! what a code leads to: rules, and a tactic that goes through a code -/
abbrev XP := Nat → List (Nat × Val) → Store → Prop
def R.wp {α : Type} (m : R α) (X : XP) (Q : α → Store → Prop) : Prop := match m with
  | .ok a S => Q a S
  | .exc c fs S => X c fs S
  | .stuck _ => False
/-- nothing is raised -/
def noX : XP := fun _ _ _ => False
abbrev EP' := Nat → List (Nat × Val) → Env → Store → Prop
def SR.wp (m : SR) (N : Env → Store → Prop) (V : Val → Store → Prop) (B : Env → Store → Prop) (E : EP') : Prop := match m with
  | .nx ρ S => N ρ S
  | .rt v S => V v S
  | .bk ρ S => B ρ S
  | .exc c fs ρ S => E c fs ρ S
  | .stuck _ => False
def atX (E : EP') (ρ : Env) : XP := fun c fs S => E c fs ρ S
section
variable {α β : Type} {X X' : XP} {Q Q' : α → Store → Prop} {o : Orc} {ρ : Env} {S : Store} {N N' : Env → Store → Prop} {V V' : Val → Store → Prop} {B B' : Env → Store → Prop} {E E' : EP'}
theorem R.wp.mono {m : R α} (h : m.wp X Q) (q : ∀ a S, Q a S → Q' a S) (x : ∀ c fs S, X c fs S → X' c fs S := by exact fun _ _ _ h => h) : m.wp X' Q' := by
  cases m with
  | ok a S => exact q a S h
  | exc c fs S => exact x c fs S h
  | stuck w => exact h
theorem R.wp.ok {m : R α} (h : m.wp noX Q) : ∃ a S, m = .ok a S ∧ Q a S := by
  cases m with
  | ok a S => exact ⟨a, S, rfl, h⟩
  | exc c fs S => exact h.elim
  | stuck w => exact h.elim
theorem wp_of_eq {m : R α} {a : α} {S : Store} (e : m = .ok a S) (h : Q a S) : m.wp X Q := by rw [e]; exact h
theorem SR.wp.mono {m : SR} (h : m.wp N V B E) (h1 : ∀ ρ S, N ρ S → N' ρ S) (h2 : ∀ v S, V v S → V' v S := by exact fun _ _ h => h) (h3 : ∀ ρ S, B ρ S → B' ρ S := by exact fun _ _ h => h) (h4 : ∀ c fs ρ S, E c fs ρ S → E' c fs ρ S := by exact fun _ _ _ _ h => h) : m.wp N' V' B' E' := by
  cases m with
  | nx ρ S => exact h1 ρ S h
  | rt v S => exact h2 v S h
  | bk ρ S => exact h3 ρ S h
  | exc c fs ρ S => exact h4 c fs ρ S h
  | stuck w => exact h
theorem wp_bind {m : R α} {k : α → Store → R β} {Q : β → Store → Prop} (h : m.wp X fun a S => (k a S).wp X Q) : (m.bind k).wp X Q := by cases m <;> exact h
theorem wp_noExc {m : R α} (h : m.wp noX Q) : (noExc m).wp X Q := by
  cases m with
  | ok a S => exact h
  | exc c fs S => exact h.elim
  | stuck w => exact h
/-! expressions -/
section
variable {Q : Val → Store → Prop} {i : Nat} {v : Val}
theorem wp_eVar (h : getE i ρ = some (some v)) (hv : isErr v = false) (q : Q v S) : (eVar i o ρ S).wp X Q := by
  have e : eVar i o ρ S = .ok v S := by
    show (Option.rec (motive := fun _ => Store → R Val) noV (fun w => Option.rec (motive := fun _ => Store → R Val) noV okW w) (getE i ρ)) S = _
    rw [h]
    show okW v S = _
    rw [okW_eq]
    unfold okV; rw [hv]
  rw [e]; exact q
theorem wp_eC (q : Q v S) : (eC v o ρ S).wp X Q := q
theorem wp_eTup {es : EL} (h : (es o ρ S).wp X fun vs S => few vs = true ∧ Q (.tup vs) S) : (eTup es o ρ S).wp X Q :=
  wp_bind (h.mono fun vs S ⟨a, b⟩ => by show R.wp (match few vs with | true => R.ok (.tup vs) S | false => .stuck 2) X Q; rw [a]; exact b)
theorem wp_alloc {ob : Obj} (q : Q (.ref S.nx) (S.new ob)) : (alloc ob S).wp X Q := q
theorem wp_eLst {es : EL} (h : (es o ρ S).wp X fun vs S => few vs = true ∧ Q (.ref S.nx) (S.new (.lst vs))) : (eLst es o ρ S).wp X Q :=
  wp_bind (h.mono fun vs S ⟨a, b⟩ => by show R.wp (match few vs with | true => alloc (.lst vs) S | false => .stuck 2) X Q; rw [a]; exact b)
theorem wp_eOp {f : Op2} {a b : G.E} (h : (a o ρ S).wp X fun x S => (b o ρ S).wp X fun y S => (f o x y S).wp X Q) : (eOp f a b o ρ S).wp X Q := wp_bind (h.mono fun _ _ k => wp_bind k)
theorem wp_eNot {a : G.E} (h : (a o ρ S).wp X fun x S => ∃ b, truthy S x = some b ∧ Q (.bool (!b)) S) : (eNot a o ρ S).wp X Q :=
  wp_bind (h.mono fun x S ⟨b, e, q⟩ => by show R.wp (match truthy S x with | some b => R.ok (.bool (!b)) S | .none => .stuck 2) X Q; rw [e]; exact q)
theorem wp_eNeg {a : G.E} (h : (a o ρ S).wp X fun x S => ∃ i, x = .int i ∧ Q (.int (-i)) S) : (eNeg a o ρ S).wp X Q := wp_bind (h.mono fun x S ⟨i, e, q⟩ => by subst e; exact q)
theorem wp_eAnd {a b : G.E} (h : (a o ρ S).wp X fun x S => ∃ c, x = .bool c ∧ (c = true → (b o ρ S).wp X Q) ∧ (c = false → Q (.bool false) S)) : (eAnd a b o ρ S).wp X Q :=
  wp_bind (h.mono fun x S ⟨c, e, q1, q2⟩ => by subst e; cases c; exact q2 rfl; exact q1 rfl)
theorem wp_eOr {a b : G.E} (h : (a o ρ S).wp X fun x S => ∃ c, x = .bool c ∧ (c = false → (b o ρ S).wp X Q) ∧ (c = true → Q (.bool true) S)) : (eOr a b o ρ S).wp X Q :=
  wp_bind (h.mono fun x S ⟨c, e, q1, q2⟩ => by subst e; cases c; exact q1 rfl; exact q2 rfl)
theorem wp_eIf {c a b : G.E} (h : (c o ρ S).wp X fun x S => ∃ t, truthy S x = some t ∧ (t = true → (a o ρ S).wp X Q) ∧ (t = false → (b o ρ S).wp X Q)) : (eIf c a b o ρ S).wp X Q :=
  wp_bind (h.mono fun x S ⟨t, e, q1, q2⟩ => by
    show R.wp (match truthy S x with | some true => a o ρ S | some false => b o ρ S | .none => .stuck 6) X Q
    rw [e]; cases t; exact q2 rfl; exact q1 rfl)
theorem wp_eChain {f g : Op2} {a b c : G.E} (h : (a o ρ S).wp X fun x S => (b o ρ S).wp X fun y S => (f o x y S).wp X fun z S => ∃ t, z = .bool t ∧ (t = true → (c o ρ S).wp X fun w S => (g o y w S).wp X Q) ∧ (t = false → Q (.bool false) S)) : (eChain f g a b c o ρ S).wp X Q :=
  wp_bind (h.mono fun x S k => wp_bind (k.mono fun y S k => wp_bind (k.mono fun z S ⟨t, e, q1, q2⟩ => by subst e; cases t; exact q2 rfl; exact wp_bind (q1 rfl))))
theorem wp_eCall {f : Nat} {as : EL} (h : (as o ρ S).wp X fun vs S => (o.call f vs S).wp X Q) : (eCall f as o ρ S).wp X Q := wp_bind h
theorem wp_eCallP {f : Nat} {as : EL} (h : (as o ρ S).wp X fun vs S => (callP f o vs S).wp X Q) : (eCallP f as o ρ S).wp X Q := wp_bind h
theorem wp_eCallL {f : Nat} {as : EL} (h : (as o ρ S).wp X fun vs S => (callL f o vs S).wp X Q) : (eCallL f as o ρ S).wp X Q := wp_bind h
theorem wp_eB {f : Bi} {as : EL} (h : (as o ρ S).wp X fun vs S => (f o vs S).wp X Q) : (eB f as o ρ S).wp X Q := wp_bind h
theorem wp_eNew {c init : Nat} {as : EL} (h : (as o ρ S).wp X fun vs S => (o.call init (.ref S.nx :: vs) (S.new (.ins c []))).wp X fun v S' => v = .none ∧ Q (.ref S.nx) S') : (eNew c init as o ρ S).wp X Q :=
  wp_bind (h.mono fun vs S k => wp_bind (k.mono fun v S' ⟨e, q⟩ => by subst e; exact q))
theorem wp_eAttr {a : G.E} {f : Nat} (h : (a o ρ S).wp X fun x S => ∃ n c fs v, x = .ref n ∧ S.get n = some (.ins c fs) ∧ fldGet f fs = some v ∧ Q v S) : (eAttr a f o ρ S).wp X Q := by
  rw [eAttr_eq]
  refine wp_bind (h.mono fun x S ⟨n, c, fs, v, e, e1, e2, q⟩ => ?_)
  subst e
  show R.wp (match S.get n with | some (.ins _ fs) => ofOpt (fldGet f fs) S 9 | _ => .stuck 10) X Q
  rw [e1]
  show R.wp (ofOpt (fldGet f fs) S 9) X Q
  rw [e2]; exact q
theorem wp_eMeth {a : G.E} {m : Nat} {as : EL} (h : (a o ρ S).wp X fun x S => ∃ n c fs f, x = .ref n ∧ S.get n = some (.ins c fs) ∧ o.meth c m = some f ∧ (as o ρ S).wp X fun vs S => (o.call f (x :: vs) S).wp X Q) : (eMeth a m as o ρ S).wp X Q := by
  refine wp_bind (h.mono fun x S ⟨n, c, fs, f, e, e1, e2, q⟩ => ?_)
  subst e
  have e3 : mthOf m o (.ref n) S = some f := by
    show (match S.get n with | some (.ins c _) => o.meth c m | _ => .none) = _
    rw [e1]; exact e2
  show R.wp (match mthOf m o (.ref n) S with | some f => (as o ρ S).bind fun vs S => o.call f (.ref n :: vs) S | .none => .stuck 15) X Q
  rw [e3]; exact wp_bind q
theorem wp_eBm {k : Knd} {f : Bm} {a : G.E} {as : EL} (h : (a o ρ S).wp X fun x S => hasK S k x = true ∧ (as o ρ S).wp X fun vs S => (f o x vs S).wp X Q) : (eBm k f a as o ρ S).wp X Q :=
  wp_bind (h.mono fun x S ⟨e, q⟩ => by
    show R.wp (match hasK S k x with | true => (as o ρ S).bind fun vs S => f o x vs S | false => .stuck 18) X Q
    rw [e]; exact wp_bind q)
theorem wp_eRev {a : G.E} (h : (a o ρ S).wp X fun x S => ∃ n vs, x = .ref n ∧ S.get n = some (.lst vs) ∧ Q (.ref S.nx) (S.new (.lst vs.reverse))) : (eRev a o ρ S).wp X Q :=
  wp_bind (h.mono fun x S ⟨n, vs, e, e1, q⟩ => by
    subst e
    show R.wp (match S.get n with | some (.lst vs) => alloc (.lst vs.reverse) S | _ => .stuck 65) X Q
    rw [e1]; exact q)
theorem wp_eSl {a : G.E} {lo hi : EO} (h : (a o ρ S).wp X fun x S => (lo o ρ S).wp X fun l S => (hi o ρ S).wp X fun h S => (cutOf x l h S).wp X Q) : (eSl a lo hi o ρ S).wp X Q := wp_bind (h.mono fun _ _ k => wp_bind (k.mono fun _ _ k => wp_bind k))
theorem wp_eIsI {a : G.E} {ans : Tg → Option Bool} (h : (a o ρ S).wp X fun x S => ∃ t b, tgOf S x = some t ∧ ans t = some b ∧ Q (.bool b) S) : (eIsI a ans o ρ S).wp X Q :=
  wp_bind (h.mono fun x S ⟨t, b, e1, e2, q⟩ => by
    show R.wp (match tgOf S x with | some t => ofB (ans t) S 133 | .none => .stuck 133) X Q
    rw [e1]; show R.wp (ofB (ans t) S 133) X Q; rw [e2]; exact q)
theorem wpR_eLc {c : Col} (h : (c o ρ (0, []) S).wp noX fun acc S => Q (.ref S.nx) (S.new (.lst acc.2.reverse))) : (eLc c o ρ S).wp X Q := wp_bind (wp_noExc h)
theorem wp_eDict0 (h : Q (.ref S.nx) (S.new (.dct []))) : (eDict0 o ρ S).wp X Q := h
theorem wp_eProp {a : G.E} {pi : Nat} (h : (a o ρ S).wp X fun x S => ∃ n c fs f, x = .ref n ∧ S.get n = some (.ins c fs) ∧ o.prop c pi = some f ∧ (o.call f [x] S).wp noX Q) : (eProp a pi o ρ S).wp X Q := by
  refine wp_bind (h.mono fun x S ⟨n, c, fs, f, e, e1, e2, q⟩ => ?_)
  subst e
  have e3 : prpOf pi o (.ref n) S = some f := by
    show (match S.get n with | some (.ins c _) => o.prop c pi | _ => .none) = _
    rw [e1]; exact e2
  show R.wp (match prpOf pi o (.ref n) S with | some f => noExc (o.call f [.ref n] S) | .none => .stuck 19) X Q
  rw [e3]; exact wp_noExc q
theorem wp_eListIt {c : EI} (h : (c o ρ S).wp X fun it S => ∃ a, drainIt fuel it S (0, []) = some a ∧ Q (.ref S.nx) (S.new (.lst a.2.reverse))) : (eListIt c o ρ S).wp X Q :=
  wp_bind (h.mono fun it S ⟨a, e, q⟩ => by
    show R.wp (match drainIt fuel it S (0, []) with | some a => alloc (.lst a.2.reverse) S | .none => .stuck 75) X Q
    rw [e]; exact q)
theorem wp_eErr {i f : Nat} {fs : List (Nat × Val)} (h : getE i ρ = some (some .err)) (e : o.err = some fs) (e2 : fldGet f fs = some v) (q : Q v S) : (eErr i f o ρ S).wp X Q := by
  rw [getE_eq] at h
  show R.wp (match ρ[i]? with | some (some .err) => (match o.err with | some fs => ofOpt (fldGet f fs) S 13 | .none => .stuck 14) | _ => .stuck 14) X Q
  rw [h]
  show R.wp (match o.err with | some fs => ofOpt (fldGet f fs) S 13 | .none => .stuck 14) X Q
  rw [e]
  show R.wp (ofOpt (fldGet f fs) S 13) X Q
  rw [e2]; exact q
end
section
variable {Q : List Val → Store → Prop}
theorem wp_elNil (q : Q [] S) : (elNil o ρ S).wp X Q := q
theorem wp_elCons {a : G.E} {r : EL} (h : (a o ρ S).wp X fun v S => (r o ρ S).wp X fun vs S => Q (v :: vs) S) : (elCons a r o ρ S).wp X Q := wp_bind (h.mono fun _ _ k => wp_bind k)
theorem wp_elD {a : EL} {ds : List Val} (h : (a o ρ S).wp X fun vs S => Q (vs ++ ds) S) : (elD a ds o ρ S).wp X Q := wp_bind h
end
section
variable {Q : Option Int → Store → Prop}
theorem wp_eoNone (q : Q .none S) : (eoNone o ρ S).wp X Q := q
theorem wp_eoSome {a : G.E} (h : (a o ρ S).wp X fun v S => ∃ i, v = .int i ∧ Q (some i) S) : (eoSome a o ρ S).wp X Q := wp_bind (h.mono fun v S ⟨i, e, q⟩ => by subst e; exact q)
end
section
variable {Q : It → Store → Prop}
theorem wp_iVal {a : G.E} (h : (a o ρ S).wp X fun x S => ∃ it, toIt x S = some it ∧ Q it S) : (iVal a o ρ S).wp X Q :=
  wp_bind (h.mono fun x S ⟨it, e, q⟩ => by show R.wp (match toIt x S with | some it => R.ok it S | .none => .stuck 70) X Q; rw [e]; exact q)
theorem wp_iEnum {a : G.E} (h : (a o ρ S).wp X fun x S => ∃ it, toIt x S = some it ∧ Q (.enum 0 it) S) : (iEnum a o ρ S).wp X Q :=
  wp_bind (h.mono fun x S ⟨it, e, q⟩ => by show R.wp (match toIt x S with | some it => R.ok (.enum 0 it) S | .none => .stuck 70) X Q; rw [e]; exact q)
theorem wp_iZip {es : EL} (h : (es o ρ S).wp X fun vs S => ∃ x y a b, vs = [x, y] ∧ toIt x S = some a ∧ toIt y S = some b ∧ Q (.zip a b) S) : (iZip es o ρ S).wp X Q :=
  wp_bind (h.mono fun vs S ⟨x, y, a, b, e, e1, e2, q⟩ => by
    subst e
    show R.wp (match toIt x S, toIt y S with | some a, some b => R.ok (.zip a b) S | _, _ => .stuck 70) X Q
    rw [e1, e2]; exact q)
theorem wp_iEnumZ {es : EL} (h : (es o ρ S).wp X fun vs S => ∃ x y a b, vs = [x, y] ∧ toIt x S = some a ∧ toIt y S = some b ∧ Q (.enum 0 (.zip a b)) S) : (iEnumZ es o ρ S).wp X Q := wp_bind (wp_iZip h)
theorem wp_iRange {as : EL} (h : (as o ρ S).wp X fun vs S => ∃ n, vs = [.int n] ∧ smallI n = true ∧ Q (.vals (upTo 0 n.toNat)) S) : (iRange as o ρ S).wp X Q :=
  wp_bind (h.mono fun vs S ⟨n, e, e1, q⟩ => by subst e; show R.wp (match smallI n with | true => R.ok (.vals (upTo 0 n.toNat)) S | false => .stuck 71) X Q; rw [e1]; exact q)
theorem wp_iRange2 {as : EL} (h : (as o ρ S).wp X fun vs S => ∃ a b, vs = [.int a, .int b] ∧ (smallI a && smallI b) = true ∧ Q (.vals (upTo a (b - a).toNat)) S) : (iRange2 as o ρ S).wp X Q :=
  wp_bind (h.mono fun vs S ⟨a, b, e, e1, q⟩ => by subst e; show R.wp (match smallI a && smallI b with | true => R.ok (.vals (upTo a (b - a).toNat)) S | false => .stuck 71) X Q; rw [e1]; exact q)
end
/-! targets -/
section
variable {Q : Env → Store → Prop} {v : Val} {i : Nat}
theorem wp_tName (q : Q (setE i (some v) ρ) S) : (tName i v o ρ S).wp X Q := q
theorem wp_tNil (q : Q ρ S) : (tNil [] o ρ S).wp X Q := q
theorem wp_tCons {t : T} {r : TL} {vs : List Val} (h : (t v o ρ S).wp X fun ρ S => (r vs o ρ S).wp X Q) : (tCons t r (v :: vs) o ρ S).wp X Q := wp_bind h
theorem wp_tTup {n : Nat} {r : TL} {vs : List Val} (hn : Nat.beq vs.length n = true) (h : (r vs o ρ S).wp X Q) : (tTup n r (.tup vs) o ρ S).wp X Q := by
  show R.wp (match Nat.beq vs.length n with | true => r vs o ρ S | false => .stuck 82) X Q
  rw [hn]; exact h
theorem wp_tTupL {n k : Nat} {r : TL} {vs : List Val} (hs : S.get k = some (.lst vs)) (hn : Nat.beq vs.length n = true) (h : (r vs o ρ S).wp X Q) : (tTup n r (.ref k) o ρ S).wp X Q := by
  show R.wp (match S.get k with | some (.lst vs) => (match Nat.beq vs.length n with | true => r vs o ρ S | false => .stuck 82) | _ => .stuck 82) X Q
  rw [hs]
  show R.wp (match Nat.beq vs.length n with | true => r vs o ρ S | false => .stuck 82) X Q
  rw [hn]; exact h
theorem wp_tAttr {a : G.E} {f : Nat} (h : (a o ρ S).wp X fun x S => ∃ n c fs, x = .ref n ∧ S.get n = some (.ins c fs) ∧ (o.fld c f && Nat.blt fs.length 900) = true ∧ Q ρ (S.put n (.ins c (fldPut f v fs)))) : (tAttr a f v o ρ S).wp X Q :=
  wp_bind (h.mono fun x S ⟨n, c, fs, e, e1, e2, q⟩ => by
    subst e
    show R.wp (match S.get n with | some (.ins c fs) => (match o.fld c f && Nat.blt fs.length 900 with | true => R.ok ρ (S.put n (.ins c (fldPut f v fs))) | false => .stuck 88) | _ => .stuck 88) X Q
    rw [e1]
    show R.wp (match o.fld c f && Nat.blt fs.length 900 with | true => R.ok ρ (S.put n (.ins c (fldPut f v fs))) | false => .stuck 88) X Q
    rw [e2]; exact q)
theorem wp_tSub {a b : G.E} (h : (a o ρ S).wp X fun x S => (b o ρ S).wp X fun y S => (setL x y v S).wp X fun _ S => Q ρ S) : (tSub a b v o ρ S).wp X Q := wp_bind (h.mono fun _ _ k => wp_bind (k.mono fun _ _ k => wp_bind (k.mono fun _ _ k => k)))
theorem wp_tSubK {a b : G.E} (h : (a o ρ S).wp X fun x S => (b o ρ S).wp X fun y S => ∃ n kvs, x = .ref n ∧ S.get n = some (.dct kvs) ∧ (keyFor y kvs && Nat.blt kvs.length maxLen) = true ∧ Q ρ (S.put n (.dct (dput y v kvs)))) : (tSubK a b v o ρ S).wp X Q :=
  wp_bind (h.mono fun x S k => wp_bind (k.mono fun y S ⟨n, kvs, e, e1, e2, q⟩ => wp_bind (by
    subst e
    show R.wp (match S.get n with | some (.dct kvs) => (match keyFor y kvs && Nat.blt kvs.length maxLen with | true => R.ok () (S.put n (.dct (dput y v kvs))) | false => .stuck 85) | _ => .stuck 86) X _
    rw [e1]
    show R.wp (match keyFor y kvs && Nat.blt kvs.length maxLen with | true => R.ok () (S.put n (.dct (dput y v kvs))) | false => .stuck 85) X _
    rw [e2]; exact q)))
end
/-! statements -/
theorem wp_to {m : R α} {k : α → Store → SR} (h : m.wp (atX E ρ) fun a S => (k a S).wp N V B E) : (m.to ρ k).wp N V B E := by cases m <;> exact h
theorem wp_cNil (h : N ρ S) : (cNil o ρ S).wp N V B E := h
theorem wp_cSeq {a b : C} (h : (a o ρ S).wp (fun ρ S => (b o ρ S).wp N V B E) V B E) : (cSeq a b o ρ S).wp N V B E := by
  show ((a o ρ S).seq (b o)).wp N V B E
  revert h
  cases a o ρ S <;> exact id
theorem wp_sExpr {e : G.E} (h : (e o ρ S).wp (atX E ρ) fun _ S => N ρ S) : (sExpr e o ρ S).wp N V B E := wp_to h
theorem wp_sAsg {t : T} {e : G.E} (h : (e o ρ S).wp (atX E ρ) fun v S => (t v o ρ S).wp noX fun ρ S => N ρ S) : (sAsg t e o ρ S).wp N V B E := wp_to (h.mono fun v S k => wp_to (wp_noExc k))
theorem wp_sPar {is : List Nat} {es : EL} (h : (es o ρ S).wp (atX E ρ) fun vs S => ∃ ρ', setAll is vs ρ = some ρ' ∧ N ρ' S) : (sPar is es o ρ S).wp N V B E :=
  wp_to (h.mono fun vs S ⟨ρ', e, q⟩ => by show SR.wp (match setAll is vs ρ with | some ρ => SR.nx ρ S | .none => .stuck 208) N V B E; rw [e]; exact q)
theorem wp_sRet {e : G.E} (h : (e o ρ S).wp (atX E ρ) fun v S => V v S) : (sRet e o ρ S).wp N V B E := wp_to h
theorem wpR_sIf {c : G.E} {a b : C} (h : (c o ρ S).wp (atX E ρ) fun x S => ∃ t, truthy S x = some t ∧ (t = true → (a o ρ S).wp N V B E) ∧ (t = false → (b o ρ S).wp N V B E)) : (sIf c a b o ρ S).wp N V B E :=
  wp_to (h.mono fun x S ⟨t, e, q1, q2⟩ => by
    show SR.wp (match truthy S x with | some true => a o ρ S | some false => b o ρ S | .none => .stuck 201) N V B E
    rw [e]; cases t; exact q2 rfl; exact q1 rfl)
theorem wp_sBreak (h : B ρ S) : (sBreak o ρ S).wp N V B E := h
theorem wp_sAug {i : Nat} {f : Op2} {e : G.E} {x : Val} (hx : getE i ρ = some (some x)) (hv : isErr x = false) (h : (e o ρ S).wp (atX E ρ) fun y S => (f o x y S).wp (atX E ρ) fun z S => N (ρ.set i (some z)) S) : (sAug i f e o ρ S).wp N V B E := by
  rw [getE_eq] at hx
  have key : sAug i f e o ρ S = (e o ρ S).to ρ fun y S => (f o x y S).to ρ fun z S => .nx (ρ.set i (some z)) S := by
    unfold sAug
    rw [hx]
    cases x <;> first | rfl | cases hv
  rw [key]
  exact wp_to (h.mono fun y S k => wp_to (k.mono fun z S q => q))
theorem wp_sRaise {c f : Nat} {e : G.E} (h : (e o ρ S).wp (atX E ρ) fun v S => E c [(f, v)] ρ S) : (sRaise c f e o ρ S).wp N V B E := wp_to h
theorem wp_sRaise0 {c : Nat} (h : E c [] ρ S) : (sRaise0 c o ρ S).wp N V B E := h
theorem wp_sTry {b : C} {hs : List H1} (h : (b o ρ S).wp N V B (fun c fs ρ S => (handle o c fs ρ S hs).wp N V B E)) : (sTry b hs o ρ S).wp N V B E := by
  unfold sTry
  revert h
  cases b o ρ S <;> exact id
/-! functions -/
theorem wp_run {f : Fn} {args : List Val} {Q : Val → Store → Prop} (hl : Nat.beq args.length f.np = true) (h : (f.body o (args.map some ++ List.replicate (f.ns - f.np) .none) S).wp (fun _ S => Q .none S) Q (fun _ _ => False) (fun c fs _ S => X c fs S)) : (runFn f o args S).wp X Q := by
  unfold runFn
  rw [hl]
  show R.wp (match f.body o (args.map some ++ List.replicate (f.ns - f.np) .none) S with | .nx _ S => (R.ok Val.none S : R Val) | .rt v S => .ok v S | .bk _ _ => .stuck 301 | .exc c fs _ S => .exc c fs S | .stuck w => .stuck w) X Q
  revert h
  cases f.body o (args.map some ++ List.replicate (f.ns - f.np) .none) S <;> exact id
theorem wp_call {t : Tb} {n f : Nat} {args : List Val} {Q : Val → Store → Prop} (h : (runFn (t.fn f) (orcN t n) args S).wp X Q) : (callN t (n + 1) f args S).wp X Q := h
/-! what is walked -/
/-- while K holds, it gives these values -/
def Fd (K : Store → Prop) : It → List Val → Prop
  | it, [] => ∀ S, K S → it.next S = some .none
  | it, v :: r => ∃ it', (∀ S, K S → it.next S = some (some (v, it'))) ∧ Fd K it' r
theorem Fd.vals {K : Store → Prop} : ∀ xs : List Val, Fd K (.vals xs) xs
  | [] => fun _ _ => rfl
  | v :: r => ⟨.vals r, fun _ _ => rfl, Fd.vals r⟩
theorem Fd.lstFrom {K : Store → Prop} {n : Nat} {xs : List Val} (h : ∀ S, K S → S.get n = some (.lst xs)) : ∀ (r : List Val) (i : Nat), xs.drop i = r → i ≤ xs.length → Fd K (.lst n i) r
  | [], i, e, hi => fun S k => by
    have hl : xs.length = i := by
      have := List.drop_eq_nil_iff.mp e
      omega
    show (match S.get n with | some (.lst xs) => (match xs[i]? with | some v => some (some (v, It.lst n (i + 1))) | .none => (match Nat.beq xs.length i with | true => some .none | false => .none)) | _ => .none) = _
    rw [h S k]
    show (match xs[i]? with | some v => some (some (v, It.lst n (i + 1))) | .none => (match Nat.beq xs.length i with | true => some .none | false => .none)) = _
    rw [List.getElem?_eq_none (by omega), hl, Nat.beq_refl]
  | v :: r, i, e, hi => by
    have hlt : i < xs.length := by
      have : (xs.drop i).length = (v :: r).length := by rw [e]
      rw [List.length_drop, List.length_cons] at this
      omega
    have hv : xs[i]? = some v := by
      have : (xs.drop i)[0]? = some v := by rw [e]; rfl
      rw [List.getElem?_drop] at this
      simpa using this
    refine ⟨.lst n (i + 1), fun S k => ?_, Fd.lstFrom h r (i + 1) ?_ hlt⟩
    · show (match S.get n with | some (.lst xs) => (match xs[i]? with | some v => some (some (v, It.lst n (i + 1))) | .none => (match Nat.beq xs.length i with | true => some .none | false => .none)) | _ => .none) = _
      rw [h S k]
      show (match xs[i]? with | some v => some (some (v, It.lst n (i + 1))) | .none => (match Nat.beq xs.length i with | true => some .none | false => .none)) = _
      rw [hv]
    · have : (xs.drop i).drop 1 = r := by rw [e]; rfl
      rw [List.drop_drop] at this
      exact this
theorem Fd.lst {K : Store → Prop} {n : Nat} {xs : List Val} (h : ∀ S, K S → S.get n = some (.lst xs)) : Fd K (.lst n 0) xs := Fd.lstFrom h xs 0 rfl (Nat.zero_le _)
def enumV (k : Int) : List Val → List Val
  | [] => []
  | v :: r => .tup [.int k, v] :: enumV (k + 1) r
theorem Fd.enum {K : Store → Prop} : ∀ {xs : List Val} {it : It} {k : Int}, Fd K it xs → Fd K (.enum k it) (enumV k xs)
  | [], it, k, h => fun S q => by show (match it.next S with | some (some (v, it)) => some (some (Val.tup [.int k, v], It.enum (k + 1) it)) | some .none => some .none | .none => .none) = _; rw [h S q]
  | v :: r, it, k, ⟨it', h1, h2⟩ => ⟨.enum (k + 1) it', fun S q => by show (match it.next S with | some (some (v, it)) => some (some (Val.tup [.int k, v], It.enum (k + 1) it)) | some .none => some .none | .none => .none) = _; rw [h1 S q], Fd.enum h2⟩
def zipV : List Val → List Val → List Val
  | a :: r, b :: s => .tup [a, b] :: zipV r s
  | _, _ => []
theorem It.next_zip (S : Store) (a b : It) : (It.zip a b).next S = match a.next S, b.next S with
    | some (some (v, a)), some (some (w, b)) => some (some (.tup [v, w], .zip a b))
    | some _, some _ => some .none
    | _, _ => .none := by rw [It.next] <;> rfl
theorem Fd.zip {K : Store → Prop} : ∀ {xs ys : List Val} {a b : It}, Fd K a xs → Fd K b ys → Fd K (.zip a b) (zipV xs ys)
  | [], [], a, b, h, k => fun S q => by rw [It.next_zip, h S q, k S q]
  | [], y :: s, a, b, h, ⟨b', k1, k2⟩ => fun S q => by rw [It.next_zip, h S q, k1 S q]
  | x :: r, [], a, b, ⟨a', h1, h2⟩, k => fun S q => by rw [It.next_zip, h1 S q, k S q]
  | x :: r, y :: s, a, b, ⟨a', h1, h2⟩, ⟨b', k1, k2⟩ => ⟨.zip a' b', fun S q => by rw [It.next_zip, h1 S q, k1 S q], Fd.zip h2 k2⟩
/-! loops -/
theorem wp_fLoop {K : Store → Prop} {t : T} {b : C} {J : List Val → Env → Store → Prop} (hK : ∀ r ρ S, J r ρ S → K S)
    (step : ∀ v r ρ S, J (v :: r) ρ S → (t v o ρ S).wp noX fun ρ S => (b o ρ S).wp (J r) V N E) (done : ∀ ρ S, J [] ρ S → N ρ S) :
    ∀ (xs : List Val) (n : Nat) (it : It) (ρ : Env) (S : Store), Fd K it xs → xs.length < n → J xs ρ S → (fLoop t b o n it ρ S).wp N V B E
  | xs, 0, _, _, _, _, h, _ => absurd h (Nat.not_lt_zero _)
  | [], n + 1, it, ρ, S, fd, _, hJ => by rw [fLoop_succ, fd S (hK _ _ _ hJ)]; exact done ρ S hJ
  | v :: r, n + 1, it, ρ, S, ⟨it', h1, h2⟩, hl, hJ => by
    rw [fLoop_succ, h1 S (hK _ _ _ hJ)]
    refine wp_to (wp_noExc ((step v r ρ S hJ).mono (Q' := fun ρ S => SR.wp (match b o ρ S with | .nx ρ S => fLoop t b o n it' ρ S | .bk ρ S => .nx ρ S | r => r) N V B E) fun ρ2 S2 k => ?_))
    revert k
    cases b o ρ2 S2 with
    | nx ρ3 S3 => exact fun k => wp_fLoop hK step done r n it' ρ3 S3 h2 (by rw [List.length_cons] at hl; omega) k
    | rt v S3 => exact id
    | bk ρ3 S3 => exact id
    | exc c fs ρ3 S3 => exact id
    | stuck w => exact id
/-- for t in i: b; J: what holds while these values are still to come -/
theorem wpR_sFor {t : T} {i : EI} {b : C} (h : (i o ρ S).wp (atX E ρ) fun it S => ∃ (xs : List Val) (K : Store → Prop) (J : List Val → Env → Store → Prop), Fd K it xs ∧ xs.length < fuel ∧ J xs ρ S ∧ (∀ r ρ S, J r ρ S → K S) ∧
      (∀ v r ρ S, J (v :: r) ρ S → (t v o ρ S).wp noX fun ρ S => (b o ρ S).wp (J r) V N E) ∧ ∀ ρ S, J [] ρ S → N ρ S) : (sFor t i b o ρ S).wp N V B E :=
  wp_to (h.mono fun it S ⟨xs, K, J, fd, hl, hJ, hK, step, done⟩ => wp_fLoop hK step done xs fuel it ρ S fd hl hJ)
/-! comprehensions -/
section
variable {Q : Acc → Store → Prop} {acc : Acc}
theorem wp_cElt {e : G.E} (h : (e o ρ S).wp X fun v S => Nat.blt acc.1 maxLen = true ∧ Q (acc.1 + 1, v :: acc.2) S) : (cElt e o ρ acc S).wp X Q :=
  wp_bind (h.mono fun v S ⟨e, q⟩ => by show R.wp (match Nat.blt acc.1 maxLen with | true => R.ok (acc.1 + 1, v :: acc.2) S | false => .stuck 90) X Q; rw [e]; exact q)
theorem wp_cIf {c : G.E} {k : Col} (h : (c o ρ S).wp X fun x S => ∃ t, truthy S x = some t ∧ (t = true → (k o ρ acc S).wp X Q) ∧ (t = false → Q acc S)) : (cIf c k o ρ acc S).wp X Q :=
  wp_bind (h.mono fun x S ⟨t, e, q1, q2⟩ => by
    show R.wp (match truthy S x with | some true => k o ρ acc S | some false => R.ok acc S | .none => .stuck 91) X Q
    rw [e]; cases t; exact q2 rfl; exact q1 rfl)
theorem wp_cLoop {K : Store → Prop} {t : T} {k : Col} {J : List Val → Acc → Store → Prop} (hK : ∀ r acc S, J r acc S → K S) (step : ∀ v r acc S, J (v :: r) acc S → (t v o ρ S).wp noX fun ρ2 S => (k o ρ2 acc S).wp X (J r)) (done : ∀ acc S, J [] acc S → Q acc S) :
    ∀ (xs : List Val) (n : Nat) (it : It) (acc : Acc) (S : Store), Fd K it xs → xs.length < n → J xs acc S → (cLoop t k o ρ n it acc S).wp X Q
  | xs, 0, _, _, _, _, h, _ => absurd h (Nat.not_lt_zero _)
  | [], n + 1, it, acc, S, fd, _, hJ => by rw [cLoop_succ, fd S (hK _ _ _ hJ)]; exact done acc S hJ
  | v :: r, n + 1, it, acc, S, ⟨it', h1, h2⟩, hl, hJ => by
    rw [cLoop_succ, h1 S (hK _ _ _ hJ)]
    exact wp_bind (wp_noExc ((step v r acc S hJ).mono fun ρ2 S2 q => wp_bind (q.mono fun acc2 S3 q2 => wp_cLoop hK step done r n it' acc2 S3 h2 (by rw [List.length_cons] at hl; omega) q2)))
theorem wpR_cFor {own : List Nat} {t : T} {i : EI} {k : Col} (h : (i o ρ S).wp X fun it S => ∃ (xs : List Val) (K : Store → Prop) (J : List Val → Acc → Store → Prop), Fd K it xs ∧ xs.length < fuel ∧ J xs acc S ∧ (∀ r acc S, J r acc S → K S) ∧
      (∀ v r acc S, J (v :: r) acc S → (t v o (wipe ρ own) S).wp noX fun ρ2 S => (k o ρ2 acc S).wp X (J r)) ∧ ∀ acc S, J [] acc S → Q acc S) : (cFor own t i k o ρ acc S).wp X Q :=
  wp_bind (h.mono fun it S ⟨xs, K, J, fd, hl, hJ, hK, step, done⟩ => wp_cLoop hK step done xs fuel it acc S fd hl hJ)
theorem wp_cEltD {a b : G.E} (h : (a o ρ S).wp X fun k S => (b o ρ S).wp X fun v S => (keyFor k (ofE acc.2) && Nat.blt (ofE acc.2).length maxLen) = true ∧ Q (acc.1 + 1, (dput k v (ofE acc.2)).map dE) S) : (cEltD a b o ρ acc S).wp X Q :=
  wp_bind (h.mono fun k S q => wp_bind (q.mono fun v S ⟨e, q⟩ => by
    show R.wp (match keyFor k (ofE acc.2) && Nat.blt (ofE acc.2).length maxLen with | true => R.ok (acc.1 + 1, (dput k v (ofE acc.2)).map dE) S | false => .stuck 90) X Q
    rw [e]; exact q))
end
end
/-! the store -/
theorem Store.new_get (S : Store) (m : Nat) (o : Obj) : (S.new o).get m = if m = S.nx then some o else S.get m := Store.get_new S m o trivial
theorem Store.put_get (S : Store) (n m : Nat) (o : Obj) : (S.put n o).get m = if m = n then some o else S.get m := Store.get_put S n m o trivial
theorem Store.new_nx (S : Store) (o : Obj) : (S.new o).nx = S.nx + 1 := rfl
theorem Store.put_nx (S : Store) (n : Nat) (o : Obj) : (S.put n o).nx = S.nx := rfl
/-- all that is there below N but the named ones stands; the store grows -/
structure Kp (X : List Nat) (S S' : Store) : Prop where
  nx : S.nx ≤ S'.nx
  get : ∀ n, n < S.nx → n ∉ X → S'.get n = S.get n
theorem Kp.rfl' {X : List Nat} {S : Store} : Kp X S S := ⟨Nat.le_refl _, fun _ _ _ => rfl⟩
theorem Kp.trans {X : List Nat} {S S' S'' : Store} (a : Kp X S S') (b : Kp X S' S'') : Kp X S S'' := ⟨Nat.le_trans a.nx b.nx, fun n h x => (b.get n (Nat.lt_of_lt_of_le h a.nx) x).trans (a.get n h x)⟩
theorem Kp.new {X : List Nat} {S S' : Store} {o : Obj} (a : Kp X S S') : Kp X S (S'.new o) := ⟨Nat.le_succ_of_le a.nx, fun n h x => by rw [Store.new_get, if_neg (by have := a.nx; omega)]; exact a.get n h x⟩
theorem Kp.put {X : List Nat} {S S' : Store} {o : Obj} {n : Nat} (a : Kp X S S') (hn : n ∈ X ∨ S.nx ≤ n) : Kp X S (S'.put n o) := ⟨a.nx, fun m h x => by
  rw [Store.put_get, if_neg (fun e => by subst e; exact hn.elim x (by omega))]; exact a.get m h x⟩
theorem Kp.sub {X Y : List Nat} {S S' : Store} (a : Kp X S S') (h : ∀ n ∈ X, n ∈ Y ∨ S.nx ≤ n) : Kp Y S S' := ⟨a.nx, fun n hn y => a.get n hn fun x => (h n x).elim y (by omega)⟩
inductive Nrm : Env → Env → Prop
  | nil : Nrm [] []
  | cons {a : Option Val} {r r' : Env} : Nrm r r' → Nrm (a :: r) (a :: r')
inductive SetR : Nat → Option Val → Env → Env → Prop
  | z {v a : Option Val} {r r' : Env} : Nrm r r' → SetR 0 v (a :: r) (v :: r')
  | s {n : Nat} {v a : Option Val} {r r' : Env} : SetR n v r r' → SetR (n + 1) v (a :: r) (a :: r')
inductive SetAR : List Nat → List Val → Env → Env → Prop
  | cons {i : Nat} {v : Val} {is : List Nat} {vs : List Val} {r r1 r2 : Env} : SetR i (some v) r r1 → SetAR is vs r1 r2 → SetAR (i :: is) (v :: vs) r r2
  | nil {r r' : Env} : Nrm r r' → SetAR [] [] r r'
theorem Nrm.eq : ∀ {r r' : Env}, Nrm r r' → r = r'
  | _, _, .nil => rfl
  | _, _, .cons h => by rw [h.eq]
theorem SetR.eq : ∀ {n : Nat} {v : Option Val} {r r' : Env}, SetR n v r r' → r.set n v = r'
  | _, _, _, _, .z h => by rw [List.set_cons_zero, h.eq]
  | _, _, _, _, .s h => by rw [List.set_cons_succ, h.eq]
theorem SetAR.eq : ∀ {is : List Nat} {vs : List Val} {r r' : Env}, SetAR is vs r r' → setAll is vs r = some r'
  | _, _, _, _, .cons h k => by rw [setAll, h.eq, k.eq]
  | _, _, _, _, .nil h => by rw [setAll, h.eq]
section
variable {α : Type} {X : XP} {o : Orc} {ρ : Env} {S : Store} {N : Env → Store → Prop} {V : Val → Store → Prop} {B : Env → Store → Prop} {E : EP'}
theorem ex_set {i : Nat} {v : Option Val} {ρ ρ' : Env} {P : Env → Prop} (h : SetR i v ρ ρ') (q : P ρ') : ∃ ρ', SetR i v ρ ρ' ∧ P ρ' := ⟨_, h, q⟩
theorem ex_setA {is : List Nat} {vs : List Val} {ρ ρ' : Env} {P : Env → Prop} (h : SetAR is vs ρ ρ') (q : P ρ') : ∃ ρ', SetAR is vs ρ ρ' ∧ P ρ' := ⟨_, h, q⟩
theorem wp_self {m : R α} {Q : α → Store → Prop} (h : m.wp X Q) : m.wp X Q := h
theorem wp_selfS {m : SR} (h : m.wp N V B E) : m.wp N V B E := h
theorem wp_isCall {f : Nat} {vs : List Val} {Q : Val → Store → Prop} (h : (o.call f vs S).wp X Q) : (o.call f vs S).wp X Q := h
theorem wp_isCallN {t : Tb} {n f : Nat} {vs : List Val} {Q : Val → Store → Prop} (h : (callN t n f vs S).wp X Q) : (callN t n f vs S).wp X Q := h
theorem wp_isCallP {f : Nat} {vs : List Val} {Q : Val → Store → Prop} (h : (callP f o vs S).wp X Q) : (callP f o vs S).wp X Q := h
theorem wp_isCallL {f : Nat} {vs : List Val} {Q : Val → Store → Prop} (h : (callL f o vs S).wp X Q) : (callL f o vs S).wp X Q := h
theorem wp_tName' {i : Nat} {v : Val} {ρ' : Env} {Q : Env → Store → Prop} (h : SetR i (some v) ρ ρ') (q : Q ρ' S) : (tName i v o ρ S).wp X Q := by
  refine wp_tName ?_
  rw [setE_eq, h.eq]; exact q
theorem wp_sAug' {i : Nat} {f : Op2} {e : G.E} {x : Val} (hx : getE i ρ = some (some x)) (hv : isErr x = false) (h : (e o ρ S).wp (atX E ρ) fun y S => (f o x y S).wp (atX E ρ) fun z S => ∃ ρ', SetR i (some z) ρ ρ' ∧ N ρ' S) : (sAug i f e o ρ S).wp N V B E :=
  wp_sAug hx hv (h.mono fun y S k => k.mono fun z S ⟨ρ', e, q⟩ => by rw [e.eq]; exact q)
theorem wp_sPar' {is : List Nat} {es : EL} (h : (es o ρ S).wp (atX E ρ) fun vs S => ∃ ρ', SetAR is vs ρ ρ' ∧ N ρ' S) : (sPar is es o ρ S).wp N V B E :=
  wp_sPar (h.mono fun vs S ⟨ρ', e, q⟩ => ⟨ρ', e.eq, q⟩)
end
inductive T1 where
  | mk (s : List Nat) (ts : List T1)
mutual
def tv : T1 → Val
  | .mk s ts => .tup (.str s :: tvs ts)
def tvs : List T1 → List Val
  | [] => []
  | t :: r => tv t :: tvs r
end
theorem tvs_map : ∀ ts : List T1, tvs ts = ts.map tv
  | [] => rfl
  | t :: r => by rw [tvs, tvs_map r]; rfl
theorem isErr_tv : ∀ t : T1, isErr (tv t) = false
  | .mk s ts => by rw [tv]; rfl
theorem get_skip {S : Store} {o : Obj} {m : Nat} {x : Option Obj} (h : m ≠ S.nx) (k : S.get m = x) : (S.new o).get m = x := by rw [Store.new_get, if_neg h]; exact k
theorem get_here {S : Store} {o : Obj} {m : Nat} (h : m = S.nx) : (S.new o).get m = some o := by rw [Store.new_get, if_pos h]
theorem get_skipP {S : Store} {o : Obj} {m n : Nat} {x : Option Obj} (h : m ≠ n) (k : S.get m = x) : (S.put n o).get m = x := by rw [Store.put_get, if_neg h]; exact k
theorem get_hereP {S : Store} {o : Obj} {m n : Nat} (h : m = n) : (S.put n o).get m = some o := by rw [Store.put_get, if_pos h]
theorem wp_ifP {o : Orc} {ρ : Env} {S : Store} {N : Env → Store → Prop} {V : Val → Store → Prop} {B : Env → Store → Prop} {E : EP'} {c : G.E} {a d : C} (b : Bool) (h : (c o ρ S).wp (atX E ρ) fun x S' => x = .bool b ∧ S' = S) (h1 : b = true → (a o ρ S).wp N V B E) (h2 : b = false → (d o ρ S).wp N V B E) : (sIf c a d o ρ S).wp N V B E :=
  wpR_sIf (h.mono fun x S' ⟨e1, e2⟩ => by subst e1 e2; exact ⟨b, rfl, h1, h2⟩)
local macro_rules | `(tactic| array_mem_dec) => `(tactic| repeat (first | exact G.Nrm.nil | apply G.Nrm.cons | apply G.SetR.z | apply G.SetR.s | apply G.SetAR.cons | apply G.SetAR.nil))
local macro_rules | `(tactic| array_get_dec) => `(tactic| repeat (first
    | ((with_reducible apply G.wp_self); first
      | ((with_reducible apply G.wp_eVar) <;> (first | ((with_reducible show _ = _); first | exact rfl | assumption | exact G.isErr_tv _) | skip))
      | (with_reducible apply G.wp_eC)
      | (with_reducible apply G.wp_eOp)
      | (with_reducible apply G.wp_elCons)
      | (with_reducible apply G.wp_elNil)
      | (with_reducible apply G.wp_eB)
      | (with_reducible apply G.wp_eCall)
      | (with_reducible apply G.wp_eTup)
      | (with_reducible apply G.wp_alloc)
      | (with_reducible apply G.wp_eLst)
      | (with_reducible apply G.wp_eNot)
      | (with_reducible apply G.wp_eNeg)
      | (with_reducible apply G.wp_eAnd)
      | (with_reducible apply G.wp_eOr)
      | (with_reducible apply G.wp_eIf)
      | (with_reducible apply G.wp_eChain)
      | (with_reducible apply G.wp_eCallP)
      | (with_reducible apply G.wp_eCallL)
      | (with_reducible apply G.wp_eNew)
      | (with_reducible apply G.wp_eAttr)
      | (with_reducible apply G.wp_eMeth)
      | (with_reducible apply G.wp_eBm)
      | (with_reducible apply G.wp_eRev)
      | (with_reducible apply G.wp_eSl)
      | (with_reducible apply G.wp_eIsI)
      | (with_reducible apply G.wp_eDict0)
      | (with_reducible apply G.wp_eProp)
      | (with_reducible apply G.wp_eListIt)
      | ((with_reducible apply G.wp_eErr) <;> (first | ((with_reducible show _ = _); first | exact rfl | assumption | exact G.isErr_tv _) | skip))
      | (with_reducible apply G.wp_elD)
      | (with_reducible apply G.wp_eoNone)
      | (with_reducible apply G.wp_eoSome)
      | (with_reducible apply G.wp_iVal)
      | (with_reducible apply G.wp_iEnum)
      | (with_reducible apply G.wp_iZip)
      | (with_reducible apply G.wp_iEnumZ)
      | (with_reducible apply G.wp_iRange)
      | (with_reducible apply G.wp_iRange2)
      | (with_reducible apply G.wp_tNil)
      | (with_reducible apply G.wp_tCons)
      | ((with_reducible apply G.wp_tTup) <;> (first | ((with_reducible show _ = _); first | exact rfl | assumption | exact G.isErr_tv _) | skip))
      | ((with_reducible apply G.wp_tTupL) <;> (first | ((with_reducible show _ = _); first | exact rfl | assumption | exact G.isErr_tv _) | skip))
      | (with_reducible apply G.wp_tAttr)
      | (with_reducible apply G.wp_tSub)
      | (with_reducible apply G.wp_tSubK)
      | (with_reducible apply G.wp_cElt)
      | (with_reducible apply G.wp_cIf)
      | (with_reducible apply G.wp_cEltD)
      | ((with_reducible apply G.wp_tName'); focus (array_mem_dec; done))
      | ((fail_if_success (with_reducible first | apply G.wp_isCall | apply G.wp_isCallN | apply G.wp_isCallP | apply G.wp_isCallL)); refine G.wp_of_eq rfl ?_))
    | ((with_reducible apply G.wp_selfS); first
      | (with_reducible apply G.wp_cSeq)
      | (with_reducible apply G.wp_sAsg)
      | (with_reducible apply G.wp_cNil)
      | (with_reducible apply G.wp_sExpr)
      | (with_reducible apply G.wp_sRet)
      | (with_reducible apply G.wp_sBreak)
      | (with_reducible apply G.wp_sRaise)
      | (with_reducible apply G.wp_sRaise0)
      | (with_reducible apply G.wp_sTry)
      | ((with_reducible apply G.wp_sAug')  <;> (first | ((with_reducible show _ = _); first | exact rfl | assumption | exact G.isErr_tv _) | skip))
      | with_reducible apply G.wp_sPar')
    | ((with_reducible apply G.ex_set); focus (array_mem_dec; done))
    | ((with_reducible apply G.ex_setA); focus (array_mem_dec; done))
    | with_reducible refine And.intro (fun (_ : true = true) => ?_) (fun h => nomatch (h : true = false))
    | with_reducible refine And.intro (fun h => nomatch (h : false = true)) (fun (_ : false = false) => ?_)
    | with_reducible refine And.intro (fun h => nomatch (h : true = false)) (fun (_ : true = true) => ?_)
    | with_reducible refine And.intro (fun (_ : false = false) => ?_) (fun h => nomatch (h : false = true))
    | refine ⟨_, rfl, ?_⟩ | refine ⟨_, _, rfl, rfl, ?_⟩ | refine ⟨rfl, ?_⟩ | exact (⟨fun h => nomatch h, fun h => nomatch h⟩)))
local macro_rules | `(tactic| sizeOf_list_dec) => `(tactic| first | assumption | exact G.get_here rfl | exact G.get_hereP rfl | exact G.get_here (by (first | assumption | omega | (simp only [G.Store.new_nx, G.Store.put_nx]; omega) | (simp only [G.Store.new_nx, G.Store.put_nx] at *; omega))) | (refine G.get_skip (by (first | assumption | omega | (simp only [G.Store.new_nx, G.Store.put_nx]; omega) | (simp only [G.Store.new_nx, G.Store.put_nx] at *; omega))) ?_; sizeOf_list_dec) | exact G.get_hereP (by (first | assumption | omega | (simp only [G.Store.new_nx, G.Store.put_nx]; omega) | (simp only [G.Store.new_nx, G.Store.put_nx] at *; omega))) | (refine G.get_skipP (by (first | assumption | omega | (simp only [G.Store.new_nx, G.Store.put_nx]; omega) | (simp only [G.Store.new_nx, G.Store.put_nx] at *; omega))) ?_; sizeOf_list_dec))
local macro_rules | `(tactic| decreasing_trivial_pre_omega) => `(tactic| first | assumption | exact G.Kp.rfl' | (refine G.Kp.new ?_; decreasing_trivial_pre_omega) | (refine G.Kp.put ?_ (by first | exact .inl (by simp) | exact .inr (by (first | assumption | omega | (simp only [G.Store.new_nx, G.Store.put_nx]; omega) | (simp only [G.Store.new_nx, G.Store.put_nx] at *; omega)))); decreasing_trivial_pre_omega))
/-! comprehensions; trees -/
section
variable {X : XP} {Q : Val → Store → Prop} {o : Orc} {ρ : Env} {S : Store} {α : Type}
/-- [.. for t in i ..]: each value gives the list f v -/
theorem wp_lcG {own : List Nat} {t : T} {i : EI} {k : Col} (h : (i o ρ S).wp noX fun it S1 => ∃ (xs : List α) (g : α → Val) (f : α → List Val) (I : Store → Prop), Fd I it (xs.map g) ∧ xs.length < fuel ∧ (xs.flatMap f).length ≤ maxLen ∧ I S1 ∧
      (∀ v ∈ xs, ∀ acc S, I S → acc.1 + (f v).length ≤ maxLen → (t (g v) o (wipe ρ own) S).wp noX fun ρ2 S => (k o ρ2 acc S).wp noX fun acc' S => acc' = (acc.1 + (f v).length, (f v).reverse ++ acc.2) ∧ I S) ∧
      ∀ S', I S' → Q (.ref S'.nx) (S'.new (.lst (xs.flatMap f)))) : (eLc (cFor own t i k) o ρ S).wp X Q := by
  refine wpR_eLc (wpR_cFor (h.mono fun it S1 ⟨xs, g, f, I, fd, hl, hm, hI, step, done⟩ => ?_))
  refine ⟨xs.map g, I, fun r acc S => I S ∧ ∃ d e, xs = d ++ e ∧ r = e.map g ∧ acc = ((d.flatMap f).length, (d.flatMap f).reverse), fd, by rw [List.length_map]; exact hl, ⟨hI, [], xs, rfl, rfl, rfl⟩, fun r acc S h => h.1, ?_, ?_⟩
  · rintro v r acc S ⟨hI, d, e, rfl, he, rfl⟩
    cases e with
    | nil => cases he
    | cons a e =>
      obtain ⟨rfl, rfl⟩ : v = g a ∧ r = e.map g := by
        rw [List.map_cons] at he
        exact List.cons.inj he
      refine (step a (by simp) _ S hI ?_).mono fun ρ2 S2 q => q.mono fun acc' S3 ⟨e1, hI3⟩ => ⟨hI3, d ++ [a], e, by simp, rfl, ?_⟩
      · rw [List.flatMap_append, List.length_append, List.flatMap_cons, List.length_append] at hm
        show (d.flatMap f).length + (f a).length ≤ maxLen
        omega
      · rw [e1, List.flatMap_append, List.length_append, List.reverse_append]
        simp
  · rintro acc S ⟨hI, d, e, rfl, he, rfl⟩
    have e0 : e = [] := by
      cases e with
      | nil => rfl
      | cons a e => cases he
    subst e0
    have hd := done S hI
    rw [List.append_nil] at hd
    show Q (.ref S.nx) (S.new (.lst ((d.flatMap f).reverse.reverse)))
    rw [List.reverse_reverse]; exact hd
/-- [e for t in i] -/
theorem wp_lcMap {own : List Nat} {t : T} {i : EI} {e : E} (h : (i o ρ S).wp noX fun it S1 => ∃ (xs : List α) (g : α → Val) (f : α → Val) (I : Store → Prop), Fd I it (xs.map g) ∧ xs.length ≤ maxLen ∧ I S1 ∧
      (∀ v ∈ xs, ∀ S, I S → (t (g v) o (wipe ρ own) S).wp noX fun ρ2 S => (e o ρ2 S).wp noX fun w S => w = f v ∧ I S) ∧
      ∀ S', I S' → Q (.ref S'.nx) (S'.new (.lst (xs.map f)))) : (eLc (cFor own t i (cElt e)) o ρ S).wp X Q := by
  have fm : ∀ (f : α → Val) (xs : List α), (xs.flatMap fun v => [f v]) = xs.map f := fun f xs => by
    induction xs with
    | nil => rfl
    | cons a r ih => rw [List.flatMap_cons, ih]; rfl
  refine wp_lcG (h.mono fun it S1 ⟨xs, g, f, I, fd, hl, hI, step, done⟩ => ⟨xs, g, fun v => [f v], I, fd, Nat.lt_of_le_of_lt hl (by decide), by rw [fm, List.length_map]; exact hl, hI, fun v hv acc S hS hacc => ?_, fun S' h => by rw [fm]; exact done S' h⟩)
  refine (step v hv S hS).mono fun ρ2 S2 q => wp_cElt (q.mono fun w S3 ⟨e1, hI3⟩ => ⟨?_, by rw [e1]; rfl, hI3⟩)
  have : acc.1 + 1 ≤ maxLen := hacc
  simp [Nat.blt_eq]; omega
/-- [e for t in i if c] -/
theorem wp_lcFilter {own : List Nat} {t : T} {i : EI} {c e : E} (h : (i o ρ S).wp noX fun it S1 => ∃ (xs : List α) (g : α → Val) (p : α → Bool) (f : α → Val) (I : Store → Prop), Fd I it (xs.map g) ∧ xs.length ≤ maxLen ∧ I S1 ∧
      (∀ v ∈ xs, ∀ S, I S → (t (g v) o (wipe ρ own) S).wp noX fun ρ2 S => (c o ρ2 S).wp noX fun x S => truthy S x = some (p v) ∧ I S ∧ (p v = true → (e o ρ2 S).wp noX fun w S => w = f v ∧ I S)) ∧
      ∀ S', I S' → Q (.ref S'.nx) (S'.new (.lst ((xs.filter p).map f)))) : (eLc (cFor own t i (cIf c (cElt e))) o ρ S).wp X Q := by
  have fm : ∀ (p : α → Bool) (f : α → Val) (xs : List α), (xs.flatMap fun v => bif p v then [f v] else []) = (xs.filter p).map f := fun p f xs => by
    induction xs with
    | nil => rfl
    | cons a r ih =>
      rw [List.flatMap_cons, ih, List.filter_cons]
      cases p a <;> rfl
  refine wp_lcG (h.mono fun it S1 ⟨xs, g, p, f, I, fd, hl, hI, step, done⟩ => ⟨xs, g, fun v => bif p v then [f v] else [], I, fd, Nat.lt_of_le_of_lt hl (by decide), by rw [fm, List.length_map]; exact Nat.le_trans (List.length_filter_le _ _) hl, hI, fun v hv acc S hS hacc => ?_, fun S' h => by rw [fm]; exact done S' h⟩)
  refine (step v hv S hS).mono fun ρ2 S2 q => wp_cIf (q.mono fun x S3 ⟨e1, hI3, k⟩ => ⟨p v, e1, fun ht => wp_cElt ((k ht).mono fun w S4 ⟨e2, hI4⟩ => ⟨?_, ?_, hI4⟩), fun ht => ⟨by simp only [ht, cond_false]; rfl, hI3⟩⟩)
  · simp only [ht, cond_true, List.length_singleton] at hacc
    simp [Nat.blt_eq]; omega
  · simp only [ht, cond_true]; rw [e2]; rfl
end
/-! ### trees -/
mutual
def sz : T1 → Nat
  | .mk _ ts => 1 + szs ts
def szs : List T1 → Nat
  | [] => 0
  | t :: r => sz t + szs r
end
mutual
def lv : T1 → Nat
  | .mk _ ts => 1 + lvs ts
def lvs : List T1 → Nat
  | [] => 0
  | t :: r => max (lv t) (lvs r)
end
theorem lv_mem : ∀ {ts : List T1} {t : T1}, t ∈ ts → lv t ≤ lvs ts
  | a :: r, t, h => by
    rw [lvs]
    rcases List.mem_cons.mp h with e | e
    · rw [e]; exact Nat.le_max_left _ _
    · exact Nat.le_trans (lv_mem e) (Nat.le_max_right _ _)
theorem sz_mem : ∀ {ts : List T1} {t : T1}, t ∈ ts → sz t ≤ szs ts
  | a :: r, t, h => by
    rw [szs]
    rcases List.mem_cons.mp h with e | e
    · rw [e]; exact Nat.le_add_right _ _
    · exact Nat.le_trans (sz_mem e) (Nat.le_add_left _ _)
theorem sz_pos : ∀ t : T1, 1 ≤ sz t
  | .mk s ts => by rw [sz]; omega
theorem len_szs : ∀ ts : List T1, ts.length ≤ szs ts
  | [] => Nat.le_refl _
  | t :: r => by rw [szs, List.length_cons]; have := len_szs r; have := sz_pos t; omega
theorem lv_pos : ∀ t : T1, 1 ≤ lv t
  | .mk s ts => by rw [lv]; omega
/-! built-ins over what the store has -/
theorem new_at (S : Store) (o : Obj) : (S.new o).get S.nx = some o := by rw [Store.new_get, if_pos rfl]
theorem slc_tail {α : Type} (a : α) (r : List α) : slc (a :: r) (some 1) .none = r := by
  show ((a :: r).take (a :: r).length).drop (min 1 (a :: r).length) = r
  rw [List.take_length, List.length_cons]
  have : min 1 (r.length + 1) = 1 := by omega
  rw [this]; rfl
def c_size (k : Nat) : C := cSeq (sRet (eOp oAdd (eC (.int 1)) (eB bSum (elCons (eLc (cFor [1] (tName 1) (iVal (eSl (eVar 0) (eoSome (eC (.int 1))) (eoNone))) (cElt (eCallP k (elCons (eVar 1) (elNil)))))) (elNil))))) (cNil)
/-! orders, sorted lists without like neighbours -/
structure OrdOk {α : Type} (c : α → α → Ordering) : Prop where
  eq : ∀ a b, c a b = .eq → a = b
  refl : ∀ a, c a a = .eq
  swap : ∀ a b, c a b = (c b a).swap
  trans : ∀ a b d, c a b = .lt → c b d = .lt → c a d = .lt
theorem strC_ord : OrdOk strC := by
  have bl : ∀ a b : Nat, Nat.beq a b = false → Nat.blt a b = false → Nat.blt b a = true := fun a b h1 h2 => by
    rw [Nat.blt_eq]
    have h1 : a ≠ b := fun e => by rw [e, Nat.beq_refl] at h1; cases h1
    have h2 : ¬ a < b := fun e => by rw [(Nat.blt_eq).mpr e] at h2; cases h2
    omega
  refine ⟨?_, ?_, ?_, ?_⟩
  · intro a
    induction a with
    | nil => intro b h; cases b <;> first | rfl | cases h
    | cons x a ih =>
      intro b h
      cases b with
      | nil => cases h
      | cons y b =>
        rw [strC] at h
        cases e : Nat.beq x y with
        | true => rw [e] at h; rw [Nat.eq_of_beq_eq_true e, ih b h]
        | false =>
          rw [e] at h
          cases e2 : Nat.blt x y <;> rw [e2] at h <;> cases h
  · intro a
    induction a with
    | nil => rfl
    | cons x a ih => rw [strC, Nat.beq_refl]; exact ih
  · intro a
    induction a with
    | nil => intro b; cases b <;> rfl
    | cons x a ih =>
      intro b
      cases b with
      | nil => rfl
      | cons y b =>
        rw [strC, strC]
        cases e : Nat.beq x y with
        | true =>
          have := Nat.eq_of_beq_eq_true e
          subst this
          rw [Nat.beq_refl]
          exact ih b
        | false =>
          have e' : Nat.beq y x = false := by
            cases q : Nat.beq y x with
            | false => rfl
            | true => rw [Nat.eq_of_beq_eq_true q, Nat.beq_refl] at e; cases e
          rw [e']
          cases e2 : Nat.blt x y with
          | true =>
            have : Nat.blt y x = false := by
              cases q : Nat.blt y x with
              | false => rfl
              | true => rw [Nat.blt_eq] at q e2; omega
            rw [this]; rfl
          | false => rw [bl x y e e2]; rfl
  · intro a
    induction a with
    | nil =>
      intro b d h1 h2
      cases d with
      | nil => cases b with
        | nil => exact h1
        | cons _ _ => exact absurd h2 (fun h => nomatch h)
      | cons _ _ => rfl
    | cons x a ih =>
      intro b d h1 h2
      cases b with
      | nil => cases h1
      | cons y b =>
        cases d with
        | nil => cases h2
        | cons z d =>
          rw [strC] at h1 h2 ⊢
          cases e : Nat.beq x y with
          | true =>
            have := Nat.eq_of_beq_eq_true e
            subst this
            rw [e] at h1
            cases e2 : Nat.beq x z with
            | true => rw [e2] at h2; exact ih b d h1 h2
            | false => rw [e2] at h2; exact h2
          | false =>
            rw [e] at h1
            cases e1 : Nat.blt x y with
            | false => rw [e1] at h1; cases h1
            | true =>
              rw [Nat.blt_eq] at e1
              cases e2 : Nat.beq y z with
              | true =>
                have := Nat.eq_of_beq_eq_true e2
                subst this
                rw [e, (Nat.blt_eq).mpr e1]
              | false =>
                rw [e2] at h2
                cases e3 : Nat.blt y z with
                | false => rw [e3] at h2; cases h2
                | true =>
                  rw [Nat.blt_eq] at e3
                  have e4 : Nat.beq x z = false := by
                    cases q : Nat.beq x z with
                    | false => rfl
                    | true => have := Nat.eq_of_beq_eq_true q; omega
                  rw [e4, (Nat.blt_eq).mpr (by omega)]
mutual
def cmpT : T1 → T1 → Ordering
  | .mk s ts, .mk z us => match strC s z with
    | .eq => cmpTs ts us
    | o => o
def cmpTs : List T1 → List T1 → Ordering
  | [], [] => .eq
  | [], _ :: _ => .lt
  | _ :: _, [] => .gt
  | a :: r, b :: s => match cmpT a b with
    | .eq => cmpTs r s
    | o => o
end
mutual
theorem cmpT_eq : ∀ a b : T1, cmpT a b = .eq → a = b
  | .mk s ts, .mk z us, h => by
    rw [cmpT] at h
    cases e : strC s z with
    | eq => rw [e] at h; rw [strC_ord.eq _ _ e, cmpTs_eq ts us h]
    | lt => rw [e] at h; cases h
    | gt => rw [e] at h; cases h
theorem cmpTs_eq : ∀ a b : List T1, cmpTs a b = .eq → a = b
  | [], [], _ => rfl
  | [], _ :: _, h => by cases h
  | _ :: _, [], h => by cases h
  | a :: r, b :: s, h => by
    rw [cmpTs] at h
    cases e : cmpT a b with
    | eq => rw [e] at h; rw [cmpT_eq a b e, cmpTs_eq r s h]
    | lt => rw [e] at h; cases h
    | gt => rw [e] at h; cases h
end
mutual
theorem cmpT_refl : ∀ a : T1, cmpT a a = .eq
  | .mk s ts => by rw [cmpT, strC_ord.refl]; exact cmpTs_refl ts
theorem cmpTs_refl : ∀ a : List T1, cmpTs a a = .eq
  | [] => rfl
  | a :: r => by rw [cmpTs, cmpT_refl a]; exact cmpTs_refl r
end
mutual
theorem cmpT_swap : ∀ a b : T1, cmpT a b = (cmpT b a).swap
  | .mk s ts, .mk z us => by
    rw [cmpT, cmpT, strC_ord.swap s z]
    cases strC z s with
    | eq => exact cmpTs_swap ts us
    | lt => rfl
    | gt => rfl
theorem cmpTs_swap : ∀ a b : List T1, cmpTs a b = (cmpTs b a).swap
  | [], [] => rfl
  | [], _ :: _ => rfl
  | _ :: _, [] => rfl
  | a :: r, b :: s => by
    rw [cmpTs, cmpTs, cmpT_swap a b]
    cases cmpT b a with
    | eq => exact cmpTs_swap r s
    | lt => rfl
    | gt => rfl
end
mutual
theorem cmpT_trans : ∀ a b d : T1, cmpT a b = .lt → cmpT b d = .lt → cmpT a d = .lt
  | .mk s ts, .mk z us, .mk y vs, h1, h2 => by
    rw [cmpT] at h1 h2 ⊢
    cases e : strC s z with
    | gt => rw [e] at h1; cases h1
    | eq =>
      rw [e] at h1
      have := strC_ord.eq _ _ e
      subst this
      cases e2 : strC s y with
      | eq => rw [e2] at h2; exact cmpTs_trans ts us vs h1 h2
      | lt => rfl
      | gt => rw [e2] at h2; cases h2
    | lt =>
      cases e2 : strC z y with
      | eq => rw [← strC_ord.eq _ _ e2, e]
      | lt => rw [strC_ord.trans _ _ _ e e2]
      | gt => rw [e2] at h2; cases h2
theorem cmpTs_trans : ∀ a b d : List T1, cmpTs a b = .lt → cmpTs b d = .lt → cmpTs a d = .lt
  | [], _ :: _, _ :: _, _, _ => rfl
  | [], [], _, h, _ => by cases h
  | [], _ :: _, [], _, h => by cases h
  | _ :: _, [], _, h, _ => by cases h
  | _ :: _, _ :: _, [], _, h => by cases h
  | a :: r, b :: s, d :: t, h1, h2 => by
    rw [cmpTs] at h1 h2 ⊢
    cases e : cmpT a b with
    | gt => rw [e] at h1; cases h1
    | eq =>
      rw [e] at h1
      have := cmpT_eq _ _ e
      subst this
      cases e2 : cmpT a d with
      | eq => rw [e2] at h2; exact cmpTs_trans r s t h1 h2
      | lt => rfl
      | gt => rw [e2] at h2; cases h2
    | lt =>
      cases e2 : cmpT b d with
      | eq => rw [← cmpT_eq _ _ e2, e]
      | lt => rw [cmpT_trans _ _ _ e e2]
      | gt => rw [e2] at h2; cases h2
end
/-- by size, then by the tree -/
def cmpK (a b : T1) : Ordering := match Nat.beq (sz a) (sz b) with
  | true => cmpT a b
  | false => match Nat.blt (sz a) (sz b) with
    | true => .lt
    | false => .gt
theorem cmpK_lt {a b : T1} : cmpK a b = .lt ↔ sz a < sz b ∨ sz a = sz b ∧ cmpT a b = .lt := by
  unfold cmpK
  cases e : Nat.beq (sz a) (sz b) with
  | true =>
    have := Nat.eq_of_beq_eq_true e
    exact ⟨fun h => .inr ⟨this, h⟩, fun h => by rcases h with h | h; omega; exact h.2⟩
  | false =>
    have h1 : sz a ≠ sz b := fun q => by rw [q, Nat.beq_refl] at e; cases e
    cases e2 : Nat.blt (sz a) (sz b) with
    | true => rw [Nat.blt_eq] at e2; exact ⟨fun _ => .inl e2, fun _ => rfl⟩
    | false =>
      have : ¬ sz a < sz b := fun q => by rw [(Nat.blt_eq).mpr q] at e2; cases e2
      exact ⟨fun h => by (exact nomatch (show Ordering.gt = Ordering.lt from h)), fun h => by omega⟩
theorem cmpK_eq {a b : T1} : cmpK a b = .eq ↔ a = b := by
  constructor
  · intro h
    unfold cmpK at h
    cases e : Nat.beq (sz a) (sz b) with
    | true => rw [e] at h; exact cmpT_eq a b h
    | false => rw [e] at h; cases e2 : Nat.blt (sz a) (sz b) <;> rw [e2] at h <;> cases h
  · rintro rfl
    unfold cmpK
    rw [Nat.beq_refl]; exact cmpT_refl a
theorem cmpK_swap (a b : T1) : cmpK a b = (cmpK b a).swap := by
  unfold cmpK
  cases e : Nat.beq (sz a) (sz b) with
  | true =>
    rw [Nat.eq_of_beq_eq_true e, Nat.beq_refl]
    exact cmpT_swap a b
  | false =>
    have h1 : sz a ≠ sz b := fun q => by rw [q, Nat.beq_refl] at e; cases e
    have e' : Nat.beq (sz b) (sz a) = false := by
      cases q : Nat.beq (sz b) (sz a) with
      | false => rfl
      | true => exact absurd (Nat.eq_of_beq_eq_true q).symm h1
    rw [e']
    cases e2 : Nat.blt (sz a) (sz b) with
    | true =>
      have : Nat.blt (sz b) (sz a) = false := by
        cases q : Nat.blt (sz b) (sz a) with
        | false => rfl
        | true => rw [Nat.blt_eq] at q e2; omega
      rw [this]; rfl
    | false =>
      have : Nat.blt (sz b) (sz a) = true := by
        rw [Nat.blt_eq]
        have : ¬ sz a < sz b := fun q => by rw [(Nat.blt_eq).mpr q] at e2; cases e2
        omega
      rw [this]; rfl
theorem cmpK_ok : OrdOk cmpK := ⟨fun _ _ h => cmpK_eq.mp h, fun _ => cmpK_eq.mpr rfl, cmpK_swap, fun a b d h1 h2 => by
  rw [cmpK_lt] at *
  rcases h1 with h1 | h1 <;> rcases h2 with h2 | h2
  · exact .inl (by omega)
  · exact .inl (by omega)
  · exact .inl (by omega)
  · exact .inr ⟨by omega, cmpT_trans _ _ _ h1.2 h2.2⟩⟩
/-! sorted -/
section
variable {α : Type} {c : α → α → Ordering}
def insC (c : α → α → Ordering) (x : α) : List α → List α
  | [] => [x]
  | a :: r => match isLt (c x a) with
    | true => x :: a :: r
    | false => a :: insC c x r
def srtC (c : α → α → Ordering) : List α → List α → List α
  | [], acc => acc
  | x :: r, acc => srtC c r (insC c x acc)
/-- none is before the one ahead of it -/
def Up (c : α → α → Ordering) : List α → Prop
  | [] => True
  | a :: r => (∀ b ∈ r, c b a ≠ .lt) ∧ Up c r
/-- each is before those behind it -/
def Strict (c : α → α → Ordering) : List α → Prop
  | [] => True
  | a :: r => (∀ b ∈ r, c a b = .lt) ∧ Strict c r
theorem isLt_iff {o : Ordering} : isLt o = true ↔ o = .lt := by cases o <;> simp [isLt]
theorem mem_insC {x y : α} : ∀ {l : List α}, y ∈ insC c x l ↔ y = x ∨ y ∈ l
  | [] => by simp [insC]
  | a :: r => by
    rw [insC]
    cases isLt (c x a) with
    | true => simp
    | false =>
      show y ∈ a :: insC c x r ↔ _
      rw [List.mem_cons, mem_insC, List.mem_cons]
      constructor
      · rintro (h | h | h)
        · exact .inr (.inl h)
        · exact .inl h
        · exact .inr (.inr h)
      · rintro (h | h | h)
        · exact .inr (.inl h)
        · exact .inl h
        · exact .inr (.inr h)
theorem mem_srtC {y : α} : ∀ {l acc : List α}, y ∈ srtC c l acc ↔ y ∈ l ∨ y ∈ acc
  | [], acc => by simp [srtC]
  | x :: r, acc => by
    rw [srtC, mem_srtC, mem_insC, List.mem_cons]
    constructor
    · rintro (h | h | h)
      · exact .inl (.inr h)
      · exact .inl (.inl h)
      · exact .inr h
    · rintro ((h | h) | h)
      · exact .inr (.inl h)
      · exact .inl h
      · exact .inr (.inr h)
theorem insC_up (ok : OrdOk c) {x : α} : ∀ {l : List α}, Up c l → Up c (insC c x l)
  | [], _ => ⟨fun _ h => (by cases h), trivial⟩
  | a :: r, ⟨h1, h2⟩ => by
    rw [insC]
    cases e : isLt (c x a) with
    | true =>
      have e := isLt_iff.mp e
      refine ⟨fun b hb => ?_, h1, h2⟩
      intro q
      rcases List.mem_cons.mp hb with z | z
      · subst z
        have := ok.trans _ _ _ q e
        rw [ok.refl] at this; cases this
      · exact h1 b z (ok.trans _ _ _ q e)
    | false =>
      refine ⟨fun b hb => ?_, insC_up ok h2⟩
      rcases mem_insC.mp hb with z | z
      · subst z
        intro q
        rw [isLt_iff.mpr q] at e; cases e
      · exact h1 b z
theorem srtC_up (ok : OrdOk c) : ∀ {l acc : List α}, Up c acc → Up c (srtC c l acc)
  | [], _, h => h
  | x :: r, _, h => srtC_up ok (l := r) (insC_up ok h)
/-- like neighbours once -/
def ddC (c : α → α → Ordering) : List α → List α
  | [] => []
  | a :: r => match ddC c r with
    | [] => [a]
    | b :: s => match isEq (c a b) with
      | true => b :: s
      | false => a :: b :: s
theorem mem_ddC (ok : OrdOk c) {y : α} : ∀ {l : List α}, y ∈ ddC c l ↔ y ∈ l
  | [] => by simp [ddC]
  | a :: r => by
    have ih := mem_ddC ok (y := y) (l := r)
    rw [ddC, List.mem_cons, ← ih]
    cases ddC c r with
    | nil => simp
    | cons b s =>
      show y ∈ (match isEq (c a b) with | true => b :: s | false => a :: b :: s) ↔ _
      cases e : isEq (c a b) with
      | true =>
        have : c a b = .eq := by cases h : c a b <;> rw [h] at e <;> first | rfl | cases e
        have := ok.eq _ _ this
        subst this
        simp
      | false => simp
theorem ddC_strict (ok : OrdOk c) : ∀ {l : List α}, Up c l → Strict c (ddC c l)
  | [], _ => trivial
  | a :: r, ⟨h1, h2⟩ => by
    have ih := ddC_strict ok h2
    have hm := fun y => mem_ddC ok (y := y) (l := r)
    rw [ddC]
    cases e : ddC c r with
    | nil => exact ⟨fun _ h => (by cases h), trivial⟩
    | cons b s =>
      rw [e] at ih hm
      show Strict c (match isEq (c a b) with | true => b :: s | false => a :: b :: s)
      cases e2 : isEq (c a b) with
      | true => exact ih
      | false =>
        have hb : b ∈ r := (hm b).mp List.mem_cons_self
        have hab : c a b = .lt := by
          cases h : c a b with
          | lt => rfl
          | eq => rw [h] at e2; cases e2
          | gt =>
            have := ok.swap b a
            rw [h] at this
            exact absurd this (h1 b hb)
        refine ⟨fun d hd => ?_, ih⟩
        rcases List.mem_cons.mp hd with z | z
        · subst z; exact hab
        · exact ok.trans _ _ _ hab (ih.1 d z)
end
/-- trees in order, each once -/
def ordT (ts : List T1) : List T1 := ddC cmpK (srtC cmpK ts [])
theorem mem_ordT {ts : List T1} {t : T1} : t ∈ ordT ts ↔ t ∈ ts := by
  unfold ordT
  rw [mem_ddC cmpK_ok, mem_srtC]; simp
theorem ordT_strict (ts : List T1) : Strict cmpK (ordT ts) := ddC_strict cmpK_ok (srtC_up cmpK_ok trivial)
/-! least numbers: the theory, no program in sight -/
mutual
/-- the one becomes the other in so many steps -/
inductive Der (R : List (T1 × T1)) : T1 → T1 → Nat → Prop
  | refl (u : T1) : Der R u u 0
  | kids {s : List Nat} {ts us : List T1} {n : Nat} : DerL R ts us n → Der R (.mk s ts) (.mk s us) n
  | rule {u v l r : T1} {a b : Nat} : (l, r) ∈ R → Der R u l a → Der R r v b → Der R u v (a + 1 + b)
inductive DerL (R : List (T1 × T1)) : List T1 → List T1 → Nat → Prop
  | nil : DerL R [] [] 0
  | cons {t u : T1} {ts us : List T1} {a b : Nat} : Der R t u a → DerL R ts us b → DerL R (t :: ts) (u :: us) (a + b)
end
/-- the least number -/
def Lst (R : List (T1 × T1)) (u v : T1) (n : Nat) : Prop := Der R u v n ∧ ∀ m, Der R u v m → n ≤ m
theorem least_of {P : Nat → Prop} : ∀ {n : Nat}, P n → ∃ k, k ≤ n ∧ P k ∧ ∀ m, P m → k ≤ m := by
  intro n
  induction n using Nat.strongRecOn with
  | _ n ih =>
    intro h
    by_cases c : ∃ m, m < n ∧ P m
    · obtain ⟨m, h1, h2⟩ := c
      obtain ⟨k, k1, k2⟩ := ih m h1 h2
      exact ⟨k, by omega, k2⟩
    · exact ⟨n, Nat.le_refl _, h, fun m hm => Nat.le_of_not_lt fun q => c ⟨m, q, hm⟩⟩
theorem Lst.ex {R : List (T1 × T1)} {u v : T1} {n : Nat} (h : Der R u v n) : ∃ k, k ≤ n ∧ Lst R u v k := least_of h
theorem Lst.uniq {R : List (T1 × T1)} {u v : T1} {n m : Nat} (h : Lst R u v n) (k : Lst R u v m) : n = m := Nat.le_antisymm (h.2 _ k.1) (k.2 _ h.1)
theorem Lst.self {R : List (T1 × T1)} {u : T1} : Lst R u u 0 := ⟨.refl u, fun _ _ => Nat.zero_le _⟩
/-- least numbers child by child -/
inductive LstL (R : List (T1 × T1)) : List T1 → List T1 → Nat → Prop
  | nil : LstL R [] [] 0
  | cons {t u : T1} {ts us : List T1} {a b : Nat} : Lst R t u a → LstL R ts us b → LstL R (t :: ts) (u :: us) (a + b)
theorem LstL.der {R : List (T1 × T1)} : ∀ {ts us : List T1} {n : Nat}, LstL R ts us n → DerL R ts us n
  | _, _, _, .nil => .nil
  | _, _, _, .cons h k => .cons h.1 k.der
theorem DerL.least {R : List (T1 × T1)} : ∀ {ts us : List T1} {n : Nat}, DerL R ts us n → ∃ m, m ≤ n ∧ LstL R ts us m
  | _, _, _, .nil => ⟨0, Nat.le_refl _, .nil⟩
  | _, _, _, .cons h k => by
    obtain ⟨a, h1, h2⟩ := Lst.ex h
    obtain ⟨b, k1, k2⟩ := k.least
    exact ⟨a + b, by omega, .cons h2 k2⟩
/-- the last step of a least number: it is 0, or a sum of least numbers of children, or one of a rule -/
theorem Lst.last {R : List (T1 × T1)} {u v : T1} {n : Nat} (h : Lst R u v n) : u = v ∧ n = 0 ∨ (∃ s ts us, u = .mk s ts ∧ v = .mk s us ∧ LstL R ts us n) ∨ ∃ l r a b, (l, r) ∈ R ∧ Lst R u l a ∧ Lst R r v b ∧ n = a + 1 + b := by
  cases h.1 with
  | refl => exact .inl ⟨rfl, rfl⟩
  | kids k =>
    obtain ⟨m, h1, h2⟩ := k.least
    have e : n = m := Nat.le_antisymm (h.2 _ (.kids h2.der)) h1
    subst e
    exact .inr (.inl ⟨_, _, _, rfl, rfl, h2⟩)
  | @rule _ _ l r a b hr ha hb =>
    obtain ⟨a', a1, a2⟩ := Lst.ex ha
    obtain ⟨b', b1, b2⟩ := Lst.ex hb
    have := h.2 _ (.rule hr a2.1 b2.1)
    exact .inr (.inr ⟨l, r, a', b', hr, a2, b2, by omega⟩)
/-! ### tables -/
abbrev Tbl := T1 → T1 → Option Nat
/-- each number of the table is one of steps -/
def Sound (R : List (T1 × T1)) (T : Tbl) : Prop := ∀ u v n, T u v = some n → Der R u v n
/-- lowered -/
def Low (T T' : Tbl) : Prop := ∀ u v n, T u v = some n → ∃ m, T' u v = some m ∧ m ≤ n
theorem Low.refl {T : Tbl} : Low T T := fun _ _ n h => ⟨n, h, Nat.le_refl _⟩
theorem Low.trans {T T' T'' : Tbl} (a : Low T T') (b : Low T' T'') : Low T T'' := fun u v n h => by
  obtain ⟨m, h1, h2⟩ := a u v n h
  obtain ⟨k, h3, h4⟩ := b u v m h1
  exact ⟨k, h3, by omega⟩
/-- the sum of the children's numbers -/
def sumT (T : Tbl) : List T1 → List T1 → Option Nat
  | [], [] => some 0
  | t :: ts, u :: us => match T t u, sumT T ts us with
    | some a, some b => some (a + b)
    | _, _ => .none
  | _, _ => .none
/-- of this pair the table has the least number -/
def Ok (R : List (T1 × T1)) (T : Tbl) (u v : T1) : Prop := ∀ n, Lst R u v n → T u v = some n
theorem Ok.low {R : List (T1 × T1)} {T T' : Tbl} {u v : T1} (h : Ok R T u v) (l : Low T T') (s : Sound R T') : Ok R T' u v := fun n hn => by
  obtain ⟨m, h1, h2⟩ := l u v n (h n hn)
  have := hn.2 m (s u v m h1)
  rw [h1, show m = n by omega]
/-- what a round does: T before, T' behind -/
structure Round (R : List (T1 × T1)) (P : T1 → Prop) (T T' : Tbl) : Prop where
  low : Low T T'
  sound : Sound R T'
  kids : ∀ s ts us n, P (.mk s ts) → P (.mk s us) → sumT T ts us = some n → ∃ m, T' (.mk s ts) (.mk s us) = some m ∧ m ≤ n
  rule : ∀ u v l r a b, P u → P v → (l, r) ∈ R → T u l = some a → T r v = some b → ∃ m, T' u v = some m ∧ m ≤ a + 1 + b
/-- the key of a pair: its least number, then its size -/
def Before (R : List (T1 × T1)) (p q : T1 × T1) : Prop := ∃ a b, Lst R p.1 p.2 a ∧ Lst R q.1 q.2 b ∧ (a < b ∨ a = b ∧ sz p.1 + sz p.2 < sz q.1 + sz q.2)
theorem Before.irrefl {R : List (T1 × T1)} {p : T1 × T1} (h : Before R p p) : False := by
  obtain ⟨a, b, h1, h2, h3⟩ := h
  have := h1.uniq h2
  omega
theorem Before.trans {R : List (T1 × T1)} {p q r : T1 × T1} (h : Before R p q) (k : Before R q r) : Before R p r := by
  obtain ⟨a, b, h1, h2, h3⟩ := h
  obtain ⟨c, d, k1, k2, k3⟩ := k
  have := h2.uniq k1
  exact ⟨a, d, h1, k2, by omega⟩
/-- how many of these are before p -/
inductive Cnt (B : T1 × T1 → Prop) : List (T1 × T1) → Nat → Prop
  | nil : Cnt B [] 0
  | yes {q : T1 × T1} {l : List (T1 × T1)} {n : Nat} : B q → Cnt B l n → Cnt B (q :: l) (n + 1)
  | no {q : T1 × T1} {l : List (T1 × T1)} {n : Nat} : ¬ B q → Cnt B l n → Cnt B (q :: l) n
theorem Cnt.ex {B : T1 × T1 → Prop} : ∀ l : List (T1 × T1), ∃ n, Cnt B l n ∧ n ≤ l.length
  | [] => ⟨0, .nil, Nat.le_refl _⟩
  | q :: l => by
    obtain ⟨n, h1, h2⟩ := Cnt.ex (B := B) l
    by_cases c : B q
    · exact ⟨n + 1, .yes c h1, Nat.succ_le_succ h2⟩
    · exact ⟨n, .no c h1, Nat.le_succ_of_le h2⟩
theorem Cnt.le {B C : T1 × T1 → Prop} (h : ∀ q, B q → C q) : ∀ {l : List (T1 × T1)} {n m : Nat}, Cnt B l n → Cnt C l m → n ≤ m
  | _, _, _, .nil, .nil => Nat.le_refl _
  | _, _, _, .yes b k, .yes c j => Nat.succ_le_succ (Cnt.le h k j)
  | _, _, _, .yes b k, .no c j => absurd (h _ b) c
  | _, _, _, .no b k, .yes c j => Nat.le_succ_of_le (Cnt.le h k j)
  | _, _, _, .no b k, .no c j => Cnt.le h k j
theorem Cnt.lt {B C : T1 × T1 → Prop} (h : ∀ q, B q → C q) {p : T1 × T1} (hb : ¬ B p) (hc : C p) : ∀ {l : List (T1 × T1)} {n m : Nat}, p ∈ l → Cnt B l n → Cnt C l m → n < m
  | _, _, _, hp, .nil, _ => nomatch hp
  | _, _, _, hp, .yes b k, .yes c j => by
    rcases List.mem_cons.mp hp with e | e
    · subst e; exact absurd b hb
    · exact Nat.succ_lt_succ (Cnt.lt h hb hc e k j)
  | _, _, _, hp, .yes b k, .no c j => absurd (h _ b) c
  | _, _, _, hp, .no b k, .yes c j => Nat.lt_succ_of_le (Cnt.le h k j)
  | _, _, _, hp, .no b k, .no c j => by
    rcases List.mem_cons.mp hp with e | e
    · subst e; exact absurd hc c
    · exact Cnt.lt h hb hc e k j
/-- after j rounds the pairs with less than j before them are done -/
def Done (R : List (T1 × T1)) (P : List (T1 × T1)) (T : Tbl) (j : Nat) : Prop := ∀ p ∈ P, ∀ n, Cnt (fun q => Before R q p) P n → n < j → Ok R T p.1 p.2
theorem LstL.mem {R : List (T1 × T1)} : ∀ {ts us : List T1} {n : Nat}, LstL R ts us n → ∀ {T : Tbl}, (∀ t u a, t ∈ ts → u ∈ us → Lst R t u a → a ≤ n → T t u = some a) → sumT T ts us = some n
  | _, _, _, .nil, _, _ => rfl
  | _, _, _, .cons (a := a) (b := b) h k, T, f => by
    rw [sumT, f _ _ a List.mem_cons_self List.mem_cons_self h (by omega), k.mem (fun t u c ht hu hc hle => f t u c (List.mem_cons_of_mem _ ht) (List.mem_cons_of_mem _ hu) hc (by omega))]
theorem szs_mem2 {ts : List T1} {t : T1} {s : List Nat} (h : t ∈ ts) : sz t < sz (.mk s ts) := by
  rw [sz]; have := sz_mem h; omega
theorem done_step {R : List (T1 × T1)} {P : List T1} {T T' : Tbl} {j : Nat} (kids : ∀ s ts, .mk s ts ∈ P → ∀ t ∈ ts, t ∈ P) (sides : ∀ l r, (l, r) ∈ R → l ∈ P ∧ r ∈ P)
    (refl : ∀ u, u ∈ P → T' u u = some 0) (h : Done R (P.flatMap fun u => P.map fun v => (u, v)) T j) (rd : Round R (· ∈ P) T T') : Done R (P.flatMap fun u => P.map fun v => (u, v)) T' (j + 1) := by
  intro p hp n hc hn m hm
  have mem : ∀ u v, (u, v) ∈ P.flatMap (fun u => P.map fun v => (u, v)) ↔ u ∈ P ∧ v ∈ P := fun u v => by
    rw [List.mem_flatMap]
    constructor
    · rintro ⟨a, h1, h2⟩
      obtain ⟨b, h3, h4⟩ := List.mem_map.mp h2
      cases h4
      exact ⟨h1, h3⟩
    · rintro ⟨h1, h2⟩
      exact ⟨u, h1, List.mem_map.mpr ⟨v, h2, rfl⟩⟩
  obtain ⟨u, v⟩ := p
  obtain ⟨hu, hv⟩ := (mem u v).mp hp
  have hm : Lst R u v m := hm
  show T' u v = some m
  have key : ∀ q : T1 × T1, q ∈ P.flatMap (fun u => P.map fun v => (u, v)) → Before R q (u, v) → Ok R T q.1 q.2 := fun q hq hb => by
    obtain ⟨k, hk, _⟩ := Cnt.ex (B := fun r => Before R r q) (P.flatMap fun u => P.map fun v => (u, v))
    have := Cnt.lt (B := fun r => Before R r q) (C := fun r => Before R r (u, v)) (fun r hr => hr.trans hb) (p := q) (fun hr => hr.irrefl) hb hq hk hc
    exact h q hq k hk (by omega)
  have fin : (∃ k, T' u v = some k ∧ k ≤ m) → T' u v = some m := fun ⟨k, h1, h2⟩ => by
    have := hm.2 k (rd.sound u v k h1)
    rw [h1, show k = m by omega]
  rcases hm.last with ⟨e1, e2⟩ | ⟨s, ts, us, e1, e2, hl⟩ | ⟨l, r, a, b, hr, ha, hb, e⟩
  · subst e1 e2; exact refl _ hu
  · subst e1 e2
    refine fin (rd.kids s ts us m hu hv (hl.mem fun t w c ht hw hcl hle => ?_))
    have h1 := szs_mem2 (s := s) ht
    have h2 := szs_mem2 (s := s) hw
    exact key (t, w) ((mem t w).mpr ⟨kids s ts hu t ht, kids s us hv w hw⟩) ⟨c, m, hcl, hm, by
      rcases Nat.lt_or_ge c m with q | q
      · exact .inl q
      · exact .inr ⟨by omega, by show sz t + sz w < sz (.mk s ts) + sz (.mk s us); omega⟩⟩ c hcl
  · have h1 := key (u, l) ((mem u l).mpr ⟨hu, (sides l r hr).1⟩) ⟨a, m, ha, hm, .inl (by omega)⟩ a ha
    have h2 := key (r, v) ((mem r v).mpr ⟨(sides l r hr).2, hv⟩) ⟨b, m, hb, hm, .inl (by omega)⟩ b hb
    refine fin ?_
    obtain ⟨k, k1, k2⟩ := rd.rule u v l r a b hu hv hr h1 h2
    exact ⟨k, k1, by omega⟩
/-- behind as many rounds as there are pairs all are done -/
theorem done_all {R : List (T1 × T1)} {P : List (T1 × T1)} {T : Tbl} (h : Done R P T P.length) : ∀ p ∈ P, Ok R T p.1 p.2 := fun p hp => by
  obtain ⟨n, h1, h2⟩ := Cnt.ex (B := fun q => Before R q p) P
  refine h p hp n h1 ?_
  have : ∀ l : List (T1 × T1), ∀ m, Cnt (fun q => Before R q p) l m → p ∈ l → m < l.length := by
    intro l
    induction l with
    | nil => intro m _ h; cases h
    | cons q l ih =>
      intro m hm hp
      have le : ∀ k, Cnt (fun q => Before R q p) l k → k ≤ l.length := by
        clear ih hm hp
        induction l with
        | nil => intro k hk; cases hk; exact Nat.le_refl _
        | cons q l ih =>
          intro k hk
          cases hk with
          | yes _ k => exact Nat.succ_le_succ (ih _ k)
          | no _ k => exact Nat.le_succ_of_le (ih _ k)
      rw [List.length_cons]
      cases hm with
      | yes b k =>
        rcases List.mem_cons.mp hp with e | e
        · subst e; exact absurd b fun h => h.irrefl
        · exact Nat.succ_lt_succ (ih _ k e)
      | no b k => exact Nat.lt_succ_of_le (le _ k)
  exact this P n h1 hp
/-! the draws of the laws -/
/-- the feed at f -/
def Fed (S : Store) (f : Nat) : Prop := ∃ d y : Int, S.get f = some (.lst [.int d, .int y]) ∧ 0 ≤ d ∧ 0 ≤ y ∧ y < 2 ^ 40
theorem Fed.lt {S : Store} {f : Nat} {X : List Nat} {S' : Store} (h : Fed S f) (k : Kp X S S') (hf : f < S.nx) (hx : f ∉ X) : Fed S' f := let ⟨d, y, h1, h2⟩ := h; ⟨d, y, by rw [k.get f hf hx]; exact h1, h2⟩
theorem Fed.new {S : Store} {f : Nat} {o : Obj} (h : Fed S f) (hf : f < S.nx) : Fed (S.new o) f := let ⟨d, y, h1, h2⟩ := h; ⟨d, y, by rw [Store.new_get, if_neg (by omega)]; exact h1, h2⟩
/-- what a draw leaves -/
structure Drawn (f : Nat) (S S' : Store) : Prop where
  nx : S'.nx = S.nx
  get : ∀ n, n ≠ f → S'.get n = S.get n
  fed : Fed S' f
theorem Drawn.kp {f : Nat} {S S' : Store} (d : Drawn f S S') : Kp [f] S S' := ⟨by rw [d.nx]; exact Nat.le_refl _, fun n _ h => d.get n (by simpa using h)⟩
theorem Drawn.of {f : Nat} {S : Store} {d y : Int} (h1 : 0 ≤ d) (h2 : 0 ≤ y) (h3 : y < 2 ^ 40) : Drawn f S (S.put f (.lst [.int d, .int y])) :=
  ⟨rfl, fun n h => by rw [Store.put_get, if_neg h], d, y, by rw [Store.put_get, if_pos rfl], h1, h2, h3⟩
theorem log2_9000 {a : Nat} (h : a ≤ 1000000000) : Nat.blt a.log2 9000 = true := by
  rcases Nat.eq_zero_or_pos a with e | e
  · rw [e]; decide
  · have := (Nat.log2_lt (k := 64) (by omega : a ≠ 0)).mpr (by omega)
    simp [Nat.blt_eq]; omega
section
variable {tb : Tb} {kt kp : Nat} {n f : Nat} {S : Store} {X : XP} {Q : Val → Store → Prop}
theorem take_ok (ht : tb.fn kt = ⟨2, 3, cTake⟩) (hf : Fed S f) {m : Int} (hm : 0 < m) (hz : m ≤ 1000000000) (q : ∀ (j : Nat) S', (j : Int) < m → Drawn f S S' → Q (.int j) S') : (callN tb (n + 1) kt [.ref f, .int m] S).wp X Q := by
  obtain ⟨d, y, h1, h2, h3, h4⟩ := hf
  obtain ⟨j, d', y', j0, j1, k1, k2, k3, e⟩ := take_eq (orcN tb n) h1 trivial h2 h3 h4 hm (log2_9000 (by omega))
  obtain ⟨i, rfl⟩ := Int.eq_ofNat_of_zero_le j0
  refine wp_of_eq (S := S.put f (.lst [.int d', .int y'])) (a := .int (i : Nat)) ?_ (q i _ j1 (Drawn.of k1 k2 k3))
  show runFn (tb.fn kt) (orcN tb n) [.ref f, .int m] S = _
  rw [ht]; exact e
theorem pick_ok (ht : tb.fn kt = ⟨2, 3, cTake⟩) (hp : tb.fn kp = ⟨2, 2, cPick kt⟩) (hf : Fed S f) {l : Nat} {vs : List Val} (hl : S.get l = some (.lst vs)) (hne : l ≠ f) (h0 : 0 < vs.length) (hz : vs.length ≤ 1000000000) (q : ∀ (j : Nat) v S', vs[j]? = some v → Drawn f S S' → Q v S') : (callN tb (n + 2) kp [.ref f, .ref l] S).wp X Q := by
  obtain ⟨d, y, h1, h2, h3, h4⟩ := hf
  obtain ⟨j, d', y', v, j1, k1, k2, k3, hv, e⟩ := pick_eq (t := kt) (o := orcN tb (n + 1)) (o' := orcN tb n) (fun args S => by show runFn (tb.fn kt) _ args S = _; rw [ht]; rfl) h1 hl hne trivial h2 h3 h4 h0 (log2_9000 hz)
  refine wp_of_eq (S := S.put f (.lst [.int d', .int y'])) (a := v) ?_ (q j v _ hv (Drawn.of k1 k2 k3))
  show runFn (tb.fn kp) (orcN tb (n + 1)) [.ref f, .ref l] S = _
  rw [hp]; exact e
/-- a sign of a text -/
theorem pickS_ok (ht : tb.fn kt = ⟨2, 3, cTake⟩) (hp : tb.fn kp = ⟨2, 2, cPick kt⟩) (hf : Fed S f) {s : List Nat} (h0 : 0 < s.length) (hz : s.length ≤ 1000000000) (q : ∀ (j c : Nat) S', s[j]? = some c → Drawn f S S' → Q (.str [c]) S') : (callN tb (n + 2) kp [.ref f, .str s] S).wp X Q := by
  refine wp_call ?_
  rw [hp]
  refine wp_run rfl ?_
  show SR.wp (cPick kt (orcN tb (n + 1)) [some (.ref f), some (.str s)] S) _ _ _ _
  unfold cPick
  array_get_dec
  refine take_ok ht hf (by omega) (by omega) fun j S' hj d => ?_
  have hj' : j < s.length := by omega
  refine wp_of_eq (a := .str [s[j]]) (S := S') ?_ (q j s[j] S' (List.getElem?_eq_getElem hj') d)
  show (match getI s (.ofNat j) with | some c => R.ok (Val.str [c]) S' | .none => .stuck 52) = _
  have e : getI s (.ofNat j) = some s[j] := by
    show (match (match Nat.blt j s.length with | true => some j | false => .none) with | some k => s[k]? | .none => .none) = _
    rw [show Nat.blt j s.length = true by simpa [Nat.blt_eq] using hj']
    exact List.getElem?_eq_getElem hj'
  rw [e]
end
/-! ### names, trees -/
def isL (c : Nat) : Bool := Nat.ble 97 c && Nat.ble c 122
def okN (s : List Nat) : Bool := !s.isEmpty && (Nat.ble s.length 8 && s.all isL)
mutual
/-- names, numbers of children up to k -/
def okT (k : Nat) : T1 → Bool
  | .mk s ts => okN s && (Nat.ble ts.length k && okTs k ts)
def okTs (k : Nat) : List T1 → Bool
  | [] => true
  | t :: r => okT k t && okTs k r
end
/-- the six names at l -/
def Nm6 (S : Store) (l : Nat) : Prop := ∃ ss : List (List Nat), S.get l = some (.lst (ss.map Val.str)) ∧ ss.length = 6 ∧ ∀ s ∈ ss, okN s = true
def c_names (kp : Nat) : C := cSeq (sAsg (tName 1) (eLst (elCons (eLst (elCons (eC (.str [97])) (elCons (eC (.str [98])) (elCons (eC (.str [99])) (elCons (eC (.str [102])) (elCons (eC (.str [103])) (elCons (eC (.str [104])) (elNil)))))))) (elCons (eLst (elCons (eC (.str [102])) (elCons (eC (.str [103])) (elCons (eC (.str [104])) (elCons (eC (.str [97])) (elCons (eC (.str [98])) (elCons (eC (.str [99])) (elNil)))))))) (elCons (eLst (elCons (eC (.str [97])) (elCons (eC (.str [98])) (elCons (eC (.str [99])) (elCons (eC (.str [97])) (elCons (eC (.str [98])) (elCons (eC (.str [97])) (elNil)))))))) (elNil)))))) (cSeq (sAsg (tName 1) (eOp oAdd (eVar 1) (eLst (elCons (eLst (elCons (eC (.str [108, 101, 97, 102])) (elCons (eC (.str [116, 105, 112])) (elCons (eC (.str [98, 117, 100])) (elCons (eC (.str [116, 119, 105, 103])) (elCons (eC (.str [102, 111, 114, 107])) (elCons (eC (.str [99, 114, 111, 119, 110])) (elNil)))))))) (elCons (eLst (elCons (eC (.str [97, 98, 99, 100, 101, 102, 103, 104])) (elCons (eC (.str [98])) (elCons (eC (.str [97, 98, 99, 100, 101, 102, 103])) (elCons (eC (.str [97, 97])) (elCons (eC (.str [97, 98])) (elCons (eC (.str [98, 97])) (elNil)))))))) (elNil)))))) (cSeq (sRet (eCall kp (elCons (eVar 0) (elCons (eOp oAdd (eVar 1) (eLst (elCons (eLst (elCons (eC (.str [122])) (elCons (eC (.str [122, 122])) (elCons (eC (.str [121])) (elCons (eC (.str [120])) (elCons (eC (.str [122, 122, 122])) (elCons (eC (.str [119])) (elNil)))))))) (elNil)))) (elNil))))) (cNil)))
theorem oAdd_lst {o : Orc} {S : Store} {a b : Nat} {xs ys : List Val} (ha : S.get a = some (.lst xs)) (hb : S.get b = some (.lst ys)) (h : room2 xs ys = true) : oAdd o (.ref a) (.ref b) S = .ok (.ref S.nx) (S.new (.lst (xs ++ ys))) := by
  show (match S.get a, S.get b with | some (.lst xs), some (.lst ys) => (match room2 xs ys with | true => alloc (.lst (xs ++ ys)) S | false => .stuck 20) | _, _ => .stuck 21) = _
  rw [ha, hb]
  show (match room2 xs ys with | true => alloc (.lst (xs ++ ys)) S | false => .stuck 20) = _
  rw [h]; rfl
theorem names_ok {tb : Tb} {kt kp kn : Nat} {n f : Nat} {S : Store} {X : XP} {Q : Val → Store → Prop} (ht : tb.fn kt = ⟨2, 3, cTake⟩) (hp : tb.fn kp = ⟨2, 2, cPick kt⟩) (hn : tb.fn kn = ⟨1, 2, c_names kp⟩) (hf : Fed S f) (hlt : f < S.nx) (q : ∀ l S', Nm6 S' l → l ≠ f → Kp [f] S S' → Fed S' f → f < S'.nx → l < S'.nx → Q (.ref l) S') : (callN tb (n + 3) kn [.ref f] S).wp X Q := by
  refine wp_call ?_
  rw [hn]
  refine wp_run rfl ?_
  show SR.wp (c_names kp (orcN tb (n + 2)) [some (.ref f), .none] S) _ _ _ _
  unfold c_names
  array_get_dec
  refine wp_of_eq (oAdd_lst (by sizeOf_list_dec) (by sizeOf_list_dec) rfl) ?_
  array_get_dec
  refine wp_of_eq (oAdd_lst (by sizeOf_list_dec) (by sizeOf_list_dec) rfl) ?_
  array_get_dec
  refine pick_ok ht hp ?_ (by sizeOf_list_dec) (by (first | assumption | omega | (simp only [G.Store.new_nx, G.Store.put_nx]; omega) | (simp only [G.Store.new_nx, G.Store.put_nx] at *; omega))) (by exact Nat.succ_pos _) (by simp) fun j v S' hv d => ?_
  · obtain ⟨d, y, h1, h2⟩ := hf
    exact ⟨d, y, by sizeOf_list_dec, h2⟩
  · have k : Kp [f] S S' := Kp.trans (by decreasing_trivial_pre_omega) d.kp
    have hx := d.nx
    have fin : ∀ (l : Nat) (ss : List (List Nat)), v = .ref l → S'.get l = some (.lst (ss.map Val.str)) → ss.length = 6 → (∀ s ∈ ss, okN s = true) → l ≠ f → l < S'.nx → Q v S' := fun l ss e h1 h2 h3 h4 h5 => by
      rw [e]
      exact q l S' ⟨ss, h1, h2, h3⟩ h4 k d.fed (Nat.lt_of_lt_of_le hlt k.nx) h5
    have hj : j = 0 ∨ j = 1 ∨ j = 2 ∨ j = 3 ∨ j = 4 ∨ j = 5 := by
      have : j < 6 := (List.getElem?_eq_some_iff.mp hv).1
      omega
    rcases hj with rfl | rfl | rfl | rfl | rfl | rfl <;> cases hv
    all_goals (refine fin _ [_, _, _, _, _, _] rfl ((d.get _ (by (first | assumption | omega | (simp only [G.Store.new_nx, G.Store.put_nx]; omega) | (simp only [G.Store.new_nx, G.Store.put_nx] at *; omega)))).trans (by sizeOf_list_dec)) rfl ?_ ?_ ?_)
    all_goals first
      | ((first | assumption | omega | (simp only [G.Store.new_nx, G.Store.put_nx]; omega) | (simp only [G.Store.new_nx, G.Store.put_nx] at *; omega)); done)
      | (rw [hx]; (first | assumption | omega | (simp only [G.Store.new_nx, G.Store.put_nx]; omega) | (simp only [G.Store.new_nx, G.Store.put_nx] at *; omega)); done)
      | decide
/-! drawn trees of at most two children a node; written trees -/
theorem eqQ_int (a b : Int) : eqQ (.int a) (.int b) = decide (a = b) := by
  have h := eqQ_eq nilS (x := .int a) (y := .int b) rfl rfl
  have h2 : eqF nilS 60 (.int a) (.int b) = some (intEq a b) := rfl
  rw [h2, intEq_eq] at h
  exact (Option.some.inj h).symm
theorem Drawn.trans {f : Nat} {S S' S'' : Store} (a : Drawn f S S') (b : Drawn f S' S'') : Drawn f S S'' := ⟨b.nx.trans a.nx, fun n h => (b.get n h).trans (a.get n h), b.fed⟩
theorem oIx_lst {o : Orc} {S : Store} {l j : Nat} {vs : List Val} {v : Val} (h : S.get l = some (.lst vs)) (hj : vs[j]? = some v) : oIx o (.ref l) (.int (j : Nat)) S = .ok v S := by
  show (match isList (S.get l) with | some vs => ofOpt (getI vs (.ofNat j)) S 54 | .none => .stuck 57) = _
  rw [h]
  show ofOpt (match (match Nat.blt j vs.length with | true => some j | false => .none) with | some k => vs[k]? | .none => .none) S 54 = _
  have : j < vs.length := (List.getElem?_eq_some_iff.mp hj).1
  rw [show Nat.blt j vs.length = true by simpa [Nat.blt_eq] using this]
  show ofOpt vs[j]? S 54 = _
  rw [hj]; rfl
def c_grow2 (kt kg : Nat) : C := cSeq (sAsg (tName 4) (eCall kt (elCons (eVar 0) (elCons (eC (.int 4)) (elNil))))) (cSeq (sIf (eOr (eOp oEq (eVar 2) (eC (.int 1))) (eOr (eOp oEq (eVar 3) (eC (.int 1))) (eOp oEq (eVar 4) (eC (.int 0))))) (cSeq (sRet (eTup (elCons (eOp oIx (eVar 1) (eCall kt (elCons (eVar 0) (elCons (eC (.int 3)) (elNil))))) (elNil)))) (cNil)) (cNil)) (cSeq (sIf (eOr (eOp oEq (eVar 2) (eC (.int 2))) (eOp oEq (eVar 4) (eC (.int 1)))) (cSeq (sRet (eTup (elCons (eOp oIx (eVar 1) (eOp oAdd (eC (.int 3)) (eCall kt (elCons (eVar 0) (elCons (eC (.int 2)) (elNil)))))) (elCons (eCall kg (elCons (eVar 0) (elCons (eVar 1) (elCons (eOp oSub (eVar 2) (eC (.int 1))) (elCons (eOp oSub (eVar 3) (eC (.int 1))) (elNil)))))) (elNil))))) (cNil)) (cNil)) (cSeq (sAsg (tName 5) (eOp oAdd (eC (.int 1)) (eCall kt (elCons (eVar 0) (elCons (eOp oSub (eVar 2) (eC (.int 2))) (elNil)))))) (cSeq (sAsg (tName 6) (eCall kg (elCons (eVar 0) (elCons (eVar 1) (elCons (eVar 5) (elCons (eOp oSub (eVar 3) (eC (.int 1))) (elNil))))))) (cSeq (sRet (eTup (elCons (eOp oIx (eVar 1) (eC (.int 5))) (elCons (eVar 6) (elCons (eCall kg (elCons (eVar 0) (elCons (eVar 1) (elCons (eOp oSub (eOp oSub (eVar 2) (eC (.int 1))) (eVar 5)) (elCons (eOp oSub (eVar 3) (eC (.int 1))) (elNil)))))) (elNil)))))) (cNil))))))
theorem Nm6.at_ {S : Store} {l j : Nat} (h : Nm6 S l) (hj : j < 6) : ∃ (s : List Nat) (vs : List Val), S.get l = some (.lst vs) ∧ vs[j]? = some (.str s) ∧ okN s = true := by
  obtain ⟨ss, h1, h2, h3⟩ := h
  have hj' : j < ss.length := by omega
  exact ⟨ss[j], _, h1, by rw [List.getElem?_map, List.getElem?_eq_getElem hj']; rfl, h3 _ (List.getElem_mem hj')⟩
theorem Nm6.drawn {S S' : Store} {l f : Nat} (h : Nm6 S l) (d : Drawn f S S') (ne : l ≠ f) : Nm6 S' l := let ⟨ss, h1, h2⟩ := h; ⟨ss, (d.get l ne).trans h1, h2⟩
theorem tv_mk (s : List Nat) (ts : List T1) : tv (.mk s ts) = .tup (.str s :: ts.map tv) := by rw [tv, tvs_map]
theorem okT_mk {k : Nat} {s : List Nat} {ts : List T1} (h1 : okN s = true) (h2 : ts.length ≤ k) (h3 : ∀ t ∈ ts, okT k t = true) : okT k (.mk s ts) = true := by
  have go : ∀ l : List T1, (∀ t ∈ l, okT k t = true) → okTs k l = true := by
    intro l
    induction l with
    | nil => intro _; rfl
    | cons a r ih => intro h; rw [okTs, h a (by simp), ih fun t ht => h t (by simp [ht])]; rfl
  rw [okT, h1, go ts h3, Nat.ble_eq_true_of_le h2]; rfl
section
variable {tb : Tb} {kt kg : Nat} {f nm : Nat} {X : XP}
theorem grow2_ok (ht : tb.fn kt = ⟨2, 3, cTake⟩) (hg : tb.fn kg = ⟨4, 7, c_grow2 kt kg⟩) (hne : nm ≠ f) : ∀ (l n m : Nat) (S : Store) (Q : Val → Store → Prop), l ≤ n → 1 ≤ l → 1 ≤ m → m ≤ 1000 → Fed S f → Nm6 S nm →
    (∀ t S', okT 2 t = true → sz t ≤ m → lv t ≤ l → Drawn f S S' → Q (tv t) S') → (callN tb (n + 2) kg [.ref f, .ref nm, .int (m : Nat), .int (l : Nat)] S).wp X Q
  | 0, n, m, S, Q, h1, h2, _, _, _, _, _ => by omega
  | l + 1, n, m, S, Q, h1, h2, h3, h4, fd, hn, q => by
    refine wp_call ?_
    rw [hg]
    refine wp_run rfl ?_
    show SR.wp (c_grow2 kt kg (orcN tb (n + 1)) [some (.ref f), some (.ref nm), some (.int (m : Nat)), some (.int ((l + 1 : Nat) : Int)), .none, .none, .none] S) _ _ _ _
    unfold c_grow2
    array_get_dec
    refine take_ok ht fd (by decide) (by decide) fun j S1 hj d1 => ?_
    have hn1 := hn.drawn d1 hne
    array_get_dec
    refine wp_ifP (decide (m = 1 ∨ l = 0 ∨ j = 0)) ?_ (fun h => ?_) (fun h => ?_)
    · (array_get_dec; try ((refine And.intro (fun _ => ?_) (fun _ => ?_)) <;> (array_get_dec; try ((refine And.intro (fun _ => ?_) (fun _ => ?_)) <;> (array_get_dec; try ((refine And.intro (fun _ => ?_) (fun _ => ?_)) <;> (array_get_dec))))))) <;> simp_all [eqQ_int]
      all_goals first | omega | (rw [Bool.eq_iff_iff]; simp; omega)
    · array_get_dec
      refine take_ok ht d1.fed (by decide) (by decide) fun j2 S2 hj2 d2 => ?_
      obtain ⟨s, vs, g1, g2, g3⟩ := (hn1.drawn d2 hne).at_ (j := j2) (by omega)
      refine wp_of_eq (oIx_lst g1 g2) ?_
      array_get_dec
      have := q (.mk s []) S2 (okT_mk g3 (by simp) (by simp)) (by simp [sz, szs]; omega) (by simp [lv, lvs]) (d1.trans d2)
      rw [tv_mk] at this
      exact this
    · have h' : ¬ (m = 1 ∨ l = 0 ∨ j = 0) := of_decide_eq_false h
      array_get_dec
      refine wp_ifP (decide (m = 2 ∨ j = 1)) ?_ (fun h => ?_) (fun h => ?_)
      · (array_get_dec; try ((refine And.intro (fun _ => ?_) (fun _ => ?_)) <;> (array_get_dec; try ((refine And.intro (fun _ => ?_) (fun _ => ?_)) <;> (array_get_dec; try ((refine And.intro (fun _ => ?_) (fun _ => ?_)) <;> (array_get_dec))))))) <;> simp_all [eqQ_int]
        all_goals first | omega | (rw [Bool.eq_iff_iff]; simp; omega)
      · array_get_dec
        refine take_ok ht d1.fed (by decide) (by decide) fun j2 S2 hj2 d2 => ?_
        array_get_dec
        have hn2 := hn1.drawn d2 hne
        obtain ⟨s, vs, g1, g2, g3⟩ := hn2.at_ (j := 3 + j2) (by omega)
        rw [show ((3 : Int) + (j2 : Nat)) = ((3 + j2 : Nat) : Int) by omega]
        refine wp_of_eq (oIx_lst g1 g2) ?_
        array_get_dec
        rw [show ((m : Int) - 1) = ((m - 1 : Nat) : Int) by omega, show (((l + 1 : Nat) : Int) - 1) = (l : Nat) by omega]
        obtain ⟨n', rfl⟩ : ∃ n', n = n' + 1 := ⟨n - 1, by omega⟩
        refine grow2_ok ht hg hne l n' (m - 1) S2 _ (by omega) (by omega) (by omega) (by omega) d2.fed hn2 fun t S3 k1 k2 k3 d3 => ?_
        array_get_dec
        have := q (.mk s [t]) S3 (okT_mk g3 (by simp) (by simpa using k1)) (by simp [sz, szs]; omega) (by simp [lv, lvs]; omega) ((d1.trans d2).trans d3)
        rw [tv_mk] at this
        exact this
      · have h2' : ¬ (m = 2 ∨ j = 1) := of_decide_eq_false h
        array_get_dec
        rw [show ((m : Int) - 2) = ((m - 2 : Nat) : Int) by omega]
        refine take_ok ht d1.fed (by omega) (by omega) fun j2 S2 hj2 d2 => ?_
        array_get_dec
        have hn2 := hn1.drawn d2 hne
        rw [show ((1 : Int) + (j2 : Nat)) = ((1 + j2 : Nat) : Int) by omega, show (((l + 1 : Nat) : Int) - 1) = (l : Nat) by omega]
        obtain ⟨n', rfl⟩ : ∃ n', n = n' + 1 := ⟨n - 1, by omega⟩
        refine grow2_ok ht hg hne l n' (1 + j2) S2 _ (by omega) (by omega) (by omega) (by omega) d2.fed hn2 fun t S3 k1 k2 k3 d3 => ?_
        array_get_dec
        have hn3 := hn2.drawn d3 hne
        obtain ⟨s, vs, g1, g2, g3⟩ := hn3.at_ (j := 5) (by omega)
        refine wp_of_eq (oIx_lst (j := 5) g1 g2) ?_
        array_get_dec
        rw [show ((m : Int) - 1 - ((1 + j2 : Nat) : Int)) = ((m - 2 - j2 : Nat) : Int) by omega, show (((l + 1 : Nat) : Int) - 1) = (l : Nat) by omega]
        refine grow2_ok ht hg hne l n' (m - 2 - j2) S3 _ (by omega) (by omega) (by omega) (by omega) d3.fed hn3 fun t2 S4 k4 k5 k6 d4 => ?_
        array_get_dec
        have := q (.mk s [t, t2]) S4 (okT_mk g3 (by simp) (by simpa using ⟨k1, k4⟩)) (by simp [sz, szs]; omega) (by simp [lv, lvs]; omega) (((d1.trans d2).trans d3).trans d4)
        rw [tv_mk] at this
        exact this
theorem tree2_ok {kr : Nat} (ht : tb.fn kt = ⟨2, 3, cTake⟩) (hg : tb.fn kg = ⟨4, 7, c_grow2 kt kg⟩) (hr : tb.fn kr = ⟨3, 3, cSeq (sRet (eCall kg (elCons (eVar 0) (elCons (eVar 1) (elCons (eVar 2) (elCons (eC (.int 6)) (elNil))))))) (cNil)⟩) (hne : nm ≠ f) {n m : Nat} {S : Store} {Q : Val → Store → Prop} (hn6 : 6 ≤ n) (h3 : 1 ≤ m) (h4 : m ≤ 1000) (fd : Fed S f) (hn : Nm6 S nm)
    (q : ∀ t S', okT 2 t = true → sz t ≤ m → lv t ≤ 6 → Drawn f S S' → Q (tv t) S') : (callN tb (n + 3) kr [.ref f, .ref nm, .int (m : Nat)] S).wp X Q := by
  refine wp_call ?_
  rw [hr]
  refine wp_run rfl ?_
  show SR.wp (cSeq (sRet (eCall kg (elCons (eVar 0) (elCons (eVar 1) (elCons (eVar 2) (elCons (eC (.int 6)) (elNil))))))) (cNil) (orcN tb (n + 2)) [some (.ref f), some (.ref nm), some (.int (m : Nat))] S) _ _ _ _
  array_get_dec
  exact grow2_ok ht hg hne 6 n m S _ hn6 (by omega) h3 h4 fd hn fun t S' k1 k2 k3 k4 => q t S' k1 k2 k3 k4
end
/-! ### the written form -/
def wrap (s : List Nat) : List (List Nat) → List Nat
  | [] => s
  | l => ((s ++ [40]) ++ joinL [44] l) ++ [41]
mutual
def wr : T1 → List Nat
  | .mk s ts => wrap s (wrL ts)
def wrL : List T1 → List (List Nat)
  | [] => []
  | t :: r => wr t :: wrL r
end
theorem oAdd_str {o : Orc} {S : Store} {a b : List Nat} (h : a.length + b.length ≤ maxLen) : oAdd o (.str a) (.str b) S = .ok (.str (a ++ b)) S := by
  show (match room2 a b with | true => R.ok (Val.str (a ++ b)) S | false => .stuck 20) = _
  rw [show room2 a b = true from Nat.ble_eq_true_of_le h]
theorem strsOf_map {α : Type} (f : α → List Nat) : ∀ xs : List α, strsOf (xs.map fun x => Val.str (f x)) = some (xs.map f)
  | [] => rfl
  | x :: r => by
    show (match strsOf (r.map fun x => Val.str (f x)) with | some bs => some (f x :: bs) | .none => .none) = _
    rw [strsOf_map f r]; rfl
theorem mJoin_eq {α : Type} {o : Orc} {S : Store} {n : Nat} {f : α → List Nat} {xs : List α} {sep : List Nat} (h : S.get n = some (.lst (xs.map fun x => Val.str (f x)))) (hl : sumLen (xs.map f) + (xs.map f).length * sep.length ≤ maxLen) : mJoin o (.str sep) [.ref n] S = .ok (.str (joinL sep (xs.map f))) S := by
  show (match isList (S.get n) with | some xs => (match strsOf xs with | some ss => (match Nat.ble (sumLen ss + ss.length * sep.length) maxLen with | true => R.ok (Val.str (joinL sep ss)) S | false => .stuck 159) | .none => .stuck 159) | .none => .stuck 160) = _
  rw [h]
  show (match strsOf (xs.map fun x => Val.str (f x)) with | some ss => (match Nat.ble (sumLen ss + ss.length * sep.length) maxLen with | true => R.ok (Val.str (joinL sep ss)) S | false => .stuck 159) | .none => .stuck 159) = _
  rw [strsOf_map]
  show (match Nat.ble (sumLen (xs.map f) + (xs.map f).length * sep.length) maxLen with | true => R.ok (Val.str (joinL sep (xs.map f))) S | false => .stuck 159) = _
  rw [Nat.ble_eq_true_of_le hl]
theorem eqS_lsts {S : Store} {a b : Nat} {xs ys : List Val} (ha : S.get a = some (.lst xs)) (hb : S.get b = some (.lst ys)) (h1 : xs.all (dOk S 59) = true) (h2 : ys.all (dOk S 59) = true) : eqS S (.ref a) (.ref b) = eqL (eqF S 59) xs ys := by
  rw [eqS_eq]
  have d1 : dOk S 60 (.ref a) = true := by
    show (match isList (S.get a) with | some xs => xs.all (dOk S 59) | .none => false) = true
    rw [ha]; exact h1
  have d2 : dOk S 60 (.ref b) = true := by
    show (match isList (S.get b) with | some xs => xs.all (dOk S 59) | .none => false) = true
    rw [hb]; exact h2
  unfold eqSo
  rw [d1, d2]
  show (match isList (S.get a), isList (S.get b) with | some xs, some ys => eqL (eqF S 59) xs ys | _, _ => .none) = _
  rw [ha, hb]; rfl
/-! trees read from texts, and the signs one by one -/
inductive PR where
  | ok (t : T1) (r : List Nat) | err (r : List Nat)
inductive KR where
  | ok (ts : List T1) (r : List Nat) | err (r : List Nat)
/-! sign by sign -/
def under4 : List Nat → Bool
  | [] => false
  | a :: _ => Nat.blt a 4
def bump : List Nat → List Nat
  | [] => []
  | a :: r => (a + 1) :: r
def mach : List Nat → Nat → Bool → List Nat → Option (List Nat)
  | op, k, sh, [] => bif op.isEmpty && (Nat.blt 0 k || sh) then .none else some []
  | op, k, sh, c :: r => bif isL c && (!sh && Nat.blt k 8) then mach op (k + 1) sh r
    else bif Nat.beq c 40 && Nat.blt 0 k then mach (1 :: op) 0 sh r
    else bif Nat.beq c 44 && ((Nat.blt 0 k || sh) && under4 op) then mach (bump op) 0 false r
    else bif Nat.beq c 41 && ((Nat.blt 0 k || sh) && !op.isEmpty) then mach op.tail 0 true r
    else some (c :: r)
def fin : List Nat → List Nat → Option (List Nat)
  | op, [] => bif op.isEmpty then .none else some []
  | op, c :: r => bif Nat.beq c 44 && under4 op then mach (bump op) 0 false r
    else bif Nat.beq c 41 && !op.isEmpty then mach op.tail 0 true r
    else some (c :: r)
def cnt (s : List Nat) : Nat := s.count 40
theorem cnt_app (a b : List Nat) : cnt (a ++ b) = cnt a + cnt b := List.count_append
/-! read_tree's codes -/
theorem eqQ_str (a b : List Nat) : eqQ (.str a) (.str b) = decide (a = b) := by
  have h := eqQ_eq nilS (x := .str a) (y := .str b) rfl rfl
  have h2 : eqF nilS 60 (.str a) (.str b) = some (strEq a b) := rfl
  rw [h2, strEq_eq] at h
  exact (Option.some.inj h).symm
def abc : List Nat := [97, 98, 99, 100, 101, 102, 103, 104, 105, 106, 107, 108, 109, 110, 111, 112, 113, 114, 115, 116, 117, 118, 119, 120, 121, 122]
theorem abc_any (c : Nat) : abc.any (Nat.beq c) = isL c := by
  rw [Bool.eq_iff_iff]
  simp only [abc, List.any_cons, List.any_nil, isL, Bool.or_false, Bool.or_eq_true, Bool.and_eq_true, Nat.beq_eq_true_eq, Nat.beq_eq, Nat.ble_eq]
  omega
section
variable {tb : Tb} {cx fx kn kt kr : Nat}
theorem bLen_lst {o : Orc} {S : Store} {n : Nat} {vs : List Val} (h : S.get n = some (.lst vs)) : bLen o [.ref n] S = .ok (.int vs.length) S := by
  show (match S.get n with | some (.lst vs) => R.ok (Val.int vs.length) S | _ => .stuck 112) = _
  rw [h]
theorem mAppend_eq {o : Orc} {S : Store} {n : Nat} {vs : List Val} {v : Val} (h : S.get n = some (.lst vs)) (hl : vs.length < maxLen) : mAppend o (.ref n) [v] S = .ok .none (S.put n (.lst (vs ++ [v]))) := by
  show (match S.get n with | some (.lst xs) => (match Nat.blt xs.length maxLen with | true => R.ok Val.none (S.put n (.lst (xs ++ [v]))) | false => .stuck 140) | _ => .stuck 140) = _
  rw [h]
  show (match Nat.blt vs.length maxLen with | true => R.ok Val.none (S.put n (.lst (vs ++ [v]))) | false => .stuck 140) = _
  rw [show Nat.blt vs.length maxLen = true by simpa [Nat.blt_eq] using hl]
theorem hasK_lst {S : Store} {n : Nat} {vs : List Val} (h : S.get n = some (.lst vs)) : hasK S .lst (.ref n) = true := by
  show (match S.get n with | some (.lst _) => true | some (.dct _) => false | _ => false) = true
  rw [h]
theorem bTuple_lst {o : Orc} {S : Store} {n : Nat} {vs : List Val} (h : S.get n = some (.lst vs)) : bTuple o [.ref n] S = .ok (.tup vs) S := by
  show (match isList (S.get n) with | some vs => R.ok (Val.tup vs) S | .none => .stuck 101) = _
  rw [h]; rfl
theorem oAdd_tup {o : Orc} {S : Store} {a b : List Val} (h : a.length + b.length ≤ maxLen) : oAdd o (.tup a) (.tup b) S = .ok (.tup (a ++ b)) S := by
  show (match room2 a b with | true => R.ok (Val.tup (a ++ b)) S | false => .stuck 20) = _
  rw [show room2 a b = true from Nat.ble_eq_true_of_le h]
end
section
variable {tb : Tb} {cx fx kn kt kr kx kl : Nat} {tx : List Nat}
/-! ### sign by sign -/
theorem oNe_nil {o : Orc} {S : Store} {a b : Nat} {xs : List Val} (ha : S.get a = some (.lst xs)) (hb : S.get b = some (.lst [])) (h1 : xs.all (dOk S 59) = true) : oNe o (.ref a) (.ref b) S = .ok (.bool (!xs.isEmpty)) S := by
  show (match eqS S (.ref a) (.ref b) with | some b => R.ok (Val.bool (!b)) S | .none => .stuck 32) = _
  rw [eqS_lsts ha hb h1 rfl]
  cases xs <;> rfl
theorem wp_ifG {o : Orc} {ρ : Env} {S : Store} {N : Env → Store → Prop} {V : Val → Store → Prop} {B : Env → Store → Prop} {E : EP'} {c : G.E} {a d : C} (b : Bool) (R : Store → Prop) (h : (c o ρ S).wp (atX E ρ) fun x S' => x = .bool b ∧ R S') (h1 : b = true → ∀ S', R S' → (a o ρ S').wp N V B E) (h2 : b = false → ∀ S', R S' → (d o ρ S').wp N V B E) : (sIf c a d o ρ S).wp N V B E :=
  wpR_sIf (h.mono fun x S' ⟨e1, e2⟩ => by subst e1; exact ⟨b, rfl, fun h => h1 h S' e2, fun h => h2 h S' e2⟩)
end
/-- a text within bounds -/
structure Tx (L C : Nat) (s : List Nat) : Prop where
  len : s.length ≤ L
  cnt : cnt s ≤ C
  chr : ∀ c ∈ s, c < 128
theorem Tx.mono {L C L' C' : Nat} {s : List Nat} (h : Tx L C s) (h1 : L ≤ L' := by omega) (h2 : C ≤ C' := by omega) : Tx L' C' s := ⟨Nat.le_trans h.len h1, Nat.le_trans h.cnt h2, h.chr⟩
theorem Tx.app {L C L' C' : Nat} {a b : List Nat} (h : Tx L C a) (k : Tx L' C' b) : Tx (L + L') (C + C') (a ++ b) :=
  ⟨by rw [List.length_append]; exact Nat.add_le_add h.len k.len, by rw [cnt_app]; exact Nat.add_le_add h.cnt k.cnt, fun c hc => (List.mem_append.mp hc).elim (h.chr c) (k.chr c)⟩
theorem Tx.sub {L C : Nat} {a b : List Nat} (h : Tx L C a) (k : b.Sublist a) : Tx L C b :=
  ⟨Nat.le_trans k.length_le h.len, Nat.le_trans (k.count_le 40) h.cnt, fun c hc => h.chr c (k.subset hc)⟩
theorem Tx.slc {L C : Nat} {a : List Nat} {lo hi : Option Int} (h : Tx L C a) : Tx L C (slc a lo hi) :=
  h.sub ((List.drop_sublist _ _).trans (List.take_sublist _ _))
theorem Tx.of {s : List Nat} (h : s.all (fun c => Nat.blt c 128) = true) : Tx s.length (G.cnt s) s := ⟨Nat.le_refl _, Nat.le_refl _, fun c hc => by simpa [Nat.blt_eq] using List.all_eq_true.mp h c hc⟩
theorem Tx.one {c : Nat} (h : c < 128) : Tx 1 1 [c] := ⟨Nat.le_refl _, by unfold G.cnt; exact List.count_le_length, fun x hx => by cases List.mem_singleton.mp hx; exact h⟩
def signs : List Nat := [40, 41, 44, 97, 98, 122, 32, 65, 49, 40, 41, 44, 45, 46, 10, 32, 126, 95, 96, 123, 36, 91, 97, 97, 97, 97, 97, 97, 97, 97, 97, 40, 41, 44]
def lim : Nat → Nat
  | 0 => 806
  | 1 => 402
  | 2 => 200
  | _ => 0
section
variable {tb : Tb} {kt kp kn n f : Nat}
end
theorem log2_24 {a : Nat} (h : a < 2 ^ 24) : a.log2 < 24 := by
  rcases Nat.eq_zero_or_pos a with e | e
  · rw [e]; decide
  · exact (Nat.log2_lt (by omega)).mpr h
theorem bList_lst {o : Orc} {S : Store} {l : Nat} {vs : List Val} (h : S.get l = some (.lst vs)) : bList o [.ref l] S = .ok (.ref S.nx) (S.new (.lst vs)) := by
  show (match itemsOf S (.ref l) with | some vs => alloc (.lst vs) S | .none => .stuck 100) = _
  have e : itemsOf S (.ref l) = some vs := by
    show isList (S.get l) = _
    rw [h]; rfl
  rw [e]; rfl
theorem slc_len {α : Type} (ns : List α) (k : Nat) : (slc ns (some (k : Nat)) (some ((k : Int) + 1))).length ≤ 1 := by
  show ((ns.take (min (k + 1) ns.length)).drop (min k ns.length)).length ≤ 1
  rw [List.length_drop, List.length_take]; omega
theorem oIx_0 {o : Orc} {S : Store} {l : Nat} {v : Val} {r : List Val} (h : S.get l = some (.lst (v :: r))) : oIx o (.ref l) (.int 0) S = .ok v S := by
  show (match isList (S.get l) with | some vs => ofOpt (getI vs 0) S 54 | .none => .stuck 57) = _
  rw [h]; rfl
theorem mulS {o : Orc} {S : Store} {a b : Int} (h : a.natAbs < 2 ^ 24) (k : b.natAbs < 2 ^ 24) : oMul o (.int a) (.int b) S = .ok (.int (a * b)) S := by
  have := log2_24 h
  have := log2_24 k
  show (match Nat.blt (a.natAbs.log2 + b.natAbs.log2) 1000000 with | true => R.ok (Val.int (a * b)) S | false => .stuck 23) = _
  rw [show Nat.blt (a.natAbs.log2 + b.natAbs.log2) 1000000 = true by rw [Nat.blt_eq]; omega]
theorem feed_ok {tb : Tb} {kf n : Nat} (hf : tb.fn kf = ⟨2, 4, cFeed⟩) {ns : List Int} {k : Nat} (hk : k < 1000) {S : Store} {X : XP} {Q : Val → Store → Prop} (q : ∀ f S', Kp [] S S' → Fed S' f → S.nx ≤ f → f < S'.nx → Q (.ref f) S') : (callN tb (n + 1) kf [.scr ns, .int (k : Nat)] S).wp X Q := by
  refine wp_call ?_
  rw [hf]
  refine wp_run rfl ?_
  show SR.wp (cFeed (orcN tb n) [some (.scr ns), some (.int (k : Nat)), .none, .none] S) _ _ _ _
  unfold cFeed
  array_get_dec
  obtain ⟨xs, hx⟩ : ∃ xs, slc ns (some ((k : Nat) : Int)) (some ((k : Int) + 1)) = xs := ⟨_, rfl⟩
  have hxl : xs.length ≤ 1 := by rw [← hx]; exact slc_len ns k
  rw [hx]
  refine wp_of_eq (bList_lst (by sizeOf_list_dec)) ?_
  array_get_dec
  refine wp_of_eq (mulS (by decide) (by omega)) ?_
  array_get_dec
  refine wp_of_eq (oAdd_lst (by sizeOf_list_dec) (by sizeOf_list_dec) (Nat.ble_eq_true_of_le (by simp; have : maxLen = 16777216 := rfl; omega))) ?_
  array_get_dec
  obtain ⟨v, r, hv⟩ : ∃ (v : Int) (r : List Val), xs.map Val.int ++ [Val.int (71 * (k : Int) + 23)] = .int v :: r := by
    cases xs with
    | nil => exact ⟨_, _, rfl⟩
    | cons a r => exact ⟨_, _, rfl⟩
  rw [hv]
  refine wp_of_eq (oIx_0 (by sizeOf_list_dec)) ?_
  array_get_dec
  have c1 : 0 ≤ (v.natAbs : Int) % 1000003 ∧ (v.natAbs : Int) % 1000003 < 1000003 := ⟨Int.emod_nonneg _ (by decide), Int.emod_lt_of_pos _ (by decide)⟩
  refine wp_of_eq (mulS (by omega) (by decide)) ?_
  array_get_dec
  refine wp_of_eq (mulS (by decide) (by omega)) ?_
  array_get_dec
  refine q _ _ (by decreasing_trivial_pre_omega) ⟨_, _, by sizeOf_list_dec, ?_, Int.emod_nonneg _ (by decide), ?_⟩ (by (first | assumption | omega | (simp only [G.Store.new_nx, G.Store.put_nx]; omega) | (simp only [G.Store.new_nx, G.Store.put_nx] at *; omega))) (by (first | assumption | omega | (simp only [G.Store.new_nx, G.Store.put_nx]; omega) | (simp only [G.Store.new_nx, G.Store.put_nx] at *; omega)))
  · generalize (v.natAbs : Int) - 10 ^ Int.toNat 18 = z
    have e := intLt_eq 0 z
    cases h : intLt 0 z with
    | false => exact Int.le_refl _
    | true => rw [h] at e; exact Int.le_of_lt (of_decide_eq_true e.symm)
  · have := Int.emod_lt_of_pos ((v.natAbs : Int) % 1000003 * 7919 + 31 * (k : Int) + 17) (show (0 : Int) < 1000033 by decide)
    omega
open PySem PySem.Builtin PySem.Builtin.Str
/-! bounds of the written form -/
/-! repr -/
theorem Nm6.kp {S S' : Store} {l : Nat} {X : List Nat} (h : Nm6 S l) (k : Kp X S S') (hl : l < S.nx) (hx : l ∉ X) : Nm6 S' l := let ⟨ss, e, r⟩ := h; ⟨ss, by rw [k.get l hl hx]; exact e, r⟩
section
variable {tb : Tb} {kt kp kn kf kd kx kr kg kq k1 kl ki kj kk kw cx fx : Nat} {ns3 : List Nat}
end
/-! like neighbours once, the first one kept -/
section
variable {α : Type} {c : α → α → Ordering}
/-- p: the one ahead -/
inductive Fwd : Option α → List α → List α → Prop
  | nil {p : Option α} : Fwd p [] []
  | skip {a : α} {r k : List α} : Fwd (some a) r k → Fwd (some a) (a :: r) k
  | keep {p : Option α} {a : α} {r k : List α} : p ≠ some a → Fwd (some a) r k → Fwd p (a :: r) (a :: k)
theorem Fwd.mem {y : α} : ∀ {p : Option α} {l k : List α}, Fwd p l k → (y ∈ k ∨ p = some y ↔ y ∈ l ∨ p = some y)
  | _, _, _, .nil => Iff.rfl
  | _, _, _, .skip (a := a) h => by
    rw [h.mem, List.mem_cons]
    constructor
    · rintro (q | q)
      · exact .inl (.inr q)
      · exact .inr q
    · rintro ((q | q) | q)
      · exact .inr (by rw [q])
      · exact .inl q
      · exact .inr q
  | p, _, _, .keep (a := a) (r := r) (k := k) _ h => by
    have ih := h.mem (y := y)
    rw [List.mem_cons, List.mem_cons]
    constructor
    · rintro ((q | q) | q)
      · exact .inl (.inl q)
      · rcases ih.mp (.inl q) with z | z
        · exact .inl (.inr z)
        · exact .inl (.inl (Option.some.inj z).symm)
      · exact .inr q
    · rintro ((q | q) | q)
      · exact .inl (.inl q)
      · rcases ih.mpr (.inl q) with z | z
        · exact .inl (.inr z)
        · exact .inl (.inl (Option.some.inj z).symm)
      · exact .inr q
end
mutual
def deqT : (a b : T1) → Decidable (a = b)
  | .mk s ts, .mk z us => match decEq s z, deqTs ts us with
    | .isTrue h1, .isTrue h2 => .isTrue (by rw [h1, h2])
    | .isFalse h, _ => .isFalse fun e => h (T1.mk.inj e).1
    | _, .isFalse h => .isFalse fun e => h (T1.mk.inj e).2
def deqTs : (a b : List T1) → Decidable (a = b)
  | [], [] => .isTrue rfl
  | [], _ :: _ => .isFalse fun e => nomatch e
  | _ :: _, [] => .isFalse fun e => nomatch e
  | a :: r, b :: s => match deqT a b, deqTs r s with
    | .isTrue h1, .isTrue h2 => .isTrue (by rw [h1, h2])
    | .isFalse h, _ => .isFalse fun e => h (List.cons.inj e).1
    | _, .isFalse h => .isFalse fun e => h (List.cons.inj e).2
end
instance : DecidableEq T1 := deqT
def c_ordered (kz : Nat) : C := cSeq (sAsg (tName 1) (eB bSortV (elCons (eLc (cFor [4] (tName 4) (iVal (eVar 0)) (cElt (eTup (elCons (eCallP kz (elCons (eVar 4) (elNil))) (elCons (eVar 4) (elNil))))))) (elNil)))) (cSeq (sRet (eLc (cFor [2, 3] (tTup 2 (tCons (tName 2) (tCons (tName 3) (tNil)))) (iEnum (eVar 1)) (cIf (eOr (eOp oEq (eVar 2) (eC (.int 0))) (eOp oNe (eVar 3) (eOp oIx (eVar 1) (eOp oSub (eVar 2) (eC (.int 1)))))) (cElt (eOp oIx (eVar 3) (eC (.int 1)))))))) (cNil))
theorem toIt_lst {S : Store} {l : Nat} {xs : List Val} (h : S.get l = some (.lst xs)) : toIt (.ref l) S = some (.lst l 0) := by
  show (match S.get l with | some (.lst _) => some (It.lst l 0) | _ => _) = _
  rw [h]
theorem enumV_len : ∀ (xs : List Val) (k : Int), (enumV k xs).length = xs.length
  | [], _ => rfl
  | _ :: r, k => by rw [enumV, List.length_cons, enumV_len r, List.length_cons]
theorem len_insC {α : Type} {c : α → α → Ordering} {x : α} : ∀ {l : List α}, (insC c x l).length = l.length + 1
  | [] => rfl
  | a :: r => by
    rw [insC]
    cases isLt (c x a) with
    | true => rfl
    | false =>
      show (a :: insC c x r).length = _
      rw [List.length_cons, len_insC]; rfl
theorem len_srtC {α : Type} {c : α → α → Ordering} : ∀ {l acc : List α}, (srtC c l acc).length = l.length + acc.length
  | [], acc => by rw [srtC, List.length_nil, Nat.zero_add]
  | x :: r, acc => by rw [srtC, len_srtC, len_insC, List.length_cons]; omega
section
variable {tb : Tb} {kz ko n : Nat} {S : Store} {X : XP} {Q : Val → Store → Prop}
end
mutual
/-- a tree's parts, as they stand -/
def subs : T1 → List T1
  | .mk s ts => .mk s ts :: subsL ts
def subsL : List T1 → List T1
  | [] => []
  | t :: r => subs t ++ subsL r
end
mutual
theorem subs_len : ∀ t : T1, (subs t).length = sz t
  | .mk s ts => by rw [subs, sz, List.length_cons, subsL_len ts]; omega
theorem subsL_len : ∀ ts : List T1, (subsL ts).length = szs ts
  | [] => rfl
  | t :: r => by rw [subsL, szs, List.length_append, subs_len t, subsL_len r]
end
mutual
theorem subs_le {y : T1} : ∀ t : T1, y ∈ subs t → lv y ≤ lv t ∧ sz y ≤ sz t
  | .mk s ts, h => by
    rw [subs, List.mem_cons] at h
    rcases h with e | e
    · subst e; exact ⟨Nat.le_refl _, Nat.le_refl _⟩
    · have := subsL_le ts e
      rw [lv, sz]; omega
theorem subsL_le {y : T1} : ∀ ts : List T1, y ∈ subsL ts → lv y ≤ lvs ts ∧ sz y ≤ szs ts
  | [], h => nomatch h
  | t :: r, h => by
    rw [subsL, List.mem_append] at h
    rw [lvs, szs]
    rcases h with e | e
    · have := subs_le t e; omega
    · have := subsL_le r e; omega
end
theorem ddC_len {α : Type} {c : α → α → Ordering} : ∀ l : List α, (ddC c l).length ≤ l.length
  | [] => Nat.le_refl _
  | a :: r => by
    have ih := ddC_len (c := c) r
    rw [ddC, List.length_cons]
    cases e : ddC c r with
    | nil => simp
    | cons b s =>
      rw [e] at ih
      show (match isEq (c a b) with | true => b :: s | false => a :: b :: s).length ≤ _
      cases isEq (c a b) with
      | true => exact Nat.le_succ_of_le ih
      | false => exact Nat.succ_le_succ ih
theorem ordT_len (ts : List T1) : (ordT ts).length ≤ ts.length := by
  unfold ordT
  have := ddC_len (c := cmpK) (srtC cmpK ts [])
  rw [len_srtC] at this
  simpa using this
def c_parts (ko kp : Nat) : C := cSeq (sAsg (tName 1) (eLst (elCons (eVar 0) (elNil)))) (cSeq (sFor (tName 2) (iVal (eSl (eVar 0) (eoSome (eC (.int 1))) (eoNone))) (cSeq (sAsg (tName 1) (eOp oAdd (eVar 1) (eCallL kp (elCons (eVar 2) (elNil))))) (cNil))) (cSeq (sRet (eCall ko (elCons (eVar 1) (elNil)))) (cNil)))
section
variable {tb : Tb} {kz ko kp : Nat}
end
/-- a rule as a value -/
def rlV (p : T1 × T1) : Val := .tup [tv p.1, tv p.2]
/-- the parts of rules -/
def subsR : List (T1 × T1) → List T1
  | [] => []
  | p :: r => subs p.1 ++ (subs p.2 ++ subsR r)
def szR : List (T1 × T1) → Nat
  | [] => 0
  | p :: r => sz p.1 + (sz p.2 + szR r)
def c_partsof (ko kp : Nat) : C := cSeq (sAsg (tName 1) (eLst (elNil))) (cSeq (sFor (tTup 2 (tCons (tName 2) (tCons (tName 3) (tNil)))) (iVal (eVar 0)) (cSeq (sAsg (tName 1) (eOp oAdd (eOp oAdd (eVar 1) (eCallL kp (elCons (eVar 2) (elNil)))) (eCallL kp (elCons (eVar 3) (elNil))))) (cNil))) (cSeq (sRet (eCall ko (elCons (eVar 1) (elNil)))) (cNil)))
section
variable {tb : Tb} {kz ko kp k9 : Nat}
end
def c_told (ko kp k9 : Nat) : C := cSeq (sAsg (tName 2) (eCall k9 (elCons (eVar 0) (elNil)))) (cSeq (sFor (tName 3) (iVal (eVar 1)) (cSeq (sAsg (tName 2) (eOp oAdd (eVar 2) (eCallL kp (elCons (eVar 3) (elNil))))) (cNil))) (cSeq (sRet (eCall ko (elCons (eVar 2) (elNil)))) (cNil)))
/-- the told parts and those of trees -/
def told (R : List (T1 × T1)) (ts : List T1) : List T1 := ordT (subsR R ++ subsL ts)
section
variable {tb : Tb} {kz ko kp k9 kt : Nat}
end
def c_lsize (kz : Nat) : C := cSeq (sRet (eOp oAdd (eC (.int 1)) (eB bSum (elCons (eLc (cFor [1] (tName 1) (iVal (eSl (eVar 0) (eoSome (eC (.int 1))) (eoNone))) (cElt (eCall kz (elCons (eVar 1) (elNil)))))) (elNil))))) (cNil)
def c_lparts (kp : Nat) : C := cSeq (sAsg (tName 1) (eLst (elCons (eVar 0) (elNil)))) (cSeq (sFor (tName 2) (iVal (eSl (eVar 0) (eoSome (eC (.int 1))) (eoNone))) (cSeq (sAsg (tName 1) (eOp oAdd (eVar 1) (eCall kp (elCons (eVar 2) (elNil))))) (cNil))) (cSeq (sRet (eVar 1)) (cNil)))
section
variable {tb : Tb} {kz kp : Nat}
end
def c_lordered (kz : Nat) : C := cSeq (sAsg (tName 1) (eB bSortV (elCons (eLc (cFor [3] (tName 3) (iVal (eVar 0)) (cElt (eTup (elCons (eCall kz (elCons (eVar 3) (elNil))) (elCons (eVar 3) (elNil))))))) (elNil)))) (cSeq (sRet (eLc (cFor [2] (tName 2) (iRange (elCons (eB bLen (elCons (eVar 1) (elNil))) (elNil))) (cIf (eOr (eOp oEq (eVar 2) (eC (.int 0))) (eOp oNe (eOp oIx (eVar 1) (eVar 2)) (eOp oIx (eVar 1) (eOp oSub (eVar 2) (eC (.int 1)))))) (cElt (eOp oIx (eOp oIx (eVar 1) (eVar 2)) (eC (.int 1)))))))) (cNil))
section
variable {tb : Tb} {kz ko n : Nat} {S : Store} {X : XP} {Q : Val → Store → Prop}
end
def c_ltold (ko kp : Nat) : C := cSeq (sAsg (tName 2) (eLst (elNil))) (cSeq (sFor (tTup 2 (tCons (tName 3) (tCons (tName 4) (tNil)))) (iVal (eVar 0)) (cSeq (sAsg (tName 2) (eOp oAdd (eOp oAdd (eVar 2) (eCall kp (elCons (eVar 3) (elNil)))) (eCall kp (elCons (eVar 4) (elNil))))) (cNil))) (cSeq (sFor (tName 5) (iVal (eVar 1)) (cSeq (sAsg (tName 2) (eOp oAdd (eVar 2) (eCall kp (elCons (eVar 5) (elNil))))) (cNil))) (cSeq (sRet (eCall ko (elCons (eVar 2) (elNil)))) (cNil))))
theorem subsR_len : ∀ R : List (T1 × T1), (subsR R).length = szR R
  | [] => rfl
  | p :: r => by rw [subsR, szR, List.length_append, List.length_append, subs_len, subs_len, subsR_len r]
section
variable {tb : Tb} {kz ko kp kt : Nat}
end
def c_isname : C := cSeq (sRet (eAnd (eIsI (eVar 0) aStr) (eAnd (eChain oLe oLe (eC (.int 1)) (eB bLen (elCons (eVar 0) (elNil))) (eC (.int 8))) (eB bAll (elCons (eLc (cFor [1] (tName 1) (iVal (eVar 0)) (cElt (eOp oIn (eVar 1) (eC (.str [97, 98, 99, 100, 101, 102, 103, 104, 105, 106, 107, 108, 109, 110, 111, 112, 113, 114, 115, 116, 117, 118, 119, 120, 121, 122])))))) (elNil)))))) (cNil)
def c_istree (kn kt : Nat) : C := cSeq (sIf (eOr (eNot (eIsI (eVar 0) aTup)) (eOr (eNot (eChain oLe oLe (eC (.int 1)) (eB bLen (elCons (eVar 0) (elNil))) (eOp oAdd (eC (.int 4)) (eC (.int 1))))) (eNot (eCallP kn (elCons (eOp oIx (eVar 0) (eC (.int 0))) (elNil)))))) (cSeq (sRet (eC (.bool false))) (cNil)) (cNil)) (cSeq (sRet (eB bAll (elCons (eLc (cFor [1] (tName 1) (iVal (eSl (eVar 0) (eoSome (eC (.int 1))) (eoNone))) (cElt (eCallP kt (elCons (eVar 1) (elNil)))))) (elNil)))) (cNil))
def c_levels (kl : Nat) : C := cSeq (sRet (eOp oAdd (eC (.int 1)) (eB bMax (elCons (eOp oAdd (eLc (cFor [1] (tName 1) (iVal (eSl (eVar 0) (eoSome (eC (.int 1))) (eoNone))) (cElt (eCallP kl (elCons (eVar 1) (elNil)))))) (eLst (elCons (eC (.int 0)) (elNil)))) (elNil))))) (cNil)
def c_sign : C := cSeq (sRet (eTup (elCons (eOp oIx (eVar 0) (eC (.int 0))) (elCons (eOp oSub (eB bLen (elCons (eVar 0) (elNil))) (eC (.int 1))) (elNil))))) (cNil)
def c_isrule (kt kz kl : Nat) : C := cSeq (sIf (eOr (eNot (eIsI (eVar 0) aTup)) (eOr (eOp oNe (eB bLen (elCons (eVar 0) (elNil))) (eC (.int 2))) (eOr (eNot (eCallP kt (elCons (eOp oIx (eVar 0) (eC (.int 0))) (elNil)))) (eNot (eCallP kt (elCons (eOp oIx (eVar 0) (eC (.int 1))) (elNil))))))) (cSeq (sRet (eC (.bool false))) (cNil)) (cNil)) (cSeq (sIf (eOr (eOp oGt (eB bMax2 (elCons (eCallP kz (elCons (eOp oIx (eVar 0) (eC (.int 0))) (elNil))) (elCons (eCallP kz (elCons (eOp oIx (eVar 0) (eC (.int 1))) (elNil))) (elNil)))) (eC (.int 6))) (eOp oGt (eB bMax2 (elCons (eCallP kl (elCons (eOp oIx (eVar 0) (eC (.int 0))) (elNil))) (elCons (eCallP kl (elCons (eOp oIx (eVar 0) (eC (.int 1))) (elNil))) (elNil)))) (eC (.int 4)))) (cSeq (sRet (eC (.bool false))) (cNil)) (cNil)) (cSeq (sRet (eOp oNe (eOp oIx (eVar 0) (eC (.int 0))) (eOp oIx (eVar 0) (eC (.int 1))))) (cNil)))
theorem boolsOf_map {α : Type} (f : α → Bool) : ∀ xs : List α, boolsOf (xs.map fun x => Val.bool (f x)) = some (xs.map f)
  | [] => rfl
  | x :: r => by
    show (match boolsOf (r.map fun x => Val.bool (f x)) with | some bs => some (f x :: bs) | .none => .none) = _
    rw [boolsOf_map f r]; rfl
theorem bAll_eq {α : Type} {o : Orc} {S : Store} {n : Nat} {f : α → Bool} {xs : List α} (h : S.get n = some (.lst (xs.map fun x => Val.bool (f x)))) : bAll o [.ref n] S = .ok (.bool (xs.all f)) S := by
  show (match boolsAt S (.ref n) with | some bs => R.ok (Val.bool (bs.all id)) S | .none => .stuck 114) = _
  have e : boolsAt S (.ref n) = some (xs.map f) := by
    show (match isList (S.get n) with | some vs => boolsOf vs | .none => .none) = _
    rw [h]
    show boolsOf (xs.map fun x => Val.bool (f x)) = _
    exact boolsOf_map f xs
  rw [e]
  show R.ok (Val.bool ((xs.map f).all id)) S = _
  rw [List.all_map]; rfl
section
variable {tb : Tb} {kn kt kz kl : Nat}
theorem okTs_mem {k : Nat} : ∀ {ts : List T1} {t : T1}, okTs k ts = true → t ∈ ts → okT k t = true
  | u :: r, t, h, m => by
    rw [okTs, Bool.and_eq_true] at h
    rcases List.mem_cons.mp m with e | e
    · rw [e]; exact h.1
    · exact okTs_mem h.2 e
end
section
variable {tb : Tb} {kt kz kl kr ks : Nat}
end
/-- a rule that a lot may have -/
structure RlOk (p : T1 × T1) : Prop where
  t1 : okT 4 p.1 = true
  t2 : okT 4 p.2 = true
  s1 : sz p.1 ≤ 6
  s2 : sz p.2 ≤ 6
  l1 : lv p.1 ≤ 4
  l2 : lv p.2 ≤ 4
  ne : p.1 ≠ p.2
section
variable {tb : Tb} {kn kt kz kl kr : Nat}
end
/-! a dict whose keys are pairs of trees, as a list -/
abbrev DL := List ((T1 × T1) × Nat)
def dV (D : DL) : List (Val × Val) := D.map fun e => (rlV e.1, .int (e.2 : Nat))
def lk (p : T1 × T1) : DL → Option Nat
  | [] => .none
  | (q, n) :: r => if q = p then some n else lk p r
def dp (p : T1 × T1) (n : Nat) : DL → DL
  | [] => [(p, n)]
  | (q, m) :: r => if q = p then (q, n) :: r else (q, m) :: dp p n r
/-- of few levels -/
def lo (p : T1 × T1) : Prop := lv p.1 ≤ 6 ∧ lv p.2 ≤ 6
theorem lk_nil (p : T1 × T1) : lk p [] = .none := by rw [lk]
theorem lk_dp {p q : T1 × T1} {n : Nat} : ∀ {D : DL}, lk q (dp p n D) = if p = q then some n else lk q D
  | [] => by
    rw [dp, lk_nil, lk]
    by_cases c : p = q
    · rw [if_pos c, if_pos c]
    · rw [if_neg c, lk_nil, if_neg c]
  | (a, m) :: r => by
    rw [dp]
    by_cases c : a = p
    · subst c
      rw [if_pos rfl, lk, lk]
      by_cases d : a = q
      · rw [if_pos d, if_pos d]
      · rw [if_neg d, if_neg d, if_neg d]
    · rw [if_neg c, lk, lk, lk_dp]
      by_cases d : a = q
      · subst d
        rw [if_pos rfl, if_pos rfl, if_neg (Ne.symm c)]
      · rw [if_neg d, if_neg d]
theorem lk_mem {p : T1 × T1} {n : Nat} : ∀ {D : DL}, lk p D = some n → (p, n) ∈ D
  | [], h => by cases h
  | (a, m) :: r, h => by
    rw [lk] at h
    by_cases c : a = p
    · rw [if_pos c] at h; cases h; subst c; exact List.mem_cons_self
    · rw [if_neg c] at h; exact List.mem_cons_of_mem _ (lk_mem h)
theorem lk_key {p : T1 × T1} : ∀ {D : DL}, p ∈ D.map (·.1) ↔ (lk p D).isSome = true
  | [] => by simp [lk]
  | (a, m) :: r => by
    rw [lk, List.map_cons, List.mem_cons, lk_key (D := r)]
    by_cases c : a = p
    · rw [if_pos c]; exact ⟨fun _ => rfl, fun _ => .inl c.symm⟩
    · rw [if_neg c]; exact ⟨fun h => h.elim (fun e => absurd e.symm c) id, .inr⟩
theorem key_dp {p q : T1 × T1} {n : Nat} {D : DL} : q ∈ (dp p n D).map (·.1) ↔ q = p ∨ q ∈ D.map (·.1) := by
  rw [lk_key, lk_key, lk_dp]
  by_cases c : p = q
  · rw [if_pos c]; exact ⟨fun _ => .inl c.symm, fun _ => rfl⟩
  · rw [if_neg c]; exact ⟨.inr, fun h => h.elim (fun e => absurd e.symm c) id⟩
theorem nod_dp {p : T1 × T1} {n : Nat} : ∀ {D : DL}, (D.map (·.1)).Nodup → ((dp p n D).map (·.1)).Nodup
  | [], _ => by simp [dp]
  | (a, m) :: r, h => by
    rw [List.map_cons, List.nodup_cons] at h
    rw [dp]
    by_cases c : a = p
    · rw [if_pos c, List.map_cons, List.nodup_cons]; exact h
    · rw [if_neg c, List.map_cons, List.nodup_cons]
      refine ⟨fun q => ?_, nod_dp h.2⟩
      rcases key_dp.mp q with e | e
      · exact c e
      · exact h.1 e
theorem nod_len {α : Type} [DecidableEq α] : ∀ {l k : List α}, l.Nodup → (∀ x ∈ l, x ∈ k) → l.length ≤ k.length
  | [], _, _, _ => Nat.zero_le _
  | a :: r, k, h, s => by
    rw [List.nodup_cons] at h
    have ha := s a List.mem_cons_self
    have := nod_len (l := r) (k := k.erase a) h.2 fun x hx => (List.mem_erase_of_ne (fun e => h.1 (by rw [← e]; exact hx))).mpr (s x (List.mem_cons_of_mem _ hx))
    rw [List.length_erase_of_mem ha] at this
    have := List.length_pos_of_mem ha
    rw [List.length_cons]; omega
/-! ### a table -/
def Tb' (D : DL) : Tbl := fun u v => lk (u, v) D
def pairsP (P : List T1) : List (T1 × T1) := P.flatMap fun u => P.map fun v => (u, v)
theorem mem_pairsP {P : List T1} {u v : T1} : (u, v) ∈ pairsP P ↔ u ∈ P ∧ v ∈ P := by
  unfold pairsP
  rw [List.mem_flatMap]
  constructor
  · rintro ⟨a, h1, h2⟩
    obtain ⟨b, h3, h4⟩ := List.mem_map.mp h2
    cases h4
    exact ⟨h1, h3⟩
  · rintro ⟨h1, h2⟩
    exact ⟨u, h1, List.mem_map.mpr ⟨v, h2, rfl⟩⟩
theorem pairsP_len (P : List T1) : (pairsP P).length = P.length * P.length := by
  unfold pairsP
  have : ∀ l : List T1, (l.flatMap fun u => P.map fun v => (u, v)).length = l.length * P.length := by
    intro l
    induction l with
    | nil => simp
    | cons a r ih => rw [List.flatMap_cons, List.length_append, ih, List.length_map, List.length_cons, Nat.succ_mul]; omega
  exact this P
/-- what a table's dict is at all times -/
structure TOk (R : List (T1 × T1)) (P : List T1) (D : DL) : Prop where
  nod : (D.map (·.1)).Nodup
  sub : ∀ q ∈ D.map (·.1), q.1 ∈ P ∧ q.2 ∈ P
  snd : Sound R (Tb' D)
  slf : ∀ u ∈ P, Tb' D u u = some 0
theorem TOk.len {R : List (T1 × T1)} {P : List T1} {D : DL} (h : TOk R P D) : D.length ≤ P.length * P.length := by
  have := nod_len h.nod (k := pairsP P) fun q hq => mem_pairsP.mpr (h.sub q hq)
  rw [List.length_map, pairsP_len] at this
  exact this
theorem TOk.put {R : List (T1 × T1)} {P : List T1} {D : DL} {u v : T1} {n : Nat} (h : TOk R P D) (hu : u ∈ P) (hv : v ∈ P) (hd : Der R u v n) (hl : ∀ m, Tb' D u v = some m → n < m) : TOk R P (dp (u, v) n D) := by
  refine ⟨nod_dp h.nod, fun q hq => ?_, fun a b m hm => ?_, fun a ha => ?_⟩
  · rcases key_dp.mp hq with e | e
    · subst e; exact ⟨hu, hv⟩
    · exact h.sub q e
  · have hm : lk (a, b) (dp (u, v) n D) = some m := hm
    rw [lk_dp] at hm
    by_cases c : (u, v) = (a, b)
    · rw [if_pos c] at hm
      cases hm; cases c
      exact hd
    · rw [if_neg c] at hm
      exact h.snd a b m hm
  · show lk (a, a) (dp (u, v) n D) = some 0
    rw [lk_dp]
    by_cases c : (u, v) = (a, a)
    · cases c
      have := hl 0 (h.slf u ha)
      omega
    · rw [if_neg c]; exact h.slf a ha
/-- a later table: lower, and if some number is told new, some is truly lower -/
structure Late (R : List (T1 × T1)) (P : List T1) (D D' : DL) (b : Bool) : Prop where
  ok : TOk R P D'
  low : Low (Tb' D) (Tb' D')
  same : b = false → D' = D
  new : b = true → ∃ u v m, u ∈ P ∧ v ∈ P ∧ Tb' D' u v = some m ∧ ∀ n, Tb' D u v = some n → m < n
theorem Late.refl {R : List (T1 × T1)} {P : List T1} {D : DL} (h : TOk R P D) : Late R P D D false := ⟨h, Low.refl, fun _ => rfl, fun e => (by cases e)⟩
theorem Late.trans {R : List (T1 × T1)} {P : List T1} {D D' D'' : DL} {b c : Bool} (h : Late R P D D' b) (k : Late R P D' D'' c) : Late R P D D'' (c || b) := by
  refine ⟨k.ok, h.low.trans k.low, fun e => ?_, fun e => ?_⟩
  · rw [Bool.or_eq_false_iff] at e
    rw [k.same e.1, h.same e.2]
  · cases hc : c with
    | true =>
      obtain ⟨u, v, m, h1, h2, h3, h4⟩ := k.new hc
      refine ⟨u, v, m, h1, h2, h3, fun n hn => ?_⟩
      obtain ⟨n', h5, h6⟩ := h.low u v n hn
      have := h4 n' h5
      omega
    | false =>
      rw [hc, Bool.false_or] at e
      obtain ⟨u, v, m, h1, h2, h3, h4⟩ := h.new e
      obtain ⟨m', h5, h6⟩ := k.low u v m h3
      refine ⟨u, v, m', h1, h2, h5, fun n hn => ?_⟩
      have := h4 n hn
      omega
/-- the table tells just the least numbers -/
structure Full (R : List (T1 × T1)) (P : List T1) (D : DL) : Prop extends TOk R P D where
  least : ∀ u v, u ∈ P → v ∈ P → ∀ n, Tb' D u v = some n ↔ Lst R u v n
/-- nothing is new when all are least -/
theorem Late.still {R : List (T1 × T1)} {P : List T1} {D D' : DL} {b : Bool} (h : Late R P D D' b) (k : ∀ u v, u ∈ P → v ∈ P → Ok R (Tb' D) u v) : b = false := by
  cases b with
  | false => rfl
  | true =>
    obtain ⟨u, v, m, h1, h2, h3, h4⟩ := h.new rfl
    obtain ⟨n, h5, h6⟩ := Lst.ex (h.ok.snd u v m h3)
    have := h4 n (k u v h1 h2 n h6)
    omega
/-- a table that a round leaves as it is -/
theorem fixed {R : List (T1 × T1)} {P : List T1} {T : Tbl} (kids : ∀ s ts, .mk s ts ∈ P → ∀ t ∈ ts, t ∈ P) (sides : ∀ l r, (l, r) ∈ R → l ∈ P ∧ r ∈ P) (refl : ∀ u, u ∈ P → T u u = some 0) (rd : Round R (· ∈ P) T T) : ∀ u v, u ∈ P → v ∈ P → Ok R T u v := fun u v hu hv => by
  have : ∀ j, Done R (pairsP P) T j := fun j => by
    induction j with
    | zero => intro p _ n _ h; exact absurd h (Nat.not_lt_zero _)
    | succ j ih => exact done_step kids sides refl ih rd
  exact done_all (this _) (u, v) (mem_pairsP.mpr ⟨hu, hv⟩)
/-! the table's small methods -/
abbrev cTab : Nat := 1
abbrev fUsed : Nat := 2
abbrev fSome : Nat := 3
abbrev fLike : Nat := 4
abbrev fLeast : Nat := 5
abbrev mByC : Nat := 8
abbrev mLow : Nat := 9
abbrev mChil : Nat := 10
abbrev mRul : Nat := 11
abbrev mByR : Nat := 12
abbrev mBec : Nat := 13
/-- name and number of children are the same -/
def lik : T1 → T1 → Bool
  | .mk s ts, .mk z us => decide (s = z ∧ ts.length = us.length)
def likeP (P : List T1) : List (T1 × T1) := P.flatMap fun u => (P.filter fun v => lik u v).map fun v => (u, v)
/-- the table at a -/
structure Tab (S : Store) (a lu ls ll ld : Nat) (R : List (T1 × T1)) (P : List T1) (D : DL) : Prop where
  ins : S.get a = some (.ins cTab [(fUsed, .ref lu), (fSome, .ref ls), (fLike, .ref ll), (fLeast, .ref ld)])
  used : S.get lu = some (.lst (R.map rlV))
  som : S.get ls = some (.lst (P.map tv))
  like : S.get ll = some (.lst ((likeP P).map rlV))
  least : S.get ld = some (.dct (dV D))
  l1 : a < S.nx
  l2 : lu < S.nx
  l3 : ls < S.nx
  l4 : ll < S.nx
  l5 : ld < S.nx
section
variable {S S' : Store} {a lu ls ll ld : Nat} {R : List (T1 × T1)} {P : List T1} {D D' : DL}
theorem Tab.keep (h : Tab S a lu ls ll ld R P D) (k : Kp [] S S') : Tab S' a lu ls ll ld R P D :=
  have := k.nx
  ⟨(k.get a h.l1 (by simp)).trans h.ins, (k.get lu h.l2 (by simp)).trans h.used, (k.get ls h.l3 (by simp)).trans h.som, (k.get ll h.l4 (by simp)).trans h.like, (k.get ld h.l5 (by simp)).trans h.least, Nat.lt_of_lt_of_le h.l1 this, Nat.lt_of_lt_of_le h.l2 this, Nat.lt_of_lt_of_le h.l3 this, Nat.lt_of_lt_of_le h.l4 this, Nat.lt_of_lt_of_le h.l5 this⟩
theorem Tab.put (h : Tab S a lu ls ll ld R P D) : Tab (S.put ld (.dct (dV D'))) a lu ls ll ld R P D' := by
  have g := h.least
  have n1 : a ≠ ld := fun e => by rw [← e, h.ins] at g; cases g
  have n2 : lu ≠ ld := fun e => by rw [← e, h.used] at g; cases g
  have n3 : ls ≠ ld := fun e => by rw [← e, h.som] at g; cases g
  have n4 : ll ≠ ld := fun e => by rw [← e, h.like] at g; cases g
  exact ⟨by rw [Store.put_get, if_neg n1]; exact h.ins, by rw [Store.put_get, if_neg n2]; exact h.used, by rw [Store.put_get, if_neg n3]; exact h.som, by rw [Store.put_get, if_neg n4]; exact h.like, by rw [Store.put_get, if_pos rfl], h.l1, h.l2, h.l3, h.l4, h.l5⟩
end
def c_lower : C := cSeq (sIf (eAnd (eOp oInK (eTup (elCons (eVar 1) (elCons (eVar 2) (elNil)))) (eAttr (eVar 0) fLeast)) (eOp oLe (eOp oIxK (eAttr (eVar 0) fLeast) (eTup (elCons (eVar 1) (elCons (eVar 2) (elNil))))) (eVar 3))) (cSeq (sRet (eC (.bool false))) (cNil)) (cNil)) (cSeq (sAsg (tSubK (eAttr (eVar 0) fLeast) (eTup (elCons (eVar 1) (elCons (eVar 2) (elNil))))) (eVar 3)) (cSeq (sRet (eC (.bool true))) (cNil)))
def c_byrule : C := cSeq (sPar [5, 6] (elCons (eBm .dct mGet (eAttr (eVar 0) fLeast) (elCons (eTup (elCons (eVar 1) (elCons (eVar 3) (elNil)))) (elNil))) (elCons (eBm .dct mGet (eAttr (eVar 0) fLeast) (elCons (eTup (elCons (eVar 4) (elCons (eVar 2) (elNil)))) (elNil))) (elNil)))) (cSeq (sRet (eIf (eOr (eOp oIs (eVar 5) (eC .none)) (eOp oIs (eVar 6) (eC .none))) (eC .none) (eOp oAdd (eOp oAdd (eVar 5) (eC (.int 1))) (eVar 6)))) (cNil))
def c_becomes : C := cSeq (sRet (eOp oInK (eTup (elCons (eVar 1) (elCons (eVar 2) (elNil)))) (eAttr (eVar 0) fLeast))) (cNil)
def c_bychildren (ks : Nat) : C := cSeq (sIf (eOp oNe (eCallP ks (elCons (eVar 1) (elNil))) (eCallP ks (elCons (eVar 2) (elNil)))) (cSeq (sRet (eC .none)) (cNil)) (cNil)) (cSeq (sAsg (tName 3) (eLc (cFor [4] (tName 4) (iZip (elCons (eSl (eVar 1) (eoSome (eC (.int 1))) (eoNone)) (elCons (eSl (eVar 2) (eoSome (eC (.int 1))) (eoNone)) (elNil)))) (cElt (eBm .dct mGet (eAttr (eVar 0) fLeast) (elCons (eVar 4) (elNil))))))) (cSeq (sRet (eIf (eOp oIn (eC .none) (eVar 3)) (eC .none) (eB bSum (elCons (eVar 3) (elNil))))) (cNil)))
section
variable {tb : Tb} {ks klo kby kch kbc : Nat} {n : Nat}
/-- a number or None -/
def onV : Option Nat → Val
  | some m => .int (m : Nat)
  | .none => .none
end
/-! lower, by_rule, becomes, by_children -/
structure TCx (R : List (T1 × T1)) (P : List T1) : Prop where
  lvs : ∀ t ∈ P, lv t ≤ 6
  len : P.length ≤ 1000
  kids : ∀ s ts, T1.mk s ts ∈ P → ∀ t ∈ ts, t ∈ P
  sides : ∀ l r, (l, r) ∈ R → l ∈ P ∧ r ∈ P
  four : ∀ s ts, T1.mk s ts ∈ P → ts.length ≤ 4
theorem TCx.lo {R : List (T1 × T1)} {P : List T1} (cx : TCx R P) {u v : T1} (hu : u ∈ P) (hv : v ∈ P) : lo (u, v) := ⟨cx.lvs u hu, cx.lvs v hv⟩
/-- one number kept, if it is the least so far -/
def lowF (D : DL) (u v : T1) (m : Nat) : DL × Bool := match lk (u, v) D with
  | some k => bif decide (k ≤ m) then (D, false) else (dp (u, v) m D, true)
  | .none => (dp (u, v) m D, true)
section
variable {tb : Tb} {ks klo kby kch kbc : Nat} {n : Nat} {a lu ls ll ld : Nat} {R : List (T1 × T1)} {P : List T1} {D : DL} {S : Store} {X : XP} {Q : Val → Store → Prop}
/-- the children's sum as a value -/
def sumO (D : DL) : T1 → T1 → Option Nat
  | .mk _ ts, .mk _ us => sumT (Tb' D) ts us
end
/-! the two looks -/
def c_lookc : C := cSeq (sAsg (tName 1) (eC (.bool false))) (cSeq (sFor (tTup 2 (tCons (tName 2) (tCons (tName 3) (tNil)))) (iVal (eAttr (eVar 0) fLike)) (cSeq (sAsg (tName 4) (eMeth (eVar 0) mByC (elCons (eVar 2) (elCons (eVar 3) (elNil))))) (cSeq (sIf (eOp oIsNot (eVar 4) (eC .none)) (cSeq (sAsg (tName 1) (eOr (eMeth (eVar 0) mLow (elCons (eVar 2) (elCons (eVar 3) (elCons (eVar 4) (elNil))))) (eVar 1))) (cNil)) (cNil)) (cNil)))) (cSeq (sRet (eVar 1)) (cNil)))
def c_lookr : C := cSeq (sAsg (tName 1) (eC (.bool false))) (cSeq (sFor (tTup 2 (tCons (tName 2) (tCons (tName 3) (tNil)))) (iVal (eAttr (eVar 0) fUsed)) (cSeq (sAsg (tName 5) (eLc (cFor [4] (tName 4) (iVal (eAttr (eVar 0) fSome)) (cIf (eOp oInK (eTup (elCons (eVar 4) (elCons (eVar 2) (elNil)))) (eAttr (eVar 0) fLeast)) (cElt (eVar 4)))))) (cSeq (sAsg (tName 7) (eLc (cFor [6] (tName 6) (iVal (eAttr (eVar 0) fSome)) (cIf (eOp oInK (eTup (elCons (eVar 3) (elCons (eVar 6) (elNil)))) (eAttr (eVar 0) fLeast)) (cElt (eVar 6)))))) (cSeq (sFor (tName 4) (iVal (eVar 5)) (cSeq (sFor (tName 6) (iVal (eVar 7)) (cSeq (sAsg (tName 1) (eOr (eMeth (eVar 0) mLow (elCons (eVar 4) (elCons (eVar 6) (elCons (eMeth (eVar 0) mByR (elCons (eVar 4) (elCons (eVar 6) (elCons (eVar 2) (elCons (eVar 3) (elNil)))))) (elNil))))) (eVar 1))) (cNil))) (cNil))) (cNil))))) (cSeq (sRet (eVar 1)) (cNil)))
/-- the look at children as a function -/
def lookcF : List (T1 × T1) → DL → Bool → DL × Bool
  | [], D, b => (D, b)
  | p :: r, D, b => match sumO D p.1 p.2 with
    | some m => lookcF r (lowF D p.1 p.2 m).1 ((lowF D p.1 p.2 m).2 || b)
    | .none => lookcF r D b
section
variable {tb : Tb} {ks klo kby kch kbc klc klr : Nat} {n : Nat} {a lu ls ll ld : Nat} {R : List (T1 × T1)} {P : List T1} {D : DL} {S : Store} {X : XP} {Q : Val → Store → Prop}
end
/-! looking through the rules -/
/-- the numbers through one rule, from a table T, are in T' -/
def Thr (l r : T1) (T T' : Tbl) (u v : T1) : Prop := ∀ x y, T u l = some x → T r v = some y → ∃ m, T' u v = some m ∧ m ≤ x + 1 + y
theorem Thr.low {l r : T1} {T T' T'' : Tbl} {u v : T1} (h : Thr l r T T' u v) (k : Low T' T'') : Thr l r T T'' u v := fun x y h1 h2 => by
  obtain ⟨m, h3, h4⟩ := h x y h1 h2
  obtain ⟨m', h5, h6⟩ := k u v m h3
  exact ⟨m', h5, by omega⟩
/-- the number through a rule, as the table stands -/
def ruN (D : DL) (u v l r : T1) : Nat := ((lk (u, l) D).getD 0) + 1 + ((lk (r, v) D).getD 0)
def lookr1 (l r u : T1) : List T1 → DL → Bool → DL × Bool
  | [], D, b => (D, b)
  | v :: xs, D, b => lookr1 l r u xs (lowF D u v (ruN D u v l r)).1 ((lowF D u v (ruN D u v l r)).2 || b)
def lookr2 (l r : T1) (B : List T1) : List T1 → DL → Bool → DL × Bool
  | [], D, b => (D, b)
  | u :: ws, D, b => lookr2 l r B ws (lookr1 l r u B D b).1 (lookr1 l r u B D b).2
/-- the look through the rules as a function -/
def lookrF (P : List T1) : List (T1 × T1) → DL → Bool → DL × Bool
  | [], D, b => (D, b)
  | p :: R, D, b => lookrF P R (lookr2 p.1 p.2 (P.filter fun w => (lk (p.2, w) D).isSome) (P.filter fun w => (lk (w, p.1) D).isSome) D b).1 (lookr2 p.1 p.2 (P.filter fun w => (lk (p.2, w) D).isSome) (P.filter fun w => (lk (w, p.1) D).isSome) D b).2
section
variable {tb : Tb} {ks klo kby kch kbc klc klr : Nat} {n : Nat} {a lu ls ll ld : Nat} {R : List (T1 × T1)} {P : List T1} {D : DL} {S : Store} {X : XP} {Q : Val → Store → Prop}
end
/-! a table is made -/
section
variable {X : XP} {o : Orc} {ρ : Env} {S : Store} {α : Type} {acc : Acc} {Q : Acc → Store → Prop}
end
/-! parts are closed -/
theorem subs_self (t : T1) : t ∈ subs t := by cases t; rw [subs]; exact List.mem_cons_self
mutual
theorem subs_kid {s : List Nat} {us : List T1} {u : T1} (hu : u ∈ us) : ∀ {t : T1}, .mk s us ∈ subs t → u ∈ subs t
  | .mk z ts, h => by
    rw [subs] at h ⊢
    rcases List.mem_cons.mp h with e | e
    · cases e
      exact List.mem_cons_of_mem _ (subsL_of hu)
    · exact List.mem_cons_of_mem _ (subsL_kid hu e)
theorem subsL_kid {s : List Nat} {us : List T1} {u : T1} (hu : u ∈ us) : ∀ {ts : List T1}, .mk s us ∈ subsL ts → u ∈ subsL ts
  | [], h => by cases h
  | t :: r, h => by
    rw [subsL, List.mem_append] at h ⊢
    rcases h with h | h
    · exact .inl (subs_kid hu h)
    · exact .inr (subsL_kid hu h)
theorem subsL_of : ∀ {ts : List T1} {u : T1}, u ∈ ts → u ∈ subsL ts
  | t :: r, u, h => by
    rw [subsL, List.mem_append]
    rcases List.mem_cons.mp h with e | e
    · rw [e]; exact .inl (subs_self t)
    · exact .inr (subsL_of e)
end
mutual
theorem subs_okT {k : Nat} : ∀ {t : T1}, okT k t = true → ∀ y ∈ subs t, okT k y = true
  | .mk s ts, h, y, hy => by
    rw [subs] at hy
    rcases List.mem_cons.mp hy with e | e
    · rw [e]; exact h
    · rw [okT, Bool.and_eq_true, Bool.and_eq_true] at h
      exact subsL_okT h.2.2 y e
theorem subsL_okT {k : Nat} : ∀ {ts : List T1}, okTs k ts = true → ∀ y ∈ subsL ts, okT k y = true
  | [], _, y, hy => by cases hy
  | t :: r, h, y, hy => by
    rw [okTs, Bool.and_eq_true] at h
    rw [subsL, List.mem_append] at hy
    rcases hy with e | e
    · exact subs_okT h.1 y e
    · exact subsL_okT h.2 y e
end
/-- a tree as these laws draw them -/
structure TrOk (t : T1) : Prop where
  ok : okT 4 t = true
  lv : lv t ≤ 6
  sz : sz t ≤ 100
theorem mem_subsR {R : List (T1 × T1)} {y : T1} : y ∈ subsR R ↔ ∃ p ∈ R, y ∈ subs p.1 ∨ y ∈ subs p.2 := by
  induction R with
  | nil => simp [subsR]
  | cons p r ih =>
    rw [subsR, List.mem_append, List.mem_append, ih]
    constructor
    · rintro (h | h | ⟨p', h1, h2⟩)
      · exact ⟨p, List.mem_cons_self, .inl h⟩
      · exact ⟨p, List.mem_cons_self, .inr h⟩
      · exact ⟨p', List.mem_cons_of_mem _ h1, h2⟩
    · rintro ⟨p', h1, h2⟩
      rcases List.mem_cons.mp h1 with e | e
      · subst e
        rcases h2 with h | h
        · exact .inl h
        · exact .inr (.inl h)
      · exact .inr (.inr ⟨p', e, h2⟩)
theorem mem_subsL {ts : List T1} {y : T1} : y ∈ subsL ts ↔ ∃ t ∈ ts, y ∈ subs t := by
  induction ts with
  | nil => simp [subsL]
  | cons t r ih =>
    rw [subsL, List.mem_append, ih]
    constructor
    · rintro (h | ⟨t', h1, h2⟩)
      · exact ⟨t, List.mem_cons_self, h⟩
      · exact ⟨t', List.mem_cons_of_mem _ h1, h2⟩
    · rintro ⟨t', h1, h2⟩
      rcases List.mem_cons.mp h1 with e | e
      · subst e; exact .inl h2
      · exact .inr ⟨t', e, h2⟩
/-- rules as these laws draw them -/
structure RsOk (R : List (T1 × T1)) : Prop where
  each : ∀ p ∈ R, RlOk p
  sz : szR R ≤ 18
  len : R.length ≤ 8
/-- rules of any lot -/
structure RsW (R : List (T1 × T1)) : Prop where
  each : ∀ p ∈ R, RlOk p
  sz : szR R ≤ 60
  len : R.length ≤ 8
theorem RsOk.w {R : List (T1 × T1)} (h : RsOk R) : RsW R := ⟨h.each, by have := h.sz; omega, h.len⟩
theorem mem_told {R : List (T1 × T1)} {ts : List T1} {y : T1} : y ∈ told R ts ↔ y ∈ subsR R ∨ y ∈ subsL ts := by
  unfold told
  rw [mem_ordT, List.mem_append]
theorem told_cxW {R : List (T1 × T1)} {ts : List T1} (hR : RsW R) (ht : ∀ t ∈ ts, TrOk t) (hl : ts.length ≤ 4) : TCx R (told R ts) ∧ ∀ y ∈ told R ts, TrOk y := by
  have key : ∀ y ∈ told R ts, ∃ t, y ∈ subs t ∧ (∀ z ∈ subs t, z ∈ told R ts) ∧ TrOk t := fun y hy => by
    rcases mem_told.mp hy with h | h
    · obtain ⟨p, h1, h2⟩ := mem_subsR.mp h
      have r := hR.each p h1
      rcases h2 with h2 | h2
      · exact ⟨p.1, h2, fun z hz => mem_told.mpr (.inl (mem_subsR.mpr ⟨p, h1, .inl hz⟩)), r.t1, by have := r.l1; omega, by have := r.s1; omega⟩
      · exact ⟨p.2, h2, fun z hz => mem_told.mpr (.inl (mem_subsR.mpr ⟨p, h1, .inr hz⟩)), r.t2, by have := r.l2; omega, by have := r.s2; omega⟩
    · obtain ⟨t, h1, h2⟩ := mem_subsL.mp h
      exact ⟨t, h2, fun z hz => mem_told.mpr (.inr (mem_subsL.mpr ⟨t, h1, hz⟩)), ht t h1⟩
  have key2 : ∀ y ∈ told R ts, TrOk y := fun y hy => by
    obtain ⟨t, h1, _, h3⟩ := key y hy
    have := subs_le _ h1
    exact ⟨subs_okT h3.ok y h1, by have := h3.lv; omega, by have := h3.sz; omega⟩
  refine ⟨⟨fun t h => (key2 t h).lv, ?_, fun s us h u hu => ?_, fun l r h => ?_, fun s us h => ?_⟩, key2⟩
  · have h1 : (told R ts).length ≤ (subsR R ++ subsL ts).length := ordT_len _
    rw [List.length_append, subsR_len, subsL_len] at h1
    have h2 : ∀ us : List T1, (∀ t ∈ us, TrOk t) → szs us ≤ 100 * us.length := by
      intro us
      induction us with
      | nil => intro _; exact Nat.le_refl _
      | cons u r ih =>
        intro h
        have := (h u List.mem_cons_self).sz
        have := ih fun t ht => h t (List.mem_cons_of_mem _ ht)
        rw [szs, List.length_cons]; omega
    have := h2 ts ht
    have := hR.sz
    omega
  · obtain ⟨t, h1, h2, _⟩ := key _ h
    exact h2 u (subs_kid hu h1)
  · exact ⟨mem_told.mpr (.inl (mem_subsR.mpr ⟨_, h, .inl (subs_self l)⟩)), mem_told.mpr (.inl (mem_subsR.mpr ⟨_, h, .inr (subs_self r)⟩))⟩
  · have := (key2 _ h).ok
    rw [okT, Bool.and_eq_true, Bool.and_eq_true, Nat.ble_eq] at this
    exact this.2.1
/-! Table.__init__ -/
def c_table (k19 ks : Nat) : C := cSeq (sAsg (tAttr (eVar 0) fUsed) (eVar 1)) (cSeq (sAsg (tAttr (eVar 0) fSome) (eCall k19 (elCons (eVar 1) (elCons (eVar 2) (elNil))))) (cSeq (sAsg (tAttr (eVar 0) fLike) (eLc (cFor [4, 5] (tName 4) (iVal (eAttr (eVar 0) fSome)) (cFor [5] (tName 5) (iVal (eAttr (eVar 0) fSome)) (cIf (eOp oEq (eCallP ks (elCons (eVar 4) (elNil))) (eCallP ks (elCons (eVar 5) (elNil)))) (cElt (eTup (elCons (eVar 4) (elCons (eVar 5) (elNil)))))))))) (cSeq (sAsg (tAttr (eVar 0) fLeast) (eDcD (cFor [6] (tName 6) (iVal (eAttr (eVar 0) fSome)) (cEltD (eTup (elCons (eVar 6) (elCons (eVar 6) (elNil)))) (eC (.int 0)))))) (cSeq (sAsg (tName 3) (eC (.bool true))) (cSeq (sWhile (eVar 3) (cSeq (sAsg (tName 3) (eMeth (eVar 0) mRul elNil)) (cSeq (sAsg (tName 3) (eOr (eMeth (eVar 0) mChil elNil) (eVar 3))) (cNil)))) (cNil))))))
/-- the functions that a table asks for -/
structure TbOk (tb : Tb) (kz ko kp k9 k19 ks klo kby kch klc klr kT : Nat) : Prop where
  hz : tb.fn kz = ⟨1, 2, c_size kz⟩
  ho : tb.fn ko = ⟨1, 5, c_ordered kz⟩
  hp : tb.fn kp = ⟨1, 3, c_parts ko kp⟩
  h9 : tb.fn k9 = ⟨1, 4, c_partsof ko kp⟩
  h19 : tb.fn k19 = ⟨2, 4, c_told ko kp k9⟩
  hs : tb.fn ks = ⟨1, 1, c_sign⟩
  hlo : tb.fn klo = ⟨4, 4, c_lower⟩
  hby : tb.fn kby = ⟨5, 7, c_byrule⟩
  hch : tb.fn kch = ⟨3, 5, c_bychildren ks⟩
  hlc : tb.fn klc = ⟨1, 5, c_lookc⟩
  hlr : tb.fn klr = ⟨1, 8, c_lookr⟩
  hT : tb.fn kT = ⟨3, 7, c_table k19 ks⟩
  mc : tb.meth cTab mByC = some kch
  ml : tb.meth cTab mLow = some klo
  mb : tb.meth cTab mByR = some kby
  mr : tb.meth cTab mRul = some klr
  mkc : tb.meth cTab mChil = some klc
  f1 : tb.fld cTab fUsed = true
  f2 : tb.fld cTab fSome = true
  f3 : tb.fld cTab fLike = true
  f4 : tb.fld cTab fLeast = true
/-- by each field -/
structure Tab0 (S : Store) (a : Nat) (fs : List (Nat × Val)) : Prop where
  ins : S.get a = some (.ins cTab fs)
section
variable {tb : Tb} {kz ko kp k9 k19 ks klo kby kch klc klr kT : Nat} {n : Nat} {a lu l2 : Nat} {R : List (T1 × T1)} {ts : List T1} {S : Store} {X : XP} {Q : Val → Store → Prop}
/-- a round as a function, and what the rounds lead to -/
def roundF (R : List (T1 × T1)) (P : List T1) (D : DL) : DL × Bool := ((lookcF (likeP P) (lookrF P R D false).1 false).1, (lookcF (likeP P) (lookrF P R D false).1 false).2 || (lookrF P R D false).2)
inductive Rounds (R : List (T1 × T1)) (P : List T1) : DL → DL → Prop
  | stop {D : DL} (h : (roundF R P D).2 = false) : Rounds R P D (roundF R P D).1
  | go {D D' : DL} (h : (roundF R P D).2 = true) (k : Rounds R P (roundF R P D).1 D') : Rounds R P D D'
theorem Rounds.uniq {R : List (T1 × T1)} {P : List T1} : ∀ {D D1 D2 : DL}, Rounds R P D D1 → Rounds R P D D2 → D1 = D2
  | _, _, _, .stop h, .stop _ => rfl
  | _, _, _, .stop h, .go h2 _ => by rw [h] at h2; cases h2
  | _, _, _, .go h _, .stop h2 => by rw [h] at h2; cases h2
  | _, _, _, .go h k, .go _ k2 => k.uniq k2
def initF (P : List T1) : DL := P.foldl (fun D u => dp (u, u) 0 D) []
/-- the dict that Table makes -/
def TabIs (R : List (T1 × T1)) (P : List T1) (D : DL) : Prop := Rounds R P (initF P) D
theorem TabIs.uniq {R : List (T1 × T1)} {P : List T1} {D D' : DL} (h : TabIs R P D) (k : TabIs R P D') : D = D' := Rounds.uniq h k
end
/-! lots; least_steps, number_table -/
abbrev cLot : Nat := 0
abbrev fKept : Nat := 1
abbrev mRules : Nat := 0
abbrev xBad : Nat := 1
abbrev fBad : Nat := 0
structure LotAt (S : Store) (a lk : Nat) (R : List (T1 × T1)) : Prop where
  ins : S.get a = some (.ins cLot [(fKept, .ref lk)])
  kept : S.get lk = some (.lst (R.map rlV))
  l1 : a < S.nx
  l2 : lk < S.nx
theorem LotAt.keep {S S' : Store} {a lk : Nat} {R : List (T1 × T1)} {X : List Nat} (h : LotAt S a lk R) (k : Kp X S S') (h1 : a ∉ X) (h2 : lk ∉ X) : LotAt S' a lk R :=
  have := k.nx
  ⟨(k.get a h.l1 h1).trans h.ins, (k.get lk h.l2 h2).trans h.kept, Nat.lt_of_lt_of_le h.l1 this, Nat.lt_of_lt_of_le h.l2 this⟩
def c_rules : C := cSeq (sRet (eB bList (elCons (eAttr (eVar 0) fKept) (elNil)))) (cNil)
def c_lot (kr k9 : Nat) : C := cSeq (sIf (eOr (eNot (eIsI (eVar 1) aLst)) (eOp oGt (eB bLen (elCons (eVar 1) (elNil))) (eC (.int 8)))) (cSeq (sRaise xBad fBad (eC (.int 0))) (cNil)) (cNil)) (cSeq (sFor (tTup 2 (tCons (tName 2) (tCons (tName 3) (tNil)))) (iEnum (eVar 1)) (cSeq (sIf (eOr (eNot (eCallP kr (elCons (eVar 3) (elNil)))) (eOp oIn (eVar 3) (eSl (eVar 1) (eoNone) (eoSome (eVar 2))))) (cSeq (sRaise xBad fBad (eVar 2)) (cNil)) (cNil)) (cSeq (sIf (eOp oGt (eB bLen (elCons (eCall k9 (elCons (eSl (eVar 1) (eoNone) (eoSome (eOp oAdd (eVar 2) (eC (.int 1))))) (elNil))) (elNil))) (eC (.int 24))) (cSeq (sRaise xBad fBad (eVar 2)) (cNil)) (cNil)) (cNil)))) (cSeq (sAsg (tAttr (eVar 0) fKept) (eB bList (elCons (eVar 1) (elNil)))) (cNil)))
theorem Full.lk_iff {R : List (T1 × T1)} {P : List T1} {D : DL} (h : Full R P D) {u v : T1} (hu : u ∈ P) (hv : v ∈ P) (n : Nat) : lk (u, v) D = some n ↔ Lst R u v n := h.least u v hu hv n
theorem Full.uniq {R : List (T1 × T1)} {P : List T1} {D D' : DL} (h : Full R P D) (k : Full R P D') {u v : T1} (hu : u ∈ P) (hv : v ∈ P) : lk (u, v) D = lk (u, v) D' := by
  cases e : lk (u, v) D with
  | some n => exact ((k.lk_iff hu hv n).mpr ((h.lk_iff hu hv n).mp e)).symm
  | none =>
    cases e2 : lk (u, v) D' with
    | none => rfl
    | some n =>
      have := (h.lk_iff hu hv n).mpr ((k.lk_iff hu hv n).mp e2)
      rw [e] at this; cases this
theorem slc_pre {α : Type} (xs : List α) (k : Nat) : slc xs .none (some (k : Nat)) = xs.take k := by
  show (xs.take (min k xs.length)).drop 0 = xs.take k
  rw [List.drop_zero]
  rcases Nat.le_total k xs.length with h | h
  · rw [Nat.min_eq_left h]
  · rw [Nat.min_eq_right h, List.take_length, List.take_of_length_le h]
theorem tg_lst {S : Store} {l : Nat} {xs : List Val} (h : S.get l = some (.lst xs)) : tgOf S (.ref l) = some .lst := by
  show (match S.get l with | some (.lst _) => some Tg.lst | some (.dct _) => some .dct | some (.ins c _) => some (.own c) | _ => .none) = _
  rw [h]
section
variable {tb : Tb} {kz ko kp k9 k19 ks klo kby kch klc klr kT kru kbc kn kt kl kr : Nat} {n : Nat} {R : List (T1 × T1)} {S : Store} {X : XP} {Q : Val → Store → Prop}
end
/-! least_steps, number_table, Lot.__init__ -/
theorem enumV_cons (k : Int) (v : Val) (r : List Val) : enumV k (v :: r) = .tup [.int k, v] :: enumV (k + 1) r := rfl
section
variable {tb : Tb} {kz ko kp k9 k19 ks klo kby kch klc klr kT kru kbc kn kt kl kr kls knt kL : Nat} {n : Nat} {R : List (T1 × T1)} {S : Store} {X : XP} {Q : Val → Store → Prop}
theorem strict_nod {α : Type} {c : α → α → Ordering} (ok : OrdOk c) : ∀ {l : List α}, Strict c l → l.Nodup
  | [], _ => List.nodup_nil
  | a :: r, h => by
    rw [List.nodup_cons]
    refine ⟨fun m => ?_, strict_nod ok h.2⟩
    have := h.1 a m
    rw [ok.refl] at this
    cases this
theorem ordT_mono {ts us : List T1} (h : ∀ t ∈ ts, t ∈ us) : (ordT ts).length ≤ (ordT us).length :=
  nod_len (strict_nod cmpK_ok (ordT_strict ts)) fun x hx => mem_ordT.mpr (h x (mem_ordT.mp hx))
end
/-! drawn trees of up to four children -/
def c_grow4 (kt kp kg : Nat) : C := cSeq (sAsg (tName 4) (eCall kt (elCons (eVar 0) (elCons (eC (.int 4)) (elNil))))) (cSeq (sIf (eOr (eOp oEq (eVar 2) (eC (.int 1))) (eOr (eOp oEq (eVar 3) (eC (.int 1))) (eOp oEq (eVar 4) (eC (.int 0))))) (cSeq (sRet (eTup (elCons (eOp oIx (eVar 1) (eCall kt (elCons (eVar 0) (elCons (eC (.int 3)) (elNil))))) (elNil)))) (cNil)) (cNil)) (cSeq (sIf (eOr (eOp oEq (eVar 2) (eC (.int 2))) (eOp oEq (eVar 4) (eC (.int 1)))) (cSeq (sRet (eTup (elCons (eOp oIx (eVar 1) (eOp oAdd (eC (.int 3)) (eCall kt (elCons (eVar 0) (elCons (eC (.int 2)) (elNil)))))) (elCons (eCall kg (elCons (eVar 0) (elCons (eVar 1) (elCons (eOp oSub (eVar 2) (eC (.int 1))) (elCons (eOp oSub (eVar 3) (eC (.int 1))) (elNil)))))) (elNil))))) (cNil)) (cNil)) (cSeq (sPar [5, 6, 7] (elCons (eB bMin2 (elCons (eCall kp (elCons (eVar 0) (elCons (eLst (elCons (eC (.int 2)) (elCons (eC (.int 2)) (elCons (eC (.int 2)) (elCons (eC (.int 3)) (elCons (eC (.int 4)) (elNil))))))) (elNil)))) (elCons (eOp oSub (eVar 2) (eC (.int 1))) (elNil)))) (elCons (eOp oSub (eVar 2) (eC (.int 1))) (elCons (eTup (elNil)) (elNil))))) (cSeq (sFor (tName 8) (iRange (elCons (eVar 5) (elNil))) (cSeq (sAsg (tName 9) (eOp oAdd (eC (.int 1)) (eCall kt (elCons (eVar 0) (elCons (eOp oAdd (eOp oSub (eVar 6) (eOp oSub (eVar 5) (eVar 8))) (eC (.int 1))) (elNil)))))) (cSeq (sAsg (tName 7) (eOp oAdd (eVar 7) (eTup (elCons (eCall kg (elCons (eVar 0) (elCons (eVar 1) (elCons (eVar 9) (elCons (eOp oSub (eVar 3) (eC (.int 1))) (elNil)))))) (elNil))))) (cSeq (sAsg (tName 6) (eOp oSub (eVar 6) (eVar 9))) (cNil))))) (cSeq (sRet (eOp oAdd (eTup (elCons (eOp oIx (eVar 1) (eC (.int 5))) (elNil))) (eVar 7))) (cNil))))))
def c_tree (kg : Nat) : C := cSeq (sRet (eCall kg (elCons (eVar 0) (elCons (eVar 1) (elCons (eVar 2) (elCons (eC (.int 6)) (elNil))))))) (cNil)
theorem Nm6.keep {S S' : Store} {l f : Nat} (h : Nm6 S l) (k : Kp [f] S S') (hl : l < S.nx) (ne : l ≠ f) : Nm6 S' l := let ⟨ss, h1, h2⟩ := h; ⟨ss, (k.get l hl (by simpa using ne)).trans h1, h2⟩
theorem upTo_cons (a : Int) (n : Nat) : upTo a (n + 1) = .int a :: upTo (a + 1) n := rfl
section
variable {tb : Tb} {kt kp kg : Nat} {f nm : Nat} {X : XP}
end
/-! drawn lots -/
def c_lrules (kr kz : Nat) : C := cSeq (sAsg (tName 5) (eLst (elNil))) (cSeq (sFor (tName 6) (iRange (elCons (eVar 2) (elNil))) (cSeq (sPar [7, 8] (elCons (eCall kr (elCons (eVar 0) (elCons (eVar 1) (elCons (eVar 3) (elNil))))) (elCons (eCall kr (elCons (eVar 0) (elCons (eVar 1) (elCons (eVar 3) (elNil))))) (elNil)))) (cSeq (sIf (eAnd (eVar 4) (eOp oLtS (eTup (elCons (eCall kz (elCons (eVar 7) (elNil))) (elCons (eVar 7) (elNil)))) (eTup (elCons (eCall kz (elCons (eVar 8) (elNil))) (elCons (eVar 8) (elNil)))))) (cSeq (sPar [7, 8] (elCons (eVar 8) (elCons (eVar 7) (elNil)))) (cNil)) (cNil)) (cSeq (sIf (eAnd (eOp oNe (eVar 7) (eVar 8)) (eOp oNotIn (eTup (elCons (eVar 7) (elCons (eVar 8) (elNil)))) (eVar 5))) (cSeq (sExpr (eBm .lst mAppend (eVar 5) (elCons (eTup (elCons (eVar 7) (elCons (eVar 8) (elNil)))) (elNil)))) (cNil)) (cNil)) (cNil))))) (cSeq (sRet (eVar 5)) (cNil)))
section
variable {tb : Tb} {kt kp kg kr klr kll kz : Nat} {f nm : Nat} {n : Nat} {S : Store} {X : XP} {Q : Val → Store → Prop}
end
/-! number tables: the plain law -/
/-! ### bound -/
theorem LstL.bound {R : List (T1 × T1)} {k : Nat} : ∀ {ts us : List T1} {n : Nat}, LstL R ts us n → (∀ t u a, t ∈ ts → u ∈ us → Lst R t u a → a ≤ n → a < k) → n + ts.length ≤ ts.length * k
  | _, _, _, .nil, _ => by simp
  | _, _, _, .cons (a := a) (b := b) (ts := ts) h l, f => by
    have h1 := f _ _ a List.mem_cons_self List.mem_cons_self h (by omega)
    have h2 := l.bound fun t u a ht hu hl hle => f t u a (List.mem_cons_of_mem _ ht) (List.mem_cons_of_mem _ hu) hl (by omega)
    rw [List.length_cons, Nat.succ_mul]; omega
set_option exponentiation.threshold 3000
/-! number tables: the rows as a table; sums -/
/-! ### sums -/
set_option exponentiation.threshold 3000
/-! repr of numbers, None, trees -/
open PySem PySem.Builtin PySem.Builtin.Str
/-! ### the text of a tree -/
mutual
def rp : T1 → List Nat
  | .mk s ts => 40 :: 39 :: (s ++ 39 :: rpK ts)
def rpK : List T1 → List Nat
  | [] => [44, 41]
  | t :: r => 44 :: 32 :: (rp t ++ rpR r)
def rpR : List T1 → List Nat
  | [] => [41]
  | t :: r => 44 :: 32 :: (rp t ++ rpR r)
end
theorem okN_39 {s : List Nat} (h : okN s = true) : ∀ c ∈ s, 97 ≤ c ∧ c ≤ 122 := fun c hc => by
  unfold okN at h
  simp only [Bool.and_eq_true] at h
  have := List.all_eq_true.mp h.2.2 c hc
  simpa [isL, Nat.ble_eq] using this
mutual
theorem rp_chr : ∀ {t : T1}, okT 4 t = true → (∀ c ∈ rp t, c < 128) ∧ (rp t).length + 2 ≤ 20 * sz t
  | .mk s ts, h => by
    rw [okT, Bool.and_eq_true, Bool.and_eq_true] at h
    obtain ⟨h1, h2⟩ := rpK_chr h.2.2
    have hs := okN_39 h.1
    have hl : s.length ≤ 8 := by
      have := h.1
      unfold okN at this
      simp only [Bool.and_eq_true, Nat.ble_eq] at this
      exact this.2.1
    rw [rp, sz]
    refine ⟨fun c hc => ?_, ?_⟩
    · simp only [List.mem_cons, List.mem_append] at hc
      rcases hc with e | e | e | e | e
      · omega
      · omega
      · have := hs c e; omega
      · omega
      · exact h1 c e
    · simp only [List.length_cons, List.length_append]; omega
theorem rpK_chr : ∀ {ts : List T1}, okTs 4 ts = true → (∀ c ∈ rpK ts, c < 128) ∧ (rpK ts).length ≤ 20 * szs ts + 2
  | [], _ => ⟨by rw [rpK]; decide, by rw [rpK, szs]; decide⟩
  | t :: r, h => by
    rw [okTs, Bool.and_eq_true] at h
    obtain ⟨h1, h2⟩ := rp_chr h.1
    obtain ⟨h3, h4⟩ := rpR_chr h.2
    rw [rpK, szs]
    refine ⟨fun c hc => ?_, ?_⟩
    · simp only [List.mem_cons, List.mem_append] at hc
      rcases hc with e | e | e | e
      · omega
      · omega
      · exact h1 c e
      · exact h3 c e
    · simp only [List.length_cons, List.length_append]; omega
theorem rpR_chr : ∀ {ts : List T1}, okTs 4 ts = true → (∀ c ∈ rpR ts, c < 128) ∧ (rpR ts).length ≤ 20 * szs ts + 1
  | [], _ => ⟨by rw [rpR]; decide, by rw [rpR, szs]; decide⟩
  | t :: r, h => by
    rw [okTs, Bool.and_eq_true] at h
    obtain ⟨h1, h2⟩ := rp_chr h.1
    obtain ⟨h3, h4⟩ := rpR_chr h.2
    rw [rpR, szs]
    refine ⟨fun c hc => ?_, ?_⟩
    · simp only [List.mem_cons, List.mem_append] at hc
      rcases hc with e | e | e | e
      · omega
      · omega
      · exact h1 c e
      · exact h3 c e
    · simp only [List.length_cons, List.length_append]; omega
end
/-! ### the same by repr -/
def cpl (x : Str) : List Nat := x.cps.toList
theorem cpl_app (a b : Str) : cpl (a ++ b) = cpl a ++ cpl b := by
  show (a.cps ++ b.cps).toList = _
  rw [Array.toList_append]; rfl
theorem letters_repr : (List.range 26).all (fun k => (reprChar 39 (97 + k)) == [97 + k]) = true := by decide +kernel
theorem reprChar_letter {c : Nat} (h : 97 ≤ c ∧ c ≤ 122) : reprChar 39 c = [c] := by
  have := List.all_eq_true.mp letters_repr (c - 97) (List.mem_range.mpr (by omega))
  rw [show 97 + (c - 97) = c by omega] at this
  exact eq_of_beq this
theorem fold_letters : ∀ (xs : List Nat) (acc : Array Nat), (∀ c ∈ xs, 97 ≤ c ∧ c ≤ 122) → (xs.foldl (fun out c => out ++ (reprChar 39 c).toArray) acc).toList = acc.toList ++ xs
  | [], acc, _ => by simp
  | x :: r, acc, h => by
    rw [List.foldl_cons, fold_letters r _ fun c hc => h c (List.mem_cons_of_mem _ hc), reprChar_letter (h x List.mem_cons_self), Array.toList_append]
    simp
theorem repr_name {s : List Nat} (h : ∀ c ∈ s, 97 ≤ c ∧ c ≤ 122) : cpl (reprText ⟨s.toArray⟩) = 39 :: (s ++ [39]) := by
  have hq : reprQuote ⟨s.toArray⟩ = 39 := by
    unfold reprQuote
    have : (s.toArray.contains 39) = false := by
      cases e : s.toArray.contains 39 with
      | false => rfl
      | true =>
        have := h 39 (by simpa using e)
        omega
    show (if (s.toArray.contains 39 && !s.toArray.contains 34) = true then 34 else 39) = 39
    rw [this]; rfl
  unfold reprText
  rw [hq]
  show ((s.toArray.foldl (fun out c => out ++ (reprChar 39 c).toArray) #[39]).push 39).toList = _
  rw [Array.toList_push, ← Array.foldl_toList, fold_letters _ _ h]
  simp
theorem cpl_lit1 : cpl ("(" : Str) = [40] := by decide +kernel
theorem cpl_lit2 : cpl (", " : Str) = [44, 32] := by decide +kernel
theorem cpl_lit3 : cpl (((",)" : String)) : Str) = [44, 41] := by decide +kernel
theorem cpl_lit4 : cpl (((")" : String)) : Str) = [41] := by decide +kernel
/-- what stands behind the first text -/
theorem join_text (a : Str) : ∀ ts : List Str, cpl (Str.join ", " (a :: ts)) = cpl a ++ ts.flatMap fun t => 44 :: 32 :: cpl t
  | [] => by show cpl a = _; simp
  | t :: r => by
    show cpl (a ++ ", " ++ Str.join ", " (t :: r)) = _
    rw [cpl_app, cpl_app, cpl_lit2, join_text t r, List.flatMap_cons]
    simp
theorem rpR_flat : ∀ ts : List T1, rpR ts = (ts.flatMap fun t => 44 :: 32 :: rp t) ++ [41]
  | [] => rfl
  | t :: r => by rw [rpR, rpR_flat r, List.flatMap_cons]; simp
theorem rpK_cons (t : T1) (r : List T1) : rpK (t :: r) = rpR (t :: r) := by rw [rpK, rpR]
theorem shown_tree (S : Store) : ∀ (k : Nat) (t : T1), lv t < k → okT 4 t = true → cpl (dat S (k + 1) (tv t)).shown = rp t
  | 0, t, h, _ => absurd h (Nat.not_lt_zero _)
  | k + 1, .mk s ts, h, ok => by
    rw [lv] at h
    rw [okT, Bool.and_eq_true, Bool.and_eq_true] at ok
    have hs := okN_39 ok.1
    have all : ∀ us : List T1, (∀ u ∈ us, lv u < k ∧ okT 4 u = true) → (PyData.shownAll ((us.map tv).map (dat S (k + 1)))).flatMap (fun t => 44 :: 32 :: cpl t) = us.flatMap fun t => 44 :: 32 :: rp t := by
      intro us
      induction us with
      | nil => intro _; rfl
      | cons u r ih =>
        intro hu
        have h1 := hu u List.mem_cons_self
        show ((dat S (k + 1) (tv u)).shown :: PyData.shownAll ((r.map tv).map (dat S (k + 1)))).flatMap _ = _
        rw [List.flatMap_cons, List.flatMap_cons, ih fun x hx => hu x (List.mem_cons_of_mem _ hx), shown_tree S k u h1.1 h1.2]
    have e : (dat S (k + 2) (tv (.mk s ts))).shown = tupleText (reprText ⟨s.toArray⟩ :: PyData.shownAll ((ts.map tv).map (dat S (k + 1)))) := by
      rw [tv_mk]; rfl
    have len : ∀ l : List PyData, (PyData.shownAll l).length = l.length := by
      intro l
      induction l with
      | nil => rfl
      | cons a r ih => show (PyData.shown a :: PyData.shownAll r).length = _; rw [List.length_cons, ih]; rfl
    rw [e]
    unfold tupleText
    rw [cpl_app, cpl_app, cpl_lit1, join_text, repr_name hs, all ts fun u hu => ⟨by have := lv_mem hu; omega, okTs_mem ok.2.2 hu⟩, rp]
    cases ts with
    | nil =>
      show [40] ++ (39 :: (s ++ [39]) ++ []) ++ cpl (((",)" : String)) : Str) = _
      rw [cpl_lit3, rpK]; simp
    | cons t r =>
      have e2 : ((reprText ⟨s.toArray⟩ :: PyData.shownAll (((t :: r).map tv).map (dat S (k + 1)))).length == 1) = false := by
        rw [List.length_cons, len, List.length_map, List.length_map, List.length_cons]
        simp
      rw [e2]
      show [40] ++ (39 :: (s ++ [39]) ++ ((t :: r).flatMap fun t => 44 :: 32 :: rp t)) ++ cpl (((")" : String)) : Str) = _
      rw [cpl_lit4, rpK_cons, rpR_flat]; simp
theorem dOk_tv (S : Store) : ∀ (k : Nat) (t : T1), lv t < k → dOk S (k + 1) (tv t) = true ∧ shOk S (k + 1) (tv t) = true
  | 0, t, h => absurd h (Nat.not_lt_zero _)
  | k + 1, .mk s ts, h => by
    rw [lv] at h
    rw [tv]
    constructor
    · show ((Val.str s) :: tvs ts).all (dOk S (k + 1)) = true
      rw [List.all_cons, tvs_map]
      refine Bool.and_eq_true_iff.mpr ⟨rfl, List.all_eq_true.mpr fun x hx => ?_⟩
      obtain ⟨t, ht, rfl⟩ := List.mem_map.mp hx
      exact (dOk_tv S k t (by have := lv_mem ht; omega)).1
    · show ((Val.str s) :: tvs ts).all (shOk S (k + 1)) = true
      rw [List.all_cons, tvs_map]
      refine Bool.and_eq_true_iff.mpr ⟨rfl, List.all_eq_true.mpr fun x hx => ?_⟩
      obtain ⟨t, ht, rfl⟩ := List.mem_map.mp hx
      exact (dOk_tv S k t (by have := lv_mem ht; omega)).2
/-! ### of a number or None -/
theorem digits_ok {n : Nat} (h : n < 2 ^ 1802) : (∀ c ∈ cpl (toString ((n : Nat) : Int)), c < 128) ∧ (cpl (toString ((n : Nat) : Int))).length ≤ 1000 := by
  have e : cpl (toString ((n : Nat) : Int)) = (Nat.toDigits 10 n).map Char.toNat := by
    show (Str.ofString (toString ((n : Nat) : Int))).cps.toList = _
    rw [Str.ofString_eq_toList]
    show ((toString ((n : Nat) : Int)).toList.map Char.toNat).toArray.toList = _
    have : toString ((n : Nat) : Int) = n.repr := rfl
    rw [this, Nat.toList_repr]
  rw [e]
  refine ⟨fun c hc => ?_, ?_⟩
  · obtain ⟨d, hd, rfl⟩ := List.mem_map.mp hc
    have := Nat.isDigit_of_mem_toDigits (by decide) (by decide) hd
    unfold Char.isDigit at this
    simp only [Bool.and_eq_true, decide_eq_true_iff] at this
    have h2 := this.2
    have : d.val.toNat ≤ 57 := h2
    show d.val.toNat < 128
    omega
  · rw [List.length_map]
    refine (Nat.length_toDigits_le_iff (by decide) (by decide)).mpr (Nat.lt_of_lt_of_le h ?_)
    have h1 : 2 ^ 1802 ≤ (2 ^ 3) ^ 1000 := by rw [← Nat.pow_mul]; exact Nat.pow_le_pow_right (by decide) (by decide)
    exact Nat.le_trans h1 (Nat.pow_le_pow_left (by decide) 1000)
set_option exponentiation.threshold 3000
/-! the law's sums over a dict of numbers -/
section
variable {tb : Tb} {ks kk : Nat} {n : Nat} {R : List (T1 × T1)} {P : List T1} {N : DL} {S : Store} {X : XP} {Q : Val → Store → Prop}
end
set_option exponentiation.threshold 3000
/-! the law's look at all sums -/
section
variable {tb : Tb} {ks kk : Nat} {n : Nat} {R : List (T1 × T1)} {P : List T1} {N : DL} {S : Store} {X : XP} {Q : Val → Store → Prop}
end
/-! dicts of lists of pairs; positions; their order -/
/-! ### numbers = dict([((one, two), number) ..]) -/
/-! ### spots -/
/-- the position -/
def pos : List T1 → T1 → Nat
  | [], _ => 0
  | a :: r, p => if a = p then 0 else pos r p + 1
/-! ### positions in order -/
def lexLt (p q : Nat × Nat) : Prop := p.1 < q.1 ∨ p.1 = q.1 ∧ p.2 < q.2
set_option exponentiation.threshold 3000
/-! small facts for the law -/
/-- the state of a cell of the law -/
structure Cell (S : Store) (f nm lr lo lk : Nat) (R : List (T1 × T1)) : Prop where
  fed : Fed S f
  f1 : f < S.nx
  nm6 : Nm6 S nm
  n1 : nm < S.nx
  n2 : nm ≠ f
  gr : S.get lr = some (.lst (R.map rlV))
  r1 : lr < S.nx
  r2 : lr ≠ f
  lot : LotAt S lo lk R
  o2 : lo ≠ f
  k2 : lk ≠ f
theorem Cell.keepF {S S' : Store} {f nm lr lo lk : Nat} {R : List (T1 × T1)} (h : Cell S f nm lr lo lk R) (k : Kp [f] S S') (fd : Fed S' f) : Cell S' f nm lr lo lk R :=
  have := k.nx
  ⟨fd, Nat.lt_of_lt_of_le h.f1 this, h.nm6.keep k h.n1 h.n2, Nat.lt_of_lt_of_le h.n1 this, h.n2, (k.get lr h.r1 (by simpa using h.r2)).trans h.gr, Nat.lt_of_lt_of_le h.r1 this, h.r2, h.lot.keep k (by simpa using h.o2) (by simpa using h.k2), h.o2, h.k2⟩
theorem Cell.keep {S S' : Store} {f nm lr lo lk : Nat} {R : List (T1 × T1)} (h : Cell S f nm lr lo lk R) (k : Kp [] S S') : Cell S' f nm lr lo lk R :=
  h.keepF (k.sub fun _ h => by cases h) (h.fed.lt k h.f1 (by simp))
theorem Kp.up {X : List Nat} {S S' : Store} (k : Kp [] S S') : Kp X S S' := k.sub fun _ h => by cases h
/-! lists of pure values -/
/-! enumerated -/
def en : Nat → List T1 → List (Nat × T1)
  | _, [] => []
  | k, p :: r => (k, p) :: en (k + 1) r
/-! ways one behind the other; places, steps -/
theorem Der.zero_of {R : List (T1 × T1)} {u v : T1} {n m : Nat} (h : Der R u v n) (e : n = m) : Der R u v m := e ▸ h
theorem DerL.zero_of {R : List (T1 × T1)} {u v : List T1} {n m : Nat} (h : DerL R u v n) (e : n = m) : DerL R u v m := e ▸ h
theorem Der.compK {R : List (T1 × T1)} {s : List Nat} {ts us : List T1} {a : Nat} (h : DerL R ts us a) (ih : ∀ {ws : List T1} {b : Nat}, DerL R us ws b → DerL R ts ws (a + b)) : ∀ {v w : T1} {b : Nat}, Der R v w b → v = .mk s us → Der R (.mk s ts) w (a + b)
  | _, _, _, .refl _, e => by subst e; exact Der.kids h
  | _, _, _, .kids k, e => by cases e; exact Der.kids (ih k)
  | _, _, _, .rule (a := x) (b := y) hr h1 h2, e => (Der.rule hr (Der.compK h ih h1 e) h2).zero_of (by omega)
mutual
theorem Der.comp {R : List (T1 × T1)} : ∀ {u v : T1} {a : Nat}, Der R u v a → ∀ (w : T1) (b : Nat), Der R v w b → Der R u w (a + b)
  | _, _, _, .refl u, w, b, k => k.zero_of (by omega)
  | _, _, _, .rule (a := a) (b := c) hr h1 h2, w, b, k => (Der.rule hr h1 (h2.comp w b k)).zero_of (by omega)
  | _, _, _, .kids h, w, b, k => Der.compK h (fun {ws} {b} k => h.comp ws b k) k rfl
theorem DerL.comp {R : List (T1 × T1)} : ∀ {ts us : List T1} {a : Nat}, DerL R ts us a → ∀ (ws : List T1) (b : Nat), DerL R us ws b → DerL R ts ws (a + b)
  | _, _, _, .nil, _, _, .nil => .nil
  | _, _, _, .cons h1 h2, _, _, .cons k1 k2 => (DerL.cons (h1.comp _ _ k1) (h2.comp _ _ k2)).zero_of (by omega)
end
theorem DerL.self {R : List (T1 × T1)} : ∀ ts : List T1, DerL R ts ts 0
  | [] => .nil
  | t :: r => (DerL.cons (.refl t) (DerL.self r)).zero_of (by omega)
theorem DerL.set1 {R : List (T1 × T1)} {c d : T1} {n : Nat} (h : Der R c d n) : ∀ {ts : List T1} {k : Nat}, ts[k]? = some c → DerL R ts (ts.set k d) n
  | t :: r, 0, e => by
    cases e
    exact (DerL.cons h (DerL.self r)).zero_of (by omega)
  | t :: r, k + 1, e => (DerL.cons (.refl t) (DerL.set1 h (ts := r) (k := k) e)).zero_of (by omega)
/-! ### places -/
mutual
def places : T1 → List (List Nat × T1)
  | .mk s ts => ([], .mk s ts) :: placesL 0 ts
def placesL (k : Nat) : List T1 → List (List Nat × T1)
  | [] => []
  | t :: r => (places t).map (fun p => (k :: p.1, p.2)) ++ placesL (k + 1) r
end
def partAt : List Nat → T1 → Option T1
  | [], t => some t
  | k :: p, .mk _ ts => match ts[k]? with
    | some c => partAt p c
    | .none => .none
def putT : List Nat → T1 → T1 → T1
  | [], _, u => u
  | k :: p, .mk s ts, u => match ts[k]? with
    | some c => .mk s (ts.set k (putT p c u))
    | .none => .mk s ts
mutual
theorem places_at : ∀ {t : T1} {p : List Nat} {x : T1}, (p, x) ∈ places t → partAt p t = some x
  | .mk s ts, p, x, h => by
    rw [places] at h
    rcases List.mem_cons.mp h with e | e
    · cases e; rfl
    · obtain ⟨i, q, c, h1, h2, h3⟩ := placesL_at e
      subst h1
      rw [Nat.zero_add]
      show (match ts[i]? with | some c => partAt q c | .none => .none) = _
      rw [h2]
      exact h3
theorem placesL_at : ∀ {ts : List T1} {j : Nat} {p : List Nat} {x : T1}, (p, x) ∈ placesL j ts → ∃ i q c, p = (j + i) :: q ∧ ts[i]? = some c ∧ partAt q c = some x
  | [], _, _, _, h => by rw [placesL] at h; cases h
  | t :: r, j, p, x, h => by
    rw [placesL, List.mem_append] at h
    rcases h with h | h
    · obtain ⟨⟨q, y⟩, h1, h2⟩ := List.mem_map.mp h
      cases h2
      exact ⟨0, q, t, rfl, rfl, places_at h1⟩
    · obtain ⟨i, q, c, h1, h2, h3⟩ := placesL_at h
      exact ⟨i + 1, q, c, by rw [h1]; congr 1; omega, h2, h3⟩
end
mutual
theorem places_len : ∀ t : T1, (places t).length = sz t
  | .mk s ts => by rw [places, List.length_cons, placesL_len, sz]; omega
theorem placesL_len : ∀ (ts : List T1) (j : Nat), (placesL j ts).length = szs ts
  | [], _ => rfl
  | t :: r, j => by rw [placesL, List.length_append, List.length_map, places_len t, placesL_len r, szs]
end
theorem getElem_mem' {α : Type} {l : List α} {k : Nat} {c : α} (h : l[k]? = some c) : c ∈ l := List.mem_of_getElem? h
theorem partAt_lv : ∀ {p : List Nat} {t x : T1}, partAt p t = some x → lv x ≤ lv t ∧ sz x ≤ sz t ∧ p.length < lv t
  | [], t, x, h => by cases h; exact ⟨Nat.le_refl _, Nat.le_refl _, lv_pos _⟩
  | k :: p, .mk s ts, x, h => by
    have h : (match ts[k]? with | some c => partAt p c | .none => .none) = some x := h
    cases e : ts[k]? with
    | none => rw [e] at h; cases h
    | some c =>
      rw [e] at h
      obtain ⟨h1, h2, h3⟩ := partAt_lv h
      have hc := getElem_mem' e
      have := lv_mem hc
      have := sz_mem hc
      rw [lv, sz, List.length_cons]; omega
theorem putT_cons {k : Nat} {p : List Nat} {s : List Nat} {ts : List T1} {u c : T1} (e : ts[k]? = some c) : putT (k :: p) (.mk s ts) u = .mk s (ts.set k (putT p c u)) := by
  show (match ts[k]? with | some c => T1.mk s (ts.set k (putT p c u)) | .none => .mk s ts) = _
  rw [e]
/-- one step -/
theorem step_der {R : List (T1 × T1)} {l r : T1} (hr : (l, r) ∈ R) : ∀ {p : List Nat} {t : T1}, partAt p t = some l → Der R t (putT p t r) 1
  | [], t, h => by
    cases h
    exact (Der.rule hr (.refl _) (.refl _)).zero_of rfl
  | k :: p, .mk s ts, h => by
    have h : (match ts[k]? with | some c => partAt p c | .none => .none) = some l := h
    cases e : ts[k]? with
    | none => rw [e] at h; cases h
    | some c =>
      rw [e] at h
      rw [putT_cons e]
      exact .kids (DerL.set1 (step_der hr h) e)
/-! ### steps -/
/-! ways -/
abbrev Wy := List (List Nat × Nat)
/-- steps done one behind the other -/
inductive Way (R : List (T1 × T1)) : T1 → T1 → Wy → Prop
  | nil (u : T1) : Way R u u []
  | cons {u v l r : T1} {p : List Nat} {i : Nat} {w : Wy} : R[i]? = some (l, r) → partAt p u = some l → Way R (putT p u r) v w → Way R u v ((p, i) :: w)
theorem Way.app {R : List (T1 × T1)} : ∀ {u v x : T1} {w z : Wy}, Way R u v w → Way R v x z → Way R u x (w ++ z)
  | _, _, _, _, _, .nil _, k => k
  | _, _, _, _, _, .cons h1 h2 h3, k => .cons h1 h2 (h3.app k)
/-- within a child -/
def inK' (k : Nat) (w : Wy) : Wy := w.map fun x => (k :: x.1, x.2)
theorem Der.zero {R : List (T1 × T1)} : ∀ {u v : T1} {n : Nat}, Der R u v n → n = 0 → u = v := by
  intro u v n h
  suffices (∀ {u v : T1} {n : Nat}, Der R u v n → n = 0 → u = v) ∧ (∀ {ts us : List T1} {n : Nat}, DerL R ts us n → n = 0 → ts = us) from this.1 h
  clear h
  refine ⟨?_, ?_⟩
  · intro u v n h
    exact Der.rec (motive_1 := fun u v n _ => n = 0 → u = v) (motive_2 := fun ts us n _ => n = 0 → ts = us) (fun u _ => rfl) (fun h ih e => by rw [ih e]) (fun hr h1 h2 _ _ e => by omega) (fun _ => rfl) (fun h1 h2 i1 i2 e => by rw [i1 (by omega), i2 (by omega)]) h
  · intro ts us n h
    exact DerL.rec (motive_1 := fun u v n _ => n = 0 → u = v) (motive_2 := fun ts us n _ => n = 0 → ts = us) (fun u _ => rfl) (fun h ih e => by rw [ih e]) (fun hr h1 h2 _ _ e => by omega) (fun _ => rfl) (fun h1 h2 i1 i2 e => by rw [i1 (by omega), i2 (by omega)]) h
/-- what a way is a derivation of -/
theorem Way.der {R : List (T1 × T1)} : ∀ {u v : T1} {w : Wy}, Way R u v w → Der R u v w.length
  | _, _, _, .nil u => .refl u
  | _, _, _, .cons h1 h2 h3 => ((step_der (List.mem_of_getElem? h1) h2).comp _ _ h3.der).zero_of (by rw [List.length_cons]; omega)
/-! pairs of two lists -/
def pairsAB (A B : List T1) : List (T1 × T1) := A.flatMap fun u => B.map fun v => (u, v)
theorem mem_pairsAB {A B : List T1} {u v : T1} : (u, v) ∈ pairsAB A B ↔ u ∈ A ∧ v ∈ B := by
  unfold pairsAB
  rw [List.mem_flatMap]
  constructor
  · rintro ⟨a, h1, h2⟩
    obtain ⟨b, h3, h4⟩ := List.mem_map.mp h2
    cases h4
    exact ⟨h1, h3⟩
  · rintro ⟨h1, h2⟩
    exact ⟨u, h1, List.mem_map.mpr ⟨v, h2, rfl⟩⟩
theorem pairsAB_len (A B : List T1) : (pairsAB A B).length = A.length * B.length := by
  unfold pairsAB
  induction A with
  | nil => simp
  | cons a r ih => rw [List.flatMap_cons, List.length_append, ih, List.length_map, List.length_cons, Nat.succ_mul]; omega
/-- sides that a way's search comes to -/
structure AB (R : List (T1 × T1)) (P A B : List T1) : Prop where
  a1 : ∀ t ∈ A, t ∈ P
  b1 : ∀ t ∈ B, t ∈ P
  ka : ∀ s ts, T1.mk s ts ∈ A → ∀ t ∈ ts, t ∈ A
  kb : ∀ s ts, T1.mk s ts ∈ B → ∀ t ∈ ts, t ∈ B
  ra : ∀ l r, (l, r) ∈ R → r ∈ A
  lb : ∀ l r, (l, r) ∈ R → l ∈ B
/-- sums by children for like pairs, by a rule -/
def kidO (D : DL) (u v : T1) : Option Nat := match lik u v with
  | true => sumO D u v
  | false => .none
def ruO (D : DL) (u v l r : T1) : Option Nat := match lk (u, l) D, lk (r, v) D with
  | some a, some b => some (a + 1 + b)
  | _, _ => .none
/-! the law's own table of least numbers -/
def l_b1 : C := sFor (tTup 2 (tCons (tName 5) (tCons (tName 6) (tNil)))) (iVal (eVar 3)) (cSeq (sAsg (tName 9) (eLc (cFor [15] (tName 15) (iZip (elCons (eSl (eVar 5) (eoSome (eC (.int 1))) (eoNone)) (elCons (eSl (eVar 6) (eoSome (eC (.int 1))) (eoNone)) (elNil)))) (cElt (eBm .dct mGet (eVar 7) (elCons (eVar 15) (elNil))))))) (cSeq (sIf (eOp oNotIn (eC .none) (eVar 9)) (cSeq (sExpr (eBm .lst mAppend (eVar 8) (elCons (eTup (elCons (eVar 5) (elCons (eVar 6) (elCons (eB bSum (elCons (eVar 9) (elNil))) (elNil))))) (elNil)))) (cNil)) (cNil)) (cNil)))
def l_b2i : C := sFor (tName 5) (iVal (eVar 2)) (cSeq (sIf (eOp oInK (eTup (elCons (eVar 5) (elCons (eVar 10) (elNil)))) (eVar 7)) (cSeq (sAsg (tName 13) (eOp oAdd (eOp oIxK (eVar 7) (eTup (elCons (eVar 5) (elCons (eVar 10) (elNil))))) (eC (.int 1)))) (cSeq (sAsg (tName 8) (eOp oAdd (eVar 8) (eLc (cFor [6] (tName 6) (iVal (eVar 12)) (cElt (eTup (elCons (eVar 5) (elCons (eVar 6) (elCons (eOp oAdd (eVar 13) (eOp oIxK (eVar 7) (eTup (elCons (eVar 11) (elCons (eVar 6) (elNil)))))) (elNil)))))))))) (cNil))) (cNil)) (cNil))
def l_b2 : C := sFor (tTup 2 (tCons (tName 10) (tCons (tName 11) (tNil)))) (iVal (eVar 0)) (cSeq (sAsg (tName 12) (eLc (cFor [6] (tName 6) (iVal (eVar 2)) (cIf (eOp oInK (eTup (elCons (eVar 11) (elCons (eVar 6) (elNil)))) (eVar 7)) (cElt (eVar 6)))))) (cSeq l_b2i (cNil)))
def l_b3 : C := sFor (tTup 3 (tCons (tName 5) (tCons (tName 6) (tCons (tName 14) (tNil))))) (iVal (eVar 8)) (cSeq (sIf (eOr (eOp oNotInK (eTup (elCons (eVar 5) (elCons (eVar 6) (elNil)))) (eVar 7)) (eOp oLt (eVar 14) (eOp oIxK (eVar 7) (eTup (elCons (eVar 5) (elCons (eVar 6) (elNil))))))) (cSeq (sAsg (tSubK (eVar 7) (eTup (elCons (eVar 5) (elCons (eVar 6) (elNil))))) (eVar 14)) (cSeq (sAsg (tName 4) (eC (.bool true))) (cNil))) (cNil)) (cNil))
def l_body : C := cSeq (sPar [4, 8] (elCons (eC (.bool false)) (elCons (eLst (elNil)) (elNil)))) (cSeq l_b1 (cSeq l_b2 (cSeq l_b3 (cNil))))
def c_lleast (kt : Nat) : C := cSeq (sPar [2, 3, 4] (elCons (eCall kt (elCons (eVar 0) (elCons (eVar 1) (elNil)))) (elCons (eLst (elNil)) (elCons (eC (.bool true)) (elNil))))) (cSeq (sFor (tName 5) (iVal (eVar 2)) (cSeq (sAsg (tName 3) (eOp oAdd (eVar 3) (eLc (cFor [6] (tName 6) (iVal (eVar 2)) (cIf (eAnd (eOp oEq (eOp oIx (eVar 5) (eC (.int 0))) (eOp oIx (eVar 6) (eC (.int 0)))) (eOp oEq (eB bLen (elCons (eVar 5) (elNil))) (eB bLen (elCons (eVar 6) (elNil))))) (cElt (eTup (elCons (eVar 5) (elCons (eVar 6) (elNil)))))))))) (cNil))) (cSeq (sAsg (tName 7) (eB bDictT (elCons (eLc (cFor [5] (tName 5) (iVal (eVar 2)) (cElt (eTup (elCons (eTup (elCons (eVar 5) (elCons (eVar 5) (elNil)))) (elCons (eC (.int 0)) (elNil))))))) (elNil)))) (cSeq (sWhile (eVar 4) l_body) (cSeq (sRet (eVar 7)) (cNil)))))
/-- the table at dn and what is asked beside it -/
structure LtAt (S : Store) (lr ls ll dn : Nat) (R : List (T1 × T1)) (P : List T1) (D : DL) : Prop where
  gr : S.get lr = some (.lst (R.map rlV))
  gs : S.get ls = some (.lst (P.map tv))
  gl : S.get ll = some (.lst ((likeP P).map rlV))
  gd : S.get dn = some (.dct (dV D))
  n1 : lr < S.nx
  n2 : ls < S.nx
  n3 : ll < S.nx
  n4 : dn < S.nx
section
variable {S S' : Store} {lr ls ll dn : Nat} {R : List (T1 × T1)} {P : List T1} {D D' : DL}
theorem LtAt.keep (h : LtAt S lr ls ll dn R P D) (k : Kp [] S S') : LtAt S' lr ls ll dn R P D :=
  have := k.nx
  ⟨(k.get lr h.n1 (by simp)).trans h.gr, (k.get ls h.n2 (by simp)).trans h.gs, (k.get ll h.n3 (by simp)).trans h.gl, (k.get dn h.n4 (by simp)).trans h.gd, Nat.lt_of_lt_of_le h.n1 this, Nat.lt_of_lt_of_le h.n2 this, Nat.lt_of_lt_of_le h.n3 this, Nat.lt_of_lt_of_le h.n4 this⟩
theorem LtAt.put (h : LtAt S lr ls ll dn R P D) : LtAt (S.put dn (.dct (dV D'))) lr ls ll dn R P D' := by
  have g := h.gd
  have m1 : lr ≠ dn := fun e => by rw [← e, h.gr] at g; cases g
  have m2 : ls ≠ dn := fun e => by rw [← e, h.gs] at g; cases g
  have m3 : ll ≠ dn := fun e => by rw [← e, h.gl] at g; cases g
  exact ⟨by rw [Store.put_get, if_neg m1]; exact h.gr, by rw [Store.put_get, if_neg m2]; exact h.gs, by rw [Store.put_get, if_neg m3]; exact h.gl, by rw [Store.put_get, if_pos rfl], h.n1, h.n2, h.n3, h.n4⟩
end
section
variable {o : Orc} {S : Store} {lr ls ll dn : Nat} {R : List (T1 × T1)} {P : List T1} {D : DL} {N B : Env → Store → Prop} {V : Val → Store → Prop} {E : EP'}
end
/-! the law's own table: sums of rules, lowering -/
section
variable {o : Orc} {S : Store} {lr ls ll dn : Nat} {R : List (T1 × T1)} {P : List T1} {D : DL} {N B : Env → Store → Prop} {V : Val → Store → Prop} {E : EP'}
end
/-! the law's own table, whole -/
section
variable {tb : Tb} {kz ko kp kt kl : Nat} {n : Nat} {R : List (T1 × T1)} {ts : List T1} {S : Store} {X : XP} {Q : Val → Store → Prop} {l l2 : Nat}
end
/-! places, steps, drawn ways -/
def c_llevels (kl : Nat) : C := cSeq (sRet (eOp oAdd (eC (.int 1)) (eB bMax (elCons (eOp oAdd (eLst (elCons (eC (.int 0)) (elNil))) (eLc (cFor [1] (tName 1) (iVal (eSl (eVar 0) (eoSome (eC (.int 1))) (eoNone))) (cElt (eCall kl (elCons (eVar 1) (elNil))))))) (elNil))))) (cNil)
def c_lplaces (kp : Nat) : C := cSeq (sAsg (tName 1) (eLst (elCons (eTup (elCons (eTup (elNil)) (elCons (eVar 0) (elNil)))) (elNil)))) (cSeq (sFor (tTup 2 (tCons (tName 2) (tCons (tName 3) (tNil)))) (iEnum (eSl (eVar 0) (eoSome (eC (.int 1))) (eoNone))) (cSeq (sAsg (tName 1) (eOp oAdd (eVar 1) (eLc (cFor [4, 5] (tTup 2 (tCons (tName 4) (tCons (tName 5) (tNil)))) (iVal (eCall kp (elCons (eVar 3) (elNil)))) (cElt (eTup (elCons (eOp oAdd (eTup (elCons (eVar 2) (elNil))) (eVar 4)) (elCons (eVar 5) (elNil))))))))) (cNil))) (cSeq (sRet (eVar 1)) (cNil)))
def c_lput (ku : Nat) : C := cSeq (sIf (eOp oEq (eVar 1) (eTup (elNil))) (cSeq (sRet (eVar 2)) (cNil)) (cNil)) (cSeq (sAsg (tName 3) (eOp oAdd (eOp oIx (eVar 1) (eC (.int 0))) (eC (.int 1)))) (cSeq (sRet (eOp oAdd (eOp oAdd (eSl (eVar 0) (eoNone) (eoSome (eVar 3))) (eTup (elCons (eCall ku (elCons (eOp oIx (eVar 0) (eVar 3)) (elCons (eSl (eVar 1) (eoSome (eC (.int 1))) (eoNone)) (elCons (eVar 2) (elNil))))) (elNil)))) (eSl (eVar 0) (eoSome (eOp oAdd (eVar 3) (eC (.int 1)))) (eoNone)))) (cNil)))
def c_lsteps (kp ku : Nat) : C := cSeq (sAsg (tName 2) (eLst (elNil))) (cSeq (sFor (tTup 2 (tCons (tName 3) (tCons (tName 4) (tNil)))) (iVal (eCall kp (elCons (eVar 1) (elNil)))) (cSeq (sFor (tTup 2 (tCons (tName 5) (tCons (tName 6) (tNil)))) (iEnum (eVar 0)) (cSeq (sIf (eOp oEq (eOp oIx (eVar 6) (eC (.int 0))) (eVar 4)) (cSeq (sExpr (eBm .lst mAppend (eVar 2) (elCons (eTup (elCons (eVar 3) (elCons (eVar 5) (elCons (eCall ku (elCons (eVar 1) (elCons (eVar 3) (elCons (eOp oIx (eVar 6) (eC (.int 1))) (elNil))))) (elNil))))) (elNil)))) (cNil)) (cNil)) (cNil))) (cNil))) (cSeq (sRet (eVar 2)) (cNil)))
def pcV (p : List Nat) : Val := .tup (p.map fun k => Val.int (k : Nat))
def plV (q : List Nat × T1) : Val := .tup [pcV q.1, tv q.2]
theorem placesL_app : ∀ (a b : List T1) (k : Nat), placesL k (a ++ b) = placesL k a ++ placesL (k + a.length) b
  | [], b, k => rfl
  | t :: r, b, k => by
    rw [List.cons_append, placesL, placesL, placesL_app r b (k + 1), List.append_assoc, List.length_cons, show k + 1 + r.length = k + (r.length + 1) by omega]
section
variable {tb : Tb} {kl kp ku ks : Nat}
theorem lplaces_ok (hp : tb.fn kp = ⟨1, 6, c_lplaces kp⟩) : ∀ (n : Nat) (t : T1) (S : Store) (X : XP) (Q : Val → Store → Prop), lv t ≤ n → lv t ≤ 1000 → sz t ≤ 1000000 → (∀ r S', Kp [] S S' → S'.get r = some (.lst ((places t).map plV)) → S.nx ≤ r → r < S'.nx → Q (.ref r) S') → (callN tb n kp [tv t] S).wp X Q
  | 0, .mk s ts, S, X, Q, h, _, _, _ => by rw [lv] at h; omega
  | n + 1, .mk s ts, S, X, Q, h, hlv, h2, q => by
    have ih := lplaces_ok hp n
    have hsz := h2
    rw [lv] at h hlv
    rw [sz] at h2
    refine wp_call ?_
    rw [hp]
    refine wp_run rfl ?_
    have e0 : Val.tup (.str s :: tvs ts) = tv (.mk s ts) := by rw [tv]
    show SR.wp (c_lplaces kp (orcN tb n) [some (.tup (.str s :: tvs ts)), .none, .none, .none, .none, .none] S) _ _ _ _
    unfold c_lplaces
    have hmx : maxLen = 16777216 := rfl
    have hfu : fuel = 1000000000 := rfl
    have := len_szs ts
    array_get_dec
    refine wpR_sFor ?_
    array_get_dec
    rw [slc_tail]
    refine ⟨enumV 0 (tvs ts), fun _ => True, fun r ρ S' => ∃ (done us : List T1) (lf : Nat) (v2 v3 : Option Val), ts = done ++ us ∧ r = enumV (done.length : Nat) (tvs us) ∧ ρ = [some (.tup (.str s :: tvs ts)), some (.ref lf), v2, v3, .none, .none] ∧ S'.get lf = some (.lst ((([], .mk s ts) :: placesL 0 done).map plV)) ∧ Kp [] S S' ∧ S.nx ≤ lf ∧ lf < S'.nx, Fd.enum (Fd.vals _), by rw [enumV_len, tvs_map, List.length_map]; omega, ⟨[], ts, S.nx, _, _, rfl, rfl, rfl, ?_, Kp.rfl'.new, Nat.le_refl _, Nat.lt_succ_self _⟩, fun _ _ _ _ => trivial, ?_, ?_⟩
    · show (S.new (.lst [.tup [.tup [], .tup (.str s :: tvs ts)]])).get S.nx = _
      rw [e0]
      exact new_at _ _
    · rintro v r ρ S1 ⟨done, us, lf, v2, v3, hd, hr, rfl, g1, k1, n1, n2⟩
      cases us with
      | nil => cases hr
      | cons u us =>
        rw [tvs, enumV_cons] at hr
        obtain ⟨rfl, rfl⟩ := List.cons.inj hr
        have hu : u ∈ ts := by rw [hd]; simp
        have l1 := lv_mem hu
        have l2 := sz_mem hu
        have hdl : szs done + (sz u + szs us) = szs ts := by
          rw [hd]
          have : ∀ a b : List T1, szs (a ++ b) = szs a + szs b := by
            intro a b
            induction a with
            | nil => rw [szs, List.nil_append]; omega
            | cons x r ih => rw [List.cons_append, szs, szs, ih]; omega
          rw [this, szs]
        have hpl := places_len u
        have hpd := placesL_len done 0
        array_get_dec
        refine wp_lcMap (α := List Nat × T1) ?_
        array_get_dec
        refine ih u S1 _ _ (by omega) (by omega) (by omega) fun r1 S2 k2 g2 c1 c2 => ?_
        array_get_dec
        refine ⟨.lst r1 0, toIt_lst g2, places u, plV, fun q => plV (done.length :: q.1, q.2), fun S' => S2 = S', Fd.lst (fun S' e => by rw [← e]; exact g2), by omega, rfl, ?_, ?_⟩
        · rintro ⟨p, x⟩ hpx _ rfl
          have hpx2 := partAt_lv (places_at hpx)
          unfold plV pcV
          array_get_dec
          refine wp_of_eq (oAdd_tup (by simp; omega)) ?_
          array_get_dec
          rfl
        · rintro _ rfl
          have g1' : S2.get lf = some (.lst ((([], .mk s ts) :: placesL 0 done).map plV)) := (k2.get lf n2 (by simp)).trans g1
          have emap : ((places u).map fun q => plV (done.length :: q.1, q.2)) = ((places u).map fun q => (done.length :: q.1, q.2)).map plV := by rw [List.map_map]; rfl
          rw [emap]
          array_get_dec
          have n2' := k2.nx
          refine wp_of_eq (oAdd_lst (xs := (([], .mk s ts) :: placesL 0 done).map plV) (ys := ((places u).map fun q => (done.length :: q.1, q.2)).map plV) (by sizeOf_list_dec) (new_at _ _) (Nat.ble_eq_true_of_le (by rw [List.length_map, List.length_map, List.length_map, List.length_cons]; omega))) ?_
          array_get_dec
          have nS := k1.nx
          refine ⟨done ++ [u], us, _, _, _, by rw [hd]; simp, by rw [List.length_append]; rfl, rfl, ?_, ((k1.trans k2).new).new, ?_, Nat.lt_succ_self _⟩
          · rw [placesL_app, placesL, placesL, List.append_nil, Nat.zero_add, ← List.map_append, List.cons_append]
            exact new_at _ _
          · show S.nx ≤ S2.nx + 1; omega
    · rintro ρ S1 ⟨done, us, lf, v2, v3, hd, hr, rfl, g1, k1, n1, n2⟩
      cases us with
      | cons u us => cases hr
      | nil =>
        rw [List.append_nil] at hd
        array_get_dec
        refine q lf S1 k1 ?_ n1 n2
        rw [places, hd]
        rw [hd] at g1
        exact g1
theorem oIx_tup {o : Orc} {S : Store} {j : Nat} {vs : List Val} {v : Val} (hj : vs[j]? = some v) : oIx o (.tup vs) (.int (j : Nat)) S = .ok v S := by
  show ofOpt (getI vs (.ofNat j)) S 50 = _
  have hlt : j < vs.length := (List.getElem?_eq_some_iff.mp hj).1
  have e : getI vs (.ofNat j) = some v := by
    show (match (match Nat.blt j vs.length with | true => some j | false => .none) with | some k => vs[k]? | .none => .none) = _
    rw [show Nat.blt j vs.length = true by rw [Nat.blt_eq]; exact hlt]
    exact hj
  rw [e]; rfl
theorem pur_pc (p : List Nat) : pur 20 (pcV p) = true := by
  show (p.map fun k => Val.int (k : Nat)).all (pur 19) = true
  exact List.all_eq_true.mpr fun x hx => by
    obtain ⟨k, _, rfl⟩ := List.mem_map.mp hx
    rfl
theorem oEq_pc0 {o : Orc} {S : Store} (k : Nat) (p : List Nat) : oEq o (pcV (k :: p)) (.tup []) S = .ok (.bool false) S := by
  show ofB (match pur 20 (pcV (k :: p)) && pur 20 (.tup []) with | true => some (eqQ (pcV (k :: p)) (.tup [])) | false => eqSo S (pcV (k :: p)) (.tup [])) S 31 = _
  rw [pur_pc]
  have h := eqQ_eq nilS (x := pcV (k :: p)) (y := .tup []) (pur_pc _) rfl
  have e : eqF nilS 60 (pcV (k :: p)) (.tup []) = some false := rfl
  rw [e] at h
  show ofB (some (eqQ (pcV (k :: p)) (.tup []))) S 31 = _
  rw [← h]; rfl
theorem slc_post {α : Type} (xs : List α) (k : Nat) : slc xs (some (k : Nat)) .none = xs.drop k := by
  show (xs.take xs.length).drop (min k xs.length) = xs.drop k
  rw [List.take_length]
  rcases Nat.le_total k xs.length with h | h
  · rw [Nat.min_eq_left h]
  · rw [Nat.min_eq_right h, List.drop_length, List.drop_of_length_le h]
end
/-! Table.way -/
section
variable {tb : Tb} {ks kby kch kw : Nat} {n : Nat} {a lu ls ll ld : Nat} {R : List (T1 × T1)} {P : List T1} {D : DL} {S : Store} {X : XP} {Q : Val → Store → Prop}
end
/-! Table.way tells a way with the least number of steps -/
mutual
/-- the way that Table.way tells -/
inductive WIs (R : List (T1 × T1)) (D : DL) : T1 → T1 → Wy → Prop
  | zero {u v : T1} : lk (u, v) D = some 0 → WIs R D u v []
  | kids {s : List Nat} {ts us : List T1} {n : Nat} {w : Wy} : lk (.mk s ts, .mk s us) D = some n → ¬ n = 0 → kidO D (.mk s ts) (.mk s us) = some n → WKs R D ts us w → WIs R D (.mk s ts) (.mk s us) w
  | rule {u v l r : T1} {n i : Nat} {w1 w2 : Wy} : lk (u, v) D = some n → ¬ n = 0 → ¬ kidO D u v = some n → R[i]? = some (l, r) → ruO D u v l r = some n → (∀ (j : Nat) p, j < i → R[j]? = some p → ¬ ruO D u v p.1 p.2 = some n) → WIs R D u l w1 → WIs R D r v w2 → WIs R D u v (w1 ++ ([], i) :: w2)
inductive WKs (R : List (T1 × T1)) (D : DL) : List T1 → List T1 → Wy → Prop
  | nil : WKs R D [] [] []
  | snoc {td ud : List T1} {t u : T1} {w w3 : Wy} : td.length = ud.length → WKs R D td ud w → WIs R D t u w3 → WKs R D (td ++ [t]) (ud ++ [u]) (w ++ inK' td.length w3)
end
theorem WKs.none {R : List (T1 × T1)} {D : DL} {ts us : List T1} {w : Wy} (h : WKs R D ts us w) (e : ts = []) : w = [] := by
  cases h with
  | nil => rfl
  | snoc _ _ _ => exact absurd (congrArg List.length e) (by simp)
mutual
theorem WIs.uniq {R : List (T1 × T1)} {D : DL} : ∀ {u v : T1} {w w' : Wy}, WIs R D u v w → WIs R D u v w' → w = w'
  | _, _, _, _, .zero h, k => by
    cases k with
    | zero _ => rfl
    | kids h1 h2 _ _ => rw [h] at h1; cases h1; exact absurd rfl h2
    | rule h1 h2 _ _ _ _ _ _ => rw [h] at h1; cases h1; exact absurd rfl h2
  | _, _, _, _, .kids g1 g2 g3 g4, k => by
    cases k with
    | zero h => rw [h] at g1; cases g1; exact absurd rfl g2
    | kids h1 h2 _ h4 => exact g4.uniq h4
    | rule h1 h2 h3 _ _ _ _ _ => rw [h1] at g1; cases g1; exact absurd g3 h3
  | _, _, _, _, .rule (i := i) g1 g2 g3 g4 g5 g6 g7 g8, k => by
    cases k with
    | zero h => rw [h] at g1; cases g1; exact absurd rfl g2
    | kids h1 h2 h3 _ => rw [h1] at g1; cases g1; exact absurd h3 g3
    | rule h1 h2 h3 h4 h5 h6 h7 h8 =>
      rename_i l' r' n' i' w1' w2'
      rw [h1] at g1
      cases g1
      have e : i = i' := by
        rcases Nat.lt_trichotomy i i' with c | c | c
        · exact absurd g5 (h6 i _ c g4)
        · exact c
        · exact absurd h5 (g6 i' _ c h4)
      subst e
      rw [h4] at g4
      cases g4
      rw [g7.uniq h7, g8.uniq h8]
theorem WKs.uniq {R : List (T1 × T1)} {D : DL} : ∀ {ts us : List T1} {w w' : Wy}, WKs R D ts us w → WKs R D ts us w' → w = w'
  | _, _, _, _, .nil, k => (k.none rfl).symm
  | _, _, _, _, .snoc (td := td) (ud := ud) (t := t) (u := u) g1 g2 g3, k => by
    generalize ht : td ++ [t] = ts at k
    generalize hu : ud ++ [u] = us at k
    cases k with
    | nil => exact absurd (congrArg List.length ht) (by simp)
    | snoc h1 h2 h3 =>
      obtain ⟨e1, e2⟩ := List.append_inj' ht rfl
      obtain ⟨e3, e4⟩ := List.append_inj' hu rfl
      cases e2; cases e4; subst e1; subst e3
      rw [g2.uniq h2, g3.uniq h3]
end
/-- no tree along a way has more levels -/
def AlongL (R : List (T1 × T1)) (m : Nat) : T1 → Wy → Prop
  | u, [] => lv u ≤ m
  | u, (p, i) :: w => lv u ≤ m ∧ ∀ l r, R[i]? = some (l, r) → AlongL R m (putT p u r) w
theorem AlongL.mono {R : List (T1 × T1)} {m k : Nat} (hk : m ≤ k) : ∀ {w : Wy} {u : T1}, AlongL R m u w → AlongL R k u w
  | [], _, h => Nat.le_trans h hk
  | (_, _) :: _, _, h => ⟨Nat.le_trans h.1 hk, fun l r e => (h.2 l r e).mono hk⟩
theorem AlongL.app {R : List (T1 × T1)} {m : Nat} : ∀ {u v : T1} {w z : Wy}, Way R u v w → AlongL R m u w → AlongL R m v z → AlongL R m u (w ++ z)
  | _, _, _, _, .nil _, _, k => k
  | u, _, _, z, .cons (l := l) (r := r) (p := p) (i := i) (w := w) h1 h2 h3, h, k => by
    show lv u ≤ m ∧ ∀ l r, R[i]? = some (l, r) → AlongL R m (putT p u r) (w ++ z)
    refine ⟨h.1, fun l' r' e => ?_⟩
    rw [h1] at e
    cases e
    exact AlongL.app h3 (h.2 l r h1) k
section
variable {tb : Tb} {ks kby kch kw : Nat} {a lu ls ll ld : Nat} {R : List (T1 × T1)} {P A B : List T1} {D : DL}
end
/-! becomes -/
/-- the parts that a way's search comes to -/
def sideA (R : List (T1 × T1)) (t : T1) : List T1 := subs t ++ R.flatMap fun p => subs p.2
def sideB (R : List (T1 × T1)) (u : T1) : List T1 := subs u ++ R.flatMap fun p => subs p.1
theorem ab_ok (R : List (T1 × T1)) (t u : T1) : AB R (told R [t, u]) (sideA R t) (sideB R u) := by
  have mA : ∀ y, y ∈ sideA R t ↔ y ∈ subs t ∨ ∃ p ∈ R, y ∈ subs p.2 := fun y => by unfold sideA; rw [List.mem_append, List.mem_flatMap]
  have mB : ∀ y, y ∈ sideB R u ↔ y ∈ subs u ∨ ∃ p ∈ R, y ∈ subs p.1 := fun y => by unfold sideB; rw [List.mem_append, List.mem_flatMap]
  refine ⟨fun y hy => ?_, fun y hy => ?_, fun s ts hy c hc => ?_, fun s ts hy c hc => ?_, fun l r h => ?_, fun l r h => ?_⟩
  · rcases (mA y).mp hy with h | ⟨p, h1, h2⟩
    · exact mem_told.mpr (.inr (mem_subsL.mpr ⟨t, by simp, h⟩))
    · exact mem_told.mpr (.inl (mem_subsR.mpr ⟨p, h1, .inr h2⟩))
  · rcases (mB y).mp hy with h | ⟨p, h1, h2⟩
    · exact mem_told.mpr (.inr (mem_subsL.mpr ⟨u, by simp, h⟩))
    · exact mem_told.mpr (.inl (mem_subsR.mpr ⟨p, h1, .inl h2⟩))
  · rcases (mA _).mp hy with h | ⟨p, h1, h2⟩
    · exact (mA c).mpr (.inl (subs_kid hc h))
    · exact (mA c).mpr (.inr ⟨p, h1, subs_kid hc h2⟩)
  · rcases (mB _).mp hy with h | ⟨p, h1, h2⟩
    · exact (mB c).mpr (.inl (subs_kid hc h))
    · exact (mB c).mpr (.inr ⟨p, h1, subs_kid hc h2⟩)
  · exact (mA r).mpr (.inr ⟨_, h, subs_self r⟩)
  · exact (mB l).mpr (.inr ⟨_, h, subs_self l⟩)
section
variable {tb : Tb} {kz ko kp k9 k19 ks klo kby kch klc klr kT kru kbc kw ktw kb2 cx' fx : Nat} {n : Nat} {R : List (T1 × T1)} {S : Store} {X : XP} {Q : Val → Store → Prop}
end
/-! part_at, put, put_by, stepped, after, is_way at places and ways that stand -/
def c_isnumber : C := cSeq (sRet (eAnd (eIsI (eVar 0) aInt) (eAnd (eNot (eIsI (eVar 0) aBool)) (eChain oLe oLt (eC (.int 0)) (eVar 0) (eVar 1))))) (cNil)
def c_llen : C := cSeq (sRet (eB bLen (elCons (eAttr (eVar 0) fKept) (elNil)))) (cNil)
section
variable {tb : Tb} {kn ka ku kb kst kaf kln kru : Nat}
end
/-! put_by, stepped, after, is_way along a way -/
section
variable {tb : Tb} {kn ka ku kb kst kaf kln kru kw : Nat} {R : List (T1 × T1)} {X : XP} {Q : Val → Store → Prop}
end
/-! rules turned about, more rules -/
def swR (p : T1 × T1) : T1 × T1 := (p.2, p.1)
theorem Der.mono {R M : List (T1 × T1)} (hs : ∀ x ∈ R, x ∈ M) : ∀ {u v : T1} {n : Nat}, Der R u v n → Der M u v n := by
  intro u v n h
  exact Der.rec (motive_1 := fun u v n _ => Der M u v n) (motive_2 := fun ts us n _ => DerL M ts us n) (fun u => .refl u) (fun h ih => .kids ih) (fun hr h1 h2 i1 i2 => .rule (hs _ hr) i1 i2) .nil (fun h1 h2 i1 i2 => .cons i1 i2) h
theorem Way.more {R M : List (T1 × T1)} : ∀ {u v : T1} {w : Wy}, Way R u v w → Way (R ++ M) u v w
  | _, _, _, .nil u => .nil u
  | _, _, _, .cons (i := i) h1 h2 h3 => .cons (by
      have := (List.getElem?_eq_some_iff.mp h1).1
      rw [List.getElem?_append_left this]; exact h1) h2 h3.more
/-- turned rules are rules -/
theorem RlOk.sw {p : T1 × T1} (h : RlOk p) : RlOk (swR p) := ⟨h.t2, h.t1, h.s2, h.s1, h.l2, h.l1, fun e => h.ne e.symm⟩
/-! drawn trees and lots without a name; a name around -/
/-- the six names at l -/
def NmP (p : List Nat → Bool) (S : Store) (l : Nat) : Prop := ∃ ss : List (List Nat), S.get l = some (.lst (ss.map Val.str)) ∧ ss.length = 6 ∧ ∀ s ∈ ss, okN s = true ∧ p s = true
theorem NmP.at_ {p : List Nat → Bool} {S : Store} {l j : Nat} (h : NmP p S l) (hj : j < 6) : ∃ (s : List Nat) (vs : List Val), S.get l = some (.lst vs) ∧ vs[j]? = some (.str s) ∧ okN s = true ∧ p s = true := by
  obtain ⟨ss, h1, h2, h3⟩ := h
  have hj' : j < ss.length := by omega
  exact ⟨ss[j], _, h1, by rw [List.getElem?_map, List.getElem?_eq_getElem hj']; rfl, h3 _ (List.getElem_mem hj')⟩
theorem NmP.drawn {p : List Nat → Bool} {S S' : Store} {l f : Nat} (h : NmP p S l) (d : Drawn f S S') (ne : l ≠ f) : NmP p S' l := let ⟨ss, h1, h2⟩ := h; ⟨ss, (d.get l ne).trans h1, h2⟩
theorem NmP.keep {p : List Nat → Bool} {S S' : Store} {l f : Nat} (h : NmP p S l) (k : Kp [f] S S') (hl : l < S.nx) (ne : l ≠ f) : NmP p S' l := let ⟨ss, h1, h2⟩ := h; ⟨ss, (k.get l hl (by simpa using ne)).trans h1, h2⟩
theorem NmP.nm6 {p : List Nat → Bool} {S : Store} {l : Nat} (h : NmP p S l) : Nm6 S l := let ⟨ss, h1, h2, h3⟩ := h; ⟨ss, h1, h2, fun s hs => (h3 s hs).1⟩
section
variable {tb : Tb} {kt kg : Nat} {f nm : Nat} {X : XP} {p : List Nat → Bool}
end
section
variable {tb : Tb} {kt kp kg kr klr kll kz : Nat} {f nm : Nat} {n : Nat} {S : Store} {X : XP} {Q : Val → Store → Prop} {p0 : List Nat → Bool}
end
/-! ### a name around -/
/-! the law k26: drawn rules with their sizes, told parts counted, Lot.turned, Lot.__add__ -/
section
variable {tb : Tb} {kr klr kz : Nat} {f nm : Nat} {n : Nat} {S : Store} {X : XP} {Q : Val → Store → Prop} {p0 : List Nat → Bool}
end
/-! ### how many parts there are -/
theorem szR_each {m : Nat} : ∀ {R : List (T1 × T1)}, (∀ p ∈ R, sz p.1 ≤ m ∧ sz p.2 ≤ m) → szR R ≤ R.length * (2 * m)
  | [], _ => Nat.zero_le _
  | p :: r, h => by
    have h1 := h p List.mem_cons_self
    have h2 := szR_each fun q hq => h q (List.mem_cons_of_mem _ hq)
    rw [szR, List.length_cons, Nat.succ_mul]
    omega
/-! rules that can be spared: the plain law -/
theorem Der.subst {R F : List (T1 × T1)} (hs : ∀ p ∈ R, ∃ n, Der F p.1 p.2 n) : ∀ {u v : T1} {n : Nat}, Der R u v n → ∃ m, Der F u v m := by
  intro u v n h
  refine Der.rec (motive_1 := fun u v n _ => ∃ m, Der F u v m) (motive_2 := fun ts us n _ => ∃ m, DerL F ts us m) (fun u => ⟨0, .refl u⟩) (fun h ⟨m, hm⟩ => ⟨m, .kids hm⟩) (fun hr h1 h2 ⟨a, ha⟩ ⟨b, hb⟩ => ?_) ⟨0, .nil⟩ (fun h1 h2 ⟨a, ha⟩ ⟨b, hb⟩ => ⟨a + b, .cons ha hb⟩) h
  obtain ⟨c, hc⟩ := hs _ hr
  exact ⟨_, (ha.comp _ _ hc).comp _ _ hb⟩
noncomputable def canB (R : List (T1 × T1)) (p : T1 × T1) : Bool := @decide (∃ n, Der R p.1 p.2 n) (Classical.propDecidable _)
theorem canB_iff {R : List (T1 × T1)} {p : T1 × T1} : canB R p = true ↔ ∃ n, Der R p.1 p.2 n := by unfold canB; exact @decide_eq_true_iff _ (Classical.propDecidable _)
theorem szR_sub {A B : List (T1 × T1)} (h : A.Sublist B) : szR A ≤ szR B := by
  induction h with
  | slnil => exact Nat.le_refl _
  | cons a h ih => rw [szR]; omega
  | cons_cons a h ih => rw [szR, szR]; omega
/-! Lot.turned, Lot.__add__, a list backwards -/
/-- what a new lot needs -/
structure MkLot (tb : Tb) (kz ko kp k9 kn kt kl kr kL : Nat) : Prop where
  hz : tb.fn kz = ⟨1, 2, c_size kz⟩
  ho : tb.fn ko = ⟨1, 5, c_ordered kz⟩
  hp : tb.fn kp = ⟨1, 3, c_parts ko kp⟩
  h9 : tb.fn k9 = ⟨1, 4, c_partsof ko kp⟩
  hn : tb.fn kn = ⟨1, 2, c_isname⟩
  ht : tb.fn kt = ⟨1, 2, c_istree kn kt⟩
  hl : tb.fn kl = ⟨1, 2, c_levels kl⟩
  hr : tb.fn kr = ⟨1, 1, c_isrule kt kz kl⟩
  hL : tb.fn kL = ⟨2, 4, c_lot kr k9⟩
  fk : tb.fld cLot fKept = true
section
variable {tb : Tb} {kz ko kp k9 kn kt kl kr kL ktu kad : Nat} {n : Nat} {R : List (T1 × T1)} {S : Store} {X : XP} {Q : Val → Store → Prop}
end
/-! without, trimmed -/
section
variable {α : Type} {X : XP} {o : Orc} {ρ : Env} {S : Store}
end
/-- a lot that may be made -/
structure LtR (R : List (T1 × T1)) : Prop where
  w : RsW R
  p24 : (ordT (subsR R)).length ≤ 24
  nd : R.Nodup
/-- the functions of lots and tables -/
structure FL (tb : Tb) (kz ko kp k9 k19 ks klo kby kch klc klr kT kn kt kl kr kL kru kln kls kwo knu xNR fNR : Nat) : Prop where
  T : TbOk tb kz ko kp k9 k19 ks klo kby kch klc klr kT
  M : MkLot tb kz ko kp k9 kn kt kl kr kL
  hru : tb.fn kru = ⟨1, 1, c_rules⟩
  mru : tb.meth cLot mRules = some kru
  hln : tb.fn kln = ⟨1, 1, c_llen⟩
  mln : tb.meth cLot 2 = some kln
  hnu : tb.fn knu = ⟨2, 2, c_isnumber⟩
theorem RlOk.tr1 {p : T1 × T1} (h : RlOk p) : TrOk p.1 ∧ TrOk p.2 := ⟨⟨h.t1, by have := h.l1; omega, by have := h.s1; omega⟩, ⟨h.t2, by have := h.l2; omega, by have := h.s2; omega⟩⟩
section
variable {tb : Tb} {kz ko kp k9 k19 ks klo kby kch klc klr kT kn kt kl kr kL kru kln kls kwo knu xNR fNR ktr : Nat} {n : Nat} {R : List (T1 × T1)} {S : Store} {X : XP} {Q : Val → Store → Prop}
theorem twoW {R : List (T1 × T1)} (hR : RsW R) {t u : T1} (ht : TrOk t) (hu : TrOk u) : TCx R (told R [t, u]) ∧ (∀ y ∈ told R [t, u], TrOk y) ∧ t ∈ told R [t, u] ∧ u ∈ told R [t, u] := by
  obtain ⟨h1, h2⟩ := told_cxW hR (ts := [t, u]) (fun x hx => by
    rcases List.mem_cons.mp hx with e | e
    · rw [e]; exact ht
    · rw [List.mem_singleton] at e; rw [e]; exact hu) (by simp)
  exact ⟨h1, h2, mem_told.mpr (.inr (mem_subsL.mpr ⟨t, by simp, subs_self t⟩)), mem_told.mpr (.inr (mem_subsL.mpr ⟨u, by simp, subs_self u⟩))⟩
theorem LtR.sub {A B : List (T1 × T1)} (h : LtR B) (s : A.Sublist B) : LtR A := by
  refine ⟨⟨fun p hp => h.w.each p (s.subset hp), by have := szR_sub s; have := h.w.sz; omega, by have := s.length_le; have := h.w.len; omega⟩, ?_, h.nd.sublist s⟩
  have := ordT_mono (ts := subsR A) (us := subsR B) fun y hy => by
    obtain ⟨p, h1, h2⟩ := mem_subsR.mp hy
    exact mem_subsR.mpr ⟨p, s.subset h1, h2⟩
  have := h.p24
  omega
end
/-! _law_trimmed, led_by, leads_same, spared -/
def d_led (kT : Nat) : C := cSeq (sAsg (tName 3) (eNew cTab kT (elCons (eMeth (eVar 0) mRules elNil) (elCons (eLst (elCons (eVar 1) (elCons (eVar 2) (elNil)))) (elNil))))) (cSeq (sIf (eMeth (eVar 3) mBec (elCons (eVar 1) (elCons (eVar 2) (elNil)))) (cSeq (sRet (eTup (elCons (eC (.str [121, 101, 115])) (elCons (eOp oIxK (eAttr (eVar 3) fLeast) (eTup (elCons (eVar 1) (elCons (eVar 2) (elNil))))) (elNil))))) (cNil)) (cNil)) (cSeq (sRet (eTup (elCons (eC (.str [110, 111])) (elCons (eB bListK (elCons (eAttr (eVar 3) fLeast) (elNil))) (elNil))))) (cNil)))
def d_rulesby (kld : Nat) : C := cSeq (sAsg (tName 2) (eLst (elNil))) (cSeq (sFor (tTup 2 (tCons (tName 3) (tCons (tTup 2 (tCons (tName 4) (tCons (tName 5) (tNil)))) (tNil)))) (iEnum (eMeth (eVar 0) mRules elNil)) (cSeq (sAsg (tTup 2 (tCons (tName 6) (tCons (tName 7) (tNil)))) (eCall kld (elCons (eVar 1) (elCons (eVar 4) (elCons (eVar 5) (elNil)))))) (cSeq (sIf (eOp oEq (eVar 6) (eC (.str [110, 111]))) (cSeq (sRet (eTup (elCons (eC (.str [110, 111])) (elCons (eTup (elCons (eVar 3) (elCons (eVar 7) (elNil)))) (elNil))))) (cNil)) (cNil)) (cSeq (sExpr (eBm .lst mAppend (eVar 2) (elCons (eVar 7) (elNil)))) (cNil))))) (cSeq (sRet (eTup (elCons (eC (.str [121, 101, 115])) (elCons (eVar 2) (elNil))))) (cNil)))
def d_leads (krb : Nat) : C := cSeq (sAsg (tName 2) (eLst (elCons (eCall krb (elCons (eVar 0) (elCons (eVar 1) (elNil)))) (elCons (eCall krb (elCons (eVar 1) (elCons (eVar 0) (elNil)))) (elNil))))) (cSeq (sFor (tTup 2 (tCons (tName 3) (tCons (tTup 2 (tCons (tName 4) (tCons (tName 5) (tNil)))) (tNil)))) (iEnum (eVar 2)) (cSeq (sIf (eOp oEq (eVar 4) (eC (.str [110, 111]))) (cSeq (sRet (eTup (elCons (eC (.str [110, 111])) (elCons (eOp oAdd (eTup (elCons (eVar 3) (elNil))) (eVar 5)) (elNil))))) (cNil)) (cNil)) (cNil))) (cSeq (sRet (eTup (elCons (eC (.str [121, 101, 115])) (elCons (eTup (elCons (eOp oIx (eOp oIx (eVar 2) (eC (.int 0))) (eC (.int 1))) (elCons (eOp oIx (eOp oIx (eVar 2) (eC (.int 1))) (eC (.int 1))) (elNil)))) (elNil))))) (cNil)))
section
variable {tb : Tb} {kz ko kp k9 k19 ks klo kby kch klc klr kT kn kt kl kr kL kru kln kls kwo knu xNR fNR ktr kbc klt kle kld krb ksm ksp lz lo lp lt : Nat} {n : Nat} {R O : List (T1 × T1)} {S : Store} {X : XP} {Q : Val → Store → Prop}
end
/-! leads_same, spared -/
noncomputable def lstN (R : List (T1 × T1)) (p : T1 × T1) : Nat := @dite _ (∃ n, Lst R p.1 p.2 n) (Classical.propDecidable _) (fun h => h.choose) fun _ => 0
theorem lstN_eq {R : List (T1 × T1)} {p : T1 × T1} {m : Nat} (h : Lst R p.1 p.2 m) : lstN R p = m := by
  unfold lstN
  rw [dif_pos ⟨m, h⟩]
  exact (⟨m, h⟩ : ∃ n, Lst R p.1 p.2 n).choose_spec.uniq h
noncomputable def lsV (O : List (T1 × T1)) (p : T1 × T1) : Val := .int (lstN O p : Nat)
section
variable {tb : Tb} {kz ko kp k9 k19 ks klo kby kch klc klr kT kn kt kl kr kL kru kln kls kwo knu xNR fNR ktr kbc klt kle kld krb ksm ksp : Nat} {n : Nat} {R O : List (T1 × T1)} {S : Store} {X : XP} {Q : Val → Store → Prop}
end
/-! steps, drawn ways -/
def c_lwander (kst kl kz kpk : Nat) : C := cSeq (sAsg (tName 4) (eLst (elNil))) (cSeq (sFor (tName 5) (iRange (elCons (eVar 3) (elNil))) (cSeq (sAsg (tName 6) (eLc (cFor [9] (tName 9) (iVal (eCall kst (elCons (eVar 1) (elCons (eVar 2) (elNil))))) (cIf (eOp oLt (eCall kl (elCons (eOp oIx (eVar 9) (eC (.int 2))) (elNil))) (eC (.int 7))) (cElt (eVar 9)))))) (cSeq (sIf (eAnd (eOp oNe (eVar 6) (eLst (elNil))) (eOp oLt (eCall kz (elCons (eVar 2) (elNil))) (eC (.int 30)))) (cSeq (sAsg (tTup 3 (tCons (tName 7) (tCons (tName 8) (tCons (tName 2) (tNil))))) (eCall kpk (elCons (eVar 0) (elCons (eVar 6) (elNil))))) (cSeq (sExpr (eBm .lst mAppend (eVar 4) (elCons (eTup (elCons (eVar 7) (elCons (eVar 8) (elNil)))) (elNil)))) (cNil))) (cNil)) (cNil)))) (cSeq (sRet (eLst (elCons (eVar 4) (elCons (eVar 2) (elNil))))) (cNil)))
section
variable {tb : Tb} {kl kp ku ks kz kt kpk kw : Nat} {n : Nat} {R : List (T1 × T1)} {S : Store} {X : XP} {Q : Val → Store → Prop}
/-- a tree that a drawn way leads to -/
structure Led (R : List (T1 × T1)) (t t' : T1) : Prop where
  ok : okT 4 t' = true
  lv : lv t' ≤ 6
  sz : sz t' ≤ 40
  der : ∃ n, Der R t t' n
end
/-! _law_few, _law_like -/
theorem setL_eq {S : Store} {n i : Nat} {xs : List Val} {v : Val} (h : S.get n = some (.lst xs)) (hi : i < xs.length) : setL (.ref n) (.int (i : Nat)) v S = .ok () (S.put n (.lst (xs.set i v))) := by
  have e1 : ixOf xs.length (i : Nat) = some i := by
    show (match Nat.blt i xs.length with | true => some i | false => .none) = _
    rw [show Nat.blt i xs.length = true by rw [Nat.blt_eq]; exact hi]
  show (match S.get n with | some (.lst xs) => (match ixOf xs.length (i : Nat) with | some k => R.ok () (S.put n (.lst (xs.set k v))) | .none => .stuck 84) | _ => .stuck 86) = _
  simp only [h, e1]
def d_few (kp klr : Nat) : C := cSeq (sAsg (tTup 2 (tCons (tName 2) (tCons (tName 3) (tNil)))) (eCall kp (elCons (eVar 0) (elCons (eLst (elCons (eTup (elCons (eC (.int 1)) (elCons (eC (.int 4)) (elNil)))) (elCons (eTup (elCons (eC (.int 2)) (elCons (eC (.int 2)) (elNil)))) (elCons (eTup (elCons (eC (.int 2)) (elCons (eC (.int 3)) (elNil)))) (elCons (eTup (elCons (eC (.int 3)) (elCons (eC (.int 2)) (elNil)))) (elCons (eTup (elCons (eC (.int 0)) (elCons (eC (.int 1)) (elNil)))) (elCons (eTup (elCons (eC (.int 2)) (elCons (eC (.int 4)) (elNil)))) (elNil)))))))) (elNil))))) (cSeq (sRet (eCall klr (elCons (eVar 0) (elCons (eVar 1) (elCons (eVar 2) (elCons (eVar 3) (elCons (eC (.bool false)) (elNil)))))))) (cNil))
structure FLk (tb : Tb) (kt kp kg kr klv kz kpl kpu kst klr kw kfw : Nat) : Prop where
  lt : tb.fn kt = ⟨2, 3, cTake⟩
  lp : tb.fn kp = ⟨2, 2, cPick kt⟩
  lg : tb.fn kg = ⟨4, 10, c_grow4 kt kp kg⟩
  lr : tb.fn kr = ⟨3, 3, c_tree kg⟩
  llv : tb.fn klv = ⟨1, 2, c_llevels klv⟩
  llz : tb.fn kz = ⟨1, 2, c_lsize kz⟩
  lpl : tb.fn kpl = ⟨1, 6, c_lplaces kpl⟩
  lpu : tb.fn kpu = ⟨3, 4, c_lput kpu⟩
  lst : tb.fn kst = ⟨2, 7, c_lsteps kpl kpu⟩
  lrs : tb.fn klr = ⟨5, 9, c_lrules kr kz⟩
  lwa : tb.fn kw = ⟨4, 10, c_lwander kst klv kz kp⟩
  lfw : tb.fn kfw = ⟨2, 4, d_few kp klr⟩
section
variable {tb : Tb} {kt kp kg kr klv kz kpl kpu kst klr kw kfw klk : Nat} {f nm : Nat} {n : Nat} {R : List (T1 × T1)} {S : Store} {X : XP} {Q : Val → Store → Prop}
end
/-! _law_like -/
section
variable {kt kp klr kw kz : Nat}
def d_lk0 (kt : Nat) : C := sPar [5, 6] (elCons (eCall kt (elCons (eVar 0) (elCons (eC (.int 5)) (elNil)))) (elCons (eCall kt (elCons (eVar 0) (elCons (eOp oAdd (eB bLen (elCons (eVar 3) (elNil))) (eC (.int 1))) (elNil)))) (elNil)))
def d_mn : G.E := eB bMin2 (elCons (eVar 6) (elCons (eOp oSub (eB bLen (elCons (eVar 3) (elNil))) (eC (.int 1))) (elNil)))
def d_w2 (kt kp : Nat) : C := cSeq (sAsg (tTup 2 (tCons (tName 7) (tCons (tName 8) (tNil)))) (eCall kp (elCons (eVar 0) (elCons (eVar 3) (elNil))))) (cSeq (sAsg (tName 9) (eOp oIx (eVar 1) (eOp oAdd (eC (.int 3)) (eCall kt (elCons (eVar 0) (elCons (eC (.int 2)) (elNil))))))) (cSeq (sExpr (eBm .lst mInsI (eVar 3) (elCons (eVar 6) (elCons (eTup (elCons (eTup (elCons (eVar 9) (elCons (eVar 7) (elNil)))) (elCons (eTup (elCons (eVar 9) (elCons (eVar 8) (elNil)))) (elNil)))) (elNil))))) (cNil)))
def d_w3 (kw : Nat) : C := cSeq (sAsg (tTup 2 (tCons (tName 7) (tCons (tName 8) (tNil)))) (eOp oIx (eVar 3) d_mn)) (cSeq (sAsg (tSub (eVar 3) d_mn) (eTup (elCons (eVar 7) (elCons (eOp oIx (eCall kw (elCons (eVar 0) (elCons (eVar 2) (elCons (eVar 8) (elCons (eC (.int 1)) (elNil)))))) (eC (.int 1))) (elNil))))) (cNil))
def d_w4 (klr : Nat) : C := cSeq (sAsg (tName 3) (eOp oAdd (eOp oAdd (eSl (eVar 3) (eoNone) (eoSome (eVar 6))) (eCall klr (elCons (eVar 0) (elCons (eVar 1) (elCons (eC (.int 1)) (elCons (eC (.int 2)) (elCons (eC (.bool false)) (elNil)))))))) (eSl (eVar 3) (eoSome (eVar 6)) (eoNone)))) (cNil)
def d_i3 (kw klr : Nat) : C := sIf (eAnd (eOp oEq (eVar 5) (eC (.int 3))) (eOp oNe (eVar 3) (eLst (elNil)))) (d_w3 kw) (d_w4 klr)
def d_i2 (kt kp kw klr : Nat) : C := sIf (eAnd (eOp oEq (eVar 5) (eC (.int 2))) (eOp oNe (eVar 3) (eLst (elNil)))) (d_w2 kt kp) (cSeq (d_i3 kw klr) (cNil))
def d_i1 (kt kp kw klr : Nat) : C := sIf (eOp oEq (eVar 5) (eC (.int 1))) (cSeq (sAsg (tName 3) (eRev (eVar 3))) (cNil)) (cSeq (d_i2 kt kp kw klr) (cNil))
def d_i0 (kt kp kw klr : Nat) : C := sIf (eAnd (eOp oEq (eVar 5) (eC (.int 0))) (eOp oNe (eVar 3) (eLst (elNil)))) (cSeq (sExpr (eBm .lst mPopI (eVar 3) (elCons d_mn (elNil)))) (cNil)) (cSeq (d_i1 kt kp kw klr) (cNil))
def d_lkf (kz : Nat) : C := sFor (tTup 2 (tCons (tName 7) (tCons (tName 8) (tNil)))) (iVal (eVar 3)) (cSeq (sIf (eAnd (eOp oNe (eVar 7) (eVar 8)) (eAnd (eOp oNotIn (eTup (elCons (eVar 7) (elCons (eVar 8) (elNil)))) (eVar 10)) (eOp oLt (eB bMax2 (elCons (eCall kz (elCons (eVar 7) (elNil))) (elCons (eCall kz (elCons (eVar 8) (elNil))) (elNil)))) (eC (.int 5))))) (cSeq (sExpr (eBm .lst mAppend (eVar 10) (elCons (eTup (elCons (eVar 7) (elCons (eVar 8) (elNil)))) (elNil)))) (cNil)) (cNil)) (cNil))
def d_like (kt kp kw klr kz : Nat) : C := cSeq (sAsg (tName 3) (eB bList (elCons (eVar 2) (elNil)))) (cSeq (sFor (tName 4) (iRange (elCons (eCall kt (elCons (eVar 0) (elCons (eC (.int 3)) (elNil)))) (elNil))) (cSeq (d_lk0 kt) (cSeq (d_i0 kt kp kw klr) (cNil)))) (cSeq (sAsg (tName 10) (eLst (elNil))) (cSeq (d_lkf kz) (cSeq (sRet (eSl (eVar 10) (eoNone) (eoSome (eC (.int 3))))) (cNil)))))
end
/-- a rule that is being led on, behind so many turns -/
structure FO (i : Nat) (p : T1 × T1) : Prop where
  t1 : okT 4 p.1 = true
  t2 : okT 4 p.2 = true
  l1 : lv p.1 ≤ 4 + 2 * i
  l2 : lv p.2 ≤ 4 + 2 * i
  s1 : sz p.1 ≤ 6 + 34 * i
  s2 : sz p.2 ≤ 6 + 34 * i
theorem FO.up {i : Nat} {p : T1 × T1} (h : FO i p) : FO (i + 1) p := ⟨h.t1, h.t2, by have := h.l1; omega, by have := h.l2; omega, by have := h.s1; omega, by have := h.s2; omega⟩
/-- the led list -/
structure Lkd (S : Store) (f nm lr l3 i : Nat) (R L : List (T1 × T1)) : Prop where
  fd : Fed S f
  f1 : f < S.nx
  nm6 : Nm6 S nm
  n1 : nm < S.nx
  n2 : nm ≠ f
  gr : S.get lr = some (.lst (R.map rlV))
  r1 : lr < S.nx
  r2 : lr ≠ f
  g3 : S.get l3 = some (.lst (L.map rlV))
  l1 : l3 < S.nx
  l2 : l3 ≠ f ∧ l3 ≠ nm ∧ l3 ≠ lr
  each : ∀ p ∈ L, FO i p
  len : L.length ≤ 3 + i
theorem Lkd.keepF {S S' : Store} {f nm lr l3 i : Nat} {R L : List (T1 × T1)} (h : Lkd S f nm lr l3 i R L) (k : Kp [f] S S') (fd : Fed S' f) : Lkd S' f nm lr l3 i R L :=
  have := k.nx
  ⟨fd, Nat.lt_of_lt_of_le h.f1 this, h.nm6.keep k h.n1 h.n2, Nat.lt_of_lt_of_le h.n1 this, h.n2, (k.get lr h.r1 (by simpa using h.r2)).trans h.gr, Nat.lt_of_lt_of_le h.r1 this, h.r2, (k.get l3 h.l1 (by simpa using h.l2.1)).trans h.g3, Nat.lt_of_lt_of_le h.l1 this, h.l2, h.each, h.len⟩
theorem Lkd.keep {S S' : Store} {f nm lr l3 i : Nat} {R L : List (T1 × T1)} (h : Lkd S f nm lr l3 i R L) (k : Kp [] S S') : Lkd S' f nm lr l3 i R L := h.keepF k.up (h.fd.lt k h.f1 (by simp))
theorem Lkd.up {S : Store} {f nm lr l3 i : Nat} {R L : List (T1 × T1)} (h : Lkd S f nm lr l3 i R L) : Lkd S f nm lr l3 (i + 1) R L := ⟨h.fd, h.f1, h.nm6, h.n1, h.n2, h.gr, h.r1, h.r2, h.g3, h.l1, h.l2, fun p hp => (h.each p hp).up, by have := h.len; omega⟩
/-- another list in its place -/
theorem Lkd.put {S : Store} {f nm lr l3 i i' : Nat} {R L L' : List (T1 × T1)} (h : Lkd S f nm lr l3 i R L) (he : ∀ p ∈ L', FO i' p) (hl : L'.length ≤ 3 + i') : Lkd (S.put l3 (.lst (L'.map rlV))) f nm lr l3 i' R L' := by
  obtain ⟨a1, a2, a3⟩ := h.l2
  obtain ⟨d, y, e1, e2⟩ := h.fd
  obtain ⟨ss, b1, b2⟩ := h.nm6
  exact ⟨⟨d, y, by rw [Store.put_get, if_neg (Ne.symm a1)]; exact e1, e2⟩, h.f1, ⟨ss, by rw [Store.put_get, if_neg (Ne.symm a2)]; exact b1, b2⟩, h.n1, h.n2, by rw [Store.put_get, if_neg (Ne.symm a3)]; exact h.gr, h.r1, h.r2, by rw [Store.put_get, if_pos rfl], h.l1, h.l2, he, hl⟩
/-- a new list in its place -/
theorem Lkd.new {S : Store} {f nm lr l3 l' i i' : Nat} {R L L' : List (T1 × T1)} (h : Lkd S f nm lr l3 i R L) (g : S.get l' = some (.lst (L'.map rlV))) (n : l' < S.nx) (hne : l' ≠ f ∧ l' ≠ nm ∧ l' ≠ lr) (he : ∀ p ∈ L', FO i' p) (hl : L'.length ≤ 3 + i') : Lkd S f nm lr l' i' R L' :=
  ⟨h.fd, h.f1, h.nm6, h.n1, h.n2, h.gr, h.r1, h.r2, g, n, hne, he, hl⟩
section
variable {tb : Tb} {kt kp kg kr klv kz kpl kpu kst klr kw kfw klk : Nat} {f nm lr l3 i jj at0 : Nat} {n : Nat} {R L : List (T1 × T1)} {S : Store} {X : XP} {Q : Val → Store → Prop}
end
/-! _law_like, a turn -/
section
variable {tb : Tb} {kt kp kg kr klv kz kpl kpu kst klr kw kfw klk : Nat} {f nm lr l3 i jj at0 : Nat} {n : Nat} {R L : List (T1 × T1)} {S : Store} {X : XP} {Q : Val → Store → Prop}
def LkN (S : Store) (f nm lr l3 i : Nat) (R : List (T1 × T1)) (v4 v5 v6 v10 : Option Val) (N : Env → Store → Prop) : Prop := ∀ l3' L' v7 v8 v9 S', Lkd S' f nm lr l3' i R L' → (l3' = l3 ∨ S.nx ≤ l3') → Kp [f, l3] S S' → N [some (.ref f), some (.ref nm), some (.ref lr), some (.ref l3'), v4, v5, v6, v7, v8, v9, v10] S'
theorem LkN.of {S S' : Store} {v4 v5 v6 v10 : Option Val} {N : Env → Store → Prop} (h : LkN S f nm lr l3 i R v4 v5 v6 v10 N) (k : Kp [] S S') : LkN S' f nm lr l3 i R v4 v5 v6 v10 N := fun l3' L' v7 v8 v9 S2 a b c => h l3' L' v7 v8 v9 S2 a (b.imp id fun e => Nat.le_trans k.nx e) (k.up.trans c)
end
/-! _law_like, whole -/
section
variable {tb : Tb} {kt kp kg kr klv kz kpl kpu kst klr kw kfw klk : Nat} {f nm lr l3 i jj at0 : Nat} {n : Nat} {R L : List (T1 × T1)} {S : Store} {X : XP} {Q : Val → Store → Prop}
/-- the rules that are left of the led ones -/
structure LkR (G0 : List (T1 × T1)) : Prop where
  each : ∀ p ∈ G0, RlOk p ∧ sz p.1 ≤ 4 ∧ sz p.2 ≤ 4
  nd : G0.Nodup
end
/-! the law k61: rules once, lots alike, small facts -/
theorem rep_one (x : Val) : ∀ k, rep [x] k = List.replicate k x
  | 0 => rfl
  | k + 1 => by rw [rep, rep_one x k, List.replicate_succ]; rfl
section
variable {tb : Tb} {keq : Nat} {n : Nat} {R : List (T1 × T1)} {S : Store} {X : XP} {Q : Val → Store → Prop}
end
/-! fences: closed pairs, dicts that hold them -/
/-- closed pairs of some parts -/
structure Cl (R : List (T1 × T1)) (P : List T1) (K : List (T1 × T1)) : Prop where
  nd : K.Nodup
  sub : ∀ q ∈ K, q.1 ∈ P ∧ q.2 ∈ P
  slf : ∀ u ∈ P, (u, u) ∈ K
  kid : ∀ s ts us, T1.mk s ts ∈ P → T1.mk s us ∈ P → ts.length = us.length → (∀ p ∈ ts.zip us, p ∈ K) → (T1.mk s ts, T1.mk s us) ∈ K
  rul : ∀ l r u v, (l, r) ∈ R → u ∈ P → v ∈ P → (u, l) ∈ K → (r, v) ∈ K → (u, v) ∈ K
theorem lk_of_key {p : T1 × T1} : ∀ {D : DL}, p ∈ D.map (·.1) → ∃ n, lk p D = some n
  | [], h => by cases h
  | (q, m) :: r, h => by
    rw [lk]
    by_cases c : q = p
    · rw [if_pos c]; exact ⟨m, rfl⟩
    · rw [if_neg c]
      rw [List.map_cons] at h
      rcases List.mem_cons.mp h with e | e
      · exact absurd e.symm c
      · exact lk_of_key e
theorem Full.key {R : List (T1 × T1)} {P : List T1} {D : DL} (h : Full R P D) {u v : T1} (hu : u ∈ P) (hv : v ∈ P) : (u, v) ∈ D.map (·.1) ↔ ∃ n, Der R u v n := by
  constructor
  · intro hm
    obtain ⟨n, hn⟩ := lk_of_key hm
    exact ⟨n, ((h.lk_iff hu hv n).mp hn).1⟩
  · rintro ⟨n, hn⟩
    obtain ⟨k, _, hk⟩ := Lst.ex hn
    exact List.mem_map.mpr ⟨_, lk_mem ((h.lk_iff hu hv k).mpr hk), rfl⟩
theorem derL_zip {R : List (T1 × T1)} : ∀ {ts us : List T1}, ts.length = us.length → (∀ p ∈ ts.zip us, ∃ n, Der R p.1 p.2 n) → ∃ n, DerL R ts us n
  | [], [], _, _ => ⟨0, .nil⟩
  | [], _ :: _, h, _ => by cases h
  | _ :: _, [], h, _ => by cases h
  | t :: ts, u :: us, h, k => by
    obtain ⟨a, ha⟩ := k (t, u) (by simp)
    obtain ⟨b, hb⟩ := derL_zip (Nat.succ.inj h) fun p hp => k p (by rw [List.zip_cons_cons]; exact List.mem_cons_of_mem _ hp)
    exact ⟨_, .cons ha hb⟩
theorem Full.cl {R : List (T1 × T1)} {P : List T1} {D : DL} (h : Full R P D) (cx : TCx R P) : Cl R P (D.map (·.1)) := by
  refine ⟨h.toTOk.nod, h.toTOk.sub, fun u hu => (h.key hu hu).mpr ⟨0, .refl u⟩, fun s ts us h1 h2 hl hz => ?_, fun l r u v hm hu hv h1 h2 => ?_⟩
  · refine (h.key h1 h2).mpr ?_
    obtain ⟨n, hn⟩ := derL_zip (R := R) hl fun p hp => by
      have := List.of_mem_zip (a := p.1) (b := p.2) hp
      exact (h.key (cx.kids _ _ h1 _ this.1) (cx.kids _ _ h2 _ this.2)).mp (hz p hp)
    exact ⟨n, .kids hn⟩
  · have hs := cx.sides l r hm
    obtain ⟨a, ha⟩ := (h.key hu hs.1).mp h1
    obtain ⟨b, hb⟩ := (h.key hs.2 hv).mp h2
    exact (h.key hu hv).mpr ⟨_, .rule hm ha hb⟩
theorem Cl.lo {R : List (T1 × T1)} {P : List T1} {K : List (T1 × T1)} (h : Cl R P K) (cx : TCx R P) : ∀ p ∈ K, lo p := fun p hp => by
  have := h.sub p hp
  exact ⟨cx.lvs _ this.1, cx.lvs _ this.2⟩
theorem Cl.len {R : List (T1 × T1)} {P : List T1} {K : List (T1 × T1)} (h : Cl R P K) : K.length ≤ P.length * P.length := by
  have := nod_len h.nd (k := pairsP P) fun q hq => mem_pairsP.mpr (h.sub q hq)
  rw [pairsP_len] at this
  exact this
/-! a dict whose keys are the texts of some parts -/
/-! are_pairs, is_closed, is_fence -/
def d_arepairs (kt : Nat) : C := cSeq (sIf (eNot (eIsI (eVar 0) aLst)) (cSeq (sRet (eC (.bool false))) (cNil)) (cNil)) (cSeq (sFor (tName 2) (iVal (eVar 0)) (cSeq (sIf (eOr (eNot (eIsI (eVar 2) aTup)) (eOr (eOp oNe (eB bLen (elCons (eVar 2) (elNil))) (eC (.int 2))) (eOr (eNot (eCallP kt (elCons (eOp oIx (eVar 2) (eC (.int 0))) (elNil)))) (eNot (eCallP kt (elCons (eOp oIx (eVar 2) (eC (.int 1))) (elNil))))))) (cSeq (sRet (eC (.bool false))) (cNil)) (cNil)) (cSeq (sIf (eOr (eOp oNotIn (eOp oIx (eVar 2) (eC (.int 0))) (eVar 1)) (eOp oNotIn (eOp oIx (eVar 2) (eC (.int 1))) (eVar 1))) (cSeq (sRet (eC (.bool false))) (cNil)) (cNil)) (cNil)))) (cSeq (sRet (eOp oEq (eB bLenK (elCons (eDcD (cFor [2] (tName 2) (iVal (eVar 0)) (cEltD (eVar 2) (eC (.bool true))))) (elNil))) (eB bLen (elCons (eVar 0) (elNil))))) (cNil)))
def clo1 (ks : Nat) : C := sIf (eAnd (eOp oEq (eCallP ks (elCons (eVar 3) (elNil))) (eCallP ks (elCons (eVar 4) (elNil)))) (eB bAll (elCons (eLc (cFor [8] (tName 8) (iZip (elCons (eSl (eVar 3) (eoSome (eC (.int 1))) (eoNone)) (elCons (eSl (eVar 4) (eoSome (eC (.int 1))) (eoNone)) (elNil)))) (cElt (eOp oInK (eVar 8) (eVar 2))))) (elNil)))) (cSeq (sAsg (tName 5) (eC (.bool true))) (cNil)) (cNil)
def clo2 : C := sIf (eB bAny (elCons (eLc (cFor [6, 7] (tTup 2 (tCons (tName 6) (tCons (tName 7) (tNil)))) (iVal (eVar 0)) (cElt (eAnd (eOp oInK (eTup (elCons (eVar 3) (elCons (eVar 6) (elNil)))) (eVar 2)) (eOp oInK (eTup (elCons (eVar 7) (elCons (eVar 4) (elNil)))) (eVar 2)))))) (elNil))) (cSeq (sAsg (tName 5) (eC (.bool true))) (cNil)) (cNil)
def clo3 : C := sIf (eAnd (eVar 5) (eOp oNotInK (eTup (elCons (eVar 3) (elCons (eVar 4) (elNil)))) (eVar 2))) (cSeq (sRet (eC (.bool false))) (cNil)) (cNil)
def clo23 : C := cSeq clo2 (cSeq clo3 cNil)
def d_isclosed (ks : Nat) : C := cSeq (sFor (tName 3) (iVal (eVar 1)) (cSeq (sFor (tName 4) (iVal (eVar 1)) (cSeq (sAsg (tName 5) (eOp oEq (eVar 3) (eVar 4))) (cSeq (clo1 ks) clo23))) (cNil))) (cSeq (sRet (eC (.bool true))) (cNil))
def d_isfence (k19 kap kcl : Nat) : C := cSeq (sAsg (tName 4) (eCall k19 (elCons (eMeth (eVar 0) mRules elNil) (elCons (eLst (elCons (eVar 1) (elCons (eVar 2) (elNil)))) (elNil))))) (cSeq (sIf (eOr (eNot (eCall kap (elCons (eVar 3) (elCons (eVar 4) (elNil))))) (eOp oIn (eTup (elCons (eVar 1) (elCons (eVar 2) (elNil)))) (eVar 3))) (cSeq (sRet (eC (.bool false))) (cNil)) (cNil)) (cSeq (sRet (eCall kcl (elCons (eMeth (eVar 0) mRules elNil) (elCons (eVar 4) (elCons (eDcD (cFor [5] (tName 5) (iVal (eVar 3)) (cEltD (eVar 5) (eC (.bool true))))) (elNil)))))) (cNil)))
section
variable {tb : Tb} {kn kt ks kap kcl : Nat} {n : Nat} {R : List (T1 × T1)} {P : List T1} {K L : List (T1 × T1)} {S : Store} {X : XP} {Q : Val → Store → Prop}
end
section
variable {tb : Tb} {kz ko kp k9 k19 ks klo kby kch klc klr kT kn kt kl kr kL kru kln kls kwo knu xNR fNR kap kcl kfe : Nat} {n : Nat} {R : List (T1 × T1)} {K L : List (T1 × T1)} {S : Store} {X : XP} {Q : Val → Store → Prop}
end
/-! _law_due, _law_is_fence -/
def ldu0 : C := sAsg (tName 4) (eIf (eOp oEq (eVar 2) (eVar 3)) (eLst (elCons (eC (.int 0)) (elNil))) (eLst (elNil)))
def ldu1 : C := sIf (eAnd (eOp oEq (eOp oIx (eVar 2) (eC (.int 0))) (eOp oIx (eVar 3) (eC (.int 0)))) (eOp oEq (eB bLen (elCons (eVar 2) (elNil))) (eB bLen (elCons (eVar 3) (elNil))))) (cSeq (sAsg (tName 5) (eLc (cFor [8] (tName 8) (iZip (elCons (eSl (eVar 2) (eoSome (eC (.int 1))) (eoNone)) (elCons (eSl (eVar 3) (eoSome (eC (.int 1))) (eoNone)) (elNil)))) (cElt (eBm .dct mGet (eVar 0) (elCons (eVar 8) (elNil))))))) (cSeq (sAsg (tName 4) (eIf (eOp oNotIn (eC .none) (eVar 5)) (eOp oAdd (eVar 4) (eLst (elCons (eB bSum (elCons (eVar 5) (elNil))) (elNil)))) (eVar 4))) (cNil))) (cNil)
def ldu2 : C := sFor (tTup 2 (tCons (tName 6) (tCons (tName 7) (tNil)))) (iVal (eVar 1)) (cSeq (sIf (eAnd (eOp oInK (eTup (elCons (eVar 2) (elCons (eVar 6) (elNil)))) (eVar 0)) (eOp oInK (eTup (elCons (eVar 7) (elCons (eVar 3) (elNil)))) (eVar 0))) (cSeq (sExpr (eBm .lst mAppend (eVar 4) (elCons (eOp oAdd (eOp oAdd (eOp oIxK (eVar 0) (eTup (elCons (eVar 2) (elCons (eVar 6) (elNil))))) (eC (.int 1))) (eOp oIxK (eVar 0) (eTup (elCons (eVar 7) (elCons (eVar 3) (elNil)))))) (elNil)))) (cNil)) (cNil)) (cNil))
def ldu3 : C := sRet (eIf (eOp oNe (eVar 4) (eLst (elNil))) (eB bMin (elCons (eVar 4) (elNil))) (eC .none))
def d_ldue : C := cSeq ldu0 (cSeq ldu1 (cSeq ldu2 (cSeq ldu3 (cNil))))
def lif0 (kt : Nat) : C := sAsg (tName 4) (eCall kt (elCons (eVar 0) (elCons (eLst (elCons (eVar 1) (elCons (eVar 2) (elNil)))) (elNil))))
def lif1 : C := sAsg (tName 6) (eB bDictA (elCons (eLc (cFor [5] (tName 5) (iVal (eVar 4)) (cElt (eTup (elCons (eB bReprN (elCons (eVar 5) (elNil))) (elCons (eC (.int 0)) (elNil))))))) (elNil)))
def lif2 : C := sIf (eNot (eIsI (eVar 3) aLst)) (cSeq (sRet (eC (.bool false))) (cNil)) (cNil)
def lif3 : C := sFor (tName 7) (iVal (eVar 3)) (cSeq (sIf (eOr (eNot (eIsI (eVar 7) aTup)) (eOp oNe (eB bLen (elCons (eVar 7) (elNil))) (eC (.int 2)))) (cSeq (sRet (eC (.bool false))) (cNil)) (cNil)) (cSeq (sIf (eOr (eOp oNotInK (eB bReprN (elCons (eOp oIx (eVar 7) (eC (.int 0))) (elNil))) (eVar 6)) (eOp oNotInK (eB bReprN (elCons (eOp oIx (eVar 7) (eC (.int 1))) (elNil))) (eVar 6))) (cSeq (sRet (eC (.bool false))) (cNil)) (cNil)) (cNil)))
def lif4 : C := sAsg (tName 8) (eB bDictT (elCons (eLc (cFor [7] (tName 7) (iVal (eVar 3)) (cElt (eTup (elCons (eVar 7) (elCons (eC (.int 0)) (elNil))))))) (elNil)))
def lif5 : C := sIf (eOr (eOp oNe (eB bLenK (elCons (eVar 8) (elNil))) (eB bLen (elCons (eVar 3) (elNil)))) (eOp oInK (eTup (elCons (eVar 1) (elCons (eVar 2) (elNil)))) (eVar 8))) (cSeq (sRet (eC (.bool false))) (cNil)) (cNil)
def lif6 (kd : Nat) : C := sFor (tName 5) (iVal (eVar 4)) (cSeq (sFor (tName 9) (iVal (eVar 4)) (cSeq (sIf (eAnd (eOp oIsNot (eCall kd (elCons (eVar 8) (elCons (eVar 0) (elCons (eVar 5) (elCons (eVar 9) (elNil)))))) (eC .none)) (eOp oNotInK (eTup (elCons (eVar 5) (elCons (eVar 9) (elNil)))) (eVar 8))) (cSeq (sRet (eC (.bool false))) (cNil)) (cNil)) (cNil))) (cNil))
def lif7 : C := sRet (eC (.bool true))
def d_lisfence (kt : Nat) (kd : Nat) : C := cSeq (lif0 kt) (cSeq lif1 (cSeq lif2 (cSeq lif3 (cSeq lif4 (cSeq lif5 (cSeq (lif6 kd) (cSeq lif7 (cNil))))))))
section
variable {tb : Tb} {kd kt : Nat} {n : Nat} {R : List (T1 × T1)} {P : List T1} {K : List (T1 × T1)} {S : Store} {X : XP} {Q : Val → Store → Prop}
end
section
variable {tb : Tb} {lz lo lp lt kd kif : Nat} {n : Nat} {R : List (T1 × T1)} {L : List (T1 × T1)} {S : Store} {X : XP} {Q : Val → Store → Prop}
end
/-! the law's own table over more trees and rules -/
section
variable {tb : Tb} {kz ko kp kt kl : Nat} {n : Nat} {R : List (T1 × T1)} {ts : List T1} {S : Store} {X : XP} {Q : Val → Store → Prop} {l l2 : Nat}
end
set_option exponentiation.threshold 3000
/-! repr of nested values -/
open PySem
/-- ASCII, of at most so many signs -/
def Sw (N : Nat) (x : Str) : Prop := (∀ c ∈ cpl x, c < 128) ∧ (cpl x).length ≤ N
theorem Sw.mono {N M : Nat} {x : Str} (h : Sw N x) (k : N ≤ M) : Sw M x := ⟨h.1, Nat.le_trans h.2 k⟩
theorem Sw.app {N M : Nat} {x y : Str} (h : Sw N x) (k : Sw M y) : Sw (N + M) (x ++ y) := by
  refine ⟨fun c hc => ?_, ?_⟩
  · rw [cpl_app] at hc
    exact (List.mem_append.mp hc).elim (h.1 c) (k.1 c)
  · rw [cpl_app, List.length_append]
    have := h.2
    have := k.2
    omega
theorem sw_comma : Sw 2 (", " : Str) := ⟨by rw [cpl_lit2]; decide, by rw [cpl_lit2]; decide⟩
theorem sw_join {N : Nat} : ∀ {ts : List Str}, (∀ t ∈ ts, Sw N t) → Sw (ts.length * (N + 2)) (Str.join ", " ts)
  | [], _ => ⟨fun c hc => (by cases hc), Nat.zero_le _⟩
  | [t], h => by
    have := h t List.mem_cons_self
    show Sw (1 * (N + 2)) t
    exact this.mono (by omega)
  | t :: u :: r, h => by
    have h1 := h t List.mem_cons_self
    have h2 := sw_join (ts := u :: r) fun x hx => h x (List.mem_cons_of_mem _ hx)
    show Sw _ (t ++ ", " ++ Str.join ", " (u :: r))
    refine ((h1.app sw_comma).app h2).mono ?_
    rw [List.length_cons (a := t), Nat.succ_mul]; omega
theorem sw_tuple {N : Nat} {ts : List Str} (h : ∀ t ∈ ts, Sw N t) : Sw (ts.length * (N + 2) + 3) (tupleText ts) := by
  unfold tupleText
  have h1 : Sw 1 ("(" : Str) := ⟨by rw [cpl_lit1]; decide, by rw [cpl_lit1]; decide⟩
  have h2 : Sw 2 ((if (ts.length == 1) = true then ",)" else ")" : String) : Str) := by
    cases ts.length == 1 with
    | true => exact ⟨by show ∀ c ∈ cpl (((",)" : String)) : Str), _; rw [cpl_lit3]; decide, by show (cpl (((",)" : String)) : Str)).length ≤ _; rw [cpl_lit3]; decide⟩
    | false => exact ⟨by show ∀ c ∈ cpl (((")" : String)) : Str), _; rw [cpl_lit4]; decide, by show (cpl (((")" : String)) : Str)).length ≤ _; rw [cpl_lit4]; decide⟩
  exact ((h1.app (sw_join h)).app h2).mono (by omega)
theorem sw_from {N : Nat} : ∀ {ts : List Str} {k M : Nat} {acc : Str}, (∀ t ∈ ts, Sw N t) → Sw M acc → Sw (M + ts.length * (N + 2)) (textFrom k acc ts)
  | [], k, M, acc, _, ha => ha.mono (Nat.le_add_right _ _)
  | t :: r, k, M, acc, h, ha => by
    have h1 := h t List.mem_cons_self
    have h2 : Sw 2 ((if k > 0 then ", " else "" : String) : Str) := by
      by_cases c : k > 0
      · rw [if_pos c]; exact sw_comma
      · rw [if_neg c]; exact ⟨by decide +kernel, by decide +kernel⟩
    show Sw _ (textFrom (k + 1) (acc ++ (if k > 0 then ", " else "" : String) ++ t) r)
    refine (sw_from (fun x hx => h x (List.mem_cons_of_mem _ hx)) ((ha.app h2).app h1)).mono ?_
    rw [List.length_cons, Nat.succ_mul]; omega
theorem sw_list {N : Nat} {ts : List Str} (h : ∀ t ∈ ts, Sw N t) : Sw (ts.length * (N + 2) + 2) (listText ts) := by
  unfold listText
  have h1 : Sw 1 ("[" : Str) := ⟨by decide +kernel, by decide +kernel⟩
  have h2 : Sw 1 ("]" : Str) := ⟨by decide +kernel, by decide +kernel⟩
  exact ((sw_from h h1).app h2).mono (by omega)
/-- a value that can be shown -/
structure Sh (S : Store) (k N : Nat) (d : PyData) (v : Val) : Prop where
  dok : dOk S k v = true
  sok : shOk S k v = true
  dat : dat S k v = d
  sw : Sw N d.shown
theorem Sh.mono {S : Store} {k N M : Nat} {d : PyData} {v : Val} (h : Sh S k N d v) (hk : N ≤ M) : Sh S k M d v := ⟨h.dok, h.sok, h.dat, h.sw.mono hk⟩
theorem shownAll_map {α : Type} {N : Nat} {g : α → PyData} : ∀ {xs : List α}, (∀ x ∈ xs, Sw N (g x).shown) → (PyData.shownAll (xs.map g)).length = xs.length ∧ ∀ t ∈ PyData.shownAll (xs.map g), Sw N t
  | [], _ => ⟨rfl, fun t ht => by cases ht⟩
  | x :: r, h => by
    obtain ⟨h1, h2⟩ := shownAll_map (xs := r) fun y hy => h y (List.mem_cons_of_mem _ hy)
    refine ⟨?_, fun t ht => ?_⟩
    · show (PyData.shownAll (r.map g)).length + 1 = _
      rw [h1, List.length_cons]
    · rcases List.mem_cons.mp (show t ∈ (g x).shown :: PyData.shownAll (r.map g) from ht) with e | e
      · rw [e]; exact h x List.mem_cons_self
      · exact h2 t e
theorem sh_all {α : Type} {S : Store} {k N : Nat} {f : α → Val} {g : α → PyData} {xs : List α} (h : ∀ x ∈ xs, Sh S k N (g x) (f x)) : (xs.map f).all (dOk S k) = true ∧ (xs.map f).all (shOk S k) = true ∧ (xs.map f).map (dat S k) = xs.map g := by
  refine ⟨List.all_eq_true.mpr fun v hv => ?_, List.all_eq_true.mpr fun v hv => ?_, ?_⟩
  · obtain ⟨x, hx, rfl⟩ := List.mem_map.mp hv
    exact (h x hx).dok
  · obtain ⟨x, hx, rfl⟩ := List.mem_map.mp hv
    exact (h x hx).sok
  · rw [List.map_map]
    exact List.map_congr_left fun x hx => (h x hx).dat
theorem Sh.tup {α : Type} {S : Store} {k N : Nat} {f : α → Val} {g : α → PyData} {xs : List α} (h : ∀ x ∈ xs, Sh S k N (g x) (f x)) : Sh S (k + 1) (xs.length * (N + 2) + 3) (.tuple (xs.map g)) (.tup (xs.map f)) := by
  obtain ⟨h1, h2, h3⟩ := sh_all h
  obtain ⟨h4, h5⟩ := shownAll_map (N := N) (xs := xs) (g := g) fun x hx => (h x hx).sw
  refine ⟨h1, h2, ?_, ?_⟩
  · show PyData.tuple ((xs.map f).map (G.dat S k)) = _
    rw [h3]
  · have := sw_tuple h5
    rw [h4] at this
    exact this
theorem Sh.lst {α : Type} {S : Store} {k N a : Nat} {f : α → Val} {g : α → PyData} {xs : List α} (ha : S.get a = some (.lst (xs.map f))) (h : ∀ x ∈ xs, Sh S k N (g x) (f x)) : Sh S (k + 1) (xs.length * (N + 2) + 2) (.list (xs.map g)) (.ref a) := by
  obtain ⟨h1, h2, h3⟩ := sh_all h
  obtain ⟨h4, h5⟩ := shownAll_map (N := N) (xs := xs) (g := g) fun x hx => (h x hx).sw
  refine ⟨?_, ?_, ?_, ?_⟩
  · show (match isList (S.get a) with | some xs => xs.all (dOk S k) | .none => false) = true
    rw [ha]; exact h1
  · show (match isList (S.get a) with | some xs => xs.all (shOk S k) | .none => false) = true
    rw [ha]; exact h2
  · show (match isList (S.get a) with | some xs => PyData.list (xs.map (G.dat S k)) | .none => .none) = _
    rw [ha]
    show PyData.list ((xs.map f).map (G.dat S k)) = _
    rw [h3]
  · have := sw_list h5
    rw [h4] at this
    exact this
theorem Sh.name {S : Store} {k : Nat} {s : List Nat} (h : ∀ c ∈ s, 97 ≤ c ∧ c ≤ 122) : Sh S (k + 1) (s.length + 2) (.str ⟨s.toArray⟩) (.str s) := by
  refine ⟨rfl, rfl, rfl, ?_⟩
  have e : cpl (PyData.shown (.str ⟨s.toArray⟩)) = 39 :: (s ++ [39]) := repr_name h
  refine ⟨fun c hc => ?_, by rw [e]; simp⟩
  rw [e] at hc
  rcases List.mem_cons.mp hc with e | e
  · omega
  · rcases List.mem_append.mp e with e | e
    · have := h c e; omega
    · rw [List.mem_singleton] at e; omega
theorem dat_tv (S : Store) : ∀ (k : Nat) (t : T1), dat S k (tv t) = dat nilS k (tv t)
  | 0, t => rfl
  | k + 1, .mk s ts => by
    rw [tv]
    show PyData.tuple ((Val.str s :: tvs ts).map (dat S k)) = .tuple ((Val.str s :: tvs ts).map (dat nilS k))
    rw [tvs_map, List.map_cons, List.map_cons, List.map_map, List.map_map]
    have e1 : dat S k (.str s) = dat nilS k (.str s) := by cases k <;> rfl
    have e2 : ts.map (dat S k ∘ tv) = ts.map (dat nilS k ∘ tv) := List.map_congr_left fun t _ => dat_tv S k t
    rw [e1, e2]
theorem Sh.tree {S : Store} {k : Nat} {t : T1} (h : TrOk t) (hk : 6 < k) : Sh S (k + 1) 2000 (G.dat nilS (k + 1) (tv t)) (tv t) := by
  have hl := h.lv
  have h1 := dOk_tv S k t (by omega)
  have h2 := shown_tree nilS k t (by omega) h.ok
  have h3 := rp_chr h.ok
  have hz := h.sz
  refine ⟨h1.1, h1.2, dat_tv S _ t, ?_⟩
  unfold Sw
  rw [h2]
  exact ⟨h3.1, by have := h3.2; omega⟩
set_option exponentiation.threshold 3000
/-! rules_by, leads_same: both words; what repr tells of them -/
open PySem
/-- the first rule that does not lead the same -/
structure NoAt (A B : List (T1 × T1)) (i : Nat) (l r : T1) (D : DL) : Prop where
  at' : A[i]? = some (l, r)
  bef : ∀ (j : Nat) p, j < i → A[j]? = some p → canB B p = true
  no : canB B (l, r) = false
  full : Full B (told B [l, r]) D
  tab : TabIs B (told B [l, r]) D
theorem NoAt.uniq {A B : List (T1 × T1)} {i i' : Nat} {l r l' r' : T1} {D D' : DL} (h : NoAt A B i l r D) (k : NoAt A B i' l' r' D') : i = i' ∧ l = l' ∧ r = r' ∧ D = D' := by
  have e : i = i' := by
    rcases Nat.lt_trichotomy i i' with c | c | c
    · have := k.bef i _ c h.at'
      rw [h.no] at this; cases this
    · exact c
    · have := h.bef i' _ c k.at'
      rw [k.no] at this; cases this
  subst e
  have e := h.at'
  rw [k.at'] at e
  cases e
  exact ⟨rfl, rfl, rfl, h.tab.uniq k.tab⟩
def yesV (r : Nat) : Val := .tup [.str [121, 101, 115], .ref r]
def nopV (i x : Nat) : Val := .tup [.str [110, 111], .tup [.int (i : Nat), .ref x]]
/-- a fence on the heap -/
structure FenAt (S : Store) (lo x : Nat) (D : DL) : Prop where
  get : S.get x = some (.lst ((D.map (·.1)).map rlV))
  lo : lo ≤ x
  hi : x < S.nx
theorem FenAt.keep {S S' : Store} {lo x : Nat} {D : DL} (h : FenAt S lo x D) (k : Kp [] S S') : FenAt S' lo x D := ⟨(k.get x h.hi (by simp)).trans h.get, h.lo, Nat.lt_of_lt_of_le h.hi k.nx⟩
/-- what rules_by tells -/
inductive RbR (A B : List (T1 × T1)) (lo : Nat) (S : Store) : Val → Prop
  | yes (r : Nat) : (∀ p ∈ A, canB B p = true) → S.get r = some (.lst (A.map (lsV B))) → lo ≤ r → r < S.nx → RbR A B lo S (yesV r)
  | no (i x : Nat) (l r : T1) (D : DL) : NoAt A B i l r D → FenAt S lo x D → RbR A B lo S (nopV i x)
theorem RbR.keep {A B : List (T1 × T1)} {lo : Nat} {S S' : Store} {v : Val} (h : RbR A B lo S v) (k : Kp [] S S') : RbR A B lo S' v := by
  cases h with
  | yes r h1 h2 h3 h4 => exact .yes r h1 ((k.get r h4 (by simp)).trans h2) h3 (Nat.lt_of_lt_of_le h4 k.nx)
  | no i x l r D h1 h2 => exact .no i x l r D h1 (h2.keep k)
/-- what leads_same tells -/
inductive LdR (R O : List (T1 × T1)) (lo : Nat) (S : Store) : Val → Prop
  | yes (r1 r2 : Nat) : (∀ p ∈ R, canB O p = true) → (∀ p ∈ O, canB R p = true) → S.get r1 = some (.lst (R.map (lsV O))) → S.get r2 = some (.lst (O.map (lsV R))) → lo ≤ r1 → r1 < r2 → r2 < S.nx → LdR R O lo S (.tup [.str [121, 101, 115], .tup [.ref r1, .ref r2]])
  | fst (i x : Nat) (l r : T1) (D : DL) : NoAt R O i l r D → FenAt S lo x D → LdR R O lo S (.tup [.str [110, 111], .tup [.int 0, .int (i : Nat), .ref x]])
  | snd (i x : Nat) (l r : T1) (D : DL) : (∀ p ∈ R, canB O p = true) → NoAt O R i l r D → FenAt S lo x D → LdR R O lo S (.tup [.str [110, 111], .tup [.int 1, .int (i : Nat), .ref x]])
section
variable {tb : Tb} {kz ko kp k9 k19 ks klo kby kch klc klr kT kn kt kl kr kL kru kln kls kwo knu xNR fNR ktr kbc klt kle kld krb ksm ksp : Nat} {n : Nat} {R O : List (T1 × T1)} {S : Store} {X : XP} {Q : Val → Store → Prop}
end
set_option exponentiation.threshold 3000
/-! is_unlike, _law_numbers, what repr tells -/
open PySem
def iun0 (knu : Nat) : C := sIf (eOr (eNot (eIsI (eVar 2) aTup)) (eOr (eOp oNe (eB bLen (elCons (eVar 2) (elNil))) (eC (.int 3))) (eNot (eCallP knu (elCons (eOp oIx (eVar 2) (eC (.int 0))) (elCons (eC (.int 2)) (elNil))))))) (cSeq (sRet (eC (.bool false))) (cNil)) (cNil)
def iun1 : C := sAsg (tTup 2 (tCons (tName 3) (tCons (tName 4) (tNil)))) (eIf (eOp oEq (eOp oIx (eVar 2) (eC (.int 0))) (eC (.int 0))) (eTup (elCons (eVar 0) (elCons (eVar 1) (elNil)))) (eTup (elCons (eVar 1) (elCons (eVar 0) (elNil)))))
def iun2 (knu : Nat) : C := sIf (eNot (eCallP knu (elCons (eOp oIx (eVar 2) (eC (.int 1))) (elCons (eB (bLenJ 2) (elCons (eVar 3) (elNil))) (elNil))))) (cSeq (sRet (eC (.bool false))) (cNil)) (cNil)
def iun3 : C := sAsg (tTup 2 (tCons (tName 5) (tCons (tName 6) (tNil)))) (eOp oIx (eMeth (eVar 3) mRules elNil) (eOp oIx (eVar 2) (eC (.int 1))))
def iun4 (kfe : Nat) : C := sRet (eCall kfe (elCons (eVar 4) (elCons (eVar 5) (elCons (eVar 6) (elCons (eOp oIx (eVar 2) (eC (.int 2))) (elNil))))))
def d_isunlike (knu : Nat) (kfe : Nat) : C := cSeq (iun0 knu) (cSeq iun1 (cSeq (iun2 knu) (cSeq iun3 (cSeq (iun4 kfe) (cNil)))))
def lnu0 : C := sAsg (tName 2) (eOp oAdd (eLc (cFor [4, 5] (tTup 2 (tCons (tName 4) (tCons (tName 5) (tNil)))) (iVal (eVar 0)) (cElt (eVar 4)))) (eLc (cFor [4, 5] (tTup 2 (tCons (tName 4) (tCons (tName 5) (tNil)))) (iVal (eVar 0)) (cElt (eVar 5)))))
def lnu1 (kle : Nat) : C := sAsg (tName 3) (eCall kle (elCons (eVar 1) (elCons (eVar 2) (elNil))))
def lnu2 : C := sRet (eLc (cFor [4, 5] (tTup 2 (tCons (tName 4) (tCons (tName 5) (tNil)))) (iVal (eVar 0)) (cElt (eBm .dct mGet (eVar 3) (elCons (eTup (elCons (eVar 4) (elCons (eVar 5) (elNil)))) (elNil))))))
def d_lnumbers (kle : Nat) : C := cSeq lnu0 (cSeq (lnu1 kle) (cSeq lnu2 (cNil)))
section
variable {tb : Tb} {kz ko kp k9 k19 ks klo kby kch klc klr kT kn kt kl kr kL kru kln kls kwo knu xNR fNR kap kcl kfe kun : Nat} {n : Nat} {A B : List (T1 × T1)} {L : List (T1 × T1)} {S : Store} {X : XP} {Q : Val → Store → Prop}
end
/-! the law's numbers -/
noncomputable def laO (B : List (T1 × T1)) (p : T1 × T1) : Option Nat := bif canB B p then some (lstN B p) else .none
noncomputable def laV (B : List (T1 × T1)) (p : T1 × T1) : Val := onV (laO B p)
section
variable {tb : Tb} {lz lo lp lt kle knu : Nat} {n : Nat} {A B : List (T1 × T1)} {S : Store} {X : XP} {Q : Val → Store → Prop}
end
/-! what repr tells -/
set_option exponentiation.threshold 3000
/-! a finer bound of least numbers -/
theorem rankAB_step {R : List (T1 × T1)} {P A B : List T1} (cx : TCx R P) (ab : AB R P A B) (k : Nat) (ih : ∀ k', k' + 1 = k → ∀ (p : T1 × T1) (j n : Nat), p ∈ pairsAB A B → Cnt (fun q => Before R q p) (pairsAB A B) j → j ≤ k' → Lst R p.1 p.2 n → n < 4 ^ (k' + 1)) : ∀ (p : T1 × T1) (j n : Nat), p ∈ pairsAB A B → Cnt (fun q => Before R q p) (pairsAB A B) j → j ≤ k → Lst R p.1 p.2 n → n < 4 ^ (k + 1)
  | (u, v), j, n, hp, hc, hj, hn => by
    obtain ⟨hu, hv⟩ := mem_pairsAB.mp hp
    have hn : Lst R u v n := hn
    have key : ∀ q : T1 × T1, q ∈ pairsAB A B → Before R q (u, v) → ∀ m, Lst R q.1 q.2 m → 1 ≤ k ∧ m < 4 ^ k := fun q hq hb m hm => by
      obtain ⟨i, hi, _⟩ := Cnt.ex (B := fun r => Before R r q) (pairsAB A B)
      have := Cnt.lt (B := fun r => Before R r q) (C := fun r => Before R r (u, v)) (fun r hr => hr.trans hb) (p := q) (fun hr => hr.irrefl) hb hq hi hc
      cases k with
      | zero => omega
      | succ k => exact ⟨by omega, ih k rfl q i m hq hi (by omega) hm⟩
    have p4 : 4 ^ (k + 1) = 4 * 4 ^ k := by rw [Nat.pow_succ, Nat.mul_comm]
    have pos : 0 < 4 ^ k := Nat.pow_pos (by decide)
    rcases hn.last with ⟨e1, e2⟩ | ⟨s, ts, us, e1, e2, hl⟩ | ⟨l, r, a, b, hr, ha, hb, e⟩
    · omega
    · subst e1 e2
      have h4 := cx.four s ts (ab.a1 _ hu)
      have lk := len_szs ts
      have := hl.bound (k := 4 ^ k) fun t w a ht hw hta hle => (key (t, w) (mem_pairsAB.mpr ⟨ab.ka s ts hu t ht, ab.kb s us hv w hw⟩) ⟨a, n, hta, hn, by
        have h1 := szs_mem2 (s := s) ht
        have h2 := szs_mem2 (s := s) hw
        rcases Nat.lt_or_ge a n with q | q
        · exact .inl q
        · exact .inr ⟨by omega, by show sz t + sz w < sz (.mk s ts) + sz (.mk s us); omega⟩⟩ a hta).2
      have : ts.length * 4 ^ k ≤ 4 * 4 ^ k := Nat.mul_le_mul_right _ h4
      cases ts with
      | nil => cases hl; omega
      | cons t ts => rw [List.length_cons] at *; omega
    · have h1 := key (u, l) (mem_pairsAB.mpr ⟨hu, ab.lb l r hr⟩) ⟨a, n, ha, hn, .inl (by omega)⟩ a ha
      have h2 := key (r, v) (mem_pairsAB.mpr ⟨ab.ra l r hr, hv⟩) ⟨b, n, hb, hn, .inl (by omega)⟩ b hb
      omega
theorem rankAB_bound {R : List (T1 × T1)} {P A B : List T1} (cx : TCx R P) (ab : AB R P A B) (k : Nat) : ∀ (p : T1 × T1) (j n : Nat), p ∈ pairsAB A B → Cnt (fun q => Before R q p) (pairsAB A B) j → j ≤ k → Lst R p.1 p.2 n → n < 4 ^ (k + 1) := by
  induction k with
  | zero => exact rankAB_step cx ab 0 fun k' h => by omega
  | succ k ih => exact rankAB_step cx ab (k + 1) fun k' h => (show k' = k by omega) ▸ ih
theorem ab_lenW {R : List (T1 × T1)} {M : Nat} (hM : szR R ≤ M) {t u : T1} {a b K : Nat} (ht : sz t ≤ a) (hu : sz u ≤ b) (hK : ∀ x, x < M + 1 → (a + x) * (b + (M - x)) ≤ K) : (pairsAB (sideA R t) (sideB R u)).length ≤ K := by
  have h : ∀ R : List (T1 × T1), (R.flatMap fun p => subs p.2).length + (R.flatMap fun p => subs p.1).length = szR R := by
    intro R
    induction R with
    | nil => rfl
    | cons p r ih => rw [List.flatMap_cons, List.flatMap_cons, List.length_append, List.length_append, subs_len, subs_len, szR]; omega
  have h1 := h R
  rw [pairsAB_len]
  unfold sideA sideB
  rw [List.length_append, List.length_append, subs_len, subs_len]
  generalize (R.flatMap fun p => subs p.2).length = x at *
  generalize (R.flatMap fun p => subs p.1).length = y at *
  exact Nat.le_trans (Nat.mul_le_mul (show sz t + x ≤ a + x by omega) (show sz u + y ≤ b + (M - x) by omega)) (hK x (by omega))
theorem lst_bound {R : List (T1 × T1)} {t u : T1} (cx : TCx R (told R [t, u])) {n : Nat} (h : Lst R t u n) (hK : (pairsAB (sideA R t) (sideB R u)).length ≤ 900) : n < 2 ^ 1802 := by
  have hp : (t, u) ∈ pairsAB (sideA R t) (sideB R u) := mem_pairsAB.mpr ⟨by unfold sideA; exact List.mem_append.mpr (.inl (subs_self t)), by unfold sideB; exact List.mem_append.mpr (.inl (subs_self u))⟩
  obtain ⟨j, hj, hle⟩ := Cnt.ex (B := fun q => Before R q (t, u)) (pairsAB (sideA R t) (sideB R u))
  have h1 := rankAB_bound cx (ab_ok R t u) j (t, u) j n hp hj (Nat.le_refl _) h
  have h3 : 4 ^ (j + 1) ≤ 2 ^ 1802 := by
    rw [show (4 : Nat) = 2 ^ 2 from rfl, ← Nat.pow_mul]
    exact Nat.pow_le_pow_right (by decide) (by omega)
  exact Nat.lt_of_lt_of_le h1 h3
set_option exponentiation.threshold 3000
/-! the law k58: small facts -/
open PySem
def y58_0 : C := sIf (eOr (eOp oNe (eB bReprN (elCons (eTup (elCons (eVar 8) (elCons (eVar 9) (elNil)))) (elNil))) (eB bReprN (elCons (eTup (elCons (eC (.str [121, 101, 115])) (elCons (eTup (elCons (eOp oIx (eVar 7) (eC (.int 0))) (elCons (eOp oIx (eVar 7) (eC (.int 1))) (elNil)))) (elNil)))) (elNil)))) (eOp oIsNot (eCall 35 (elCons (eVar 5) (elCons (eVar 6) (elCons (eVar 9) (elNil))))) (eC (.bool false)))) (cSeq (sRet (eC (.bool false))) (cNil)) (cNil)
def y58_1 : C := sExpr (eBm .lst mAppend (eOp oIx (eVar 9) (eC (.int 0))) (elCons (eC .none) (elNil)))
def y58_2 : C := sIf (eOp oNe (eB bReprN (elCons (eOp oIx (eVar 9) (eC (.int 1))) (elNil))) (eB bReprN (elCons (eOp oIx (eVar 7) (eC (.int 1))) (elNil)))) (cSeq (sRet (eC (.bool false))) (cNil)) (cNil)
def y58_3 : C := sRet (eOp oEq (eB bReprN (elCons (eCall 34 (elCons (eVar 5) (elCons (eVar 6) (elNil)))) (elNil))) (eB bReprN (elCons (eTup (elCons (eC (.str [121, 101, 115])) (elCons (eTup (elCons (eOp oIx (eVar 7) (eC (.int 0))) (elCons (eOp oIx (eVar 7) (eC (.int 1))) (elNil)))) (elNil)))) (elNil))))
def c_tY58 : C := cSeq y58_0 (cSeq y58_1 (cSeq y58_2 (cSeq y58_3 (cNil))))
def s58_0 : C := sAsg (tName 1) (eCall 36 (elCons (eVar 0) (elCons (eC (.int 0)) (elNil))))
def s58_1 : C := sAsg (tName 2) (eCall 39 (elCons (eVar 1) (elNil)))
def s58_2 : C := sAsg (tName 3) (eCall 55 (elCons (eVar 1) (elCons (eVar 2) (elNil))))
def s58_3 : C := sAsg (tName 4) (eIf (eOp oEq (eCall 37 (elCons (eVar 1) (elCons (eC (.int 4)) (elNil)))) (eC (.int 0))) (eCall 55 (elCons (eVar 1) (elCons (eVar 2) (elNil)))) (eCall 56 (elCons (eVar 1) (elCons (eVar 2) (elCons (eVar 3) (elNil))))))
def s58_4 : C := sPar [5, 6, 7] (elCons (eNew 0 11 (elCons (eVar 3) (elNil))) (elCons (eNew 0 11 (elCons (eVar 4) (elNil))) (elCons (eLst (elCons (eCall 57 (elCons (eVar 3) (elCons (eVar 4) (elNil)))) (elCons (eCall 57 (elCons (eVar 4) (elCons (eVar 3) (elNil)))) (elNil)))) (elNil))))
def s58_5 : C := sAsg (tTup 2 (tCons (tName 8) (tCons (tName 9) (tNil)))) (eCall 34 (elCons (eVar 5) (elCons (eVar 6) (elNil))))
def s58_6 : C := sIf (eOp oNotIn (eC .none) (eOp oAdd (eOp oIx (eVar 7) (eC (.int 0))) (eOp oIx (eVar 7) (eC (.int 1))))) c_tY58 (cNil)
def s58_7 : C := sIf (eOr (eOp oNe (eVar 8) (eC (.str [110, 111]))) (eOr (eNot (eIsI (eVar 9) aTup)) (eOp oNe (eB bLen (elCons (eVar 9) (elNil))) (eC (.int 3))))) (cSeq (sRet (eC (.bool false))) (cNil)) (cNil)
def s58_8 : C := sAsg (tTup 3 (tCons (tName 10) (tCons (tName 11) (tCons (tName 12) (tNil))))) (eVar 9)
def s58_9 : C := sAsg (tName 13) (eIf (eOp oIn (eC .none) (eOp oIx (eVar 7) (eC (.int 0)))) (eLst (elCons (eC (.int 0)) (elCons (eBm .lst mIndexL (eOp oIx (eVar 7) (eC (.int 0))) (elCons (eC .none) (elNil))) (elNil)))) (eLst (elCons (eC (.int 1)) (elCons (eBm .lst mIndexL (eOp oIx (eVar 7) (eC (.int 1))) (elCons (eC .none) (elNil))) (elNil)))))
def s58_10 : C := sIf (eOr (eOp oNe (eB bReprN (elCons (eLst (elCons (eVar 10) (elCons (eVar 11) (elNil)))) (elNil))) (eB bReprN (elCons (eVar 13) (elNil)))) (eOp oIsNot (eCall 35 (elCons (eVar 5) (elCons (eVar 6) (elCons (eVar 9) (elNil))))) (eC (.bool true)))) (cSeq (sRet (eC (.bool false))) (cNil)) (cNil)
def s58_11 : C := sAsg (tTup 2 (tCons (tName 14) (tCons (tName 15) (tNil)))) (eOp oIx (eIf (eOp oEq (eVar 10) (eC (.int 0))) (eVar 3) (eVar 4)) (eVar 11))
def s58_12 : C := sIf (eNot (eCall 52 (elCons (eIf (eOp oEq (eVar 10) (eC (.int 0))) (eVar 4) (eVar 3)) (elCons (eVar 14) (elCons (eVar 15) (elCons (eVar 12) (elNil))))))) (cSeq (sRet (eC (.bool false))) (cNil)) (cNil)
def s58_13 : C := sIf (eOp oIsNot (eCall 35 (elCons (eVar 5) (elCons (eVar 6) (elCons (eTup (elCons (eVar 10) (elCons (eVar 11) (elCons (eOp oAdd (eVar 12) (eSl (eVar 12) (eoNone) (eoSome (eC (.int 1))))) (elNil))))) (elNil))))) (eC (.bool false))) (cSeq (sRet (eC (.bool false))) (cNil)) (cNil)
def s58_14 : C := sAsg (tName 16) (eB bReprN (elCons (eTup (elCons (eVar 8) (elCons (eVar 9) (elNil)))) (elNil)))
def s58_15 : C := sExpr (eBm .lst mAppend (eVar 12) (elCons (eC .none) (elNil)))
def s58_16 : C := sRet (eAnd (eOp oEq (eB bReprN (elCons (eCall 34 (elCons (eVar 5) (elCons (eVar 6) (elNil)))) (elNil))) (eVar 16)) (eOp oEq (eLst (elCons (eMeth (eVar 5) mRules elNil) (elCons (eMeth (eVar 6) mRules elNil) (elNil)))) (eLst (elCons (eVar 3) (elCons (eVar 4) (elNil))))))
def c_tN58 : C := cSeq s58_7 (cSeq s58_8 (cSeq s58_9 (cSeq s58_10 (cSeq s58_11 (cSeq s58_12 (cSeq s58_13 (cSeq s58_14 (cSeq s58_15 (cSeq s58_16 (cNil))))))))))
def c_tL58 : C := cSeq s58_5 (cSeq s58_6 c_tN58)
def c_law58 : C := cSeq s58_0 (cSeq s58_1 (cSeq s58_2 (cSeq s58_3 (cSeq s58_4 (c_tL58)))))
structure F58 (tb : Tb) : Prop where
  T : TbOk tb 4 7 8 10 20 6 23 26 22 24 25 21
  M : MkLot tb 4 7 8 10 2 3 5 9 11
  hru : tb.fn 12 = ⟨1, 1, c_rules⟩
  mru : tb.meth cLot mRules = some 12
  hln : tb.fn 14 = ⟨1, 1, c_llen⟩
  mln : tb.meth cLot 2 = some 14
  hnu : tb.fn 1 = ⟨2, 2, c_isnumber⟩
  hbc : tb.fn 27 = ⟨3, 3, c_becomes⟩
  mbc : tb.meth cTab mBec = some 27
  hap : tb.fn 29 = ⟨2, 3, d_arepairs 3⟩
  hcl : tb.fn 30 = ⟨3, 9, d_isclosed 6⟩
  hfe : tb.fn 31 = ⟨4, 6, d_isfence 20 29 30⟩
  hld : tb.fn 32 = ⟨3, 4, d_led 21⟩
  hrb : tb.fn 33 = ⟨2, 8, d_rulesby 32⟩
  hsm : tb.fn 34 = ⟨2, 6, d_leads 33⟩
  hun : tb.fn 35 = ⟨3, 7, d_isunlike 1 31⟩
  lf : tb.fn 36 = ⟨2, 4, cFeed⟩
  lt : tb.fn 37 = ⟨2, 3, cTake⟩
  lp : tb.fn 38 = ⟨2, 2, cPick 37⟩
  ln : tb.fn 39 = ⟨1, 2, c_names 38⟩
  lg : tb.fn 40 = ⟨4, 10, c_grow4 37 38 40⟩
  lr : tb.fn 41 = ⟨3, 3, c_tree 40⟩
  llv : tb.fn 42 = ⟨1, 2, c_llevels 42⟩
  llz : tb.fn 43 = ⟨1, 2, c_lsize 43⟩
  lpt : tb.fn 44 = ⟨1, 3, c_lparts 44⟩
  lor : tb.fn 45 = ⟨1, 4, c_lordered 43⟩
  ltd : tb.fn 46 = ⟨2, 6, c_ltold 45 44⟩
  lpl : tb.fn 47 = ⟨1, 6, c_lplaces 47⟩
  lpu : tb.fn 48 = ⟨3, 4, c_lput 48⟩
  lst : tb.fn 49 = ⟨2, 7, c_lsteps 47 48⟩
  ldu : tb.fn 50 = ⟨4, 9, d_ldue⟩
  lle : tb.fn 51 = ⟨2, 16, c_lleast 46⟩
  lif : tb.fn 52 = ⟨4, 10, d_lisfence 46 50⟩
  lrs : tb.fn 53 = ⟨5, 9, c_lrules 41 43⟩
  lwa : tb.fn 54 = ⟨4, 10, c_lwander 49 42 43 38⟩
  lfw : tb.fn 55 = ⟨2, 4, d_few 38 53⟩
  llk : tb.fn 56 = ⟨3, 11, d_like 37 38 54 53 43⟩
  lnu : tb.fn 57 = ⟨2, 6, d_lnumbers 51⟩
  law : tb.fn 58 = ⟨1, 17, c_law58⟩
theorem F58.fl {tb : Tb} (F : F58 tb) : FL tb 4 7 8 10 20 6 23 26 22 24 25 21 2 3 5 9 11 12 14 29 19 1 2 0 := ⟨F.T, F.M, F.hru, F.mru, F.hln, F.mln, F.hnu⟩
theorem F58.lk {tb : Tb} (F : F58 tb) : FLk tb 37 38 40 41 42 43 47 48 49 53 54 55 := ⟨F.lt, F.lp, F.lg, F.lr, F.llv, F.llz, F.lpl, F.lpu, F.lst, F.lrs, F.lwa, F.lfw⟩
/-- the drawn rules -/
structure R58 (R : List (T1 × T1)) : Prop where
  each : ∀ p ∈ R, RlOk p ∧ sz p.1 ≤ 4 ∧ sz p.2 ≤ 4
  nd : R.Nodup
  len : R.length ≤ 3
theorem R58.szb {R : List (T1 × T1)} (h : R58 R) : szR R ≤ 24 := by
  have h1 := szR_each (m := 4) fun p hp => (h.each p hp).2
  have h2 := h.len
  omega
theorem R58.ltR {R : List (T1 × T1)} (h : R58 R) : LtR R := by
  have h1 := h.szb
  have h2 := h.len
  have h3 := ordT_len (subsR R)
  rw [subsR_len] at h3
  exact ⟨⟨fun p hp => (h.each p hp).1, by omega, by omega⟩, by omega, h.nd⟩
theorem R58.lv {R : List (T1 × T1)} (h : R58 R) : ∀ p ∈ R, lv p.1 ≤ 17 ∧ lv p.2 ≤ 17 := fun p hp => by
  have := (h.each p hp).1
  have a := this.l1
  have b := this.l2
  omega
theorem R58.bnd {A B : List (T1 × T1)} (hA : R58 A) (hB : R58 B) : ∀ p ∈ A, lstN B p < 2 ^ 1802 := fun p hp => by
  obtain ⟨t1, t2⟩ := (hA.each p hp).1.tr1
  obtain ⟨cx, _, _, _⟩ := twoW hB.ltR.w t1 t2
  obtain ⟨z1, z2⟩ := (hA.each p hp).2
  by_cases c : ∃ n, Lst B p.1 p.2 n
  · obtain ⟨n, hn⟩ := c
    rw [lstN_eq hn]
    exact lst_bound cx hn (ab_lenW (M := 24) hB.szb z1 z2 (by decide))
  · unfold lstN
    rw [dif_neg c]
    exact Nat.pow_pos (by decide)
/-- what a fence holds -/
theorem NoAt.cl {A B : List (T1 × T1)} {i : Nat} {l r : T1} {D : DL} (h : NoAt A B i l r D) (hA : R58 A) (hB : R58 B) : Cl B (told B [l, r]) (D.map (·.1)) ∧ (l, r) ∉ D.map (·.1) ∧ TrOk l ∧ TrOk r ∧ (D.map (·.1)).length ≤ 4000 ∧ i ≤ 2 ∧ ∀ p ∈ D.map (·.1), (TrOk p.1 ∧ TrOk p.2) ∧ sz p.1 ≤ 4 ∧ sz p.2 ≤ 4 := by
  have hm := List.mem_of_getElem? h.at'
  have hi := (List.getElem?_eq_some_iff.mp h.at').1
  have hl := hA.len
  obtain ⟨t1, t2⟩ := (hA.each _ hm).1.tr1
  have t1 : TrOk l := t1
  have t2 : TrOk r := t2
  obtain ⟨z1, z2⟩ := (hA.each _ hm).2
  have z1 : sz l ≤ 4 := z1
  have z2 : sz r ≤ 4 := z2
  obtain ⟨cx, hall, ml, mr⟩ := twoW hB.ltR.w t1 t2
  have hcl := h.full.cl cx
  have hs : ∀ y ∈ told B [l, r], sz y ≤ 4 := fun y hy => by
    rcases mem_told.mp hy with e | e
    · obtain ⟨p, h1, h2⟩ := mem_subsR.mp e
      have hz := (hB.each p h1).2
      rcases h2 with h2 | h2
      · have := (subs_le _ h2).2; omega
      · have := (subs_le _ h2).2; omega
    · obtain ⟨t, h1, h2⟩ := mem_subsL.mp e
      have := (subs_le _ h2).2
      rcases List.mem_cons.mp h1 with e | e
      · rw [e] at this; omega
      · rw [List.mem_singleton] at e; rw [e] at this; omega
  have hP : (told B [l, r]).length ≤ 32 := by
    have h1 : (told B [l, r]).length ≤ (subsR B ++ subsL [l, r]).length := ordT_len _
    rw [List.length_append, subsR_len, subsL_len, szs, szs, szs] at h1
    have := hB.szb
    omega
  refine ⟨hcl, fun hk => ?_, t1, t2, Nat.le_trans hcl.len (Nat.le_trans (Nat.mul_le_mul hP hP) (by decide)), by omega, fun p hp => ?_⟩
  · have := canB_iff (p := (l, r)).mpr ((h.full.key ml mr).mp hk)
    rw [h.no] at this; cases this
  · obtain ⟨m1, m2⟩ := hcl.sub p hp
    exact ⟨⟨hall _ m1, hall _ m2⟩, hs _ m1, hs _ m2⟩
/-! None in a list of numbers -/
set_option exponentiation.threshold 3000
/-! the law k58: both answers -/
open PySem
/-- what stands when leads_same was asked -/
structure E58 (N0 : Nat) (S : Store) (lr lo a lka b lkb ll d1 d2 : Nat) (R O : List (T1 × T1)) : Prop where
  gr : S.get lr = some (.lst (R.map rlV))
  r1 : lr < N0
  go : S.get lo = some (.lst (O.map rlV))
  o1 : lo < N0
  la : LotAt S a lka R
  a1 : a < N0 ∧ lka < N0
  lb : LotAt S b lkb O
  b1 : b < N0 ∧ lkb < N0
  gl : S.get ll = some (.lst [.ref d1, .ref d2])
  l1 : ll < N0
  g1 : S.get d1 = some (.lst (R.map (laV O)))
  n1 : d1 < N0
  g2 : S.get d2 = some (.lst (O.map (laV R)))
  n2 : d2 < N0
  nN : N0 ≤ S.nx
theorem E58.keepX {N0 : Nat} {S S' : Store} {lr lo a lka b lkb ll d1 d2 : Nat} {R O : List (T1 × T1)} (c : E58 N0 S lr lo a lka b lkb ll d1 d2 R O) {Xs : List Nat} (k : Kp Xs S S') (h : ∀ x ∈ Xs, N0 ≤ x) : E58 N0 S' lr lo a lka b lkb ll d1 d2 R O := by
  have ne : ∀ y, y < N0 → y ∉ Xs := fun y hy hm => by have := h y hm; omega
  have nN := c.nN
  have lt : ∀ y, y < N0 → y < S.nx := fun y hy => by omega
  exact ⟨(k.get lr (lt _ c.r1) (ne _ c.r1)).trans c.gr, c.r1, (k.get lo (lt _ c.o1) (ne _ c.o1)).trans c.go, c.o1, c.la.keep k (ne _ c.a1.1) (ne _ c.a1.2), c.a1, c.lb.keep k (ne _ c.b1.1) (ne _ c.b1.2), c.b1, (k.get ll (lt _ c.l1) (ne _ c.l1)).trans c.gl, c.l1, (k.get d1 (lt _ c.n1) (ne _ c.n1)).trans c.g1, c.n1, (k.get d2 (lt _ c.n2) (ne _ c.n2)).trans c.g2, c.n2, Nat.le_trans nN k.nx⟩
theorem E58.keep {N0 : Nat} {S S' : Store} {lr lo a lka b lkb ll d1 d2 : Nat} {R O : List (T1 × T1)} (c : E58 N0 S lr lo a lka b lkb ll d1 d2 R O) (k : Kp [] S S') : E58 N0 S' lr lo a lka b lkb ll d1 d2 R O := c.keepX k fun x hx => by cases hx
theorem eqS_self (x : List Nat) : eqQ (.str x) (.str x) = true := by rw [eqQ_str, decide_eq_true rfl]
section
variable {tb : Tb} {n : Nat} {R O : List (T1 × T1)} {S : Store} {N0 lr lo a lka b lkb ll d1 d2 : Nat}
end
/-! the law k58, whole -/
section
variable {tb : Tb} {n : Nat} {R O : List (T1 × T1)} {S : Store} {X : XP} {Q : Val → Store → Prop} {N0 lr lo a lka b lkb ll d1 d2 : Nat}
end
/-! what is the number of no rule -/
inductive OddV (S : Store) (b : Nat) : Val → Prop
  | int (i : Int) : ¬ (0 ≤ i ∧ i < b) → OddV S b (.int i)
  | none : OddV S b .none
  | bool (x : Bool) : OddV S b (.bool x)
  | str (s : List Nat) : OddV S b (.str s)
  | tup : OddV S b (.tup [])
  | lst (n : Nat) (xs : List Val) : S.get n = some (.lst xs) → OddV S b (.ref n)
  | dct (n : Nat) (kvs : List (Val × Val)) : S.get n = some (.dct kvs) → OddV S b (.ref n)
theorem OddV.err {S : Store} {b : Nat} {v : Val} (h : OddV S b v) : isErr v = false := by cases h <;> rfl
theorem tg_dct {S : Store} {l : Nat} {xs : List (Val × Val)} (h : S.get l = some (.dct xs)) : tgOf S (.ref l) = some .dct := by
  show (match S.get l with | some (.lst _) => some Tg.lst | some (.dct _) => some .dct | some (.ins c _) => some (.own c) | _ => .none) = _
  rw [h]
section
variable {tb : Tb} {kn : Nat} {n b : Nat} {S : Store} {v : Val}
end
section
variable {tb : Tb} {kz ko kp k9 k19 ks klo kby kch klc klr kT kn kt kl kr kL kru kln kls kwo knu xNR fNR kld ksp krf : Nat} {n : Nat} {R : List (T1 × T1)} {S : Store} {X : XP} {Q : Val → Store → Prop} {v : Val}
end
set_option exponentiation.threshold 3000
/-! values of any kind, and what repr tells of them -/
open PySem PySem.Builtin PySem.Builtin.Str
/-! texts of texts -/
theorem ascii_repr : (List.range 128).all (fun c => ((reprChar 39 c).all fun d => Nat.blt d 128) && (Nat.ble (reprChar 39 c).length 4 && (((reprChar 34 c).all fun d => Nat.blt d 128) && Nat.ble (reprChar 34 c).length 4))) = true := by decide +kernel
theorem ascii_char {q c : Nat} (hq : q = 39 ∨ q = 34) (hc : c < 128) : (∀ d ∈ reprChar q c, d < 128) ∧ (reprChar q c).length ≤ 4 := by
  have := List.all_eq_true.mp ascii_repr c (List.mem_range.mpr hc)
  simp only [Bool.and_eq_true] at this
  obtain ⟨h1, h2, h3, h4⟩ := this
  rcases hq with e | e
  · rw [e]; exact ⟨fun d hd => Nat.blt_eq.mp (List.all_eq_true.mp h1 d hd), Nat.le_of_ble_eq_true h2⟩
  · rw [e]; exact ⟨fun d hd => Nat.blt_eq.mp (List.all_eq_true.mp h3 d hd), Nat.le_of_ble_eq_true h4⟩
theorem ascii_fold {q : Nat} (hq : q = 39 ∨ q = 34) : ∀ (xs : List Nat) (acc : Array Nat), (∀ c ∈ xs, c < 128) → (∀ c ∈ acc.toList, c < 128) → (∀ c ∈ (xs.foldl (fun out c => out ++ (reprChar q c).toArray) acc).toList, c < 128) ∧ (xs.foldl (fun out c => out ++ (reprChar q c).toArray) acc).toList.length ≤ acc.toList.length + 4 * xs.length
  | [], acc, _, ha => ⟨ha, Nat.le_refl _⟩
  | x :: r, acc, h, ha => by
    obtain ⟨h1, h2⟩ := ascii_char hq (h x List.mem_cons_self)
    obtain ⟨k1, k2⟩ := ascii_fold hq r (acc ++ (reprChar q x).toArray) (fun c hc => h c (List.mem_cons_of_mem _ hc)) (fun c hc => by
      rw [Array.toList_append] at hc
      rcases List.mem_append.mp hc with e | e
      · exact ha c e
      · exact h1 c (by simpa using e))
    refine ⟨k1, ?_⟩
    rw [List.foldl_cons]
    refine Nat.le_trans k2 ?_
    rw [Array.toList_append, List.length_append, List.length_cons]
    have : (reprChar q x).toArray.toList.length ≤ 4 := by simpa using h2
    omega
theorem sw_text {s : List Nat} (h : ∀ c ∈ s, c < 128) : Sw (4 * s.length + 2) (reprText ⟨s.toArray⟩) := by
  have hq : reprQuote ⟨s.toArray⟩ = 39 ∨ reprQuote ⟨s.toArray⟩ = 34 := by
    unfold reprQuote
    split
    · exact .inr rfl
    · exact .inl rfl
  generalize hQ : reprQuote ⟨s.toArray⟩ = q at hq
  have hq8 : q < 128 := by rcases hq with e | e <;> omega
  have e : cpl (reprText ⟨s.toArray⟩) = (s.foldl (fun out c => out ++ (reprChar q c).toArray) #[q]).toList ++ [q] := by
    unfold reprText
    rw [hQ]
    show ((s.toArray.foldl (fun out c => out ++ (reprChar q c).toArray) #[q]).push q).toList = _
    rw [Array.toList_push, ← Array.foldl_toList]
  obtain ⟨h1, h2⟩ := ascii_fold hq s #[q] h (fun c hc => by
    have : c = q := by simpa using hc
    omega)
  refine ⟨fun c hc => ?_, ?_⟩
  · rw [e] at hc
    rcases List.mem_append.mp hc with k | k
    · exact h1 c k
    · rw [List.mem_singleton.mp k]; exact hq8
  · rw [e, List.length_append]
    have : (#[q] : Array Nat).toList.length = 1 := rfl
    have : ([q] : List Nat).length = 1 := rfl
    omega
/-- texts, with their bounds added up -/
inductive SwL : Nat → List Str → Prop
  | nil {N : Nat} : SwL N []
  | cons {A B N : Nat} {t : Str} {ts : List Str} : Sw A t → SwL B ts → A + 2 + B ≤ N → SwL N (t :: ts)
theorem swl_join : ∀ {N : Nat} {ts : List Str}, SwL N ts → Sw N (Str.join ", " ts)
  | _, [], _ => ⟨fun c hc => (by cases hc), Nat.zero_le _⟩
  | _, [t], h => by
    cases h with
    | cons a b c => exact a.mono (by omega)
  | _, t :: u :: r, h => by
    cases h with
    | cons a b c =>
      have h2 := swl_join b
      show Sw _ (t ++ ", " ++ Str.join ", " (u :: r))
      exact ((a.app sw_comma).app h2).mono (by omega)
theorem swl_tuple {N : Nat} {ts : List Str} (h : SwL N ts) : Sw (N + 3) (tupleText ts) := by
  unfold tupleText
  have h1 : Sw 1 ("(" : Str) := ⟨by rw [cpl_lit1]; decide, by rw [cpl_lit1]; decide⟩
  have h2 : Sw 2 ((if (ts.length == 1) = true then ",)" else ")" : String) : Str) := by
    cases ts.length == 1 with
    | true => exact ⟨by show ∀ c ∈ cpl (((",)" : String)) : Str), _; rw [cpl_lit3]; decide, by show (cpl (((",)" : String)) : Str)).length ≤ _; rw [cpl_lit3]; decide⟩
    | false => exact ⟨by show ∀ c ∈ cpl (((")" : String)) : Str), _; rw [cpl_lit4]; decide, by show (cpl (((")" : String)) : Str)).length ≤ _; rw [cpl_lit4]; decide⟩
  exact ((h1.app (swl_join h)).app h2).mono (by omega)
theorem swl_from : ∀ {N : Nat} {ts : List Str} {k M : Nat} {acc : Str}, SwL N ts → Sw M acc → Sw (M + N) (textFrom k acc ts)
  | _, [], k, M, acc, _, ha => ha.mono (Nat.le_add_right _ _)
  | _, t :: r, k, M, acc, h, ha => by
    cases h with
    | cons a b c =>
      have h2 : Sw 2 ((if k > 0 then ", " else "" : String) : Str) := by
        by_cases c : k > 0
        · rw [if_pos c]; exact sw_comma
        · rw [if_neg c]; exact ⟨by decide +kernel, by decide +kernel⟩
      show Sw _ (textFrom (k + 1) (acc ++ (if k > 0 then ", " else "" : String) ++ t) r)
      exact (swl_from b ((ha.app h2).app a)).mono (by omega)
theorem swl_list {N : Nat} {ts : List Str} (h : SwL N ts) : Sw (N + 2) (listText ts) := by
  unfold listText
  have h1 : Sw 1 ("[" : Str) := ⟨by decide +kernel, by decide +kernel⟩
  have h2 : Sw 1 ("]" : Str) := ⟨by decide +kernel, by decide +kernel⟩
  exact ((swl_from h h1).app h2).mono (by omega)
theorem swl_dict {N : Nat} {ts : List Str} (h : SwL N ts) : Sw (N + 2) (dictText ts) := by
  unfold dictText
  have h1 : Sw 1 ("{" : Str) := ⟨by decide +kernel, by decide +kernel⟩
  have h2 : Sw 1 ("}" : Str) := ⟨by decide +kernel, by decide +kernel⟩
  exact ((h1.app (swl_join h)).app h2).mono (by omega)
/-! values of any kind -/
mutual
/-- a value of at most so many levels, whose text has at most so many signs; its lists and dicts stand behind f -/
inductive GV (S : Store) (f : Nat) : Nat → Nat → Val → Prop
  | none {k N : Nat} : 4 ≤ N → GV S f (k + 1) N .none
  | bool {k N : Nat} (b : Bool) : 5 ≤ N → GV S f (k + 1) N (.bool b)
  | int {k N : Nat} (i : Int) : i.natAbs < 2 ^ 200 → 1001 ≤ N → GV S f (k + 1) N (.int i)
  | str {k N : Nat} {s : List Nat} : (∀ c ∈ s, c < 128) → 4 * s.length + 2 ≤ N → GV S f (k + 1) N (.str s)
  | tup {k N M : Nat} {vs : List Val} : GVs S f k M vs → M + 3 ≤ N → GV S f (k + 1) N (.tup vs)
  | lst {k N M n : Nat} {vs : List Val} : S.get n = some (.lst vs) → f < n → n < S.nx → GVs S f k M vs → M + 2 ≤ N → GV S f (k + 1) N (.ref n)
  | dct {k N M n : Nat} {kvs : List (Val × Val)} : S.get n = some (.dct kvs) → f < n → n < S.nx → GVk S f k M kvs → M + 2 ≤ N → GV S f (k + 1) N (.ref n)
inductive GVs (S : Store) (f : Nat) : Nat → Nat → List Val → Prop
  | nil {k N : Nat} : GVs S f k N []
  | cons {k A B N : Nat} {v : Val} {vs : List Val} : GV S f k A v → GVs S f k B vs → A + 2 + B ≤ N → GVs S f k N (v :: vs)
inductive GVk (S : Store) (f : Nat) : Nat → Nat → List (Val × Val) → Prop
  | nil {k N : Nat} : GVk S f k N []
  | cons {k A B C N : Nat} {p : Val × Val} {kvs : List (Val × Val)} : GV S f k A p.1 → GV S f k B p.2 → GVk S f k C kvs → A + 2 + B + 2 + C ≤ N → GVk S f k N (p :: kvs)
end
mutual
theorem GV.keep {S S' : Store} {f : Nat} (kp : Kp [f] S S') : ∀ {k N : Nat} {v : Val}, GV S f k N v → GV S' f k N v
  | _, _, _, .none h => .none h
  | _, _, _, .bool b h => .bool b h
  | _, _, _, .int i h1 h2 => .int i h1 h2
  | _, _, _, .str h1 h2 => .str h1 h2
  | _, _, _, .tup h1 h2 => .tup (GVs.keep kp h1) h2
  | _, _, _, .lst g h1 h2 h3 h4 => .lst ((kp.get _ h2 (by simp; omega)).trans g) h1 (Nat.lt_of_lt_of_le h2 kp.nx) (GVs.keep kp h3) h4
  | _, _, _, .dct g h1 h2 h3 h4 => .dct ((kp.get _ h2 (by simp; omega)).trans g) h1 (Nat.lt_of_lt_of_le h2 kp.nx) (GVk.keep kp h3) h4
theorem GVs.keep {S S' : Store} {f : Nat} (kp : Kp [f] S S') : ∀ {k N : Nat} {v : List Val}, GVs S f k N v → GVs S' f k N v
  | _, _, _, .nil => .nil
  | _, _, _, .cons h1 h2 h3 => .cons (GV.keep kp h1) (GVs.keep kp h2) h3
theorem GVk.keep {S S' : Store} {f : Nat} (kp : Kp [f] S S') : ∀ {k N : Nat} {v : List (Val × Val)}, GVk S f k N v → GVk S' f k N v
  | _, _, _, .nil => .nil
  | _, _, _, .cons h1 h2 h3 h4 => .cons (GV.keep kp h1) (GV.keep kp h2) (GVk.keep kp h3) h4
end
mutual
theorem GV.mono {S : Store} {f : Nat} : ∀ {k N : Nat} {v : Val}, GV S f k N v → ∀ {k' N' : Nat}, k ≤ k' → N ≤ N' → GV S f k' N' v
  | _, _, _, .none h, k' + 1, N', _, hN => .none (by omega)
  | _, _, _, .bool b h, k' + 1, N', _, hN => .bool b (by omega)
  | _, _, _, .int i h1 h2, k' + 1, N', _, hN => .int i h1 (by omega)
  | _, _, _, .str h1 h2, k' + 1, N', _, hN => .str h1 (by omega)
  | _, _, _, .tup h1 h2, k' + 1, N', hk, hN => .tup (GVs.mono h1 (by omega) (Nat.le_refl _)) (by omega)
  | _, _, _, .lst g h1 h2 h3 h4, k' + 1, N', hk, hN => .lst g h1 h2 (GVs.mono h3 (by omega) (Nat.le_refl _)) (by omega)
  | _, _, _, .dct g h1 h2 h3 h4, k' + 1, N', hk, hN => .dct g h1 h2 (GVk.mono h3 (by omega) (Nat.le_refl _)) (by omega)
  | _, _, _, .none _, 0, _, hk, _ => absurd hk (by omega)
  | _, _, _, .bool _ _, 0, _, hk, _ => absurd hk (by omega)
  | _, _, _, .int _ _ _, 0, _, hk, _ => absurd hk (by omega)
  | _, _, _, .str _ _, 0, _, hk, _ => absurd hk (by omega)
  | _, _, _, .tup _ _, 0, _, hk, _ => absurd hk (by omega)
  | _, _, _, .lst _ _ _ _ _, 0, _, hk, _ => absurd hk (by omega)
  | _, _, _, .dct _ _ _ _ _, 0, _, hk, _ => absurd hk (by omega)
theorem GVs.mono {S : Store} {f : Nat} : ∀ {k N : Nat} {v : List Val}, GVs S f k N v → ∀ {k' N' : Nat}, k ≤ k' → N ≤ N' → GVs S f k' N' v
  | _, _, _, .nil, _, _, _, _ => .nil
  | _, _, _, .cons h1 h2 h3, _, _, hk, hN => .cons (GV.mono h1 hk (Nat.le_refl _)) (GVs.mono h2 hk (Nat.le_refl _)) (by omega)
theorem GVk.mono {S : Store} {f : Nat} : ∀ {k N : Nat} {v : List (Val × Val)}, GVk S f k N v → ∀ {k' N' : Nat}, k ≤ k' → N ≤ N' → GVk S f k' N' v
  | _, _, _, .nil, _, _, _, _ => .nil
  | _, _, _, .cons h1 h2 h3 h4, _, _, hk, hN => .cons (GV.mono h1 hk (Nat.le_refl _)) (GV.mono h2 hk (Nat.le_refl _)) (GVk.mono h3 hk (Nat.le_refl _)) (by omega)
end
theorem digits_okI {i : Int} (h : i.natAbs < 2 ^ 200) : Sw 1001 (toString i : Str) := by
  have hn : i.natAbs < 2 ^ 1802 := Nat.lt_of_lt_of_le h (Nat.pow_le_pow_right (by decide) (by decide))
  cases i with
  | ofNat n =>
    obtain ⟨h1, h2⟩ := digits_ok (n := n) hn
    exact ⟨h1, Nat.le_trans h2 (by decide)⟩
  | negSucc n =>
    obtain ⟨h1, h2⟩ := digits_ok (n := n + 1) hn
    have e : cpl (toString (Int.negSucc n)) = 45 :: cpl (toString ((n + 1 : Nat) : Int)) := by
      show (Str.ofString (toString (Int.negSucc n))).cps.toList = 45 :: (Str.ofString (toString ((n + 1 : Nat) : Int))).cps.toList
      rw [Str.ofString_eq_toList, Str.ofString_eq_toList]
      have e1 : toString (Int.negSucc n) = "-" ++ (n + 1).repr := rfl
      have e2 : toString ((n + 1 : Nat) : Int) = (n + 1).repr := rfl
      rw [e1, e2, String.toList_append]
      simp
    refine ⟨fun c hc => ?_, ?_⟩
    · rw [e] at hc
      rcases List.mem_cons.mp hc with k | k
      · omega
      · exact h1 c k
    · rw [e, List.length_cons]; omega
theorem log_ok {i : Int} (h : i.natAbs < 2 ^ 200) : Nat.blt i.natAbs.log2 1920 = true := by
  rw [Nat.blt_eq]
  rcases Nat.eq_zero_or_pos i.natAbs with e | e
  · rw [e]; decide
  · have := (Nat.log2_lt (k := 200) (by omega : i.natAbs ≠ 0)).mpr h
    omega
theorem sw_none : Sw 4 (PyData.shown .none) := ⟨by decide +kernel, by decide +kernel⟩
theorem sw_true : Sw 5 (PyData.shown (.bool true)) := ⟨by decide +kernel, by decide +kernel⟩
theorem sw_false : Sw 5 (PyData.shown (.bool false)) := ⟨by decide +kernel, by decide +kernel⟩
mutual
theorem GV.shows {S : Store} {f : Nat} : ∀ {k N : Nat} {v : Val}, GV S f k N v → okD S k v = true ∧ (datD S k v).showable = true ∧ Sw N (datD S k v).shown
  | _, _, _, .none h => ⟨rfl, rfl, Sw.mono (N := 4) sw_none h⟩
  | _, _, _, .bool b h => ⟨rfl, rfl, Sw.mono (N := 5) (by cases b; exact sw_false; exact sw_true) h⟩
  | _, _, _, .int i h1 h2 => ⟨rfl, decide_eq_true (by have := log_ok h1; rwa [Nat.blt_eq] at this), (digits_okI h1).mono h2⟩
  | _, _, _, .str h1 h2 => ⟨rfl, rfl, (sw_text h1).mono h2⟩
  | _, _, _, .tup (k := k) h1 h2 => by
    obtain ⟨a, b, c⟩ := GVs.shows h1
    exact ⟨a, b, (swl_tuple c).mono h2⟩
  | _, _, _, .lst (k := k) (n := n) (vs := vs) g _ _ h1 h2 => by
    obtain ⟨a, b, c⟩ := GVs.shows h1
    refine ⟨?_, ?_, ?_⟩
    · show (match S.get n with | some (.lst xs) => xs.all (okD S k) | some (.dct kvs) => kvs.all (fun p => okD S k p.1 && okD S k p.2) | _ => false) = true
      rw [g]; exact a
    · show (match S.get n with | some (.lst xs) => PyData.list (xs.map (datD S k)) | some (.dct kvs) => PyData.dict (kvs.map fun (p : Val × Val) => (datD S k p.1, datD S k p.2)) | _ => PyData.none).showable = true
      rw [g]; exact b
    · show Sw _ (match S.get n with | some (.lst xs) => PyData.list (xs.map (datD S k)) | some (.dct kvs) => PyData.dict (kvs.map fun (p : Val × Val) => (datD S k p.1, datD S k p.2)) | _ => PyData.none).shown
      rw [g]; exact (swl_list c).mono h2
  | _, _, _, .dct (k := k) (n := n) (kvs := kvs) g _ _ h1 h2 => by
    obtain ⟨a, b, c⟩ := GVk.shows h1
    refine ⟨?_, ?_, ?_⟩
    · show (match S.get n with | some (.lst xs) => xs.all (okD S k) | some (.dct kvs) => kvs.all (fun p => okD S k p.1 && okD S k p.2) | _ => false) = true
      rw [g]; exact a
    · show (match S.get n with | some (.lst xs) => PyData.list (xs.map (datD S k)) | some (.dct kvs) => PyData.dict (kvs.map fun (p : Val × Val) => (datD S k p.1, datD S k p.2)) | _ => PyData.none).showable = true
      rw [g]; exact b
    · show Sw _ (match S.get n with | some (.lst xs) => PyData.list (xs.map (datD S k)) | some (.dct kvs) => PyData.dict (kvs.map fun (p : Val × Val) => (datD S k p.1, datD S k p.2)) | _ => PyData.none).shown
      rw [g]; exact (swl_dict c).mono h2
theorem GVs.shows {S : Store} {f : Nat} : ∀ {k N : Nat} {vs : List Val}, GVs S f k N vs → vs.all (okD S k) = true ∧ PyData.showableAll (vs.map (datD S k)) = true ∧ SwL N (PyData.shownAll (vs.map (datD S k)))
  | _, _, _, .nil => ⟨rfl, rfl, .nil⟩
  | _, _, _, .cons h1 h2 h3 => by
    obtain ⟨a, b, c⟩ := GV.shows h1
    obtain ⟨a', b', c'⟩ := GVs.shows h2
    exact ⟨Bool.and_eq_true_iff.mpr ⟨a, a'⟩, Bool.and_eq_true_iff.mpr ⟨b, b'⟩, .cons c c' h3⟩
theorem GVk.shows {S : Store} {f : Nat} : ∀ {k N : Nat} {kvs : List (Val × Val)}, GVk S f k N kvs → kvs.all (fun p => okD S k p.1 && okD S k p.2) = true ∧ PyData.showableKv (kvs.map fun (p : Val × Val) => (datD S k p.1, datD S k p.2)) = true ∧ SwL N (PyData.shownKv (kvs.map fun (p : Val × Val) => (datD S k p.1, datD S k p.2)))
  | _, _, _, .nil => ⟨rfl, rfl, .nil⟩
  | _, _, _, .cons h1 h2 h3 h4 => by
    obtain ⟨a, b, c⟩ := GV.shows h1
    obtain ⟨a', b', c'⟩ := GV.shows h2
    obtain ⟨a2, b2, c2⟩ := GVk.shows h3
    refine ⟨Bool.and_eq_true_iff.mpr ⟨Bool.and_eq_true_iff.mpr ⟨a, a'⟩, a2⟩, Bool.and_eq_true_iff.mpr ⟨Bool.and_eq_true_iff.mpr ⟨b, b'⟩, b2⟩, ?_⟩
    have hc : Sw 2 (": " : Str) := ⟨by decide +kernel, by decide +kernel⟩
    exact .cons ((c.app hc).app c') c2 (by omega)
end
/-- what repr tells of it -/
def rpV (S : Store) (v : Val) : List Nat := cpl (datD S 70 v).shown
theorem repr_gv {o : Orc} {S : Store} {f N : Nat} {v : Val} (h : GV S f 70 N v) (hN : N ≤ 16777216) : bReprD o [v] S = .ok (.str (rpV S v)) S := by
  obtain ⟨a, b1, c⟩ := h.shows
  have e : (Nat.ble (rpV S v).length maxLen && (rpV S v).all (fun c => Nat.blt c 128)) = true := by
    rw [Bool.and_eq_true]
    exact ⟨Nat.ble_eq_true_of_le (by have := c.2; have : maxLen = 16777216 := rfl; unfold rpV; omega), List.all_eq_true.mpr fun x hx => by rw [Nat.blt_eq]; exact c.1 x hx⟩
  have key : strR (rpV S v) S = .ok (.str (rpV S v)) S := by
    unfold strR
    rw [e]
  have dk : dsp S v = .ok (.str (rpV S v)) S := by
    unfold dsp
    rw [a, b1]; exact key
  cases h with
  | none _ => exact key
  | bool b _ =>
    have e3 : (Str.ofString (if b then "True" else "False")).cps.toList = rpV S (.bool b) := by cases b <;> rfl
    show strR (Str.ofString (if b then "True" else "False")).cps.toList S = _
    rw [e3]; exact key
  | int i h1 h2 =>
    show (match Nat.blt i.natAbs.log2 1920 with | true => strR (Str.ofString (toString i)).cps.toList S | false => .stuck 171) = _
    rw [log_ok h1]; exact key
  | str _ _ => exact key
  | tup _ _ => exact dk
  | lst _ _ _ _ _ => exact dk
  | dct _ _ _ _ _ => exact dk
/-! is_name, is_tree of any value; the law's own look -/
open PySem
def isNmV : Val → Bool
  | .str s => decide (1 ≤ s.length) && (decide (s.length ≤ 8) && s.all isL)
  | _ => false
def isTrV : Nat → Val → Bool
  | 0, _ => false
  | k + 1, v => match v with
    | .tup (n :: cs) => isNmV n && (decide (cs.length ≤ 4) && cs.all (isTrV k))
    | _ => false
def isStV : Val → Bool
  | .str _ => true
  | _ => false
def isTuV : Val → Bool
  | .tup _ => true
  | _ => false
theorem GV.err {S : Store} {f k N : Nat} {v : Val} (h : GV S f k N v) : isErr v = false := by cases h <;> rfl
/-- what isinstance sees -/
theorem GV.tg {S : Store} {f k N : Nat} {v : Val} (h : GV S f k N v) : ∃ t, tgOf S v = some t ∧ aStr t = some (isStV v) ∧ aTup t = some (isTuV v) := by
  cases h with
  | none _ => exact ⟨_, rfl, rfl, rfl⟩
  | bool b _ => exact ⟨_, rfl, rfl, rfl⟩
  | int i _ _ => exact ⟨_, rfl, rfl, rfl⟩
  | str _ _ => exact ⟨_, rfl, rfl, rfl⟩
  | tup _ _ => exact ⟨_, rfl, rfl, rfl⟩
  | lst g _ _ _ _ => exact ⟨_, tg_lst g, rfl, rfl⟩
  | dct g _ _ _ _ => exact ⟨_, tg_dct g, rfl, rfl⟩
mutual
theorem GV.pure {S : Store} {f : Nat} : ∀ {k N : Nat} {v : Val}, GV S f k N v → ∀ {j : Nat}, pur j v = true → GV nilS f k N v
  | _, _, _, .none h, _, _ => .none h
  | _, _, _, .bool b h, _, _ => .bool b h
  | _, _, _, .int i h1 h2, _, _ => .int i h1 h2
  | _, _, _, .str h1 h2, _, _ => .str h1 h2
  | _, _, _, .tup h1 h2, 0, hp => by cases hp
  | _, _, _, .tup h1 h2, j + 1, hp => .tup (GVs.pure h1 (j := j) hp) h2
  | _, _, _, .lst _ _ _ _ _, 0, hp => by cases hp
  | _, _, _, .lst _ _ _ _ _, j + 1, hp => by cases hp
  | _, _, _, .dct _ _ _ _ _, 0, hp => by cases hp
  | _, _, _, .dct _ _ _ _ _, j + 1, hp => by cases hp
theorem GVs.pure {S : Store} {f : Nat} : ∀ {k N : Nat} {vs : List Val}, GVs S f k N vs → ∀ {j : Nat}, vs.all (pur j) = true → GVs nilS f k N vs
  | _, _, _, .nil, _, _ => .nil
  | _, _, _, .cons h1 h2 h3, j, hp => by
    obtain ⟨a, b⟩ := Bool.and_eq_true_iff.mp hp
    exact .cons (GV.pure h1 a) (GVs.pure h2 b) h3
end
theorem GVs.mem {S : Store} {f : Nat} : ∀ {k N : Nat} {vs : List Val}, GVs S f k N vs → ∀ v ∈ vs, GV S f k N v
  | _, _, _, .nil, v, h => by cases h
  | _, _, _, .cons h1 h2 h3, v, h => by
    rcases List.mem_cons.mp h with e | e
    · rw [e]; exact GV.mono h1 (Nat.le_refl _) (by omega)
    · exact GV.mono (GVs.mem h2 v e) (Nat.le_refl _) (by omega)
theorem GVs.len {S : Store} {f : Nat} : ∀ {k N : Nat} {vs : List Val}, GVs S f k N vs → 2 * vs.length ≤ N
  | _, _, _, .nil => Nat.zero_le _
  | _, _, _, .cons h1 h2 h3 => by
    have := GVs.len h2
    rw [List.length_cons]; omega
section
variable {tb : Tb} {kn kt : Nat} {S : Store} {f : Nat}
/-- a call with a value of any kind, in the empty store if it is pure -/
theorem callP_gv {kf n : Nat} {k N : Nat} {v : Val} {b : Bool} (h : GV S f k N v) (hc : ∀ S0, GV S0 f k N v → (callN tb n kf [v] S0).wp noX fun x S' => x = .bool b ∧ Kp [] S0 S') {X : XP} {Q : Val → Store → Prop} (q : ∀ S', Kp [] S S' → Q (.bool b) S') : (callP kf (orcN tb n) [v] S).wp X Q := by
  show R.wp (match [v].all (pur 20) with
    | true => match callN tb n kf [v] nilS with
      | .ok v _ => match pur 20 v with
        | true => .ok v S
        | false => .stuck 997
      | .exc _ _ _ => .stuck 997
      | .stuck w => .stuck w
    | false => callN tb n kf [v] S) X Q
  cases hp : [v].all (pur 20) with
  | true =>
    have hp1 : pur 20 v = true := by rw [List.all_cons, List.all_nil, Bool.and_true] at hp; exact hp
    obtain ⟨x, S', e, rfl, _⟩ := (hc nilS (h.pure hp1)).ok
    show R.wp (match callN tb n kf [v] nilS with
      | .ok v _ => match pur 20 v with
        | true => .ok v S
        | false => .stuck 997
      | .exc _ _ _ => .stuck 997
      | .stuck w => .stuck w) X Q
    rw [e]
    exact q S Kp.rfl'
  | false =>
    obtain ⟨x, S', e, rfl, kp⟩ := (hc S h).ok
    show R.wp (callN tb n kf [v] S) X Q
    rw [e]
    exact q S' kp
theorem isname_gv (hn : tb.fn kn = ⟨1, 2, c_isname⟩) {n k N : Nat} {v : Val} (h : GV S f k N v) (hN : N ≤ 1000000) : (callN tb (n + 1) kn [v] S).wp noX fun x S' => x = .bool (isNmV v) ∧ Kp [] S S' := by
  have hmx : maxLen = 16777216 := rfl
  obtain ⟨t, t1, t2, _⟩ := h.tg
  have he := h.err
  refine wp_call ?_
  rw [hn]
  refine wp_run rfl ?_
  show SR.wp (c_isname (orcN tb n) [some v, .none] S) _ _ _ _
  unfold c_isname
  have no : isStV v = false → isNmV v = false → SR.wp (cSeq (sRet (eAnd (eIsI (eVar 0) aStr) (eAnd (eChain oLe oLe (eC (.int 1)) (eB bLen (elCons (eVar 0) (elNil))) (eC (.int 8))) (eB bAll (elCons (eLc (cFor [1] (tName 1) (iVal (eVar 0)) (cElt (eOp oIn (eVar 1) (eC (.str [97, 98, 99, 100, 101, 102, 103, 104, 105, 106, 107, 108, 109, 110, 111, 112, 113, 114, 115, 116, 117, 118, 119, 120, 121, 122])))))) (elNil)))))) (cNil) (orcN tb n) [some v, .none] S) (fun _ S' => Val.none = Val.bool (isNmV v) ∧ Kp [] S S') (fun x S' => x = Val.bool (isNmV v) ∧ Kp [] S S') (fun _ _ => False) (fun c fs _ S => noX c fs S) := fun e1 e2 => by
    refine wp_cSeq (wp_sRet (wp_eAnd (wp_eIsI (wp_eVar rfl he ⟨t, _, t1, t2, _, rfl, fun h => ?_, fun _ => ?_⟩))))
    · rw [e1] at h; cases h
    · rw [e2]; exact ⟨rfl, Kp.rfl'⟩
  cases h with
  | none _ => exact no rfl rfl
  | bool b _ => exact no rfl rfl
  | int i _ _ => exact no rfl rfl
  | tup _ _ => exact no rfl rfl
  | lst _ _ _ _ _ => exact no rfl rfl
  | dct _ _ _ _ _ => exact no rfl rfl
  | @str k N s h1 h2 =>
    array_get_dec
    by_cases c1 : 1 ≤ s.length
    · have e1 : intLt (s.length : Nat) 1 = false := by rw [intLt_eq]; exact decide_eq_false (by omega)
      rw [e1]
      show (true = true → _) ∧ (true = false → _)
      array_get_dec
      by_cases c2 : s.length ≤ 8
      · have e2 : intLt 8 (s.length : Nat) = false := by rw [intLt_eq]; exact decide_eq_false (by omega)
        rw [e2]
        show (true = true → _) ∧ (true = false → _)
        array_get_dec
        refine wp_lcMap (α := Nat) ?_
        array_get_dec
        refine ⟨s, fun c => .str [c], fun c => .bool (isL c), fun S' => S = S', Fd.vals _, by omega, rfl, ?_, ?_⟩
        · intro c hc S' hS
          array_get_dec
          exact ⟨congrArg Val.bool (abc_any c), hS⟩
        · rintro _ rfl
          array_get_dec
          refine wp_of_eq (bAll_eq (new_at _ _)) ?_
          refine ⟨?_, Kp.rfl'.new⟩
          show Val.bool (s.all isL) = Val.bool (decide (1 ≤ s.length) && (decide (s.length ≤ 8) && s.all isL))
          rw [decide_eq_true c1, decide_eq_true c2]; rfl
      · have e2 : intLt 8 (s.length : Nat) = true := by rw [intLt_eq]; exact decide_eq_true (by omega)
        rw [e2]
        show (false = true → _) ∧ (false = false → _)
        array_get_dec
        refine ⟨?_, Kp.rfl'⟩
        show Val.bool false = Val.bool (decide (1 ≤ s.length) && (decide (s.length ≤ 8) && s.all isL))
        rw [decide_eq_false c2, Bool.false_and, Bool.and_false]
    · have e1 : intLt (s.length : Nat) 1 = true := by rw [intLt_eq]; exact decide_eq_true (by omega)
      rw [e1]
      show (false = true → _) ∧ (false = false → _)
      array_get_dec
      refine ⟨?_, Kp.rfl'⟩
      show Val.bool false = Val.bool (decide (1 ≤ s.length) && (decide (s.length ≤ 8) && s.all isL))
      rw [decide_eq_false c1, Bool.false_and]
theorem istree_gv (hn : tb.fn kn = ⟨1, 2, c_isname⟩) (ht : tb.fn kt = ⟨1, 2, c_istree kn kt⟩) : ∀ (n k : Nat) (N : Nat) (v : Val) (S : Store), k ≤ n → GV S f k N v → N ≤ 1000000 → (callN tb (n + 1) kt [v] S).wp noX fun x S' => x = .bool (isTrV k v) ∧ Kp [] S S'
  | n, 0, N, v, S, _, h, _ => by cases h
  | 0, k + 1, N, v, S, hk, h, _ => by omega
  | n + 1, k + 1, N, v, S, hk, h, hN => by
    have hmx : maxLen = 16777216 := rfl
    have ih := istree_gv hn ht n
    obtain ⟨t, t1, _, t2⟩ := h.tg
    have he := h.err
    refine wp_call ?_
    rw [ht]
    refine wp_run rfl ?_
    show SR.wp (c_istree kn kt (orcN tb (n + 1)) [some v, .none] S) _ _ _ _
    unfold c_istree
    have no : isTuV v = false → isTrV (k + 1) v = false → SR.wp (cSeq (sIf (eOr (eNot (eIsI (eVar 0) aTup)) (eOr (eNot (eChain oLe oLe (eC (.int 1)) (eB bLen (elCons (eVar 0) (elNil))) (eOp oAdd (eC (.int 4)) (eC (.int 1))))) (eNot (eCallP kn (elCons (eOp oIx (eVar 0) (eC (.int 0))) (elNil)))))) (cSeq (sRet (eC (.bool false))) (cNil)) (cNil)) (cSeq (sRet (eB bAll (elCons (eLc (cFor [1] (tName 1) (iVal (eSl (eVar 0) (eoSome (eC (.int 1))) (eoNone))) (cElt (eCallP kt (elCons (eVar 1) (elNil)))))) (elNil)))) (cNil)) (orcN tb (n + 1)) [some v, .none] S) (fun _ S' => Val.none = Val.bool (isTrV (k + 1) v) ∧ Kp [] S S') (fun x S' => x = Val.bool (isTrV (k + 1) v) ∧ Kp [] S S') (fun _ _ => False) (fun c fs _ S => noX c fs S) := fun e1 e2 => by
      refine wp_cSeq (wpR_sIf (wp_eOr (wp_eNot (wp_eIsI (wp_eVar rfl he ⟨t, _, t1, t2, _, rfl, ?_⟩)))))
      rw [e1, e2]
      refine ⟨_, rfl, (fun h => nomatch h), fun _ => ⟨_, rfl, fun _ => ?_, fun h => nomatch h⟩⟩
      array_get_dec
      first | exact ⟨rfl, Kp.rfl'⟩ | exact Kp.rfl'
    cases h with
    | none _ => exact no rfl rfl
    | bool b _ => exact no rfl rfl
    | int i _ _ => exact no rfl rfl
    | str _ _ => exact no rfl rfl
    | lst _ _ _ _ _ => exact no rfl rfl
    | dct _ _ _ _ _ => exact no rfl rfl
    | @tup k N M vs h1 h2 =>
      cases vs with
      | nil =>
        refine wp_cSeq ?_
        refine wp_ifP true ?_ (fun _ => ?_) (fun h => nomatch h)
        · array_get_dec
          show (false = false → _) ∧ (false = true → _)
          array_get_dec
          show (false = true → _) ∧ (false = false → _)
          array_get_dec
          show (true = false → _) ∧ (true = true → _)
          first | exact ⟨(fun h => nomatch h), fun _ => ⟨rfl, rfl⟩⟩ | (array_get_dec; first | exact ⟨rfl, rfl⟩ | rfl)
        · array_get_dec
          first | exact ⟨rfl, Kp.rfl'⟩ | exact Kp.rfl'
      | cons nm cs =>
        cases h1 with
        | @cons k A B N v vs g1 g2 g3 =>
          have hl := GVs.len g2
          have elen : (((nm :: cs).length : Nat) : Int) = (cs.length : Nat) + 1 := by rw [List.length_cons]; omega
          refine wp_cSeq ?_
          refine wp_ifG (!(isNmV nm && decide (cs.length ≤ 4))) (fun S' => Kp [] S S') ?_ (fun c S1 k1 => ?_) (fun c S1 k1 => ?_)
          · array_get_dec
            show (false = false → _) ∧ (false = true → _)
            array_get_dec
            have e1 : intLt (((nm :: cs).length : Nat) : Int) 1 = false := by rw [intLt_eq, elen]; exact decide_eq_false (by omega)
            rw [e1]
            show (true = true → _) ∧ (true = false → _)
            array_get_dec
            by_cases c2 : cs.length ≤ 4
            · have e2 : intLt (4 + 1) (((nm :: cs).length : Nat) : Int) = false := by rw [intLt_eq, elen]; exact decide_eq_false (by omega)
              rw [e2]
              show (false = false → _) ∧ (false = true → _)
              array_get_dec
              refine callP_gv g1 (fun S0 g => isname_gv hn (n := n) g (by omega)) fun S1 k1 => ?_
              refine ⟨_, rfl, ?_, k1⟩
              rw [decide_eq_true c2, Bool.and_true]
            · have e2 : intLt (4 + 1) (((nm :: cs).length : Nat) : Int) = true := by rw [intLt_eq, elen]; exact decide_eq_true (by omega)
              rw [e2]
              show (true = false → _) ∧ (true = true → _)
              array_get_dec
              refine ⟨?_, Kp.rfl'⟩
              rw [decide_eq_false c2, Bool.and_false]; rfl
          · array_get_dec
            refine ⟨?_, k1⟩
            show Val.bool false = Val.bool (isNmV nm && (decide (cs.length ≤ 4) && cs.all (isTrV k)))
            rw [← Bool.and_assoc]
            cases hx : (isNmV nm && decide (cs.length ≤ 4)) with
            | false => rfl
            | true => rw [hx] at c; cases c
          · have hx : (isNmV nm && decide (cs.length ≤ 4)) = true := by
              cases hx : (isNmV nm && decide (cs.length ≤ 4)) with
              | true => rfl
              | false => rw [hx] at c; cases c
            have c4 : cs.length ≤ 4 := of_decide_eq_true (Bool.and_eq_true_iff.mp hx).2
            array_get_dec
            refine wp_lcMap (α := Val) ?_
            array_get_dec
            refine ⟨cs, id, fun c => .bool (isTrV k c), fun S' => Kp [] S S', ?_, by omega, k1, ?_, ?_⟩
            · rw [slc_tail, List.map_id]; exact Fd.vals _
            · intro c hc S2 k2
              have gc := (GVs.mem g2 c hc).keep (k2.up (X := [f]))
              have hec : isErr (id c) = false := gc.err
              array_get_dec
              refine callP_gv (v := id c) gc (fun S0 g => ih k _ c S0 (by omega) g (by omega)) fun S3 k3 => ?_
              exact ⟨rfl, k2.trans k3⟩
            · intro S2 k2
              array_get_dec
              refine wp_of_eq (bAll_eq (new_at _ _)) ?_
              refine ⟨?_, k2.new⟩
              show Val.bool (cs.all (isTrV k)) = Val.bool (isNmV nm && (decide (cs.length ≤ 4) && cs.all (isTrV k)))
              rw [← Bool.and_assoc, hx]; rfl
end
/-! the law's own look at a value: the same -/
open PySem
def li0 : C := sIf (eOr (eNot (eIsI (eVar 0) aTup)) (eOr (eNot (eChain oLe oLe (eC (.int 1)) (eB bLen (elCons (eVar 0) (elNil))) (eC (.int 5)))) (eNot (eIsI (eOp oIx (eVar 0) (eC (.int 0))) aStr)))) (cSeq (sRet (eC (.bool false))) (cNil)) (cNil)
def li1 : C := sIf (eOr (eNot (eChain oLe oLe (eC (.int 1)) (eB bLen (elCons (eOp oIx (eVar 0) (eC (.int 0))) (elNil))) (eC (.int 8)))) (eOp oNe (eLc (cFor [2] (tName 2) (iVal (eOp oIx (eVar 0) (eC (.int 0)))) (cIf (eOp oNotIn (eVar 2) (eC (.str [97, 98, 99, 100, 101, 102, 103, 104, 105, 106, 107, 108, 109, 110, 111, 112, 113, 114, 115, 116, 117, 118, 119, 120, 121, 122]))) (cElt (eVar 2))))) (eLst (elNil)))) (cSeq (sRet (eC (.bool false))) (cNil)) (cNil)
def li2 (kl : Nat) : C := sRet (eOp oEqE (eLc (cFor [1] (tName 1) (iVal (eSl (eVar 0) (eoSome (eC (.int 1))) (eoNone))) (cIf (eNot (eCall kl (elCons (eVar 1) (elNil)))) (cElt (eVar 1))))) (eLst (elNil)))
def d_lawtree (kl : Nat) : C := cSeq li0 (cSeq li1 (cSeq (li2 kl) (cNil)))
theorem oEqE_nil {o : Orc} {S : Store} {a b : Nat} {xs : List Val} (ha : S.get a = some (.lst xs)) (hb : S.get b = some (.lst [])) : oEqE o (.ref a) (.ref b) S = .ok (.bool xs.isEmpty) S := by
  unfold oEqE
  simp only [ha, hb]
theorem filt_all {α : Type} (p : α → Bool) : ∀ xs : List α, (xs.filter fun x => !p x).isEmpty = xs.all p
  | [] => rfl
  | x :: r => by
    rw [List.filter_cons, List.all_cons, ← filt_all p r]
    cases p x <;> rfl
theorem isEmpty_map {α β : Type} (f : α → β) (xs : List α) : (xs.map f).isEmpty = xs.isEmpty := by cases xs <;> rfl
section
variable {tb : Tb} {kl : Nat} {S : Store} {f : Nat}
theorem lawtree_gv (hl : tb.fn kl = ⟨1, 3, d_lawtree kl⟩) : ∀ (n k : Nat) (N : Nat) (v : Val) (S : Store), k ≤ n → GV S f k N v → N ≤ 1000000 → (callN tb (n + 1) kl [v] S).wp noX fun x S' => x = .bool (isTrV k v) ∧ Kp [] S S'
  | n, 0, N, v, S, _, h, _ => by cases h
  | 0, k + 1, N, v, S, hk, h, _ => by omega
  | n + 1, k + 1, N, v, S, hk, h, hN => by
    have hmx : maxLen = 16777216 := rfl
    have ih := lawtree_gv hl n
    obtain ⟨t, t1, _, t2⟩ := h.tg
    have he := h.err
    refine wp_call ?_
    rw [hl]
    refine wp_run rfl ?_
    show SR.wp (d_lawtree kl (orcN tb (n + 1)) [some v, .none, .none] S) _ _ _ _
    unfold d_lawtree
    refine wp_cSeq ?_
    unfold li0
    have no : isTuV v = false → isTrV (k + 1) v = false → SR.wp (sIf (eOr (eNot (eIsI (eVar 0) aTup)) (eOr (eNot (eChain oLe oLe (eC (.int 1)) (eB bLen (elCons (eVar 0) (elNil))) (eC (.int 5)))) (eNot (eIsI (eOp oIx (eVar 0) (eC (.int 0))) aStr)))) (cSeq (sRet (eC (.bool false))) (cNil)) (cNil) (orcN tb (n + 1)) [some v, .none, .none] S) (fun ρ S_1 => SR.wp (cSeq li1 (cSeq (li2 kl) (cNil)) (orcN tb (n + 1)) ρ S_1) (fun _ S' => Val.none = Val.bool (isTrV (k + 1) v) ∧ Kp [] S S') (fun x S' => x = Val.bool (isTrV (k + 1) v) ∧ Kp [] S S') (fun _ _ => False) (fun c fs _ S => noX c fs S)) (fun x S' => x = Val.bool (isTrV (k + 1) v) ∧ Kp [] S S') (fun _ _ => False) (fun c fs _ S => noX c fs S) := fun e1 e2 => by
      refine wpR_sIf (wp_eOr (wp_eNot (wp_eIsI (wp_eVar rfl he ⟨t, _, t1, t2, _, rfl, ?_⟩))))
      rw [e1, e2]
      refine ⟨_, rfl, (fun h => nomatch h), fun _ => ⟨_, rfl, fun _ => ?_, fun h => nomatch h⟩⟩
      array_get_dec
      first | exact ⟨rfl, Kp.rfl'⟩ | exact Kp.rfl'
    cases h with
    | none _ => exact no rfl rfl
    | bool b _ => exact no rfl rfl
    | int i _ _ => exact no rfl rfl
    | str _ _ => exact no rfl rfl
    | lst _ _ _ _ _ => exact no rfl rfl
    | dct _ _ _ _ _ => exact no rfl rfl
    | @tup k N M vs h1 h2 =>
      cases vs with
      | nil =>
        refine wp_ifP true ?_ (fun _ => ?_) (fun h => nomatch h)
        · array_get_dec
          show (false = false → _) ∧ (false = true → _)
          array_get_dec
          show (false = true → _) ∧ (false = false → _)
          array_get_dec
          show (true = false → _) ∧ (true = true → _)
          first | exact ⟨(fun h => nomatch h), fun _ => ⟨rfl, rfl⟩⟩ | (array_get_dec; first | exact ⟨rfl, rfl⟩ | rfl)
        · array_get_dec
          first | exact ⟨rfl, Kp.rfl'⟩ | exact Kp.rfl'
      | cons nm cs =>
        cases h1 with
        | @cons k A B N v vs g1 g2 g3 =>
          have hl2 := GVs.len g2
          obtain ⟨u, u1, u2, _⟩ := g1.tg
          have hne := g1.err
          have elen : (((nm :: cs).length : Nat) : Int) = (cs.length : Nat) + 1 := by rw [List.length_cons]; omega
          refine wp_ifP (!(decide (cs.length ≤ 4) && isStV nm)) ?_ (fun c => ?_) (fun c => ?_)
          · array_get_dec
            show (false = false → _) ∧ (false = true → _)
            array_get_dec
            have e1 : intLt (((nm :: cs).length : Nat) : Int) 1 = false := by rw [intLt_eq, elen]; exact decide_eq_false (by omega)
            rw [e1]
            show (true = true → _) ∧ (true = false → _)
            array_get_dec
            by_cases c2 : cs.length ≤ 4
            · have e2 : intLt 5 (((nm :: cs).length : Nat) : Int) = false := by rw [intLt_eq, elen]; exact decide_eq_false (by omega)
              rw [e2]
              show (false = false → _) ∧ (false = true → _)
              array_get_dec
              refine ⟨u, _, u1, u2, _, rfl, ?_, rfl⟩
              rw [decide_eq_true c2, Bool.true_and]
            · have e2 : intLt 5 (((nm :: cs).length : Nat) : Int) = true := by rw [intLt_eq, elen]; exact decide_eq_true (by omega)
              rw [e2]
              show (true = false → _) ∧ (true = true → _)
              array_get_dec
              refine ⟨?_, rfl⟩
              rw [decide_eq_false c2, Bool.false_and]; rfl
          · array_get_dec
            refine ⟨?_, Kp.rfl'⟩
            show Val.bool false = Val.bool (isNmV nm && (decide (cs.length ≤ 4) && cs.all (isTrV k)))
            cases h4 : decide (cs.length ≤ 4) with
            | false => rw [Bool.false_and, Bool.and_false]
            | true =>
              rw [h4, Bool.true_and] at c
              have : isNmV nm = false := by cases nm <;> first | rfl | cases c
              rw [this, Bool.false_and]
          · have hx : (decide (cs.length ≤ 4) && isStV nm) = true := by
              cases hx : (decide (cs.length ≤ 4) && isStV nm) with
              | true => rfl
              | false => rw [hx] at c; cases c
            obtain ⟨c4, c5⟩ := Bool.and_eq_true_iff.mp hx
            refine wp_cNil ?_
            refine wp_cSeq ?_
            unfold li1
            cases g1 with
            | none _ => cases c5
            | bool _ _ => cases c5
            | int _ _ _ => cases c5
            | tup _ _ => cases c5
            | lst _ _ _ _ _ => cases c5
            | dct _ _ _ _ _ => cases c5
            | @str k A s s1 s2 =>
              have eN : isNmV (.str s) = (decide (1 ≤ s.length) && (decide (s.length ≤ 8) && s.all isL)) := rfl
              refine wp_ifG (!isNmV (.str s)) (fun S' => Kp [] S S') ?_ (fun c S1 k1 => ?_) (fun c S1 k1 => ?_)
              · array_get_dec
                by_cases d1 : 1 ≤ s.length
                · have e1 : intLt (s.length : Nat) 1 = false := by rw [intLt_eq]; exact decide_eq_false (by omega)
                  rw [e1]
                  show (true = true → _) ∧ (true = false → _)
                  array_get_dec
                  by_cases d2 : s.length ≤ 8
                  · have e2 : intLt 8 (s.length : Nat) = false := by rw [intLt_eq]; exact decide_eq_false (by omega)
                    rw [e2]
                    show (false = false → _) ∧ (false = true → _)
                    array_get_dec
                    refine wp_lcFilter (α := Nat) ?_
                    array_get_dec
                    refine ⟨s, fun c => .str [c], fun c => !isL c, fun c => .str [c], fun S' => S = S', Fd.vals _, by omega, rfl, ?_, ?_⟩
                    · intro c hc S' hS
                      array_get_dec
                      refine ⟨?_, hS, fun _ => ?_⟩
                      · exact congrArg (fun b => some (!b)) (abc_any c)
                      · array_get_dec
                        exact hS
                    · rintro _ rfl
                      array_get_dec
                      refine wp_of_eq (oNe_nil (xs := (s.filter fun c => !isL c).map fun c => .str [c]) (a := S.nx) (b := S.nx + 1) (by sizeOf_list_dec) (new_at _ _) (List.all_eq_true.mpr fun x hx => by obtain ⟨y, _, rfl⟩ := List.mem_map.mp hx; rfl)) ?_
                      refine ⟨?_, Kp.rfl'.new.new⟩
                      rw [isEmpty_map, filt_all, eN, decide_eq_true d1, decide_eq_true d2]; rfl
                  · have e2 : intLt 8 (s.length : Nat) = true := by rw [intLt_eq]; exact decide_eq_true (by omega)
                    rw [e2]
                    show (true = false → _) ∧ (true = true → _)
                    array_get_dec
                    refine ⟨?_, Kp.rfl'⟩
                    rw [eN, decide_eq_false d2, Bool.false_and, Bool.and_false]; rfl
                · have e1 : intLt (s.length : Nat) 1 = true := by rw [intLt_eq]; exact decide_eq_true (by omega)
                  rw [e1]
                  show (false = true → _) ∧ (false = false → _)
                  array_get_dec
                  show (true = false → _) ∧ (true = true → _)
                  array_get_dec
                  refine ⟨?_, Kp.rfl'⟩
                  rw [eN, decide_eq_false d1, Bool.false_and]; rfl
              · have c : isNmV (.str s) = false := by
                  cases hq : isNmV (.str s) with
                  | false => rfl
                  | true => rw [hq] at c; cases c
                array_get_dec
                refine ⟨?_, k1⟩
                show Val.bool false = Val.bool (isNmV (.str s) && (decide (cs.length ≤ 4) && cs.all (isTrV (k + 1))))
                rw [c, Bool.false_and]
              · have c : isNmV (.str s) = true := by
                  cases hq : isNmV (.str s) with
                  | true => rfl
                  | false => rw [hq] at c; cases c
                refine wp_cNil ?_
                refine wp_cSeq ?_
                unfold li2
                array_get_dec
                refine wp_lcFilter (α := Val) ?_
                array_get_dec
                refine ⟨cs, id, fun c => !isTrV (k + 1) c, id, fun S' => Kp [] S S', ?_, by omega, k1, ?_, ?_⟩
                · rw [slc_tail, List.map_id]; exact Fd.vals _
                · intro x hx S2 k2
                  have gc := (GVs.mem g2 x hx).keep (k2.up (X := [f]))
                  have hec : isErr (id x) = false := gc.err
                  array_get_dec
                  refine (ih (k + 1) _ x S2 (by omega) gc (by omega)).mono fun y S3 ⟨e, k3⟩ => ?_
                  subst e
                  array_get_dec
                  refine ⟨k2.trans k3, fun _ => ?_⟩
                  array_get_dec
                  exact k2.trans k3
                · intro S2 k2
                  array_get_dec
                  refine wp_of_eq (oEqE_nil (xs := (cs.filter fun c => !isTrV (k + 1) c).map id) (by sizeOf_list_dec) (new_at _ _)) ?_
                  array_get_dec
                  refine ⟨?_, k2.new.new⟩
                  rw [List.map_id, filt_all]
                  show Val.bool (cs.all (isTrV (k + 1))) = Val.bool (isNmV (.str s) && (decide (cs.length ≤ 4) && cs.all (isTrV (k + 1))))
                  rw [c, c4]; rfl
end
/-! trees as values; _law_put of any value -/
open PySem
theorem GVs.app {S : Store} {f k : Nat} : ∀ {A B : Nat} {xs ys : List Val}, GVs S f k A xs → GVs S f k B ys → GVs S f k (A + B) (xs ++ ys)
  | _, _, _, _, .nil, h => GVs.mono h (Nat.le_refl _) (by omega)
  | _, _, _, _, .cons h1 h2 h3, h => .cons h1 (GVs.app h2 h) (by omega)
theorem okN_len {s : List Nat} (h : okN s = true) : s.length ≤ 8 ∧ ∀ c ∈ s, c < 128 := by
  refine ⟨?_, fun c hc => by have := okN_39 h c hc; omega⟩
  unfold okN at h
  simp only [Bool.and_eq_true, Nat.ble_eq] at h
  exact h.2.1
theorem lvs_memD {ts : List T1} {t : T1} (h : t ∈ ts) {s : List Nat} : lv t + 1 ≤ lv (.mk s ts) := by have := lv_mem h; rw [lv]; omega
mutual
theorem GV.tree {S : Store} {f m : Nat} : ∀ {t : T1} {N : Nat}, okT m t = true → 50 * sz t ≤ N + 2 → GV S f (lv t + 1) N (tv t)
  | .mk s ts, N, h, hN => by
    rw [okT, Bool.and_eq_true, Bool.and_eq_true] at h
    obtain ⟨h1, h2⟩ := okN_len h.1
    rw [sz] at hN
    have hk : 1 ≤ lv (.mk s ts) := by rw [lv]; omega
    obtain ⟨k, hk2⟩ : ∃ k, lv (.mk s ts) = k + 1 := ⟨lv (.mk s ts) - 1, by omega⟩
    rw [tv, hk2]
    refine .tup (M := 34 + 2 + 50 * szs ts) (.cons (A := 34) (.str h2 (by omega)) (GVs.trees (k := k + 1) (fun t ht => ?_) h.2.2) (Nat.le_refl _)) (by omega)
    have := lvs_memD (s := s) ht
    omega
theorem GVs.trees {S : Store} {f m : Nat} : ∀ {ts : List T1} {k : Nat}, (∀ t ∈ ts, lv t + 1 ≤ k) → okTs m ts = true → GVs S f k (50 * szs ts) (tvs ts)
  | [], k, _, _ => .nil
  | t :: r, k, hk, h => by
    rw [okTs, Bool.and_eq_true] at h
    have hz := sz_pos t
    rw [tvs, szs]
    refine .cons (A := 50 * sz t - 2) (B := 50 * szs r) (GV.mono (GV.tree h.1 (by omega)) (hk t List.mem_cons_self) (Nat.le_refl _)) (GVs.trees (fun u hu => hk u (List.mem_cons_of_mem _ hu)) h.2) (by omega)
end
def putV : List Nat → T1 → Val → Val
  | [], _, x => x
  | k :: p, .mk s ts, x => match ts[k]? with
    | some c => .tup (.str s :: (tvs (ts.take k) ++ putV p c x :: tvs (ts.drop (k + 1))))
    | .none => tv (.mk s ts)
theorem szs_appD : ∀ a b : List T1, szs (a ++ b) = szs a + szs b
  | [], b => by rw [szs, List.nil_append]; omega
  | x :: r, b => by rw [List.cons_append, szs, szs, szs_appD r b]; omega
theorem okTs_app {m : Nat} : ∀ {a b : List T1}, okTs m (a ++ b) = true → okTs m a = true ∧ okTs m b = true
  | [], b, h => ⟨rfl, h⟩
  | x :: r, b, h => by
    rw [List.cons_append, okTs, Bool.and_eq_true] at h
    obtain ⟨h1, h2⟩ := okTs_app h.2
    exact ⟨by rw [okTs, h.1, h1]; rfl, h2⟩
theorem GV.putV {S : Store} {f k N : Nat} {x : Val} (hx : GV S f k N x) : ∀ {p : List Nat} {t y : T1}, partAt p t = some y → okT 4 t = true → GV S f (lv t + 1 + k) (50 * sz t + N) (putV p t x)
  | [], t, y, _, _ => hx.mono (by omega) (by omega)
  | i :: p, .mk s ts, y, hp, h => by
    have hp : (match ts[i]? with | some c => partAt p c | .none => .none) = some y := hp
    cases e : ts[i]? with
    | none => rw [e] at hp; cases hp
    | some c =>
      rw [e] at hp
      show GV S f _ _ (match ts[i]? with | some c => .tup (.str s :: (tvs (ts.take i) ++ G.putV p c x :: tvs (ts.drop (i + 1)))) | .none => tv (.mk s ts))
      rw [e]
      have hi : i < ts.length := (List.getElem?_eq_some_iff.mp e).1
      have hc : c ∈ ts := List.mem_of_getElem? e
      have hd : ts = ts.take i ++ c :: ts.drop (i + 1) := by
        have e2 : ts[i] = c := (List.getElem?_eq_some_iff.mp e).2
        rw [← e2, ← List.drop_eq_getElem_cons hi, List.take_append_drop]
      rw [okT, Bool.and_eq_true, Bool.and_eq_true] at h
      obtain ⟨h1, h2⟩ := okN_len h.1
      have hok := h.2.2
      rw [hd] at hok
      obtain ⟨o1, o2⟩ := okTs_app hok
      rw [okTs, Bool.and_eq_true] at o2
      have hz : szs ts = szs (ts.take i) + (sz c + szs (ts.drop (i + 1))) := by
        conv => lhs; rw [hd]
        rw [szs_appD, szs]
      have lc := lvs_memD (s := s) hc
      have ih := GV.putV hx (p := p) hp o2.1
      have hl : ∀ t ∈ ts, lv t + 1 ≤ lv (.mk s ts) + k := fun t ht => by have := lvs_memD (s := s) ht; omega
      have hk0 : 1 ≤ lv (.mk s ts) := by rw [lv]; omega
      have hkk : lv (.mk s ts) + 1 + k = (lv (.mk s ts) + k) + 1 := by omega
      obtain ⟨q, hq⟩ : ∃ q, lv (.mk s ts) + k = q + 1 := ⟨lv (.mk s ts) + k - 1, by omega⟩
      rw [hkk, hq]
      rw [hq] at hl
      have g1 : GVs S f (q + 1) (50 * szs (ts.take i)) (tvs (ts.take i)) := GVs.trees (fun t ht => hl t (List.mem_of_mem_take ht)) o1
      have g2 : GVs S f (q + 1) (50 * szs (ts.drop (i + 1))) (tvs (ts.drop (i + 1))) := GVs.trees (fun t ht => hl t (List.mem_of_mem_drop ht)) o2.2
      have g3 : GVs S f (q + 1) (50 * sz c + N + 2 + 50 * szs (ts.drop (i + 1))) (G.putV p c x :: tvs (ts.drop (i + 1))) := .cons (ih.mono (by omega) (Nat.le_refl _)) g2 (by omega)
      refine .tup (M := 34 + 2 + (50 * szs (ts.take i) + (50 * sz c + N + 2 + 50 * szs (ts.drop (i + 1))))) (.cons (A := 34) (.str h2 (by omega)) (g1.app g3) (Nat.le_refl _)) ?_
      rw [sz]
      omega
section
variable {tb : Tb} {ku : Nat}
theorem lputV_ok (hu : tb.fn ku = ⟨3, 4, c_lput ku⟩) {v : Val} (hv : isErr v = false) : ∀ (p : List Nat) (n : Nat) (t x : T1) (S : Store) (X : XP) (Q : Val → Store → Prop), p.length ≤ n → partAt p t = some x → okT 4 t = true → p.length ≤ 10 → (isErr (putV p t v) = false → Q (putV p t v) S) → (callN tb (n + 1) ku [tv t, pcV p, v] S).wp X Q
  | [], n, t, x, S, X, Q, h, hp, hok, h10, q => by
    refine wp_call ?_
    rw [hu]
    refine wp_run rfl ?_
    show SR.wp (c_lput ku (orcN tb n) [some (tv t), some (.tup []), some v, .none] S) _ _ _ _
    unfold c_lput
    array_get_dec
    refine wp_ifP true ?_ (fun _ => ?_) (fun h => nomatch h)
    · array_get_dec
      rfl
    · array_get_dec
      exact q hv
  | k :: p, n, .mk s ts, x, S, X, Q, h, hp, hok, h10, q => by
    have hp : (match ts[k]? with | some c => partAt p c | .none => .none) = some x := hp
    cases e : ts[k]? with
    | none => rw [e] at hp; cases hp
    | some c =>
      rw [e] at hp
      have eput : putV (k :: p) (.mk s ts) v = .tup (.str s :: (tvs (ts.take k) ++ putV p c v :: tvs (ts.drop (k + 1)))) := by
        show (match ts[k]? with | some c => Val.tup (.str s :: (tvs (ts.take k) ++ G.putV p c v :: tvs (ts.drop (k + 1)))) | .none => tv (.mk s ts)) = _
        rw [e]
      rw [eput] at q
      rw [List.length_cons] at h h10
      obtain ⟨n, rfl⟩ : ∃ m, n = m + 1 := ⟨n - 1, by omega⟩
      rw [okT, Bool.and_eq_true, Bool.and_eq_true] at hok
      have hc := getElem_mem' e
      have hmx : maxLen = 16777216 := rfl
      have h4 : ts.length ≤ 4 := by have := hok.2.1; rwa [Nat.ble_eq] at this
      have hk : k < ts.length := (List.getElem?_eq_some_iff.mp e).1
      refine wp_call ?_
      rw [hu]
      refine wp_run rfl ?_
      show SR.wp (c_lput ku (orcN tb (n + 1)) [some (.tup (.str s :: tvs ts)), some (.tup (.int (k : Nat) :: p.map fun k => Val.int (k : Nat))), some v, .none] S) _ _ _ _
      unfold c_lput
      array_get_dec
      refine wp_ifP false ?_ (fun h => nomatch h) (fun _ => ?_)
      · array_get_dec
        exact wp_of_eq (oEq_pc0 k p) ⟨rfl, rfl⟩
      · array_get_dec
        have ek : ((k : Int) + 1) = ((k + 1 : Nat) : Int) := by omega
        rw [ek]
        have e1 : slc (Val.str s :: tvs ts) .none (some ((k + 1 : Nat) : Int)) = Val.str s :: tvs (ts.take k) := by
          rw [slc_pre, List.take_succ_cons, tvs_map, tvs_map, List.map_take]
        have e2 : slc (Val.int (k : Nat) :: p.map fun k => Val.int (k : Nat)) (some 1) .none = p.map fun k => Val.int (k : Nat) := slc_tail _ _
        have e3 : (Val.str s :: tvs ts)[k + 1]? = some (tv c) := by
          rw [List.getElem?_cons_succ, tvs_map, List.getElem?_map, e]; rfl
        have e4 : slc (Val.str s :: tvs ts) (some (((k + 1 : Nat) : Int) + 1)) .none = tvs (ts.drop (k + 1)) := by
          rw [show (((k + 1 : Nat) : Int) + 1) = ((k + 2 : Nat) : Int) by omega, slc_post, List.drop_succ_cons, tvs_map, tvs_map, List.map_drop]
        refine wp_of_eq (oIx_tup e3) ?_
        array_get_dec
        rw [e2]
        refine lputV_ok hu hv p n c x S _ _ (by omega) hp (okTs_mem hok.2.2 hc) (by omega) fun hpe => ?_
        array_get_dec
        rw [e1]
        have l1 : (tvs (ts.take k)).length ≤ 4 := by rw [tvs_map, List.length_map, List.length_take]; omega
        refine wp_of_eq (oAdd_tup (by rw [List.length_cons, List.length_singleton]; omega)) ?_
        array_get_dec
        rw [e4]
        have l2 : (tvs (ts.drop (k + 1))).length ≤ 4 := by rw [tvs_map, List.length_map, List.length_drop]; omega
        refine wp_of_eq (oAdd_tup (by rw [List.length_append, List.length_cons, List.length_singleton]; omega)) ?_
        have ef : Val.str s :: tvs (ts.take k) ++ [putV p c v] ++ tvs (ts.drop (k + 1)) = Val.str s :: (tvs (ts.take k) ++ putV p c v :: tvs (ts.drop (k + 1))) := by simp
        rw [ef]
        exact q rfl
end
/-! _law_word -/
open PySem
def wd1 (kt kp : Nat) : C := sAsg (tName 2) (eBm .str mJoin (eC (.str [])) (elCons (eLc (cFor [5] (tName 5) (iRange (elCons (eOp oAdd (eC (.int 1)) (eCall kt (elCons (eVar 0) (elCons (eC (.int 9)) (elNil))))) (elNil))) (cElt (eCall kp (elCons (eVar 0) (elCons (eVar 1) (elNil))))))) elNil))
def wd2 : C := sAsg (tName 3) (eC (.str [32, 33, 34, 35, 38, 39, 40, 41, 42, 43, 44, 45, 46, 47, 48, 49, 50, 51, 52, 53, 54, 55, 56, 57, 58, 59, 60, 61, 62, 63, 64, 65, 66, 67, 68, 69, 70, 71, 72, 73, 74, 75, 76, 77, 78, 79, 80, 81, 82, 83, 84, 85, 86, 87, 88, 89, 90, 91, 93, 94, 95, 96, 36, 123, 124, 125, 126, 10]))
def wd3 (kt kp : Nat) : C := sIf (eOp oEq (eCall kt (elCons (eVar 0) (elCons (eC (.int 3)) (elNil)))) (eC (.int 0))) (cSeq (sAsg (tName 4) (eCall kt (elCons (eVar 0) (elCons (eOp oAdd (eB bLen (elCons (eVar 2) (elNil))) (eC (.int 1))) (elNil))))) (cSeq (sAsg (tName 2) (eOp oAdd (eOp oAdd (eSl (eVar 2) (eoNone) (eoSome (eVar 4))) (eCall kp (elCons (eVar 0) (elCons (eVar 3) (elNil))))) (eSl (eVar 2) (eoSome (eOp oAdd (eVar 4) (eCall kt (elCons (eVar 0) (elCons (eC (.int 2)) (elNil)))))) (eoNone)))) (cNil))) (cNil)
def d_word (kt kp : Nat) : C := cSeq (sAsg (tName 1) (eC (.str [97, 98, 99, 100, 101, 102, 103, 104, 105, 106, 107, 108, 109, 110, 111, 112, 113, 114, 115, 116, 117, 118, 119, 120, 121, 122]))) (cSeq (wd1 kt kp) (cSeq wd2 (cSeq (wd3 kt kp) (cSeq (sRet (eVar 2)) (cNil)))))
theorem wp_ifG' {o : Orc} {ρ : Env} {S : Store} {N : Env → Store → Prop} {V : Val → Store → Prop} {B : Env → Store → Prop} {E : EP'} {c : G.E} {a d : C} (P : Bool → Store → Prop) (h : (c o ρ S).wp (atX E ρ) fun x S' => ∃ b, x = .bool b ∧ P b S') (h1 : ∀ S', P true S' → (a o ρ S').wp N V B E) (h2 : ∀ S', P false S' → (d o ρ S').wp N V B E) : (sIf c a d o ρ S).wp N V B E :=
  wpR_sIf (h.mono fun x S' ⟨b, e1, e2⟩ => by
    subst e1
    exact ⟨b, rfl, fun h => by subst h; exact h1 S' e2, fun h => by subst h; exact h2 S' e2⟩)
theorem slc_lenM {α : Type} (xs : List α) (a b : Option Int) : (slc xs a b).length ≤ xs.length ∧ ∀ x ∈ slc xs a b, x ∈ xs := by
  unfold slc
  refine ⟨?_, fun x hx => ?_⟩
  · rw [List.length_drop, List.length_take]; omega
  · exact List.mem_of_mem_take (List.mem_of_mem_drop hx)
section
variable {tb : Tb} {kt kp kw : Nat} {n : Nat} {S : Store} {f : Nat} {X : XP} {Q : Val → Store → Prop}
theorem word_ok (ht : tb.fn kt = ⟨2, 3, cTake⟩) (hp : tb.fn kp = ⟨2, 2, cPick kt⟩) (hw : tb.fn kw = ⟨1, 6, d_word kt kp⟩) (fd : Fed S f) (nf : f < S.nx)
    (q : ∀ s S', (∀ c ∈ s, c < 128) → s.length ≤ 20 → Kp [f] S S' → Fed S' f → Q (.str s) S') : (callN tb (n + 3) kw [.ref f] S).wp X Q := by
  have hmx : maxLen = 16777216 := rfl
  have hfu : fuel = 1000000000 := rfl
  refine wp_call ?_
  rw [hw]
  refine wp_run rfl ?_
  show SR.wp (d_word kt kp (orcN tb (n + 2)) [some (.ref f), .none, .none, .none, .none, .none] S) _ _ _ _
  unfold d_word
  array_get_dec
  unfold wd1
  refine wp_sAsg (wp_eBm ?_)
  array_get_dec
  refine wpR_eLc ?_
  refine wpR_cFor ?_
  array_get_dec
  refine take_ok (n := n + 1) ht fd (by decide) (by decide) fun j S1 hj d1 => ?_
  have k1 := d1.kp
  have nx1 := d1.nx
  have fd1 := d1.fed
  array_get_dec
  have hm : ((1 : Int) + (j : Nat)) = ((1 + j : Nat) : Int) := by omega
  rw [hm]
  have hj10 : 1 + j ≤ 9 := by omega
  generalize 1 + j = m at *
  refine ⟨by show Nat.blt ((m : Nat) : Int).natAbs (2 ^ 24) = true; rw [Nat.blt_eq]; omega, ?_⟩
  refine ⟨upTo 0 m, fun _ => True, fun r acc S' => ∃ (i k : Nat) (cs : List Nat), r = upTo (i : Nat) k ∧ i + k = m ∧ acc = (i, (cs.map fun c => Val.str [c]).reverse) ∧ cs.length = i ∧ (∀ c ∈ cs, c < 128) ∧ Kp [f] S S' ∧ Fed S' f, Fd.vals _, by rw [upTo_len]; omega, ⟨0, m, [], rfl, by omega, rfl, rfl, (fun c hc => by cases hc), k1, fd1⟩, fun _ _ _ _ => trivial, ?_, ?_⟩
  · rintro v r acc S2 ⟨i, k, cs, hr, hik, rfl, hl, hc, k2, fd2⟩
    cases k with
    | zero => cases hr
    | succ k =>
      rw [upTo_cons] at hr
      obtain ⟨rfl, rfl⟩ := List.cons.inj hr
      array_get_dec
      refine pickS_ok (n := n) ht hp fd2 (by decide) (by decide) fun jj c S3 hc3 d3 => ?_
      have hcc : c < 128 := by
        have : ∀ x ∈ [97, 98, 99, 100, 101, 102, 103, 104, 105, 106, 107, 108, 109, 110, 111, 112, 113, 114, 115, 116, 117, 118, 119, 120, 121, 122], x < 128 := by decide
        exact this c (List.mem_of_getElem? hc3)
      refine ⟨by rw [Nat.blt_eq]; show i < maxLen; omega, i + 1, k, cs ++ [c], by rw [show ((i : Nat) : Int) + 1 = ((i + 1 : Nat) : Int) by omega], by omega, ?_, by rw [List.length_append, List.length_singleton]; omega, fun x hx => ?_, k2.trans d3.kp, d3.fed⟩
      · rw [List.map_append, List.reverse_append]; rfl
      · rcases List.mem_append.mp hx with e | e
        · exact hc x e
        · rw [List.mem_singleton.mp e]; exact hcc
  rintro acc S2 ⟨i, k, cs, hr, hik, rfl, hl, hc, k2, fd2⟩
  have hk0 : k = 0 := by
    cases k with
    | zero => rfl
    | succ k => rw [upTo_cons] at hr; cases hr
  subst hk0
  rw [List.reverse_reverse]
  array_get_dec
  have hsum : ∀ cs : List Nat, sumLen (cs.map fun c => [c]) = cs.length := by
    intro cs
    induction cs with
    | nil => rfl
    | cons a r ih => show 1 + sumLen (r.map fun c => [c]) = _; rw [ih, List.length_cons]; omega
  refine wp_of_eq (mJoin_eq (f := fun c => [c]) (xs := cs) (new_at _ _) (by rw [hsum]; show cs.length + (cs.map fun c => [c]).length * 0 ≤ maxLen; omega)) ?_
  have ej : ∀ cs : List Nat, joinL [] (cs.map fun c => [c]) = cs := by
    intro cs
    induction cs with
    | nil => rfl
    | cons a r ih =>
      cases r with
      | nil => rfl
      | cons b r => show [a] ++ [] ++ joinL [] ((b :: r).map fun c => [c]) = _; rw [ih]; rfl
  rw [ej]
  have k3 : Kp [f] S (S2.new (.lst (cs.map fun c => Val.str [c]))) := k2.new
  have nf2 : f < S2.nx := by have := k2.nx; omega
  have fd3 : Fed (S2.new (.lst (cs.map fun c => Val.str [c]))) f := fd2.new nf2
  have nf3 : f < (S2.new (.lst (cs.map fun c => Val.str [c]))).nx := Nat.lt_succ_of_lt nf2
  generalize (S2.new (.lst (cs.map fun c => Val.str [c]))) = S3 at *
  array_get_dec
  unfold wd2
  array_get_dec
  unfold wd3
  refine wp_ifG' (fun b S' => Kp [f] S S' ∧ Fed S' f) ?_ (fun S4 ⟨k4, fd4⟩ => ?_) (fun S4 ⟨k4, fd4⟩ => ?_)
  · array_get_dec
    refine take_ok (n := n + 1) ht fd3 (by decide) (by decide) fun j S4 hj d4 => ?_
    array_get_dec
    exact ⟨k3.trans d4.kp, d4.fed⟩
  · array_get_dec
    rw [show (((cs.length : Nat) : Int) + 1) = ((cs.length + 1 : Nat) : Int) by omega]
    refine take_ok (n := n + 1) ht fd4 (by omega) (by omega) fun j S5 hj d5 => ?_
    array_get_dec
    refine pickS_ok (n := n) ht hp d5.fed (by decide) (by decide) fun jj c S6 hc3 d6 => ?_
    have hcc : c < 128 := by
      have : ∀ x ∈ [32, 33, 34, 35, 38, 39, 40, 41, 42, 43, 44, 45, 46, 47, 48, 49, 50, 51, 52, 53, 54, 55, 56, 57, 58, 59, 60, 61, 62, 63, 64, 65, 66, 67, 68, 69, 70, 71, 72, 73, 74, 75, 76, 77, 78, 79, 80, 81, 82, 83, 84, 85, 86, 87, 88, 89, 90, 91, 93, 94, 95, 96, 36, 123, 124, 125, 126, 10], x < 128 := by decide
      exact this c (List.mem_of_getElem? hc3)
    obtain ⟨a1, a2⟩ := slc_lenM cs .none (some ((j : Nat) : Int))
    array_get_dec
    refine wp_of_eq (oAdd_str (by rw [List.length_singleton]; omega)) ?_
    array_get_dec
    refine take_ok (n := n + 1) ht d6.fed (by decide) (by decide) fun j2 S7 hj2 d7 => ?_
    array_get_dec
    obtain ⟨b1, b2⟩ := slc_lenM cs (some (((j : Nat) : Int) + (j2 : Nat))) .none
    refine wp_of_eq (oAdd_str (by rw [List.length_append, List.length_singleton]; omega)) ?_
    array_get_dec
    refine q _ S7 (fun x hx => ?_) (by rw [List.length_append, List.length_append, List.length_singleton]; omega) ((k4.trans d5.kp).trans (d6.kp.trans d7.kp)) d7.fed
    rcases List.mem_append.mp hx with e | e
    · rcases List.mem_append.mp e with e | e
      · exact hc x (a2 x e)
      · rw [List.mem_singleton.mp e]; exact hcc
    · exact hc x (b2 x e)
  · array_get_dec
    exact q cs S4 hc (by omega) k4 fd4
end
/-! _law_odd -/
open PySem
def od0 : C := sAsg (tName 2) (eLst (elCons (eC .none) (elCons (eC (.int 5)) (elCons (eC (.bool true)) (elCons (eC (.str [])) (elCons (eC (.str [97])) (elCons (eTup (elNil)) (elCons (eLst (elNil)) (elCons (eDict0) (elCons (eTup (elCons (eC (.str [97])) (elCons (eC (.int 5)) (elNil)))) (elCons (eTup (elCons (eC (.str [65])) (elNil))) (elCons (eTup (elCons (eC (.str [97, 49])) (elNil))) (elCons (eTup (elCons (eC (.str [97, 98, 99, 100, 101, 102, 103, 104, 105])) (elNil))) (elCons (eTup (elCons (eTup (elCons (eC (.str [97])) (elNil))) (elNil))) (elCons (eTup (elCons (eC (.str [])) (elNil))) (elCons (eTup (elCons (eC (.int 5)) (elNil))) (elNil)))))))))))))))))
def od1 : C := sAsg (tName 2) (eOp oAdd (eVar 2) (eLst (elCons (eB bList (elCons (eVar 1) (elNil))) (elCons (eOp oAdd (eVar 1) (eOp oMul (eTup (elCons (eTup (elCons (eC (.str [98])) (elNil))) (elNil))) (eC (.int 5)))) (elCons (eOp oAdd (eVar 1) (eTup (elCons (eC .none) (elNil)))) (elCons (eOp oAdd (eVar 1) (eTup (elCons (eC (.str [97])) (elNil)))) (elCons (eTup (elCons (eVar 1) (elNil))) (elCons (eTup (elCons (eOp oIx (eVar 1) (eC (.int 0))) (elCons (eLst (elCons (eVar 1) (elNil))) (elNil)))) (elNil)))))))))
def od2 : C := sExpr (eBm .lst mAppend (eVar 2) (elCons (eDcD (cEltD (eC (.str [97])) (eVar 1))) (elNil)))
def od3 (kp : Nat) : C := sRet (eCall kp (elCons (eVar 0) (elCons (eOp oAdd (eVar 2) (eLst (elCons (eTup (elCons (eC (.str [97])) (elCons (eTup (elCons (eC (.str [98])) (elCons (eTup (elCons (eC (.str [99, 32, 100])) (elNil))) (elNil)))) (elNil)))) (elCons (eTup (elCons (eC (.str [97])) (elCons (eTup (elCons (eC (.str [98])) (elCons (eLst (elCons (eC (.str [99])) (elNil))) (elNil)))) (elNil)))) (elCons (eOp oAdd (eTup (elCons (eC .none) (elNil))) (eSl (eVar 1) (eoSome (eC (.int 1))) (eoNone))) (elCons (eOp oPow (eC (.int 10)) (eC (.int 30))) (elNil))))))) (elNil))))
def d_odd (kp : Nat) : C := cSeq od0 (cSeq od1 (cSeq od2 (cSeq (od3 kp) (cNil))))
theorem GVs.node {S : Store} {f k : Nat} {s : List Nat} {ts : List T1} (h : okT 4 (.mk s ts) = true) (hk : lv (.mk s ts) ≤ k) : GV S f k 34 (.str s) ∧ GVs S f k (50 * szs ts) (tvs ts) := by
  rw [okT, Bool.and_eq_true, Bool.and_eq_true] at h
  obtain ⟨h1, h2⟩ := okN_len h.1
  have h1k : 1 ≤ k := by rw [lv] at hk; omega
  obtain ⟨j, rfl⟩ : ∃ j, k = j + 1 := ⟨k - 1, by omega⟩
  exact ⟨.str h2 (by omega), GVs.trees (fun t ht => by have := lvs_memD (s := s) ht; omega) h.2.2⟩
theorem n0 {S : Store} {f k : Nat} : GVs S f k 0 [] := .nil
section
variable {tb : Tb} {kt kp ko : Nat} {n : Nat} {S : Store} {f : Nat} {X : XP} {Q : Val → Store → Prop}
theorem odd_ok (ht : tb.fn kt = ⟨2, 3, cTake⟩) (hp : tb.fn kp = ⟨2, 2, cPick kt⟩) (ho : tb.fn ko = ⟨2, 3, d_odd kp⟩) (fd : Fed S f) (nf : f < S.nx) {t : T1} (hok : okT 4 t = true) (hz : sz t ≤ 1000)
    {g : Nat} (hg : f ≤ g) (ng : g < S.nx) (q : ∀ v S', GV S' g (lv t + 4) (50 * sz t + 1300) v → Kp [f] S S' → Fed S' f → Q v S') : (callN tb (n + 3) ko [.ref f, tv t] S).wp X Q := by
  have hmx : maxLen = 16777216 := rfl
  have hfu : fuel = 1000000000 := rfl
  obtain ⟨s, ts⟩ := t
  obtain ⟨gs, gts⟩ := GVs.node (S := S) (f := f) hok (Nat.le_refl _)
  refine wp_call ?_
  rw [ho]
  refine wp_run rfl ?_
  show SR.wp (d_odd kp (orcN tb (n + 2)) [some (.ref f), some (.tup (.str s :: tvs ts)), .none] S) _ _ _ _
  unfold d_odd
  refine wp_cSeq ?_
  unfold od0
  array_get_dec
  have hl4 : (tvs ts).length ≤ 4 := by
    rw [okT, Bool.and_eq_true, Bool.and_eq_true] at hok
    have := hok.2.1
    rw [Nat.ble_eq] at this
    rw [tvs_map, List.length_map]; exact this
  have ga : (((S.new (.lst [])).new (.dct [])).new (.lst [.none, .int 5, .bool true, .str [], .str [97], .tup [], .ref S.nx, .ref (S.new (.lst [])).nx, .tup [.str [97], .int 5], .tup [.str [65]], .tup [.str [97, 49]], .tup [.str [97, 98, 99, 100, 101, 102, 103, 104, 105]], .tup [.tup [.str [97]]], .tup [.str []], .tup [.int 5]])).get S.nx = some (.lst []) := by sizeOf_list_dec
  have gb : (((S.new (.lst [])).new (.dct [])).new (.lst [.none, .int 5, .bool true, .str [], .str [97], .tup [], .ref S.nx, .ref (S.new (.lst [])).nx, .tup [.str [97], .int 5], .tup [.str [65]], .tup [.str [97, 49]], .tup [.str [97, 98, 99, 100, 101, 102, 103, 104, 105]], .tup [.tup [.str [97]]], .tup [.str []], .tup [.int 5]])).get (S.new (.lst [])).nx = some (.dct []) := by sizeOf_list_dec
  have gl : (((S.new (.lst [])).new (.dct [])).new (.lst [.none, .int 5, .bool true, .str [], .str [97], .tup [], .ref S.nx, .ref (S.new (.lst [])).nx, .tup [.str [97], .int 5], .tup [.str [65]], .tup [.str [97, 49]], .tup [.str [97, 98, 99, 100, 101, 102, 103, 104, 105]], .tup [.tup [.str [97]]], .tup [.str []], .tup [.int 5]])).get ((S.new (.lst [])).new (.dct [])).nx = some (.lst [.none, .int 5, .bool true, .str [], .str [97], .tup [], .ref S.nx, .ref (S.new (.lst [])).nx, .tup [.str [97], .int 5], .tup [.str [65]], .tup [.str [97, 49]], .tup [.str [97, 98, 99, 100, 101, 102, 103, 104, 105]], .tup [.tup [.str [97]]], .tup [.str []], .tup [.int 5]]) := by sizeOf_list_dec
  have k1 : Kp [] S (((S.new (.lst [])).new (.dct [])).new (.lst [.none, .int 5, .bool true, .str [], .str [97], .tup [], .ref S.nx, .ref (S.new (.lst [])).nx, .tup [.str [97], .int 5], .tup [.str [65]], .tup [.str [97, 49]], .tup [.str [97, 98, 99, 100, 101, 102, 103, 104, 105]], .tup [.tup [.str [97]]], .tup [.str []], .tup [.int 5]])) := Kp.rfl'.new.new.new
  have n1 : (((S.new (.lst [])).new (.dct [])).new (.lst [.none, .int 5, .bool true, .str [], .str [97], .tup [], .ref S.nx, .ref (S.new (.lst [])).nx, .tup [.str [97], .int 5], .tup [.str [65]], .tup [.str [97, 49]], .tup [.str [97, 98, 99, 100, 101, 102, 103, 104, 105]], .tup [.tup [.str [97]]], .tup [.str []], .tup [.int 5]])).nx = S.nx + 3 := rfl
  have n2 : ((S.new (.lst [])).new (.dct [])).nx = S.nx + 2 := rfl
  have n3 : (S.new (.lst [])).nx = S.nx + 1 := rfl
  generalize (((S.new (.lst [])).new (.dct [])).new (.lst [.none, .int 5, .bool true, .str [], .str [97], .tup [], .ref S.nx, .ref (S.new (.lst [])).nx, .tup [.str [97], .int 5], .tup [.str [65]], .tup [.str [97, 49]], .tup [.str [97, 98, 99, 100, 101, 102, 103, 104, 105]], .tup [.tup [.str [97]]], .tup [.str []], .tup [.int 5]])) = S1 at *
  generalize ((S.new (.lst [])).new (.dct [])).nx = l0 at *
  generalize (S.new (.lst [])).nx = b at *
  have hA : ([.none, .int 5, .bool true, .str [], .str [97], .tup [], .ref S.nx, .ref b, .tup [.str [97], .int 5], .tup [.str [65]], .tup [.str [97, 49]], .tup [.str [97, 98, 99, 100, 101, 102, 103, 104, 105]], .tup [.tup [.str [97]]], .tup [.str []], .tup [.int 5]] : List Val).length = 15 := rfl
  have vA : ∀ S', Kp [f, l0] S1 S' → ∀ v ∈ ([.none, .int 5, .bool true, .str [], .str [97], .tup [], .ref S.nx, .ref b, .tup [.str [97], .int 5], .tup [.str [65]], .tup [.str [97, 49]], .tup [.str [97, 98, 99, 100, 101, 102, 103, 104, 105]], .tup [.tup [.str [97]]], .tup [.str []], .tup [.int 5]] : List Val), GV S' g (lv (T1.mk s ts) + 4) (50 * sz (T1.mk s ts) + 1300) v := by
    intro S' k'
    have ga' : S'.get S.nx = some (.lst []) := (k'.get _ (by omega) (by simp; omega)).trans ga
    have gb' : S'.get b = some (.dct []) := (k'.get _ (by omega) (by simp; omega)).trans gb
    have h' := k'.nx
    generalize lv (T1.mk s ts) = z
    generalize 50 * sz (T1.mk s ts) = N
    have st : ∀ {k : Nat} {w : List Nat}, (w.all fun c => Nat.blt c 128) = true → w.length ≤ 10 → GV S' g (k + 1) 42 (.str w) := fun h h2 => .str (fun c hc => Nat.blt_eq.mp (List.all_eq_true.mp h c hc)) (by omega)
    have i5 : ∀ {k : Nat}, GV S' g (k + 1) 1001 (.int 5) := .int 5 (by decide) (by omega)
    simp only [List.forall_mem_cons]
    refine ⟨.none (by omega), i5.mono (Nat.le_refl _) (by omega), .bool _ (by omega), (st rfl (by decide)).mono (Nat.le_refl _) (by omega), (st rfl (by decide)).mono (Nat.le_refl _) (by omega), .tup n0 (by omega), .lst (M := 0) ga' (by omega) (by omega) .nil (by omega), .dct (M := 0) gb' (by omega) (by omega) .nil (by omega),
      .tup (.cons (st rfl (by decide)) (.cons i5 n0 (Nat.le_refl _)) (Nat.le_refl _)) (by omega), .tup (.cons (st rfl (by decide)) n0 (Nat.le_refl _)) (by omega), .tup (.cons (st rfl (by decide)) n0 (Nat.le_refl _)) (by omega), .tup (.cons (st rfl (by decide)) n0 (Nat.le_refl _)) (by omega), .tup (.cons (.tup (.cons (st rfl (by decide)) n0 (Nat.le_refl _)) (Nat.le_refl _)) n0 (Nat.le_refl _)) (by omega), .tup (.cons (st rfl (by decide)) n0 (Nat.le_refl _)) (by omega), .tup (.cons i5 n0 (Nat.le_refl _)) (by omega), fun v h => nomatch h⟩
  generalize ([.none, .int 5, .bool true, .str [], .str [97], .tup [], .ref S.nx, .ref b, .tup [.str [97], .int 5], .tup [.str [65]], .tup [.str [97, 49]], .tup [.str [97, 98, 99, 100, 101, 102, 103, 104, 105]], .tup [.tup [.str [97]]], .tup [.str []], .tup [.int 5]] : List Val) = A at *
  clear ga gb
  unfold od1
  array_get_dec
  refine wp_of_eq (oAdd_tup (by rw [List.length_cons]; show _ + 1 + 5 ≤ maxLen; omega)) ?_
  array_get_dec
  refine wp_of_eq (oAdd_tup (by rw [List.length_cons]; show _ + 1 + 1 ≤ maxLen; omega)) ?_
  array_get_dec
  refine wp_of_eq (oAdd_tup (by rw [List.length_cons]; show _ + 1 + 1 ≤ maxLen; omega)) ?_
  array_get_dec
  have gc : ((S1.new (.lst (.str s :: tvs ts))).new (.lst [.tup (.str s :: tvs ts)])).get S1.nx = some (.lst (.str s :: tvs ts)) := by sizeOf_list_dec
  have gd : ((S1.new (.lst (.str s :: tvs ts))).new (.lst [.tup (.str s :: tvs ts)])).get (S1.new (.lst (.str s :: tvs ts))).nx = some (.lst [.tup (.str s :: tvs ts)]) := by sizeOf_list_dec
  have k2 : Kp [] S1 ((S1.new (.lst (.str s :: tvs ts))).new (.lst [.tup (.str s :: tvs ts)])) := Kp.rfl'.new.new
  have m1 : ((S1.new (.lst (.str s :: tvs ts))).new (.lst [.tup (.str s :: tvs ts)])).nx = S1.nx + 2 := rfl
  have m2 : (S1.new (.lst (.str s :: tvs ts))).nx = S1.nx + 1 := rfl
  generalize ((S1.new (.lst (.str s :: tvs ts))).new (.lst [.tup (.str s :: tvs ts)])) = S2 at *
  generalize (S1.new (.lst (.str s :: tvs ts))).nx = d at *
  have hB : ([.ref S1.nx, .tup (.str s :: tvs ts ++ rep [.tup [.str [98]]] 5), .tup (.str s :: tvs ts ++ [.none]), .tup (.str s :: tvs ts ++ [.str [97]]), .tup [.tup (.str s :: tvs ts)], .tup [.str s, .ref d]] : List Val).length = 6 := rfl
  have vB : ∀ S', Kp [f, l0] S2 S' → ∀ v ∈ ([.ref S1.nx, .tup (.str s :: tvs ts ++ rep [.tup [.str [98]]] 5), .tup (.str s :: tvs ts ++ [.none]), .tup (.str s :: tvs ts ++ [.str [97]]), .tup [.tup (.str s :: tvs ts)], .tup [.str s, .ref d]] : List Val), GV S' g (lv (T1.mk s ts) + 4) (50 * sz (T1.mk s ts) + 1300) v := by
    intro S' k'
    have gc' := (k'.get _ (by omega) (by simp; omega)).trans gc
    have gd' := (k'.get _ (by omega) (by simp; omega)).trans gd
    have h' := k'.nx
    obtain ⟨gs, gts⟩ := GVs.node (S := S') (f := g) (k := lv (T1.mk s ts)) hok (Nat.le_refl _)
    have ez : sz (T1.mk s ts) = 1 + szs ts := by rw [sz]
    have el : 1 ≤ lv (T1.mk s ts) := by rw [lv]; omega
    rw [ez]
    generalize lv (T1.mk s ts) = z at *
    generalize szs ts = N at *
    have st : ∀ {k : Nat} {w : List Nat}, (w.all fun c => Nat.blt c 128) = true → w.length ≤ 10 → GV S' g (k + 1) 42 (.str w) := fun h h2 => .str (fun c hc => Nat.blt_eq.mp (List.all_eq_true.mp h c hc)) (by omega)
    have tr : GVs S' g z (34 + 2 + 50 * N) (.str s :: tvs ts) := .cons gs gts (Nat.le_refl _)
    have tr3 : GVs S' g (z + 3) (34 + 2 + 50 * N) (.str s :: tvs ts) := tr.mono (by omega) (Nat.le_refl _)
    have tr2 : GV S' g (z + 1) (34 + 2 + 50 * N + 3) (.tup (.str s :: tvs ts)) := .tup tr (Nat.le_refl _)
    have b1 : GV S' g (z + 3) 47 (.tup [.str [98]]) := .tup (.cons (st rfl (by decide)) n0 (Nat.le_refl _)) (by omega)
    simp only [List.forall_mem_cons]
    refine ⟨.lst gc' (by omega) (by omega) tr3 (by omega), .tup (tr3.app (.cons b1 (.cons b1 (.cons b1 (.cons b1 (.cons b1 n0 (Nat.le_refl _)) (Nat.le_refl _)) (Nat.le_refl _)) (Nat.le_refl _)) (Nat.le_refl _))) (by omega), .tup (tr3.app (.cons (.none (Nat.le_refl _)) n0 (Nat.le_refl _))) (by omega), .tup (tr3.app (.cons (st rfl (by decide)) n0 (Nat.le_refl _))) (by omega), .tup (.cons (tr2.mono (by omega) (Nat.le_refl _)) n0 (Nat.le_refl _)) (by omega), .tup (.cons (gs.mono (by omega) (Nat.le_refl _)) (.cons (.lst gd' (by omega) (by omega) (.cons (tr2.mono (by omega) (Nat.le_refl _)) n0 (Nat.le_refl _)) (Nat.le_refl _)) n0 (Nat.le_refl _)) (Nat.le_refl _)) (by omega), fun v h => nomatch h⟩
  generalize ([.ref S1.nx, .tup (.str s :: tvs ts ++ rep [.tup [.str [98]]] 5), .tup (.str s :: tvs ts ++ [.none]), .tup (.str s :: tvs ts ++ [.str [97]]), .tup [.tup (.str s :: tvs ts)], .tup [.str s, .ref d]] : List Val) = B at *
  clear gc gd
  refine wp_of_eq (oAdd_lst (xs := A) (ys := B) (by rw [Store.new_get, if_neg (by omega)]; exact (k2.get _ (by omega) (by simp)).trans gl) (new_at _ _) (Nat.ble_eq_true_of_le (by omega))) ?_
  array_get_dec
  unfold od2
  array_get_dec
  have gl1 : ((S2.new (.lst B)).new (.lst (A ++ B))).get (S2.new (.lst B)).nx = some (.lst (A ++ B)) := new_at _ _
  have k3 : Kp [] S2 ((S2.new (.lst B)).new (.lst (A ++ B))) := Kp.rfl'.new.new
  have r1 : ((S2.new (.lst B)).new (.lst (A ++ B))).nx = S2.nx + 2 := rfl
  have r2 : (S2.new (.lst B)).nx = S2.nx + 1 := rfl
  generalize ((S2.new (.lst B)).new (.lst (A ++ B))) = S3 at *
  generalize (S2.new (.lst B)).nx = l1 at *
  have hAB : (A ++ B).length = 21 := by rw [List.length_append]; omega
  refine ⟨hasK_lst gl1, ?_⟩
  array_get_dec
  show (mAppend (orcN tb (n + 2)) (.ref l1) [.ref S3.nx] (S3.new (.dct [(.str [97], .tup (.str s :: tvs ts))]))).wp _ _
  have gl2 : (S3.new (.dct [(.str [97], .tup (.str s :: tvs ts))])).get l1 = some (.lst (A ++ B)) := by rw [Store.new_get, if_neg (by omega)]; exact gl1
  refine wp_of_eq (mAppend_eq gl2 (by omega)) ?_
  array_get_dec
  have gl3 : ((S3.new (.dct [(.str [97], .tup (.str s :: tvs ts))])).put l1 (.lst (A ++ B ++ [.ref S3.nx]))).get l1 = some (.lst (A ++ B ++ [.ref S3.nx])) := by rw [Store.put_get, if_pos rfl]
  have ge : ((S3.new (.dct [(.str [97], .tup (.str s :: tvs ts))])).put l1 (.lst (A ++ B ++ [.ref S3.nx]))).get S3.nx = some (.dct [(.str [97], .tup (.str s :: tvs ts))]) := by rw [Store.put_get, if_neg (by omega)]; exact new_at _ _
  have k4 : Kp [l1] S3 ((S3.new (.dct [(.str [97], .tup (.str s :: tvs ts))])).put l1 (.lst (A ++ B ++ [.ref S3.nx]))) := Kp.put Kp.rfl'.new (.inl (by simp))
  have r3 : ((S3.new (.dct [(.str [97], .tup (.str s :: tvs ts))])).put l1 (.lst (A ++ B ++ [.ref S3.nx]))).nx = S3.nx + 1 := rfl
  generalize ((S3.new (.dct [(.str [97], .tup (.str s :: tvs ts))])).put l1 (.lst (A ++ B ++ [.ref S3.nx]))) = S4 at *
  unfold od3
  array_get_dec
  rw [slc_tail]
  refine wp_of_eq (oAdd_tup (by show 1 + _ ≤ maxLen; omega)) ?_
  array_get_dec
  have ep : (10 : Int) ^ 30 = 1000000000000000000000000000000 := by decide
  try rw [ep]
  have k5 : Kp [] S4 (S4.new (.lst [.str [99]])) := Kp.rfl'.new
  have g5 : (S4.new (.lst [.str [99]])).get S4.nx = some (.lst [.str [99]]) := new_at _ _
  have r5 : (S4.new (.lst [.str [99]])).nx = S4.nx + 1 := rfl
  generalize (S4.new (.lst [.str [99]])) = S5 at *
  have hC : ([.tup [.str [97], .tup [.str [98], .tup [.str [99, 32, 100]]]], .tup [.str [97], .tup [.str [98], .ref S4.nx]], .tup ([.none] ++ tvs ts), .int (10 ^ Int.toNat 30)] : List Val).length = 4 := rfl
  have vC : ∀ S', Kp [f, l0] S5 S' → ∀ v ∈ ([.tup [.str [97], .tup [.str [98], .tup [.str [99, 32, 100]]]], .tup [.str [97], .tup [.str [98], .ref S4.nx]], .tup ([.none] ++ tvs ts), .int (10 ^ Int.toNat 30)] : List Val), GV S' g (lv (T1.mk s ts) + 4) (50 * sz (T1.mk s ts) + 1300) v := by
    intro S' k'
    have g' := (k'.get _ (by omega) (by simp; omega)).trans g5
    have h' := k'.nx
    obtain ⟨gs, gts⟩ := GVs.node (S := S') (f := g) (k := lv (T1.mk s ts)) hok (Nat.le_refl _)
    have ez : sz (T1.mk s ts) = 1 + szs ts := by rw [sz]
    rw [ez]
    generalize lv (T1.mk s ts) = z at *
    generalize szs ts = N at *
    have st : ∀ {k : Nat} {w : List Nat}, (w.all fun c => Nat.blt c 128) = true → w.length ≤ 10 → GV S' g (k + 1) 42 (.str w) := fun h h2 => .str (fun c hc => Nat.blt_eq.mp (List.all_eq_true.mp h c hc)) (by omega)
    simp only [List.forall_mem_cons]
    refine ⟨.tup (.cons (st rfl (by decide)) (.cons (.tup (.cons (st rfl (by decide)) (.cons (.tup (.cons (st rfl (by decide)) n0 (Nat.le_refl _)) (Nat.le_refl _)) n0 (Nat.le_refl _)) (Nat.le_refl _)) (Nat.le_refl _)) n0 (Nat.le_refl _)) (Nat.le_refl _)) (by omega),
      .tup (.cons (st rfl (by decide)) (.cons (.tup (.cons (st rfl (by decide)) (.cons (.lst g' (by omega) (by omega) (.cons (st rfl (by decide)) n0 (Nat.le_refl _)) (Nat.le_refl _)) n0 (Nat.le_refl _)) (Nat.le_refl _)) (Nat.le_refl _)) n0 (Nat.le_refl _)) (Nat.le_refl _)) (by omega),
      .tup (.cons (A := 4) (.none (Nat.le_refl _)) (gts.mono (k' := z + 3) (by omega) (Nat.le_refl _)) (Nat.le_refl _)) (by omega), .int _ (by decide) (by omega), fun v h => nomatch h⟩
  generalize ([.tup [.str [97], .tup [.str [98], .tup [.str [99, 32, 100]]]], .tup [.str [97], .tup [.str [98], .ref S4.nx]], .tup ([.none] ++ tvs ts), .int (10 ^ Int.toNat 30)] : List Val) = C at *
  refine wp_of_eq (oAdd_lst (xs := A ++ B ++ [.ref S3.nx]) (ys := C) (by rw [Store.new_get, if_neg (by omega)]; exact (k5.get _ (by omega) (by simp)).trans gl3) (new_at _ _) (Nat.ble_eq_true_of_le (by rw [List.length_append, hAB, hC]; show 21 + 1 + 4 ≤ _; omega))) ?_
  array_get_dec
  have k6 : Kp [] S5 ((S5.new (.lst C)).new (.lst (A ++ B ++ [.ref S3.nx] ++ C))) := Kp.rfl'.new.new
  have g6 : ((S5.new (.lst C)).new (.lst (A ++ B ++ [.ref S3.nx] ++ C))).get (S5.new (.lst C)).nx = some (.lst (A ++ B ++ [.ref S3.nx] ++ C)) := new_at _ _
  have r6 : (S5.new (.lst C)).nx = S5.nx + 1 := rfl
  have r7 : ((S5.new (.lst C)).new (.lst (A ++ B ++ [.ref S3.nx] ++ C))).nx = S5.nx + 2 := rfl
  generalize ((S5.new (.lst C)).new (.lst (A ++ B ++ [.ref S3.nx] ++ C))) = S6 at *
  generalize (S5.new (.lst C)).nx = l6 at *
  have kk3 : Kp [l1] S2 S6 := ((k3.up.trans k4).trans k5.up).trans k6.up
  have kS : Kp [] S S6 := ((k1.trans k2).up.trans kk3).sub fun x hx => .inr (by rw [List.mem_singleton.mp hx]; omega)
  refine pick_ok (n := n) ht hp (fd.lt kS nf (by simp)) g6 (by omega) (by rw [List.length_append, List.length_append, hAB, hC]; show 0 < 21 + 1 + 4; omega) (by rw [List.length_append, List.length_append, hAB, hC]; show 21 + 1 + 4 ≤ _; omega) fun j v S7 hv d7 => ?_
  have kS7 : Kp [f] S6 S7 := d7.kp
  have up : ∀ {Sa : Store}, Kp [] Sa S6 → Kp [f, l0] Sa S7 := fun k => ⟨Nat.le_trans k.nx kS7.nx, fun m hm hx => (kS7.get m (Nat.lt_of_lt_of_le hm k.nx) (by simp at hx ⊢; exact hx.1)).trans (k.get m hm (by simp))⟩
  refine q v S7 ?_ (kS.up.trans kS7) d7.fed
  rcases List.mem_append.mp (List.mem_of_getElem? hv) with h | h
  · rcases List.mem_append.mp h with h | h
    · rcases List.mem_append.mp h with h | h
      · exact vA S7 (up ((k2.up.trans kk3).sub fun x hx => .inr (by rw [List.mem_singleton.mp hx]; omega))) v h
      · exact vB S7 (up (kk3.sub fun x hx => .inr (by rw [List.mem_singleton.mp hx]; omega))) v h
    · rw [List.mem_singleton.mp h]
      have ge7 : S7.get S3.nx = some (.dct [(.str [97], .tup (.str s :: tvs ts))]) := (kS7.get _ (by omega) (by simp; omega)).trans ((k6.get _ (by omega) (by simp)).trans ((k5.get _ (by omega) (by simp)).trans ge))
      have ez : 50 * sz (T1.mk s ts) ≤ (50 * sz (T1.mk s ts) - 2) + 2 := by omega
      have tr := GV.tree (S := S7) (f := g) hok ez
      have h7 := kS7.nx
      exact .dct (k := lv (T1.mk s ts) + 3) (M := 6 + 2 + 50 * sz (T1.mk s ts) + 2 + 0) ge7 (by omega) (by omega) (.cons (.str (by decide) (by decide : 4 * 1 + 2 ≤ 6)) ((tr.mono (by omega) (Nat.le_refl _))) (GVk.nil (N := 0)) (by have := sz_pos (T1.mk s ts); omega)) (by omega)
  · exact vC S7 (up k6) v h
end
/-! _law_value -/
open PySem
def va0 (kt : Nat) (kpl : Nat) : C := sPar [2, 3] (elCons (eCall kt (elCons (eVar 0) (elCons (eC (.int 8)) (elNil)))) (elCons (eCall kpl (elCons (eVar 1) (elNil))) (elNil)))
def va1 (kp : Nat) : C := sAsg (tTup 2 (tCons (tName 4) (tCons (tName 5) (tNil)))) (eCall kp (elCons (eVar 0) (elCons (eVar 3) (elNil))))
def va2 : C := sIf (eOp oEq (eVar 2) (eC (.int 0))) (cSeq (sRet (eVar 1)) (cNil)) (cNil)
def va3 (ku : Nat) (ko : Nat) : C := sIf (eOp oEq (eVar 2) (eC (.int 1))) (cSeq (sRet (eCall ku (elCons (eVar 1) (elCons (eVar 4) (elCons (eCall ko (elCons (eVar 0) (elCons (eVar 5) (elNil)))) (elNil)))))) (cNil)) (cNil)
def va4 (ku : Nat) (kw : Nat) : C := sIf (eOp oEq (eVar 2) (eC (.int 2))) (cSeq (sRet (eCall ku (elCons (eVar 1) (elCons (eVar 4) (elCons (eOp oAdd (eTup (elCons (eCall kw (elCons (eVar 0) (elNil))) (elNil))) (eSl (eVar 5) (eoSome (eC (.int 1))) (eoNone))) (elNil)))))) (cNil)) (cNil)
def va5 (kt : Nat) (ko : Nat) (ku : Nat) : C := sIf (eOp oEq (eVar 2) (eC (.int 3))) (cSeq (sAsg (tName 6) (eOp oMul (eLst (elCons (eVar 5) (elNil))) (eCall kt (elCons (eVar 0) (elCons (eC (.int 6)) (elNil)))))) (cSeq (sIf (eAnd (eOp oNe (eVar 6) (eLst (elNil))) (eOp oEq (eCall kt (elCons (eVar 0) (elCons (eC (.int 2)) (elNil)))) (eC (.int 0)))) (cSeq (sAsg (tSub (eVar 6) (eCall kt (elCons (eVar 0) (elCons (eB bLen (elCons (eVar 6) (elNil))) (elNil))))) (eCall ko (elCons (eVar 0) (elCons (eVar 5) (elNil))))) (cNil)) (cNil)) (cSeq (sRet (eCall ku (elCons (eVar 1) (elCons (eVar 4) (elCons (eOp oAdd (eTup (elCons (eOp oIx (eVar 5) (eC (.int 0))) (elNil))) (eB bTuple (elCons (eVar 6) (elNil)))) (elNil)))))) (cNil)))) (cNil)
def va6 (ku : Nat) (ko : Nat) : C := sIf (eOp oEq (eVar 2) (eC (.int 4))) (cSeq (sRet (eCall ku (elCons (eVar 1) (elCons (eVar 4) (elCons (eOp oAdd (eVar 5) (eTup (elCons (eCall ko (elCons (eVar 0) (elCons (eVar 5) (elNil)))) (elNil)))) (elNil)))))) (cNil)) (cNil)
def va7 (ko : Nat) (kt : Nat) (ku : Nat) (kp : Nat) : C := sIf (eOp oEq (eVar 2) (eC (.int 6))) (cSeq (sAsg (tName 7) (eLst (elCons (eC (.str [65])) (elCons (eC (.str [])) (elCons (eC (.str [97, 49])) (elCons (eC .none) (elCons (eOp oIx (eVar 5) (eC (.int 0))) (elCons (eOp oIx (eVar 5) (eC (.int 0))) (elNil))))))))) (cSeq (sAsg (tName 6) (eSl (eLst (elCons (eCall ko (elCons (eVar 0) (elCons (eVar 5) (elNil)))) (elCons (eCall ko (elCons (eVar 0) (elCons (eVar 5) (elNil)))) (elCons (eVar 5) (elNil))))) (eoSome (eCall kt (elCons (eVar 0) (elCons (eC (.int 2)) (elNil))))) (eoNone))) (cSeq (sRet (eCall ku (elCons (eVar 1) (elCons (eVar 4) (elCons (eOp oAdd (eTup (elCons (eCall kp (elCons (eVar 0) (elCons (eVar 7) (elNil)))) (elNil))) (eB bTuple (elCons (eVar 6) (elNil)))) (elNil)))))) (cNil)))) (cNil)
def va8 (kt : Nat) (kw : Nat) : C := sIf (eOp oEq (eVar 2) (eC (.int 5))) (cSeq (sAsg (tName 8) (eVar 1)) (cSeq (sFor (tName 9) (iRange (elCons (eOp oAdd (eC (.int 20)) (eCall kt (elCons (eVar 0) (elCons (eC (.int 18)) (elNil))))) (elNil))) (cSeq (sAsg (tName 8) (eTup (elCons (eIf (eOp oEq (eVar 9) (eC (.int 3))) (eCall kw (elCons (eVar 0) (elNil))) (eC (.str [102]))) (elCons (eVar 8) (elNil))))) (cNil))) (cSeq (sRet (eVar 8)) (cNil)))) (cNil)
def va9 (ko : Nat) : C := sRet (eCall ko (elCons (eVar 0) (elCons (eVar 1) (elNil))))
def d_value (kt : Nat) (kp : Nat) (kpl : Nat) (ku : Nat) (ko : Nat) (kw : Nat) : C := cSeq (va0 kt kpl) (cSeq (va1 kp) (cSeq va2 (cSeq (va3 ku ko) (cSeq (va4 ku kw) (cSeq (va5 kt ko ku) (cSeq (va6 ku ko) (cSeq (va7 ko kt ku kp) (cSeq (va8 kt kw) (cSeq (va9 ko) (cNil))))))))))
theorem partAt_okT {m : Nat} : ∀ {p : List Nat} {t x : T1}, partAt p t = some x → okT m t = true → okT m x = true
  | [], t, x, h, ht => by
    have : t = x := Option.some.inj h
    rw [← this]; exact ht
  | k :: p, .mk s ts, x, h, ht => by
    have h : (match ts[k]? with | some c => partAt p c | .none => .none) = some x := h
    cases e : ts[k]? with
    | none => rw [e] at h; cases h
    | some c =>
      rw [e] at h
      rw [okT, Bool.and_eq_true, Bool.and_eq_true] at ht
      exact partAt_okT h (okTs_mem ht.2.2 (getElem_mem' e))
theorem wp_ifI {o : Orc} {ρ : Env} {S : Store} {N : Env → Store → Prop} {V : Val → Store → Prop} {B : Env → Store → Prop} {E : EP'} {a : C} {v : Nat} {j i : Int} (hρ : getE v ρ = some (some (.int j))) (h1 : j = i → (a o ρ S).wp N V B E) (h2 : j ≠ i → N ρ S) : (sIf (eOp oEq (eVar v) (eC (.int i))) a cNil o ρ S).wp N V B E := by
  refine wp_ifP (decide (j = i)) ?_ (fun h => h1 (of_decide_eq_true h)) (fun h => wp_cNil (h2 (of_decide_eq_false h)))
  refine wp_eOp (wp_eVar hρ rfl ?_)
  array_get_dec
  exact ⟨congrArg _ (eqQ_int j i), rfl⟩
theorem oMul_rep {o : Orc} {S : Store} {l k : Nat} {x : Val} (h : S.get l = some (.lst [x])) (hk : k ≤ 1000) : oMul o (.ref l) (.int (k : Nat)) S = .ok (.ref S.nx) (S.new (.lst (List.replicate k x))) := by
  show (match S.get l with | some (.lst xs) => (match Nat.ble (xs.length * k) maxLen && Nat.ble k maxLen with | true => alloc (.lst (rep xs k)) S | false => .stuck 23) | _ => .stuck 23) = _
  rw [h]
  have hmx : maxLen = 16777216 := rfl
  have e : (Nat.ble ([x].length * k) maxLen && Nat.ble k maxLen) = true := by
    rw [Bool.and_eq_true]
    exact ⟨Nat.ble_eq_true_of_le (by show 1 * k ≤ _; omega), Nat.ble_eq_true_of_le (by omega)⟩
  show (match Nat.ble ([x].length * k) maxLen && Nat.ble k maxLen with | true => alloc (.lst (rep [x] k)) S | false => .stuck 23) = _
  rw [e, rep_one]
  rfl
theorem GVs.reps {S : Store} {f k N : Nat} {v : Val} (h : GV S f k N v) : ∀ m, GVs S f k ((N + 2) * m) (List.replicate m v)
  | 0 => .nil
  | m + 1 => .cons h (GVs.reps h m) (by rw [Nat.mul_succ]; omega)
theorem GVs.setV {S : Store} {f k B : Nat} {v : Val} (h : GV S f k B v) : ∀ {A : Nat} {vs : List Val} (i : Nat), GVs S f k A vs → GVs S f k (A + B) (vs.set i v)
  | _, _, _, .nil => .nil
  | _, _, 0, .cons a b c => .cons h b (by omega)
  | _, _, i + 1, .cons a b c => .cons a (GVs.setV h i b) (by omega)
mutual
theorem GV.low {S : Store} {f g : Nat} (h : f ≤ g) : ∀ {k N : Nat} {v : Val}, GV S g k N v → GV S f k N v
  | _, _, _, .none h => .none h
  | _, _, _, .bool b h => .bool b h
  | _, _, _, .int i h1 h2 => .int i h1 h2
  | _, _, _, .str h1 h2 => .str h1 h2
  | _, _, _, .tup h1 h2 => .tup (GVs.low h h1) h2
  | _, _, _, .lst g h1 h2 h3 h4 => .lst g (Nat.lt_of_le_of_lt h h1) h2 (GVs.low h h3) h4
  | _, _, _, .dct g h1 h2 h3 h4 => .dct g (Nat.lt_of_le_of_lt h h1) h2 (GVk.low h h3) h4
theorem GVs.low {S : Store} {f g : Nat} (h : f ≤ g) : ∀ {k N : Nat} {v : List Val}, GVs S g k N v → GVs S f k N v
  | _, _, _, .nil => .nil
  | _, _, _, .cons h1 h2 h3 => .cons (GV.low h h1) (GVs.low h h2) h3
theorem GVk.low {S : Store} {f g : Nat} (h : f ≤ g) : ∀ {k N : Nat} {v : List (Val × Val)}, GVk S g k N v → GVk S f k N v
  | _, _, _, .nil => .nil
  | _, _, _, .cons h1 h2 h3 h4 => .cons (GV.low h h1) (GV.low h h2) (GVk.low h h3) h4
end
mutual
theorem GV.keepG {S S' : Store} {f : Nat} (hn : S.nx ≤ S'.nx) (hk : ∀ m, f < m → m < S.nx → S'.get m = S.get m) : ∀ {k N : Nat} {v : Val}, GV S f k N v → GV S' f k N v
  | _, _, _, .none h => .none h
  | _, _, _, .bool b h => .bool b h
  | _, _, _, .int i h1 h2 => .int i h1 h2
  | _, _, _, .str h1 h2 => .str h1 h2
  | _, _, _, .tup h1 h2 => .tup (GVs.keepG hn hk h1) h2
  | _, _, _, .lst g h1 h2 h3 h4 => .lst ((hk _ h1 h2).trans g) h1 (Nat.lt_of_lt_of_le h2 hn) (GVs.keepG hn hk h3) h4
  | _, _, _, .dct g h1 h2 h3 h4 => .dct ((hk _ h1 h2).trans g) h1 (Nat.lt_of_lt_of_le h2 hn) (GVk.keepG hn hk h3) h4
theorem GVs.keepG {S S' : Store} {f : Nat} (hn : S.nx ≤ S'.nx) (hk : ∀ m, f < m → m < S.nx → S'.get m = S.get m) : ∀ {k N : Nat} {v : List Val}, GVs S f k N v → GVs S' f k N v
  | _, _, _, .nil => .nil
  | _, _, _, .cons h1 h2 h3 => .cons (GV.keepG hn hk h1) (GVs.keepG hn hk h2) h3
theorem GVk.keepG {S S' : Store} {f : Nat} (hn : S.nx ≤ S'.nx) (hk : ∀ m, f < m → m < S.nx → S'.get m = S.get m) : ∀ {k N : Nat} {v : List (Val × Val)}, GVk S f k N v → GVk S' f k N v
  | _, _, _, .nil => .nil
  | _, _, _, .cons h1 h2 h3 h4 => .cons (GV.keepG hn hk h1) (GV.keepG hn hk h2) (GVk.keepG hn hk h3) h4
end
structure CV (S0 S : Store) (f : Nat) (t x : T1) (p : List Nat) : Prop where
  fd : Fed S f
  nf : f < S0.nx
  kp : Kp [f] S0 S
  ht : okT 4 t = true
  zt : sz t ≤ 12
  lt : lv t ≤ 6
  hp : partAt p t = some x
theorem CV.lf {S0 S : Store} {f : Nat} {t x : T1} {p : List Nat} (h : CV S0 S f t x p) : f < S.nx := Nat.lt_of_lt_of_le h.nf h.kp.nx
theorem CV.next {S0 S S' : Store} {f : Nat} {t x : T1} {p : List Nat} (h : CV S0 S f t x p) (k : Kp [f] S S') (fd : Fed S' f) : CV S0 S' f t x p := ⟨fd, h.nf, h.kp.trans k, h.ht, h.zt, h.lt, h.hp⟩
theorem CV.new {S0 S : Store} {f : Nat} {t x : T1} {p : List Nat} {o : Obj} (h : CV S0 S f t x p) : CV S0 (S.new o) f t x p := h.next Kp.rfl'.new (h.fd.new h.lf)
theorem CV.x {S0 S : Store} {f : Nat} {t x : T1} {p : List Nat} (h : CV S0 S f t x p) : okT 4 x = true ∧ sz x ≤ 12 ∧ lv x ≤ 6 ∧ p.length ≤ 5 := by
  obtain ⟨a, b, c⟩ := partAt_lv h.hp
  have := h.zt
  have := h.lt
  exact ⟨partAt_okT h.hp h.ht, by omega, by omega, by omega⟩
section
variable {tb : Tb} {kt kp kpl ku ko kw : Nat} {n : Nat} {S S0 : Store} {f : Nat} {t x : T1} {p : List Nat} {X : XP} {Q : Val → Store → Prop}
/-- a value put at the place -/
theorem putF_ok (hu : tb.fn ku = ⟨3, 4, c_lput ku⟩) (h : CV S0 S f t x p) {k N : Nat} {v : Val} (hv : GV S f k N v) (hk : k ≤ 40) (hN : N ≤ 18000) (q : ∀ v, GV S f 50 20000 v → Q v S) : (callN tb (n + 8) ku [tv t, pcV p, v] S).wp X Q := by
  obtain ⟨_, _, _, hl⟩ := h.x
  have := h.zt
  have := h.lt
  exact lputV_ok hu hv.err p (n + 7) t x S X Q (by omega) h.hp h.ht (by omega) fun _ => q _ ((GV.putV hv h.hp h.ht).mono (by omega) (by omega))
theorem CV.gx (h : CV S0 S f t x p) : GV S f 7 600 (tv x) := by
  obtain ⟨a, b, c, _⟩ := h.x
  have := sz_pos x
  exact (GV.tree (N := 50 * sz x) a (by omega)).mono (by omega) (by omega)
theorem CV.gt (h : CV S0 S f t x p) : GV S f 7 600 (tv t) := by
  have := h.zt
  have := h.lt
  exact (GV.tree (N := 50 * sz t) h.ht (by omega)).mono (by omega) (by omega)
variable {V : Val → Store → Prop} {N B : Env → Store → Prop} {E : EP'} {w : Nat} {r3 v6 v7 v8 v9 : Option Val}
theorem va3_ok (hu : tb.fn ku = ⟨3, 4, c_lput ku⟩) (ht : tb.fn kt = ⟨2, 3, cTake⟩) (hp : tb.fn kp = ⟨2, 2, cPick kt⟩) (ho : tb.fn ko = ⟨2, 3, d_odd kp⟩) (h : CV S0 S f t x p)
    (q : ∀ v S', CV S0 S' f t x p → GV S' f 50 20000 v → V v S') (qN : w ≠ 1 → N [some (.ref f), some (tv t), some (.int (w : Nat)), r3, some (pcV p), some (tv x), v6, v7, v8, v9] S) :
    (va3 ku ko (orcN tb (n + 8)) [some (.ref f), some (tv t), some (.int (w : Nat)), r3, some (pcV p), some (tv x), v6, v7, v8, v9] S).wp N V B E := by
  unfold va3
  refine wp_ifI rfl (fun _ => ?_) (fun e => qN (by omega))
  obtain ⟨a, b, c, _⟩ := h.x
  array_get_dec
  refine odd_ok (n := n + 5) ht hp ho h.fd h.lf a (by omega) (Nat.le_refl f) h.lf fun v S1 gv k1 fd1 => ?_
  have hv := gv.err
  have h1 := h.next k1 fd1
  array_get_dec
  exact putF_ok (n := n) hu h1 gv (by omega) (by omega) fun v g => q v S1 h1 g
theorem va4_ok (hu : tb.fn ku = ⟨3, 4, c_lput ku⟩) (ht : tb.fn kt = ⟨2, 3, cTake⟩) (hp : tb.fn kp = ⟨2, 2, cPick kt⟩) (hw : tb.fn kw = ⟨1, 6, d_word kt kp⟩) (h : CV S0 S f t x p)
    (q : ∀ v S', CV S0 S' f t x p → GV S' f 50 20000 v → V v S') (qN : w ≠ 2 → N [some (.ref f), some (tv t), some (.int (w : Nat)), r3, some (pcV p), some (tv x), v6, v7, v8, v9] S) :
    (va4 ku kw (orcN tb (n + 8)) [some (.ref f), some (tv t), some (.int (w : Nat)), r3, some (pcV p), some (tv x), v6, v7, v8, v9] S).wp N V B E := by
  unfold va4
  have hmx : maxLen = 16777216 := rfl
  refine wp_ifI rfl (fun _ => ?_) (fun e => qN (by omega))
  obtain ⟨a, b, c, _⟩ := h.x
  obtain ⟨s, ts⟩ := x
  array_get_dec
  refine word_ok (n := n + 5) ht hp hw h.fd h.lf fun wd S1 c1 c2 k1 fd1 => ?_
  have h1 := h.next k1 fd1
  obtain ⟨gs, gts⟩ := GVs.node (S := S1) (f := f) a (Nat.le_refl _)
  have ez : sz (T1.mk s ts) = 1 + szs ts := by rw [sz]
  have := gts.len
  array_get_dec
  rw [slc_tail]
  refine wp_of_eq (oAdd_tup (by show 1 + _ ≤ maxLen; omega)) ?_
  array_get_dec
  exact putF_ok (n := n) hu h1 (.tup (k := 7) (.cons (A := 100) (.str c1 (by omega)) (gts.mono (by omega) (Nat.le_refl _)) (Nat.le_refl _)) (Nat.le_refl _)) (by omega) (by omega) fun v g => q v S1 h1 g
theorem va6_ok (hu : tb.fn ku = ⟨3, 4, c_lput ku⟩) (ht : tb.fn kt = ⟨2, 3, cTake⟩) (hp : tb.fn kp = ⟨2, 2, cPick kt⟩) (ho : tb.fn ko = ⟨2, 3, d_odd kp⟩) (h : CV S0 S f t x p)
    (q : ∀ v S', CV S0 S' f t x p → GV S' f 50 20000 v → V v S') (qN : w ≠ 4 → N [some (.ref f), some (tv t), some (.int (w : Nat)), r3, some (pcV p), some (tv x), v6, v7, v8, v9] S) :
    (va6 ku ko (orcN tb (n + 8)) [some (.ref f), some (tv t), some (.int (w : Nat)), r3, some (pcV p), some (tv x), v6, v7, v8, v9] S).wp N V B E := by
  unfold va6
  have hmx : maxLen = 16777216 := rfl
  refine wp_ifI rfl (fun _ => ?_) (fun e => qN (by omega))
  obtain ⟨a, b, c, _⟩ := h.x
  obtain ⟨s, ts⟩ := x
  array_get_dec
  refine odd_ok (n := n + 5) ht hp ho h.fd h.lf a (by omega) (Nat.le_refl f) h.lf fun v S1 gv k1 fd1 => ?_
  have hv := gv.err
  have h1 := h.next k1 fd1
  obtain ⟨gs, gts⟩ := GVs.node (S := S1) (f := f) a (Nat.le_refl _)
  have ez : sz (T1.mk s ts) = 1 + szs ts := by rw [sz]
  have := gts.len
  array_get_dec
  show (oAdd _ (.tup (.str s :: tvs ts)) _ _).wp _ _
  refine wp_of_eq (oAdd_tup (by rw [List.length_cons]; show _ + 1 + 1 ≤ maxLen; omega)) ?_
  array_get_dec
  exact putF_ok (n := n) hu h1 (.tup (k := 11) (M := 34 + 2 + 50 * szs ts + (50 * sz (T1.mk s ts) + 1300 + 2 + 0)) ((GVs.cons (gs.mono (by omega) (Nat.le_refl _)) (gts.mono (by omega) (Nat.le_refl _)) (Nat.le_refl _)).app (.cons (gv.mono (by omega) (Nat.le_refl _)) n0 (Nat.le_refl _))) (Nat.le_refl _)) (by omega) (by omega) fun v g => q v S1 h1 g
theorem fin5_ok (hu : tb.fn ku = ⟨3, 4, c_lput ku⟩) (h : CV S0 S f t x p) {l : Nat} {xs : List Val} (g : S.get l = some (.lst xs)) (hx : GVs S f 12 9600 xs)
    (q : ∀ v S', CV S0 S' f t x p → GV S' f 50 20000 v → V v S') :
    (cSeq (sRet (eCall ku (elCons (eVar 1) (elCons (eVar 4) (elCons (eOp oAdd (eTup (elCons (eOp oIx (eVar 5) (eC (.int 0))) (elNil))) (eB bTuple (elCons (eVar 6) (elNil)))) (elNil)))))) (cNil) (orcN tb (n + 8)) [some (.ref f), some (tv t), some (.int (w : Nat)), r3, some (pcV p), some (tv x), some (.ref l), v7, v8, v9] S).wp N V B E := by
  have hmx : maxLen = 16777216 := rfl
  obtain ⟨a, b, c, _⟩ := h.x
  obtain ⟨s, ts⟩ := x
  obtain ⟨gs, gts⟩ := GVs.node (S := S) (f := f) a (Nat.le_refl _)
  have hl := hx.len
  array_get_dec
  refine wp_of_eq (bTuple_lst g) ?_
  array_get_dec
  refine wp_of_eq (oAdd_tup (by show 1 + _ ≤ maxLen; omega)) ?_
  array_get_dec
  exact putF_ok (n := n) hu h (.tup (k := 12) (.cons (A := 34) (gs.mono (by omega) (Nat.le_refl _)) hx (Nat.le_refl _)) (Nat.le_refl _)) (by omega) (by omega) fun v g => q v S h g
theorem dOk_reps {S : Store} {x : T1} (h : lv x ≤ 6) (j : Nat) : (List.replicate j (tv x)).all (dOk S 59) = true := List.all_eq_true.mpr fun y hy => by
  rw [List.eq_of_mem_replicate hy]; exact (dOk_tv S 58 x (by omega)).1
theorem va5_ok (hu : tb.fn ku = ⟨3, 4, c_lput ku⟩) (ht : tb.fn kt = ⟨2, 3, cTake⟩) (hp : tb.fn kp = ⟨2, 2, cPick kt⟩) (ho : tb.fn ko = ⟨2, 3, d_odd kp⟩) (h : CV S0 S f t x p)
    (q : ∀ v S', CV S0 S' f t x p → GV S' f 50 20000 v → V v S') (qN : w ≠ 3 → N [some (.ref f), some (tv t), some (.int (w : Nat)), r3, some (pcV p), some (tv x), v6, v7, v8, v9] S) :
    (va5 kt ko ku (orcN tb (n + 8)) [some (.ref f), some (tv t), some (.int (w : Nat)), r3, some (pcV p), some (tv x), v6, v7, v8, v9] S).wp N V B E := by
  unfold va5
  have hmx : maxLen = 16777216 := rfl
  refine wp_ifI rfl (fun _ => ?_) (fun e => qN (by omega))
  obtain ⟨a, b, c, _⟩ := h.x
  have gx := h.gx
  have hlf := h.lf
  have kl0 := h.kp.nx
  array_get_dec
  have h1 := h.new (o := .lst [tv x])
  have g1 : (S.new (.lst [tv x])).get S.nx = some (.lst [tv x]) := new_at _ _
  have n1 : S.nx < (S.new (.lst [tv x])).nx := Nat.lt_succ_self _
  generalize (S.new (.lst [tv x])) = S1 at *
  generalize S.nx = l at *
  refine take_ok (n := n + 7) ht h1.fd (by decide) (by decide) fun j S2 hj d2 => ?_
  have h2 := h1.next d2.kp d2.fed
  array_get_dec
  refine wp_of_eq (oMul_rep (x := tv x) (by rw [d2.get _ (by omega)]; exact g1) (by omega)) ?_
  array_get_dec
  have h3 := h2.new (o := .lst (List.replicate j (tv x)))
  have g3 : (S2.new (.lst (List.replicate j (tv x)))).get S2.nx = some (.lst (List.replicate j (tv x))) := new_at _ _
  have n3 : S2.nx < (S2.new (.lst (List.replicate j (tv x)))).nx := Nat.lt_succ_self _
  have f3 : f < S2.nx := h2.lf
  generalize (S2.new (.lst (List.replicate j (tv x)))) = S3 at *
  have kl : S0.nx ≤ S2.nx := h2.kp.nx
  generalize S2.nx = l6 at *
  refine wp_ifG' (fun b S' => CV S0 S' f t x p ∧ S'.get l6 = some (.lst (List.replicate j (tv x))) ∧ l6 < S'.nx ∧ (b = true → 0 < j)) ?_ (fun S4 ⟨h4, g4, n4, hj4⟩ => ?_) (fun S4 ⟨h4, g4, n4, hj4⟩ => ?_)
  · refine wp_eAnd ?_
    array_get_dec
    refine wp_of_eq (oNe_nil (xs := List.replicate j (tv x)) (a := l6) (b := S3.nx) (by rw [Store.new_get, if_neg (by omega)]; exact g3) (new_at _ _) (dOk_reps c j)) ?_
    have h4 := h3.new (o := .lst [])
    have g4 : (S3.new (.lst [])).get l6 = some (.lst (List.replicate j (tv x))) := by rw [Store.new_get, if_neg (by omega)]; exact g3
    have n4 : l6 < (S3.new (.lst [])).nx := Nat.lt_succ_of_lt n3
    generalize (S3.new (.lst [])) = S4 at *
    refine ⟨_, rfl, fun hb => ?_, fun hb => ⟨false, rfl, h4, g4, n4, fun h => nomatch h⟩⟩
    have hj0 : 0 < j := by
      cases j with
      | zero => cases hb
      | succ j => omega
    array_get_dec
    refine take_ok (n := n + 7) ht h4.fd (by decide) (by decide) fun j2 S5 hj2 d5 => ?_
    array_get_dec
    exact ⟨h4.next d5.kp d5.fed, by rw [d5.get _ (by omega)]; exact g4, by rw [d5.nx]; exact n4, fun _ => hj0⟩
  · array_get_dec
    refine odd_ok (n := n + 5) ht hp ho h4.fd h4.lf a (by omega) (g := l6) (by omega) n4 fun v S5 gv k5 fd5 => ?_
    have hv := gv.err
    have h5 := h4.next k5 fd5
    have g5 : S5.get l6 = some (.lst (List.replicate j (tv x))) := (k5.get _ n4 (by simp; omega)).trans g4
    have n5 : l6 < S5.nx := Nat.lt_of_lt_of_le n4 k5.nx
    array_get_dec
    refine wp_of_eq (bLen_lst g5) ?_
    array_get_dec
    refine take_ok (n := n + 7) ht h5.fd (by rw [List.length_replicate]; have := hj4 rfl; omega) (by rw [List.length_replicate]; omega) fun j2 S6 hj2 d6 => ?_
    have h6 := h5.next d6.kp d6.fed
    have n6 : l6 < S6.nx := by rw [d6.nx]; exact n5
    refine wp_of_eq (setL_eq (by rw [d6.get _ (by omega)]; exact g5) (by omega)) ?_
    have kS : Kp [l6] S6 (S6.put l6 (.lst ((List.replicate j (tv x)).set j2 v))) := Kp.put Kp.rfl' (.inl (by simp))
    have h7 : CV S0 (S6.put l6 (.lst ((List.replicate j (tv x)).set j2 v))) f t x p := ⟨by
      obtain ⟨d, y, e, r⟩ := h6.fd
      exact ⟨d, y, by rw [Store.put_get, if_neg (by omega)]; exact e, r⟩, h6.nf, Kp.put h6.kp (.inr kl), h6.ht, h6.zt, h6.lt, h6.hp⟩
    have g7 : (S6.put l6 (.lst ((List.replicate j (tv x)).set j2 v))).get l6 = some (.lst ((List.replicate j (tv x)).set j2 v)) := by rw [Store.put_get, if_pos rfl]
    have gv7 : GV (S6.put l6 (.lst ((List.replicate j (tv x)).set j2 v))) f (lv x + 4) (50 * sz x + 1300) v := GV.low (by omega) (gv.keepG (by show _ ≤ S6.nx; rw [d6.nx]; exact Nat.le_refl _) fun m h1 _ => by rw [Store.put_get, if_neg (by omega)]; exact d6.get m (by omega))
    generalize (S6.put l6 (.lst ((List.replicate j (tv x)).set j2 v))) = S7 at *
    refine wp_cNil ?_
    refine fin5_ok (n := n) hu h7 g7 ?_ q
    exact (GVs.setV (gv7.mono (k' := 12) (by omega) (Nat.le_refl _)) j2 ((GVs.reps h7.gx j).mono (k' := 12) (by omega) (Nat.le_refl _))).mono (Nat.le_refl _) (by
      have : 602 * j ≤ 602 * 5 := Nat.mul_le_mul (Nat.le_refl _) (by omega)
      omega)
  · refine wp_cNil ?_
    refine fin5_ok (n := n) hu h4 g4 ?_ q
    exact ((GVs.reps (h4.gx.mono (Nat.le_refl _) (Nat.le_refl _)) j).mono (k' := 12) (by omega) (by
      have : 602 * j ≤ 602 * 5 := Nat.mul_le_mul (Nat.le_refl _) (by omega)
      omega))
end
/-! _law_value, whole -/
open PySem
theorem cut_postG {S : Store} {l : Nat} {xs : List Val} (k : Nat) (g : S.get l = some (.lst xs)) : cutOf (.ref l) (some (k : Nat)) .none S = .ok (.ref S.nx) (S.new (.lst (xs.drop k))) := by
  have e1 : isList (S.get l) = some xs := by rw [g]; rfl
  show (match isList (S.get l) with | some vs => alloc (.lst (slc vs (some (k : Nat)) .none)) S | .none => .stuck 63) = _
  rw [e1]
  show alloc (.lst (slc xs (some (k : Nat)) .none)) S = _
  rw [slc_post]; rfl
theorem GVs.drop {S : Store} {f k : Nat} : ∀ {A : Nat} {xs : List Val} (j : Nat), GVs S f k A xs → GVs S f k A (xs.drop j)
  | _, _, 0, h => h
  | _, _, _ + 1, .nil => .nil
  | _, _, j + 1, .cons a b c => (GVs.drop j b).mono (Nat.le_refl _) (by omega)
section
variable {tb : Tb} {kt kp kpl ku ko kw kv : Nat} {n : Nat} {S S0 : Store} {f : Nat} {t x : T1} {p : List Nat} {X : XP} {Q : Val → Store → Prop}
variable {V : Val → Store → Prop} {N B : Env → Store → Prop} {E : EP'} {w : Nat} {r3 v6 v7 v8 v9 : Option Val}
theorem va7_ok (hu : tb.fn ku = ⟨3, 4, c_lput ku⟩) (ht : tb.fn kt = ⟨2, 3, cTake⟩) (hp : tb.fn kp = ⟨2, 2, cPick kt⟩) (ho : tb.fn ko = ⟨2, 3, d_odd kp⟩) (h : CV S0 S f t x p)
    (q : ∀ v S', CV S0 S' f t x p → GV S' f 50 20000 v → V v S') (qN : w ≠ 6 → N [some (.ref f), some (tv t), some (.int (w : Nat)), r3, some (pcV p), some (tv x), v6, v7, v8, v9] S) :
    (va7 ko kt ku kp (orcN tb (n + 8)) [some (.ref f), some (tv t), some (.int (w : Nat)), r3, some (pcV p), some (tv x), v6, v7, v8, v9] S).wp N V B E := by
  unfold va7
  have hmx : maxLen = 16777216 := rfl
  refine wp_ifI rfl (fun _ => ?_) (fun e => qN (by omega))
  obtain ⟨a, b, c, _⟩ := h.x
  have hlf := h.lf
  obtain ⟨s, ts⟩ := x
  array_get_dec
  have h1 := h.new (o := .lst [.str [65], .str [], .str [97, 49], .none, .str s, .str s])
  have g1 : (S.new (.lst [.str [65], .str [], .str [97, 49], .none, .str s, .str s])).get S.nx = some (.lst [.str [65], .str [], .str [97, 49], .none, .str s, .str s]) := new_at _ _
  have n1 : S.nx < (S.new (.lst [.str [65], .str [], .str [97, 49], .none, .str s, .str s])).nx := Nat.lt_succ_self _
  generalize (S.new (.lst [.str [65], .str [], .str [97, 49], .none, .str s, .str s])) = S1 at *
  have kl0 := h.kp.nx
  generalize S.nx = l7 at *
  refine odd_ok (n := n + 5) ht hp ho h1.fd h1.lf a (by omega) (Nat.le_refl f) h1.lf fun v1 S2 gv1 k2 fd2 => ?_
  have h2 := h1.next k2 fd2
  have hv1 := gv1.err
  array_get_dec
  refine odd_ok (n := n + 5) ht hp ho h2.fd h2.lf a (by omega) (Nat.le_refl f) h2.lf fun v2 S3 gv2 k3 fd3 => ?_
  have h3 := h2.next k3 fd3
  have hv2 := gv2.err
  have gv1 := gv1.keep k3
  have k23 := k2.trans k3
  array_get_dec
  have h4 := h3.new (o := .lst [v1, v2, tv (.mk s ts)])
  have gv1 := gv1.keep (Kp.rfl'.new (o := .lst [v1, v2, tv (.mk s ts)]))
  have gv2 := gv2.keep (Kp.rfl'.new (o := .lst [v1, v2, tv (.mk s ts)]))
  have g4 : (S3.new (.lst [v1, v2, tv (.mk s ts)])).get S3.nx = some (.lst [v1, v2, tv (.mk s ts)]) := new_at _ _
  have n4 : S3.nx < (S3.new (.lst [v1, v2, tv (.mk s ts)])).nx := Nat.lt_succ_self _
  have k4 : Kp [f] S1 (S3.new (.lst [v1, v2, tv (.mk s ts)])) := k23.new
  have f4 := h3.lf
  generalize (S3.new (.lst [v1, v2, tv (.mk s ts)])) = S4 at *
  generalize S3.nx = l4 at *
  refine take_ok (n := n + 7) ht h4.fd (by decide) (by decide) fun j S5 hj d5 => ?_
  have h5 := h4.next d5.kp d5.fed
  array_get_dec
  refine wp_of_eq (cut_postG j (by rw [d5.get _ (by omega)]; exact g4)) ?_
  have h6 := h5.new (o := .lst ([v1, v2, tv (.mk s ts)].drop j))
  have g6 : (S5.new (.lst ([v1, v2, tv (.mk s ts)].drop j))).get S5.nx = some (.lst ([v1, v2, tv (.mk s ts)].drop j)) := new_at _ _
  have n6 : S5.nx < (S5.new (.lst ([v1, v2, tv (.mk s ts)].drop j))).nx := Nat.lt_succ_self _
  have k6 : Kp [f] S1 (S5.new (.lst ([v1, v2, tv (.mk s ts)].drop j))) := (k4.trans d5.kp).new
  have gv1 := (gv1.keep d5.kp).keep (Kp.rfl'.new (o := .lst ([v1, v2, tv (.mk s ts)].drop j)))
  have gv2 := (gv2.keep d5.kp).keep (Kp.rfl'.new (o := .lst ([v1, v2, tv (.mk s ts)].drop j)))
  have f6 := h5.lf
  have ez : sz (T1.mk s ts) = 1 + szs ts := by rw [sz]
  have gx := h6.gx
  generalize (S5.new (.lst ([v1, v2, tv (.mk s ts)].drop j))) = S6 at *
  generalize S5.nx = l6 at *
  array_get_dec
  refine pick_ok (n := n + 6) ht hp h6.fd (l := l7) (k6.get _ n1 (by simp; omega) |>.trans g1) (by omega) (by simp) (by simp) fun i v S7 hv d7 => ?_
  have h7 := h6.next d7.kp d7.fed
  obtain ⟨gs, gts⟩ := GVs.node (S := S7) (f := f) a (Nat.le_refl _)
  have gv : GV S7 f 12 34 v := by
    have := List.mem_of_getElem? hv
    have hall : ∀ v ∈ ([.str [65], .str [], .str [97, 49], .none, .str s, .str s] : List Val), GV S7 f 12 34 v := by
      simp only [List.forall_mem_cons]
      exact ⟨.str (by decide) (by decide), .str (by decide) (by decide), .str (by decide) (by decide), .none (by omega), gs.mono (by omega) (by omega), gs.mono (by omega) (by omega), fun v h => nomatch h⟩
    exact hall v this
  have hve := gv.err
  have gvs : GVs S7 f 12 6000 ([v1, v2, tv (.mk s ts)].drop j) := by
    refine (GVs.drop j (.cons ((gv1.keep d7.kp).mono (k' := 12) (by omega) (Nat.le_refl _)) (.cons ((gv2.keep d7.kp).mono (k' := 12) (by omega) (Nat.le_refl _)) (.cons ((gx.keep d7.kp).mono (k' := 12) (by omega) (Nat.le_refl _)) n0 (Nat.le_refl _)) (Nat.le_refl _)) (Nat.le_refl _))).mono (by omega) (by omega)
  have hln := gvs.len
  array_get_dec
  refine wp_of_eq (bTuple_lst (by rw [d7.get _ (by omega)]; exact g6)) ?_
  array_get_dec
  refine wp_of_eq (oAdd_tup (by show 1 + _ ≤ maxLen; omega)) ?_
  array_get_dec
  exact putF_ok (n := n) hu h7 (.tup (k := 12) (.cons (A := 34) gv gvs (Nat.le_refl _)) (Nat.le_refl _)) (by omega) (by omega) fun v g => q v S7 h7 g
theorem va8_ok (ht : tb.fn kt = ⟨2, 3, cTake⟩) (hp : tb.fn kp = ⟨2, 2, cPick kt⟩) (hw : tb.fn kw = ⟨1, 6, d_word kt kp⟩) (h : CV S0 S f t x p)
    (q : ∀ v S', CV S0 S' f t x p → GV S' f 50 20000 v → V v S') (qN : w ≠ 5 → N [some (.ref f), some (tv t), some (.int (w : Nat)), r3, some (pcV p), some (tv x), v6, v7, v8, v9] S) :
    (va8 kt kw (orcN tb (n + 8)) [some (.ref f), some (tv t), some (.int (w : Nat)), r3, some (pcV p), some (tv x), v6, v7, v8, v9] S).wp N V B E := by
  unfold va8
  have hmx : maxLen = 16777216 := rfl
  have hfu : fuel = 1000000000 := rfl
  refine wp_ifI rfl (fun _ => ?_) (fun e => qN (by omega))
  array_get_dec
  refine wpR_sFor ?_
  array_get_dec
  refine take_ok (n := n + 7) ht h.fd (by decide) (by decide) fun j S1 hj d1 => ?_
  have h1 := h.next d1.kp d1.fed
  array_get_dec
  have hm : ((20 : Int) + (j : Nat)) = ((20 + j : Nat) : Int) := by omega
  rw [hm]
  have hj10 : 20 + j ≤ 37 := by omega
  generalize 20 + j = m at *
  refine ⟨by show Nat.blt ((m : Nat) : Int).natAbs (2 ^ 24) = true; rw [Nat.blt_eq]; omega, ?_⟩
  refine ⟨upTo 0 m, fun _ => True, fun r ρ S' => ∃ (i k : Nat) (v : Val) (u9 : Option Val), r = upTo (i : Nat) k ∧ i + k = m ∧ ρ = [some (.ref f), some (tv t), some (.int (w : Nat)), r3, some (pcV p), some (tv x), v6, v7, some v, u9] ∧ GV S' f (7 + i) (600 + 100 * i) v ∧ CV S0 S' f t x p, Fd.vals _, by rw [upTo_len]; omega, ⟨0, m, _, _, rfl, by omega, rfl, h1.gt, h1⟩, fun _ _ _ _ => trivial, ?_, ?_⟩
  · rintro v r ρ S2 ⟨i, k, v0, u9, hr, hik, rfl, gv, h2⟩
    cases k with
    | zero => cases hr
    | succ k =>
      rw [upTo_cons] at hr
      obtain ⟨rfl, rfl⟩ := List.cons.inj hr
      have hve := gv.err
      array_get_dec
      refine ⟨fun _ => ?_, fun _ => ?_⟩
      · array_get_dec
        refine word_ok (n := n + 5) ht hp hw h2.fd h2.lf fun wd S3 c1 c2 k3 fd3 => ?_
        have h3 := h2.next k3 fd3
        array_get_dec
        have g0 : GV S3 f (7 + i) 82 (.str wd) := by
          rw [show 7 + i = 6 + i + 1 by omega]
          exact .str c1 (by omega)
        have gn : GV S3 f (7 + i + 1) (600 + 100 * (i + 1)) (.tup [.str wd, v0]) := .tup (M := 82 + 2 + (600 + 100 * i + 2 + 0)) (.cons g0 (.cons (gv.keep k3) n0 (Nat.le_refl _)) (Nat.le_refl _)) (by omega)
        exact ⟨i + 1, k, _, _, by rw [show ((i : Nat) : Int) + 1 = ((i + 1 : Nat) : Int) by omega], by omega, rfl, gn, h3⟩
      · array_get_dec
        have g0 : GV S2 f (7 + i) 82 (.str [102]) := by
          rw [show 7 + i = 6 + i + 1 by omega]
          exact .str (by decide) (by decide)
        have gn : GV S2 f (7 + i + 1) (600 + 100 * (i + 1)) (.tup [.str [102], v0]) := .tup (M := 82 + 2 + (600 + 100 * i + 2 + 0)) (.cons g0 (.cons gv n0 (Nat.le_refl _)) (Nat.le_refl _)) (by omega)
        exact ⟨i + 1, k, _, _, by rw [show ((i : Nat) : Int) + 1 = ((i + 1 : Nat) : Int) by omega], by omega, rfl, gn, h2⟩
  · rintro ρ S2 ⟨i, k, v0, u9, hr, hik, rfl, gv, h2⟩
    have hk0 : k = 0 := by
      cases k with
      | zero => rfl
      | succ k => rw [upTo_cons] at hr; cases hr
    subst hk0
    have hve := gv.err
    array_get_dec
    exact q v0 S2 h2 (gv.mono (by omega) (by omega))
theorem value_ok (hu : tb.fn ku = ⟨3, 4, c_lput ku⟩) (ht : tb.fn kt = ⟨2, 3, cTake⟩) (hp : tb.fn kp = ⟨2, 2, cPick kt⟩) (hpl : tb.fn kpl = ⟨1, 6, c_lplaces kpl⟩) (ho : tb.fn ko = ⟨2, 3, d_odd kp⟩) (hw : tb.fn kw = ⟨1, 6, d_word kt kp⟩) (hv : tb.fn kv = ⟨2, 10, d_value kt kp kpl ku ko kw⟩)
    (fd : Fed S f) (nf : f < S.nx) (hok : okT 4 t = true) (zt : sz t ≤ 12) (lt : lv t ≤ 6) (q : ∀ v S', GV S' f 50 20000 v → Kp [f] S S' → Fed S' f → Q v S') : (callN tb (n + 9) kv [.ref f, tv t] S).wp X Q := by
  refine wp_call ?_
  rw [hv]
  refine wp_run rfl ?_
  show SR.wp (d_value kt kp kpl ku ko kw (orcN tb (n + 8)) [some (.ref f), some (tv t), .none, .none, .none, .none, .none, .none, .none, .none] S) _ _ _ _
  unfold d_value
  unfold va0
  array_get_dec
  refine take_ok (n := n + 7) ht fd (by decide) (by decide) fun j S1 hj d1 => ?_
  array_get_dec
  have nf1 : f < S1.nx := by rw [d1.nx]; exact nf
  refine lplaces_ok hpl (n + 8) t S1 _ _ (by omega) (by omega) (by omega) fun r S2 k2 g2 n2 m2 => ?_
  array_get_dec
  have k02 : Kp [f] S S2 := d1.kp.trans k2.up
  have fd2 := d1.fed.lt k2 nf1 (by simp)
  unfold va1
  have hpos := sz_pos t
  array_get_dec
  refine pick_ok (n := n + 6) ht hp fd2 g2 (by omega) (by rw [List.length_map, places_len]; exact hpos) (by rw [List.length_map, places_len]; omega) fun i v S3 hv3 d3 => ?_
  obtain ⟨⟨p, x⟩, hm, rfl⟩ := List.mem_map.mp (List.mem_of_getElem? hv3)
  have h3 : CV S S3 f t x p := ⟨d3.fed, nf, k02.trans d3.kp, hok, zt, lt, places_at hm⟩
  array_get_dec
  show SR.wp (va2 (orcN tb (n + 8)) [some (.ref f), some (tv t), some (.int (j : Nat)), some (.ref r), some (pcV p), some (tv x), .none, .none, .none, .none] S3) _ _ _ _
  unfold va2
  refine (wp_ifI rfl (fun _ => ?_) (fun _ => ?_))
  · array_get_dec
    exact q _ S3 (h3.gt.mono (by omega) (by omega)) h3.kp h3.fd
  have Q' : ∀ v S', CV S S' f t x p → GV S' f 50 20000 v → Q v S' := fun v S' h g => q v S' g h.kp h.fd
  refine wp_cSeq (va3_ok (n := n) hu ht hp ho h3 Q' fun _ => ?_)
  refine wp_cSeq (va4_ok (n := n) hu ht hp hw h3 Q' fun _ => ?_)
  refine wp_cSeq (va5_ok (n := n) hu ht hp ho h3 Q' fun _ => ?_)
  refine wp_cSeq (va6_ok (n := n) hu ht hp ho h3 Q' fun _ => ?_)
  refine wp_cSeq (va7_ok (n := n) hu ht hp ho h3 Q' fun _ => ?_)
  refine wp_cSeq (va8_ok (n := n) ht hp hw h3 Q' fun _ => ?_)
  unfold va9
  array_get_dec
  refine odd_ok (n := n + 5) ht hp ho h3.fd h3.lf hok (by omega) (Nat.le_refl f) h3.lf fun v S4 gv k4 fd4 => ?_
  have hve := gv.err
  array_get_dec
  exact q v S4 (gv.mono (by omega) (by omega)) (h3.kp.trans k4) fd4
end
/-! k01: the law -/
open PySem
mutual
theorem GV.dat {S S' : Store} {f : Nat} (kp : Kp [f] S S') : ∀ {k N : Nat} {v : Val}, GV S f k N v → ∀ {j : Nat}, k ≤ j → datD S' j v = datD S j v
  | _, _, _, .none h, j + 1, _ => rfl
  | _, _, _, .bool b h, j + 1, _ => rfl
  | _, _, _, .int i h1 h2, j + 1, _ => rfl
  | _, _, _, .str h1 h2, j + 1, _ => rfl
  | _, _, _, .tup h1 h2, j + 1, hj => congrArg PyData.tuple (GVs.dat kp h1 (by omega))
  | _, _, _, .lst (n := n) (vs := vs) g h1 h2 h3 h4, j + 1, hj => by
    have g' := (kp.get _ h2 (by simp; omega)).trans g
    show (match S'.get n with | some (.lst xs) => PyData.list (xs.map (datD S' j)) | some (.dct kvs) => PyData.dict (kvs.map fun (p : Val × Val) => (datD S' j p.1, datD S' j p.2)) | _ => PyData.none) = (match S.get n with | some (.lst xs) => PyData.list (xs.map (datD S j)) | some (.dct kvs) => PyData.dict (kvs.map fun (p : Val × Val) => (datD S j p.1, datD S j p.2)) | _ => PyData.none)
    rw [g, g']
    exact congrArg PyData.list (GVs.dat kp h3 (by omega))
  | _, _, _, .dct (n := n) (kvs := vs) g h1 h2 h3 h4, j + 1, hj => by
    have g' := (kp.get _ h2 (by simp; omega)).trans g
    show (match S'.get n with | some (.lst xs) => PyData.list (xs.map (datD S' j)) | some (.dct kvs) => PyData.dict (kvs.map fun (p : Val × Val) => (datD S' j p.1, datD S' j p.2)) | _ => PyData.none) = (match S.get n with | some (.lst xs) => PyData.list (xs.map (datD S j)) | some (.dct kvs) => PyData.dict (kvs.map fun (p : Val × Val) => (datD S j p.1, datD S j p.2)) | _ => PyData.none)
    rw [g, g']
    exact congrArg PyData.dict (GVk.dat kp h3 (by omega))
  | k + 1, _, _, h, 0, hj => absurd hj (by omega)
theorem GVs.dat {S S' : Store} {f : Nat} (kp : Kp [f] S S') : ∀ {k N : Nat} {vs : List Val}, GVs S f k N vs → ∀ {j : Nat}, k ≤ j → vs.map (datD S' j) = vs.map (datD S j)
  | _, _, _, .nil, _, _ => rfl
  | _, _, _, .cons h1 h2 h3, _, hj => by rw [List.map_cons, List.map_cons, GV.dat kp h1 hj, GVs.dat kp h2 hj]
theorem GVk.dat {S S' : Store} {f : Nat} (kp : Kp [f] S S') : ∀ {k N : Nat} {kvs : List (Val × Val)}, GVk S f k N kvs → ∀ {j : Nat}, k ≤ j → (kvs.map fun (p : Val × Val) => (datD S' j p.1, datD S' j p.2)) = kvs.map fun (p : Val × Val) => (datD S j p.1, datD S j p.2)
  | _, _, _, .nil, _, _ => rfl
  | _, _, _, .cons h1 h2 h3 h4, _, hj => by rw [List.map_cons, List.map_cons, GV.dat kp h1 hj, GV.dat kp h2 hj, GVk.dat kp h3 hj]
end
theorem GV.rp {S S' : Store} {f k N : Nat} {v : Val} (h : GV S f k N v) (hk : k ≤ 70) (kp : Kp [f] S S') : rpV S' v = rpV S v := by
  unfold rpV
  rw [h.dat kp hk]
theorem okT_24 : ∀ {t : T1}, okT 2 t = true → okT 4 t = true
  | .mk s ts, h => by
    rw [okT, Bool.and_eq_true, Bool.and_eq_true, Nat.ble_eq] at h
    exact okT_mk h.1 (by omega) fun t ht => okT_24 (okTs_mem h.2.2 ht)
decreasing_by
  have := List.sizeOf_lt_of_mem ht
  simp_wf
  omega
def i01 : C := cSeq (sAsg (tName 5) (eCall 13 (elCons (eVar 2) (elCons (eCall 7 (elCons (eVar 2) (elCons (eVar 3) (elCons (eOp oAdd (eC (.int 1)) (eCall 3 (elCons (eVar 2) (elCons (eC (.int 12)) (elNil))))) (elNil))))) (elNil))))) (cSeq (sPar [6, 7] (elCons (eB bReprD (elCons (eVar 5) (elNil))) (elCons (eCallP 1 (elCons (eVar 5) (elNil))) (elNil)))) (cSeq (sIf (eOr (eOp oNe (eB bReprD (elCons (eVar 7) (elNil))) (eB bReprD (elCons (eCall 11 (elCons (eVar 5) (elNil))) (elNil)))) (eOp oNe (eB bReprD (elCons (eVar 5) (elNil))) (eVar 6))) (cSeq (sRet (eC (.bool false))) (cNil)) (cNil)) (cNil)))
def c_law01 : C := cSeq (sFor (tName 1) (iRange (elCons (eB bMax2 (elCons (eC (.int 1)) (elCons (eB bMin2 (elCons (eC (.int 3)) (elCons (eB bLen (elCons (eVar 0) (elNil))) (elNil)))) (elNil)))) (elNil))) (cSeq (sAsg (tName 2) (eCall 2 (elCons (eVar 0) (elCons (eVar 1) (elNil))))) (cSeq (sAsg (tName 3) (eCall 5 (elCons (eVar 2) (elNil)))) (cSeq (sFor (tName 4) (iRange (elCons (eC (.int 12)) (elNil))) i01) (cNil))))) (cSeq (sRet (eC (.bool true))) (cNil))
structure F01 (tb : Tb) : Prop where
  hn : tb.fn 0 = ⟨1, 2, c_isname⟩
  ht : tb.fn 1 = ⟨1, 2, c_istree 0 1⟩
  hf : tb.fn 2 = ⟨2, 4, cFeed⟩
  hk : tb.fn 3 = ⟨2, 3, cTake⟩
  hp : tb.fn 4 = ⟨2, 2, cPick 3⟩
  hnm : tb.fn 5 = ⟨1, 2, c_names 4⟩
  hg : tb.fn 6 = ⟨4, 7, c_grow2 3 6⟩
  hr : tb.fn 7 = ⟨3, 3, cSeq (sRet (eCall 6 (elCons (eVar 0) (elCons (eVar 1) (elCons (eVar 2) (elCons (eC (.int 6)) (elNil))))))) (cNil)⟩
  hpl : tb.fn 8 = ⟨1, 6, c_lplaces 8⟩
  hu : tb.fn 9 = ⟨3, 4, c_lput 9⟩
  ho : tb.fn 10 = ⟨2, 3, d_odd 4⟩
  hl : tb.fn 11 = ⟨1, 3, d_lawtree 11⟩
  hw : tb.fn 12 = ⟨1, 6, d_word 3 4⟩
  hv : tb.fn 13 = ⟨2, 10, d_value 3 4 8 9 10 12⟩
  law : tb.fn 14 = ⟨1, 8, c_law01⟩
section
variable {tb : Tb} {n : Nat} {S : Store} {f l : Nat} {Q : Val → Store → Prop}
theorem turn01_ok (F : F01 tb) (fd : Fed S f) (nm : Nm6 S l) (hne : l ≠ f) (hf : f < S.nx) (hl : l < S.nx) {v0 v1 v4 v5 v6 v7 : Option Val} {N B : Env → Store → Prop} {V : Val → Store → Prop} {E : EP'}
    (q : ∀ v5 v6 v7 S', Kp [f] S S' → Fed S' f → N [v0, v1, some (.ref f), some (.ref l), v4, v5, v6, v7] S') : (i01 (orcN tb (n + 60)) [v0, v1, some (.ref f), some (.ref l), v4, v5, v6, v7] S).wp N V B E := by
  unfold i01
  array_get_dec
  refine take_ok (n := n + 59) F.hk fd (by decide) (by decide) fun j S1 hj d1 => ?_
  array_get_dec
  rw [show (1 : Int) + (j : Nat) = ((1 + j : Nat) : Int) by omega]
  have nm1 := nm.kp d1.kp hl (by simpa using hne)
  refine tree2_ok (n := n + 57) F.hk F.hg F.hr hne (by omega) (by omega) (by omega) d1.fed nm1 fun t S2 t1 t2 t3 d2 => ?_
  have k2 := d1.kp.trans d2.kp
  have hf2 : f < S2.nx := Nat.lt_of_lt_of_le hf k2.nx
  array_get_dec
  refine value_ok (n := n + 51) F.hu F.hk F.hp F.hpl F.ho F.hw F.hv d2.fed hf2 (okT_24 t1) (by omega) t3 fun v S3 gv k3 fd3 => ?_
  have hve := gv.err
  have kk3 := k2.trans k3
  array_get_dec
  refine wp_of_eq (repr_gv (gv.mono (by omega) (Nat.le_refl _)) (by decide)) ?_
  array_get_dec
  refine callP_gv gv (fun S0 g => istree_gv F.hn F.ht (n + 59) _ _ _ _ (by omega) g (by decide)) fun S4 k4 => ?_
  array_get_dec
  have gv4 := gv.keep (k4.up (X := [f]))
  have kk4 := kk3.trans k4.up
  have f3 : f < S3.nx := Nat.lt_of_lt_of_le hf kk3.nx
  have fd4 := fd3.lt k4 f3 (by simp)
  have f4 : f < S4.nx := Nat.lt_of_lt_of_le f3 k4.nx
  have gb : GV S4 f 70 5 (.bool (isTrV 50 v)) := .bool _ (Nat.le_refl _)
  refine wp_ifG false (fun S' => Kp [] S4 S') ?_ (fun h => nomatch h) (fun _ S5 k5 => ?_)
  · refine wp_eOr ?_
    array_get_dec
    refine wp_of_eq (repr_gv gb (by decide)) ?_
    array_get_dec
    obtain ⟨x, S5, e, rfl, k5⟩ := (lawtree_gv F.hl (n + 59) _ _ _ _ (by omega) gv4 (by decide)).ok
    refine wp_of_eq e ?_
    array_get_dec
    refine wp_of_eq (repr_gv (gb.keep (k5.up (X := [f]))) (by decide)) ?_
    array_get_dec
    rw [gb.rp (by decide) (k5.up (X := [f])), eqS_self]
    show (false = false → _) ∧ (false = true → _)
    refine ⟨fun _ => ?_, fun h => nomatch h⟩
    array_get_dec
    refine wp_of_eq (repr_gv ((gv4.keep (k5.up (X := [f]))).mono (by omega) (Nat.le_refl _)) (by decide)) ?_
    array_get_dec
    rw [gv4.rp (by decide) (k5.up (X := [f])), gv.rp (by decide) (k4.up (X := [f])), eqS_self]
    exact ⟨rfl, k5⟩
  · refine wp_cNil ?_
    exact q _ _ _ S5 (kk4.trans k5.up) (fd4.lt k5 f4 (by simp))
theorem law01_ok (F : F01 tb) {ns : List Int} (hns : ns.length ≤ 63) {X : XP} (q : ∀ S, Q (.bool true) S) : (callN tb (n + 61) 14 [.scr ns] ⟨0, .nil⟩).wp X Q := by
  have hfu : fuel = 1000000000 := rfl
  refine wp_call ?_
  rw [F.law]
  refine wp_run rfl ?_
  show SR.wp (c_law01 (orcN tb (n + 60)) [some (.scr ns), .none, .none, .none, .none, .none, .none, .none] ⟨0, .nil⟩) _ _ _ _
  unfold c_law01
  generalize (⟨0, .nil⟩ : Store) = S0
  array_get_dec
  refine wpR_sFor (R.wp.mono (Q := fun it S => S = S0 ∧ ∃ m : Nat, m ≤ 3 ∧ it = .vals (upTo 0 m)) ?_ ?_)
  · array_get_dec
    have e := intLt_eq (ns.length : Nat) 3
    cases h : intLt (ns.length : Nat) 3 with
    | false =>
      refine ⟨rfl, rfl, 3, Nat.le_refl _, rfl⟩
    | true =>
      rw [h] at e
      have e := of_decide_eq_true e.symm
      show smallI (match intLt 1 (ns.length : Nat) with | true => ((ns.length : Nat) : Int) | false => 1) = true ∧ S0 = S0 ∧ ∃ m : Nat, m ≤ 3 ∧ It.vals (upTo 0 (match intLt 1 (ns.length : Nat) with | true => ((ns.length : Nat) : Int) | false => 1).toNat) = .vals (upTo 0 m)
      cases intLt 1 (ns.length : Nat) with
      | false => exact ⟨rfl, rfl, 1, by decide, rfl⟩
      | true => exact ⟨by show Nat.blt ((ns.length : Nat) : Int).natAbs (2 ^ 24) = true; rw [Nat.blt_eq]; omega, rfl, ns.length, by omega, rfl⟩
  rintro it S0 ⟨rfl, m, hm, rfl⟩
  refine ⟨upTo 0 m, fun _ => True, fun r ρ S => ∃ (i k : Nat) (v1 v2 v3 v4 v5 v6 v7 : Option Val), r = upTo (i : Nat) k ∧ i + k ≤ 3 ∧ ρ = [some (.scr ns), v1, v2, v3, v4, v5, v6, v7], Fd.vals _, by rw [upTo_len]; omega, ⟨0, m, _, _, _, _, _, _, _, rfl, by omega, rfl⟩, fun _ _ _ _ => trivial, ?_, ?_⟩
  · rintro v r ρ S ⟨i, k, v1, v2, v3, v4, v5, v6, v7, hrr, hik, rfl⟩
    cases k with
    | zero => cases hrr
    | succ k =>
      obtain ⟨rfl, rfl⟩ : v = .int (i : Nat) ∧ r = upTo ((i : Int) + 1) k := List.cons.inj hrr
      array_get_dec
      refine feed_ok (n := n + 59) F.hf (by omega) fun f S1 kp1 fd h1 h2 => ?_
      array_get_dec
      refine names_ok (n := n + 57) F.hk F.hp F.hnm fd h2 fun l S2 nm hne kp2 fd2 hf2 hl2 => ?_
      array_get_dec
      refine wpR_sFor ?_
      array_get_dec
      refine ⟨upTo 0 12, fun _ => True, fun r ρ S => ∃ (v1 v4 v5 v6 v7 : Option Val), ρ = [some (.scr ns), v1, some (.ref f), some (.ref l), v4, v5, v6, v7] ∧ Fed S f ∧ Nm6 S l ∧ f < S.nx ∧ l < S.nx, Fd.vals _, by decide, ⟨_, _, _, _, _, rfl, fd2, nm, hf2, hl2⟩, fun _ _ _ _ => trivial, ?_, ?_⟩
      · rintro v r ρ S ⟨v1, v4, v5, v6, v7, rfl, fd, nm, hf, hl⟩
        array_get_dec
        refine turn01_ok (n := n) F fd nm hne hf hl fun w5 w6 w7 S' k' fd' => ?_
        exact ⟨_, _, _, _, _, rfl, fd', nm.kp k' hl (by simpa using hne), Nat.lt_of_lt_of_le hf k'.nx, Nat.lt_of_lt_of_le hl k'.nx⟩
      · rintro ρ S ⟨v1, v4, v5, v6, v7, rfl, fd, nm, hf, hl⟩
        array_get_dec
        exact ⟨i + 1, k, _, _, _, _, _, _, _, by rw [show ((i + 1 : Nat) : Int) = (i : Int) + 1 by omega], by omega, rfl⟩
  · rintro ρ S ⟨i, k, v1, v2, v3, v4, v5, v6, v7, hrr, hik, rfl⟩
    array_get_dec
    exact q S
end
end G
set_option Elab.async false
set_option linter.all false
set_option maxRecDepth 100000
set_option maxHeartbeats 0
namespace L01
open PySem PySem.Spec L2 G
open PyProof.Rows hiding St
theorem f01 : F01 tb := {
  hn := by kernel_rfl, ht := by kernel_rfl, hf := by kernel_rfl, hk := by kernel_rfl, hp := by kernel_rfl, hnm := by kernel_rfl, hg := by kernel_rfl, hr := by kernel_rfl, hpl := by kernel_rfl, hu := by kernel_rfl, ho := by kernel_rfl, hl := by kernel_rfl, hw := by kernel_rfl, hv := by kernel_rfl, law := by kernel_rfl }
theorem says01 {r : G.R Val} (h : r.wp noX (fun v _ => v = .bool true)) : ∃ S, r = .ok (.bool true) S := by
  cases r with
  | ok v S => exact ⟨S, by rw [show v = .bool true from h]⟩
  | exc c fs S => exact h.elim
  | stuck w => exact h.elim
theorem law_n (n : Nat) (h4 : n ≤ 239) (ns : List Int) (h : ns.length ≤ 63) : (callN tb (n + 61) 14 [.scr ns] ⟨0, .nil⟩).wp noX (fun v _ => v = .bool true) :=
  law01_ok (n := n) f01 h fun _ => rfl
theorem plain (ns : List Int) (h : ns.length ≤ 63) : ∃ S, callN tb 300 14 [.scr ns] ⟨0, .nil⟩ = .ok (.bool true) S :=
  says01 (law_n 239 (by decide) ns h)
end L01
open PySem PySem.W PySem.Calls PyProof.Rows
theorem PySem.Challenge.cw_graftrules_k01_values_that_are_trees_holds : PySem.Challenge.rw_graftrules_k01_values_that_are_trees.Holds := by
  w_on; o_law
  refine HandSHeadRun.head_any (r := OpenLaw.row PySem.Challenge.rw_graftrules_k01_values_that_are_trees) (q := view (OpenLaw.row PySem.Challenge.rw_graftrules_k01_values_that_are_trees).prog [19]) (H := L01.hk) (ob := L01.ob) (M := 20000) (loose := L01.names) (d := HandSHeadRun.topDef (OpenLaw.row PySem.Challenge.rw_graftrules_k01_values_that_are_trees).prog 19) (kwd := []) L01.ob_eq
    (by kernel_rfl) (fun s => by kernel_rfl) L01.run (by kernel_rfl) (by kernel_rfl) (by kernel_rfl) (by rfl) (by first | assumption | decide +kernel) (by decide +kernel) ⟨rfl, rfl, rfl, rfl, rfl, by decide +kernel⟩ ?hw ?hc
  case hw => w_witness2
  case hc =>
    refine G.end_walk (l := PySem.Challenge.rw_graftrules_k01_values_that_are_trees) (most := 63) (n := 300) (x := "script") rfl (by decide) (by kernel_rfl) ⟨rfl, by decide, by decide, rfl⟩ ?F
    intro w mg fa h Y G0 hmg0
    obtain ⟨K, KX, c⟩ := Y
    have hmg : mg ("law" : PySem.Str) = some (.ref fa) := by
      have e : (HandSHeadRun.topDef (OpenLaw.row PySem.Challenge.rw_graftrules_k01_values_that_are_trees).prog 19).name = ("law" : PySem.Str) := by kernel_rfl
      rw [← e]
      exact hmg0
    have W : L01.WF K mg := L01.wf KX G0 c
    have e := hmg.symm.trans W.g_14
    cases e
    refine ⟨K, _, _, KX, fun s u => W.F_14.bindsA (ps := ["script"]) (fun _ _ _ _ _ _ us hl => match us, hl with | [_], _ => rfl) s [u] rfl, fun H a ns hl ho hS => ?_, fun base _ _ => L01.all_ok (P := (PySem.Challenge.rw_graftrules_k01_values_that_are_trees).prog) (w := w) (base := base) W 300 14 (by decide)⟩
    exact G.law_wish (g := L01.gx (PySem.Challenge.rw_graftrules_k01_values_that_are_trees).prog w K) ⟨rfl, rfl⟩ L01.plain hl ho hS
