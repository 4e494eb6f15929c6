import PyProof.Rows.All
import PyProof.P3Statements
import OpenK.KCell
import OpenK.Lit
import OpenK.KTop
import Open.FastT9
import Wide.All
import Wide.FinOn
import PySem.Challenge.RW_uf040002_03
set_option Elab.async false
set_option linter.all false
set_option genSizeOf false

namespace Mine
open PySem (Str PyData)

inductive V where
  | none
  | bool (b : Bool)
  | int (i : Int)
  | str (s : Str)
  | ref (a : Nat)
  | top (i : Nat)
  deriving DecidableEq

inductive O where
  | list (xs : List V)
  | tup (xs : List V)
  | dict (es : List (V × V))
  | inst (c : Nat) (d : Nat)
  | attrs (es : List (Nat × V))
  | rng (a b c : Int)
  deriving DecidableEq

abbrev H := List O
noncomputable def H.get (h : H) (a : Nat) : Option O := h[a]?
noncomputable def H.put (h : H) (a : Nat) (o : O) : H := h.set a o
noncomputable def H.push (h : H) (o : O) : H := h ++ [o]

inductive R (α : Type) where
  | ok (a : α)
  | err (c : Nat)

abbrev X (α : Type) := H → Option (R α × H)
noncomputable def X.pure {α : Type} (a : α) : X α := fun h => some (.ok a, h)
noncomputable def X.bind {α β : Type} (m : X α) (f : α → X β) : X β := fun h =>
  match m h with
  | some (.ok a, h') => f a h'
  | some (.err c, h') => some (.err c, h')
  | none => none
noncomputable def X.none {α : Type} : X α := fun _ => Option.none
noncomputable def X.lift {α : Type} (o : Option α) : X α := fun h => match o with | some a => some (.ok a, h) | Option.none => Option.none

abbrev Loc := Nat → Option V
noncomputable def Loc.upd (l : Loc) (i : Nat) (v : V) : Loc := fun j => bif j == i then some v else l j

inductive Bi where
  | len | sorted | list | tuple | str | int | range | min | max | set | zip
  deriving DecidableEq

set_option genInjectivity false in
mutual
inductive Ex where
  | cnone
  | cbool (b : Bool)
  | cint (i : Int)
  | cstr (s : Str)
  | loc (i : Nat)
  | glo (i : Nat)
  | bin (op : PySem.Operator) (a b : Ex)
  | neg (a : Ex)
  | not (a : Ex)
  | band (es : Exs)
  | bor (es : Exs)
  | cmp (op : PySem.CmpOp) (a b : Ex)
  | cmp2 (o1 o2 : PySem.CmpOp) (a b c : Ex)
  | list (es : Exs)
  | tup (es : Exs)
  | dict (ks vs : Exs)
  | attr (a : Ex) (n : Nat)
  | sub (a i : Ex)
  | slice (a lo hi : Ex)
  | call (f : Nat) (args : Exs)
  | new (c : Nat)
  | meth (o : Ex) (n : Nat) (args : Exs)
  | bi (b : Bi) (args : Exs)
  | isi (a : Ex) (cs : List Nat)
  | comp (elt : Ex) (tg : List Nat) (tup : Bool) (it : Ex) (conds : Exs)
inductive Exs where
  | nil
  | cons (e : Ex) (es : Exs)
end

set_option genInjectivity false in
inductive Tg where
  | var (i : Nat)
  | attr (o : Ex) (n : Nat)
  | sub (o i : Ex)

set_option genInjectivity false in
mutual
inductive St where
  | expr (e : Ex)
  | asg (t : Tg) (e : Ex)
  | ite (c : Ex) (a b : Sts)
  | whl (c : Ex) (b : Sts)
  | for (tg : List Nat) (tup : Bool) (e : Ex) (b : Sts)
  | ret (e : Ex)
  | ret0
  | pass
  | rais (c : Nat) (msg : Str)
  | try (b : Sts) (c : Nat) (r : Ex)
inductive Sts where
  | nil
  | cons (s : St) (ss : Sts)
  | any
end

set_option genInjectivity false in
structure FD where
  params : List Nat
  body : Sts

set_option genInjectivity false in
structure Prog where
  funs : List (Nat × FD)
  meths : List (Nat × FD)
  globs : List (Nat × V)
  tabs : List (Nat × List (V × V))
  init : Nat
  attrs : List Nat := []
  nf : Nat := 0

noncomputable def H.getM (P : Prog) (h : H) (a : Nat) : Option O := if P.nf ≤ a then h.get a else none


noncomputable def idInt : Nat := 0
noncomputable def idBool : Nat := 1
noncomputable def idList : Nat := 2
noncomputable def idTuple : Nat := 3
noncomputable def idStr : Nat := 4
noncomputable def idValueError : Nat := 5
noncomputable def idAppend : Nat := 6
noncomputable def idPop : Nat := 7
noncomputable def idClear : Nat := 8
noncomputable def idRemove : Nat := 9
noncomputable def idSplit : Nat := 10
noncomputable def idJoin : Nat := 11
noncomputable def idReplace : Nat := 12

noncomputable def lim : Nat := 1000000
noncomputable def okO : O → Bool
  | .list xs => decide (xs.length ≤ lim)
  | .tup xs => decide (xs.length ≤ lim)
  | .dict es => decide (es.length ≤ lim)
  | _ => true
noncomputable def okS (s : Str) : Bool := decide (s.length ≤ lim) && PySem.PyData.strOk s
noncomputable def small (i : Int) : Bool := decide (i.natAbs < 2 ^ 64)
noncomputable def small' (i : Int) : Bool := decide (i.natAbs < 2 ^ 60)
noncomputable def alloc (o : O) : X V := fun h => if okO o then some (.ok (.ref h.length), h.push o) else none
noncomputable def grow (a : Nat) (o : O) (v : V) : X V := fun h => if okO o then some (.ok v, h.put a o) else none
noncomputable def getO (a : Nat) : X O := fun h => match h.get a with | some o => some (.ok o, h) | none => none
noncomputable def putO (a : Nat) (o : O) : X Unit := fun h => some (.ok (), h.put a o)
noncomputable def err {α : Type} (c : Nat) : X α := fun h => some (.err c, h)

noncomputable def truth (v : V) : X Bool := fun h => match v with
  | .none => some (.ok false, h)
  | .bool b => some (.ok b, h)
  | .int i => some (.ok (decide (i ≠ 0)), h)
  | .str s => some (.ok (decide (s.length ≠ 0)), h)
  | .ref a => match h.get a with
    | some (.list xs) => some (.ok (!xs.isEmpty), h)
    | some (.tup xs) => some (.ok (!xs.isEmpty), h)
    | some (.dict es) => some (.ok (!es.isEmpty), h)
    | _ => none
  | .top _ => none

noncomputable def optAll {α β : Type} (f : α → Option β) : List α → Option (List β)
  | [] => some []
  | x :: xs => match f x, optAll f xs with
    | some y, some ys => some (y :: ys)
    | _, _ => none
noncomputable def dataOf (h : H) : Nat → V → Option PyData
  | 0, _ => none
  | n + 1, v => match v with
    | .none => some .none
    | .bool b => some (.bool b)
    | .int i => some (.int i)
    | .str s => some (.str s)
    | .ref a => match h.get a with
      | some (.list xs) => (optAll (dataOf h n) xs).map .list
      | some (.tup xs) => (optAll (dataOf h n) xs).map .tuple
      | _ => none
    | .top _ => none
noncomputable def deq (h : H) (a b : V) : Option Bool := match dataOf h 5 a, dataOf h 5 b with
  | some x, some y => some (PyData.eqv x y)
  | _, _ => none

noncomputable def intPow (a b : Int) : Option Int := if 0 ≤ b ∧ b ≤ 100 ∧ small a then some (a ^ b.toNat) else none

/- parts of values, for what is partly defined -/
noncomputable def onInt {β : Type} (v : V) (f : Int → Option β) : Option β := match v with
  | .int i => f i
  | _ => none
noncomputable def onRef {β : Type} (v : V) (f : Nat → Option β) : Option β := match v with
  | .ref i => f i
  | _ => none
noncomputable def onL {β : Type} (o : Option O) (f : List V → Option β) : Option β := match o with
  | some (.list xs) => f xs
  | _ => none
noncomputable def on1 {β : Type} (l : List V) (f : V → Option β) : Option β := match l with
  | [a] => f a
  | _ => none
noncomputable def on2 {β : Type} (l : List V) (f : V → V → Option β) : Option β := match l with
  | [a, b] => f a b
  | _ => none
theorem onInt_eq {β : Type} {v : V} {f : Int → Option β} {r : β} (h : onInt v f = some r) : ∃ i, v = .int i ∧ f i = some r := by
  cases v <;> first | exact ⟨_, rfl, h⟩ | cases h
theorem onRef_eq {β : Type} {v : V} {f : Nat → Option β} {r : β} (h : onRef v f = some r) : ∃ i, v = .ref i ∧ f i = some r := by
  cases v <;> first | exact ⟨_, rfl, h⟩ | cases h
theorem on1_eq {β : Type} {l : List V} {f : V → Option β} {r : β} (h : on1 l f = some r) : ∃ a, l = [a] ∧ f a = some r := by
  match l, h with
  | [a], h => exact ⟨a, rfl, h⟩
theorem on2_eq {β : Type} {l : List V} {f : V → V → Option β} {r : β} (h : on2 l f = some r) : ∃ a b, l = [a, b] ∧ f a b = some r := by
  match l, h with
  | [a, b], h => exact ⟨a, b, rfl, h⟩
noncomputable def twoInts (a b : V) (f : Int → Int → Option (R V × H)) : Option (R V × H) := onInt a fun x => onInt b fun y => f x y
noncomputable def binop (op : PySem.Operator) (a b : V) : X V := fun h => match op with
  | .Add => match a with
    | .int x => onInt b fun y => some (.ok (.int (x + y)), h)
    | _ => none
  | .Sub => twoInts a b fun x y => some (.ok (.int (x - y)), h)
  | .FloorDiv => twoInts a b fun x y => if y = 0 then none else if small y then some (.ok (.int (Int.fdiv x y)), h) else none
  | .Mod => twoInts a b fun x y => if y = 0 then none else some (.ok (.int (Int.fmod x y)), h)
  | _ => none

noncomputable def inList (h : H) (x : V) (ys : List V) : Option Bool := match dataOf h 5 x, optAll (dataOf h 4) ys with
  | some d, some ds => some (ds.any fun y => PyData.eqv y d)
  | _, _ => none

noncomputable def dget (es : List (V × V)) (k : V) : Option V := match es with
  | [] => none
  | (k', v) :: r => if k' = k then some v else dget r k
noncomputable def dset (es : List (V × V)) (k v : V) : List (V × V) := match es with
  | [] => [(k, v)]
  | (k', v') :: r => if k' = k then (k', v) :: r else (k', v') :: dset r k v
noncomputable def ddel (es : List (V × V)) (k : V) : List (V × V) := match es with
  | [] => []
  | (k', v') :: r => if k' = k then r else (k', v') :: ddel r k

noncomputable def isKey : V → Bool
  | .int _ => true
  | .str _ => true
  | _ => false

noncomputable def tabOf (P : Prog) (i : Nat) : Option (List (V × V)) := P.tabs.lookup i

noncomputable def strIn (x y : Str) : Option Bool := if x.length = 1 then some (y.cps.toList.any fun c => decide (x.cps.toList = [c])) else none

noncomputable def contains (P : Prog) (x c : V) : X Bool := fun h => match c with
  | .ref a => match h.get a with
    | some (.list ys) => (inList h x ys).map fun b => (.ok b, h)
    | some (.tup ys) => (inList h x ys).map fun b => (.ok b, h)
    | some (.dict es) => if isKey x || decide (x = .none) then some (.ok (dget es x).isSome, h) else none
    | _ => none
  | .top i => match tabOf P i with
    | some es => if isKey x then some (.ok (dget es x).isSome, h) else none
    | none => none
  | .str y => match x with
    | .str _ => none
    | _ => none
  | _ => none

noncomputable def cmpop (P : Prog) (op : PySem.CmpOp) (a b : V) : X V := fun h => match op with
  | .Eq => (deq h a b).map fun r => (.ok (.bool r), h)
  | .NotEq => (deq h a b).map fun r => (.ok (.bool (!r)), h)
  | .Lt => match a, b with | .int x, .int y => some (.ok (.bool (decide (x < y))), h) | _, _ => none
  | .LtE => match a, b with | .int x, .int y => some (.ok (.bool (decide (x ≤ y))), h) | _, _ => none
  | .Gt => match a, b with | .int x, .int y => some (.ok (.bool (decide (x > y))), h) | _, _ => none
  | .GtE => match a, b with | .int x, .int y => some (.ok (.bool (decide (x ≥ y))), h) | _, _ => none
  | .Is => match b with | .none => some (.ok (.bool (decide (a = .none))), h) | _ => none
  | .IsNot => match b with | .none => some (.ok (.bool (decide (a ≠ .none))), h) | _ => none
  | .In => X.bind (contains P a b) (fun r => X.pure (.bool r)) h
  | .NotIn => X.bind (contains P a b) (fun r => X.pure (.bool (!r))) h

noncomputable def idx (i : Int) (n : Nat) : Option Nat := if 0 ≤ i ∧ i < n then some i.toNat else none

noncomputable def getItem (P : Prog) (o i : V) : X V := fun h => match o with
  | .ref a => match h.get a, i with
    | some (.list xs), .int k => ((idx k xs.length).bind fun j => xs[j]?).map fun v => (.ok v, h)
    | some (.tup xs), .int k => ((idx k xs.length).bind fun j => xs[j]?).map fun v => (.ok v, h)
    | some (.dict es), k => if isKey k then (dget es k).map fun v => (.ok v, h) else none
    | _, _ => none
  | .top t => match tabOf P t with
    | some es => if isKey i then (dget es i).map fun v => (.ok v, h) else none
    | none => none
  | _ => none

noncomputable def setItem (P : Prog) (o i v : V) : X Unit := fun h => match o with
  | .ref a => match h.getM P a, i with
    | some (.list xs), .int k => (idx k xs.length).map fun j => (.ok (), h.put a (.list (xs.set j v)))
    | some (.dict es), k => if isKey k then (if okO (.dict (dset es k v)) then some (.ok (), h.put a (.dict (dset es k v))) else none) else none
    | _, _ => none
  | _ => none

noncomputable def clip (v : V) (n : Nat) (d : Nat) : Option Nat := match v with
  | .none => some d
  | .int i => some (if 0 ≤ i then min i.toNat n else (i + n).toNat)
  | _ => none
noncomputable def cut {α : Type} (xs : List α) (lo hi : Nat) : List α := (xs.take hi).drop lo

noncomputable def getSlice (o lo hi : V) : X V := fun h => match o with
  | .ref a => match h.get a with
    | some (.list xs) => match clip lo xs.length 0, clip hi xs.length xs.length with
      | some l, some u => some (.ok (.ref h.length), h.push (.list (cut xs l u)))
      | _, _ => none
    | _ => none
  | _ => none

noncomputable def aget (es : List (Nat × V)) (k : Nat) : Option V := match es with
  | [] => none
  | (k', v) :: r => if k' = k then some v else aget r k
noncomputable def aset (es : List (Nat × V)) (k : Nat) (v : V) : List (Nat × V) := match es with
  | [] => [(k, v)]
  | (k', v') :: r => if k' = k then (k', v) :: r else (k', v') :: aset r k v

noncomputable def getAttr (o : V) (n : Nat) : X V := fun h => match o with
  | .ref a => match h.get a with
    | some (.inst _ d) => match h.get d with
      | some (.attrs es) => (aget es n).map fun v => (.ok v, h)
      | _ => none
    | _ => none
  | _ => none
noncomputable def setAttr (P : Prog) (o : V) (n : Nat) (v : V) : X Unit := fun h => match o with
  | .ref a => match h.get a with
    | some (.inst _ d) => match h.getM P d with
      | some (.attrs es) => if P.attrs.contains n && decide ((aset es n v).length ≤ 100) then some (.ok (), h.put d (.attrs (aset es n v))) else none
      | _ => none
    | _ => none
  | _ => none

noncomputable def intsOf : List V → Option (List Int)
  | [] => some []
  | .int i :: r => (intsOf r).map (i :: ·)
  | _ => none
noncomputable def insertI (x : Int) : List Int → List Int
  | [] => [x]
  | y :: r => if x ≤ y then x :: y :: r else y :: insertI x r
noncomputable def sortI : List Int → List Int
  | [] => []
  | x :: r => insertI x (sortI r)

noncomputable def rangeList (a b c : Int) : List Int :=
  if 0 < c then (List.range (if a < b then (b - a - 1) / c + 1 else 0).toNat).map fun (k : Nat) => a + (k : Int) * c else []

noncomputable def iterOf (v : V) (h : H) : Option (List V) := match v with
  | .ref a => match h.get a with
    | some (.list xs) => some xs
    | some (.tup xs) => some xs
    | some (.rng a b c) => if small' a && small' b && small' c && decide (b - a ≤ (lim : Int)) && decide (0 < c) then some ((rangeList a b c).map .int) else none
    | _ => none
  | _ => none
noncomputable def still (v : V) (h h' : H) : Bool := match v with
  | .ref a => decide (h'.get a = h.get a)
  | _ => true

noncomputable def strsOf : List V → Option (List Str)
  | [] => some []
  | .str s :: r => (strsOf r).map (s :: ·)
  | _ => none
noncomputable def joinS (sep : Str) : List Str → Str
  | [] => ⟨#[]⟩
  | [s] => s
  | s :: r => s ++ sep ++ joinS sep r
noncomputable def splitC (c : Nat) : List Nat → List (List Nat)
  | [] => [[]]
  | x :: r => if x = c then [] :: splitC c r else match splitC c r with
    | [] => [[x]]
    | w :: ws => (x :: w) :: ws
noncomputable def replC (c : Nat) (t : List Nat) : Nat → List Nat → List Nat
  | 0, l => l
  | _, [] => []
  | n + 1, x :: r => if x = c then t ++ replC c t n r else x :: replC c t (n + 1) r
noncomputable def digitsI (s : Str) : Option Int :=
  if s.length ≠ 0 && decide (s.length ≤ 100) && s.cps.toList.all (fun c => decide (48 ≤ c) && decide (c ≤ 57)) then some (s.cps.toList.foldl (fun (n : Int) (c : Nat) => 10 * n + ((c : Int) - 48)) 0) else none

noncomputable def biLen (v : V) (h : H) : Option (R V × H) := match v with
  | .ref a => match h.get a with
    | some (.list xs) => some (.ok (.int xs.length), h)
    | some (.tup xs) => some (.ok (.int xs.length), h)
    | some (.dict es) => some (.ok (.int es.length), h)
    | _ => none
  | _ => none
noncomputable def sortedI (o : Option (List Int)) (h : H) : Option (R V × H) := match o with
  | some ns => if ns.length < 64 then some (.ok (.ref h.length), h.push (.list ((sortI ns).map .int))) else none
  | none => none
noncomputable def biSorted (v : V) (h : H) : Option (R V × H) := onRef v fun a => match h.get a with
    | some (.dict es) => sortedI (intsOf (es.map (·.1))) h
    | _ => none
noncomputable def biList (v : V) (h : H) : Option (R V × H) := onRef v fun a => match h.get a with
    | some (.list xs) => alloc (.list xs) h
    | some (.tup xs) => alloc (.list xs) h
    | _ => none
noncomputable def biRange (args : List V) (h : H) : Option (R V × H) := match args with
  | [a] => onInt a fun n => alloc (.rng 0 n 1) h
  | _ => none
noncomputable def builtin (b : Bi) (args : List V) : X V := fun h => match b with
  | .len => on1 args fun v => biLen v h
  | .sorted => on1 args fun v => biSorted v h
  | .list => on1 args fun v => biList v h
  | .range => biRange args h
  | .min => on2 args fun a b => twoInts a b fun a b => some (.ok (.int (if b < a then b else a)), h)
  | _ => none

noncomputable def isinst (P : Prog) (v : V) (c : Nat) : X Bool := fun h => match v with
  | .none => some (.ok false, h)
  | .bool _ => some (.ok (c == idBool || c == idInt), h)
  | .int _ => some (.ok (c == idInt), h)
  | .str _ => some (.ok (c == idStr), h)
  | .ref a => match h.get a with
    | some (.list _) => some (.ok (c == idList), h)
    | some (.tup _) => some (.ok (c == idTuple), h)
    | _ => none
  | .top _ => none

noncomputable def isinsts (P : Prog) (v : V) : List Nat → X Bool
  | [c] => if c ≤ 4 then isinst P v c else X.none
  | _ => X.none

noncomputable def listMeth (P : Prog) (o : V) (n : Nat) (args : List V) : X V := fun h => match o with
  | .ref a => match h.getM P a with
    | some (.list xs) =>
      if n = idAppend then match args with
        | [v] => grow a (.list (xs ++ [v])) .none h
        | _ => none
      else if n = idPop then match args with
        | [] => match xs.getLast? with
          | some v => some (.ok v, h.put a (.list xs.dropLast))
          | none => none
        | _ => none
      else if n = idClear then match args with
        | [] => some (.ok .none, h.put a (.list []))
        | _ => none
      else none
    | _ => none
  | _ => none
noncomputable def dictMeth (P : Prog) (o : V) (n : Nat) (args : List V) : X V := fun h => match o with
  | .ref a => match h.getM P a with
    | some (.dict es) =>
      if n = idPop then match args with
        | [k] => if isKey k then match dget es k with
            | some v => some (.ok v, h.put a (.dict (ddel es k)))
            | none => none
          else none
        | [k, d] => if isKey k then match dget es k with
            | some v => some (.ok v, h.put a (.dict (ddel es k)))
            | none => some (.ok d, h)
          else none
        | _ => none
      else none
    | _ => none
  | _ => none

inductive Kd where
  | inst | list | dict | str | other
noncomputable def kdOf (v : V) (h : H) : Kd := match v with
  | .ref a => match h.get a with
    | some (.inst _ d) => match h.get d with
      | some (.attrs _) => .inst
      | _ => .other
    | some (.list _) => .list
    | some (.dict _) => .dict
    | _ => .other
  | .str _ => .str
  | _ => .other

noncomputable def bindTg (tg : List Nat) (tup : Bool) (v : V) (loc : Loc) (h : H) : Option Loc := match tup, tg with
  | false, [i] => some (loc.upd i v)
  | true, is => match v with
    | .ref a => match h.get a with
      | some (.tup xs) => if xs.length = is.length then some ((is.zip xs).foldl (fun l p => l.upd p.1 p.2) loc) else none
      | _ => none
    | _ => none
  | _, _ => none

noncomputable def compL (v₀ : V) (tg : List Nat) (tup : Bool) (t : Loc → X Bool) (e : Loc → X V) (loc : Loc) (h₀ : H) : List V → H → Option (R (List V) × H)
  | [], h => some (.ok [], h)
  | v :: vs, h => match bindTg tg tup v loc h with
    | none => none
    | some l' => match t l' h with
      | none => none
      | some (.err _, _) => none
      | some (.ok false, h₁) => if still v₀ h₀ h₁ then compL v₀ tg tup t e loc h₀ vs h₁ else none
      | some (.ok true, h₁) => match e l' h₁ with
        | none => none
        | some (.err _, _) => none
        | some (.ok w, h₂) => if still v₀ h₀ h₂ then match compL v₀ tg tup t e loc h₀ vs h₂ with
            | none => none
            | some (.err _, _) => none
            | some (.ok ws, h₃) => some (.ok (w :: ws), h₃)
          else none

abbrev Calls := Bool → Nat → List V → X V

section
variable (P : Prog) (C : Calls)
mutual
noncomputable def ev : Ex → Loc → X V
  | .cnone, _ => X.pure .none
  | .cbool b, _ => X.pure (.bool b)
  | .cint i, _ => X.pure (.int i)
  | .cstr s, _ => X.pure (.str s)
  | .loc i, loc => X.lift (loc i)
  | .glo i, _ => match P.globs.lookup i with
    | some v => X.pure v
    | none => match P.tabs.lookup i with
      | some _ => X.pure (.top i)
      | none => X.none
  | .bin op a b, loc => X.bind (ev a loc) fun x => X.bind (ev b loc) fun y => binop op x y
  | .neg a, loc => X.bind (ev a loc) fun x => match x with | .int i => X.pure (.int (-i)) | _ => X.none
  | .not a, loc => X.bind (ev a loc) fun x => X.bind (truth x) fun t => X.pure (.bool (!t))
  | .band es, loc => evAnd es loc
  | .bor es, loc => evOr es loc
  | .cmp op a b, loc => X.bind (ev a loc) fun x => X.bind (ev b loc) fun y => cmpop P op x y
  | .cmp2 o1 o2 a b c, loc => X.bind (ev a loc) fun x => X.bind (ev b loc) fun y => X.bind (cmpop P o1 x y) fun r => X.bind (truth r) fun t =>
      if t then X.bind (ev c loc) fun z => cmpop P o2 y z else X.pure r
  | .list es, loc => X.bind (evs es loc) fun vs => alloc (.list vs)
  | .tup es, loc => X.bind (evs es loc) fun vs => alloc (.tup vs)
  | .dict ks vs, loc => X.bind (evs ks loc) fun kv => X.bind (evs vs loc) fun vv => if kv.all isKey && kv.length == vv.length then alloc (.dict ((kv.zip vv).foldl (fun d p => dset d p.1 p.2) [])) else X.none
  | .attr a n, loc => X.bind (ev a loc) fun o => getAttr o n
  | .sub a i, loc => X.bind (ev a loc) fun o => X.bind (ev i loc) fun k => getItem P o k
  | .slice a lo hi, loc => X.bind (ev a loc) fun o => X.bind (ev lo loc) fun l => X.bind (ev hi loc) fun u => getSlice o l u
  | .call f args, loc => X.bind (evs args loc) fun vs => C false f vs
  | .new c, _ => X.bind (alloc (.attrs [])) fun d => match d with
    | .ref k => X.bind (alloc (.inst c k)) fun o => X.bind (C true P.init [o]) fun r => match r with | .none => X.pure o | _ => X.none
    | _ => X.none
  | .meth o n args, loc => X.bind (ev o loc) fun ov => fun h => match kdOf ov h with
    | .inst => if n ≤ 12 then none else X.bind (evs args loc) (fun vs => C true n (ov :: vs)) h
    | .list => if n = idAppend ∨ n = idPop ∨ n = idClear then X.bind (evs args loc) (fun vs => listMeth P ov n vs) h else none
    | .dict => if n = idPop then X.bind (evs args loc) (fun vs => dictMeth P ov n vs) h else none
    | _ => none
  | .bi b args, loc => X.bind (evs args loc) fun vs => builtin b vs
  | .isi a cs, loc => X.bind (ev a loc) fun v => X.bind (isinsts P v cs) fun b => X.pure (.bool b)
  | .comp elt tg tup it conds, loc => X.bind (ev it loc) fun v => fun h => match iterOf v h with
    | none => none
    | some vs => X.bind (compL v tg tup (tstAnd conds) (ev elt) loc h vs) (fun ws => alloc (.list ws)) h
noncomputable def evs : Exs → Loc → X (List V)
  | .nil, _ => X.pure []
  | .cons e es, loc => X.bind (ev e loc) fun v => X.bind (evs es loc) fun vs => X.pure (v :: vs)
noncomputable def evAnd : Exs → Loc → X V
  | .nil, _ => X.none
  | .cons e .nil, loc => ev e loc
  | .cons e es, loc => X.bind (ev e loc) fun v => X.bind (truth v) fun t => if t then evAnd es loc else X.pure v
noncomputable def evOr : Exs → Loc → X V
  | .nil, _ => X.none
  | .cons e .nil, loc => ev e loc
  | .cons e es, loc => X.bind (ev e loc) fun v => X.bind (truth v) fun t => if t then X.pure v else evOr es loc
noncomputable def tst : Ex → Loc → X V → X Bool
  | .not a, loc, _ => X.bind (tst a loc (ev a loc)) fun t => X.pure (!t)
  | .band es, loc, _ => tstAnd es loc
  | .bor es, loc, _ => tstOr es loc
  | _, _, whole => X.bind whole truth
noncomputable def tstAnd : Exs → Loc → X Bool
  | .nil, _ => X.pure true
  | .cons e es, loc => X.bind (tst e loc (ev e loc)) fun t => if t then tstAnd es loc else X.pure false
noncomputable def tstOr : Exs → Loc → X Bool
  | .nil, _ => X.pure false
  | .cons e es, loc => X.bind (tst e loc (ev e loc)) fun t => if t then X.pure true else tstOr es loc
end

noncomputable def whileL (t : Loc → X Bool) (b : Loc → H → Option (R (Option V) × Loc × H)) : Nat → Loc → H → Option (R (Option V) × Loc × H)
  | 0, _, _ => none
  | n + 1, loc, h => match t loc h with
    | none => none
    | some (.err _, _) => none
    | some (.ok false, h₁) => some (.ok none, loc, h₁)
    | some (.ok true, h₁) => match b loc h₁ with
      | none => none
      | some (.ok none, l₂, h₂) => whileL t b n l₂ h₂
      | some (.ok (some v), l₂, h₂) => some (.ok (some v), l₂, h₂)
      | some (.err _, _, _) => none

noncomputable def forL (v₀ : V) (tg : List Nat) (tup : Bool) (b : Loc → H → Option (R (Option V) × Loc × H)) (h₀ : H) : List V → Loc → H → Option (R (Option V) × Loc × H)
  | [], loc, h => some (.ok none, loc, h)
  | v :: vs, loc, h => match bindTg tg tup v loc h with
    | none => none
    | some l' => match b l' h with
      | none => none
      | some (.ok none, l₂, h₂) => if still v₀ h₀ h₂ then forL v₀ tg tup b h₀ vs l₂ h₂ else none
      | some (.ok (some v), l₂, h₂) => some (.ok (some v), l₂, h₂)
      | some (.err _, _, _) => none

noncomputable def onX {α : Type} (m : X α) (loc : Loc) (f : α → H → Option (R (Option V) × Loc × H)) (h : H) : Option (R (Option V) × Loc × H) := match m h with
  | none => none
  | some (.err c, h₁) => some (.err c, loc, h₁)
  | some (.ok a, h₁) => f a h₁

noncomputable def kstV : Ex → Option V
  | .cbool b => some (.bool b)
  | .cstr s => if okS s then some (.str s) else none
  | _ => none
noncomputable def tryX (x : Option (R (Option V) × Loc × H)) (c : Nat) (r : Ex) : Option (R (Option V) × Loc × H) := match x with
  | none => none
  | some (.ok o, l₁, h₁) => some (.ok o, l₁, h₁)
  | some (.err k, l₁, h₁) => if k = c then (kstV r).map fun v => (.ok (some v), l₁, h₁) else none

variable (F : Nat)
mutual
noncomputable def ex : St → Loc → H → Option (R (Option V) × Loc × H)
  | .expr e, loc, h => onX (ev P C e loc) loc (fun _ h₁ => some (.ok none, loc, h₁)) h
  | .asg t e, loc, h => onX (ev P C e loc) loc (fun v h₁ => match t with
      | .var i => some (.ok none, loc.upd i v, h₁)
      | .attr o n => onX (ev P C o loc) loc (fun ov h₂ => onX (setAttr P ov n v) loc (fun _ h₃ => some (.ok none, loc, h₃)) h₂) h₁
      | .sub o i => onX (ev P C o loc) loc (fun ov h₂ => onX (ev P C i loc) loc (fun iv h₃ => onX (setItem P ov iv v) loc (fun _ h₄ => some (.ok none, loc, h₄)) h₃) h₂) h₁) h
  | .ite c a b, loc, h => onX (tst P C c loc (ev P C c loc)) loc (fun t h₁ => if t then exs a loc h₁ else exs b loc h₁) h
  | .whl c b, loc, h => whileL (fun l => tst P C c l (ev P C c l)) (exs b) F loc h
  | .for tg tup e b, loc, h => onX (ev P C e loc) loc (fun v h₁ => match iterOf v h₁ with
      | none => none
      | some vs => forL v tg tup (exs b) h₁ vs loc h₁) h
  | .ret e, loc, h => onX (ev P C e loc) loc (fun v h₁ => some (.ok (some v), loc, h₁)) h
  | .ret0, loc, h => some (.ok (some .none), loc, h)
  | .pass, loc, h => some (.ok none, loc, h)
  | .rais c _, loc, h => some (.err c, loc, h)
  | .try b c r, loc, h => tryX (exs b loc h) c r
noncomputable def exs : Sts → Loc → H → Option (R (Option V) × Loc × H)
  | .any, _, _ => none
  | .nil, loc, h => some (.ok none, loc, h)
  | .cons s ss, loc, h => match ex s loc h with
    | some (.ok none, l₁, h₁) => exs ss l₁ h₁
    | r => r
end
end

noncomputable def run (P : Prog) (F : Nat) : Nat → Calls
  | 0, _, _, _ => X.none
  | d + 1, m, f, args => fun h => match (if m then P.meths else P.funs).lookup f with
    | none => none
    | some fd => if args.length = fd.params.length then
        match exs P (run P F d) F fd.body ((fd.params.zip args).foldl (fun l p => l.upd p.1 p.2) (fun _ => none)) h with
        | none => none
        | some (.err c, _, h₁) => some (.err c, h₁)
        | some (.ok r, _, h₁) => some (.ok (r.getD .none), h₁)
      else none

end Mine

set_option autoImplicit false
namespace Mine
open PySem PySem.W PySem.Calls PyProof.Rows

inductive All2 {α β : Type} (R : α → β → Prop) : List α → List β → Prop
  | nil : All2 R [] []
  | cons {a : α} {b : β} {as : List α} {bs : List β} : R a b → All2 R as bs → All2 R (a :: as) (b :: bs)

namespace All2
variable {α β γ δ : Type} {R R' : α → β → Prop}
theorem length {as : List α} {bs : List β} (h : All2 R as bs) : as.length = bs.length := by
  induction h with
  | nil => rfl
  | cons _ _ ih => simp [ih]
theorem get {as : List α} {bs : List β} (h : All2 R as bs) : ∀ {i : Nat} {a : α}, as[i]? = some a → ∃ b, bs[i]? = some b ∧ R a b := by
  induction h with
  | nil => intro i a e; simp at e
  | cons hr _ ih =>
    intro i a e
    cases i with
    | zero => simp only [List.getElem?_cons_zero, Option.some.injEq] at e; subst e; exact ⟨_, rfl, hr⟩
    | succ i => simp only [List.getElem?_cons_succ] at e ⊢; exact ih e
theorem mono {as : List α} {bs : List β} (h : All2 R as bs) (k : ∀ a b, R a b → R' a b) : All2 R' as bs := by
  induction h with
  | nil => exact .nil
  | cons hr _ ih => exact .cons (k _ _ hr) ih
theorem append {as as' : List α} {bs bs' : List β} (h : All2 R as bs) (h' : All2 R as' bs') : All2 R (as ++ as') (bs ++ bs') := by
  induction h with
  | nil => exact h'
  | cons hr _ ih => exact .cons hr ih
theorem set {as : List α} {bs : List β} (h : All2 R as bs) {a : α} {b : β} (hr : R a b) : ∀ i : Nat, All2 R (as.set i a) (bs.set i b) := by
  induction h with
  | nil => intro i; exact .nil
  | cons hr' hs ih =>
    intro i
    cases i with
    | zero => exact .cons hr hs
    | succ i => exact .cons hr' (ih i)
theorem one {a : α} {b : β} (h : R a b) : All2 R [a] [b] := .cons h .nil
theorem take {as : List α} {bs : List β} (h : All2 R as bs) : ∀ n : Nat, All2 R (as.take n) (bs.take n) := by
  induction h with
  | nil => intro n; simp; exact .nil
  | cons hr _ ih =>
    intro n
    cases n with
    | zero => exact .nil
    | succ n => exact .cons hr (ih n)
theorem drop {as : List α} {bs : List β} (h : All2 R as bs) : ∀ n : Nat, All2 R (as.drop n) (bs.drop n) := by
  induction h with
  | nil => intro n; simp; exact .nil
  | cons hr hs ih =>
    intro n
    cases n with
    | zero => exact .cons hr hs
    | succ n => exact ih n
theorem of_map {f : γ → α} {g : γ → β} (l : List γ) (h : ∀ c ∈ l, R (f c) (g c)) : All2 R (l.map f) (l.map g) := by
  induction l with
  | nil => exact .nil
  | cons c l ih => exact .cons (h c (.head _)) (ih fun d hd => h d (.tail _ hd))
end All2

set_option genInjectivity false in
structure Sig where
  prog : Program
  w : World
  K : Frag
  T : List Str
  P : Prog
  cls : Nat → Option Addr
  fn : Nat → Option Addr
  me : Nat → Option Addr
  ex : Nat → Option Addr
  fz : List (Addr × Obj)

variable (S : Sig)

noncomputable def VR (ρ : List Addr) : V → Value → Prop
  | .none, x => x = .none
  | .bool b, x => x = .bool b
  | .int i, x => ∃ t, x = .int i t
  | .str s, x => ∃ t, x = .str s t ∧ okS s = true
  | .ref a, x => ∃ A, ρ[a]? = some A ∧ x = .ref A
  | .top _, _ => False

theorem VR.mono {ρ ρ' : List Addr} {v : V} {x : Value} (h : VR ρ v x) (k : ρ <+: ρ') : VR ρ' v x := by
  cases v <;> try exact h
  obtain ⟨A, hA, rfl⟩ := h
  obtain ⟨r, rfl⟩ := k
  refine ⟨A, ?_, rfl⟩
  rw [List.getElem?_append_left (List.getElem?_eq_some_iff.mp hA).1]
  exact hA

noncomputable def keyIs : V → Value → Bool
  | .int i, v => Value.isInt i v
  | .str s, v => Value.isStrOf s v
  | .none, .none => true
  | _, _ => false
theorem keyIs_int {i : Int} {v : Value} (h : keyIs (.int i) v = true) : ∃ t, v = .int i t := Value.isInt_shape h
theorem keyIs_str {s : Str} {v : Value} (h : keyIs (.str s) v = true) : ∃ t, v = .str s t := Value.isStrOf_shape h
theorem keyIs_none {v : Value} (h : keyIs .none v = true) : v = .none := by cases v <;> first | rfl | cases h
theorem keyIs_shape {k : V} {v : Value} (h : keyIs k v = true) : (∃ i t, k = .int i ∧ v = .int i t) ∨ (∃ s t, k = .str s ∧ v = .str s t) ∨ (k = .none ∧ v = .none) := by
  cases k with
  | int i => obtain ⟨t, rfl⟩ := keyIs_int h; exact .inl ⟨i, t, rfl, rfl⟩
  | str s => obtain ⟨t, rfl⟩ := keyIs_str h; exact .inr (.inl ⟨s, t, rfl, rfl⟩)
  | none => exact .inr (.inr ⟨rfl, keyIs_none h⟩)
  | _ => cases v <;> cases h

noncomputable def hashNone : Int := 4238894112
noncomputable def hashV (w : World) : V → Int
  | .int i => hashInt i
  | .str s => hashStr w s
  | _ => hashNone

section
variable {prog : Program} {w : World} {A : Around} {E : Value → Shared → Prop} {s : Shared}
theorem hash_none {Q : Int → Shared → Prop} (h : Q hashNone { s with toks := s.toks + 1 }) : wpAny (model prog w) A (pyHash .none) Q E s := by
  have hT : s.TypeIs .none "NoneType" := rfl
  unfold pyHash
  have hv : [Value.none].any Value.onHeap = false := rfl
  refine wpAny_bind ?_
  rw [cRoomFor, if_neg (by rw [hv]; exact Bool.false_ne_true)]; refine wpAny_pure ?_
  refine wpAny_bind (wpAny_specialOf hT F.slot_NoneType_hash.lookup ?_)
  show wpAny _ _ (if (some (Value.builtin "NoneType.__hash__") == some Value.none) = true then _ else _) Q E s
  rw [if_neg (by decide)]
  refine wpAny_bind (wpAny_specialOf hT F.slot_NoneType_hash.lookup ?_)
  show wpAny _ _ (callSpecialIfBoundUnlessNone? .none "__hash__" _ >>= _) Q E s
  refine wpAny_bind (wpAny_callSpecialIfBoundUnlessNone?_slot hT F.slot_NoneType_hash
    (wpAny_call_entry F.slot_NoneType_hash hT F.entry_NoneType_hash
      (show wpAny _ _ (do ret (← mkInt hashNone)) _ _ s from wpAny_ret_mkInt ?_) (F.args_NoneType_hash_1 _)))
  exact wpAny_pure h
theorem eqBool_of {a b : Value} {r : Bool} {Q : Bool → Shared → Prop} (hne : (a == b) = true → r = true) (hf : ∀ x t, a ≠ .float x t)
    (hc : ∀ Q' : Value → Shared → Prop, Q' (.bool r) s → wpAny (model prog w) A (compareOp .Eq a b) Q' E s) (h : Q r s) : wpAny (model prog w) A (eqBool a b) Q E s := by
  unfold eqBool
  refine wpAny_holding ?_
  by_cases hab : (a == b) = true
  · rw [if_pos hab]
    exact wpAny_bind (wpAny_rule (wpAny_pure (by rw [hne hab] at h; exact h)))
  · rw [if_neg hab]
    cases a <;> first | exact absurd rfl (hf _ _) | exact wpAny_bind (hc _ (wpAny_truthy_bool h))
end

theorem keyIs_inj (v : Value) (a b : V) (ha : keyIs a v = true) (hb : keyIs b v = true) : a = b := by
  rcases keyIs_shape ha with ⟨i, t, rfl, rfl⟩ | ⟨x, t, rfl, rfl⟩ | ⟨rfl, rfl⟩ <;> rcases keyIs_shape hb with ⟨j, u, rfl, e⟩ | ⟨y, u, rfl, e⟩ | ⟨rfl, e⟩ <;> first | (cases e; rfl) | cases e

noncomputable def vKind (prog : Program) (w : World) : KeyKind prog w V where
  is := keyIs
  hash := hashV w
  inj := keyIs_inj
  byValue := fun k v h => by rcases keyIs_shape h with ⟨i, t, rfl, rfl⟩ | ⟨x, t, rfl, rfl⟩ | ⟨rfl, rfl⟩ <;> rfl
  pyHash := fun hv h => by
    rcases keyIs_shape hv with ⟨i, t, rfl, rfl⟩ | ⟨x, t, rfl, rfl⟩ | ⟨rfl, rfl⟩
    · exact wpAny_pyHash_int h
    · exact wpAny_pyHash_str h
    · exact hash_none h
  eqBool := fun hu hv h => by
    rcases keyIs_shape hu with ⟨i, t, rfl, rfl⟩ | ⟨x, t, rfl, rfl⟩ | ⟨rfl, rfl⟩ <;> rcases keyIs_shape hv with ⟨j, u, rfl, rfl⟩ | ⟨y, u, rfl, rfl⟩ | ⟨rfl, rfl⟩
    · refine wpAny_eqBool_int ?_
      have : (i == j) = decide (V.int i = V.int j) := by by_cases hij : i = j <;> simp [hij]
      rw [this]; exact h
    · exact eqBool_of (r := false) (fun e => by cases (eq_of_beq e)) (fun _ _ e => by cases e) (fun _ h' => EqMixed.eq_int_str h') (by simpa using h)
    · exact eqBool_of (r := false) (fun e => by cases (eq_of_beq e)) (fun _ _ e => by cases e) (fun _ h' => EqNone.eq_int_none h') (by simpa using h)
    · exact eqBool_of (r := false) (fun e => by cases (eq_of_beq e)) (fun _ _ e => by cases e) (fun _ h' => EqMixed.eq_str_int h') (by simpa using h)
    · refine wpAny_eqBool_str ?_
      have : decide (x = y) = decide (V.str x = V.str y) := by by_cases hij : x = y <;> simp [hij]
      rw [this]; exact h
    · exact eqBool_of (r := false) (fun e => by cases (eq_of_beq e)) (fun _ _ e => by cases e) (fun _ h' => EqNone.eq_str_none h') (by simpa using h)
    · exact eqBool_of (r := false) (fun e => by cases (eq_of_beq e)) (fun _ _ e => by cases e) (fun _ h' => EqNone.eq_none_int h') (by simpa using h)
    · exact eqBool_of (r := false) (fun e => by cases (eq_of_beq e)) (fun _ _ e => by cases e) (fun _ h' => EqNone.eq_none_str h') (by simpa using h)
    · exact eqBool_of (r := true) (fun _ => rfl) (fun _ _ e => by cases e) (fun _ h' => EqNone.eq_none_none h') (by simpa using h)
  «strs» := fun k x t v h => by
    rcases keyIs_shape h with ⟨i, u, rfl, e⟩ | ⟨y, u, rfl, e⟩ | ⟨rfl, e⟩
    · cases e
    · cases e; cases v <;> rfl
    · cases e

abbrev tupOf (its : Array Value) (n : Nat) : Obj := { cls := .type "tuple", data := .seq its n }
abbrev rangeOf (a b c : Int) (ta tb tc : Tok) : Obj := { cls := .type "range", data := .fields #[.int a ta, .int b tb, .int c tc] }

noncomputable def PR (ρ : List Addr) (p : V × V) (q : V × Value) : Prop := p.1 = q.1 ∧ VR ρ p.2 q.2
noncomputable def AR (ρ : List Addr) (p : Nat × V) (e : DictEntry) : Prop := p.1 ∈ S.P.attrs ∧ ∃ nm t, S.T[p.1]? = some nm ∧ e.key = .str nm t ∧ VR ρ p.2 e.val

noncomputable def OR (ρ : List Addr) : O → Obj → Prop
  | .list xs, o => ∃ vs n, o = listOf (List.toArray vs) n ∧ All2 (VR ρ) xs vs ∧ xs.length ≤ lim
  | .tup xs, o => ∃ vs n, o = tupOf (List.toArray vs) n ∧ All2 (VR ρ) xs vs ∧ xs.length ≤ lim
  | .dict es, o => ∃ es' n kvs, o = dictOf es' n ∧ KeysOf (vKind S.prog S.w) es'.toArray ∧ Pairs (vKind S.prog S.w) es' kvs ∧ (kvs.map (·.1)).Nodup ∧ All2 (PR ρ) es kvs ∧ es.length ≤ lim
  | .inst c d, o => ∃ C D, S.cls c = some C ∧ ρ[d]? = some D ∧ o = ⟨.ref C, some D, .plain, #[]⟩
  | .attrs es, o => ∃ es' n, o = dictOf es' n ∧ All2 (AR S ρ) es es' ∧ es.length ≤ 100
  | .rng a b c, o => ∃ ta tb tc, o = rangeOf a b c ta tb tc

theorem PR.mono {ρ ρ' : List Addr} (k : ρ <+: ρ') {p : V × V} {q : V × Value} (h : PR ρ p q) : PR ρ' p q := ⟨h.1, h.2.mono k⟩
theorem AR.mono {ρ ρ' : List Addr} (k : ρ <+: ρ') {p : Nat × V} {q : DictEntry} (h : AR S ρ p q) : AR S ρ' p q := by
  obtain ⟨h1, nm, t, h2, h3, h4⟩ := h
  exact ⟨h1, nm, t, h2, h3, h4.mono k⟩
theorem pre_get {ρ ρ' : List Addr} (k : ρ <+: ρ') {a : Nat} {A : Addr} (h : ρ[a]? = some A) : ρ'[a]? = some A := by
  obtain ⟨r, rfl⟩ := k
  rw [List.getElem?_append_left (List.getElem?_eq_some_iff.mp h).1]
  exact h
theorem OR.mono {ρ ρ' : List Addr} (k : ρ <+: ρ') {o : O} {x : Obj} (h : OR S ρ o x) : OR S ρ' o x := by
  cases o with
  | list xs => obtain ⟨vs, n, rfl, h, z⟩ := h; exact ⟨vs, n, rfl, h.mono fun _ _ e => e.mono k, z⟩
  | tup xs => obtain ⟨vs, n, rfl, h, z⟩ := h; exact ⟨vs, n, rfl, h.mono fun _ _ e => e.mono k, z⟩
  | dict es => obtain ⟨es', n, kvs, rfl, h1, h2, h3, h4, z⟩ := h; exact ⟨es', n, kvs, rfl, h1, h2, h3, h4.mono fun _ _ e => e.mono k, z⟩
  | inst c d => obtain ⟨C, D, h1, h2, rfl⟩ := h; exact ⟨C, D, h1, pre_get k h2, rfl⟩
  | attrs es => obtain ⟨es', n, rfl, h, z⟩ := h; exact ⟨es', n, rfl, h.mono fun _ _ e => e.mono S k, z⟩
  | rng a b c => exact h
theorem OR.notFreed {ρ : List Addr} {o : O} {x : Obj} (h : OR S ρ o x) : x.isFreed = false := by
  cases o with
  | list xs => obtain ⟨vs, n, rfl, h, z⟩ := h; rfl
  | tup xs => obtain ⟨vs, n, rfl, h, z⟩ := h; rfl
  | dict es => obtain ⟨es', n, kvs, rfl, h1, h2, h3, h4, z⟩ := h; rfl
  | inst c d => obtain ⟨C, D, h1, h2, rfl⟩ := h; rfl
  | attrs es => obtain ⟨es', n, rfl, h, z⟩ := h; rfl
  | rng a b c => obtain ⟨ta, tb, tc, rfl⟩ := h; rfl

abbrev adr (os : List (Addr × Obj)) : List Addr := os.map (·.1)

abbrev Fs := List (Addr × (Str → Option Value))

structure Led (h₀ : Heap) (L : Addr) (m : Str → Option Value) (fs : Fs) (kp os : List (Addr × Obj)) (σ : H) (h : Heap) : Prop where
  fr : Fr h₀ L h m
  news : News h₀ L h (kp ++ os)
  nd : (adr (kp ++ os)).Nodup
  objs : All2 (fun o p => OR S (adr os) o p.2) σ os
  outs : ∀ f ∈ fs, h.Ns f.1 f.2 ∧ f.1 ≠ L ∧ h₀.get? f.1 = none ∧ f.1 ∉ adr (kp ++ os)
  top : ∃ o, h₀.get? mainGlobals = some o
  big : ∀ a ∈ adr (kp ++ os), (a == sysModules) = false
  frz : S.fz <+: os ∧ S.fz.length ≤ S.P.nf

section
variable {S} {h₀ h h' : Heap} {L : Addr} {m : Str → Option Value} {fs : Fs} {kp os : List (Addr × Obj)} {σ : H}
theorem Led.keep (l : Led S h₀ L m fs kp os σ h) (k : ∀ b o, h.get? b = some o → h'.get? b = some o) : Led S h₀ L m fs kp os σ h' :=
  ⟨l.fr.keptAll k, fun p hp => ⟨k _ _ (l.news p hp).1, (l.news p hp).2⟩, l.nd, l.objs, fun f hf => ⟨(l.outs f hf).1.keeps k, (l.outs f hf).2⟩, l.top, l.big, l.frz⟩
theorem Led.at (l : Led S h₀ L m fs kp os σ h) {a : Nat} {o : O} (e : σ.get a = some o) :
    ∃ A x, os[a]? = some (A, x) ∧ (adr os)[a]? = some A ∧ OR S (adr os) o x ∧ h.get? A = some x ∧ A ≠ L ∧ h₀.get? A = none ∧ (A == sysModules) = false := by
  obtain ⟨p, hp, hr⟩ := l.objs.get e
  obtain ⟨A, x⟩ := p
  have := l.news _ (List.mem_append_right _ (List.mem_of_getElem? hp))
  exact ⟨A, x, hp, by simp [adr, hp], hr, this.1, this.2.1, this.2.2, l.big _ (List.mem_map.mpr ⟨_, List.mem_append_right _ (List.mem_of_getElem? hp), rfl⟩)⟩
theorem Led.ref (l : Led S h₀ L m fs kp os σ h) {ρ : List Addr} (k : ρ <+: adr os) {a : Nat} {o : O} {v : Value} (e : σ.get a = some o) (hv : VR ρ (.ref a) v) :
    ∃ A x, v = .ref A ∧ os[a]? = some (A, x) ∧ (adr os)[a]? = some A ∧ OR S (adr os) o x ∧ h.get? A = some x ∧ A ≠ L ∧ h₀.get? A = none ∧ (A == sysModules) = false := by
  obtain ⟨A, x, h1, h2, h3⟩ := l.at e
  obtain ⟨B, hB, rfl⟩ := hv
  have hB := pre_get k hB
  rw [h2] at hB; cases hB
  exact ⟨A, x, rfl, h1, h2, h3⟩
theorem set_self_fst : ∀ {l : List Addr} {a : Nat} {A : Addr}, l[a]? = some A → l.set a A = l
  | [], _, _, e => by simp at e
  | x :: r, 0, _, e => by simp only [List.getElem?_cons_zero, Option.some.injEq] at e; rw [e]; rfl
  | x :: r, a + 1, _, e => by simp only [List.getElem?_cons_succ] at e; rw [List.set_cons_succ, set_self_fst e]
theorem adr_set {os : List (Addr × Obj)} {a : Nat} {A : Addr} {x x' : Obj} (e : os[a]? = some (A, x)) : adr (os.set a (A, x')) = adr os := by
  unfold adr
  rw [List.map_set]
  have : (os.map (·.1))[a]? = some A := by simp [e]
  exact set_self_fst this
theorem mem_set_iff {os : List (Addr × Obj)} {a : Nat} {A : Addr} {x x' : Obj} (nd : (adr os).Nodup) (e : os[a]? = some (A, x)) {p : Addr × Obj} (hp : p ∈ os.set a (A, x')) : p = (A, x') ∨ (p ∈ os ∧ p.1 ≠ A) := by
  obtain ⟨i, hi⟩ := List.getElem?_of_mem hp
  rw [List.getElem?_set] at hi
  split at hi
  · split at hi
    · cases hi; exact .inl rfl
    · cases hi
  · rename_i hne
    refine .inr ⟨List.mem_of_getElem? hi, fun q => hne ?_⟩
    have h1 : (adr os)[a]? = some A := by simp [adr, e]
    have h2 : (adr os)[i]? = some A := by simp [adr, hi, q]
    have ha := (List.getElem?_eq_some_iff.mp h1).1
    exact (List.getElem?_inj ha nd).mp (h1.trans h2.symm)
theorem prefix_set {α : Type} : ∀ {l l' : List α} {a : Nat} {x : α}, l <+: l' → l.length ≤ a → l <+: l'.set a x
  | [], _, _, _, _, _ => List.nil_prefix
  | _ :: _, [], _, _, h, _ => h
  | y :: l, z :: l', 0, _, _, h => by simp at h
  | y :: l, z :: l', a + 1, x, h, h' => by
    rw [List.set_cons_succ]
    rw [List.cons_prefix_cons] at h ⊢
    exact ⟨h.1, prefix_set h.2 (by simpa using h')⟩
theorem notMods {a : Addr} (h : mainGlobals < a) : (a == sysModules) = false := by
  have h1 : mainGlobals = 3 := rfl
  have h2 : sysModules = 1 := rfl
  rw [h1] at h; rw [h2]
  exact beq_eq_false_iff_ne.mpr (fun e => by rw [e] at h; exact absurd h (by decide))
theorem Led.upd (l : Led S h₀ L m fs kp os σ h) {a : Nat} {A : Addr} {x x' : Obj} {o' : O} (hnf : S.P.nf ≤ a) (e : os[a]? = some (A, x)) (hs : Heap.SameBut A h h') (hx : h'.get? A = some x') (hr : OR S (adr os) o' x') :
    Led S h₀ L m fs kp (os.set a (A, x')) (σ.put a o') h' := by
  have hA := l.news (A, x) (List.mem_append_right _ (List.mem_of_getElem? e))
  have ad : adr (os.set a (A, x')) = adr os := adr_set e
  have adk : adr (kp ++ os.set a (A, x')) = adr (kp ++ os) := by
    unfold adr at ad ⊢; rw [List.map_append, List.map_append, ad]
  have ndo : (adr os).Nodup := by have := l.nd; rw [adr, List.map_append] at this; exact (List.nodup_append.mp this).2.1
  have apart : ∀ p ∈ kp, p.1 ≠ A := fun p hp q => by
    have := l.nd
    rw [adr, List.map_append] at this
    exact (List.nodup_append.mp this).2.2 p.1 (List.mem_map_of_mem hp) A (List.mem_map.mpr ⟨_, List.mem_of_getElem? e, rfl⟩) q
  refine ⟨l.fr.change hs hA.2.1 hA.2.2, fun p hp => ?_, by rw [adk]; exact l.nd, by rw [ad]; exact l.objs.set hr a, fun f hf => ?_, l.top, by rw [adk]; exact l.big, prefix_set l.frz.1 (Nat.le_trans l.frz.2 hnf), l.frz.2⟩
  · rcases List.mem_append.mp hp with hp | hp
    · have := l.news p (List.mem_append_left _ hp)
      exact ⟨(hs.2 _ (apart p hp)).trans this.1, this.2⟩
    · rcases mem_set_iff ndo e hp with rfl | ⟨hp, hne⟩
      · exact ⟨hx, hA.2⟩
      · have := l.news p (List.mem_append_right _ hp)
        exact ⟨(hs.2 _ hne).trans this.1, this.2⟩
  · have := l.outs f hf
    have hne : f.1 ≠ A := fun q => this.2.2.2 (q ▸ List.mem_map.mpr ⟨_, List.mem_append_right _ (List.mem_of_getElem? e), rfl⟩)
    exact ⟨this.1.sameBut hs hne, this.2.1, this.2.2.1, by rw [adk]; exact this.2.2.2⟩
theorem adr_new {os : List (Addr × Obj)} {p : Addr × Obj} : adr os <+: adr (os ++ [p]) := by rw [adr, adr, List.map_append]; exact List.prefix_append _ _
theorem Led.free (l : Led S h₀ L m fs kp os σ h) {q : Addr} (hf : h.get? q = none) : q ≠ L ∧ h₀.get? q = none ∧ q ∉ adr (kp ++ os) ∧ ∀ f ∈ fs, f.1 ≠ q := by
  refine ⟨fun e => ?_, ?_, fun hm => ?_, fun f hm e => ?_⟩
  · obtain ⟨oL, _, _, hL, _⟩ := l.fr.ns
    rw [e, hL] at hf; cases hf
  · cases e : h₀.get? q with
    | none => rfl
    | some y => rw [l.fr.keep _ _ e] at hf; cases hf
  · obtain ⟨p, hp, rfl⟩ := List.mem_map.mp hm
    rw [(l.news p hp).1] at hf; cases hf
  · obtain ⟨oL, _, _, hL, _⟩ := (l.outs f hm).1
    rw [e, hf] at hL; cases hL
theorem Led.new (l : Led S h₀ L m fs kp os σ h) {q : Addr} {x : Obj} {o : O} (k : ∀ b o, h.get? b = some o → h'.get? b = some o) (hf : h.get? q = none) (hq : mainGlobals < q) (hx : h'.get? q = some x) (hr : OR S (adr os) o x) :
    Led S h₀ L m fs kp (os ++ [(q, x)]) (σ.push o) h' := by
  have pf : adr os <+: adr (os ++ [(q, x)]) := adr_new
  obtain ⟨q1, q2, q3, q4⟩ := l.free hf
  have adk : adr (kp ++ (os ++ [(q, x)])) = adr (kp ++ os) ++ [q] := by simp [adr]
  refine ⟨l.fr.keptAll k, fun p hp => ?_, ?_, (l.objs.mono fun _ _ e => e.mono S pf).append (.one (hr.mono S pf)), fun f hf => ?_, l.top, ?_, l.frz.1.trans (List.prefix_append _ _), l.frz.2⟩
  · rw [← List.append_assoc] at hp
    rcases List.mem_append.mp hp with hp | hp
    · exact ⟨k _ _ (l.news p hp).1, (l.news p hp).2⟩
    · rw [List.mem_singleton.mp hp]
      exact ⟨hx, q1, q2⟩
  · rw [adk]
    refine List.nodup_append.mpr ⟨l.nd, by simp, fun b hb c hc e => ?_⟩
    rw [List.mem_singleton.mp hc] at e
    exact q3 (e ▸ hb)
  · have := l.outs f hf
    refine ⟨this.1.keeps k, this.2.1, this.2.2.1, ?_⟩
    rw [adk]
    intro hm
    rcases List.mem_append.mp hm with hm | hm
    · exact this.2.2.2 hm
    · exact q4 f hf (List.mem_singleton.mp hm)
  · rw [adk]
    intro b hb
    rcases List.mem_append.mp hb with hb | hb
    · exact l.big b hb
    · rw [List.mem_singleton.mp hb]; exact notMods hq
theorem Led.room (l : Led S h₀ L m fs kp os σ h) : mainGlobals < h.objs.size := let ⟨o, ho⟩ := l.top; Heap.lt_size (l.fr.keep _ _ ho)
theorem Led.len (l : Led S h₀ L m fs kp os σ h) : σ.length = (adr os).length := by simp [adr, l.objs.length]
theorem Led.ref_new (l : Led S h₀ L m fs kp os σ h) {p : Addr × Obj} : VR (adr (os ++ [p])) (.ref σ.length) (.ref p.1) :=
  ⟨p.1, by rw [l.len]; simp [adr], rfl⟩
end

set_option genInjectivity false in
structure Cx where
  A : Around
  env : Env
  h₀ : Heap
  L : Addr
  m : Str → Option Value
  fs : Fs
  kp : List (Addr × Obj)

abbrev Cx.led (c : Cx) (os : List (Addr × Obj)) (σ : H) (h : Heap) : Prop := Led S c.h₀ c.L c.m c.fs c.kp os σ h

noncomputable def FlyB (B : Heap) (l : List Env) (a : Addr) (cls : Value) (h : Heap) : Prop :=
  B.StaysIn h ∧ B.get? a = none ∧ h.FunFrames B l ∧ ((∃ a0, h.TracedW B a cls a0) ∨ ∃ oe vs a0, h.get? a = some oe ∧ oe.cls = cls ∧ oe.data = .fields vs ∧ vs[1]? = some .none ∧ vs[0]? = some a0)
noncomputable def Fly (c : Cx) (os : List (Addr × Obj)) (e : Value) (k : Nat) (h : Heap) : Prop :=
  ∃ a C B l, e = .ref a ∧ S.ex k = some C ∧ c.A.frames = some l ∧ FlyB B l a (.ref C) h ∧ c.h₀.StaysIn B ∧ ∀ p ∈ c.kp ++ os, B.get? p.1 = some p.2

noncomputable def SM {α β : Type} (c : Cx) (ρ₀ : List Addr) (RV : List Addr → β → α → Prop) (t : Sem α) (x : X β) : Prop :=
  ∀ (os : List (Addr × Obj)) (σ : H) (s : Shared) (r : R β) (σ' : H), ρ₀ <+: adr os → c.led S os σ s.heap → x σ = some (r, σ') →
    ∀ (Q : α → Shared → Prop) (E : Value → Shared → Prop),
      (match r with
        | .ok b => ∀ os' h' tk a, adr os <+: adr os' → c.led S os' σ' h' → RV (adr os') b a → Q a { s with heap := h', toks := tk }
        | .err k => ∀ os' h' tk e, adr os <+: adr os' → c.led S os' σ' h' → Fly S c os' e k h' → E e { s with heap := h', toks := tk }) →
      wpAny (model S.prog S.w) c.A t Q E s

section
variable {S} {α β γ δ : Type} {c : Cx} {ρ : List Addr} {RV : List Addr → β → α → Prop} {RW : List Addr → δ → γ → Prop}
theorem SM.mono {t : Sem α} {x : X β} {ρ' : List Addr} (h : SM S c ρ RV t x) (k : ρ <+: ρ') : SM S c ρ' RV t x :=
  fun os σ s r σ' hp => h os σ s r σ' (k.trans hp)
theorem SM.pure {a : α} {b : β} (h : ∀ ρ', ρ <+: ρ' → RV ρ' b a) : SM S c ρ RV (Pure.pure a) (X.pure b) := by
  intro os σ s r σ' hp hl hx Q E hQ
  cases hx
  exact wpAny_pure (hQ os s.heap s.toks a (List.prefix_rfl) hl (h _ hp))
theorem SM.bind {t : Sem α} {x : X β} {f : α → Sem γ} {g : β → X δ} (h1 : SM S c ρ RV t x) (h2 : ∀ ρ' b a, ρ <+: ρ' → RV ρ' b a → SM S c ρ' RW (f a) (g b)) : SM S c ρ RW (t >>= f) (X.bind x g) := by
  intro os σ s r σ' hp hl hx Q E hQ
  unfold X.bind at hx
  split at hx
  · rename_i b σ₁ hb
    refine wpAny_bind (h1 os σ s _ _ hp hl hb _ _ fun os' h' tk a k l' hr => ?_)
    refine h2 _ b a (hp.trans k) hr os' σ₁ { s with heap := h', toks := tk } r σ' (List.prefix_rfl) l' hx Q E ?_
    cases r with
    | ok d => exact fun os'' h'' tk' a' k' l'' hr' => hQ os'' h'' tk' a' (k.trans k') l'' hr'
    | err e => exact fun os'' h'' tk' a' k' l'' hr' => hQ os'' h'' tk' a' (k.trans k') l'' hr'
  · rename_i k σ₁ hb
    cases hx
    exact wpAny_bind (h1 os σ s _ _ hp hl hb _ _ hQ)
  · cases hx
theorem SM.hold {t : Sem α} {x : X β} {vs : List Value} (h : SM S c ρ RV t x) : SM S c ρ RV (holding vs t) x :=
  fun os σ s r σ' hp hl hx Q E hQ => wpAny_holding (h os σ s r σ' hp hl hx Q E hQ)
theorem SM.stand {t : Sem α} {x : X β} {p : Pos} (h : SM S c ρ RV t x) : SM S c ρ RV (do standAt p; t) x :=
  fun os σ s r σ' hp hl hx Q E hQ => wpAny_bind (wpAny_standAt (h os σ s r σ' hp hl hx Q E hQ))
theorem SM.eq {t t' : Sem α} {x : X β} (h : SM S c ρ RV t x) (e : t' = t) : SM S c ρ RV t' x := e ▸ h
theorem SM.eqx {t : Sem α} {x x' : X β} (h : SM S c ρ RV t x) (e : x' = x) : SM S c ρ RV t x' := e ▸ h
theorem SM.none {t : Sem α} : SM S c ρ RV t (X.none : X β) := fun _ _ _ _ _ _ _ hx => by cases hx
end

end Mine

set_option autoImplicit false
namespace Mine
open PySem PySem.W PySem.Calls PyProof.Rows
variable {S : Sig} {c : Cx} {ρ : List Addr}

theorem get_size (h : Heap) : h.get? h.objs.size = none := by
  cases e : h.get? h.objs.size with
  | none => rfl
  | some o => exact absurd (Heap.lt_size e) (Nat.lt_irrefl _)
theorem Led.pushed {h₀ h : Heap} {L : Addr} {m : Str → Option Value} {fs : Fs} {kp os : List (Addr × Obj)} {σ : H} (l : Led S h₀ L m fs kp os σ h) {x : Obj} {o : O} (hr : OR S (adr os) o x) :
    Led S h₀ L m fs kp (os ++ [(h.objs.size, x)]) (σ.push o) (h.push x) :=
  l.new (fun _ _ e => Heap.get?_push_of_some _ e) (get_size h) l.room (Heap.get?_push_size _ (hr.notFreed S)) hr

theorem getM_inv {P : Prog} {σ : H} {a : Nat} {o : O} (h : σ.getM P a = some o) : σ.get a = some o ∧ P.nf ≤ a := by
  unfold H.getM at h
  split at h
  · rename_i q; exact ⟨h, q⟩
  · cases h
theorem dict_of {h : Heap} {A : Addr} {es' : List DictEntry} {n : Nat} {kvs : List (V × Value)} (h1 : h.get? A = some (dictOf es' n)) (k1 : KeysOf (vKind S.prog S.w) es'.toArray) (k2 : Pairs (vKind S.prog S.w) es' kvs)
    (k3 : (kvs.map (·.1)).Nodup) : h.DictOf (vKind S.prog S.w) A kvs := ⟨_, _, n, h1, ⟨rfl, rfl, rfl⟩, rfl, k1, by simpa using k2, k3⟩
theorem of_dict {h : Heap} {A : Addr} {kvs : List (V × Value)} (x : h.DictOf (vKind S.prog S.w) A kvs) :
    ∃ es' n, h.get? A = some (dictOf es' n) ∧ KeysOf (vKind S.prog S.w) es'.toArray ∧ Pairs (vKind S.prog S.w) es' kvs ∧ (kvs.map (·.1)).Nodup := by
  obtain ⟨⟨oc, od, odt, osl⟩, es, n, h1, ⟨c1, c2, c3⟩, hd, k1, k2, k3⟩ := x
  dsimp only at c1 c2 c3 hd
  subst c1 c2 c3 hd
  exact ⟨es.toList, n, by simpa using h1, by simpa using k1, k2, k3⟩

theorem small_bits {i : Int} (h : small i = true) : i.natAbs < 2 ^ 64 := by simpa [small] using h
theorem okS_len {s : Str} (h : okS s = true) : s.length ≤ lim := of_decide_eq_true (Bool.and_eq_true_iff.mp h).1
theorem okS_ok {s : Str} (h : okS s = true) : PyData.strOk s = true := (Bool.and_eq_true_iff.mp h).2
theorem lim_le : lim ≤ sizeLine := by rw [sizeLine_eq]; decide

theorem VR.ne_none {ρ : List Addr} {v : V} {x : Value} (h : VR ρ v x) : (x == Value.none) = decide (v = V.none) := by
  cases v with
  | none => cases h; rfl
  | bool b => cases h; rfl
  | int i => obtain ⟨t, rfl⟩ := h; rfl
  | str s => obtain ⟨t, rfl, _⟩ := h; rfl
  | ref a => obtain ⟨A, _, rfl⟩ := h; rfl
  | top i => exact h.elim

theorem VRs.mono {ρ ρ' : List Addr} (k : ρ <+: ρ') {xs : List V} {vs : List Value} (h : All2 (VR ρ) xs vs) : All2 (VR ρ') xs vs := h.mono fun _ _ e => e.mono k


theorem log2_small {i : Int} (h : small i = true) : i.natAbs.log2 < 9000 := by
  have h := small_bits h
  by_cases hz' : i.natAbs = 0
  · rw [hz']; decide
  · have := (Nat.log2_lt hz').mpr h
    lia
theorem len_append {x y : Str} : (x ++ y).length = x.length + y.length := Str.length_append ..

theorem twoInts_eq {a b : V} {f : Int → Int → Option (R V × H)} {r : R V × H} (h : twoInts a b f = some r) : ∃ x y, a = .int x ∧ b = .int y ∧ f x y = some r := by
  obtain ⟨x, hx, h1⟩ := onInt_eq h
  obtain ⟨y, hy, h2⟩ := onInt_eq h1
  exact ⟨x, y, hx, hy, h2⟩
theorem sm_binop {op : Operator} {x y : V} {a b : Value} (hx : VR ρ x a) (hy : VR ρ y b) : SM S c ρ VR (binaryOp op a b) (binop op x y) := by
  intro os σ s r σ' hp hl he Q E hQ
  cases op with
  | Add =>
    cases x with
    | int x =>
      have hq := onInt_eq (show onInt y _ = some (r, σ') from he)
      clear he
      obtain ⟨y, rfl, he⟩ := hq
      obtain ⟨t, rfl⟩ := hx; obtain ⟨u, rfl⟩ := hy
      cases he
      exact PySem.P.add_int (hQ os _ _ _ List.prefix_rfl hl ⟨_, rfl⟩)
    | _ => cases he
  | Sub =>
    have hq := twoInts_eq (show twoInts x y _ = some (r, σ') from he)
    clear he
    obtain ⟨x, y, rfl, rfl, he⟩ := hq
    obtain ⟨t, rfl⟩ := hx; obtain ⟨u, rfl⟩ := hy
    cases he
    exact PySem.P.sub_int (hQ os _ _ _ List.prefix_rfl hl ⟨_, rfl⟩)
  | FloorDiv =>
    have hq := twoInts_eq (show twoInts x y _ = some (r, σ') from he)
    clear he
    obtain ⟨x, y, rfl, rfl, he⟩ := hq
    obtain ⟨t, rfl⟩ := hx; obtain ⟨u, rfl⟩ := hy
    split at he
    · cases he
    · rename_i hy0
      split at he
      · rename_i hsm
        cases he
        exact floordiv_int hy0 (hQ os _ _ _ List.prefix_rfl hl ⟨_, rfl⟩) (.inl (PyProof.noPylong_of_log2 (log2_small hsm)))
      · cases he
  | Mod =>
    have hq := twoInts_eq (show twoInts x y _ = some (r, σ') from he)
    clear he
    obtain ⟨x, y, rfl, rfl, he⟩ := hq
    obtain ⟨t, rfl⟩ := hx; obtain ⟨u, rfl⟩ := hy
    split at he
    · cases he
    · rename_i hy0
      cases he
      exact mod_int' hy0 (hQ os _ _ _ List.prefix_rfl hl ⟨_, rfl⟩)
  | _ => cases he

abbrev EqR {β : Type} : List Addr → β → β → Prop := fun _ a b => a = b

theorem sm_truth {x : V} {a : Value} (hx : VR ρ x a) : SM S c ρ EqR (truthy a) (truth x) := by
  intro os σ s r σ' hp hl he Q E hQ
  unfold truth at he
  split at he
  · cases hx; cases he
    exact truthy_none (hQ os _ _ _ List.prefix_rfl hl rfl)
  · cases hx; cases he
    exact wpAny_truthy_bool (hQ os _ _ _ List.prefix_rfl hl rfl)
  · obtain ⟨t, rfl⟩ := hx; cases he
    refine PySem.P.truthy_int (hQ os _ _ _ List.prefix_rfl hl ?_)
    show decide _ = _
    rename_i i
    by_cases h : i = 0 <;> simp [h]
  · obtain ⟨t, rfl, hz⟩ := hx; cases he
    have hz' := okS_len hz
    have : lim < 2 ^ 63 := by decide
    refine PySem.P.truthy_str (by lia) (hQ os _ _ _ List.prefix_rfl hl ?_)
    show decide _ = _
    rename_i st
    by_cases h : st.length = 0
    · simp [h]
    · have : ((st.length : Int) != 0) = true := by simp; lia
      rw [this]; simp [h]
  · split at he
    · rename_i xs ha
      obtain ⟨A, o1, rfl, e1, e2, ⟨vs, n, rfl, hvs, hz⟩, h1, _⟩ := hl.ref hp ha hx
      cases he
      have : lim < 2 ^ 63 := by decide
      have hlen := hvs.length
      refine wpAny_truthy_list (PySem.IsL.isList (n := n) h1) (by simp; lia) (hQ os _ _ _ List.prefix_rfl hl ?_)
      show (!_) = _
      cases hvs <;> simp
    · rename_i xs ha
      obtain ⟨A, o1, rfl, e1, e2, ⟨vs, n, rfl, hvs, hz⟩, h1, _⟩ := hl.ref hp ha hx
      cases he
      have : lim < 2 ^ 63 := by decide
      have hlen := hvs.length
      refine truthy_tuple ⟨_, h1, rfl, n, rfl⟩ (by simp; lia) (hQ os _ _ _ List.prefix_rfl hl ?_)
      show (!_) = _
      cases hvs <;> simp
    · rename_i es ha
      obtain ⟨A, o1, rfl, e1, e2, ⟨es', n, kvs, rfl, k1, k2, k3, k4, hz⟩, h1, hL, hn, hb⟩ := hl.ref hp ha hx
      cases he
      have : lim < 2 ^ 63 := by decide
      have hlen := k4.length
      refine wpAny_truthy_dict hb (knd := vKind S.prog S.w) (kvs := kvs) (dict_of h1 k1 k2 k3) (by lia) (hQ os _ _ _ List.prefix_rfl hl ?_)
      show (!_) = _
      cases k4 <;> simp
    · cases he
  · cases he

theorem reads_data {h₀ h : Heap} {L : Addr} {m : Str → Option Value} {fs : Fs} {kp os : List (Addr × Obj)} {σ : H} (l : Led S h₀ L m fs kp os σ h) :
    ∀ (n : Nat) (x : V) (d : PyData) (a : Value), dataOf σ n x = some d → VR (adr os) x a → (∃ as, Reads h a d as) ∧ d.canLay0 = true ∧ d.depth ≤ n := by
  intro n
  induction n with
  | zero => intro x d a e; cases e
  | succ n ih =>
    intro x d a e hv
    have all : ∀ (xs : List V) (ds : List PyData) (vs : List Value), optAll (dataOf σ n) xs = some ds → All2 (VR (adr os)) xs vs → (∃ as, ReadsAll h vs ds as) ∧ PyData.canLayAll0 ds = true ∧ PyData.depthAll ds ≤ n := by
      intro xs
      induction xs with
      | nil => intro ds vs e h2; cases e; cases h2; exact ⟨⟨_, .nil⟩, rfl, Nat.zero_le _⟩
      | cons y ys ihy =>
        intro ds vs e h2
        unfold optAll at e
        split at e
        · rename_i d' ds' e1 e2
          cases e
          cases h2 with
          | cons h1 h2 =>
            obtain ⟨⟨as, r1⟩, c1, p1⟩ := ih _ _ _ e1 h1
            obtain ⟨⟨bs, r2⟩, c2, p2⟩ := ihy _ _ e2 h2
            exact ⟨⟨_, .cons r1 r2⟩, by simp only [PyData.canLayAll0, c1, c2, Bool.and_self], by simp only [PyData.depthAll]; lia⟩
        · cases e
    unfold dataOf at e
    cases x with
    | none => cases hv; cases e; exact ⟨⟨_, .none⟩, rfl, by simp [PyData.depth]⟩
    | bool b => cases hv; cases e; exact ⟨⟨_, .bool b⟩, rfl, by simp [PyData.depth]⟩
    | int i => obtain ⟨t, rfl⟩ := hv; cases e; exact ⟨⟨_, .int i t⟩, rfl, by simp [PyData.depth]⟩
    | str st => obtain ⟨t, rfl, hk⟩ := hv; cases e; exact ⟨⟨_, .str st t⟩, okS_ok hk, by simp [PyData.depth]⟩
    | ref b =>
      dsimp only at e
      split at e
      · rename_i xs ha
        obtain ⟨ds, e1, rfl⟩ := Option.map_eq_some_iff.mp e
        obtain ⟨A, o1, rfl, _, _, ⟨vs, k, rfl, hvs, _⟩, h1, _⟩ := l.ref List.prefix_rfl ha hv
        obtain ⟨⟨as, r⟩, c1, p1⟩ := all _ _ _ e1 hvs
        exact ⟨⟨_, .list h1 rfl rfl (by simpa using r)⟩, c1, by simp only [PyData.depth]; lia⟩
      · rename_i xs ha
        obtain ⟨ds, e1, rfl⟩ := Option.map_eq_some_iff.mp e
        obtain ⟨A, o1, rfl, _, _, ⟨vs, k, rfl, hvs, _⟩, h1, _⟩ := l.ref List.prefix_rfl ha hv
        obtain ⟨⟨as, r⟩, c1, p1⟩ := all _ _ _ e1 hvs
        exact ⟨⟨_, .tuple h1 rfl rfl (by simpa using r)⟩, c1, by simp only [PyData.depth]; lia⟩
      · cases e
    | top i => cases e

noncomputable def Room (c : Cx) : Prop := c.A.units + 100 < cLine

theorem X.bind_inv {α β : Type} {m : X α} {f : α → X β} {σ σ' : H} {r : R β} (h : X.bind m f σ = some (r, σ')) : (∃ a σ₁, m σ = some (.ok a, σ₁) ∧ f a σ₁ = some (r, σ')) ∨ (∃ k, m σ = some (.err k, σ') ∧ r = .err k) := by
  unfold X.bind at h
  split at h
  · rename_i a σ₁ e; exact .inl ⟨a, σ₁, e, h⟩
  · rename_i k σ₁ e; cases h; exact .inr ⟨k, e, rfl⟩
  · cases h

theorem key_is {ρ : List Addr} {x : V} {a : Value} (h : VR ρ x a) (hk : (isKey x || decide (x = .none)) = true) : keyIs x a = true := by
  cases x with
  | none => cases h; rfl
  | int i => obtain ⟨t, rfl⟩ := h; simp [keyIs, Value.isInt]
  | str st => obtain ⟨t, rfl, _⟩ := h; simp [keyIs, Value.isStrOf]
  | _ => simp [isKey] at hk
theorem valueAt_dget {ρ : List Addr} : ∀ {es : List (V × V)} {kvs : List (V × Value)}, All2 (PR ρ) es kvs → ∀ k, (valueAt kvs k = none ∧ dget es k = none) ∨ ∃ v x, dget es k = some v ∧ valueAt kvs k = some x ∧ VR ρ v x
  | _, _, .nil, k => .inl ⟨rfl, rfl⟩
  | _, _, .cons (a := (k1, v1)) (b := (k2, x2)) ⟨h1, h2⟩ hr, k => by
    dsimp only at h1 h2
    subst h1
    by_cases hk : k1 = k
    · exact .inr ⟨v1, x2, by simp [dget, hk], by simp [valueAt, hk], h2⟩
    · rcases valueAt_dget hr k with ⟨e1, e2⟩ | ⟨v, x, e1, e2, e3⟩
      · exact .inl ⟨by simpa [valueAt, List.find?_cons, hk] using e1, by simpa [dget, hk] using e2⟩
      · exact .inr ⟨v, x, by simpa [dget, hk] using e1, by simpa [valueAt, List.find?_cons, hk] using e2, e3⟩

theorem sm_contains (hr : Room c) {x y : V} {a b : Value} (hx : VR ρ x a) (hy : VR ρ y b) {neg : Bool} :
    SM S c ρ VR (compareOp (if neg then .NotIn else .In) a b) (X.bind (contains S.P x y) fun r => X.pure (.bool (neg ^^ r))) := by
  intro os σ s r σ' hp hl he Q E hQ
  have hx' := hx.mono hp
  have hy' := hy.mono hp
  have fin : ∀ b : Bool, contains S.P x y σ = some (.ok b, σ) → ∀ tk, Q (.bool (neg ^^ b)) { s with toks := tk } := fun b e tk => by
    unfold X.bind at he; rw [e] at he; cases he
    exact hQ os _ tk _ List.prefix_rfl hl rfl
  rcases X.bind_inv he with ⟨b', σ₁, e, he'⟩ | ⟨k, e, rfl⟩
  · unfold contains at e fin
    cases y with
    | ref k =>
      dsimp only at e fin
      cases hk : σ.get k with
      | none => rw [hk] at e; cases e
      | some o =>
        rw [hk] at e fin
        cases o with
        | list ys =>
          obtain ⟨A, o1, rfl, _, _, ⟨vs, n, rfl, hvs, _⟩, h1, _⟩ := hl.ref hp hk hy
          dsimp only [inList] at e fin
          cases e1 : dataOf σ 5 x with
          | none => rw [e1] at e; cases e
          | some d =>
            cases e2 : optAll (dataOf σ 4) ys with
            | none => rw [e1, e2] at e; cases e
            | some ds =>
              rw [e1, e2] at fin
              have fin := fun tk => fin _ rfl tk
              obtain ⟨⟨as, r1⟩, c1, p1⟩ := reads_data hl _ _ _ _ e1 hx'
              have ed : dataOf σ 5 (.ref k) = some (.list ds) := by show (match σ.get k with | some (.list xs) => _ | some (.tup xs) => _ | _ => _) = _; rw [hk]; dsimp only; rw [e2]; rfl
              obtain ⟨⟨bs, r2⟩, c2, p2⟩ := reads_data hl _ _ _ _ ed hy'
              have hu : c.A.units + 1 + min (PyData.depthAll ds) d.depth < cLine := by unfold Room at hr; have := Nat.min_le_right (PyData.depthAll ds) d.depth; lia
              cases neg with
              | true => exact SeqAt.notIn_list_reads r2 r1 c2 c1 hu (by simpa using fin s.toks)
              | false => exact SeqAt.in_list_reads r2 r1 c2 c1 hu (by simpa using fin s.toks)
        | tup ys =>
          obtain ⟨A, o1, rfl, _, _, ⟨vs, n, rfl, hvs, _⟩, h1, _⟩ := hl.ref hp hk hy
          dsimp only [inList] at e fin
          cases e1 : dataOf σ 5 x with
          | none => rw [e1] at e; cases e
          | some d =>
            cases e2 : optAll (dataOf σ 4) ys with
            | none => rw [e1, e2] at e; cases e
            | some ds =>
              rw [e1, e2] at fin
              have fin := fun tk => fin _ rfl tk
              obtain ⟨⟨as, r1⟩, c1, p1⟩ := reads_data hl _ _ _ _ e1 hx'
              have ed : dataOf σ 5 (.ref k) = some (.tuple ds) := by show (match σ.get k with | some (.list xs) => _ | some (.tup xs) => _ | _ => _) = _; rw [hk]; dsimp only; rw [e2]; rfl
              obtain ⟨⟨bs, r2⟩, c2, p2⟩ := reads_data hl _ _ _ _ ed hy'
              have hu : c.A.units + 1 + min (PyData.depthAll ds) d.depth < cLine := by unfold Room at hr; have := Nat.min_le_right (PyData.depthAll ds) d.depth; lia
              cases neg with
              | true => exact SeqAt.notIn_tuple_reads r2 r1 c2 c1 hu (by simpa using fin s.toks)
              | false => exact SeqAt.in_tuple_reads r2 r1 c2 c1 hu (by simpa using fin s.toks)
        | dict es =>
          dsimp only at e fin
          split at e
          · rename_i hkey
            rw [if_pos hkey] at fin
            have fin := fun tk => fin _ rfl tk
            obtain ⟨A, o1, rfl, _, _, ⟨es', n, kvs, rfl, k1, k2, k3, k4, hz⟩, h1, hL, hn, hb⟩ := hl.ref hp hk hy
            have hd : s.heap.DictOf (vKind S.prog S.w) A kvs := dict_of h1 k1 k2 k3
            have hq : (valueAt kvs x).isSome = (dget es x).isSome := by rcases valueAt_dget k4 x with ⟨e1, e2⟩ | ⟨v, x, e1, e2, e3⟩ <;> rw [e1, e2] <;> rfl
            cases neg with
            | true => exact wpAny_notIn_of (knd := vKind S.prog S.w) (key_is hx hkey) hb hd.mapOf (by rw [hq]; simpa using fin (s.toks + 1))
            | false => exact wpAny_in_of (knd := vKind S.prog S.w) (key_is hx hkey) hb hd.mapOf (by rw [hq]; simpa using fin (s.toks + 1))
          · cases e
        | _ => cases e
    | top i => exact hy.elim
    | str st => cases x <;> cases e
    | _ => cases e
  · unfold contains at e
    split at e
    · split at e
      · obtain ⟨_, _, e⟩ := Option.map_eq_some_iff.mp e; cases e
      · obtain ⟨_, _, e⟩ := Option.map_eq_some_iff.mp e; cases e
      · split at e <;> cases e
      · cases e
    · exact hy.elim
    · split at e <;> cases e
    · cases e

theorem deq_inv {h₀ h : Heap} {L : Addr} {m : Str → Option Value} {fs : Fs} {kp os : List (Addr × Obj)} {σ : H} (hl : Led S h₀ L m fs kp os σ h) {x y : V} {a b : Value} (hx' : VR (adr os) x a) (hy' : VR (adr os) y b) {q : Bool} (he : deq σ x y = some q) :
    ∃ d d2 as bs, Reads h a d as ∧ Reads h b d2 bs ∧ SeqAt.shaped d = true ∧ SeqAt.shaped d2 = true ∧ q = PyData.eqv d d2 := by
  unfold deq at he
  cases e1 : dataOf σ 5 x with
  | none => rw [e1] at he; cases he
  | some d =>
    cases e2 : dataOf σ 5 y with
    | none => rw [e1, e2] at he; cases he
    | some d2 =>
      rw [e1, e2] at he
      cases he
      obtain ⟨⟨as, r1⟩, c1, p1⟩ := reads_data hl _ _ _ _ e1 hx'
      obtain ⟨⟨bs, r2⟩, c2, p2⟩ := reads_data hl _ _ _ _ e2 hy'
      have s1 : SeqAt.shaped d = true := by simp only [SeqAt.shaped, c1, Bool.true_and, decide_eq_true_eq]; lia
      have s2 : SeqAt.shaped d2 = true := by simp only [SeqAt.shaped, c2, Bool.true_and, decide_eq_true_eq]; lia
      exact ⟨d, d2, as, bs, r1, r2, s1, s2, rfl⟩

theorem sm_cmpop (hr : Room c) {op : CmpOp} {x y : V} {a b : Value} (hx : VR ρ x a) (hy : VR ρ y b) : SM S c ρ VR (compareOp op a b) (cmpop S.P op x y) := by
  have hu : c.A.units + 64 < cLine := by unfold Room at hr; lia
  cases op with
  | In =>
    refine (sm_contains (neg := false) hr hx hy).eqx ?_
    funext σ; show X.bind _ _ σ = X.bind _ _ σ; congr 1
    funext b; simp
  | NotIn =>
    refine (sm_contains (neg := true) hr hx hy).eqx ?_
    funext σ; show X.bind _ _ σ = X.bind _ _ σ; congr 1
    funext b; simp
  | Eq =>
    intro os σ s r σ' hp hl he Q E hQ
    obtain ⟨q, e, he⟩ := Option.map_eq_some_iff.mp (show (deq σ x y).map _ = _ from he)
    cases he
    obtain ⟨d, d2, as, bs, r1, r2, s1, s2, rfl⟩ := deq_inv hl (hx.mono hp) (hy.mono hp) e
    exact eq_dataH r1 r2 s1 s2 hu (hQ os _ _ _ List.prefix_rfl hl rfl)
  | NotEq =>
    intro os σ s r σ' hp hl he Q E hQ
    obtain ⟨q, e, he⟩ := Option.map_eq_some_iff.mp (show (deq σ x y).map _ = _ from he)
    cases he
    obtain ⟨d, d2, as, bs, r1, r2, s1, s2, rfl⟩ := deq_inv hl (hx.mono hp) (hy.mono hp) e
    exact ne_dataH r1 r2 s1 s2 hu (hQ os _ _ _ List.prefix_rfl hl rfl)
  | Lt =>
    intro os σ s r σ' hp hl he Q E hQ
    unfold cmpop at he
    dsimp only at he
    split at he
    · obtain ⟨t, rfl⟩ := hx; obtain ⟨u, rfl⟩ := hy
      cases he
      exact PySem.P.lt_int (hQ os _ _ _ List.prefix_rfl hl rfl)
    · cases he
  | LtE =>
    intro os σ s r σ' hp hl he Q E hQ
    unfold cmpop at he
    dsimp only at he
    split at he
    · obtain ⟨t, rfl⟩ := hx; obtain ⟨u, rfl⟩ := hy
      cases he
      exact PySem.P.le_int (hQ os _ _ _ List.prefix_rfl hl rfl)
    · cases he
  | Gt =>
    intro os σ s r σ' hp hl he Q E hQ
    unfold cmpop at he
    dsimp only at he
    split at he
    · obtain ⟨t, rfl⟩ := hx; obtain ⟨u, rfl⟩ := hy
      cases he
      exact PySem.P.gt_int (hQ os _ _ _ List.prefix_rfl hl rfl)
    · cases he
  | GtE =>
    intro os σ s r σ' hp hl he Q E hQ
    unfold cmpop at he
    dsimp only at he
    split at he
    · obtain ⟨t, rfl⟩ := hx; obtain ⟨u, rfl⟩ := hy
      cases he
      exact PySem.P.ge_int (hQ os _ _ _ List.prefix_rfl hl rfl)
    · cases he
  | Is =>
    intro os σ s r σ' hp hl he Q E hQ
    unfold cmpop at he
    dsimp only at he
    split at he
    · cases hy
      cases he
      refine is_none_gen (hQ os _ _ _ List.prefix_rfl hl ?_)
      rw [hx.ne_none]; rfl
    · cases he
  | IsNot =>
    intro os σ s r σ' hp hl he Q E hQ
    unfold cmpop at he
    dsimp only at he
    split at he
    · cases hy
      cases he
      refine isnot_none_gen (hQ os _ _ _ List.prefix_rfl hl ?_)
      rw [hx.ne_none]
      show Value.bool _ = Value.bool _
      simp
    · cases he

end Mine

set_option autoImplicit false
namespace Mine
open PySem PySem.W PySem.Calls PyProof.Rows
variable {S : Sig} {c : Cx} {ρ : List Addr}

theorem idx_some {i : Int} {n j : Nat} (h : idx i n = some j) : 0 ≤ i ∧ i < n ∧ j = i.toNat := by
  unfold idx at h
  split at h
  · rename_i hc; cases h; exact ⟨hc.1, hc.2, rfl⟩
  · cases h
theorem put_at {prog : Program} {w : World} {A : Around} {E : Value → Shared → Prop} {s : Shared} {a : Addr} {vs : Array Value} {n : Nat} {i : Int} {t : Tok} {v : Value} {Q : Unit → Shared → Prop} (ho : s.heap.get? a = some (listOf vs n)) (h0 : 0 ≤ i) (hb : i < 2 ^ 63) (hi : i < vs.size)
    (hQ : Q () { s with heap := s.heap.update a (Obj.mapSeq (·.setIfInBounds i.toNat v)) }) : wpAny (model prog w) A (PySem.setItem (.ref a) (.int i t) v) Q E s := by
  have ty : s.TypeIs (.ref a) "list" := (PySem.IsL.isList (n := n) ho).typeIs
  have fits := fitsIndex_of h0 hb
  clear hb
  unfold PySem.setItem
  try with_reducible refine wpAny_holding ?_
  first | refine wpAny_bind (wpAny_pure ?_) | skip
  refine wpAny_bind (wpAny_sequenceKey ty (by decide) ?_)
  refine wpAny_bind (wpAny_callSpecial?_slot (name := Str.ofString "__setitem__") ty slot_list_setitem (wpAny_call_entry slot_list_setitem ty entry_list_setitem ?_ (args_list_setitem _ _ _)))
  show wpAny _ _ (Builtin.List.listSubscript? (.int i t) >>= _) _ _ s
  refine wpAny_bind (wpAny_listSubscript_int fits ?_)
  clear fits
  obtain ⟨j, rfl⟩ := Int.eq_ofNat_of_zero_le h0
  have there : vs[j]? = some vs[j] := Array.getElem?_eq_getElem (by lia)
  show wpAny _ _ ((seqItemAt a j >>= fun r => pure (r.map (j, ·))) >>= _) _ _ s
  refine wpAny_bind (wpAny_bind (wpAny_seqItemAt ho rfl (wpAny_pure ?_)))
  rw [there]
  show wpAny _ _ (setSeqItemAt a j v >>= _) _ _ s
  refine wpAny_bind (wpAny_setSeqItemAt ho rfl ?_)
  first
    | exact wpAny_pure ⟨.none, rfl, wpAny_pure hQ⟩
    | exact wpAny_bind (wpAny_pure (wpAny_pure ⟨.none, rfl, wpAny_pure hQ⟩))
theorem lim63 : (lim : Int) < 2 ^ 63 := by decide

theorem sm_getItem {value slice : Expr} {x y : V} {a b : Value} (hx : VR ρ x a) (hy : VR ρ y b)
    (hs : ∀ o i, subscripted slice false o i = operate [o, i] (PySem.getItem o i)) : SM S c ρ VR (subscriptTail value slice a b) (getItem S.P x y) := by
  intro os σ s r σ' hp hl he Q E hQ
  unfold getItem at he
  cases x with
  | ref k =>
    dsimp only at he
    cases hk : σ.get k with
    | none => rw [hk] at he; cases he
    | some o =>
      rw [hk] at he
      cases o with
      | list xs =>
        obtain ⟨A, o1, rfl, _, _, ⟨vs, n, rfl, hvs, hz⟩, h1, _⟩ := hl.ref hp hk hx
        cases y with
        | int i =>
          dsimp only at he
          obtain ⟨v, e, he⟩ := Option.map_eq_some_iff.mp he
          cases he
          obtain ⟨j, e1, e2⟩ := Option.bind_eq_some_iff.mp e
          obtain ⟨i0, i1, rfl⟩ := idx_some e1
          obtain ⟨w, hw, hr⟩ := hvs.get e2
          obtain ⟨t, rfl⟩ := hy
          have hL : s.heap.IsList A vs.toArray := PySem.IsL.isList (n := n) h1
          have := lim63
          exact tail_any hL.typeIs slot_list_getitem.lookup (wpAny_getItem_list hL i0 (by lia) (by simpa using hw) (hQ os _ _ _ List.prefix_rfl hl hr)) (hs _ _)
        | _ => cases he
      | tup xs =>
        obtain ⟨A, o1, rfl, _, _, ⟨vs, n, rfl, hvs, hz⟩, h1, _⟩ := hl.ref hp hk hx
        cases y with
        | int i =>
          dsimp only at he
          obtain ⟨v, e, he⟩ := Option.map_eq_some_iff.mp he
          cases he
          obtain ⟨j, e1, e2⟩ := Option.bind_eq_some_iff.mp e
          obtain ⟨i0, i1, rfl⟩ := idx_some e1
          obtain ⟨w, hw, hr⟩ := hvs.get e2
          obtain ⟨t, rfl⟩ := hy
          have hL : IsTup s.heap A vs.toArray := ⟨_, h1, rfl, n, rfl⟩
          have := lim63
          have hlen := hvs.length
          have hj : seqIndex? i vs.length = some i.toNat := by
            have h0 : ¬ i < 0 := by lia
            unfold seqIndex?
            simp only [h0, if_false]
            rw [if_pos (by simp; lia)]
          exact item_tupleT hL (by lia) (by lia) hj hw (hQ os _ _ _ List.prefix_rfl hl hr) (hs _ _)
        | _ => cases he
      | dict es =>
        obtain ⟨A, o1, rfl, _, _, ⟨es', n, kvs, rfl, k1, k2, k3, k4, hz⟩, h1, hL, hn, hb⟩ := hl.ref hp hk hx
        have he : (if isKey y = true then Option.map (fun v => (R.ok v, σ)) (dget es y) else none) = some (r, σ') := by cases y <;> exact he
        split at he
        · rename_i hkey
          obtain ⟨v, e, he⟩ := Option.map_eq_some_iff.mp he
          cases he
          have hd : s.heap.DictOf (vKind S.prog S.w) A kvs := dict_of h1 k1 k2 k3
          rcases valueAt_dget k4 y with ⟨_, e2⟩ | ⟨v', w, e1, e2, e3⟩
          · rw [e2] at e; cases e
          · rw [e] at e1; cases e1
            have hm := hd.mapOf
            exact tail_any hm.typeIs slot_dict_getitem.lookup (wpAny_getItem_of (knd := vKind S.prog S.w) (key_is hy (by rw [hkey]; rfl)) hm e2 (hQ os _ _ _ List.prefix_rfl hl e3)) (hs _ _)
        · cases he
      | _ => cases y <;> cases he
  | top i => exact hx.elim
  | _ => cases he

theorem dset_stored {ρ : List Addr} {k w : V} {x : Value} (hw : VR ρ w x) : ∀ {es : List (V × V)} {kvs : List (V × Value)}, All2 (PR ρ) es kvs → (kvs.map (·.1)).Nodup → All2 (PR ρ) (dset es k w) (stored kvs k x)
  | _, _, .nil, _ => by
    simp only [dset, stored, List.any_nil, Bool.false_eq_true, if_false, List.nil_append]
    exact .one ⟨rfl, hw⟩
  | _, _, .cons (a := (k1, v1)) (b := (k2, x2)) (as := es) (bs := kvs) ⟨h1, h2⟩ hr, nd => by
    dsimp only at h1 h2
    subst h1
    rw [List.map_cons, List.nodup_cons] at nd
    by_cases hk : k1 = k
    · subst hk
      have e : stored ((k1, x2) :: kvs) k1 x = (k1, x) :: kvs := by
        unfold stored
        rw [if_pos (by simp)]
        simp only [List.map_cons, if_true]
        rw [map_store_of_not_mem _ _ _ nd.1]
      rw [e]; simp only [dset, if_true]
      exact .cons ⟨rfl, hw⟩ hr
    · have ih := dset_stored (k := k) hw hr nd.2
      have e : stored ((k1, x2) :: kvs) k x = (k1, x2) :: stored kvs k x := by
        unfold stored
        simp only [List.any_cons, hk, decide_false, Bool.false_or, List.map_cons, if_false]
        split <;> simp
      rw [e]; simp only [dset, hk, if_false]
      exact .cons ⟨rfl, h2⟩ ih
theorem dset_length (es : List (V × V)) (k w : V) : es.length ≤ (dset es k w).length := by
  induction es with
  | nil => simp
  | cons p r ih =>
    obtain ⟨k', v'⟩ := p
    simp only [dset]
    split <;> simp [ih]

theorem mapSeq_set {vs : List Value} {n j : Nat} {v : Value} : Obj.mapSeq (·.setIfInBounds j v) (listOf vs.toArray n) = listOf (vs.set j v).toArray n := by
  simp [Obj.mapSeq]

abbrev Any {α β : Type} : List Addr → β → α → Prop := fun _ _ _ => True

theorem sm_setItem {x y w : V} {a b v : Value} (hx : VR ρ x a) (hy : VR ρ y b) (hw : VR ρ w v) : SM S c ρ Any (PySem.setItem a b v) (setItem S.P x y w) := by
  intro os σ s r σ' hp hl he Q E hQ
  unfold setItem at he
  cases x with
  | ref k =>
    dsimp only at he
    cases hk : σ.getM S.P k with
    | none => rw [hk] at he; cases he
    | some o =>
      rw [hk] at he
      obtain ⟨hk', hnf⟩ := getM_inv hk
      cases o with
      | list xs =>
        obtain ⟨A, o1, rfl, eA, _, ⟨vs, n, rfl, hvs, hz⟩, h1, _⟩ := hl.ref hp hk' hx
        cases y with
        | int i =>
          dsimp only at he
          obtain ⟨j, e1, he⟩ := Option.map_eq_some_iff.mp he
          cases he
          obtain ⟨i0, i1, rfl⟩ := idx_some e1
          obtain ⟨t, rfl⟩ := hy
          have := lim63
          have hlen := hvs.length
          refine put_at h1 i0 (by lia) (by simp; lia) (hQ (os.set k (A, listOf (vs.set i.toNat v).toArray n)) _ s.toks () ?_ (hl.upd hnf eA (Heap.SameBut.update ..) ?_ ?_) trivial)
          · rw [adr_set eA]; exact List.prefix_rfl
          · rw [← mapSeq_set]; exact Heap.get?_update_self _ h1 rfl
          · exact ⟨vs.set i.toNat v, n, rfl, hvs.set (hw.mono hp) _, by simpa using hz⟩
        | _ => cases he
      | dict es =>
        obtain ⟨A, o1, rfl, eA, _, ⟨es', n, kvs, rfl, k1, k2, k3, k4, hz⟩, h1, hL, hn, hb⟩ := hl.ref hp hk' hx
        have he : (if isKey y = true then (if okO (.dict (dset es y w)) = true then some (R.ok (), σ.put k (.dict (dset es y w))) else none) else none) = some (r, σ') := by cases y <;> exact he
        split at he
        · rename_i hkey
          split at he
          · rename_i hok
            cases he
            have hok : (dset es y w).length ≤ lim := of_decide_eq_true hok
            have hd : s.heap.DictOf (vKind S.prog S.w) A kvs := dict_of h1 k1 k2 k3
            refine wpAny_setItem_pairs (knd := vKind S.prog S.w) (key_is hy (by rw [hkey]; rfl)) hd (fun h' hd' hs' => ?_) ?_
            · obtain ⟨es'', n', g1, g2, g3, g4⟩ := of_dict hd'
              refine hQ (os.set k (A, dictOf es'' n')) _ _ () ?_ (hl.upd hnf eA hs' g1 ?_) trivial
              · rw [adr_set eA]; exact List.prefix_rfl
              · exact ⟨es'', n', _, rfl, g2, g3, g4, dset_stored (hw.mono hp) k4 k3, hok⟩
            · have := k4.length; exact Nat.le_trans (by lia) lim_le
          · cases he
        · cases he
      | _ => cases y <;> cases he
  | _ => cases he

theorem sm_newList {xs : List V} {vs : List Value} (h : All2 (VR ρ) xs vs) : SM S c ρ VR (newList vs) (alloc (.list xs)) := by
  intro os σ s r σ' hp hl he Q E hQ
  unfold alloc at he
  split at he
  · rename_i hk
    cases he
    have hk : xs.length ≤ lim := of_decide_eq_true hk
    refine wpAny_newObj_type (hQ (os ++ [(_, listOf vs.toArray 0)]) _ s.toks _ adr_new (hl.pushed (o := .list xs) ⟨vs, 0, rfl, VRs.mono hp h, hk⟩) (hl.ref_new (p := (_, _)))) ?_
    show vs.toArray.size ≤ sizeLine
    rw [List.size_toArray, ← h.length]; exact Nat.le_trans hk lim_le
  · cases he
theorem sm_newTuple {xs : List V} {vs : List Value} (h : All2 (VR ρ) xs vs) : SM S c ρ VR (newTuple vs) (alloc (.tup xs)) := by
  intro os σ s r σ' hp hl he Q E hQ
  unfold alloc at he
  split at he
  · rename_i hk
    cases he
    have hk : xs.length ≤ lim := of_decide_eq_true hk
    refine wpAny_newObj_type (hQ (os ++ [(_, tupOf vs.toArray 0)]) _ s.toks _ adr_new (hl.pushed (o := .tup xs) ⟨vs, 0, rfl, VRs.mono hp h, hk⟩) (hl.ref_new (p := (_, _)))) ?_
    show vs.toArray.size ≤ sizeLine
    rw [List.size_toArray, ← h.length]; exact Nat.le_trans hk lim_le
  · cases he
theorem keysOf_nil : KeysOf (vKind S.prog S.w) (#[] : Array DictEntry) := fun e he => by simp at he
theorem sm_newDict : SM S c ρ VR newDict (alloc (.dict [])) := by
  intro os σ s r σ' hp hl he Q E hQ
  cases he
  unfold newDict
  exact wpAny_newObj_type (hQ (os ++ [(_, dictOf [] 0)]) _ s.toks _ adr_new (hl.pushed (o := .dict []) ⟨[], 0, [], rfl, keysOf_nil, .nil, by simp, .nil, by decide⟩) (hl.ref_new (p := (_, _))))

end Mine

set_option autoImplicit false
namespace Mine
open PySem PySem.W PySem.Calls PyProof.Rows
variable {S : Sig} {c : Cx} {ρ : List Addr}

noncomputable def NsObj (o : Obj) (m : Str → Option Value) : Prop := ∃ es ep, o.data = .dict es ep ∧ StrKeys es ∧ ∀ name, nsFind es name = m name
theorem ns_obj {h : Heap} {a : Addr} {m : Str → Option Value} (x : h.Ns a m) : ∃ o, h.get? a = some o ∧ NsObj o m := let ⟨o, es, ep, h1, h2, h3, h4⟩ := x; ⟨o, h1, es, ep, h2, h3, h4⟩
theorem NsObj.ns {h : Heap} {a : Addr} {m : Str → Option Value} {o : Obj} (x : NsObj o m) (e : h.get? a = some o) : h.Ns a m := let ⟨es, ep, h2, h3, h4⟩ := x; ⟨o, es, ep, e, h2, h3, h4⟩

theorem Led.frames {h₀ h : Heap} {L : Addr} {m : Str → Option Value} {fs : Fs} {kp os : List (Addr × Obj)} {σ : H} (l : Led S h₀ L m fs kp os σ h) :
    ∃ F : List (Addr × Obj), (∀ f ∈ fs, ∃ o, (f.1, o) ∈ F ∧ NsObj o f.2) ∧ ∀ p ∈ F, h.get? p.1 = some p.2 ∧ p.1 ≠ L ∧ h₀.get? p.1 = none ∧ p.1 ∉ adr (kp ++ os) := by
  have hO := l.outs
  clear l
  induction fs with
  | nil => exact ⟨[], (fun f hf => (nomatch hf)), (fun p hp => (nomatch hp))⟩
  | cons f fs ih =>
    obtain ⟨F, h1, h2⟩ := ih fun g hg => hO g (.tail _ hg)
    have hf := hO f (.head _)
    obtain ⟨o, ho, hn⟩ := ns_obj hf.1
    refine ⟨(f.1, o) :: F, fun g hg => ?_, fun p hp => ?_⟩
    · rcases List.mem_cons.mp hg with rfl | hg
      · exact ⟨o, .head _, hn⟩
      · obtain ⟨o', h3, h4⟩ := h1 g hg
        exact ⟨o', .tail _ h3, h4⟩
    · rcases List.mem_cons.mp hp with rfl | hp
      · exact ⟨ho, hf.2⟩
      · exact h2 p hp
theorem Led.wide {h₀ h : Heap} {L : Addr} {m : Str → Option Value} {fs : Fs} {kp os : List (Addr × Obj)} {σ : H} (l : Led S h₀ L m fs kp os σ h) :
    ∃ F : List (Addr × Obj), News h₀ L h (kp ++ os ++ F) ∧ (∀ p ∈ F, p.1 ∉ adr (kp ++ os)) ∧ ∀ {h' : Heap} {os' : List (Addr × Obj)} {σ' : H}, Fr h₀ L h' m → News h₀ L h' (kp ++ os' ++ F) → adr os' = adr os → S.fz <+: os' →
      All2 (fun o p => OR S (adr os) o p.2) σ' os' → Led S h₀ L m fs kp os' σ' h' := by
  obtain ⟨F, h1, h2⟩ := l.frames
  refine ⟨F, fun p hp => ?_, fun p hp => (h2 p hp).2.2.2, fun {h'} {os'} {σ'} fr nw ad fz ob => ?_⟩
  · rcases List.mem_append.mp hp with hp | hp
    · exact l.news p hp
    · exact ⟨(h2 p hp).1, (h2 p hp).2.1, (h2 p hp).2.2.1⟩
  · have adk : adr (kp ++ os') = adr (kp ++ os) := by
      have : os'.map (·.1) = os.map (·.1) := ad
      simp only [adr, List.map_append, this]
    refine ⟨fr, fun p hp => nw p (List.mem_append_left _ hp), by rw [adk]; exact l.nd, by rw [ad]; exact ob, fun f hf => ?_, l.top, by rw [adk]; exact l.big, fz, l.frz.2⟩
    obtain ⟨o, h3, h4⟩ := h1 f hf
    have := nw _ (List.mem_append_right _ h3)
    exact ⟨h4.ns this.1, this.2.1, this.2.2, by rw [adk]; exact (l.outs f hf).2.2.2⟩

structure AttrOK (S : Sig) (C : Addr) (nm : Str) : Prop where
  g : plainGet S.K C nm = true
  h : hasDictIn S.K C = true
  f : findIn S.K (.ref C) nm = some none
  s : findIn S.K (.ref C) "__setattr__" = some (some (.builtin "object.__setattr__"))
  p : plainOver S.K C = true
  t : takerIn S.K C nm = some none

structure TabOK (S : Sig) : Prop where
  nodup : S.T.Nodup
  attrs : ∀ n ∈ S.P.attrs, ∃ nm, S.T[n]? = some nm ∧ ∀ k C, S.cls k = some C → AttrOK S C nm

theorem T_inj (TV : TabOK S) {i j : Nat} {nm : Str} (h1 : S.T[i]? = some nm) (h2 : S.T[j]? = some nm) : i = j :=
  (List.getElem?_inj (List.getElem?_eq_some_iff.mp h1).1 TV.nodup).mp (h1.trans h2.symm)

theorem attrs_get (TV : TabOK S) {n : Nat} {nm : Str} (hn : S.T[n]? = some nm) : ∀ {es : List (Nat × V)} {es' : List DictEntry}, All2 (AR S ρ) es es' →
    (aget es n = none ∧ getL nm es' = some none) ∨ ∃ v x, aget es n = some v ∧ getL nm es' = some (some x) ∧ VR ρ v x
  | _, _, .nil => .inl ⟨rfl, rfl⟩
  | _, _, .cons (a := (k, v)) (b := e) (as := es) (bs := es') ⟨h1, nm', t, h2, h3, h4⟩ hr => by
    dsimp only at h1 h2 h4
    have ih := attrs_get TV hn hr
    have hk : e.key.isStr nm = decide (k = n) := by
      rw [h3]
      show (nm' == nm) = _
      by_cases hkn : k = n
      · subst hkn; rw [h2] at hn; cases hn; simp
      · have : nm' ≠ nm := fun q => hkn (T_inj TV h2 (q ▸ hn))
        simp [hkn, this]
    have hrk : e.refKey = false := by unfold DictEntry.refKey; rw [h3]
    by_cases hkn : k = n
    · refine .inr ⟨v, e.val, by simp [aget, hkn], ?_, h4⟩
      simp [getL, hk, hkn]
    · rcases ih with ⟨e1, e2⟩ | ⟨v', x, e1, e2, e3⟩
      · refine .inl ⟨by simpa [aget, hkn] using e1, ?_⟩
        unfold getL at e2 ⊢
        simp only [List.find?_cons, hk, decide_eq_false hkn, List.any_cons, hrk, Bool.false_or]
        exact e2
      · refine .inr ⟨v', x, by simpa [aget, hkn] using e1, ?_, e3⟩
        unfold getL at e2 ⊢
        simp only [List.find?_cons, hk, decide_eq_false hkn, List.any_cons, hrk, Bool.false_or]
        exact e2

theorem attrs_set (TV : TabOK S) {n : Nat} {nm : Str} {hsh : Int} {t : Tok} {w : V} {x : Value} (hn : S.T[n]? = some nm) (hm : n ∈ S.P.attrs) (hw : VR ρ w x) : ∀ {es : List (Nat × V)} {es' : List DictEntry}, All2 (AR S ρ) es es' →
    All2 (AR S ρ) (aset es n w) (putL nm hsh (.str nm t) x es')
  | _, _, .nil => .one ⟨hm, nm, t, hn, rfl, hw⟩
  | _, _, .cons (a := (k, v)) (b := e) (as := es) (bs := es') ⟨h1, nm', t', h2, h3, h4⟩ hr => by
    dsimp only at h1 h2 h4
    have ih := attrs_set TV (hsh := hsh) (t := t) hn hm hw hr
    have hk : e.key.isStr nm = decide (k = n) := by
      rw [h3]
      show (nm' == nm) = _
      by_cases hkn : k = n
      · subst hkn; rw [h2] at hn; cases hn; simp
      · have : nm' ≠ nm := fun q => hkn (T_inj TV h2 (q ▸ hn))
        simp [hkn, this]
    by_cases hkn : k = n
    · subst hkn
      simp only [aset, if_true, putL, hk, decide_true]
      exact .cons ⟨h1, nm', t', h2, h3, hw⟩ hr
    · simp only [aset, if_neg hkn, putL, hk, decide_eq_false hkn, Bool.false_eq_true, if_false]
      exact .cons ⟨h1, nm', t', h2, h3, h4⟩ ih
theorem putL_length (nm : Str) (hsh : Int) (k x : Value) (es : List DictEntry) : (putL nm hsh k x es).length ≤ es.length + 1 := by
  induction es with
  | nil => simp [putL]
  | cons e r ih => simp only [putL]; split <;> simp; exact ih
theorem VR.handed {v : V} {x : Value} (h : VR ρ v x) : handedIn x = true := by
  cases v with
  | none => cases h; rfl
  | bool b => cases h; rfl
  | int i => obtain ⟨t, rfl⟩ := h; rfl
  | str s => obtain ⟨t, rfl, _⟩ := h; rfl
  | ref a => obtain ⟨A, _, rfl⟩ := h; rfl
  | top i => exact h.elim

theorem attrs_mem {n : Nat} {v : V} : ∀ {es : List (Nat × V)} {es' : List DictEntry}, All2 (AR S ρ) es es' → aget es n = some v → n ∈ S.P.attrs
  | _, _, .nil, e => by cases e
  | _, _, .cons (a := (k, w)) h hr, e => by
    simp only [aget] at e
    split at e
    · rename_i q; subst q; exact h.1
    · exact attrs_mem hr e
theorem upd_split {d : Addr} {o o' : Obj} : ∀ {pre post : List (Addr × Obj)}, (∀ p ∈ pre, p.1 ≠ d) → (∀ p ∈ post, p.1 ≠ d) → Upd d o o' (pre ++ (d, o) :: post) (pre ++ (d, o') :: post)
  | [], _, _, h2 => .head h2
  | p :: _, _, h1, h2 => .tail (h1 p (.head _)) (upd_split (fun q hq => h1 q (.tail _ hq)) h2)

noncomputable def TopIn (S : Sig) (c : Cx) : Prop := S.K.In c.h₀

theorem sm_getAttr (TV : TabOK S) (KX : TopIn S c) {x : V} {a : Value} {n : Nat} {nm : Str} {ex : Bool} (hn : S.T[n]? = some nm) (hx : VR ρ x a) : SM S c ρ VR (PySem.getAttr a nm ex) (getAttr x n) := by
  intro os σ s r σ' hp hl he Q E hQ
  unfold getAttr at he
  cases x with
  | ref k =>
    dsimp only at he
    cases hk : σ.get k with
    | none => rw [hk] at he; cases he
    | some o =>
      rw [hk] at he
      cases o with
      | inst cl d =>
        dsimp only at he
        obtain ⟨A, o1, rfl, _, _, ⟨C, D, hC, hD, rfl⟩, h1, _⟩ := hl.ref hp hk hx
        cases hd : σ.get d with
        | none => rw [hd] at he; cases he
        | some od =>
          rw [hd] at he
          cases od with
          | attrs es =>
            dsimp only at he
            obtain ⟨v, e, he⟩ := Option.map_eq_some_iff.mp he
            cases he
            obtain ⟨D', o2, _, eD, ⟨es', n', rfl, hes, hz⟩, h2, _⟩ := hl.at hd
            rw [hD] at eD; cases eD
            have hm : n ∈ S.P.attrs := attrs_mem hes e
            obtain ⟨nm', hn', hA⟩ := TV.attrs n hm
            rw [hn] at hn'; cases hn'
            have ok := hA _ _ hC
            rcases attrs_get TV hn hes with ⟨e1, _⟩ | ⟨v', w, e1, e2, e3⟩
            · rw [e1] at e; cases e
            · rw [e] at e1; cases e1
              have I : InstAt s.heap A ⟨.ref C, some D, .plain, #[]⟩ C (some (dictOf es' n')) := ⟨h1, rfl, rfl, h2⟩
              exact get_own (attr := none) hl.fr KX I ok.g ok.h ok.f rfl e2 e3.handed (hQ os _ _ _ List.prefix_rfl hl e3)
          | _ => cases he
      | _ => cases he
  | _ => cases he

theorem split_at {os : List (Addr × Obj)} {a : Nat} {p : Addr × Obj} (e : os[a]? = some p) : os = os.take a ++ p :: os.drop (a + 1) := by
  have h := (List.getElem?_eq_some_iff.mp e)
  obtain ⟨h1, h2⟩ := h
  rw [← h2, List.getElem_cons_drop, List.take_append_drop]
theorem nodup_split {pre post : List (Addr × Obj)} {D : Addr} {x : Obj} (h : (adr (pre ++ (D, x) :: post)).Nodup) : (∀ p ∈ pre, p.1 ≠ D) ∧ ∀ p ∈ post, p.1 ≠ D := by
  rw [adr, List.map_append, List.map_cons] at h
  obtain ⟨h1, h2, h3⟩ := List.nodup_append.mp h
  refine ⟨fun p hp q => h3 p.1 (List.mem_map_of_mem hp) D (.head _) q, fun p hp q => ?_⟩
  exact (List.nodup_cons.mp h2).1 (List.mem_map.mpr ⟨p, hp, q⟩)
theorem set_split {os : List (Addr × Obj)} {a : Nat} {p q : Addr × Obj} (e : os[a]? = some p) : os.set a q = os.take a ++ q :: os.drop (a + 1) := by
  rw [List.set_eq_take_append_cons_drop, if_pos (List.getElem?_eq_some_iff.mp e).1]

theorem sm_setAttr (TV : TabOK S) (KX : TopIn S c) {x w : V} {a v : Value} {n : Nat} {nm : Str} (hn : S.T[n]? = some nm) (hx : VR ρ x a) (hw : VR ρ w v) : SM S c ρ Any (PySem.setAttr a nm v) (setAttr S.P x n w) := by
  intro os σ s r σ' hp hl he Q E hQ
  unfold setAttr at he
  cases x with
  | ref k =>
    dsimp only at he
    cases hk : σ.get k with
    | none => rw [hk] at he; cases he
    | some o =>
      rw [hk] at he
      cases o with
      | inst cl d =>
        dsimp only at he
        obtain ⟨A, o1, rfl, _, _, ⟨C, D, hC, hD, rfl⟩, h1, _⟩ := hl.ref hp hk hx
        cases hd : σ.getM S.P d with
        | none => rw [hd] at he; cases he
        | some od =>
          rw [hd] at he
          obtain ⟨hd', hnf⟩ := getM_inv hd
          cases od with
          | attrs es =>
            dsimp only at he
            split at he
            · rename_i hmem
              cases he
              have hm : n ∈ S.P.attrs := by simpa using (Bool.and_eq_true_iff.mp hmem).1
              obtain ⟨D', o2, eD', eD, ⟨es', n', rfl, hes, hz⟩, h2, hDL, _⟩ := hl.at hd'
              rw [hD] at eD; cases eD
              obtain ⟨nm', hn', hA⟩ := TV.attrs n hm
              rw [hn] at hn'; cases hn'
              have ok := hA _ _ hC
              have I : InstAt s.heap A ⟨.ref C, some D, .plain, #[]⟩ C (some (dictOf es' n')) := ⟨h1, rfl, rfl, h2⟩
              obtain ⟨F, N, NF, back⟩ := hl.wide
              have hlk : (getL nm es').isSome = true := by rcases attrs_get TV hn hes with ⟨_, e2⟩ | ⟨v', w, _, e2, _⟩ <;> rw [e2] <;> rfl
              have hlen := hes.length
              have hmem' := Bool.and_eq_true_iff.mp hmem
              have hz' : (aset es n w).length ≤ 100 := of_decide_eq_true hmem'.2
              have hset := attrs_set TV (hsh := PyData.keyHash S.w.params nm) (t := s.toks + 1) hn hm (hw.mono hp) hes
              have hlen' := hset.length
              have hsp : ∀ q : Obj, c.kp ++ os.set d (D, q) ++ F = (c.kp ++ os.take d) ++ (D, q) :: (os.drop (d + 1) ++ F) := fun q => by
                rw [set_split eD']; simp
              have hsp0 : c.kp ++ os ++ F = (c.kp ++ os.take d) ++ (D, dictOf es' n') :: (os.drop (d + 1) ++ F) := by
                conv => lhs; rw [split_at eD']
                simp
              have nd := hl.nd
              rw [split_at eD', ← List.append_assoc] at nd
              obtain ⟨nd1, nd2⟩ := nodup_split nd
              have hDm : D ∈ adr (c.kp ++ os) := List.mem_map.mpr ⟨_, List.mem_append_right _ (List.mem_of_getElem? eD'), rfl⟩
              have U : Upd D (dictOf es' n') (dictOf (putL nm (PyData.keyHash S.w.params nm) (.str nm (s.toks + 1)) v es') (putN nm es' n')) (c.kp ++ os ++ F) (c.kp ++ os.set d (D, dictOf (putL nm (PyData.keyHash S.w.params nm) (.str nm (s.toks + 1)) v es') (putN nm es' n')) ++ F) := by
                rw [hsp, hsp0]
                refine upd_split nd1 fun p hp => ?_
                rcases List.mem_append.mp hp with hp | hp
                · exact nd2 p hp
                · exact fun q => NF p hp (q ▸ hDm)
              refine set_dict hl.fr KX N I rfl ok.s ok.p ok.t ok.h hlk rfl U (by lia) fun h' F' N' => ?_
              refine hQ _ _ _ () ?_ (back F' N' (adr_set eD') (prefix_set hl.frz.1 (Nat.le_trans hl.frz.2 hnf)) (hl.objs.set (a := .attrs (aset es n w)) (b := (D, dictOf (putL nm (PyData.keyHash S.w.params nm) (.str nm (s.toks + 1)) v es') (putN nm es' n'))) ⟨_, _, rfl, hset, hz'⟩ d)) trivial
              rw [adr_set eD']; exact List.prefix_rfl
            · cases he
          | _ => cases he
      | _ => cases he
  | _ => cases he

end Mine

set_option autoImplicit false
namespace Mine
open PySem PySem.W PySem.Calls PyProof.Rows
variable {S : Sig} {c : Cx} {ρ : List Addr}

theorem insertI_perm (x : Int) (l : List Int) : (insertI x l).Perm (x :: l) := by
  induction l with
  | nil => exact List.Perm.refl _
  | cons y r ih =>
    simp only [insertI]
    split
    · exact List.Perm.refl _
    · exact (ih.cons y).trans (List.Perm.swap x y r)
theorem sortI_perm (l : List Int) : (sortI l).Perm l := by
  induction l with
  | nil => exact List.Perm.refl _
  | cons x r ih => exact (insertI_perm x _).trans (ih.cons x)
theorem insertI_sorted (x : Int) {l : List Int} (h : l.Pairwise (· ≤ ·)) : (insertI x l).Pairwise (· ≤ ·) := by
  induction l with
  | nil => simp [insertI]
  | cons y r ih =>
    simp only [insertI]
    rw [List.pairwise_cons] at h
    split
    · rename_i hxy
      refine List.pairwise_cons.mpr ⟨fun z hz => ?_, List.pairwise_cons.mpr h⟩
      rcases List.mem_cons.mp hz with rfl | hz
      · exact hxy
      · exact Int.le_trans hxy (h.1 z hz)
    · rename_i hxy
      refine List.pairwise_cons.mpr ⟨fun z hz => ?_, ih h.2⟩
      rcases List.mem_cons.mp ((insertI_perm x r).mem_iff.mp hz) with rfl | hz
      · lia
      · exact h.1 z hz
theorem sortI_sorted (l : List Int) : (sortI l).Pairwise (· ≤ ·) := by
  induction l with
  | nil => exact List.Pairwise.nil
  | cons x r ih => exact insertI_sorted x ih
theorem sorted_unique : ∀ {a b : List Int}, a.Perm b → a.Pairwise (· ≤ ·) → b.Pairwise (· ≤ ·) → a = b
  | [], b, p, _, _ => (List.nil_perm.mp p).symm
  | x :: a, [], p, _, _ => absurd p.length_eq (by simp)
  | x :: a, y :: b, p, ha, hb => by
    rw [List.pairwise_cons] at ha hb
    have hxy : x = y := by
      have h1 : x ∈ y :: b := p.mem_iff.mp (.head _)
      have h2 : y ∈ x :: a := p.mem_iff.mpr (.head _)
      rcases List.mem_cons.mp h1 with h1 | h1
      · exact h1
      · rcases List.mem_cons.mp h2 with h2 | h2
        · exact h2.symm
        · have := hb.1 x h1; have := ha.1 y h2; lia
    subst hxy
    rw [sorted_unique (List.Perm.cons_inv p) ha.2 hb.2]

theorem intsAre_of {ρ : List Addr} : ∀ {xs : List V} {vs : List Value} {ns : List Int}, All2 (VR ρ) xs vs → intsOf xs = some ns → IntsAre vs ns
  | _, _, ns, .nil, e => by cases e; exact .nil
  | _, _, ns, .cons (a := x) (b := v) h hr, e => by
    cases x with
    | int i =>
      simp only [intsOf] at e
      obtain ⟨ms, e1, rfl⟩ := Option.map_eq_some_iff.mp e
      obtain ⟨t, rfl⟩ := h
      exact .cons _ _ (intsAre_of hr e1)
    | _ => cases e
theorem vr_ints {ρ : List Addr} : ∀ {vs : List Value} {ns : List Int}, IntsAre vs ns → All2 (VR ρ) (ns.map V.int) vs
  | _, _, .nil => .nil
  | _, _, .cons n t h => .cons ⟨t, rfl⟩ (vr_ints h)
theorem intsOf_length : ∀ {xs : List V} {ns : List Int}, intsOf xs = some ns → ns.length = xs.length
  | [], _, e => by cases e; rfl
  | x :: xs, ns, e => by
    cases x with
    | int i =>
      simp only [intsOf] at e
      obtain ⟨ms, e1, rfl⟩ := Option.map_eq_some_iff.mp e
      simp [intsOf_length e1]
    | _ => cases e

noncomputable def biVal : Bi → Value
  | .len => .builtin "len"
  | .sorted => .builtin "sorted"
  | .list => .type "list"
  | .tuple => .type "tuple"
  | .str => .type "str"
  | .int => .type "int"
  | .range => .type "range"
  | .min => .builtin "min"
  | .max => .builtin "max"
  | .set => .type "set"
  | .zip => .type "zip"

theorem sort_new {A : Around} {E : Value → Shared → Prop} {s : Shared} {vs : List Value} {ns : List Int} {Q : Value → Shared → Prop} (hI : IntsAre vs ns) (h64 : vs.length < 64)
    (h : ∀ h' (out : List Value) n, (∀ b o, s.heap.get? b = some o → h'.get? b = some o) → h'.get? s.heap.objs.size = some (W.listOf out.toArray n) → IntsAre out (sortI ns) → Q (.ref s.heap.objs.size) { s with heap := h' }) :
    wpAny (model S.prog S.w) A (call (.builtin "list.sort") [.ref s.heap.objs.size]) (fun _ s' => Q (.ref s.heap.objs.size) s') E { s with heap := s.heap.push (W.listOf vs.toArray 0) } := by
  have hoL : (s.heap.push (W.listOf vs.toArray 0)).get? s.heap.objs.size = some (seqObj "list" vs.toArray 0) := Heap.get?_push_size _ rfl
  refine wpAny_call_entry slot_list_sort ⟨_, hoL, rfl⟩ entry_list_sort (list_sort_tree hoL hI h64 fun out ns' a1 a2 a3 => ⟨_, rfl, ?_⟩) (args_list_sort _)
  have e : ns' = sortI ns := sorted_unique (a2.trans (sortI_perm ns).symm) a3 (sortI_sorted ns)
  subst e
  obtain ⟨n, hn⟩ := sortedHeap_at (h := s.heap.push (W.listOf vs.toArray 0)) (out := out) hoL
  refine h _ out.toList n (fun b o hb => ?_) (by simpa using hn) a1
  have hlt := Heap.lt_size hb
  rw [sortedHeap_old (Nat.ne_of_lt hlt) (by rw [Heap.size_push]; exact Nat.lt_succ_of_lt hlt)]
  exact Heap.get?_push_of_some _ hb

theorem dict_hint {prog : Program} {w : World} {A : Around} {E : Value → Shared → Prop} {s : Shared} {d : Addr} {Q : Bool → Shared → Prop} (ty : s.TypeIs (.ref d) "dict") (h : Q false s) : wpAny (model prog w) A (Builtin.List.listLengthHint (.ref d)) Q E s := by
  unfold Builtin.List.listLengthHint
  refine wpAny_bind (wpAny_specialOf ty PySem.F.slot_dict_len.lookup ?_)
  generalize hid : ("dict.__len__" : String) = id0
  wp_delta
  rw [show splitId id0 = some ("dict", "__len__") from by subst hid; decide +kernel]
  subst hid
  refine wpAny_bind (wpAny_isInstance (T := "dict") (b := true) ty (by rw [isSubtype_type]; kernel_rfl) ?_)
  refine wpAny_ite_split (fun q => absurd q (by decide)) fun _ => ?_
  refine wpAny_ite_split (fun _ => wpAny_bind (wpAny_typeOf ty (wpAny_pure h))) fun q => absurd (by decide +kernel) q
theorem gather_dict {prog : Program} {w : World} {K : Type} [DecidableEq K] {knd : KeyKind prog w K} {A : Around} {E : Value → Shared → Prop} {s : Shared} {d : Addr} {kvs : List (K × Value)} {ep : Nat} {R : List Value → Shared → Prop} (lo : (d == sysModules) = false) (hh : A.handled = none) (hat : s.heap.DictAt knd d kvs ep) (hn : kvs.length ≤ sizeLine)
    (h : ∀ (h' : Heap) (tk : Nat) (acc : Array Value), (∀ b o, s.heap.get? b = some o → h'.get? b = some o) → ItemsOf (fun i v => ∃ k x, kvs[i]? = some (k, x) ∧ knd.is k v = true) acc kvs.length → R acc.toList { s with heap := h', toks := tk }) :
    wpAny (model prog w) A (collect (.ref d)) R E s := by
  have old : d < s.heap.objs.size := hat.lt_size
  unfold collect
  refine wpAny_bind (wpAny_runValue (codeAny_builtin entry_proto_collect' ?_))
  rw [Around.under_plainId PySem.F.plain_proto_collect _]
  show wpAny _ A.in1 (newList [] >>= fun l => again (.builtin "list.__iadd__" ⟨[l, .ref d], []⟩)) _ _ s
  refine wpAny_bind (wpAny_newObj_type ?_)
  refine wpAny_pure ⟨plainId_quiet PySem.F.plain_list_iadd _, codeAny_builtin entry_list_iadd' ?_⟩
  rw [Around.under_plainId PySem.F.plain_list_iadd _]
  generalize hN : s.heap.objs.size = N
  have hN1 : (s.heap.push { cls := .type "list", data := .seq ([] : List Value).toArray }).get? N = some { cls := .type "list", data := .seq #[] } := by rw [← hN]; exact Heap.get?_push_size _ rfl
  have keep1 : ∀ b o, s.heap.get? b = some o → (s.heap.push { cls := .type "list", data := .seq ([] : List Value).toArray }).get? b = some o := fun b o e => Heap.get?_push_of_some _ e
  have hat1 := hat.push { cls := .type "list", data := .seq ([] : List Value).toArray }
  generalize s.heap.push { cls := .type "list", data := .seq ([] : List Value).toArray } = g1 at *
  show wpAny _ A.in1 (Builtin.List.listExtendWith (.ref N) (.ref d) (.ref N)) _ _ _
  have hdN : N ≠ d := hN ▸ Nat.ne_of_gt old
  unfold Builtin.List.listExtendWith
  refine wpAny_bind (wpAny_typeOf (T := "dict") (s := { s with heap := g1 }) hat1.dictOf.typeIs ?_)
  have h1 : Builtin.List.listSameRef (.ref N) (.ref d) = false := by simp [Builtin.List.listSameRef, hdN]
  have n1 : (Value.type "dict" == Value.type "list") = false := by decide
  have n2 : (Value.type "dict" == Value.type "tuple") = false := by decide
  simp only [h1, n1, n2, Bool.or_false, Bool.false_eq_true, if_false]
  refine wpAny_bind (wpAny_pyIter_dict (s := { s with heap := g1 }) lo hat1 ?_)
  generalize hI : g1.objs.size = I
  have hIN : N ≠ I := hI ▸ Nat.ne_of_lt (Heap.lt_size hN1)
  have hId : d ≠ I := hI ▸ Nat.ne_of_lt hat1.lt_size
  have W := Walks.dictKeys (prog := prog) (w := w) (A := A.in1) (knd := knd) hh I d hId kvs ep
  have hN2 := Heap.get?_push_of_some { cls := .type "dict_keyiterator", data := .fields #[.ref d, .int 0 0, .int kvs.length 0, .int ep 0] } hN1
  have hat2 := hat1.push { cls := .type "dict_keyiterator", data := .fields #[.ref d, .int 0 0, .int kvs.length 0, .int ep 0] }
  have st2 : (g1.push { cls := .type "dict_keyiterator", data := .fields #[.ref d, .int 0 0, .int kvs.length 0, .int ep 0] }).IsKeyIter I d 0 kvs.length ep := ⟨_, by rw [← hI]; exact Heap.get?_push_size _ rfl, rfl, rfl⟩
  have keep2 : ∀ b o, g1.get? b = some o → (g1.push { cls := .type "dict_keyiterator", data := .fields #[.ref d, .int 0 0, .int kvs.length 0, .int ep 0] }).get? b = some o := fun b o e => Heap.get?_push_of_some _ e
  generalize g1.push { cls := .type "dict_keyiterator", data := .fields #[.ref d, .int 0 0, .int kvs.length 0, .int ep 0] } = g2 at *
  have hNf : N ∉ [I, d] := by simp only [List.mem_cons, List.not_mem_nil, or_false, not_or]; exact ⟨hIN, hdN⟩
  have loop : ∀ (R' : Result → Shared → Prop) (g : Heap) (c₁ tk : Nat), (∀ (h' : Heap) (tk : Nat) (acc : Array Value) (c' : Nat), (∀ b o, s.heap.get? b = some o → h'.get? b = some o) → h'.get? N = some { cls := .type "list", dict := none, data := .seq acc c', slots := #[] } → ItemsOf (fun i v => ∃ k x, kvs[i]? = some (k, x) ∧ knd.is k v = true) acc kvs.length → R' (.ok (.ret (.ref N))) { s with heap := h', toks := tk }) →
      g.IsKeyIter I d 0 kvs.length ep → g.DictAt knd d kvs ep → (∀ b o, b ≠ N → g2.get? b = some o → g.get? b = some o) → g.get? N = some { cls := .type "list", data := .seq #[] c₁ } →
      codeAny (model prog w) A (.builtin "list.extend.loop" ⟨[.ref N, .ref I, .ref N], []⟩) R' { s with heap := g, toks := tk } := by
    intro R' g c₁ tk hR i1 i2 kg gN
    refine codeAny_extend_loopS W.toS hn N hNf (.ref N) kvs.length 0 _ #[] c₁ rfl (Nat.zero_le _) ⟨i1, i2⟩ gN (ItemsOf.nil _) fun s' acc c' hm hS' hacc => ?_
    rw [Moved.eq_with hm]
    refine hR s'.heap s'.toks acc c' (fun b o e => hm.heap b o (fun hmem => ?_) (kg b o (fun q => ?_) (keep2 b o (keep1 b o e)))) hS' hacc
    · rcases List.mem_cons.mp hmem with q | hmem
      · exact absurd (Heap.lt_size e) (by rw [hN, q]; exact Nat.lt_irrefl _)
      · exact absurd (Heap.lt_size (keep1 b o e)) (by rw [hI, List.mem_singleton.mp hmem]; exact Nat.lt_irrefl _)
    · exact absurd (Heap.lt_size e) (by rw [hN, q]; exact Nat.lt_irrefl _)
  refine wpAny_bind (wpAny_holding (dict_hint (s := { s with heap := g2 }) hat2.dictOf.typeIs ?_))
  refine wpAny_ite_split (fun _ => ?_) fun _ => wpAny_pure ⟨plainId_quiet PySem.F.plain_extend_loop _, loop _ g2 0 s.toks (fun h' tk acc c' hk hS' hacc => ?_) st2 hat2 (fun _ _ _ e => e) hN2⟩
  · refine wpAny_bind (wpAny_rule (wpAny_bind ?_))
    show wpAny _ _ (updateSeq N (·.push .none) >>= fun _ => updateSeq N (·.pop)) _ _ _
    refine wpAny_bind (wpAny_updateSeq hN2 rfl ?_)
    have hN3 := Heap.get?_update_self (Obj.mapSeq (·.push Value.none)) hN2 rfl
    refine wpAny_updateSeq (hz := by seq_fits) hN3 rfl ?_
    have hN4 := Heap.get?_update_self (Obj.mapSeq (·.pop)) hN3 rfl
    have kp4 : ∀ b o, b ≠ N → g2.get? b = some o → ((g2.update N (Obj.mapSeq (·.push Value.none))).update N (Obj.mapSeq (·.pop))).get? b = some o := fun b o hb e => (Heap.get?_update_other _ _ (Ne.symm hb)).trans ((Heap.get?_update_other _ _ (Ne.symm hb)).trans e)
    refine wpAny_pure ⟨plainId_quiet PySem.F.plain_extend_loop _, loop _ _ _ s.toks (fun h' tk acc c' hk hS' hacc => ?_) ?_ ?_ kp4 hN4⟩
    · show wpAny _ A (load N >>= _) _ _ _
      exact wpAny_bind (wpAny_load hS' (wpAny_pure (h h' tk acc hk hacc)))
    · exact st2.at fun o e => kp4 I o (Ne.symm hIN) e
    · exact hat2.at' fun o e => kp4 d o (Ne.symm hdN) e
  · show wpAny _ A (load N >>= _) _ _ _
    exact wpAny_bind (wpAny_load hS' (wpAny_pure (h h' tk acc hk hacc)))
theorem sorted_by {A : Around} {E : Value → Shared → Prop} {s : Shared} {r : Addr} {Q : Value → Shared → Prop}
    (hc : ∀ R : List Value → Shared → Prop, (∀ h' tk vs, (∀ b o, s.heap.get? b = some o → h'.get? b = some o) → (∃ ns, IntsAre vs ns ∧ vs.length < 64 ∧ ∀ h'' out n, (∀ b o, h'.get? b = some o → h''.get? b = some o) → h''.get? h'.objs.size = some (W.listOf (List.toArray out) n) → IntsAre out (sortI ns) → Q (.ref h'.objs.size) { s with heap := h'', toks := tk }) → R vs { s with heap := h', toks := tk }) → wpAny (model S.prog S.w) A.in1 (collect (.ref r)) R (fun e s' => E e s') s) :
    wpAny (model S.prog S.w) A (call (.builtin "sorted") [.ref r]) Q E s := by
  refine call_function_entry kind_sorted plain_sorted entry_sorted (args_sorted1 _) ?_
  unfold Builtin.«sorted»
  refine wpAny_bind (m := checkCount "sorted" 1 1 _) (wpAny_pure ?_)
  refine wpAny_bind (hc _ fun h' tk vs hk hv => ?_)
  obtain ⟨ns, hI, h64, hq⟩ := hv
  refine wpAny_bind (wpAny_newList ?_ (by rw [sizeLine_eq]; lia))
  refine wpAny_bind (wpAny_holding (wpAny_mono (sort_new (s := { s with heap := h', toks := tk }) (Q := Q) hI h64 fun h'' out n k1 k2 k3 => hq h'' out n k1 k2 k3) (fun _ s' x => ?_) fun _ _ e => e))
  exact wpAny_pure ⟨_, rfl, x⟩

theorem All2.inv1 {α β : Type} {R : α → β → Prop} {a : α} {bs : List β} (h : All2 R [a] bs) : ∃ b, bs = [b] ∧ R a b := by
  cases h with
  | cons h1 h2 => cases h2; exact ⟨_, rfl, h1⟩
theorem All2.inv2 {α β : Type} {R : α → β → Prop} {a a' : α} {bs : List β} (h : All2 R [a, a'] bs) : ∃ b b', bs = [b, b'] ∧ R a b ∧ R a' b' := by
  cases h with
  | cons h1 h2 => obtain ⟨b', rfl, h3⟩ := h2.inv1; exact ⟨_, _, rfl, h1, h3⟩
theorem sortI_length (l : List Int) : (sortI l).length = l.length := (sortI_perm l).length_eq
theorem Led.keepNew {h₀ h h' h'' : Heap} {L : Addr} {m : Str → Option Value} {fs : Fs} {kp os : List (Addr × Obj)} {σ : H} (l : Led S h₀ L m fs kp os σ h) {x : Obj} {o : O} (k1 : ∀ b o, h.get? b = some o → h'.get? b = some o)
    (k2 : ∀ b o, h'.get? b = some o → h''.get? b = some o) (hx : h''.get? h'.objs.size = some x) (hr : OR S (adr os) o x) : Led S h₀ L m fs kp (os ++ [(h'.objs.size, x)]) (σ.push o) h'' :=
  (l.keep k1).new k2 (get_size h') (l.keep k1).room hx hr

theorem keys_ints {ρ : List Addr} : ∀ {es : List (V × V)} {kvs : List (V × Value)}, All2 (PR ρ) es kvs → ∀ {vs : List Value} {ns : List Int}, vs.length = kvs.length → (∀ (j : Nat) v, vs[j]? = some v → ∃ k x, kvs[j]? = some (k, x) ∧ keyIs k v = true) →
    intsOf (es.map (·.1)) = some ns → IntsAre vs ns
  | _, _, .nil, vs, ns, hl, _, e => by cases e; cases vs with | nil => exact .nil | cons _ _ => simp at hl
  | _, _, .cons (a := (k1, v1)) (b := (k2, x2)) (as := es) (bs := kvs) ⟨h1, _⟩ hr, vs, ns, hl, hk, e => by
    dsimp only at h1
    subst h1
    cases vs with
    | nil => simp at hl
    | cons v vs =>
      simp only [List.map_cons] at e
      cases k1 with
      | int i =>
        simp only [intsOf] at e
        obtain ⟨ms, e1, rfl⟩ := Option.map_eq_some_iff.mp e
        obtain ⟨k, x, h2, h3⟩ := hk 0 v rfl
        simp only [List.getElem?_cons_zero, Option.some.injEq, Prod.mk.injEq] at h2
        obtain ⟨rfl, rfl⟩ := h2
        obtain ⟨t, rfl⟩ := keyIs_int h3
        exact .cons _ _ (keys_ints hr (by simpa using hl) (fun j w hw => hk (j + 1) w (by simpa using hw)) e1)
      | _ => cases e

theorem sortedI_eq {o : Option (List Int)} {h : H} {r : R V × H} (e : sortedI o h = some r) : ∃ ns, o = some ns ∧ ns.length < 64 ∧ r = (.ok (.ref h.length), h.push (.list ((sortI ns).map .int))) := by
  cases o with
  | none => cases e
  | some ns =>
    have e : (if ns.length < 64 then some (R.ok (V.ref h.length), h.push (.list ((sortI ns).map .int))) else none) = some r := e
    split at e
    · rename_i h64; cases e; exact ⟨ns, rfl, h64, rfl⟩
    · cases e
theorem sm_sorted (hh : c.A.handled = none) {x : V} {v : Value} (hv : VR ρ x v) : SM S c ρ VR (call (.builtin "sorted") [v]) (biSorted x) := by
  intro os σ s r σ' hp hl he Q E hQ
  have hq := onRef_eq he
  clear he
  obtain ⟨a, rfl, he⟩ := hq
  split at he
  · rename_i es ha
    obtain ⟨A, o1, rfl, _, _, ⟨es', n, kvs, rfl, k1, k2, k3, k4, hz⟩, h1, hL, hn, hb⟩ := hl.ref hp ha hv
    obtain ⟨ns, hns, h64, e⟩ := sortedI_eq he
    cases e
    have hlen := k4.length
    have hlen2 := intsOf_length hns
    rw [List.length_map] at hlen2
    have hat : s.heap.DictAt (vKind S.prog S.w) A kvs n := ⟨_, _, h1, ⟨rfl, rfl, rfl⟩, rfl, k1, by simpa using k2, k3⟩
    refine sorted_by fun R hR => gather_dict (knd := vKind S.prog S.w) (kvs := kvs) (ep := n) hb hh hat (by rw [sizeLine_eq]; lia) fun h' tk acc hk hacc => hR h' tk acc.toList hk ⟨ns, ?_, ?_, fun h'' out n' k1 k2 k3 => ?_⟩
    · exact keys_ints k4 (by rw [Array.length_toList]; exact hacc.1) (fun j v e => hacc.2 j v (by rw [← Array.getElem?_toList]; exact e)) hns
    · have := hacc.1; rw [Array.length_toList]; lia
    · exact hQ (os ++ [(_, _)]) _ _ _ adr_new (hl.keepNew (o := .list ((sortI ns).map .int)) hk k1 k2 ⟨out, n', rfl, vr_ints k3, by rw [List.length_map, sortI_length]; unfold lim; lia⟩) (hl.ref_new (p := (_, _)))
  · cases he
theorem sm_biLen {x : V} {v : Value} (hv : VR ρ x v) : SM S c ρ VR (call (.builtin "len") [v]) (biLen x) := by
  intro os σ s r σ' hp hl he Q E hQ
  have h63 := lim63
  cases x with
  | ref a =>
    unfold biLen at he
    dsimp only at he
    split at he
    · rename_i xs' ha
      obtain ⟨A, o1, rfl, _, _, ⟨vs, n, rfl, hvs, hz⟩, h1, _⟩ := hl.ref hp ha hv
      cases he
      have hlen := hvs.length
      exact call_len_list (PySem.IsL.isList (n := n) h1) (by simp; lia) (hQ os _ _ _ List.prefix_rfl hl ⟨s.toks + 1, by rw [List.size_toArray, ← hlen]⟩)
    · rename_i xs' ha
      obtain ⟨A, o1, rfl, _, _, ⟨vs, n, rfl, hvs, hz⟩, h1, _⟩ := hl.ref hp ha hv
      cases he
      have hlen := hvs.length
      exact PySem.P.len_tuple h1 (by simp; lia) (hQ os _ _ _ List.prefix_rfl hl ⟨s.toks + 1, by rw [List.size_toArray, ← hlen]⟩)
    · rename_i es ha
      obtain ⟨A, o1, rfl, _, _, ⟨es', n, kvs, rfl, k1, k2, k3, k4, hz⟩, h1, hL, hn, hb⟩ := hl.ref hp ha hv
      cases he
      have hlen := k4.length
      exact call_len_dict (knd := vKind S.prog S.w) hb (dict_of h1 k1 k2 k3) (by lia) (hQ os _ _ _ List.prefix_rfl hl ⟨s.toks + 1, by rw [hlen]⟩)
    · cases he
  | _ => cases he
theorem sm_biList {x : V} {v : Value} (hv : VR ρ x v) : SM S c ρ VR (call (.type "list") [v]) (biList x) := by
  intro os σ s r σ' hp hl he Q E hQ
  have hq := onRef_eq he
  clear he
  obtain ⟨a, rfl, he⟩ := hq
  split at he
  · rename_i xs' ha
    obtain ⟨A, o1, rfl, _, _, ⟨vs, n, rfl, hvs, hz⟩, h1, _⟩ := hl.ref hp ha hv
    unfold alloc at he
    split at he
    · rename_i hk
      cases he
      have hlen := hvs.length
      exact call_list_seq A (.inl rfl) h1 rfl rfl (fun h' c' k1 k2 => hQ (os ++ [(_, _)]) _ _ _ adr_new (hl.keepNew (o := .list xs') (fun _ _ e => e) k1 k2 ⟨vs, c', rfl, hvs, hz⟩) (hl.ref_new (p := (_, _)))) (by rw [List.size_toArray, ← hlen]; exact Nat.le_trans hz lim_le)
    · cases he
  · rename_i xs' ha
    obtain ⟨A, o1, rfl, _, _, ⟨vs, n, rfl, hvs, hz⟩, h1, _⟩ := hl.ref hp ha hv
    unfold alloc at he
    split at he
    · rename_i hk
      cases he
      have hlen := hvs.length
      exact call_list_seq A (.inr rfl) h1 rfl rfl (fun h' c' k1 k2 => hQ (os ++ [(_, _)]) _ _ _ adr_new (hl.keepNew (o := .list xs') (fun _ _ e => e) k1 k2 ⟨vs, c', rfl, hvs, hz⟩) (hl.ref_new (p := (_, _)))) (by rw [List.size_toArray, ← hlen]; exact Nat.le_trans hz lim_le)
    · cases he
  · cases he
theorem sm_biRange {xs : List V} {vs : List Value} (h : All2 (VR ρ) xs vs) : SM S c ρ VR (call (.type "range") vs) (biRange xs) := by
  intro os σ s r σ' hp hl he Q E hQ
  match xs, h, he with
  | [x], h, he =>
    have hq := onInt_eq (show onInt x _ = some (r, σ') from he)
    clear he
    obtain ⟨n, rfl, he⟩ := hq
    obtain ⟨v, rfl, t, rfl⟩ := h.inv1
    cases he
    exact call_range_1 (hQ (os ++ [(_, _)]) _ _ _ adr_new (hl.pushed (o := .rng 0 _ 1) ⟨_, _, _, rfl⟩) (hl.ref_new (p := (_, _))))
  | [], _, he => cases he
  | _ :: _ :: _ :: _ :: _, _, he => cases he
theorem sm_one {xs : List V} {vs : List Value} {f : Value} {g : V → X V} (h : All2 (VR ρ) xs vs) (hg : ∀ x v, VR ρ x v → SM S c ρ VR (call f [v]) (g x)) : SM S c ρ VR (call f vs) (fun σ => on1 xs fun x => g x σ) := by
  intro os σ s r σ' hp hl he Q E hQ
  have hq := on1_eq he
  clear he
  obtain ⟨x, rfl, he⟩ := hq
  obtain ⟨v, rfl, hv⟩ := h.inv1
  exact hg x v hv os σ s r σ' hp hl he Q E hQ
theorem sm_builtin (hh : c.A.handled = none) {b : Bi} {xs : List V} {vs : List Value} (h : All2 (VR ρ) xs vs) : SM S c ρ VR (call (biVal b) vs) (builtin b xs) := by
  cases b with
  | len => exact sm_one h fun x v hv => sm_biLen hv
  | sorted => exact sm_one h fun x v hv => sm_sorted hh hv
  | list => exact sm_one h fun x v hv => sm_biList hv
  | range => exact sm_biRange h
  | min =>
    intro os σ s r σ' hp hl he Q E hQ
    have hq := on2_eq he
    clear he
    obtain ⟨x, y, rfl, he⟩ := hq
    have hq := twoInts_eq he
    clear he
    obtain ⟨m, n, rfl, rfl, he⟩ := hq
    obtain ⟨v, v', rfl, ⟨t, rfl⟩, ⟨t', rfl⟩⟩ := h.inv2
    cases he
    refine min_two_ints hh fun h' tk hk => hQ os _ _ _ List.prefix_rfl (hl.keep hk) ?_
    split <;> exact ⟨_, rfl⟩
  | _ => exact SM.none

end Mine

set_option autoImplicit false
namespace Mine
open PySem PySem.W PySem.Calls PyProof.Rows
variable {S : Sig} {c : Cx} {ρ : List Addr}

noncomputable def clsName : Nat → String
  | 0 => "int"
  | 1 => "bool"
  | 2 => "list"
  | 3 => "tuple"
  | _ => "str"

theorem le4 {k : Nat} (h : k ≤ 4) : k = 0 ∨ k = 1 ∨ k = 2 ∨ k = 3 ∨ k = 4 := by lia
theorem sm_isi {k : Nat} {x : V} {v : Value} (hv : VR ρ x v) (hk : k ≤ 4) : SM S c ρ VR (call (.builtin "isinstance") [v, .type (clsName k)]) (X.bind (isinsts S.P x [k]) fun b => X.pure (.bool b)) := by
  intro os σ s r σ' hp hl he Q E hQ
  have hi : isinsts S.P x [k] = isinst S.P x k := by show (if k ≤ 4 then _ else _) = _; rw [if_pos hk]
  rw [hi] at he
  have fin : ∀ b : Bool, isinst S.P x k σ = some (.ok b, σ) → ∀ tk, Q (.bool b) { s with toks := tk } := fun b e tk => by
    unfold X.bind at he; rw [e] at he; cases he
    exact hQ os _ tk _ List.prefix_rfl hl rfl
  have he' : ∃ b, isinst S.P x k σ = some (.ok b, σ) := by
    rcases X.bind_inv he with ⟨b', σ₁, e, _⟩ | ⟨k', e, _⟩
    · unfold isinst at e ⊢
      split at e
      · exact ⟨_, rfl⟩
      · exact ⟨_, rfl⟩
      · exact ⟨_, rfl⟩
      · exact ⟨_, rfl⟩
      · split at e
        · exact ⟨_, rfl⟩
        · exact ⟨_, rfl⟩
        · cases e
      · cases e
    · unfold isinst at e
      split at e
      · cases e
      · cases e
      · cases e
      · cases e
      · split at e <;> cases e
      · cases e
  clear he hQ
  obtain ⟨b, he⟩ := he'
  cases x with
  | none =>
    cases hv
    rcases le4 hk with rfl | rfl | rfl | rfl | rfl
    · exact IsiPair.NoneType_int (fin _ rfl _)
    · exact IsiPair.NoneType_bool (fin _ rfl _)
    · exact IsiPair.NoneType_list (fin _ rfl _)
    · exact IsiPair.NoneType_tuple (fin _ rfl _)
    · exact IsiPair.NoneType_str (fin _ rfl _)
  | bool b =>
    cases hv
    rcases le4 hk with rfl | rfl | rfl | rfl | rfl
    · exact IsiPair.bool_int (fin _ rfl _)
    · exact IsiPair.bool_bool (fin _ rfl _)
    · exact IsiPair.bool_list (fin _ rfl _)
    · exact IsiPair.bool_tuple (fin _ rfl _)
    · exact IsiPair.bool_str (fin _ rfl _)
  | int i =>
    obtain ⟨t, rfl⟩ := hv
    rcases le4 hk with rfl | rfl | rfl | rfl | rfl
    · exact IsiPair.int_int (fin _ rfl _)
    · exact IsiPair.int_bool (fin _ rfl _)
    · exact IsiPair.int_list (fin _ rfl _)
    · exact IsiPair.int_tuple (fin _ rfl _)
    · exact IsiPair.int_str (fin _ rfl _)
  | str st =>
    obtain ⟨t, rfl, _⟩ := hv
    rcases le4 hk with rfl | rfl | rfl | rfl | rfl
    · exact IsiPair.str_int (fin _ rfl _)
    · exact IsiPair.str_bool (fin _ rfl _)
    · exact IsiPair.str_list (fin _ rfl _)
    · exact IsiPair.str_tuple (fin _ rfl _)
    · exact IsiPair.str_str (fin _ rfl _)
  | ref a =>
    unfold isinst at he fin
    dsimp only at he fin
    cases ha : σ.get a with
    | none => rw [ha] at he; cases he
    | some o =>
      rw [ha] at he fin
      cases o with
      | list xs =>
        obtain ⟨A, o1, rfl, _, _, ⟨vs, n, rfl, hvs, hz⟩, h1, _⟩ := hl.ref hp ha hv
        rcases le4 hk with rfl | rfl | rfl | rfl | rfl
        · exact IsiPair.list_int h1 rfl (fin _ rfl _)
        · exact IsiPair.list_bool h1 rfl (fin _ rfl _)
        · exact IsiPair.list_list h1 rfl (fin _ rfl _)
        · exact IsiPair.list_tuple h1 rfl (fin _ rfl _)
        · exact IsiPair.list_str h1 rfl (fin _ rfl _)
      | tup xs =>
        obtain ⟨A, o1, rfl, _, _, ⟨vs, n, rfl, hvs, hz⟩, h1, _⟩ := hl.ref hp ha hv
        rcases le4 hk with rfl | rfl | rfl | rfl | rfl
        · exact IsiPair.tuple_int h1 rfl (fin _ rfl _)
        · exact IsiPair.tuple_bool h1 rfl (fin _ rfl _)
        · exact IsiPair.tuple_list h1 rfl (fin _ rfl _)
        · exact IsiPair.tuple_tuple h1 rfl (fin _ rfl _)
        · exact IsiPair.tuple_str h1 rfl (fin _ rfl _)
      | _ => cases he
  | top i => exact hv.elim

theorem cut_eq {α : Type} (l : List α) (a b : Nat) : cut l a b = (l.drop a).take (b - a) := by
  unfold cut; rw [List.drop_take]
theorem part_of {ρ : List Addr} {v : V} {x : Value} {n d a : Nat} (h : VR ρ v x) (e : clip v n d = some a) : ∃ p, IsPart x p ∧ (p = none ∧ a = d ∨ ∃ i : Int, p = some i ∧ a = if 0 ≤ i then min i.toNat n else (i + n).toNat) := by
  cases v with
  | none => cases h; cases e; exact ⟨_, .none, .inl ⟨rfl, rfl⟩⟩
  | int i => obtain ⟨t, rfl⟩ := h; cases e; exact ⟨_, .int i t, .inr ⟨i, rfl, rfl⟩⟩
  | _ => cases e
theorem pick_cut {vs : List Value} {lo hi : Option Int} {a b : Nat} (ha : lo = none ∧ a = 0 ∨ ∃ i : Int, lo = some i ∧ a = if 0 ≤ i then min i.toNat vs.length else (i + vs.length).toNat)
    (hb : hi = none ∧ b = vs.length ∨ ∃ i : Int, hi = some i ∧ b = if 0 ≤ i then min i.toNat vs.length else (i + vs.length).toNat) : slicePick vs.toArray lo hi none = (cut vs a b).toArray := by
  have e : sliceBounds lo hi none vs.toArray.size = ((a : Int), (b : Int), 1) := by
    simp only [sliceBounds, Option.getD_none, show (1 : Int) > 0 by decide, if_true, List.size_toArray]
    rcases ha with ⟨rfl, rfl⟩ | ⟨i, rfl, rfl⟩ <;> rcases hb with ⟨rfl, rfl⟩ | ⟨j, rfl, rfl⟩ <;> dsimp only
    · rfl
    · congr 2
      split <;> split <;> lia
    · congr 1
      split <;> split <;> lia
    · congr 1
      · split <;> split <;> lia
      · congr 1
        split <;> split <;> lia
  rw [cut_eq]
  unfold slicePick
  rw [e]
  simp only [sliceRange_one, pick_run]

theorem sm_slice {value slice : Expr} {x lo hi : V} {a l u : Value} (hx : VR ρ x a) (hlo : VR ρ lo l) (hhi : VR ρ hi u)
    (hs : ∀ o i, subscripted slice false o i = operate [i, o] (PySem.getItem o i)) {os : List (Addr × Obj)} {σ σ' : H} {s : Shared} {r : R V} (hp : ρ <+: adr os) (hl : c.led S os σ s.heap) (he : getSlice x lo hi σ = some (r, σ')) {Q : Value → Shared → Prop} {E : Value → Shared → Prop}
    (hQ : ∀ b, r = .ok b → ∀ os' h' tk a, adr os <+: adr os' → c.led S os' σ' h' → VR (adr os') b a → Q a { s with heap := h', toks := tk }) :
    wpAny (model S.prog S.w) c.A (newFields "slice" [l, u, .none]) (fun i s' => wpAny (model S.prog S.w) c.A (subscriptTail value slice a i) Q E s') E s := by
  unfold getSlice at he
  cases x with
  | ref k =>
    dsimp only at he
    cases hk : σ.get k with
    | none => rw [hk] at he; cases he
    | some o =>
      rw [hk] at he
      cases o with
      | list xs =>
        dsimp only at he
        obtain ⟨A, o1, rfl, _, _, ⟨vs, n, rfl, hvs, hz⟩, h1, _⟩ := hl.ref hp hk hx
        split at he
        · rename_i p q e1 e2
          cases he
          obtain ⟨p1, pp, hp1⟩ := part_of hlo e1
          obtain ⟨q1, qq, hq1⟩ := part_of hhi e2
          have hlen := hvs.length
          rw [hlen] at hp1 hq1
          refine wpAny_newObj_type ?_
          have k1 : ∀ b o, s.heap.get? b = some o → (s.heap.push { cls := .type "slice", data := .fields #[l, u, .none] }).get? b = some o := fun b o e => Heap.get?_push_of_some _ e
          have hL : (s.heap.push { cls := .type "slice", data := .fields #[l, u, .none] }).IsList A vs.toArray := PySem.IsL.isList (n := n) (k1 _ _ h1)
          have hL' : Shared.TypeIs { s with heap := s.heap.push { cls := .type "slice", data := .fields #[l, u, .none] } } (.ref A) "list" := ⟨_, k1 _ _ h1, rfl⟩
          refine tail_any hL' slot_list_getitem.lookup (wpAny_getItem_list_slice hL (Heap.IsSliceOf.new ..) pp qq .none (by simp) ?_ (by rw [List.size_toArray, ← hlen]; exact Nat.le_trans hz lim_le)) (hs _ _)
          rw [pick_cut hp1 hq1]
          refine hQ _ rfl (os ++ [(_, _)]) _ _ _ adr_new ((hl.keep k1).pushed (o := .list (cut xs p q)) ⟨cut vs p q, 0, rfl, (hvs.take _).drop _, ?_⟩) (hl.ref_new (p := (_, _)))
          have : (cut xs p q).length ≤ xs.length := by unfold cut; rw [List.length_drop, List.length_take]; lia
          lia
        · cases he
      | _ => cases he
  | _ => cases he

end Mine

set_option autoImplicit false
namespace Mine
open PySem PySem.W PySem.Calls PyProof.Rows
variable {S : Sig} {c : Cx} {ρ : List Addr}

abbrev VRs : List Addr → List V → List Value → Prop := fun ρ => All2 (VR ρ)

theorem mapSeq_of {vs ws : List Value} {n : Nat} {f : Array Value → Array Value} (e : f vs.toArray = ws.toArray) : ∃ n', Obj.mapSeq f (W.listOf vs.toArray n) = W.listOf ws.toArray n' := by
  refine ⟨if ws.toArray.size == vs.toArray.size then n else n + 1, ?_⟩
  simp only [Obj.mapSeq, W.listOf]
  rw [e]

theorem sm_append {x : V} {a : Value} {xs : List V} {vs : List Value} (hx : VR ρ x a) (hs : All2 (VR ρ) xs vs) : SM S c ρ VR (call (.builtin "list.append") (a :: vs)) (listMeth S.P x idAppend xs) := by
  intro os σ s r σ' hp hl he Q E hQ
  unfold listMeth at he
  split at he
  · rename_i k
    split at he
    · rename_i ys hk
      obtain ⟨hk, hnf⟩ := getM_inv hk
      rw [if_pos rfl] at he
      split at he
      · obtain ⟨v, rfl, hv⟩ := hs.inv1
        obtain ⟨A, o1, rfl, eA, _, ⟨ws, n, rfl, hws, hz⟩, h1, _⟩ := hl.ref hp hk hx
        unfold grow at he
        split at he
        · rename_i hok
          cases he
          have hok : (ys ++ [_]).length ≤ lim := of_decide_eq_true hok
          have hlen := hws.length
          refine append_at h1 (fun h' hs' ho' => hQ (os.set k (A, _)) _ _ _ ?_ (hl.upd hnf eA hs' ho' ?_) rfl) (by rw [List.size_toArray, ← hlen]; exact Nat.le_trans hz lim_le)
          · rw [adr_set eA]; exact List.prefix_rfl
          · exact ⟨ws ++ [v], n + 1, by simp, hws.append (.one (hv.mono hp)), hok⟩
        · cases he
      · cases he
    · cases he
  · cases he

theorem sm_pop {x : V} {a : Value} {xs : List V} {vs : List Value} (hx : VR ρ x a) (hs : All2 (VR ρ) xs vs) : SM S c ρ VR (call (.builtin "list.pop") (a :: vs)) (listMeth S.P x idPop xs) := by
  intro os σ s r σ' hp hl he Q E hQ
  unfold listMeth at he
  split at he
  · rename_i k
    split at he
    · rename_i ys hk
      obtain ⟨hk, hnf⟩ := getM_inv hk
      rw [if_neg (by decide), if_pos rfl] at he
      split at he
      · cases hs
        obtain ⟨A, o1, rfl, eA, _, ⟨ws, n, rfl, hws, hz⟩, h1, _⟩ := hl.ref hp hk hx
        split at he
        · rename_i v hv
          cases he
          have hlen := hws.length
          have hv' : ys[ys.length - 1]? = some v := by rw [← List.getLast?_eq_getElem?]; exact hv
          obtain ⟨w, hw, hr⟩ := hws.get hv'
          rw [hlen] at hw
          have e1 : (fun xs : Array Value => xs.eraseIdxIfInBounds (ws.toArray.size - 1)) ws.toArray = ws.dropLast.toArray := by
            have hne : ws.length - 1 + 1 = ws.length := by have := (List.getElem?_eq_some_iff.mp hw).1; lia
            simp only [List.size_toArray, List.eraseIdxIfInBounds_toArray]
            congr 1
            exact List.eraseIdx_eq_dropLast hne
          obtain ⟨n', hn'⟩ := mapSeq_of (vs := ws) (ws := ws.dropLast) (n := n) (f := fun xs : Array Value => xs.eraseIdxIfInBounds (ws.toArray.size - 1)) e1
          refine call_meets F.slot_list_pop ⟨_, h1, rfl⟩ F.entry_list_pop (F.args_list_pop_1 _) (MeetsSeq.list_pop_last A ws.toArray n w (by simpa using hw) (by rw [List.size_toArray, ← hlen]; exact Nat.le_trans hz lim_le)) ⟨h1, hQ (os.set k (A, W.listOf ws.dropLast.toArray n')) _ _ _ ?_ (hl.upd hnf eA (Heap.SameBut.update ..) ?_ ?_) ?_⟩
          · rw [adr_set eA]; exact List.prefix_rfl
          · rw [← hn']; exact Heap.get?_update_self _ h1 rfl
          · refine ⟨_, _, rfl, ?_, by rw [List.length_dropLast]; lia⟩
            rw [List.dropLast_eq_take, List.dropLast_eq_take, ← hlen]; exact hws.take _
          · rw [adr_set eA]; exact hr
        · cases he
      · cases he
    · cases he
  · cases he

theorem sm_clear {x : V} {a : Value} {xs : List V} {vs : List Value} (hx : VR ρ x a) (hs : All2 (VR ρ) xs vs) : SM S c ρ VR (call (.builtin "list.clear") (a :: vs)) (listMeth S.P x idClear xs) := by
  intro os σ s r σ' hp hl he Q E hQ
  unfold listMeth at he
  split at he
  · rename_i k
    split at he
    · rename_i ys hk
      obtain ⟨hk, hnf⟩ := getM_inv hk
      rw [if_neg (by decide), if_neg (by decide), if_pos rfl] at he
      split at he
      · cases hs
        obtain ⟨A, o1, rfl, eA, _, ⟨ws, n, rfl, hws, hz⟩, h1, _⟩ := hl.ref hp hk hx
        cases he
        have hlen := hws.length
        obtain ⟨n', hn'⟩ := mapSeq_of (vs := ws) (ws := []) (n := n) (f := fun _ => #[]) rfl
        refine call_meets F.slot_list_clear ⟨_, h1, rfl⟩ F.entry_list_clear (F.args_list_clear_1 _) (AutoSeq1.list_clear_list_0 A ws.toArray n (by rw [List.size_toArray, ← hlen]; exact Nat.le_trans hz lim_le)) ⟨h1, hQ (os.set k (A, W.listOf [].toArray n')) _ _ _ ?_ (hl.upd hnf eA (Heap.SameBut.update ..) ?_ ?_) rfl⟩
        · rw [adr_set eA]; exact List.prefix_rfl
        · rw [← hn']; exact Heap.get?_update_self _ h1 rfl
        · exact ⟨_, _, rfl, .nil, by simp⟩
      · cases he
    · cases he
  · cases he

theorem ddel_without {ρ : List Addr} {k : V} : ∀ {es : List (V × V)} {kvs : List (V × Value)}, All2 (PR ρ) es kvs → (kvs.map (·.1)).Nodup → All2 (PR ρ) (ddel es k) (without kvs k)
  | _, _, .nil, _ => .nil
  | _, _, .cons (a := (k1, v1)) (b := (k2, x2)) (as := es) (bs := kvs) ⟨h1, h2⟩ hr, nd => by
    dsimp only at h1 h2
    subst h1
    rw [List.map_cons, List.nodup_cons] at nd
    by_cases hk : k1 = k
    · subst hk
      have : without ((k1, x2) :: kvs) k1 = kvs := by
        simp only [without, List.filter_cons, ne_eq, not_true_eq_false, decide_false, Bool.false_eq_true, if_false]
        exact without_of_not_mem kvs _ nd.1
      rw [this]; simp only [ddel, if_true]; exact hr
    · have : without ((k1, x2) :: kvs) k = (k1, x2) :: without kvs k := by simp only [without, List.filter_cons, ne_eq, hk, not_false_eq_true, decide_true, if_true]
      rw [this]; simp only [ddel, hk, if_false]
      exact .cons ⟨rfl, h2⟩ (ddel_without hr nd.2)
theorem ddel_length (es : List (V × V)) (k : V) : (ddel es k).length ≤ es.length := by
  induction es with
  | nil => simp [ddel]
  | cons p r ih => obtain ⟨a, b⟩ := p; simp only [ddel]; split <;> simp; exact ih
theorem keyPart_key {k : V} {v : Value} (h : keyIs k v = true) : (keyPart v).isSome = true := by
  rcases keyIs_shape h with ⟨i, t, rfl, rfl⟩ | ⟨x, t, rfl, rfl⟩ | ⟨rfl, rfl⟩ <;> rfl

theorem sm_dpop {x : V} {a : Value} {xs : List V} {vs : List Value} (hx : VR ρ x a) (hs : All2 (VR ρ) xs vs) : SM S c ρ VR (call (.builtin "dict.pop") (a :: vs)) (dictMeth S.P x idPop xs) := by
  intro os σ s r σ' hp hl he Q E hQ
  unfold dictMeth at he
  split at he
  · rename_i k
    split at he
    · rename_i es hk
      obtain ⟨hk, hnf⟩ := getM_inv hk
      rw [if_pos rfl] at he
      obtain ⟨A, o1, rfl, eA, _, ⟨es', n, kvs, rfl, k1, k2, k3, k4, hz⟩, h1, hL, hn, hb⟩ := hl.ref hp hk hx
      have hd : s.heap.DictOf (vKind S.prog S.w) A kvs := dict_of h1 k1 k2 k3
      have hlen := k4.length
      have hsz : kvs.length ≤ sizeLine := by rw [← hlen]; exact Nat.le_trans hz lim_le
      have there : ∀ {y : V} {key : Value} {w : V} {rest : List Value}, VR ρ y key → isKey y = true → dget es y = some w → (rest = [] ∨ ∃ d, rest = [d]) → argsOk "dict.pop" ⟨.ref A :: key :: rest, []⟩ →
          (∀ os' h' tk a, adr os <+: adr os' → c.led S os' (σ.put k (.dict (ddel es y))) h' → VR (adr os') w a → Q a { s with heap := h', toks := tk }) → wpAny (model S.prog S.w) c.A (call (.builtin "dict.pop") (.ref A :: key :: rest)) Q E s := by
        intro y key w rest hy hkey hw hrest hargs hq
        have hki := key_is hy (by rw [hkey]; rfl)
        rcases valueAt_dget k4 y with ⟨_, e2⟩ | ⟨v', x', e1, e2, e3⟩
        · rw [e2] at hw; cases hw
        · rw [hw] at e1; cases e1
          refine call_meetsIn F.slot_dict_pop hd.typeIs F.entry_dict_pop hargs (meets_dict_pop_there (vKind S.prog S.w) A hki rest hrest (keyPart_key hki)) ⟨kvs, x', hd, hsz, e2, fun h' hd' hs' => ?_⟩
          obtain ⟨es'', n', g1, g2, g3, g4⟩ := of_dict hd'
          refine hq (os.set k (A, dictOf es'' n')) _ _ _ ?_ (hl.upd hnf eA hs' g1 ?_) ?_
          · rw [adr_set eA]; exact List.prefix_rfl
          · exact ⟨es'', n', _, rfl, g2, g3, g4, ddel_without k4 k3, Nat.le_trans (ddel_length ..) hz⟩
          · rw [adr_set eA]; exact e3
      split at he
      · obtain ⟨key, rfl, hkey⟩ := hs.inv1
        split at he
        · rename_i hik
          split at he
          · rename_i w hw
            cases he
            exact there hkey hik hw (.inl rfl) (F.args_dict_pop_2 _ _) hQ
          · cases he
        · cases he
      · obtain ⟨key, dv, rfl, hkey, hdv⟩ := hs.inv2
        split at he
        · rename_i hik
          split at he
          · rename_i w hw
            cases he
            exact there hkey hik hw (.inr ⟨_, rfl⟩) (F.args_dict_pop_3 _ _ _) hQ
          · rename_i hw
            cases he
            have hki := key_is hkey (by rw [hik]; rfl)
            rcases valueAt_dget k4 _ with ⟨e1, _⟩ | ⟨v', x', e1, _, _⟩
            · exact call_meetsIn F.slot_dict_pop hd.typeIs F.entry_dict_pop (F.args_dict_pop_3 _ _ _) (meets_dict_pop_default (vKind S.prog S.w) A hki hb (keyPart_key hki) dv) ⟨kvs, hd, e1, hQ os _ _ _ List.prefix_rfl hl (hdv.mono hp)⟩
            · rw [hw] at e1; cases e1
        · cases he
      · cases he
    · cases he
  · cases he

end Mine

set_option autoImplicit false
namespace Mine
open PySem PySem.W PySem.Calls PyProof.Rows
variable {S : Sig} {c : Cx} {ρ : List Addr}

set_option genInjectivity false in
structure Nam where
  T : List Str
  fn : Nat → Option Addr
  me : Nat → Option Addr
  cls : Nat → Option Addr
  ex : Nat → Option Addr

noncomputable def Sig.nam (S : Sig) : Nam := ⟨S.T, S.fn, S.me, S.cls, S.ex⟩

noncomputable def biName : Bi → Str
  | .len => "len" | .sorted => "sorted" | .list => "list" | .tuple => "tuple" | .str => "str" | .int => "int" | .range => "range" | .min => "min" | .max => "max" | .set => "set" | .zip => "zip"

noncomputable def isGlob (sc : Scope) (nm : Str) : Bool := decide (sc.names.lookup nm = some .globalImplicit) && !(nm == ("__debug__" : Str))
noncomputable def nameIs (N : Nam) (i : Nat) (nm : Str) : Bool := decide (N.T[i]? = some nm)
noncomputable def plainBase : Expr → Bool
  | .Call (.Name _ _) [] [] _ => false
  | _ => true
noncomputable def isSet : Expr → Bool
  | .Set _ _ _ => true
  | _ => false
noncomputable def isSlice : Expr → Bool
  | .Slice _ _ _ _ => true
  | _ => false
noncomputable def isNone : Ex → Bool
  | .cnone => true
  | _ => false
noncomputable def inScope (sc : Scope) (nm : Str) : Bool := match sc.names.lookup nm with
  | some .local => true
  | some .cell => true
  | some .free => true
  | _ => false
noncomputable def isCell (sc : Scope) (nm : Str) : Bool := match sc.names.lookup nm with
  | some .cell => true
  | some .free => true
  | _ => false
noncomputable def compScope (N : Nam) (sc sc' : Scope) (nm : Str) : Bool :=
  decide (sc'.kind = .function) && sc'.names.all (fun x => decide (x.2 ≠ .cell) && (!decide (x.2 = .local) || (decide (sc'.names.lookup x.1 = some .local) && (decide (x.1 = nm) || !N.T.contains x.1))) && (!decide (x.2 = .free) || isCell sc x.1)) && decide (sc'.names.lookup nm = some .local)

/- parts of expressions -/
noncomputable def tagE : Expr → Nat
  | .BoolOp .. => 0 | .NamedExpr .. => 1 | .BinOp .. => 2 | .UnaryOp .. => 3 | .Lambda .. => 4 | .IfExp .. => 5 | .Dict .. => 6 | .Set .. => 7 | .ListComp .. => 8 | .SetComp .. => 9 | .DictComp .. => 10 | .GeneratorExp .. => 11 | .Await .. => 12 | .Yield .. => 13
  | .YieldFrom .. => 14 | .Compare .. => 15 | .Call .. => 16 | .FormattedValue .. => 17 | .JoinedStr .. => 18 | .Constant .. => 19 | .Attribute .. => 20 | .Subscript .. => 21 | .Starred .. => 22 | .Name .. => 23 | .List .. => 24 | .Tuple .. => 25 | .Slice .. => 26
set_option genInjectivity false in
structure Pt where
  x : Expr
  y : Expr
  xs : List Expr
  pos : Pos
  nm : Str
  k : Nat
  bop : PySem.Operator := .Add
  uop : UnaryOp := .Not
  lop : BoolOp := .And
  cops : List CmpOp := []
  cst : Const := .none
  ds : List (Option Expr) := []
  kws : List Keyword := []
  gs : List Comprehension := []
  sc : Scope := ⟨.function, [], false, false, []⟩
  lo : Option Expr := none
  hi : Option Expr := none
  st : Option Expr := none
noncomputable def noPos : Pos := ⟨0, 0, 0, 0⟩
noncomputable def ptE (e : Expr) : Pt := match e with
  | .BoolOp o xs p => { x := e, y := e, xs := xs, pos := p, nm := "", k := 0, lop := o }
  | .BinOp l o r p => { x := l, y := r, xs := [], pos := p, nm := "", k := 0, bop := o }
  | .UnaryOp o x p => { x := x, y := x, xs := [], pos := p, nm := "", k := 0, uop := o }
  | .Dict ks vs p => { x := e, y := e, xs := vs, pos := p, nm := "", k := 0, ds := ks }
  | .ListComp x gs sc p => { x := x, y := x, xs := [], pos := p, nm := "", k := 0, gs := gs, sc := sc }
  | .Compare l os rs p => { x := l, y := l, xs := rs, pos := p, nm := "", k := 0, cops := os }
  | .Call f xs ks p => { x := f, y := f, xs := xs, pos := p, nm := "", k := 0, kws := ks }
  | .Constant v k p => { x := e, y := e, xs := [], pos := p, nm := "", k := k, cst := v }
  | .Attribute x nm p => { x := x, y := x, xs := [], pos := p, nm := nm, k := 0 }
  | .Subscript x y p => { x := x, y := y, xs := [], pos := p, nm := "", k := 0 }
  | .Name nm p => { x := e, y := e, xs := [], pos := p, nm := nm, k := 0 }
  | .List xs p => { x := e, y := e, xs := xs, pos := p, nm := "", k := 0 }
  | .Tuple xs k p => { x := e, y := e, xs := xs, pos := p, nm := "", k := k }
  | .Slice l u s p => { x := e, y := e, xs := [], pos := p, nm := "", k := 0, lo := l, hi := u, st := s }
  | _ => { x := e, y := e, xs := [], pos := noPos, nm := "", k := 0 }
noncomputable def isC (v w : Const) : Bool := match v, w with
  | .none, .none => true
  | .bool b, .bool b' => b == b'
  | .int i, .int j => decide (i = j)
  | .str s, .str s' => decide (s = s') && okS s
  | _, _ => false
noncomputable def onO {α : Type} (o : Option α) (f : α → Bool) : Bool := match o with
  | some a => f a
  | none => false
theorem onO_eq {α : Type} {o : Option α} {f : α → Bool} (h : onO o f = true) : ∃ a, o = some a ∧ f a = true := by
  cases o with
  | none => exact nomatch (show false = true from h)
  | some a => exact ⟨a, rfl, h⟩
noncomputable def one {α : Type} : List α → Option α
  | [a] => some a
  | _ => none
noncomputable def two {α : Type} : List α → Option (α × α)
  | [a, b] => some (a, b)
  | _ => none
noncomputable def nil? {α : Type} : List α → Bool
  | [] => true
  | _ => false
noncomputable def exsNil : Exs → Bool
  | .nil => true
  | _ => false
noncomputable def isT (e : Expr) (n : Nat) : Bool := decide (tagE e = n)
noncomputable def isCallN (e : Expr) : Bool := isT e 16 && (nil? (ptE e).kws && isT (ptE e).x 23)
noncomputable def cN (e : Expr) : Str := (ptE (ptE e).x).nm
noncomputable def cA (e : Expr) : List Expr := (ptE e).xs

mutual
noncomputable def ckE (N : Nam) : Scope → Ex → Expr → Bool
  | _, .cnone, e => isT e 19 && isC .none (ptE e).cst
  | _, .cbool b, e => isT e 19 && isC (.bool b) (ptE e).cst
  | _, .cint i, e => isT e 19 && isC (.int i) (ptE e).cst
  | _, .cstr s, e => isT e 19 && isC (.str s) (ptE e).cst
  | sc, .loc i, e => isT e 23 && (nameIs N i (ptE e).nm && (inScope sc (ptE e).nm && (!((ptE e).nm == ("__debug__" : Str)) && !((ptE e).nm == ("__classdict__" : Str)))))
  | sc, .glo i, e => isT e 23 && (nameIs N i (ptE e).nm && isGlob sc (ptE e).nm)
  | sc, .bin op a b, e => isT e 2 && (decide (op = (ptE e).bop) && (ckE N sc a (ptE e).x && ckE N sc b (ptE e).y))
  | sc, .neg a, e => isT e 3 && (decide ((ptE e).uop = .USub) && ckE N sc a (ptE e).x)
  | sc, .not a, e => isT e 3 && (decide ((ptE e).uop = .Not) && ckE N sc a (ptE e).x)
  | sc, .band es, e => isT e 0 && (decide ((ptE e).lop = .And) && ckEs N sc es (ptE e).xs)
  | sc, .bor es, e => isT e 0 && (decide ((ptE e).lop = .Or) && ckEs N sc es (ptE e).xs)
  | sc, .cmp op a b, e => isT e 15 && onO (one (ptE e).cops) fun o => onO (one (ptE e).xs) fun r => decide (op = o) && (!behindInMarks o r && (ckE N sc a (ptE e).x && ckE N sc b r))
  | sc, .cmp2 o1 o2 a b d, e => isT e 15 && onO (two (ptE e).cops) fun o => onO (two (ptE e).xs) fun r => decide (o1 = o.1) && (decide (o2 = o.2) && (!behindInMarks o.2 r.2 && (ckE N sc a (ptE e).x && (ckE N sc b r.1 && ckE N sc d r.2))))
  | sc, .list es, e => isT e 24 && ckEs N sc es (ptE e).xs
  | sc, .tup es, e => isT e 25 && ckEs N sc es (ptE e).xs
  | _, .dict ks vs, e => isT e 6 && (exsNil ks && (exsNil vs && (nil? (ptE e).ds && nil? (ptE e).xs)))
  | sc, .attr a n, e => isT e 20 && (nameIs N n (ptE e).nm && (plainBase (ptE e).x && ckE N sc a (ptE e).x))
  | sc, .sub a i, e => isT e 21 && (!isSlice (ptE e).y && (ckE N sc a (ptE e).x && ckE N sc i (ptE e).y))
  | sc, .slice a lo hi, e => isT e 21 && (isT (ptE e).y 26 && ((ptE (ptE e).y).st.isNone && (ckE N sc a (ptE e).x && ((match (ptE (ptE e).y).lo with | none => isNone lo | some y => ckE N sc lo y) && (match (ptE (ptE e).y).hi with | none => isNone hi | some y => ckE N sc hi y)))))
  | sc, .call f args, e => isCallN e && (nameIs N f (cN e) && (isGlob sc (cN e) && ((N.fn f).isSome && ckEs N sc args (cA e))))
  | sc, .new k, e => isCallN e && (nil? (cA e) && (nameIs N k (cN e) && (isGlob sc (cN e) && (N.cls k).isSome)))
  | sc, .meth o n args, e => isT e 16 && (nil? (ptE e).kws && (isT (ptE e).x 20 && (nameIs N n (ptE (ptE e).x).nm && (plainBase (ptE (ptE e).x).x && (((ptE (ptE e).x).pos.endLine == (ptE e).pos.line) && (decide ((cA e).length < 30) && ((decide (n ≤ 12) || (N.me n).isSome) && (ckE N sc o (ptE (ptE e).x).x && ckEs N sc args (cA e)))))))))
  | sc, .bi b args, e => isCallN e && (decide (cN e = biName b) && (isGlob sc (cN e) && ckEs N sc args (cA e)))
  | sc, .isi a ks, e => isCallN e && onO (one ks) fun k => onO (two (cA e)) fun xs => isT xs.2 23 && (decide (cN e = "isinstance") && (isGlob sc (cN e) && (isGlob sc (ptE xs.2).nm && (decide (k ≤ 4) && (decide ((ptE xs.2).nm = (clsName k : Str)) && ckE N sc a xs.1)))))
  | sc, .comp elt tg tup it conds, e => isT e 8 && onO (one tg) fun i => onO (one (ptE e).gs) fun g => isT g.target 23 && (!tup && (decide (g.is_async = 0) && (nameIs N i (ptE g.target).nm && (compScope N sc (ptE e).sc (ptE g.target).nm && (!isSet g.iter && (ckE N sc it g.iter && (ckE N (ptE e).sc elt (ptE e).x && ckEs N (ptE e).sc conds g.ifs)))))))
termination_by structural _ x => x
noncomputable def ckEs (N : Nam) : Scope → Exs → List Expr → Bool
  | _, .nil, xs => nil? xs
  | sc, .cons e es, xs => match xs with
    | x :: xs => ckE N sc e x && ckEs N sc es xs
    | [] => false
termination_by structural _ x => x
end

end Mine

set_option autoImplicit false
namespace Mine
open PySem PySem.W PySem.Calls PyProof.Rows
variable {S : Sig} {c : Cx} {ρ : List Addr}

structure CtxOK (S : Sig) (n : Nat) (c : Cx) : Prop where
  hand : c.A.handled = none
  units : c.A.units + 2 * n + 200 < cLine
  depth : c.A.depth + n < recursionLimit
  kin : S.K.In c.h₀
  top : ∃ mg mb, c.h₀.Ns mainGlobals mg ∧ c.h₀.Ns builtinsNs mb ∧ ∀ x : Str, x ≠ "__name__" → mb x = bootBuiltins x
  lim : c.h₀.NoLimit
  kind : c.env.scope.kind = .function
  glob : c.env.globals = mainGlobals
  blt : c.env.builtins = builtinsNs
  locs : c.env.locals = c.L
  frs : ∃ l, c.A.frames = some l ∧ ∀ e ∈ l, e.scope.kind ≠ .module ∧ ∃ b, e.frame = some b ∧ b ∈ c.L :: c.fs.map (·.1)

theorem CtxOK.le {n k : Nat} (h : CtxOK S n c) (e : k ≤ n) : CtxOK S k c :=
  ⟨h.hand, by have := h.units; lia, by have := h.depth; lia, h.kin, h.top, h.lim, h.kind, h.glob, h.blt, h.locs, h.frs⟩
theorem CtxOK.room {n : Nat} (h : CtxOK S n c) : Room c := by unfold Room; have := h.units; lia

noncomputable def VarAt (c : Cx) (nm : Str) (x : Value) : Prop :=
  (c.env.kindOf nm = some .local ∧ c.m nm = some x) ∨
  ((c.env.kindOf nm = some .cell ∨ c.env.kindOf nm = some .free) ∧ ∃ a o, c.env.cells.lookup nm = some a ∧ (a, o) ∈ c.kp ∧ o.data = .cell (some x))
noncomputable def VarsOK (S : Sig) (c : Cx) (sc : Scope) (ρ : List Addr) (loc : Loc) : Prop := ∀ i v nm, loc i = some v → S.T[i]? = some nm → inScope sc nm = true → ∃ x, VarAt c nm x ∧ VR ρ v x
theorem VarsOK.mono {sc : Scope} {loc : Loc} {ρ' : List Addr} (h : VarsOK S c sc ρ loc) (k : ρ <+: ρ') : VarsOK S c sc ρ' loc := fun i v nm e h1 h2 =>
  let ⟨x, h3, h4⟩ := h i v nm e h1 h2; ⟨x, h3, h4.mono k⟩

structure ScOK (sc : Scope) (env : Env) : Prop where
  glob : ∀ nm, sc.names.lookup nm = some .globalImplicit → env.kindOf nm = some .globalImplicit
  loc : ∀ nm, sc.names.lookup nm = some .local → env.kindOf nm = some .local
  cell : ∀ nm, isCell sc nm = true → (env.kindOf nm = some .cell ∨ env.kindOf nm = some .free) ∧ ∃ a, env.cells.lookup nm = some a

section
variable {α β : Type} {RV : List Addr → β → α → Prop}
theorem SM.operate {t : Sem Value} {x : X V} {vs : List Value} {RV : List Addr → V → Value → Prop} (h : SM S c ρ RV t x) : SM S c ρ RV (operate vs t) x :=
  fun os σ s r σ' hp hl hx Q E hQ => wpAny_operate' (h os σ s r σ' hp hl hx Q E hQ)
theorem SM.release {t : Sem α} {x : X β} {vs ws : List Value} (h : SM S c ρ RV t x) : SM S c ρ RV (do release vs ws; t) x :=
  fun os σ s r σ' hp hl hx Q E hQ => wpAny_bind (wpAny_release' (h os σ s r σ' hp hl hx Q E hQ))
theorem SM.via {t t' : Sem α} {x : X β} (h : SM S c ρ RV t x) (k : ∀ Q E s, wpAny (model S.prog S.w) c.A t Q E s → wpAny (model S.prog S.w) c.A t' Q E s) : SM S c ρ RV t' x :=
  fun os σ s r σ' hp hl hx Q E hQ => k _ _ _ (h os σ s r σ' hp hl hx Q E hQ)
end

theorem T_eq {i : Nat} {nm : Str} (h : nameIs S.nam i nm = true) : S.T[i]? = some nm := of_decide_eq_true h

theorem sm_local {n : Nat} (K : CtxOK S n c) {loc : Loc} {sc : Scope} (V : VarsOK S c sc ρ loc) {i : Nat} {nm : Str} {pos : Pos} (hn : S.T[i]? = some nm) (hsc : inScope sc nm = true) (hd : (nm == ("__debug__" : Str)) = false) (hc : (nm == ("__classdict__" : Str)) = false) :
    SM S c ρ VR (eval (.Name nm pos) c.env) (X.lift (loc i)) := by
  intro os σ s r σ' hp hl he Q E hQ
  unfold X.lift at he
  split at he
  · rename_i v hv
    cases he
    obtain ⟨x, h2, h3⟩ := V i v nm hv hn hsc
    have fin := hQ os s.heap s.toks x List.prefix_rfl hl (h3.mono hp)
    refine wpAny_Name ?_ hd
    rcases h2 with ⟨k1, k2⟩ | ⟨k1 | k1, a, o, k2, k3, k4⟩
    · exact wpAny_loadName_local K.kind k1 (K.locs ▸ hl.fr.ns) k2 fin
    · exact wpAny_loadName_cell K.kind k1 k2 ⟨o, (hl.news _ (List.mem_append_left _ k3)).1, k4⟩ fin
    · exact wpAny_loadName_free K.kind k1 k2 ⟨o, (hl.news _ (List.mem_append_left _ k3)).1, k4⟩ fin hc
  · cases he

theorem sm_top {n : Nat} (K : CtxOK S n c) {nm : Str} {pos : Pos} {v : Value} {x : V} {RV : List Addr → V → Value → Prop} (hk : c.env.kindOf nm = some .globalImplicit) (hd : (nm == ("__debug__" : Str)) = false) (e : nsIn S.K mainGlobals nm = some (some v)) (h : ∀ ρ, RV ρ x v) :
    SM S c ρ RV (eval (.Name nm pos) c.env) (X.pure x) := by
  intro os σ s r σ' hp hl he Q E hQ
  cases he
  obtain ⟨mg, mb, h1, h2, h3⟩ := K.top
  exact Name_function_global K.kind hk (loadGlobal_global (K.glob ▸ h1.keeps hl.fr.keep) (mg_of K.kin h1 e) (hQ os s.heap s.toks v List.prefix_rfl hl (h _))) hd
theorem sm_boot {n : Nat} (K : CtxOK S n c) {nm : Str} {pos : Pos} {v : Value} {x : V} {RV : List Addr → V → Value → Prop} (hk : c.env.kindOf nm = some .globalImplicit) (hd : (nm == ("__debug__" : Str)) = false) (e : nsIn S.K mainGlobals nm = some none)
    (hv : bootBuiltins nm = some v) (hn : nm ≠ "__name__") (h : ∀ ρ, RV ρ x v) : SM S c ρ RV (eval (.Name nm pos) c.env) (X.pure x) := by
  intro os σ s r σ' hp hl he Q E hQ
  cases he
  obtain ⟨mg, mb, h1, h2, h3⟩ := K.top
  exact Name_function_global K.kind hk (loadGlobal_builtin (K.glob ▸ h1.keeps hl.fr.keep) (mg_none_of K.kin h1 e) (K.blt ▸ h2.keeps hl.fr.keep) ((h3 nm hn).trans hv) (hQ os s.heap s.toks v List.prefix_rfl hl (h _))) hd

theorem X.pure_bind {α β : Type} (a : α) (f : α → X β) : X.bind (X.pure a) f = f a := by funext σ; rfl
theorem X.bind_assoc {α β γ : Type} (m : X α) (f : α → X β) (g : β → X γ) : X.bind (X.bind m f) g = X.bind m fun a => X.bind (f a) g := by
  funext σ
  unfold X.bind
  cases m σ with
  | none => rfl
  | some p => obtain ⟨r, σ'⟩ := p; cases r <;> rfl

theorem sm_bin {op : Operator} {l r : Expr} {pos : Pos} {x y : X V} (hx : SM S c ρ VR (eval l c.env) x) (hy : SM S c ρ VR (eval r c.env) y) :
    SM S c ρ VR (eval (.BinOp l op r pos) c.env) (X.bind x fun a => X.bind y fun b => binop op a b) := by
  rw [arm_eval_BinOp]
  exact hx.bind fun ρ' a v k ha => (SM.hold (hy.mono k)).bind fun ρ'' b w k' hb => (SM.operate (sm_binop (ha.mono k') hb)).stand

theorem sm_neg {e : Expr} {pos : Pos} {x : X V} (hx : SM S c ρ VR (eval e c.env) x) : SM S c ρ VR (eval (.UnaryOp .USub e pos) c.env) (X.bind x fun a => match a with | .int i => X.pure (.int (-i)) | _ => X.none) := by
  rw [arm_eval_UnaryOp]
  refine hx.bind fun ρ' a v k ha => SM.stand (SM.hold ?_)
  cases a with
  | int i =>
    obtain ⟨t, rfl⟩ := ha
    intro os σ s r σ' hp hl he Q E hQ
    cases he
    exact PySem.P.neg_int (hQ os _ _ _ List.prefix_rfl hl ⟨_, rfl⟩)
  | _ => exact SM.none
theorem sm_not {e : Expr} {pos : Pos} {x : X V} (hx : SM S c ρ VR (eval e c.env) x) : SM S c ρ VR (eval (.UnaryOp .Not e pos) c.env) (X.bind x fun a => X.bind (truth a) fun t => X.pure (.bool (!t))) := by
  rw [arm_eval_UnaryOp]
  refine hx.bind fun ρ' a v k ha => SM.stand (SM.hold ?_)
  refine SM.via (t := truthy v >>= fun b => Pure.pure (.bool (!b))) ((sm_truth ha).bind fun ρ'' b b' k' hb => ?_) fun Q E s h => ?_
  · subst hb; exact SM.pure fun _ _ => rfl
  · unfold unaryOp
    exact wpAny_holding h
theorem sm_cmp (hr : Room c) {op : CmpOp} {l r : Expr} {pos : Pos} {x y : X V} (hm : behindInMarks op r = false) (hx : SM S c ρ VR (eval l c.env) x) (hy : SM S c ρ VR (eval r c.env) y) :
    SM S c ρ VR (eval (.Compare l [op] [r] pos) c.env) (X.bind x fun a => X.bind y fun b => cmpop S.P op a b) := by
  rw [arm_eval_Compare]
  refine hx.bind fun ρ' a v k ha => ?_
  have e : markedEach [op] [r] (evalEach [r] c.env) = [eval r c.env] := by simp only [arm_evalEach_cons, arm_evalEach_nil, markedEach, markedBehindIn_of_false hm]
  rw [e]
  exact (SM.hold (hy.mono k)).bind fun ρ'' b w k' hb => (SM.operate (sm_cmpop hr (ha.mono k') hb)).stand
theorem sm_cmp_test (hr : Room c) {op : CmpOp} {l r : Expr} {pos : Pos} {x y : X V} {whole : Sem Value} (hm : behindInMarks op r = false) (hx : SM S c ρ VR (eval l c.env) x) (hy : SM S c ρ VR (eval r c.env) y) :
    SM S c ρ EqR (isTrue (.Compare l [op] [r] pos) c.env whole) (X.bind (X.bind x fun a => X.bind y fun b => cmpop S.P op a b) truth) := by
  rw [arm_isTrue_Compare, X.bind_assoc]
  refine hx.bind fun ρ' a v k ha => ?_
  have e : markedEach [op] [r] (evalEach [r] c.env) = [eval r c.env] := by simp only [arm_evalEach_cons, arm_evalEach_nil, markedEach, markedBehindIn_of_false hm]
  rw [e, X.bind_assoc]
  exact (SM.hold (hy.mono k)).bind fun ρ'' b w k' hb => SM.stand ((SM.operate (sm_cmpop hr (ha.mono k') hb)).bind fun _ _ _ _ h => SM.hold (sm_truth h))
theorem marked2 {o1 o2 : CmpOp} {r1 r2 : Expr} {env : Env} (hm : behindInMarks o2 r2 = false) : markedEach [o1, o2] [r1, r2] (evalEach [r1, r2] env) = [eval r1 env, eval r2 env] := by
  simp only [arm_evalEach_cons, arm_evalEach_nil, markedEach, markedBehindIn_of_false hm]
theorem sm_cmp2 (hr : Room c) {o1 o2 : CmpOp} {l r1 r2 : Expr} {pos : Pos} {x y z : X V} (hm : behindInMarks o2 r2 = false) (hx : SM S c ρ VR (eval l c.env) x) (hy : SM S c ρ VR (eval r1 c.env) y) (hz : SM S c ρ VR (eval r2 c.env) z) :
    SM S c ρ VR (eval (.Compare l [o1, o2] [r1, r2] pos) c.env) (X.bind x fun a => X.bind y fun b => X.bind (cmpop S.P o1 a b) fun r => X.bind (truth r) fun t => if t then X.bind z fun d => cmpop S.P o2 b d else X.pure r) := by
  rw [arm_eval_Compare]
  refine hx.bind fun ρ' a v k ha => ?_
  rw [marked2 hm]
  show SM S c ρ' VR (do
    let rv ← holding [v] (eval r1 c.env)
    standAt pos
    let cv ← holding [v, rv] (compareOp o1 v rv)
    release [v, rv] [cv]
    if ← holding [cv, rv] (truthy cv) then compareChain pos rv [o2] [eval r2 c.env] else pure cv) _
  refine (SM.hold (hy.mono k)).bind fun ρ'' b w k' hb => SM.stand ((SM.hold (sm_cmpop hr (ha.mono k') hb)).bind fun ρ₃ q qv k₃ hq => SM.release ((SM.hold (sm_truth hq)).bind fun ρ₄ t t' k₄ ht => ?_))
  subst ht
  cases t
  · exact SM.pure fun ρ₅ k₅ => (hq.mono k₄).mono k₅
  · exact (SM.hold (hz.mono (k.trans (k'.trans (k₃.trans k₄))))).bind fun ρ₅ d dv k₅ hd => (SM.operate (sm_cmpop hr (hb.mono (k₃.trans (k₄.trans k₅))) hd)).stand
theorem cmpop_bool {P : Prog} {op : CmpOp} {a b v : V} {σ σ' : H} (h : cmpop P op a b σ = some (.ok v, σ')) : ∃ q, v = .bool q := by
  unfold cmpop at h
  cases op <;> dsimp only at h
  · obtain ⟨q, _, e⟩ := Option.map_eq_some_iff.mp h; cases e; exact ⟨_, rfl⟩
  · obtain ⟨q, _, e⟩ := Option.map_eq_some_iff.mp h; cases e; exact ⟨_, rfl⟩
  all_goals try (split at h <;> cases h <;> exact ⟨_, rfl⟩)
  all_goals
    rcases X.bind_inv h with ⟨q, σ₁, _, e⟩ | ⟨k, _, e⟩
    · cases e; exact ⟨_, rfl⟩
    · cases e
theorem sm_cmp2_test (hr : Room c) {o1 o2 : CmpOp} {l r1 r2 : Expr} {pos : Pos} {x y z : X V} {whole : Sem Value} (hm : behindInMarks o2 r2 = false) (hx : SM S c ρ VR (eval l c.env) x) (hy : SM S c ρ VR (eval r1 c.env) y) (hz : SM S c ρ VR (eval r2 c.env) z) :
    SM S c ρ EqR (isTrue (.Compare l [o1, o2] [r1, r2] pos) c.env whole) (X.bind (X.bind x fun a => X.bind y fun b => X.bind (cmpop S.P o1 a b) fun r => X.bind (truth r) fun t => if t then X.bind z fun d => cmpop S.P o2 b d else X.pure r) truth) := by
  rw [arm_isTrue_Compare, X.bind_assoc]
  refine hx.bind fun ρ' a v k ha => ?_
  rw [marked2 hm, X.bind_assoc]
  show SM S c ρ' EqR (do
    let rv ← holding [v] (eval r1 c.env)
    standAt pos
    let cv ← holding [v, rv] (compareOp o1 v rv)
    release [v, rv] [cv]
    if ← holding [cv, rv] (truthy cv) then testChain pos rv [o2] [eval r2 c.env] else pure false) _
  refine (SM.hold (hy.mono k)).bind fun ρ'' b w k' hb => SM.stand ?_
  have e : (X.bind (X.bind (cmpop S.P o1 a b) fun r => X.bind (truth r) fun t => if t then X.bind z fun d => cmpop S.P o2 b d else X.pure r) truth) =
      (X.bind (cmpop S.P o1 a b) fun r => X.bind (truth r) fun t => if t then X.bind (X.bind z fun d => cmpop S.P o2 b d) truth else X.pure false) := by
    funext σ
    rw [X.bind_assoc]
    unfold X.bind
    cases hq : cmpop S.P o1 a b σ with
    | none => rfl
    | some p =>
      obtain ⟨q, σ₁⟩ := p
      cases q with
      | err k => rfl
      | ok q =>
        obtain ⟨t, rfl⟩ := cmpop_bool hq
        cases t <;> rfl
  rw [e]
  refine (SM.hold (sm_cmpop hr (ha.mono k') hb)).bind fun ρ₃ q qv k₃ hq => SM.release ((SM.hold (sm_truth hq)).bind fun ρ₄ t t' k₄ ht => ?_)
  subst ht
  cases t
  · exact SM.pure fun ρ₅ k₅ => rfl
  · show SM S c ρ₄ EqR (testChain pos w [o2] [eval r2 c.env]) (X.bind (X.bind z fun d => cmpop S.P o2 b d) truth)
    rw [X.bind_assoc]
    exact (SM.hold (hz.mono (k.trans (k'.trans (k₃.trans k₄))))).bind fun ρ₅ d dv k₅ hd => SM.stand ((SM.operate (sm_cmpop hr (hb.mono (k₃.trans (k₄.trans k₅))) hd)).bind fun _ _ _ _ h => SM.hold (sm_truth h))

theorem sm_list {xs : List Expr} {pos : Pos} {x : X (List V)} (h : SM S c ρ VRs (spliced (backTo pos (starEach xs c.env))) x) : SM S c ρ VR (eval (.List xs pos) c.env) (X.bind x fun vs => alloc (.list vs)) := by
  rw [arm_eval_List]
  exact SM.stand (h.bind fun ρ' vs ws k hw => sm_newList hw)
theorem sm_tup {xs : List Expr} {pos : Pos} {k : Nat} {x : X (List V)} (h : SM S c ρ VRs (spliced (backTo pos (starEach xs c.env))) x) : SM S c ρ VR (eval (.Tuple xs k pos) c.env) (X.bind x fun vs => alloc (.tup vs)) := by
  rw [arm_eval_Tuple]
  exact SM.stand (h.bind fun ρ' vs ws k hw => sm_newTuple hw)
theorem sm_dict0 {pos : Pos} : SM S c ρ VR (eval (.Dict [] [] pos) c.env) (alloc (.dict [])) := by
  refine (sm_newDict (S := S) (c := c) (ρ := ρ)).via fun Q E s h => ?_
  rw [arm_eval_Dict]
  exact wpAny_bind (wpAny_standAt h)
theorem base_of {o : Expr} (h : plainBase o = true) (attr : Str) (env : Env) (whole : Sem Value) : attributeBase o attr env whole = whole := by
  unfold attributeBase
  split
  · cases h
  · rfl
theorem sm_attr (TV : TabOK S) {n : Nat} (K : CtxOK S n c) {e : Expr} {nm : Str} {i : Nat} {pos : Pos} {x : X V} (hn : S.T[i]? = some nm) (hb : plainBase e = true) (hx : SM S c ρ VR (eval e c.env) x) :
    SM S c ρ VR (eval (.Attribute e nm pos) c.env) (X.bind x fun o => getAttr o i) := by
  rw [arm_eval_Attribute, base_of hb]
  refine hx.bind fun ρ' a v k ha => SM.stand ?_
  refine (SM.hold (vs := [v]) (sm_getAttr (ex := true) TV K.kin hn ha)).via fun Q E s h => ?_
  exact wpAny_bind (wpAny_mono h (fun r s' hr => wpAny_bind (wpAny_letTemporaryGo (wpAny_pure hr))) fun _ _ h => h)
theorem sm_sub {e i : Expr} {pos : Pos} {x y : X V} (hi : isSlice i = false) (hx : SM S c ρ VR (eval e c.env) x) (hy : SM S c ρ VR (eval i c.env) y) : SM S c ρ VR (eval (.Subscript e i pos) c.env) (X.bind x fun o => X.bind y fun k => getItem S.P o k) := by
  rw [arm_eval_Subscript]
  refine hx.bind fun ρ' a v k ha => (SM.hold (hy.mono k)).bind fun ρ'' b w k' hb => SM.stand ?_
  refine sm_getItem (value := e) (slice := i) (ha.mono k') hb fun o j => ?_
  cases i <;> first | rfl | cases hi
end Mine

set_option autoImplicit false
namespace Mine
open PySem PySem.W PySem.Calls PyProof.Rows
variable {S : Sig} {c : Cx} {ρ : List Addr}

noncomputable def SC (S : Sig) (c : Cx) (ρ₀ : List Addr) (f : Value) (vs : List Value) (x : X V) : Prop :=
  ∀ (os : List (Addr × Obj)) (σ : H) (s : Shared) (r : R V) (σ' : H), ρ₀ <+: adr os → c.led S os σ s.heap → x σ = some (r, σ') →
    ∀ (R : Result → Shared → Prop),
      (match r with
        | .ok b => ∀ os' h' tk a, adr os <+: adr os' → c.led S os' σ' h' → VR (adr os') b a → R (.ok (.ret a)) { s with heap := h', toks := tk }
        | .err k => ∀ os' h' tk e, adr os <+: adr os' → c.led S os' σ' h' → Fly S c os' e k h' → R (.error e) { s with heap := h', toks := tk }) →
      codeAny (model S.prog S.w) c.A (.call f ⟨vs, []⟩) R s
theorem SC.sm {f : Value} {vs : List Value} {x : X V} (h : SC S c ρ f vs x) : SM S c ρ VR (call f vs) x := by
  intro os σ s r σ' hp hl hx Q E hQ
  refine wpAny_call (h os σ s r σ' hp hl hx _ ?_)
  cases r with
  | ok b => exact hQ
  | err k => exact hQ

structure CallsOK (S : Sig) (C : Calls) (n : Nat) : Prop where
  fn : ∀ {c : Cx} {ρ : List Addr} {f : Nat} {A : Addr} {xs : List V} {vs : List Value}, CtxOK S n c → S.fn f = some A → All2 (VR ρ) xs vs → SC S c ρ (.ref A) vs (C false f xs)
  me : ∀ {c : Cx} {ρ : List Addr} {f : Nat} {A : Addr} {xs : List V} {vs : List Value}, CtxOK S n c → S.me f = some A → All2 (VR ρ) xs vs → SC S c ρ (.ref A) vs (C true f xs)

noncomputable def Kept (S : Sig) (f : Value) : Prop := ∀ h, S.K.In h → ∃ k, (k = Keeper.frame ∨ k = Keeper.machine ∨ k = Keeper.boundFrame) ∧ Looks (model S.prog S.w) h (keeperOf f) k
theorem kept_builtin (id : String) : Kept S (.builtin id) := fun _ _ => ⟨.machine, .inr (.inl rfl), Looks.of_pure rfl⟩
theorem kept_type (id : String) : Kept S (.type id) := fun _ _ => ⟨.machine, .inr (.inl rfl), Looks.of_pure rfl⟩
theorem kept_K {f : Value} (h : keepIn S.K f = true) : Kept S f := fun h' X => keeps_K h h' X

noncomputable def NoStar (xs : List Expr) (env : Env) : Prop := (starEach xs env).all (fun x => !x.1) = true
theorem back_noStar {xs : List Expr} {env : Env} {pos : Pos} (h : NoStar xs env) : (backTo pos (starEach xs env)).any (·.1) = false ∧ (backTo pos (starEach xs env)).all (fun x => !x.1) = true := by
  unfold NoStar at h
  have : ∀ l : List (Bool × Sem Value), l.all (fun x => !x.1) = true → (backTo pos l).any (·.1) = false ∧ (backTo pos l).all (fun x => !x.1) = true := by
    intro l
    induction l with
    | nil => intro _; exact ⟨rfl, rfl⟩
    | cons p r ih =>
      intro h
      obtain ⟨b, t⟩ := p
      simp only [List.all_cons, Bool.and_eq_true] at h
      obtain ⟨i1, i2⟩ := ih h.2
      have hb : b = false := by simpa using h.1
      subst hb
      exact ⟨by show (false || _) = false; rw [Bool.false_or]; exact i1, by show (true && _) = true; rw [Bool.true_and]; exact i2⟩
  exact this _ h

theorem sm_callWith {n : Nat} (K : CtxOK S n c) {xs : List Expr} {pos : Pos} {f : Value} {first : List Value} {β : Type} {RA : List Addr → β → List Value → Prop} {ax : X β} {g : β → X V} (hf : Kept S f) (hs : NoStar xs c.env)
    (ha : SM S c ρ RA (spliced (backTo pos (starEach xs c.env))) ax) (hg : ∀ ρ' vs ws, ρ <+: ρ' → RA ρ' vs ws → SM S c ρ' VR (call f (first ++ ws)) (g vs)) :
    SM S c ρ VR (callWith pos f first (backTo pos (starEach xs c.env)) []) (X.bind ax g) := by
  have hb := back_noStar (pos := pos) hs
  have key : SM S c ρ VR (spliced (backTo pos (starEach xs c.env)) >>= fun vs => call f (first ++ vs)) (X.bind ax g) := ha.bind fun ρ' vs ws k h => hg ρ' vs ws k h
  intro os σ s r σ' hp hl hx Q E hQ
  refine callWith_of (P := S.K.In) (by rw [hb.1]; rfl) hf ?_
  have inner : wpAny (model S.prog S.w) c.A (spliced (backTo pos (starEach xs c.env))) (fun ws s' => S.K.In s'.heap ∧ wpAny (model S.prog S.w) c.A (call f (first ++ ws)) Q E s') E s := by
    rcases X.bind_inv hx with ⟨vs, σ₁, e1, e2⟩ | ⟨k, e1, rfl⟩
    · refine ha os σ s _ _ hp hl e1 _ _ fun os' h' tk ws k l' hr => ⟨K.kin.keeps l'.fr.keep, ?_⟩
      refine hg _ vs ws (hp.trans k) hr os' σ₁ { s with heap := h', toks := tk } r σ' List.prefix_rfl l' e2 Q E ?_
      cases r with
      | ok d => exact fun os'' h'' tk' a' k' l'' hr' => hQ os'' h'' tk' a' (k.trans k') l'' hr'
      | err e => exact fun os'' h'' tk' a' k' l'' hr' => hQ os'' h'' tk' a' (k.trans k') l'' hr'
    · exact ha os σ s _ _ hp hl e1 _ _ hQ
  cases hq : backTo pos (starEach xs c.env) with
  | nil =>
    rw [hq] at inner
    unfold evalArgs
    show wpAny _ _ (spliced [] >>= _) _ _ _
    refine wpAny_bind (wpAny_mono inner (fun vs s' h' => ?_) fun _ _ h => h)
    refine wpAny_bind (wpAny_pure (wpAny_holding ?_))
    exact wpAny_bind (wpAny_pure (wpAny_bind (wpAny_pure (wpAny_pure h'))))
  | cons p rest =>
    obtain ⟨b, t⟩ := p
    have hb' : b = false := by
      have := hb.1; rw [hq, List.any_cons] at this
      exact (Bool.or_eq_false_iff.mp this).1
    subst hb'
    rw [hq] at inner
    exact evalArgs_plain inner

theorem sm_splice {β γ : Type} {x : Sem Value} {rest : List (Bool × Sem Value)} {R1 : List Addr → β → Value → Prop} {R2 : List Addr → γ → List Value → Prop} {ax : X β} {bx : β → X γ} (h1 : SM S c ρ R1 x ax)
    (h2 : ∀ ρ' b v, ρ <+: ρ' → R1 ρ' b v → SM S c ρ' (fun ρ'' g ws => R2 ρ'' g (v :: ws)) (spliced rest) (bx b)) : SM S c ρ R2 (spliced ((false, x) :: rest)) (X.bind ax bx) := by
  intro os σ s r σ' hp hl hx Q E hQ
  refine spliced_cons ?_
  rcases X.bind_inv hx with ⟨b, σ₁, e1, e2⟩ | ⟨k, e1, rfl⟩
  · refine h1 os σ s _ _ hp hl e1 _ _ fun os' h' tk v k l' hr => ?_
    refine h2 _ b v (hp.trans k) hr os' σ₁ { s with heap := h', toks := tk } r σ' List.prefix_rfl l' e2 _ E ?_
    cases r with
    | ok d => exact fun os'' h'' tk' a' k' l'' hr' => hQ os'' h'' tk' (v :: a') (k.trans k') l'' hr'
    | err e => exact fun os'' h'' tk' a' k' l'' hr' => hQ os'' h'' tk' a' (k.trans k') l'' hr'
  · exact h1 os σ s _ _ hp hl e1 _ _ hQ

abbrev veL : List Value := [.type "ValueError", .type "Exception", .type "BaseException", .type "object"]
noncomputable def ExOb (h : Heap) (C : Addr) : Prop := ∃ bm N nm q bs hdct sn sub ab col dd k0 k1 k2 k3 k5 mN, h.get? C = some (excClassObj nm q C N bs bm hdct sn sub ab col dd k0 k1 k2 k3 k5 "ValueError.__new__") ∧ h.Ns N mN ∧ mN "__init__" = none ∧ OwnTail h veL bm
theorem ExOb.keeps {h h' : Heap} {C : Addr} (x : ExOb h C) (k : ∀ b o, h.get? b = some o → h'.get? b = some o) : ExOb h' C := by
  obtain ⟨bm, N, nm, q, bs, hdct, sn, sub, ab, col, dd, k0, k1, k2, k3, k5, mN, h1, h2, h3, h4⟩ := x
  exact ⟨bm, N, nm, q, bs, hdct, sn, sub, ab, col, dd, k0, k1, k2, k3, k5, mN, k _ _ h1, h2.keeps k, h3, h4.keeps k⟩

structure SigOK (S : Sig) : Prop where
  tab : TabOK S
  globs : ∀ i v, S.P.globs.lookup i = some v → ∃ nm x, S.T[i]? = some nm ∧ nsIn S.K mainGlobals nm = some (some x) ∧ ∀ ρ, VR ρ v x
  tabs : S.P.tabs = []
  fns : ∀ i A, S.fn i = some A → ∃ nm, S.T[i]? = some nm ∧ nsIn S.K mainGlobals nm = some (some (.ref A)) ∧ keepIn S.K (.ref A) = true
  bis : ∀ b, nsIn S.K mainGlobals (biName b) = some none
  isi : nsIn S.K mainGlobals "isinstance" = some none
  kls : ∀ k ≤ 4, nsIn S.K mainGlobals (clsName k) = some none
  mes : ∀ i A, S.me i = some A → ∃ nm, S.T[i]? = some nm ∧ i ∉ S.P.attrs ∧ keepIn S.K (.ref A) = true ∧ isFn S.K (.ref A) = true ∧ ∀ k C, S.cls k = some C → plainGet S.K C nm = true ∧ findIn S.K (.ref C) nm = some (some (.ref A))
  cls : ∀ i C, S.cls i = some C → ∃ nm, S.T[i]? = some nm ∧ nsIn S.K mainGlobals nm = some (some (.ref C)) ∧ keepIn S.K (.ref C) = true ∧ makesIn S.K C = true
  init : ∃ fI, S.me S.P.init = some fI ∧ ∀ i C, S.cls i = some C → findIn S.K (.ref C) "__init__" = some (some (.ref fI)) ∧ typeIn S.K (.ref fI) = some (.type "function")
  nApp : S.T[idAppend]? = some ("append" : Str)
  nPop : S.T[idPop]? = some ("pop" : Str)
  nClr : S.T[idClear]? = some ("clear" : Str)
  exs : ∀ i C, S.ex i = some C → ∃ nm, S.T[i]? = some nm ∧ nsIn S.K mainGlobals nm = some (some (.ref C)) ∧ ∀ h, S.K.In h → ExOb h C

theorem bi_boot (b : Bi) : bootBuiltins (biName b) = some (biVal b) := by cases b <;> decide +kernel
theorem cls_boot {k : Nat} (h : k ≤ 4) : bootBuiltins (clsName k) = some (.type (clsName k)) := by
  match k, h with
  | 0, _ => decide +kernel
  | 1, _ => decide +kernel
  | 2, _ => decide +kernel
  | 3, _ => decide +kernel
  | 4, _ => decide +kernel
theorem isi_boot : bootBuiltins "isinstance" = some (.builtin "isinstance") := by decide +kernel
theorem bi_ne (b : Bi) : biName b ≠ "__name__" := by cases b <;> decide +kernel
theorem cls_ne {k : Nat} (h : k ≤ 4) : (clsName k : Str) ≠ "__name__" := by
  match k, h with
  | 0, _ => decide +kernel
  | 1, _ => decide +kernel
  | 2, _ => decide +kernel
  | 3, _ => decide +kernel
  | 4, _ => decide +kernel
theorem kept_bi (b : Bi) : Kept S (biVal b) := by cases b <;> first | exact kept_builtin _ | exact kept_type _

theorem sm_Call {xs : List Expr} {nm : Str} {p pos : Pos} {f : Value} {x : X V} (hn : SM S c ρ (fun _ _ v => v = f) (eval (.Name nm p) c.env) (X.pure V.none))
    (hc : SM S c ρ VR (callWith pos f [] (backTo pos (starEach xs c.env)) []) x) : SM S c ρ VR (eval (.Call (.Name nm p) xs [] pos) c.env) x := by
  have key : SM S c ρ VR (eval (.Name nm p) c.env >>= fun f => callWith pos f [] (backTo pos (starEach xs c.env)) []) (X.bind (X.pure V.none) fun _ => x) :=
    hn.bind fun ρ' _ v k h => by subst h; exact hc.mono k
  rw [X.pure_bind] at key
  exact key.eq (by rw [arm_eval_Call_Name']; rfl)

theorem sm_call {n : Nat} (K : CtxOK S (n + 2) c) (OK : SigOK S) {sc : Scope} (SO : ScOK sc c.env) {C : Calls} (HC : CallsOK S C n) {xs : List Expr} {nm : Str} {p pos : Pos} {f : Nat} {ax : X (List V)} (hn : S.T[f]? = some nm) (hg : isGlob sc nm = true) (hf : (S.fn f).isSome = true)
    (hs : NoStar xs c.env) (ha : SM S c ρ VRs (spliced (backTo pos (starEach xs c.env))) ax) : SM S c ρ VR (eval (.Call (.Name nm p) xs [] pos) c.env) (X.bind ax fun vs => C false f vs) := by
  obtain ⟨A, hA⟩ := Option.isSome_iff_exists.mp hf
  obtain ⟨nm', h1, h2, h3⟩ := OK.fns f A hA
  rw [hn] at h1; cases h1
  have hg' := Bool.and_eq_true_iff.mp hg
  refine sm_Call (f := .ref A) (sm_top K (SO.glob _ (of_decide_eq_true hg'.1)) (by simpa using hg'.2) h2 fun _ => rfl) ?_
  exact sm_callWith K (kept_K h3) hs ha fun ρ' vs ws k h => (HC.fn (K.le (Nat.le_add_right _ _)) hA h).sm
theorem sm_bi {n : Nat} (K : CtxOK S n c) (OK : SigOK S) {sc : Scope} (SO : ScOK sc c.env) {xs : List Expr} {nm : Str} {p pos : Pos} {b : Bi} {ax : X (List V)} (hn : nm = biName b) (hg : isGlob sc nm = true)
    (hs : NoStar xs c.env) (ha : SM S c ρ VRs (spliced (backTo pos (starEach xs c.env))) ax) : SM S c ρ VR (eval (.Call (.Name nm p) xs [] pos) c.env) (X.bind ax fun vs => builtin b vs) := by
  subst hn
  have hg' := Bool.and_eq_true_iff.mp hg
  refine sm_Call (f := biVal b) (sm_boot K (SO.glob _ (of_decide_eq_true hg'.1)) (by simpa using hg'.2) (OK.bis b) (bi_boot b) (bi_ne b) fun _ => rfl) ?_
  exact sm_callWith K (kept_bi b) hs ha fun ρ' vs ws k h => sm_builtin K.hand h
theorem sm_isinst {n : Nat} (K : CtxOK S n c) (OK : SigOK S) {sc : Scope} (SO : ScOK sc c.env) {e : Expr} {cn : Str} {p q pos : Pos} {k : Nat} {x : X V} (hg : isGlob sc "isinstance" = true) (hcg : isGlob sc cn = true) (hk : k ≤ 4) (hcn : cn = (clsName k : Str))
    (hs : NoStar [e, .Name cn q] c.env) (he : starEach [e, .Name cn q] c.env = [(false, eval e c.env), (false, eval (.Name cn q) c.env)]) (hx : SM S c ρ VR (eval e c.env) x) :
    SM S c ρ VR (eval (.Call (.Name "isinstance" p) [e, .Name cn q] [] pos) c.env) (X.bind x fun v => X.bind (isinsts S.P v [k]) fun b => X.pure (.bool b)) := by
  subst hcn
  have hg' := Bool.and_eq_true_iff.mp hg
  have hcg' := Bool.and_eq_true_iff.mp hcg
  refine sm_Call (f := .builtin "isinstance") (sm_boot K (SO.glob _ (of_decide_eq_true hg'.1)) (by simpa using hg'.2) OK.isi isi_boot (by decide +kernel) fun _ => rfl) ?_
  have key : SM S c ρ (fun ρ' v ws => ∃ w, ws = [w, .type (clsName k)] ∧ VR ρ' v w) (spliced (backTo pos (starEach [e, .Name (clsName k) q] c.env))) (X.bind x fun v => X.bind (X.pure V.none) fun _ => X.pure v) := by
    rw [he]
    refine sm_splice hx fun ρ' v w k' hv => ?_
    refine sm_splice (sm_boot (x := V.none) (RV := fun _ _ u => u = .type (clsName k)) K (SO.glob _ (of_decide_eq_true hcg'.1)) (by simpa using hcg'.2) (OK.kls k hk) (cls_boot hk) (cls_ne hk) fun _ => rfl) fun ρ'' _ u k'' hu => ?_
    subst hu
    exact SM.pure fun ρ₃ k₃ => ⟨w, rfl, (hv.mono k'').mono k₃⟩
  refine (sm_callWith (RA := fun ρ' v ws => ∃ w, ws = [w, .type (clsName k)] ∧ VR ρ' v w) (g := fun v => X.bind (isinsts S.P v [k]) fun b => X.pure (.bool b)) K (kept_builtin "isinstance") hs key fun ρ' v ws k' h => ?_).eqx ?_
  · obtain ⟨w, rfl, hw⟩ := h
    exact sm_isi hw hk
  · rw [X.bind_assoc]; rfl
end Mine

set_option autoImplicit false
namespace Mine
open PySem PySem.W PySem.Calls PyProof.Rows
variable {S : Sig} {c : Cx} {ρ : List Addr}

theorem methodCall_of {α : Type} {o : Expr} {name : Str} {apos pos : Pos} {env : Env} {ov : Value} {n : Nat} {args : List (Bool × Sem Value)} {M : Model} {A : Around} {E : Value → Shared → Prop} {s : Shared} {Q : Value → Shared → Prop} {f : Value} {first : List Value}
    (_ : α) (hform : methodCallForm n args [] = true) (hline : (apos.endLine == pos.line) = true)
    (hm : ∀ Q' : Value × List Value → Shared → Prop, Q' (f, first) s → wpAny M A (getMethod ov name (do return (← importBound o env).getD true)) Q' E s)
    (h : wpAny M A (callWith pos f first args []) Q E s) : wpAny M A (methodCall o name apos pos env ov n args []) Q E s := by
  unfold methodCall
  have hpos : methodCallPos true o env apos pos = pure pos := by unfold methodCallPos; simp [hline]
  rw [hform]
  refine wpAny_bind (wpAny_holding ?_)
  show wpAny M A (getMethod ov name _) _ E s
  exact hm _ (wpAny_bind (wpAny_of_eq hpos h))

theorem kdOf_list {v : V} {σ : H} (h : kdOf v σ = .list) : ∃ k xs, v = .ref k ∧ σ.get k = some (.list xs) := by
  unfold kdOf at h
  split at h
  · split at h
    · split at h <;> cases h
    · rename_i e; exact ⟨_, _, rfl, e⟩
    · cases h
    · cases h
  · cases h
  · cases h
theorem kdOf_dict {v : V} {σ : H} (h : kdOf v σ = .dict) : ∃ k xs, v = .ref k ∧ σ.get k = some (.dict xs) := by
  unfold kdOf at h
  split at h
  · split at h
    · split at h <;> cases h
    · cases h
    · rename_i e; exact ⟨_, _, rfl, e⟩
    · cases h
  · cases h
  · cases h
theorem kdOf_inst {v : V} {σ : H} (h : kdOf v σ = .inst) : ∃ k q d es, v = .ref k ∧ σ.get k = some (.inst q d) ∧ σ.get d = some (.attrs es) := by
  unfold kdOf at h
  split at h
  · split at h
    · rename_i e
      split at h
      · rename_i e2; exact ⟨_, _, _, _, rfl, e, e2⟩
      · cases h
    · cases h
    · cases h
    · cases h
  · cases h
  · cases h

theorem sm_meth {n : Nat} (K : CtxOK S (n + 2) c) (OK : SigOK S) {C : Calls} (HC : CallsOK S C n) {o : Expr} {xs : List Expr} {nm : Str} {i : Nat} {apos pos : Pos} {x : X V} {ax : X (List V)} (hn : S.T[i]? = some nm) (hb : plainBase o = true) (hline : (apos.endLine == pos.line) = true)
    (hlen : xs.length < 30) (hi : i ≤ 12 ∨ (S.me i).isSome = true) (hs : NoStar xs c.env) (hx : SM S c ρ VR (eval o c.env) x) (ha : SM S c ρ VRs (spliced (backTo pos (starEach xs c.env))) ax) :
    SM S c ρ VR (eval (.Call (.Attribute o nm apos) xs [] pos) c.env) (X.bind x fun ov => fun h => match kdOf ov h with
      | .inst => if i ≤ 12 then none else X.bind ax (fun vs => C true i (ov :: vs)) h
      | .list => if i = idAppend ∨ i = idPop ∨ i = idClear then X.bind ax (fun vs => listMeth S.P ov i vs) h else none
      | .dict => if i = idPop then X.bind ax (fun vs => dictMeth S.P ov i vs) h else none
      | _ => none) := by
  rw [arm_eval_Call, base_of hb]
  refine hx.bind fun ρ' a v k hv => SM.stand ?_
  show SM S c ρ' VR (methodCall o nm apos pos c.env v (xs.length + 0) (backTo pos (starEach xs c.env)) []) _
  have hform : methodCallForm (xs.length + 0) (backTo pos (starEach xs c.env)) [] = true := by
    unfold methodCallForm
    rw [(back_noStar hs).2]
    simp [hlen]
  have ha' := ha.mono k
  intro os σ s r σ' hp hl he Q E hQ
  cases hk : kdOf a σ with
  | inst =>
    dsimp only at he
    rw [hk] at he
    dsimp only at he
    split at he
    · cases he
    · rename_i hi'
      obtain ⟨A, hA⟩ := Option.isSome_iff_exists.mp (hi.resolve_left hi')
      obtain ⟨nm', h1, h2, h3, h4, h5⟩ := OK.mes i A hA
      rw [hn] at h1; cases h1
      obtain ⟨q, cl, d, es, rfl, e1, e2⟩ := kdOf_inst hk
      obtain ⟨B, o1, rfl, _, _, ⟨Cl, D, hC, hD, rfl⟩, g1, _⟩ := hl.ref hp e1 hv
      obtain ⟨D', o2, _, eD, ⟨es', n', rfl, hes, hz⟩, g2, _⟩ := hl.at e2
      rw [hD] at eD; cases eD
      have I : InstAt s.heap B ⟨.ref Cl, some D, .plain, #[]⟩ Cl (some (dictOf es' n')) := ⟨g1, rfl, rfl, g2⟩
      have hg : getL nm es' = some none := by
        rcases attrs_get OK.tab hn hes with ⟨_, e⟩ | ⟨v', w, e, _, _⟩
        · exact e
        · exact absurd (attrs_mem hes e) h2
      refine methodCall_of () hform hline (fun Q' q' => method_inst hl.fr K.kin I (h5 _ _ hC).1 (h5 _ _ hC).2 h4 hg q') ?_
      exact sm_callWith K (kept_K h3) hs ha' (fun ρ'' vs ws k' h => (HC.me (K.le (Nat.le_add_right _ _)) hA (.cons (hv.mono k') h)).sm) os σ s r σ' hp hl he Q E hQ
  | list =>
    dsimp only at he
    rw [hk] at he
    dsimp only at he
    split at he
    · rename_i hi'
      obtain ⟨q, ys, rfl, e1⟩ := kdOf_list hk
      obtain ⟨B, o1, rfl, _, _, ⟨vs, m, rfl, hvs, _⟩, g1, _⟩ := hl.ref hp e1 hv
      have hT : s.TypeIs (.ref B) "list" := ⟨_, g1, rfl⟩
      have hd : ∀ a, Value.ref B = .ref a → ∃ ob, s.heap.get? a = some ob ∧ ob.dict = none := fun a e => by cases e; exact ⟨_, g1, rfl⟩
      rcases hi' with rfl | rfl | rfl
      · rw [OK.nApp] at hn; cases hn
        refine methodCall_of () hform hline (fun Q' q' => getMethod_builtin hT PySem.F.plainAttrs_list PySem.F.slot_list_append PySem.F.type_list_append hd q') ?_
        exact sm_callWith K (kept_builtin _) hs ha' (fun ρ'' vs ws k' h => sm_append (hv.mono k') h) os σ s r σ' hp hl he Q E hQ
      · rw [OK.nPop] at hn; cases hn
        refine methodCall_of () hform hline (fun Q' q' => getMethod_builtin hT PySem.F.plainAttrs_list PySem.F.slot_list_pop PySem.F.type_list_pop hd q') ?_
        exact sm_callWith K (kept_builtin _) hs ha' (fun ρ'' vs ws k' h => sm_pop (hv.mono k') h) os σ s r σ' hp hl he Q E hQ
      · rw [OK.nClr] at hn; cases hn
        refine methodCall_of () hform hline (fun Q' q' => getMethod_builtin hT PySem.F.plainAttrs_list PySem.F.slot_list_clear PySem.F.type_list_clear hd q') ?_
        exact sm_callWith K (kept_builtin _) hs ha' (fun ρ'' vs ws k' h => sm_clear (hv.mono k') h) os σ s r σ' hp hl he Q E hQ
    · cases he
  | dict =>
    dsimp only at he
    rw [hk] at he
    dsimp only at he
    split at he
    · rename_i hi'
      subst hi'
      obtain ⟨q, ys, rfl, e1⟩ := kdOf_dict hk
      obtain ⟨B, o1, rfl, _, _, ⟨es', m, kvs, rfl, k1, k2, k3, k4, hz⟩, g1, _⟩ := hl.ref hp e1 hv
      have hT : s.TypeIs (.ref B) "dict" := ⟨_, g1, rfl⟩
      have hd : ∀ a, Value.ref B = .ref a → ∃ ob, s.heap.get? a = some ob ∧ ob.dict = none := fun a e => by cases e; exact ⟨_, g1, rfl⟩
      rw [OK.nPop] at hn; cases hn
      refine methodCall_of () hform hline (fun Q' q' => getMethod_builtin hT PySem.F.plainAttrs_dict PySem.F.slot_dict_pop PySem.F.type_dict_pop hd q') ?_
      exact sm_callWith K (kept_builtin _) hs ha' (fun ρ'' vs ws k' h => sm_dpop (hv.mono k') h) os σ s r σ' hp hl he Q E hQ
    · cases he
  | str => dsimp only at he; rw [hk] at he; cases he
  | other => dsimp only at he; rw [hk] at he; cases he

theorem emptyDict_attrs : OR S ρ (.attrs []) emptyDict := ⟨[], 0, rfl, .nil, by decide⟩

theorem CtxOK.under {n : Nat} (K : CtxOK S (n + 2) c) {cd : Code} (hw : cd.weight ≤ 2) (hu : cd.cUnits ≤ 4) (hv : cd.envs = []) : CtxOK S n { c with A := c.A.under cd } := by
  refine ⟨K.hand, ?_, ?_, K.kin, K.top, K.lim, K.kind, K.glob, K.blt, K.locs, by show ∃ l, pushEnvs cd.envs c.A.frames = some l ∧ _; rw [hv]; exact K.frs⟩
  · have := K.units; show c.A.units + cd.cUnits + _ + _ < _; lia
  · have := K.depth; show c.A.depth + cd.weight + _ < _; lia

theorem sm_new {n : Nat} (K : CtxOK S (n + 2) c) (OK : SigOK S) {sc : Scope} (SO : ScOK sc c.env) {C : Calls} (HC : CallsOK S C n) {nm : Str} {p pos : Pos} {f : Nat} (hn : S.T[f]? = some nm) (hg : isGlob sc nm = true) (hf : (S.cls f).isSome = true) :
    SM S c ρ VR (eval (.Call (.Name nm p) [] [] pos) c.env) (X.bind (alloc (.attrs [])) fun d => match d with
    | .ref k => X.bind (alloc (.inst f k)) fun o => X.bind (C true S.P.init [o]) fun r => match r with | .none => X.pure o | _ => X.none
    | _ => X.none) := by
  obtain ⟨Cl, hCl⟩ := Option.isSome_iff_exists.mp hf
  obtain ⟨nm', h1, h2, h3, h4⟩ := OK.cls f Cl hCl
  rw [hn] at h1; cases h1
  obtain ⟨fI, hI, hI'⟩ := OK.init
  have hg' := Bool.and_eq_true_iff.mp hg
  refine sm_Call (f := .ref Cl) (sm_top K (SO.glob _ (of_decide_eq_true hg'.1)) (by simpa using hg'.2) h2 fun _ => rfl) ?_
  generalize hy : (X.bind (alloc (.attrs [])) fun d => match d with
    | .ref k => X.bind (alloc (.inst f k)) fun o => X.bind (C true S.P.init [o]) fun r => match r with | .none => X.pure o | _ => X.none
    | _ => X.none) = y
  refine (sm_callWith (xs := []) (ax := X.pure ()) (RA := fun _ _ ws => ws = []) (g := fun _ => y) K (kept_K h3) (by unfold NoStar; rfl) (SM.pure fun _ _ => rfl) fun ρ' _ ws k hw => ?_).eqx (X.pure_bind () (fun _ => y)).symm
  subst hw hy
  show SM S c ρ' VR (call (.ref Cl) []) _
  intro os σ s r σ' hp hl he Q E hQ
  refine wpAny_call ?_
  obtain ⟨hh, g, d, t, oss⟩ := s
  have KX := K.kin.keeps hl.fr.keep
  refine make_core (makes_of KX h4) (looks_findIn KX (hI' f Cl hCl).1) (fun self => bind_fn KX self (hI' f Cl hCl).2) (.inl rfl) ?_
  have l1 := hl.pushed (o := .attrs []) emptyDict_attrs
  have eD : (adr (os ++ [(hh.objs.size, emptyDict)]))[σ.length]? = some hh.objs.size := by rw [hl.len]; simp [adr]
  have l2 := l1.pushed (x := instObj Cl hh.objs.size) (o := .inst f σ.length) ⟨Cl, hh.objs.size, hCl, eD, rfl⟩
  have hx : (hh.push emptyDict).objs.size = hh.objs.size + 1 := Heap.size_push ..
  have v2 := l1.ref_new (p := ((hh.push emptyDict).objs.size, instObj Cl hh.objs.size))
  have len1 : (σ.push (.attrs [])).length = σ.length + 1 := by simp [H.push]
  have he : X.bind (C true S.P.init [.ref (σ.length + 1)]) (fun r => match r with | .none => X.pure (.ref (σ.length + 1)) | _ => X.none) ((σ.push (.attrs [])).push (.inst f σ.length)) = some (r, σ') := by
    rw [← len1]; exact he
  rw [len1, hx] at v2
  rw [hx] at l2
  have K' : CtxOK S n { c with A := c.A.under (.builtin "type.__call__" ⟨[.ref Cl], []⟩) } := K.under (Nat.le_of_ble_eq_true rfl) (Nat.le_of_ble_eq_true rfl) rfl
  have call := HC.me (c := { c with A := c.A.under (.builtin "type.__call__" ⟨[.ref Cl], []⟩) }) K' hI (All2.one (R := VR (adr (os ++ [(hh.objs.size, emptyDict)] ++ [(hh.objs.size + 1, instObj Cl hh.objs.size)]))) v2)
  rcases X.bind_inv he with ⟨rv, σ₁, e1, e2⟩ | ⟨q, e1, rfl⟩
  · refine call _ _ ⟨(hh.push emptyDict).push (instObj Cl hh.objs.size), g, d, t, oss⟩ _ _ List.prefix_rfl l2 e1 _ fun os' h' tk a k' l' hr => ?_
    cases rv with
    | none =>
      cases e2
      refine ⟨hr, hQ os' h' tk _ ((adr_new.trans adr_new).trans k') l' (v2.mono k')⟩
    | _ => cases e2
  · exact call _ _ ⟨(hh.push emptyDict).push (instObj Cl hh.objs.size), g, d, t, oss⟩ _ _ List.prefix_rfl l2 e1 _ fun os' h' tk e k' l' hr => hQ os' h' tk e ((adr_new.trans adr_new).trans k') l' hr
end Mine

set_option autoImplicit false
namespace Mine
open PySem PySem.W PySem.Calls PyProof.Rows
variable {S : Sig} {c : Cx} {ρ : List Addr}

section
variable {h₀ h h' : Heap} {L : Addr} {m : Str → Option Value} {fs : Fs} {k1 k2 kp os : List (Addr × Obj)} {σ : H} {a I : Addr} {x x' : Obj}

theorem mem_mid {p : Addr × Obj} (hp : p ∈ k1 ++ k2 ++ os) : p ∈ (k1 ++ (a, x) :: k2) ++ os := by
  simp only [List.mem_append, List.mem_cons] at hp ⊢
  rcases hp with (q | q) | q
  · exact .inl (.inl q)
  · exact .inl (.inr (.inr q))
  · exact .inr q
theorem mid_mem {p : Addr × Obj} (hp : p ∈ (k1 ++ (a, x) :: k2) ++ os) : p = (a, x) ∨ p ∈ k1 ++ k2 ++ os := by
  simp only [List.mem_append, List.mem_cons] at hp ⊢
  rcases hp with (q | q | q) | q
  · exact .inr (.inl (.inl q))
  · exact .inl q
  · exact .inr (.inl (.inr q))
  · exact .inr (.inr q)
theorem adr_mid : adr (k1 ++ (a, x) :: k2 ++ os) = adr k1 ++ a :: (adr k2 ++ adr os) := by simp [adr]
theorem Led.kmid (l : Led S h₀ L m fs (k1 ++ (a, x) :: k2) os σ h) : h.get? a = some x ∧ a ≠ L ∧ h₀.get? a = none ∧ (∀ f ∈ fs, f.1 ≠ a) ∧ (∀ p ∈ k1 ++ k2 ++ os, p.1 ≠ a) := by
  have hm : (a, x) ∈ (k1 ++ (a, x) :: k2) ++ os := by simp
  refine ⟨(l.news _ hm).1, (l.news _ hm).2.1, (l.news _ hm).2.2, fun f hf e => (l.outs f hf).2.2.2 (by rw [e]; exact List.mem_map.mpr ⟨_, hm, rfl⟩), fun p hp e => ?_⟩
  have nd := l.nd
  rw [adr_mid] at nd
  obtain ⟨_, n2, n3⟩ := List.nodup_append.mp nd
  rcases List.mem_append.mp hp with hp | hp
  · rcases List.mem_append.mp hp with hp | hp
    · exact n3 p.1 (List.mem_map_of_mem hp) a (.head _) e
    · exact (List.nodup_cons.mp n2).1 (e ▸ List.mem_append_left _ (List.mem_map_of_mem hp))
  · exact (List.nodup_cons.mp n2).1 (e ▸ List.mem_append_right _ (List.mem_map_of_mem hp))
theorem Led.kset (l : Led S h₀ L m fs (k1 ++ (a, x) :: k2) os σ h) (hs : Heap.SameBut a h h') (hx : h'.get? a = some x') : Led S h₀ L m fs (k1 ++ (a, x') :: k2) os σ h' := by
  obtain ⟨g1, g2, g3, g4, g5⟩ := l.kmid
  refine ⟨l.fr.change hs g2 g3, fun p hp => ?_, by have := l.nd; rw [adr_mid] at this ⊢; exact this, l.objs, fun f hf => ?_, l.top, by have := l.big; rw [adr_mid] at this ⊢; exact this, l.frz⟩
  · rcases mid_mem hp with rfl | hp'
    · exact ⟨hx, g2, g3⟩
    · have := l.news p (mem_mid hp')
      exact ⟨(hs.2 _ (g5 p hp')).trans this.1, this.2⟩
  · have := l.outs f hf
    exact ⟨this.1.sameBut hs (g4 f hf), this.2.1, this.2.2.1, by have t := this.2.2.2; rw [adr_mid] at t ⊢; exact t⟩
theorem Led.kdrop (l : Led S h₀ L m fs (k1 ++ (a, x) :: k2) os σ h) : Led S h₀ L m fs (k1 ++ k2) os σ h := by
  have sub : ∀ p, p ∈ k1 ++ k2 ++ os → p ∈ (k1 ++ (a, x) :: k2) ++ os := fun p hp => mem_mid hp
  have suba : ∀ b, b ∈ adr (k1 ++ k2 ++ os) → b ∈ adr ((k1 ++ (a, x) :: k2) ++ os) := fun b hb => by
    obtain ⟨p, hp, rfl⟩ := List.mem_map.mp hb; exact List.mem_map_of_mem (sub p hp)
  refine ⟨l.fr, fun p hp => l.news p (sub p hp), ?_, l.objs, fun f hf => ⟨(l.outs f hf).1, (l.outs f hf).2.1, (l.outs f hf).2.2.1, fun q => (l.outs f hf).2.2.2 (suba _ q)⟩, l.top, fun b hb => l.big b (suba b hb), l.frz⟩
  have nd := l.nd
  refine List.Nodup.sublist ?_ nd
  unfold adr
  refine List.Sublist.map _ ?_
  refine List.Sublist.append_right ?_ _
  exact List.Sublist.append_left (List.sublist_cons_self _ _) _
theorem Led.extBut (l : Led S h₀ L m fs (k1 ++ (a, x) :: k2) os σ h) (hs : Heap.ExtBut a h h') : Led S h₀ L m fs (k1 ++ k2) os σ h' := by
  obtain ⟨g1, g2, g3, g4, g5⟩ := l.kmid
  have l' := l.kdrop
  refine ⟨⟨l'.fr.ns.at' fun o e => hs _ o (Ne.symm g2) e, fun b o e => hs b o (fun q => by rw [q, g3] at e; cases e) (l'.fr.keep b o e), l'.fr.above⟩, fun p hp => ⟨hs _ _ (g5 p hp) (l'.news p hp).1, (l'.news p hp).2⟩, l'.nd, l'.objs,
    fun f hf => ⟨(l'.outs f hf).1.at' fun o e => hs _ o (g4 f hf) e, (l'.outs f hf).2⟩, l'.top, l'.big, l'.frz⟩
theorem Led.knew (l : Led S h₀ L m fs kp os σ h) {q : Addr} (k : ∀ b o, h.get? b = some o → h'.get? b = some o) (hf : h.get? q = none) (hq : mainGlobals < q) (hx : h'.get? q = some x) : Led S h₀ L m fs (kp ++ (q, x) :: []) os σ h' := by
  obtain ⟨q1, q2, q3, q4⟩ := l.free hf
  have l' := l.keep k
  have mem : ∀ p, p ∈ (kp ++ (q, x) :: []) ++ os → p = (q, x) ∨ p ∈ kp ++ os := fun p hp => by
    have := mid_mem hp
    rwa [List.append_nil] at this
  refine ⟨l'.fr, fun p hp => ?_, ?_, l'.objs, fun f hf => ⟨(l'.outs f hf).1, (l'.outs f hf).2.1, (l'.outs f hf).2.2.1, fun hm => ?_⟩, l'.top, fun b hb => ?_, l'.frz⟩
  · rcases mem p hp with rfl | hp
    · exact ⟨hx, q1, q2⟩
    · exact l'.news p hp
  · have nd := l.nd
    unfold adr at nd q3 ⊢
    rw [List.map_append] at nd q3
    obtain ⟨n1, n2, n3⟩ := List.nodup_append.mp nd
    rw [List.append_assoc, List.map_append, List.cons_append, List.nil_append, List.map_cons]
    refine List.nodup_append.mpr ⟨n1, List.nodup_cons.mpr ⟨fun e => q3 (List.mem_append_right _ e), n2⟩, fun b hb d hd e => ?_⟩
    rcases List.mem_cons.mp hd with rfl | hd
    · exact q3 (List.mem_append_left _ (e ▸ hb))
    · exact n3 b hb d hd e
  · obtain ⟨p, hp, e⟩ := List.mem_map.mp hm
    rcases mem p hp with rfl | hp
    · exact q4 f hf e.symm
    · exact (l'.outs f hf).2.2.2 (e ▸ List.mem_map_of_mem hp)
  · obtain ⟨p, hp, rfl⟩ := List.mem_map.mp hb
    rcases mem p hp with rfl | hp
    · exact notMods hq
    · exact l.big _ (List.mem_map_of_mem hp)
theorem Led.kpush (l : Led S h₀ L m fs kp os σ h) (hx : x.isFreed = false) : Led S h₀ L m fs (kp ++ (h.objs.size, x) :: []) os σ (h.push x) :=
  l.knew (fun _ _ e => Heap.get?_push_of_some _ e) (get_size h) l.room (Heap.get?_push_size _ hx)
end

noncomputable def ItAt (h : Heap) (I : Addr) (ρ : List Addr) (v : V) (σ : H) (i : Nat) : Prop := match v with
  | .ref a => ∃ A, ρ[a]? = some A ∧ (match σ.get a with
    | some (.list _) => h.IsListIter I A i
    | some (.tup _) => h.IsTupleIter I A i
    | some (.rng x y z) => IsRangeIter h I (x + (i : Int) * z) (((rangeList x y z).length : Int) - (i : Int)) z
    | _ => False)
  | _ => False
theorem ItAt.at {h h' : Heap} {I : Addr} {ρ ρ' : List Addr} {v : V} {σ σ' : H} {i : Nat} (t : ItAt h I ρ v σ i) (k : ∀ o, h.get? I = some o → h'.get? I = some o) (kρ : ρ <+: ρ') (st : still v σ σ' = true) : ItAt h' I ρ' v σ' i := by
  unfold ItAt at t ⊢
  cases v with
  | ref a =>
    obtain ⟨A, hA, t⟩ := t
    have e : σ'.get a = σ.get a := of_decide_eq_true st
    refine ⟨A, pre_get kρ hA, ?_⟩
    rw [e]
    cases hq : σ.get a with
    | none => rw [hq] at t; exact t
    | some o =>
      rw [hq] at t
      cases o with
      | list xs => obtain ⟨o, q, r⟩ := t; exact ⟨o, k o q, r⟩
      | tup xs => obtain ⟨o, q, r⟩ := t; exact ⟨o, k o q, r⟩
      | rng x y z => exact k _ t
      | _ => exact t
  | _ => exact t

theorem range_len {a b z : Int} (hz : 0 < z) : Builtin.Range.rangeSize a b z = ((rangeList a b z).length : Int) := by
  unfold Builtin.Range.rangeSize rangeList
  rw [if_pos hz, if_pos (show z > 0 from hz), List.length_map, List.length_range]
  split
  · have : 0 ≤ (b - a - 1) / z := Int.ediv_nonneg (by lia) (Int.le_of_lt hz)
    rw [Int.toNat_of_nonneg (by lia)]
  · rfl
theorem range_at {a b z : Int} {i : Nat} {v : V} (hz : 0 < z) (h : ((rangeList a b z).map V.int)[i]? = some v) : v = .int (a + (i : Int) * z) ∧ i < (rangeList a b z).length := by
  unfold rangeList at h ⊢
  rw [if_pos hz] at h ⊢
  simp only [List.map_map, List.getElem?_map] at h
  obtain ⟨k, hk, rfl⟩ := Option.map_eq_some_iff.mp h
  obtain ⟨h1, h2⟩ := List.getElem?_eq_some_iff.mp hk
  simp only [List.getElem_range] at h2
  subst h2
  exact ⟨rfl, by simpa using h1⟩
theorem range_fits {a b z : Int} (ha : small' a = true) (hb : small' b = true) (hc : small' z = true) (hz : 0 < z) : Builtin.Range.small a b z = true := by
  unfold small' at ha hb hc
  simp only [decide_eq_true_eq] at ha hb hc
  have hn : Builtin.Range.rangeFitsLong (Builtin.Range.rangeSize a b z) = true := by
    unfold Builtin.Range.rangeSize Builtin.Range.rangeFitsLong
    rw [if_pos (show z > 0 from hz)]
    split
    · have h1 : 0 ≤ (b - a - 1) / z := Int.ediv_nonneg (by lia) (Int.le_of_lt hz)
      have h2 : (b - a - 1) / z ≤ b - a - 1 := Int.ediv_le_self _ (by lia)
      simp only [Bool.and_eq_true, decide_eq_true_eq]
      lia
    · decide
  unfold Builtin.Range.small
  rw [hn]
  unfold Builtin.Range.rangeFitsLong
  simp only [Bool.and_eq_true, Bool.or_eq_true, decide_eq_true_eq, show z > 0 from hz, if_true]
  refine ⟨⟨⟨⟨⟨?_, ?_⟩, ?_, ?_⟩, ?_, ?_⟩, trivial⟩, .inr ⟨?_, ?_⟩⟩ <;> lia

section
variable {A : Around} {E : Value → Shared → Prop} {s : Shared} {h₀ : Heap} {L : Addr} {m : Str → Option Value} {fs : Fs} {kp k1 k2 os : List (Addr × Obj)} {σ : H}
theorem iter_len (l : Led S h₀ L m fs kp os σ s.heap) {v : V} {vs : List V} (e : iterOf v σ = some vs) : vs.length ≤ lim := by
  unfold iterOf at e
  cases v with
  | ref a =>
    dsimp only at e
    cases hk : σ.get a with
    | none => rw [hk] at e; cases e
    | some o =>
      rw [hk] at e
      obtain ⟨B, o1, _, _, hor, _⟩ := l.at hk
      cases o with
      | list xs => cases e; obtain ⟨_, _, _, _, hz⟩ := hor; exact hz
      | tup xs => cases e; obtain ⟨_, _, _, _, hz⟩ := hor; exact hz
      | rng p q z =>
        dsimp only at e
        split at e
        · rename_i hc
          simp only [Bool.and_eq_true, decide_eq_true_eq] at hc
          cases e
          rw [List.length_map]
          have h1 := range_len (a := p) (b := q) hc.2
          unfold Builtin.Range.rangeSize at h1
          rw [if_pos (show z > 0 from hc.2)] at h1
          split at h1
          · have h2 : (q - p - 1) / z ≤ q - p - 1 := Int.ediv_le_self _ (by lia)
            have := hc.1.2
            lia
          · lia
        · cases e
      | _ => cases e
  | _ => cases e
theorem it_new (l : Led S h₀ L m fs kp os σ s.heap) (hp : ρ <+: adr os) {v : V} {x : Value} {vs : List V} (hx : VR ρ v x) (e : iterOf v σ = some vs) {Q : Value → Shared → Prop}
    (hQ : ∀ I o h', Led S h₀ L m fs (kp ++ (I, o) :: []) os σ h' → ItAt h' I (adr os) v σ 0 → Q (.ref I) { s with heap := h' }) : wpAny (model S.prog S.w) A (pyIter x) Q E s := by
  unfold iterOf at e
  cases v with
  | ref a =>
    dsimp only at e
    cases hk : σ.get a with
    | none => rw [hk] at e; cases e
    | some o =>
      rw [hk] at e
      cases o with
      | list xs =>
        obtain ⟨B, o1, rfl, _, eB, ⟨ws, n, rfl, hws, hz⟩, h1, _⟩ := l.ref hp hk hx
        refine wpAny_pyIter_list (PySem.IsL.isList (n := n) h1) (hQ _ _ _ (l.kpush rfl) ⟨B, eB, ?_⟩)
        rw [hk]
        exact ⟨_, Heap.get?_push_size _ rfl, rfl, rfl⟩
      | tup xs =>
        obtain ⟨B, o1, rfl, _, eB, ⟨ws, n, rfl, hws, hz⟩, h1, _⟩ := l.ref hp hk hx
        refine wpAny_pyIter_tuple ⟨_, h1, rfl, n, rfl⟩ (hQ _ _ _ (l.kpush rfl) ⟨B, eB, ?_⟩)
        rw [hk]
        exact ⟨_, Heap.get?_push_size _ rfl, rfl, rfl⟩
      | rng p q z =>
        obtain ⟨B, o1, rfl, _, eB, ⟨t1, t2, t3, rfl⟩, h1, _⟩ := l.ref hp hk hx
        dsimp only at e
        split at e
        · rename_i hc
          simp only [Bool.and_eq_true, decide_eq_true_eq] at hc
          refine wpAny_pyIter_range h1 (range_fits hc.1.1.1.1 hc.1.1.1.2 hc.1.1.2 hc.2) (hQ _ _ _ (l.kpush rfl) ⟨B, eB, ?_⟩)
          rw [hk]
          dsimp only
          rw [← range_len hc.2]
          have : IsRangeIter (s.heap.push { cls := .type "range_iterator", data := .fields #[rawInt p, rawInt (Builtin.Range.rangeSize p q z), rawInt z] }) s.heap.objs.size p (Builtin.Range.rangeSize p q z) z := Heap.get?_push_size _ rfl
          simpa using this
        · cases e
      | _ => cases e
  | _ => cases e
variable {I : Addr} {o : Obj}
theorem it_next (l : Led S h₀ L m fs (k1 ++ (I, o) :: k2) os σ s.heap) {v : V} {vs : List V} {i : Nat} {y : V} (t : ItAt s.heap I (adr os) v σ i) (e : iterOf v σ = some vs) (hy : vs[i]? = some y) {Q : Option Value → Shared → Prop}
    (hQ : ∀ o' h' tk x, Led S h₀ L m fs (k1 ++ (I, o') :: k2) os σ h' → ItAt h' I (adr os) v σ (i + 1) → VR (adr os) y x → Q (some x) { s with heap := h', toks := tk }) : wpAny (model S.prog S.w) A (pyNext (.ref I)) Q E s := by
  unfold ItAt at t
  unfold iterOf at e
  cases v with
  | ref a =>
    obtain ⟨B, hB, t⟩ := t
    dsimp only at e
    cases hk : σ.get a with
    | none => rw [hk] at e; cases e
    | some ob =>
      rw [hk] at e t
      obtain ⟨B', o1, _, eB, hor, h1, _⟩ := l.at hk
      rw [hB] at eB; cases eB
      cases ob with
      | list xs =>
        cases e
        obtain ⟨ws, n, rfl, hws, hz⟩ := hor
        obtain ⟨x, hx, hr⟩ := hws.get hy
        refine wpAny_pyNext_list_item t (PySem.IsL.isList (n := n) h1) (x := x) (by simpa using hx) fun h' t' hs => ?_
        obtain ⟨o', g1, g2⟩ := id t'
        exact hQ o' h' s.toks x (l.kset hs g1) ⟨B, hB, by rw [hk]; exact t'⟩ hr
      | tup xs =>
        cases e
        obtain ⟨ws, n, rfl, hws, hz⟩ := hor
        obtain ⟨x, hx, hr⟩ := hws.get hy
        refine wpAny_pyNext_tuple_item t ⟨_, h1, rfl, n, rfl⟩ (x := x) (by simpa using hx) fun h' t' hs => ?_
        obtain ⟨o', g1, g2⟩ := id t'
        exact hQ o' h' s.toks x (l.kset hs g1) ⟨B, hB, by rw [hk]; exact t'⟩ hr
      | rng p q z =>
        dsimp only at e
        split at e
        · rename_i hc
          simp only [Bool.and_eq_true, decide_eq_true_eq] at hc
          cases e
          obtain ⟨rfl, hi⟩ := range_at hc.2 hy
          refine wpAny_pyNext_range_item t (by lia) fun h' t' hs => ?_
          refine hQ _ h' _ _ (l.kset hs t') ⟨B, hB, ?_⟩ ⟨_, rfl⟩
          rw [hk]
          dsimp only
          have e1 : p + ((i + 1 : Nat) : Int) * z = p + (i : Int) * z + z := by rw [Int.natCast_add, Int.add_mul]; simp [Int.add_assoc]
          have e2 : ((rangeList p q z).length : Int) - ((i + 1 : Nat) : Int) = ((rangeList p q z).length : Int) - (i : Int) - 1 := by lia
          rw [e1, e2]; exact t'
        · cases e
      | _ => cases e
  | _ => cases e
theorem it_done (hh : A.handled = none) (l : Led S h₀ L m fs (k1 ++ (I, o) :: k2) os σ s.heap) {v : V} {vs : List V} {i : Nat} (t : ItAt s.heap I (adr os) v σ i) (e : iterOf v σ = some vs) (hy : vs[i]? = none) {Q : Option Value → Shared → Prop}
    (hQ : ∀ h', Led S h₀ L m fs (k1 ++ k2) os σ h' → Q none { s with heap := h' }) : wpAny (model S.prog S.w) A (pyNext (.ref I)) Q E s := by
  unfold ItAt at t
  unfold iterOf at e
  cases v with
  | ref a =>
    obtain ⟨B, hB, t⟩ := t
    dsimp only at e
    cases hk : σ.get a with
    | none => rw [hk] at e; cases e
    | some ob =>
      rw [hk] at e t
      obtain ⟨B', o1, _, eB, hor, h1, _⟩ := l.at hk
      rw [hB] at eB; cases eB
      cases ob with
      | list xs =>
        cases e
        obtain ⟨ws, n, rfl, hws, hz⟩ := hor
        refine wpAny_pyNext_list_end hh t (PySem.IsL.isList (n := n) h1) ?_ fun h' hs => hQ h' (l.extBut hs)
        have := hws.length
        rw [List.getElem?_eq_none_iff] at hy
        simp; lia
      | tup xs =>
        cases e
        obtain ⟨ws, n, rfl, hws, hz⟩ := hor
        refine wpAny_pyNext_tuple_end hh t ⟨_, h1, rfl, n, rfl⟩ ?_ fun h' hs => hQ h' (l.extBut hs)
        have := hws.length
        rw [List.getElem?_eq_none_iff] at hy
        simp; lia
      | rng p q z =>
        dsimp only at e
        split at e
        · rename_i hc
          cases e
          rw [List.getElem?_eq_none_iff, List.length_map] at hy
          exact wpAny_pyNext_range_end hh t (by lia) fun h' hs => hQ h' (l.extBut hs)
        · cases e
      | _ => cases e
  | _ => cases e
end
end Mine

set_option autoImplicit false
namespace Mine
open PySem PySem.W PySem.Calls PyProof.Rows
variable {S : Sig} {c : Cx} {ρ : List Addr}

section
variable {h₀ h h' : Heap} {L C : Addr} {m mC : Str → Option Value} {fs : Fs} {kp os : List (Addr × Obj)} {σ : H}
theorem none_above (l : Fr h₀ L h m) : h₀.get? L = none := by
  cases e : h₀.get? L with
  | none => rfl
  | some o => exact absurd (Heap.lt_size e) (Nat.not_lt.mpr l.above)
theorem Led.enter (l : Led S h₀ L m fs kp os σ h) (ns : h'.Ns C mC) (k : ∀ b o, h.get? b = some o → h'.get? b = some o) (hC : h.get? C = none) (hle : h.objs.size ≤ C) : Led S h₀ C mC ((L, m) :: fs) kp os σ h' := by
  have l' := l.keep k
  have ne : ∀ {b : Addr} {o : Obj}, h.get? b = some o → b ≠ C := fun e q => by rw [q, hC] at e; cases e
  obtain ⟨oL, es, ep, hL, _⟩ := id l.fr.ns
  have above : h₀.objs.size ≤ C := Nat.le_trans l.fr.above (Nat.le_trans (Nat.le_of_lt (Heap.lt_size hL)) hle)
  refine ⟨⟨ns, l'.fr.keep, above⟩, fun p hp => ⟨(l'.news p hp).1, ne (l.news p hp).1, (l'.news p hp).2.2⟩, l'.nd, l'.objs, fun f hf => ?_, l'.top, l'.big, l'.frz⟩
  rcases List.mem_cons.mp hf with rfl | hf
  · refine ⟨l'.fr.ns, ne hL, none_above l.fr, fun q => ?_⟩
    obtain ⟨p, hp, e⟩ := List.mem_map.mp q
    exact (l.news p hp).2.1 e
  · obtain ⟨of, _, _, hf', _⟩ := (l.outs f hf).1
    exact ⟨(l'.outs f hf).1, ne hf', (l'.outs f hf).2.2⟩
theorem Led.leave (l : Led S h₀ C mC ((L, m) :: fs) kp os σ h) (ab : h₀.objs.size ≤ L) (ne : ∀ f ∈ fs, f.1 ≠ L) (hs : ∀ b o, b ≠ C → h.get? b = some o → h'.get? b = some o) : Led S h₀ L m fs kp os σ h' := by
  have hL := l.outs _ (.head _)
  have nC := none_above l.fr
  refine ⟨⟨hL.1.at' fun o e => hs _ o hL.2.1 e, fun b o e => hs b o (fun q => by rw [q, nC] at e; cases e) (l.fr.keep b o e), ab⟩,
    fun p hp => ⟨hs _ _ (l.news p hp).2.1 (l.news p hp).1, fun q => hL.2.2.2 (List.mem_map.mpr ⟨p, hp, q⟩), (l.news p hp).2.2⟩, l.nd, l.objs, fun f hf => ?_, l.top, l.big, l.frz⟩
  have hF := l.outs f (.tail _ hf)
  exact ⟨hF.1.at' fun o e => hs _ o hF.2.1 e, ne f hf, hF.2.2⟩
theorem Led.lset (l : Led S h₀ L m fs kp os σ h) (hn : h'.Ns L mC) (hs : Heap.SameBut L h h') : Led S h₀ L mC fs kp os σ h' :=
  ⟨l.fr.set hn hs, fun p hp => ⟨(hs.2 _ (l.news p hp).2.1).trans (l.news p hp).1, (l.news p hp).2⟩, l.nd, l.objs, fun f hf => ⟨(l.outs f hf).1.sameBut hs (l.outs f hf).2.1, (l.outs f hf).2⟩, l.top, l.big, l.frz⟩
theorem Led.kmove {D : Addr} {x : Obj} {o : O} (l : Led S h₀ L m fs (kp ++ (D, x) :: []) os σ h) (hr : OR S (adr os) o x) : Led S h₀ L m fs kp (os ++ [(D, x)]) (σ.push o) h := by
  have hk := l.kmid
  rw [List.append_nil] at hk
  have l' := l.kdrop
  rw [List.append_nil] at l'
  have pf : adr os <+: adr (os ++ [(D, x)]) := adr_new
  have adk : adr (kp ++ (os ++ [(D, x)])) = adr (kp ++ os) ++ [D] := by simp [adr]
  refine ⟨l.fr, fun p hp => ?_, ?_, (l.objs.mono fun _ _ e => e.mono S pf).append (.one (hr.mono S pf)), fun f hf => ⟨(l'.outs f hf).1, (l'.outs f hf).2.1, (l'.outs f hf).2.2.1, ?_⟩, l.top, ?_, l.frz.1.trans (List.prefix_append _ _), l.frz.2⟩
  · rw [← List.append_assoc] at hp
    rcases List.mem_append.mp hp with hp | hp
    · exact l'.news p hp
    · rw [List.mem_singleton.mp hp]; exact ⟨hk.1, hk.2.1, hk.2.2.1⟩
  · rw [adk]
    refine List.nodup_append.mpr ⟨l'.nd, by simp, fun b hb d hd e => ?_⟩
    rw [List.mem_singleton.mp hd] at e
    obtain ⟨p, hp, rfl⟩ := List.mem_map.mp hb
    exact hk.2.2.2.2 p hp e
  · rw [adk]
    intro hm
    rcases List.mem_append.mp hm with hm | hm
    · exact (l'.outs f hf).2.2.2 hm
    · exact hk.2.2.2.1 f hf (List.mem_singleton.mp hm)
  · rw [adk]
    intro b hb
    rcases List.mem_append.mp hb with hb | hb
    · exact l'.big b hb
    · rw [List.mem_singleton.mp hb]
      exact l.big D (List.mem_map.mpr ⟨(D, x), by simp, rfl⟩)
end

theorem lookup_relabel {env : Env} : ∀ {names : List (Str × NameKind)} {x : Str},
    (names.map fun (n, k) => if (k == NameKind.free && env.scope.kind == .function && env.kindOf n == some .cell) then (n, NameKind.cell) else (n, k)).lookup x = (names.lookup x).map fun k => if (k == NameKind.free && env.scope.kind == .function && env.kindOf x == some .cell) then NameKind.cell else k
  | [], _ => rfl
  | (n, k) :: r, x => by
    have ih := @lookup_relabel env r x
    show List.lookup x ((if (k == NameKind.free && env.scope.kind == .function && env.kindOf n == some .cell) = true then (n, NameKind.cell) else (n, k)) :: _) = _
    cases hx : x == n with
    | true =>
      have hxn : x = n := beq_iff_eq.mp hx
      subst hxn
      split <;> simp_all [List.lookup_cons]
    | false =>
      split <;> simp only [List.lookup_cons, hx] <;> exact ih

theorem closure_of {env : Env} {sc' : Scope} (h : ∀ x ∈ sc'.names, x.2 = .free → ∃ a, env.cells.lookup x.1 = some a) :
    ∃ cl, closureFor sc' env = pure cl ∧ ∀ nm, sc'.names.lookup nm = some .free → cl.lookup nm = env.cells.lookup nm := by
  have key : ∀ (l : List (Str × NameKind)) (cs : List (Str × Addr)), (∀ x ∈ l, x.2 = .free → ∃ a, env.cells.lookup x.1 = some a) → (∀ p ∈ cs, env.cells.lookup p.1 = some p.2) →
      ∃ cl, (forIn l cs fun x r => (do
        let (name, kind) := x
        if kind == .free then do
          let y ← cellOf env name
          pure (ForInStep.yield ((name, y) :: r))
        else pure (ForInStep.yield r) : Sem (ForInStep (List (Str × Addr))))) = pure cl ∧ (∀ p ∈ cl, env.cells.lookup p.1 = some p.2) ∧ (∀ p ∈ cs, p ∈ cl) ∧ ∀ x ∈ l, x.2 = .free → ∃ a, (x.1, a) ∈ cl := by
    intro l
    induction l with
    | nil => intro cs _ h2; exact ⟨cs, rfl, h2, fun p hp => hp, fun x hx => nomatch hx⟩
    | cons y r ih =>
      intro cs h1 h2
      obtain ⟨n, k⟩ := y
      rw [List.forIn_cons]
      by_cases hk : k = .free
      · subst hk
        obtain ⟨a, ha⟩ := h1 _ (.head _) rfl
        dsimp only at ha
        obtain ⟨cl, e1, e2, e3, e4⟩ := ih ((n, a) :: cs) (fun x hx => h1 x (.tail _ hx)) (fun p hp => by
          rcases List.mem_cons.mp hp with rfl | hp
          · exact ha
          · exact h2 p hp)
        refine ⟨cl, ?_, e2, fun p hp => e3 p (.tail _ hp), fun x hx hf => ?_⟩
        · have : cellOf env n = pure a := by unfold cellOf; rw [ha]
          simp only [beq_self_eq_true, if_true, this]
          exact e1
        · rcases List.mem_cons.mp hx with rfl | hx
          · exact ⟨a, e3 _ (.head _)⟩
          · exact e4 x hx hf
      · obtain ⟨cl, e1, e2, e3, e4⟩ := ih cs (fun x hx => h1 x (.tail _ hx)) h2
        refine ⟨cl, ?_, e2, e3, fun x hx hf => ?_⟩
        · have : (k == NameKind.free) = false := by simpa using hk
          simp only [this, Bool.false_eq_true, if_false]
          exact e1
        · rcases List.mem_cons.mp hx with rfl | hx
          · exact absurd hf hk
          · exact e4 x hx hf
  obtain ⟨cl, e1, e2, _, e4⟩ := key sc'.names [] h (fun p hp => nomatch hp)
  refine ⟨cl, ?_, fun nm hn => ?_⟩
  · unfold closureFor
    refine Eq.trans (congrArg (fun t => t >>= fun r => pure r) (?_ : _ = forIn sc'.names ([] : List (Str × Addr)) _)) (by rw [e1]; rfl)
    congr 1
  · obtain ⟨a, ha⟩ := e4 (nm, .free) (PySem.mem_of_lookup hn) rfl
    cases hq : cl.lookup nm with
    | none =>
      rw [List.lookup_eq_none_iff] at hq
      have := hq _ ha
      simp at this
    | some b => rw [e2 (nm, b) (PySem.mem_of_lookup hq)]
end Mine

set_option autoImplicit false
namespace Mine
open PySem PySem.W PySem.Calls PyProof.Rows
variable {S : Sig} {c : Cx} {ρ : List Addr}

abbrev condTree (ifs : List Expr) (env : Env) : Sem Bool := forIn ifs true fun c r => if r = true then do let ok ← isTrue c env (eval c env); pure (ForInStep.yield ok) else pure (ForInStep.yield r)

theorem it_self {A : Around} {E : Value → Shared → Prop} {s : Shared} {I : Addr} {v : V} {σ : H} {i : Nat} {Q : Value → Shared → Prop} (t : ItAt s.heap I ρ v σ i) (h : Q (.ref I) s) : wpAny (model S.prog S.w) A (pyIter (.ref I)) Q E s := by
  unfold ItAt at t
  cases v with
  | ref a =>
    obtain ⟨B, _, t⟩ := t
    cases hk : σ.get a with
    | none => rw [hk] at t; exact t.elim
    | some o =>
      rw [hk] at t
      cases o with
      | list xs => exact wpAny_pyIter_listiter t h
      | tup xs => exact wpAny_pyIter_tupleiter t h
      | rng a b z => exact wpAny_pyIter_rangeiter t h
      | _ => exact t.elim
  | _ => exact t.elim

theorem still_iter {v : V} {σ σ' : H} (h : still v σ σ' = true) : iterOf v σ' = iterOf v σ := by
  unfold iterOf
  cases v with
  | ref a => have e : σ'.get a = σ.get a := of_decide_eq_true h; dsimp only; rw [e]
  | _ => rfl
theorem still_refl (v : V) (σ : H) : still v σ σ = true := by cases v <;> simp [still]
theorem still_sym {v : V} {σ σ' : H} (h : still v σ σ' = true) : still v σ' σ = true := by cases v <;> simp_all [still]
theorem still_trans {v : V} {σ σ' σ'' : H} (h : still v σ σ' = true) (h' : still v σ' σ'' = true) : still v σ σ'' = true := by cases v <;> simp_all [still]

noncomputable def rpre (l : List V) : R (List V) → R (List V)
  | .ok ws => .ok (l ++ ws)
  | .err k => .err k

structure CompOK (S : Sig) (sc sc' : Scope) (env : Env) (nm : Str) : Prop where
  kind : sc'.kind = .function
  cells : ∀ x ∈ sc'.names, x.2 ≠ .cell
  locs : ∀ x ∈ sc'.names, x.2 = .local → sc'.names.lookup x.1 = some .local
  only : ∀ x ∈ sc'.names, x.2 = .local → x.1 = nm ∨ x.1 ∉ S.T
  free : ∀ x ∈ sc'.names, x.2 = .free → isCell sc x.1 = true
  own : sc'.names.lookup nm = some .local
theorem compOK {sc sc' : Scope} {env : Env} {nm : Str} (h : compScope S.nam sc sc' nm = true) : CompOK S sc sc' env nm := by
  unfold compScope at h
  simp only [Bool.and_eq_true, decide_eq_true_eq, List.all_eq_true, Bool.or_eq_true, Bool.not_eq_true', decide_eq_false_iff_not] at h
  obtain ⟨⟨h1, h2⟩, h3⟩ := h
  refine ⟨h1, fun x hx => (h2 x hx).1.1, fun x hx e => ?_, fun x hx e => ?_, fun x hx e => ?_, h3⟩
  · rcases (h2 x hx).1.2 with q | q
    · exact absurd e q
    · exact q.1
  · rcases (h2 x hx).1.2 with q | q
    · exact absurd e q
    · rcases q.2 with q | q
      · exact .inl q
      · refine .inr fun hm => ?_
        have : S.nam.T.contains x.1 = true := List.contains_iff_mem.mpr hm
        rw [this] at q; cases q
  · rcases (h2 x hx).2 with q | q
    · exact absurd e q
    · exact q

theorem isCell_in {sc : Scope} {nm : Str} (h : isCell sc nm = true) : inScope sc nm = true := by
  unfold isCell at h
  unfold inScope
  split at h <;> first | rename_i e; rw [e] | cases h

section
variable {n : Nat} {sc sc' : Scope} {nm : Str} {cl : List (Str × Addr)} {C : Addr} {m' : Str → Option Value} {kp' : List (Addr × Obj)}
abbrev compCx (c : Cx) (sc' : Scope) (cl : List (Str × Addr)) (C : Addr) (m' : Str → Option Value) (kp' : List (Addr × Obj)) : Cx := ⟨c.A, compEnvC sc' cl C c.env, c.h₀, C, m', (c.L, c.m) :: c.fs, kp'⟩
theorem comp_ctx (K : CtxOK S n c) (O : CompOK S sc sc' c.env nm) : CtxOK S n (compCx c sc' cl C m' kp') :=
  ⟨K.hand, K.units, K.depth, K.kin, K.top, K.lim, O.kind, K.glob, K.blt, rfl, let ⟨l, h1, h2⟩ := K.frs; ⟨l, h1, fun e he => let ⟨g1, b, g2, g3⟩ := h2 e he; ⟨g1, b, g2, .tail _ g3⟩⟩⟩
theorem comp_sc (SO : ScOK sc c.env) (O : CompOK S sc sc' c.env nm) (hcl : ∀ nm, sc'.names.lookup nm = some .free → cl.lookup nm = c.env.cells.lookup nm) : ScOK sc' (compEnvC sc' cl C c.env) := by
  have look : ∀ x, (compEnvC sc' cl C c.env).kindOf x = (sc'.names.lookup x).map fun k => if (k == NameKind.free && c.env.scope.kind == .function && c.env.kindOf x == some .cell) then NameKind.cell else k := fun x => lookup_relabel
  refine ⟨fun x h => ?_, fun x h => ?_, fun x h => ?_⟩
  · rw [look, h]; rfl
  · rw [look, h]; rfl
  · unfold isCell at h
    split at h
    · rename_i e; exact absurd rfl (O.cells _ (PySem.mem_of_lookup e))
    · rename_i e
      refine ⟨?_, ?_⟩
      · rw [look, e]
        simp only [Option.map_some]
        split
        · exact .inl rfl
        · exact .inr rfl
      · show ∃ a, cl.lookup x = some a
        rw [hcl x e]
        exact (SO.cell x (O.free _ (PySem.mem_of_lookup e) rfl)).2
    · cases h
theorem comp_vars (SO : ScOK sc c.env) (O : CompOK S sc sc' c.env nm) (nd : S.T.Nodup) (hcl : ∀ nm, sc'.names.lookup nm = some .free → cl.lookup nm = c.env.cells.lookup nm) {loc : Loc} (Vs : VarsOK S c sc ρ loc) {i : Nat} (hn : S.T[i]? = some nm)
    {v : V} {x : Value} {ρ' : List Addr} (k : ρ <+: ρ') (hv : VR ρ' v x) (hm : m' nm = some x) (hk : ∀ p ∈ c.kp, p ∈ kp') : VarsOK S (compCx c sc' cl C m' kp') sc' ρ' (loc.upd i v) := by
  intro j w nmj hj hT hin
  have SO' := comp_sc (C := C) SO O hcl
  unfold inScope at hin
  split at hin
  · rename_i e
    have hmem := PySem.mem_of_lookup e
    rcases O.only _ hmem rfl with q | q
    · dsimp only at q
      subst q
      have hji : j = i := (List.getElem?_inj (List.getElem?_eq_some_iff.mp hT).1 nd).mp (hT.trans hn.symm)
      subst hji
      simp only [Loc.upd, beq_self_eq_true, cond_true] at hj
      cases hj
      exact ⟨x, .inl ⟨SO'.loc _ e, hm⟩, hv⟩
    · exact absurd (List.mem_of_getElem? hT) q
  · rename_i e; exact absurd rfl (O.cells _ (PySem.mem_of_lookup e))
  · rename_i e
    have hji : j ≠ i := fun q => by
      subst q; rw [hT] at hn; cases hn; rw [O.own] at e; cases e
    simp only [Loc.upd, beq_eq_false_iff_ne.mpr hji, cond_false] at hj
    have hc := O.free _ (PySem.mem_of_lookup e) rfl
    obtain ⟨y, h1, h2⟩ := Vs j w nmj hj hT (isCell_in hc)
    have hk' := (SO.cell nmj hc).1
    rcases h1 with ⟨q, _⟩ | ⟨_, a, o, q1, q2, q3⟩
    · rw [q] at hk'; rcases hk' with q | q <;> cases q
    · exact ⟨y, .inr ⟨(SO'.cell nmj (by unfold isCell; rw [e])).1, a, o, by show cl.lookup nmj = some a; rw [hcl nmj e]; exact q1, hk _ q2, q3⟩, h2.mono k⟩
  · cases hin
end

theorem comp_core {n : Nat} (K : CtxOK S n c) {sc sc' : Scope} (SO : ScOK sc c.env) {loc : Loc} (Vs : VarsOK S c sc ρ loc) (nd : S.T.Nodup) {i : Nat} {nm : Str} {px pos : Pos} {ite elt : Expr} {ifs : List Expr}
    (hn : S.T[i]? = some nm) (O : CompOK S sc sc' c.env nm) {cl : List (Str × Addr)} (hcl : ∀ nm, sc'.names.lookup nm = some .free → cl.lookup nm = c.env.cells.lookup nm) {t : Loc → X Bool} {e : Loc → X V}
    (ht : ∀ (c' : Cx) (ρ' : List Addr) (loc' : Loc), CtxOK S n c' → ScOK sc' c'.env → VarsOK S c' sc' ρ' loc' → SM S c' ρ' EqR (condTree ifs c'.env) (t loc'))
    (he : ∀ (c' : Cx) (ρ' : List Addr) (loc' : Loc), CtxOK S n c' → ScOK sc' c'.env → VarsOK S c' sc' ρ' loc' → SM S c' ρ' VR (eval elt c'.env) (e loc'))
    {os : List (Addr × Obj)} {σ σ' : H} {s : Shared} {v : V} {x : Value} {vs : List V} {r : R (List V)} (hp : ρ <+: adr os) (hl : c.led S os σ s.heap) (hv : VR (adr os) v x) (hi : iterOf v σ = some vs)
    (hL : compL v [i] false t e loc σ vs σ = some (r, σ')) {use : Option (Value → Sem Unit)} {Q : Value → Shared → Prop} {E : Value → Shared → Prop}
    (fin : ∀ ws, r = .ok ws → ∀ (os' : List (Addr × Obj)) (h' : Heap) (tk : Nat) (C : Addr) (mC : Str → Option Value) (D : Addr) (ys : List Value) (k : Nat), adr os <+: adr os' → Led S c.h₀ C mC ((c.L, c.m) :: c.fs) (c.kp ++ (D, W.listOf (List.toArray ys) k) :: []) os' σ' h' →
      All2 (VR (adr os')) ws ys → compPost (model S.prog S.w) c.A E use Q (.ref D) C (.ok .next) { s with heap := h', toks := tk }) :
    wpAny (model S.prog S.w) c.A (pyIter x) (fun it s₂ => wpAny (model S.prog S.w) c.A (newList []) (fun acc s₃ => wpAny (model S.prog S.w) c.A (newFunctionEnv sc' c.env.globals cl [] c.env.qual none .none (some c.env)) (fun cenv s₄ =>
      codeAny (model S.prog S.w) c.A (.compStart (.ListComp elt [⟨.Name nm px, ite, ifs, 0⟩] sc' pos) 0 it acc { cenv with scope := relabel sc' c.env }) (compPost (model S.prog S.w) c.A E use Q acc cenv.locals) s₄) E s₃) E s₂) E s := by
  refine it_new hl List.prefix_rfl hv hi fun I o₀ h₁ l₁ it₁ => ?_
  refine wpAny_newObj_type (wpAny_newFunctionEnv O.cells (by intro y hy; simp at hy) (fun h₂ hns hsb => ?_) O.kind)
  dsimp only at hns hsb ⊢
  have l₂ := l₁.kpush (x := { cls := .type "list", dict := none, data := .seq ([] : List Value).toArray }) rfl
  generalize hH2 : h₁.push { cls := .type "list", dict := none, data := .seq ([] : List Value).toArray } = H2 at hns hsb l₂ ⊢
  have hold : ∀ b ob, H2.get? b = some ob → h₂.get? b = some ob := fun b ob q => hsb.extBut b ob (Nat.ne_of_lt (Heap.lt_size q)) (Heap.get?_push_of_some _ q)
  have l₃ := l₂.enter hns hold (get_size H2) (Nat.le_refl _)
  have it₃ : ItAt h₂ I (adr os) v σ 0 := it₁.at (fun ob q => hold _ _ (hH2 ▸ Heap.get?_push_of_some _ q)) List.prefix_rfl (still_refl v σ)
  generalize hC : H2.objs.size = C at hns hsb l₃ ⊢
  generalize hD : h₁.objs.size = D at l₃ ⊢
  have hle : c.h₀.objs.size ≤ C := l₃.fr.above
  let cenv := compEnvC sc' cl C c.env
  have loop : ∀ s₃ : Shared, s₃ = { s with heap := h₂, toks := s.toks + ([] : List (Str × Value)).length } →
      codeAny (model S.prog S.w) c.A (.compLoop (.ListComp elt [⟨.Name nm px, ite, ifs, 0⟩] sc' pos) 0 (.ref I) (.ref D) cenv) (compPost (model S.prog S.w) c.A E use Q (.ref D) C) s₃ := by
    rintro s₃ rfl
    refine codeAny_compLoop_tests (fun k s' => ∃ h' tk os' σ₁ mC o ys kk done j r', s' = { s with heap := h', toks := tk } ∧ adr os <+: adr os' ∧
        Led S c.h₀ C mC ((c.L, c.m) :: c.fs) (c.kp ++ (I, o) :: (D, W.listOf (List.toArray ys) kk) :: []) os' σ₁ h' ∧ ItAt h' I (adr os') v σ₁ j ∧ still v σ σ₁ = true ∧ All2 (VR (adr os')) done ys ∧
        compL v [i] false t e loc σ (vs.drop j) σ₁ = some (r', σ') ∧ r = rpre done r' ∧ done.length ≤ j ∧ j ≤ vs.length ∧ k = vs.length + 1 - j) ?_ (vs.length + 1)
      ⟨h₂, s.toks, os, σ, _, o₀, [], 0, [], 0, r, rfl, List.prefix_rfl, by simpa using l₃, it₃, still_refl v σ, .nil, by simpa using hL, by cases r <;> rfl, Nat.zero_le _, Nat.zero_le _, rfl⟩
    rintro k s' ⟨h', tk, os', σ₁, mC, o, ys, kk, done, j, r', rfl, kp', l', it', st, hdone, hL', hr, hdl, hj, rfl⟩
    have hi' : iterOf v σ₁ = some vs := (still_iter st).trans hi
    cases hvj : vs[j]? with
    | none =>
      have hjv : vs.length ≤ j := List.getElem?_eq_none_iff.mp hvj
      rw [List.drop_eq_nil_of_le hjv] at hL'
      cases hL'
      refine it_done K.hand l' it' hi' hvj fun h₄ l₄ => ?_
      have hr' : r = .ok done := by rw [hr]; simp [rpre]
      exact fin done hr' os' h₄ tk C mC D ys kk kp' l₄ hdone
    | some y =>
      obtain ⟨hjl, hjy⟩ := List.getElem?_eq_some_iff.mp hvj
      rw [List.drop_eq_getElem_cons hjl, hjy] at hL'
      unfold compL at hL'
      have hb : bindTg [i] false y loc σ₁ = some (loc.upd i y) := rfl
      rw [hb] at hL'
      dsimp only at hL'
      refine it_next l' it' hi' hvj fun o' h₄ tk₄ xv l₄ it₄ hxv => ?_
      refine wpAny_assign_Name (wpAny_storeName_local (env := cenv) (lookup_relabel_local O.own) l₄.fr.ns (fun h₅ hn₅ hs₅ => ?_) (by show (sc'.kind == .class || (sc'.kind == .module && _)) = false; rw [O.kind]; rfl))
      have l₅ := l₄.lset hn₅ hs₅
      have hIL : I ≠ C := (l₄.news (I, o') (by simp)).2.1
      have it₅ := it₄.at (fun ob q => (hs₅.2 _ hIL).trans q) List.prefix_rfl (still_refl v σ₁)
      let c' := compCx c sc' cl C (fun z => if z = nm then some xv else mC z) (c.kp ++ (I, o') :: (D, W.listOf (List.toArray ys) kk) :: [])
      have K' : CtxOK S n c' := comp_ctx K O
      have S' : ScOK sc' c'.env := comp_sc SO O hcl
      have V' : VarsOK S c' sc' (adr os') (loc.upd i y) := comp_vars SO O nd hcl Vs hn (hp.trans kp') hxv (by simp) (fun p hp => List.mem_append_left _ hp)
      have T' := ht c' (adr os') (loc.upd i y) K' S' V'
      have E' := he c' (adr os') (loc.upd i y) K' S' V'
      cases hq : t (loc.upd i y) σ₁ with
      | none => rw [hq] at hL'; cases hL'
      | some p =>
        obtain ⟨tr, σ₂⟩ := p
        rw [hq] at hL'
        cases tr with
        | err q => cases hL'
        | ok b =>
          refine T' os' σ₁ { s with heap := h₅, toks := tk₄ + 1 } _ _ List.prefix_rfl l₅ hq _ _ fun os₆ h₆ tk₆ b' k₆ l₆ hb' => ?_
          subst hb'
          have memI : ∀ {hh : Heap} {oo : List (Addr × Obj)} {ss : H}, Cx.led S c' oo ss hh → hh.get? I = some o' := fun l => (l.news (I, o') (by simp [c'])).1
          cases b with
          | false =>
            dsimp only at hL'
            simp only [Bool.false_eq_true, if_false]
            split at hL'
            · rename_i hst
              refine ⟨vs.length + 1 - (j + 1), by lia, h₆, tk₆, os₆, σ₂, _, o', ys, kk, done, j + 1, r', rfl, kp'.trans k₆, l₆, it₅.at (fun ob q => ?_) k₆ (still_trans (still_sym st) hst), hst, VRs.mono k₆ hdone, hL', hr, by lia, hjl, rfl⟩
              rw [memI l₅] at q; cases q; exact memI l₆
            · cases hL'
          | true =>
            dsimp only at hL'
            simp only [if_true]
            cases hq₂ : e (loc.upd i y) σ₂ with
            | none => rw [hq₂] at hL'; cases hL'
            | some p₂ =>
              obtain ⟨er, σ₃⟩ := p₂
              rw [hq₂] at hL'
              cases er with
              | err q => cases hL'
              | ok w =>
                refine E' os₆ σ₂ { s with heap := h₆, toks := tk₆ } _ _ k₆ l₆ hq₂ _ _ fun os₇ h₇ tk₇ wv k₇ l₇ hwv => ?_
                dsimp only at hL'
                split at hL'
                · rename_i hst
                  have hrest : ∃ r'', compL v [i] false t e loc σ (vs.drop (j + 1)) σ₃ = some (r'', σ') ∧ r' = rpre [w] r'' := by
                    split at hL'
                    · cases hL'
                    · cases hL'
                    · rename_i ws σ₄ hq₃; cases hL'; exact ⟨.ok ws, hq₃, rfl⟩
                  obtain ⟨r'', hL'', hr''⟩ := hrest
                  have hD' : h₇.get? D = some (W.listOf (List.toArray ys) kk) := (l₇.news (D, W.listOf (List.toArray ys) kk) (by simp [c'])).1
                  have hlen : ys.length ≤ lim := by
                    have h1 := hdone.length
                    have h2 := iter_len (s := { s with heap := h' }) l' hi'
                    lia
                  refine append_at hD' (fun h₈ hs₈ hx₈ => ?_) (by rw [List.size_toArray]; exact Nat.le_trans hlen lim_le)
                  have l₇' : Led S c.h₀ C (fun z => if z = nm then some xv else mC z) ((c.L, c.m) :: c.fs) ((c.kp ++ (I, o') :: []) ++ (D, W.listOf (List.toArray ys) kk) :: []) os₇ σ₃ h₇ := by simpa using l₇
                  have l₈ := l₇'.kset hs₈ hx₈
                  have hID : I ≠ D := by
                    have := l₇'.kmid.2.2.2.2 (I, o') (by simp)
                    exact this
                  refine ⟨vs.length + 1 - (j + 1), by lia, h₈, tk₇, os₇, σ₃, _, o', ys ++ [wv], kk + 1, done ++ [w], j + 1, r'', rfl, kp'.trans (k₆.trans k₇), by simpa using l₈, it₅.at (fun ob q => ?_) (k₆.trans k₇) (still_trans (still_sym st) hst), hst,
                    (VRs.mono (k₆.trans k₇) hdone).append (.one hwv), hL'', ?_, by simp; exact hdl, hjl, rfl⟩
                  · rw [memI l₅] at q; cases q; exact (hs₈.2 _ hID).trans (memI l₇)
                  · rw [hr, hr'']; cases r'' <;> simp [rpre]
                · cases hL'
  exact codeAny_compStart_list (loop _ rfl) (it_self (S := S) it₃ (loop _ rfl))
end Mine

set_option autoImplicit false
namespace Mine
open PySem PySem.W PySem.Calls PyProof.Rows
variable {S : Sig} {c : Cx} {ρ : List Addr}

theorem not_set {e : Expr} (h : isSet e = false) (env : Env) (x : Value) : foldedSetIterable e env x = pure x := by
  cases e <;> first | rfl | cases h

section
variable {n : Nat} {sc sc' : Scope} {loc : Loc} {i : Nat} {nm : Str} {px pos : Pos} {ite elt : Expr} {ifs : List Expr} {t : Loc → X Bool} {e : Loc → X V}

theorem comp_run (K : CtxOK S n c) (SO : ScOK sc c.env) (Vs : VarsOK S c sc ρ loc) (nd : S.T.Nodup) (hn : S.T[i]? = some nm) (hsc : compScope S.nam sc sc' nm = true) (hset : isSet ite = false) {xi : X V} (hit : SM S c ρ VR (eval ite c.env) xi)
    (ht : ∀ (c' : Cx) (ρ' : List Addr) (loc' : Loc), CtxOK S n c' → ScOK sc' c'.env → VarsOK S c' sc' ρ' loc' → SM S c' ρ' EqR (condTree ifs c'.env) (t loc'))
    (he : ∀ (c' : Cx) (ρ' : List Addr) (loc' : Loc), CtxOK S n c' → ScOK sc' c'.env → VarsOK S c' sc' ρ' loc' → SM S c' ρ' VR (eval elt c'.env) (e loc'))
    {os : List (Addr × Obj)} {σ σ' : H} {s : Shared} {r : R V} (hp : ρ <+: adr os) (hl : c.led S os σ s.heap)
    (hx : X.bind xi (fun v => fun h => match iterOf v h with | none => none | some vs => X.bind (compL v [i] false t e loc h vs) (fun ws => alloc (.list ws)) h) σ = some (r, σ'))
    {use : Option (Value → Sem Unit)} {Q : Value → Shared → Prop} {E : Value → Shared → Prop}
    (fin : ∀ b, r = .ok b → ∀ (os' : List (Addr × Obj)) (h' : Heap) (tk : Nat) (C : Addr) (mC : Str → Option Value) (D : Addr), adr os <+: adr os' → Led S c.h₀ C mC ((c.L, c.m) :: c.fs) c.kp os' σ' h' → VR (adr os') b (.ref D) →
      compPost (model S.prog S.w) c.A E use Q (.ref D) C (.ok .next) { s with heap := h', toks := tk })
    (finE : ∀ k, r = .err k → ∀ (os' : List (Addr × Obj)) (h' : Heap) (tk : Nat) (e : Value), adr os <+: adr os' → c.led S os' σ' h' → Fly S c os' e k h' → E e { s with heap := h', toks := tk }) :
    wpAny (model S.prog S.w) c.A (comprehension (.ListComp elt [⟨.Name nm px, ite, ifs, 0⟩] sc' pos) sc' c.env (firstIterPos [⟨.Name nm px, ite, ifs, 0⟩] pos) (newList []) false (eval ite c.env) use) Q E s := by
  have O : CompOK S sc sc' c.env nm := compOK hsc
  obtain ⟨cl, hclos, hcl⟩ := closure_of (env := c.env) (sc' := sc') fun x hx hf => (SO.cell x.1 (O.free x hx hf)).2
  refine wpAny_comprehension_free (use := use) rfl (not_set hset c.env) hclos O.kind O.locs ?_
  rcases X.bind_inv hx with ⟨v, σ₁, e1, e2⟩ | ⟨k, e1, rfl⟩
  · refine hit os σ s _ _ hp hl e1 _ _ fun os₁ h₁ tk₁ xv k₁ l₁ hv => ?_
    cases hi : iterOf v σ₁ with
    | none => rw [hi] at e2; cases e2
    | some vs =>
      rw [hi] at e2
      dsimp only at e2
      rcases X.bind_inv e2 with ⟨ws, σ₂, e3, e4⟩ | ⟨k, e3, rfl⟩
      · refine comp_core K SO (Vs.mono (hp.trans k₁)) nd hn O hcl ht he (s := { s with heap := h₁, toks := tk₁ }) List.prefix_rfl l₁ hv hi e3 fun ws' hw os' h' tk C mC D ys kk k' l' hys => ?_
        cases hw
        unfold alloc at e4
        split at e4
        · rename_i hok
          cases e4
          have hok : ws.length ≤ lim := of_decide_eq_true hok
          have l'' := l'.kmove (o := .list ws) ⟨ys, kk, rfl, hys, hok⟩
          have hv' : VR (adr (os' ++ [(D, W.listOf (List.toArray ys) kk)])) (.ref σ₂.length) (.ref D) := by
            refine ⟨D, ?_, rfl⟩
            rw [l'.len]; simp [adr]
          exact fin _ rfl _ _ _ _ _ _ (k₁.trans (k'.trans adr_new)) l'' hv'
        · cases e4
      · exact comp_core K SO (Vs.mono (hp.trans k₁)) nd hn O hcl ht he (s := { s with heap := h₁, toks := tk₁ }) List.prefix_rfl l₁ hv hi e3 fun ws' hw => by cases hw
  · exact hit os σ s _ _ hp hl e1 _ _ fun os' h' tk e k' l' f => finE k rfl os' h' tk e k' l' f

theorem sm_comp (K : CtxOK S n c) (SO : ScOK sc c.env) (Vs : VarsOK S c sc ρ loc) (nd : S.T.Nodup) (hn : S.T[i]? = some nm) (hsc : compScope S.nam sc sc' nm = true) (hset : isSet ite = false) {xi : X V} (hit : SM S c ρ VR (eval ite c.env) xi)
    (ht : ∀ (c' : Cx) (ρ' : List Addr) (loc' : Loc), CtxOK S n c' → ScOK sc' c'.env → VarsOK S c' sc' ρ' loc' → SM S c' ρ' EqR (condTree ifs c'.env) (t loc'))
    (he : ∀ (c' : Cx) (ρ' : List Addr) (loc' : Loc), CtxOK S n c' → ScOK sc' c'.env → VarsOK S c' sc' ρ' loc' → SM S c' ρ' VR (eval elt c'.env) (e loc')) :
    SM S c ρ VR (eval (.ListComp elt [⟨.Name nm px, ite, ifs, 0⟩] sc' pos) c.env)
      (X.bind xi fun v => fun h => match iterOf v h with | none => none | some vs => X.bind (compL v [i] false t e loc h vs) (fun ws => alloc (.list ws)) h) := by
  intro os σ s r σ' hp hl hx Q E hQ
  rw [arm_eval_ListComp]
  refine comp_run K SO Vs nd hn hsc hset hit ht he hp hl hx (use := none) (fun b hb os' h' tk C mC D k l hv => ?_) fun k hk => by subst hk; exact hQ
  subst hb
  refine ⟨mC, l.fr.ns, fun h'' hs => ?_⟩
  exact hQ os' h'' tk _ k (l.leave hl.fr.above (fun f hf => (hl.outs f hf).2.1) hs.extBut) hv
end

theorem star_cons {N : Nam} {sc : Scope} {x : Ex} {e : Expr} (h : ckE N sc x e = true) (rest : List Expr) (env : Env) : starEach (e :: rest) env = (false, eval e env) :: starEach rest env := by
  cases e <;> first | rfl | (cases x <;> exact nomatch (show false = true from h))
theorem noStar_of {N : Nam} {sc : Scope} {env : Env} : ∀ {es : Exs} {xs : List Expr}, ckEs N sc es xs = true → NoStar xs env
  | .nil, [], _ => rfl
  | .cons e es, x :: xs, h => by
    have h := (Bool.and_eq_true _ _).mp (show (ckE N sc e x && ckEs N sc es xs) = true from h)
    unfold NoStar
    rw [star_cons h.1, List.all_cons]
    have := noStar_of (env := env) h.2
    unfold NoStar at this
    rw [this]; rfl
  | .nil, _ :: _, h => nomatch (show false = true from h)
  | .cons _ _, [], h => nomatch (show false = true from h)

theorem sm_slice' {e : Expr} {l u : Option Expr} {p pos : Pos} {x lo hi : X V} (hx : SM S c ρ VR (eval e c.env) x) (hlo : SM S c ρ VR (valueOrNone (evalOpt l c.env)) lo) (hhi : SM S c ρ VR (valueOrNone (evalOpt u c.env)) hi) :
    SM S c ρ VR (eval (.Subscript e (.Slice l u none p) pos) c.env) (X.bind x fun o => X.bind lo fun a => X.bind hi fun b => getSlice o a b) := by
  rw [arm_eval_Subscript]
  refine hx.bind fun ρ' a v k ha => ?_
  have hlo' := hlo.mono k
  have hhi' := hhi.mono k
  intro os σ s r σ' hp hl he Q E hQ
  rw [arm_eval_Slice]
  refine wpAny_bind (wpAny_holding (wpAny_bind ?_))
  rcases X.bind_inv he with ⟨la, σ₁, e1, e2⟩ | ⟨q, e1, rfl⟩
  · refine hlo' os σ s _ _ hp hl e1 _ _ fun os₁ h₁ tk₁ lv k₁ l₁ hlv => wpAny_bind (wpAny_holding ?_)
    rcases X.bind_inv e2 with ⟨ua, σ₂, e3, e4⟩ | ⟨q, e3, rfl⟩
    · refine hhi' os₁ σ₁ { s with heap := h₁, toks := tk₁ } _ _ (hp.trans k₁) l₁ e3 _ _ fun os₂ h₂ tk₂ uv k₂ l₂ huv => wpAny_bind (wpAny_holding (wpAny_pure ?_))
      refine wpAny_mono (sm_slice (value := e) (slice := .Slice l u none p) (ρ := adr os₂) (ha.mono (hp.trans (k₁.trans k₂))) (hlv.mono k₂) huv (fun o i => rfl) (s := { s with heap := h₂, toks := tk₂ }) List.prefix_rfl l₂ e4
        (Q := Q) (E := E) fun b hb os₃ h₃ tk₃ av k₃ l₃ hav => ?_) (fun i s' h => wpAny_bind (wpAny_standAt h)) fun _ _ h => h
      subst hb
      exact hQ os₃ h₃ tk₃ av (k₁.trans (k₂.trans k₃)) l₃ hav
    · exact hhi' os₁ σ₁ { s with heap := h₁, toks := tk₁ } _ _ (hp.trans k₁) l₁ e3 _ _ fun os₂ h₂ tk₂ e k₂ l₂ f => hQ os₂ h₂ tk₂ e (k₁.trans k₂) l₂ f
  · exact hlo' os σ s _ _ hp hl e1 _ _ hQ
end Mine

set_option autoImplicit false
namespace Mine
open PySem PySem.W PySem.Calls PyProof.Rows
variable {N : Nam} {sc : Scope}
theorem and_t {a b : Bool} (h : (a && b) = true) : a = true ∧ b = true := (Bool.and_eq_true a b).mp h
theorem not_t {a : Bool} (h : (!a) = true) : a = false := (Bool.not_eq_true' a).mp h
theorem dec_t {p : Prop} [Decidable p] (h : decide p = true) : p := of_decide_eq_true h
theorem one_eq {α : Type} {l : List α} {a : α} (h : one l = some a) : l = [a] := by
  match l, h with
  | [b], h => cases h; rfl
theorem two_eq {α : Type} {l : List α} {a b : α} (h : two l = some (a, b)) : l = [a, b] := by
  match l, h with
  | [c, d], h => cases h; rfl
theorem nil_eq {α : Type} {l : List α} (h : nil? l = true) : l = [] := by
  cases l with
  | nil => rfl
  | cons _ _ => cases h
theorem exsNil_eq {l : Exs} (h : exsNil l = true) : l = .nil := by
  cases l with
  | nil => rfl
  | cons _ _ => cases h
noncomputable def rebE (n : Nat) (e : Expr) : Expr := match n with
  | 19 => .Constant (ptE e).cst (ptE e).k (ptE e).pos
  | 23 => .Name (ptE e).nm (ptE e).pos
  | 2 => .BinOp (ptE e).x (ptE e).bop (ptE e).y (ptE e).pos
  | 3 => .UnaryOp (ptE e).uop (ptE e).x (ptE e).pos
  | 0 => .BoolOp (ptE e).lop (ptE e).xs (ptE e).pos
  | 15 => .Compare (ptE e).x (ptE e).cops (ptE e).xs (ptE e).pos
  | 24 => .List (ptE e).xs (ptE e).pos
  | 25 => .Tuple (ptE e).xs (ptE e).k (ptE e).pos
  | 6 => .Dict (ptE e).ds (ptE e).xs (ptE e).pos
  | 20 => .Attribute (ptE e).x (ptE e).nm (ptE e).pos
  | 21 => .Subscript (ptE e).x (ptE e).y (ptE e).pos
  | 26 => .Slice (ptE e).lo (ptE e).hi (ptE e).st (ptE e).pos
  | 16 => .Call (ptE e).x (ptE e).xs (ptE e).kws (ptE e).pos
  | 8 => .ListComp (ptE e).x (ptE e).gs (ptE e).sc (ptE e).pos
  | _ => e
theorem exp_all (e : Expr) : e = rebE (tagE e) e := by cases e <;> rfl
theorem exp_of {e : Expr} {n : Nat} (h : isT e n = true) : e = rebE n e := by
  have h2 := exp_all e
  rw [dec_t h] at h2
  exact h2
theorem t_const {e : Expr} (h : isT e 19 = true) : e = .Constant (ptE e).cst (ptE e).k (ptE e).pos := exp_of h
theorem t_name {e : Expr} (h : isT e 23 = true) : e = .Name (ptE e).nm (ptE e).pos := exp_of h
theorem t_bin {e : Expr} (h : isT e 2 = true) : e = .BinOp (ptE e).x (ptE e).bop (ptE e).y (ptE e).pos := exp_of h
theorem t_un {e : Expr} (h : isT e 3 = true) : e = .UnaryOp (ptE e).uop (ptE e).x (ptE e).pos := exp_of h
theorem t_bool {e : Expr} (h : isT e 0 = true) : e = .BoolOp (ptE e).lop (ptE e).xs (ptE e).pos := exp_of h
theorem t_cmp {e : Expr} (h : isT e 15 = true) : e = .Compare (ptE e).x (ptE e).cops (ptE e).xs (ptE e).pos := exp_of h
theorem t_list {e : Expr} (h : isT e 24 = true) : e = .List (ptE e).xs (ptE e).pos := exp_of h
theorem t_tup {e : Expr} (h : isT e 25 = true) : e = .Tuple (ptE e).xs (ptE e).k (ptE e).pos := exp_of h
theorem t_dict {e : Expr} (h : isT e 6 = true) : e = .Dict (ptE e).ds (ptE e).xs (ptE e).pos := exp_of h
theorem t_attr {e : Expr} (h : isT e 20 = true) : e = .Attribute (ptE e).x (ptE e).nm (ptE e).pos := exp_of h
theorem t_sub {e : Expr} (h : isT e 21 = true) : e = .Subscript (ptE e).x (ptE e).y (ptE e).pos := exp_of h
theorem t_slice {e : Expr} (h : isT e 26 = true) : e = .Slice (ptE e).lo (ptE e).hi (ptE e).st (ptE e).pos := exp_of h
theorem t_call {e : Expr} (h : isT e 16 = true) : e = .Call (ptE e).x (ptE e).xs (ptE e).kws (ptE e).pos := exp_of h
theorem t_comp {e : Expr} (h : isT e 8 = true) : e = .ListComp (ptE e).x (ptE e).gs (ptE e).sc (ptE e).pos := exp_of h
theorem callN_eq {e : Expr} (h : isCallN e = true) : ∃ q p, e = .Call (.Name (cN e) q) (cA e) [] p := by
  obtain ⟨h1, h2⟩ := and_t h
  obtain ⟨h2, h3⟩ := and_t h2
  refine ⟨(ptE (ptE e).x).pos, (ptE e).pos, ?_⟩
  have e1 := t_call h1
  rw [nil_eq h2, t_name h3] at e1
  exact e1
theorem isC_none {v : Const} (h : isC .none v = true) : v = .none := by cases v <;> first | rfl | cases h
theorem isC_bool {b : Bool} {v : Const} (h : isC (.bool b) v = true) : v = .bool b := by
  cases v <;> first | (rw [eq_of_beq (show (b == _) = true from h)]) | cases h
theorem isC_int {b : Int} {v : Const} (h : isC (.int b) v = true) : v = .int b := by
  cases v <;> first | (rw [dec_t (show decide (b = _) = true from h)]) | cases h
theorem isC_str {b : Str} {v : Const} (h : isC (.str b) v = true) : v = .str b ∧ okS b = true := by
  cases v <;> first | (obtain ⟨h1, h2⟩ := and_t (show (decide (b = _) && okS b) = true from h); obtain rfl := dec_t h1; exact ⟨rfl, h2⟩) | cases h
theorem ck_cnone  {e : Expr} (h : ckE N sc (.cnone) e = true) : ∃ k p, e = .Constant .none k p := by
  obtain ⟨h1, h2⟩ := and_t (show (_ && _) = true from h)
  exact ⟨_, _, by rw [← isC_none h2] <;> exact t_const h1⟩
theorem ck_cbool {b : Bool} {e : Expr} (h : ckE N sc (.cbool b) e = true) : ∃ k p, e = .Constant (.bool b) k p := by
  obtain ⟨h1, h2⟩ := and_t (show (_ && _) = true from h)
  exact ⟨_, _, by rw [← isC_bool h2] <;> exact t_const h1⟩
theorem ck_cint {i : Int} {e : Expr} (h : ckE N sc (.cint i) e = true) : ∃ k p, e = .Constant (.int i) k p := by
  obtain ⟨h1, h2⟩ := and_t (show (_ && _) = true from h)
  exact ⟨_, _, by rw [← isC_int h2] <;> exact t_const h1⟩
theorem ck_cstr {s : Str} {e : Expr} (h : ckE N sc (.cstr s) e = true) : ∃ k p, e = .Constant (.str s) k p ∧ okS s = true := by
  obtain ⟨h1, h2⟩ := and_t (show (_ && _) = true from h)
  exact ⟨_, _, by rw [← (isC_str h2).1] <;> exact t_const h1, (isC_str h2).2⟩
theorem ck_loc {i : Nat} {e : Expr} (h : ckE N sc (.loc i) e = true) : ∃ nm p, e = .Name nm p ∧ nameIs N i nm = true ∧ inScope sc nm = true ∧ (nm == ("__debug__" : Str)) = false ∧ (nm == ("__classdict__" : Str)) = false := by
  obtain ⟨h1, h2⟩ := and_t (show (_ && _) = true from h)
  obtain ⟨g1, r1⟩ := and_t h2
  obtain ⟨g2, r2⟩ := and_t r1
  obtain ⟨g3, g4⟩ := and_t r2
  exact ⟨_, _, t_name h1, g1, g2, not_t g3, not_t g4⟩
theorem ck_glo {i : Nat} {e : Expr} (h : ckE N sc (.glo i) e = true) : ∃ nm p, e = .Name nm p ∧ nameIs N i nm = true ∧ isGlob sc nm = true := by
  obtain ⟨h1, h2⟩ := and_t (show (_ && _) = true from h)
  obtain ⟨g1, g2⟩ := and_t h2
  exact ⟨_, _, t_name h1, g1, g2⟩
theorem ck_bin {op : PySem.Operator} {a b : Ex} {e : Expr} (h : ckE N sc (.bin op a b) e = true) : ∃ l r p, e = .BinOp l op r p ∧ ckE N sc a l = true ∧ ckE N sc b r = true := by
  obtain ⟨h1, h2⟩ := and_t (show (_ && _) = true from h)
  obtain ⟨g1, r1⟩ := and_t h2
  obtain ⟨g2, g3⟩ := and_t r1
  exact ⟨_, _, _, by rw [dec_t g1] <;> exact t_bin h1, g2, g3⟩
theorem ck_neg {a : Ex} {e : Expr} (h : ckE N sc (.neg a) e = true) : ∃ l p, e = .UnaryOp .USub l p ∧ ckE N sc a l = true := by
  obtain ⟨h1, h2⟩ := and_t (show (_ && _) = true from h)
  obtain ⟨g1, g2⟩ := and_t h2
  exact ⟨_, _, by rw [← dec_t g1] <;> exact t_un h1, g2⟩
theorem ck_not {a : Ex} {e : Expr} (h : ckE N sc (.not a) e = true) : ∃ l p, e = .UnaryOp .Not l p ∧ ckE N sc a l = true := by
  obtain ⟨h1, h2⟩ := and_t (show (_ && _) = true from h)
  obtain ⟨g1, g2⟩ := and_t h2
  exact ⟨_, _, by rw [← dec_t g1] <;> exact t_un h1, g2⟩
theorem ck_band {es : Exs} {e : Expr} (h : ckE N sc (.band es) e = true) : ∃ l p, e = .BoolOp .And l p ∧ ckEs N sc es l = true := by
  obtain ⟨h1, h2⟩ := and_t (show (_ && _) = true from h)
  obtain ⟨g1, g2⟩ := and_t h2
  exact ⟨_, _, by rw [← dec_t g1] <;> exact t_bool h1, g2⟩
theorem ck_bor {es : Exs} {e : Expr} (h : ckE N sc (.bor es) e = true) : ∃ l p, e = .BoolOp .Or l p ∧ ckEs N sc es l = true := by
  obtain ⟨h1, h2⟩ := and_t (show (_ && _) = true from h)
  obtain ⟨g1, g2⟩ := and_t h2
  exact ⟨_, _, by rw [← dec_t g1] <;> exact t_bool h1, g2⟩
theorem ck_cmp {op : CmpOp} {a b : Ex} {e : Expr} (h : ckE N sc (.cmp op a b) e = true) : ∃ l r p, e = .Compare l [op] [r] p ∧ behindInMarks op r = false ∧ ckE N sc a l = true ∧ ckE N sc b r = true := by
  obtain ⟨h1, h2⟩ := and_t (show (_ && _) = true from h)
  obtain ⟨o, h3, h2⟩ := onO_eq h2
  obtain ⟨r, h4, h2⟩ := onO_eq h2
  obtain ⟨g1, r1⟩ := and_t h2
  obtain ⟨g2, r2⟩ := and_t r1
  obtain ⟨g3, g4⟩ := and_t r2
  obtain rfl := dec_t g1
  exact ⟨_, _, _, by rw [← one_eq h3, ← one_eq h4] <;> exact t_cmp h1, not_t g2, g3, g4⟩
theorem ck_cmp2 {o1 o2 : CmpOp} {a b d : Ex} {e : Expr} (h : ckE N sc (.cmp2 o1 o2 a b d) e = true) : ∃ l r1 r2 p, e = .Compare l [o1, o2] [r1, r2] p ∧ behindInMarks o2 r2 = false ∧ ckE N sc a l = true ∧ ckE N sc b r1 = true ∧ ckE N sc d r2 = true := by
  obtain ⟨h1, h2⟩ := and_t (show (_ && _) = true from h)
  obtain ⟨⟨p1, p2⟩, h3, h2⟩ := onO_eq h2
  obtain ⟨⟨r1, r2⟩, h4, h2⟩ := onO_eq h2
  obtain ⟨g1, r1⟩ := and_t h2
  obtain ⟨g2, r2⟩ := and_t r1
  obtain ⟨g3, r3⟩ := and_t r2
  obtain ⟨g4, r4⟩ := and_t r3
  obtain ⟨g5, g6⟩ := and_t r4
  obtain rfl := dec_t g1
  obtain rfl := dec_t g2
  exact ⟨_, _, _, _, by rw [← two_eq h3, ← two_eq h4] <;> exact t_cmp h1, not_t g3, g4, g5, g6⟩
theorem ck_list {es : Exs} {e : Expr} (h : ckE N sc (.list es) e = true) : ∃ l p, e = .List l p ∧ ckEs N sc es l = true := by
  obtain ⟨h1, h2⟩ := and_t (show (_ && _) = true from h)
  exact ⟨_, _, t_list h1, h2⟩
theorem ck_tup {es : Exs} {e : Expr} (h : ckE N sc (.tup es) e = true) : ∃ l k p, e = .Tuple l k p ∧ ckEs N sc es l = true := by
  obtain ⟨h1, h2⟩ := and_t (show (_ && _) = true from h)
  exact ⟨_, _, _, t_tup h1, h2⟩
theorem ck_dict {ks vs : Exs} {e : Expr} (h : ckE N sc (.dict ks vs) e = true) : ∃ p, e = .Dict [] [] p ∧ ks = .nil ∧ vs = .nil := by
  obtain ⟨h1, h2⟩ := and_t (show (_ && _) = true from h)
  obtain ⟨g1, r1⟩ := and_t h2
  obtain ⟨g2, r2⟩ := and_t r1
  obtain ⟨g3, g4⟩ := and_t r2
  exact ⟨_, by rw [← nil_eq g3, ← nil_eq g4] <;> exact t_dict h1, exsNil_eq g1, exsNil_eq g2⟩
theorem ck_attr {a : Ex} {n : Nat} {e : Expr} (h : ckE N sc (.attr a n) e = true) : ∃ l nm p, e = .Attribute l nm p ∧ nameIs N n nm = true ∧ plainBase l = true ∧ ckE N sc a l = true := by
  obtain ⟨h1, h2⟩ := and_t (show (_ && _) = true from h)
  obtain ⟨g1, r1⟩ := and_t h2
  obtain ⟨g2, g3⟩ := and_t r1
  exact ⟨_, _, _, t_attr h1, g1, g2, g3⟩
theorem ck_sub {a i : Ex} {e : Expr} (h : ckE N sc (.sub a i) e = true) : ∃ l r p, e = .Subscript l r p ∧ isSlice r = false ∧ ckE N sc a l = true ∧ ckE N sc i r = true := by
  obtain ⟨h1, h2⟩ := and_t (show (_ && _) = true from h)
  obtain ⟨g1, r1⟩ := and_t h2
  obtain ⟨g2, g3⟩ := and_t r1
  exact ⟨_, _, _, t_sub h1, not_t g1, g2, g3⟩
theorem ck_slice {a lo hi : Ex} {e : Expr} (h : ckE N sc (.slice a lo hi) e = true) : ∃ l x y q p, e = .Subscript l (.Slice x y none q) p ∧ ckE N sc a l = true ∧ (match x with | none => isNone lo | some y => ckE N sc lo y) = true ∧ (match y with | none => isNone hi | some y => ckE N sc hi y) = true := by
  obtain ⟨h1, h2⟩ := and_t (show (_ && _) = true from h)
  obtain ⟨g1, r1⟩ := and_t h2
  obtain ⟨g2, r2⟩ := and_t r1
  obtain ⟨g3, r3⟩ := and_t r2
  obtain ⟨g4, g5⟩ := and_t r3
  exact ⟨_, _, _, _, _, by rw [← Option.isNone_iff_eq_none.mp g2, ← t_slice g1] <;> exact t_sub h1, g3, g4, g5⟩
theorem ck_call {f : Nat} {args : Exs} {e : Expr} (h : ckE N sc (.call f args) e = true) : ∃ nm q l p, e = .Call (.Name nm q) l [] p ∧ nameIs N f nm = true ∧ isGlob sc nm = true ∧ (N.fn f).isSome = true ∧ ckEs N sc args l = true := by
  obtain ⟨h1, h2⟩ := and_t (show (_ && _) = true from h)
  obtain ⟨g1, r1⟩ := and_t h2
  obtain ⟨g2, r2⟩ := and_t r1
  obtain ⟨g3, g4⟩ := and_t r2
  obtain ⟨q, p, he⟩ := callN_eq h1
  exact ⟨_, _, _, _, he, g1, g2, g3, g4⟩
theorem ck_new {k : Nat} {e : Expr} (h : ckE N sc (.new k) e = true) : ∃ nm q p, e = .Call (.Name nm q) [] [] p ∧ nameIs N k nm = true ∧ isGlob sc nm = true ∧ (N.cls k).isSome = true := by
  obtain ⟨h1, h2⟩ := and_t (show (_ && _) = true from h)
  obtain ⟨g1, r1⟩ := and_t h2
  obtain ⟨g2, r2⟩ := and_t r1
  obtain ⟨g3, g4⟩ := and_t r2
  obtain ⟨q, p, he⟩ := callN_eq h1
  exact ⟨_, _, _, by rw [nil_eq g1] at he <;> exact he, g2, g3, g4⟩
theorem ck_meth {o : Ex} {n : Nat} {args : Exs} {e : Expr} (h : ckE N sc (.meth o n args) e = true) : ∃ l nm q xs p, e = .Call (.Attribute l nm q) xs [] p ∧ nameIs N n nm = true ∧ plainBase l = true ∧ (q.endLine == p.line) = true ∧ xs.length < 30 ∧ (n ≤ 12 ∨ (N.me n).isSome = true) ∧ ckE N sc o l = true ∧ ckEs N sc args xs = true := by
  obtain ⟨h1, h2⟩ := and_t (show (_ && _) = true from h)
  obtain ⟨g1, r1⟩ := and_t h2
  obtain ⟨g2, r2⟩ := and_t r1
  obtain ⟨g3, r3⟩ := and_t r2
  obtain ⟨g4, r4⟩ := and_t r3
  obtain ⟨g5, r5⟩ := and_t r4
  obtain ⟨g6, r6⟩ := and_t r5
  obtain ⟨g7, r7⟩ := and_t r6
  obtain ⟨g8, g9⟩ := and_t r7
  exact ⟨_, _, _, _, _, by rw [← nil_eq g1, ← t_attr g2] <;> exact t_call h1, g3, g4, g5, dec_t g6, ((Bool.or_eq_true _ _).mp g7).imp dec_t id, g8, g9⟩
theorem ck_bi {b : Bi} {args : Exs} {e : Expr} (h : ckE N sc (.bi b args) e = true) : ∃ nm q l p, e = .Call (.Name nm q) l [] p ∧ nm = biName b ∧ isGlob sc nm = true ∧ ckEs N sc args l = true := by
  obtain ⟨h1, h2⟩ := and_t (show (_ && _) = true from h)
  obtain ⟨g1, r1⟩ := and_t h2
  obtain ⟨g2, g3⟩ := and_t r1
  obtain ⟨q, p, he⟩ := callN_eq h1
  exact ⟨_, _, _, _, he, dec_t g1, g2, g3⟩
theorem ck_isi {a : Ex} {ks : List Nat} {e : Expr} (h : ckE N sc (.isi a ks) e = true) : ∃ k q l cn q' p, ks = [k] ∧ e = .Call (.Name "isinstance" q) [l, .Name cn q'] [] p ∧ isGlob sc "isinstance" = true ∧ isGlob sc cn = true ∧ k ≤ 4 ∧ cn = (clsName k : Str) ∧ ckE N sc a l = true := by
  obtain ⟨h1, h2⟩ := and_t (show (_ && _) = true from h)
  obtain ⟨k, h3, h2⟩ := onO_eq h2
  obtain ⟨⟨y, z⟩, h4, h2⟩ := onO_eq h2
  obtain ⟨g1, r1⟩ := and_t h2
  obtain ⟨g2, r2⟩ := and_t r1
  obtain ⟨g3, r3⟩ := and_t r2
  obtain ⟨g4, r4⟩ := and_t r3
  obtain ⟨g5, r5⟩ := and_t r4
  obtain ⟨g6, g7⟩ := and_t r5
  obtain ⟨q, p, he⟩ := callN_eq h1
  rw [two_eq h4, dec_t g2] at he
  rw [dec_t g2] at g3
  exact ⟨k, q, y, _, _, p, one_eq h3, by rw [he, ← t_name g1], g3, g4, dec_t g5, dec_t g6, g7⟩
theorem ck_comp {elt : Ex} {tg : List Nat} {tup : Bool} {it : Ex} {conds : Exs} {e : Expr} (h : ckE N sc (.comp elt tg tup it conds) e = true) : ∃ i l nm q ite ifs sc' p, tg = [i] ∧ tup = false ∧ e = .ListComp l [⟨.Name nm q, ite, ifs, 0⟩] sc' p ∧ nameIs N i nm = true ∧ compScope N sc sc' nm = true ∧ isSet ite = false ∧ ckE N sc it ite = true ∧ ckE N sc' elt l = true ∧ ckEs N sc' conds ifs = true := by
  obtain ⟨h1, h2⟩ := and_t (show (_ && _) = true from h)
  obtain ⟨i, h3, h2⟩ := onO_eq h2
  obtain ⟨⟨tgt, ite, ifs, as⟩, h4, h2⟩ := onO_eq h2
  obtain ⟨g1, r1⟩ := and_t h2
  obtain ⟨g2, r2⟩ := and_t r1
  obtain ⟨g3, r3⟩ := and_t r2
  obtain ⟨g4, r4⟩ := and_t r3
  obtain ⟨g5, r5⟩ := and_t r4
  obtain ⟨g6, r6⟩ := and_t r5
  obtain ⟨g7, r7⟩ := and_t r6
  obtain ⟨g8, g9⟩ := and_t r7
  obtain rfl : as = 0 := dec_t g3
  exact ⟨i, _, _, _, ite, ifs, _, _, one_eq h3, not_t g2, by rw [← t_name g1, ← one_eq h4] <;> exact t_comp h1, g4, g5, not_t g6, g7, g8, g9⟩
noncomputable def exTag : Ex → Nat
  | .cnone => 19 | .cbool _ => 19 | .cint _ => 19 | .cstr _ => 19 | .loc _ => 23 | .glo _ => 23 | .bin _ _ _ => 2 | .neg _ => 3 | .not _ => 3 | .band _ => 0 | .bor _ => 0 | .cmp _ _ _ => 15 | .cmp2 _ _ _ _ _ => 15 | .list _ => 24 | .tup _ => 25 | .dict _ _ => 6 | .attr _ _ => 20 | .sub _ _ => 21
  | .call _ _ => 16 | .new _ => 16 | .meth _ _ _ => 16 | .bi _ _ => 16 | .isi _ _ => 16 | .comp _ _ _ _ _ => 8
  | .slice _ _ _ => 21
theorem tag_of {e : Ex} {v : Expr} (h : ckE N sc e v = true) : tagE v = exTag e := by
  cases e <;> first | exact dec_t (and_t (show (_ && _) = true from h)).1 | exact dec_t (and_t (show (_ && _) = true from (and_t (show (_ && _) = true from h)).1)).1
noncomputable def plainTag (n : Nat) : Bool := !(Nat.beq n 0 || (Nat.beq n 3 || (Nat.beq n 5 || Nat.beq n 15)))
theorem pl {e : Ex} {v : Expr} (h : ckE N sc e v = true) (k : plainTag (exTag e) = true) : plainTag (tagE v) = true := (tag_of h) ▸ k
end Mine

set_option autoImplicit false
namespace Mine
open PySem PySem.W PySem.Calls PyProof.Rows
variable {S : Sig}

theorem sm_const_none {c : Cx} {ρ : List Addr} {k : Nat} {p : Pos} : SM S c ρ VR (eval (.Constant .none k p) c.env) (X.pure .none) := SM.pure fun _ _ => rfl
theorem sm_const_bool {c : Cx} {ρ : List Addr} {k : Nat} {p : Pos} {b : Bool} : SM S c ρ VR (eval (.Constant (.bool b) k p) c.env) (X.pure (.bool b)) := SM.pure fun _ _ => rfl
theorem sm_const_int {c : Cx} {ρ : List Addr} {k : Nat} {p : Pos} {i : Int} : SM S c ρ VR (eval (.Constant (.int i) k p) c.env) (X.pure (.int i)) := by
  intro os σ s r σ' hp hl he Q E hQ
  cases he
  exact wpAny_Constant_int (hQ os _ _ _ List.prefix_rfl hl ⟨_, rfl⟩)
theorem sm_const_str {c : Cx} {ρ : List Addr} {k : Nat} {p : Pos} {st : Str} (h : okS st = true) : SM S c ρ VR (eval (.Constant (.str st) k p) c.env) (X.pure (.str st)) := by
  intro os σ s r σ' hp hl he Q E hQ
  cases he
  exact wpAny_Constant_str (hQ os _ _ _ List.prefix_rfl hl ⟨_, rfl, h⟩)
theorem sm_glob (OK : SigOK S) {n : Nat} {c : Cx} {ρ : List Addr} {sc : Scope} (K : CtxOK S n c) (SO : ScOK sc c.env) {i : Nat} {nm : Str} {p : Pos} (h1 : nameIs S.nam i nm = true) (h2 : isGlob sc nm = true) :
    SM S c ρ VR (eval (.Name nm p) c.env) (match S.P.globs.lookup i with | some v => X.pure v | none => match S.P.tabs.lookup i with | some _ => X.pure (.top i) | none => X.none) := by
  have hg' := Bool.and_eq_true_iff.mp h2
  cases hv : S.P.globs.lookup i with
  | none => rw [OK.tabs]; exact SM.none
  | some v =>
    obtain ⟨nm', x, e1, e2, e3⟩ := OK.globs i v hv
    rw [T_eq h1] at e1; cases e1
    exact sm_top K (SO.glob _ (of_decide_eq_true hg'.1)) (by simpa using hg'.2) e2 e3
theorem isTrue_plain {e : Expr} {env : Env} {whole : Sem Value} (h : plainTag (tagE e) = true) : isTrue e env whole = (do let v ← whole; standAt e.pos; holding [v] (truthy v)) := by
  cases e <;> first | rfl | cases h
theorem sm_test' {c : Cx} {ρ : List Addr} {e : Expr} {x : X V} (h : isTrue e c.env (eval e c.env) = (do let v ← eval e c.env; standAt e.pos; holding [v] (truthy v))) (hx : SM S c ρ VR (eval e c.env) x) : SM S c ρ EqR (isTrue e c.env (eval e c.env)) (X.bind x truth) := by
  rw [h]
  exact hx.bind fun ρ' a v k ha => SM.stand (SM.hold (sm_truth ha))
theorem sm_test {c : Cx} {ρ : List Addr} {e : Expr} {x : X V} (h : plainTag (tagE e) = true) (hx : SM S c ρ VR (eval e c.env) x) : SM S c ρ EqR (isTrue e c.env (eval e c.env)) (X.bind x truth) := sm_test' (isTrue_plain h) hx
theorem SM.map {α β γ : Type} {c : Cx} {ρ : List Addr} {R1 : List Addr → β → α → Prop} {R2 : List Addr → γ → α → Prop} {t : Sem α} {x : X β} {f : β → γ} (h : SM S c ρ R1 t x) (k : ∀ ρ' b a, ρ <+: ρ' → R1 ρ' b a → R2 ρ' (f b) a) :
    SM S c ρ R2 t (X.bind x fun b => X.pure (f b)) := by
  intro os σ s r σ' hp hl hx Q E hQ
  rcases X.bind_inv hx with ⟨b, σ₁, e1, e2⟩ | ⟨q, e1, rfl⟩
  · cases e2
    exact h os σ s _ _ hp hl e1 _ _ fun os' h' tk a k' l' hr => hQ os' h' tk a k' l' (k _ _ _ (hp.trans k') hr)
  · exact h os σ s _ _ hp hl e1 _ _ hQ
theorem cond_false (fs : List Expr) (env : Env) : (forIn fs false fun c r => if r = true then do let ok ← isTrue c env (eval c env); pure (ForInStep.yield ok) else pure (ForInStep.yield r) : Sem Bool) = pure false := by
  induction fs with
  | nil => rfl
  | cons f fs ih => rw [List.forIn_cons]; exact ih
theorem sm_cond_cons {c : Cx} {ρ : List Addr} {f : Expr} {fs : List Expr} {x y : X Bool} (h1 : SM S c ρ EqR (isTrue f c.env (eval f c.env)) x) (h2 : SM S c ρ EqR (condTree fs c.env) y) :
    SM S c ρ EqR (condTree (f :: fs) c.env) (X.bind x fun t => if t then y else X.pure false) := by
  unfold condTree
  rw [List.forIn_cons]
  rw [if_pos rfl]
  have e1 : x = X.bind x fun b => X.pure b := by
    funext σ; unfold X.bind
    cases x σ with
    | none => rfl
    | some p => obtain ⟨r, σ'⟩ := p; cases r <;> rfl
  rw [e1]
  have h1' : SM S c ρ (fun _ b st => st = ForInStep.yield b) (isTrue f c.env (eval f c.env) >>= fun ok => (Pure.pure (ForInStep.yield ok) : Sem (ForInStep Bool))) (X.bind x fun b => X.pure b) :=
    h1.bind fun ρ' b b' k hb => by subst hb; exact SM.pure fun _ _ => rfl
  refine h1'.bind fun ρ' b st k hb => ?_
  subst hb
  cases b
  · show SM S c ρ' EqR (forIn fs false fun cc r => if r = true then do let ok ← isTrue cc c.env (eval cc c.env); pure (ForInStep.yield ok) else pure (ForInStep.yield r)) (X.pure false)
    rw [cond_false]; exact SM.pure fun _ _ => rfl
  · exact h2.mono k
theorem sm_bool_cons {c : Cx} {ρ : List Addr} {pos : Pos} {o : BoolOp} {a b : Sem Value} {r : List (Sem Value)} {x : X V} {y : X V} (h1 : SM S c ρ VR a x) (h2 : SM S c ρ VR (boolOp pos o (b :: r)) y) :
    SM S c ρ VR (boolOp pos o (a :: b :: r)) (X.bind x fun v => X.bind (truth v) fun t => if t = (o == .And) then y else X.pure v) := by
  show SM S c ρ VR (do
    let v ← a
    standAt pos
    let t ← holding [v] (truthy v)
    match o, t with
    | .And, false | .Or, true => pure v
    | _, _ => boolOp pos o (b :: r)) _
  refine h1.bind fun ρ' v w k hv => SM.stand ((SM.hold (sm_truth hv)).bind fun ρ'' t t' k' ht => ?_)
  subst ht
  cases o <;> cases t
  · exact SM.pure fun _ k'' => (hv.mono k').mono k''
  · exact h2.mono (k.trans k')
  · exact h2.mono (k.trans k')
  · exact SM.pure fun _ k'' => (hv.mono k').mono k''

mutual
theorem sm_ev (OK : SigOK S) {C : Calls} {n : Nat} (HC : CallsOK S C n) (x : Ex) {c : Cx} {ρ : List Addr} {sc : Scope} {loc : Loc} {e : Expr} (K : CtxOK S (n + 2) c) (SO : ScOK sc c.env) (Vs : VarsOK S c sc ρ loc) (h : ckE S.nam sc x e = true) :
    SM S c ρ VR (eval e c.env) (ev S.P C x loc) := by
  match x, h with
  | .cnone, h => obtain ⟨k, p, rfl⟩ := ck_cnone h; exact sm_const_none
  | .cbool b, h => obtain ⟨k, p, rfl⟩ := ck_cbool h; exact sm_const_bool
  | .cint i, h => obtain ⟨k, p, rfl⟩ := ck_cint h; exact sm_const_int
  | .cstr st, h => obtain ⟨k, p, rfl, h1⟩ := ck_cstr h; exact sm_const_str h1
  | .loc i, h => obtain ⟨nm, p, rfl, h1, h2, h3, h4⟩ := ck_loc h; exact sm_local K Vs (T_eq h1) h2 h3 h4
  | .glo i, h => obtain ⟨nm, p, rfl, h1, h2⟩ := ck_glo h; exact sm_glob OK K SO h1 h2
  | .bin op a b, h => obtain ⟨l, r, p, rfl, h1, h2⟩ := ck_bin h; exact sm_bin (sm_ev OK HC a K SO Vs h1) (sm_ev OK HC b K SO Vs h2)
  | .neg a, h => obtain ⟨l, p, rfl, h1⟩ := ck_neg h; exact sm_neg (sm_ev OK HC a K SO Vs h1)
  | .not a, h => obtain ⟨l, p, rfl, h1⟩ := ck_not h; exact sm_not (sm_ev OK HC a K SO Vs h1)
  | .band es, h => obtain ⟨l, p, rfl, h1⟩ := ck_band h; exact sm_and OK HC es K SO Vs h1
  | .bor es, h => obtain ⟨l, p, rfl, h1⟩ := ck_bor h; exact sm_or OK HC es K SO Vs h1
  | .cmp op a b, h => obtain ⟨l, r, p, rfl, h0, h1, h2⟩ := ck_cmp h; exact sm_cmp K.room h0 (sm_ev OK HC a K SO Vs h1) (sm_ev OK HC b K SO Vs h2)
  | .cmp2 o1 o2 a b d, h => obtain ⟨l, r1, r2, p, rfl, h0, h1, h2, h3⟩ := ck_cmp2 h; exact sm_cmp2 K.room h0 (sm_ev OK HC a K SO Vs h1) (sm_ev OK HC b K SO Vs h2) (sm_ev OK HC d K SO Vs h3)
  | .list es, h => obtain ⟨l, p, rfl, h1⟩ := ck_list h; exact sm_list (sm_evs OK HC es K SO Vs h1)
  | .tup es, h => obtain ⟨l, k, p, rfl, h1⟩ := ck_tup h; exact sm_tup (sm_evs OK HC es K SO Vs h1)
  | .dict ks vs, h => obtain ⟨p, rfl, rfl, rfl⟩ := ck_dict h; exact sm_dict0
  | .attr a i, h => obtain ⟨l, nm, p, rfl, h0, h1, h2⟩ := ck_attr h; exact sm_attr OK.tab K (T_eq h0) h1 (sm_ev OK HC a K SO Vs h2)
  | .sub a i, h => obtain ⟨l, r, p, rfl, h0, h1, h2⟩ := ck_sub h; exact sm_sub h0 (sm_ev OK HC a K SO Vs h1) (sm_ev OK HC i K SO Vs h2)
  | .slice a lo hi, h =>
    obtain ⟨l, x1, y1, q, p, rfl, h1, h2, h3⟩ := ck_slice h
    refine sm_slice' (sm_ev OK HC a K SO Vs h1) ?_ ?_
    · cases x1 with
      | none => cases lo <;> first | cases h2; done | exact SM.pure fun _ _ => rfl
      | some e1 => exact sm_ev OK HC lo K SO Vs h2
    · cases y1 with
      | none => cases hi <;> first | cases h3; done | exact SM.pure fun _ _ => rfl
      | some e1 => exact sm_ev OK HC hi K SO Vs h3
  | .call f args, h => obtain ⟨nm, q, l, p, rfl, h1, h2, h3, h4⟩ := ck_call h; exact sm_call K OK SO HC (T_eq h1) h2 h3 (noStar_of h4) (sm_evs OK HC args K SO Vs h4)
  | .new k, h => obtain ⟨nm, q, p, rfl, h1, h2, h3⟩ := ck_new h; exact sm_new K OK SO HC (T_eq h1) h2 h3
  | .meth o i args, h => obtain ⟨l, nm, q, xs, p, rfl, h1, h2, h3, h4, h5, h6, h7⟩ := ck_meth h; exact sm_meth K OK HC (T_eq h1) h2 h3 h4 h5 (noStar_of h7) (sm_ev OK HC o K SO Vs h6) (sm_evs OK HC args K SO Vs h7)
  | .bi b args, h => obtain ⟨nm, q, l, p, rfl, h1, h2, h3⟩ := ck_bi h; exact sm_bi K OK SO h1 h2 (noStar_of h3) (sm_evs OK HC args K SO Vs h3)
  | .isi a ks, h =>
    obtain ⟨k, q, l, cn, q', p, rfl, rfl, h1, h2, h3, h4, h5⟩ := ck_isi h
    have he : starEach [l, .Name cn q'] c.env = [(false, eval l c.env), (false, eval (.Name cn q') c.env)] := by rw [star_cons h5]; rfl
    exact sm_isinst K OK SO h1 h2 h3 h4 (by unfold NoStar; rw [he]; rfl) he (sm_ev OK HC a K SO Vs h5)
  | .comp elt tg tup it conds, h =>
    obtain ⟨i, l, nm, q, ite, ifs, sc', p, rfl, rfl, rfl, h1, h2, h3, h4, h5, h6⟩ := ck_comp h
    exact sm_comp K SO Vs OK.tab.nodup (T_eq h1) h2 h3 (sm_ev OK HC it K SO Vs h4) (fun c' ρ' loc' K' SO' V' => sm_conds OK HC conds K' SO' V' h6) (fun c' ρ' loc' K' SO' V' => sm_ev OK HC elt K' SO' V' h5)
termination_by structural x
theorem sm_evs (OK : SigOK S) {C : Calls} {n : Nat} (HC : CallsOK S C n) (x : Exs) {c : Cx} {ρ : List Addr} {sc : Scope} {loc : Loc} {l : List Expr} {pos : Pos} (K : CtxOK S (n + 2) c) (SO : ScOK sc c.env) (Vs : VarsOK S c sc ρ loc) (h : ckEs S.nam sc x l = true) :
    SM S c ρ VRs (spliced (backTo pos (starEach l c.env))) (evs S.P C x loc) := by
  match x, l, h with
  | .nil, [], h => exact SM.pure fun _ _ => .nil
  | .cons e es, a :: as, h =>
    have h := and_t (show (_ && _) = true from h)
    rw [star_cons h.1]
    refine sm_splice (sm_ev OK HC e K SO Vs h.1) fun ρ' v w k hv => ?_
    exact ((sm_evs OK HC es K SO Vs h.2).mono k).map fun ρ'' vs ws k' hw => .cons (hv.mono k') hw
  | .nil, _ :: _, h => exact nomatch (show false = true from h)
  | .cons _ _, [], h => exact nomatch (show false = true from h)
termination_by structural x
theorem sm_and (OK : SigOK S) {C : Calls} {n : Nat} (HC : CallsOK S C n) (x : Exs) {c : Cx} {ρ : List Addr} {sc : Scope} {loc : Loc} {l : List Expr} {pos : Pos} (K : CtxOK S (n + 2) c) (SO : ScOK sc c.env) (Vs : VarsOK S c sc ρ loc) (h : ckEs S.nam sc x l = true) :
    SM S c ρ VR (boolOp pos .And (evalEach l c.env)) (evAnd S.P C x loc) := by
  match x, l, h with
  | .nil, _, h => exact SM.none
  | .cons e .nil, [a], h =>
    have h := and_t (show (_ && _) = true from h)
    exact sm_ev OK HC e K SO Vs h.1
  | .cons e (.cons e2 es), a :: a2 :: as, h =>
    have h := and_t (show (_ && _) = true from h)
    refine (sm_bool_cons (pos := pos) (o := .And) (sm_ev OK HC e K SO Vs h.1) (sm_and OK HC (.cons e2 es) (l := a2 :: as) K SO Vs h.2)).eqx ?_
    show X.bind (ev S.P C e loc) (fun v => X.bind (truth v) fun t => if t then evAnd S.P C (.cons e2 es) loc else X.pure v) = _
    first | rfl | (congr 1; funext v; congr 1; funext t; cases t <;> rfl)
  | .cons _ .nil, [], h => exact nomatch (show false = true from h)
  | .cons _ .nil, _ :: _ :: _, h => exact nomatch (show false = true from (and_t (show (_ && _) = true from h)).2)
  | .cons _ (.cons _ _), [], h => exact nomatch (show false = true from h)
  | .cons _ (.cons _ _), [_], h => exact nomatch (show false = true from (and_t (show (_ && _) = true from h)).2)
termination_by structural x
theorem sm_or (OK : SigOK S) {C : Calls} {n : Nat} (HC : CallsOK S C n) (x : Exs) {c : Cx} {ρ : List Addr} {sc : Scope} {loc : Loc} {l : List Expr} {pos : Pos} (K : CtxOK S (n + 2) c) (SO : ScOK sc c.env) (Vs : VarsOK S c sc ρ loc) (h : ckEs S.nam sc x l = true) :
    SM S c ρ VR (boolOp pos .Or (evalEach l c.env)) (evOr S.P C x loc) := by
  match x, l, h with
  | .nil, _, h => exact SM.none
  | .cons e .nil, [a], h =>
    have h := and_t (show (_ && _) = true from h)
    exact sm_ev OK HC e K SO Vs h.1
  | .cons e (.cons e2 es), a :: a2 :: as, h =>
    have h := and_t (show (_ && _) = true from h)
    refine (sm_bool_cons (pos := pos) (o := .Or) (sm_ev OK HC e K SO Vs h.1) (sm_or OK HC (.cons e2 es) (l := a2 :: as) K SO Vs h.2)).eqx ?_
    show X.bind (ev S.P C e loc) (fun v => X.bind (truth v) fun t => if t then X.pure v else evOr S.P C (.cons e2 es) loc) = _
    first | rfl | (congr 1; funext v; congr 1; funext t; cases t <;> rfl)
  | .cons _ .nil, [], h => exact nomatch (show false = true from h)
  | .cons _ .nil, _ :: _ :: _, h => exact nomatch (show false = true from (and_t (show (_ && _) = true from h)).2)
  | .cons _ (.cons _ _), [], h => exact nomatch (show false = true from h)
  | .cons _ (.cons _ _), [_], h => exact nomatch (show false = true from (and_t (show (_ && _) = true from h)).2)
termination_by structural x
theorem sm_tst (OK : SigOK S) {C : Calls} {n : Nat} (HC : CallsOK S C n) (x : Ex) {c : Cx} {ρ : List Addr} {sc : Scope} {loc : Loc} {e : Expr} (K : CtxOK S (n + 2) c) (SO : ScOK sc c.env) (Vs : VarsOK S c sc ρ loc) (h : ckE S.nam sc x e = true) (hw : SM S c ρ VR (eval e c.env) (ev S.P C x loc)) :
    SM S c ρ EqR (isTrue e c.env (eval e c.env)) (tst S.P C x loc (ev S.P C x loc)) := by
  match x, h, hw with
  | .not a, h, hw =>
    obtain ⟨l, p, rfl, h1⟩ := ck_not h
    rw [arm_isTrue_UnaryOp]
    exact (sm_tst OK HC a K SO Vs h1 (sm_ev OK HC a K SO Vs h1)).bind fun ρ' b b' k hb => by subst hb; exact SM.pure fun _ _ => rfl
  | .band es, h, hw => obtain ⟨l, p, rfl, h1⟩ := ck_band h; rw [arm_isTrue_BoolOp]; exact sm_tstAnd OK HC es K SO Vs h1
  | .bor es, h, hw => obtain ⟨l, p, rfl, h1⟩ := ck_bor h; rw [arm_isTrue_BoolOp]; exact sm_tstOr OK HC es K SO Vs h1
  | .cmp op a b, h, hw => obtain ⟨l, r, p, rfl, h0, h1, h2⟩ := ck_cmp h; exact sm_cmp_test K.room h0 (sm_ev OK HC a K SO Vs h1) (sm_ev OK HC b K SO Vs h2)
  | .cmp2 o1 o2 a b d, h, hw => obtain ⟨l, r1, r2, p, rfl, h0, h1, h2, h3⟩ := ck_cmp2 h; exact sm_cmp2_test K.room h0 (sm_ev OK HC a K SO Vs h1) (sm_ev OK HC b K SO Vs h2) (sm_ev OK HC d K SO Vs h3)
  | .cnone, h, hw => exact sm_test (pl h rfl) hw
  | .cbool b, h, hw => exact sm_test (pl h rfl) hw
  | .cint i, h, hw => exact sm_test (pl h rfl) hw
  | .cstr st, h, hw => exact sm_test (pl h rfl) hw
  | .loc i, h, hw => exact sm_test (pl h rfl) hw
  | .glo i, h, hw => exact sm_test (pl h rfl) hw
  | .bin op a b, h, hw => exact sm_test (pl h rfl) hw
  | .neg a, h, hw => obtain ⟨l, p, rfl, h1⟩ := ck_neg h; exact sm_test' rfl hw
  | .list es, h, hw => exact sm_test (pl h rfl) hw
  | .tup es, h, hw => exact sm_test (pl h rfl) hw
  | .dict ks vs, h, hw => exact sm_test (pl h rfl) hw
  | .attr a i, h, hw => exact sm_test (pl h rfl) hw
  | .sub a i, h, hw => exact sm_test (pl h rfl) hw
  | .slice a lo hi, h, hw => exact sm_test (pl h rfl) hw
  | .call f args, h, hw => exact sm_test (pl h rfl) hw
  | .new k, h, hw => exact sm_test (pl h rfl) hw
  | .meth o i args, h, hw => exact sm_test (pl h rfl) hw
  | .bi b args, h, hw => exact sm_test (pl h rfl) hw
  | .isi a ks, h, hw => exact sm_test (pl h rfl) hw
  | .comp elt tg tup it conds, h, hw => exact sm_test (pl h rfl) hw
termination_by structural x
theorem sm_tstAnd (OK : SigOK S) {C : Calls} {n : Nat} (HC : CallsOK S C n) (x : Exs) {c : Cx} {ρ : List Addr} {sc : Scope} {loc : Loc} {l : List Expr} (K : CtxOK S (n + 2) c) (SO : ScOK sc c.env) (Vs : VarsOK S c sc ρ loc) (h : ckEs S.nam sc x l = true) :
    SM S c ρ EqR (allTrue .And l c.env) (tstAnd S.P C x loc) := by
  match x, l, h with
  | .nil, [], h => exact SM.pure fun _ _ => rfl
  | .cons e es, a :: as, h =>
    have h := and_t (show (_ && _) = true from h)
    rw [arm_allTrue_cons]
    refine (sm_tst OK HC e K SO Vs h.1 (sm_ev OK HC e K SO Vs h.1)).bind fun ρ' b b' k hb => ?_
    subst hb
    cases b
    · exact SM.pure fun _ _ => rfl
    · exact (sm_tstAnd OK HC es K SO Vs h.2).mono k
  | .nil, _ :: _, h => exact nomatch (show false = true from h)
  | .cons _ _, [], h => exact nomatch (show false = true from h)
termination_by structural x
theorem sm_tstOr (OK : SigOK S) {C : Calls} {n : Nat} (HC : CallsOK S C n) (x : Exs) {c : Cx} {ρ : List Addr} {sc : Scope} {loc : Loc} {l : List Expr} (K : CtxOK S (n + 2) c) (SO : ScOK sc c.env) (Vs : VarsOK S c sc ρ loc) (h : ckEs S.nam sc x l = true) :
    SM S c ρ EqR (allTrue .Or l c.env) (tstOr S.P C x loc) := by
  match x, l, h with
  | .nil, [], h => exact SM.pure fun _ _ => rfl
  | .cons e es, a :: as, h =>
    have h := and_t (show (_ && _) = true from h)
    rw [arm_allTrue_cons]
    refine (sm_tst OK HC e K SO Vs h.1 (sm_ev OK HC e K SO Vs h.1)).bind fun ρ' b b' k hb => ?_
    subst hb
    cases b
    · exact (sm_tstOr OK HC es K SO Vs h.2).mono k
    · exact SM.pure fun _ _ => rfl
  | .nil, _ :: _, h => exact nomatch (show false = true from h)
  | .cons _ _, [], h => exact nomatch (show false = true from h)
termination_by structural x
theorem sm_conds (OK : SigOK S) {C : Calls} {n : Nat} (HC : CallsOK S C n) (x : Exs) {c : Cx} {ρ : List Addr} {sc : Scope} {loc : Loc} {l : List Expr} (K : CtxOK S (n + 2) c) (SO : ScOK sc c.env) (Vs : VarsOK S c sc ρ loc) (h : ckEs S.nam sc x l = true) :
    SM S c ρ EqR (condTree l c.env) (tstAnd S.P C x loc) := by
  match x, l, h with
  | .nil, [], h => exact SM.pure fun _ _ => rfl
  | .cons e es, a :: as, h =>
    have h := and_t (show (_ && _) = true from h)
    exact sm_cond_cons (sm_tst OK HC e K SO Vs h.1 (sm_ev OK HC e K SO Vs h.1)) (sm_conds OK HC es K SO Vs h.2)
  | .nil, _ :: _, h => exact nomatch (show false = true from h)
  | .cons _ _, [], h => exact nomatch (show false = true from h)
termination_by structural x
end
end Mine

set_option autoImplicit false
namespace Mine
open PySem PySem.W PySem.Calls PyProof.Rows
variable {S : Sig}

set_option genInjectivity false in
structure Dx where
  A : Around
  env : Env
  h₀ : Heap
  L : Addr
  fs : Fs
  kp : List (Addr × Obj)
abbrev Dx.cx (d : Dx) (m : Str → Option Value) (cs : List (Addr × Obj)) : Cx := ⟨d.A, d.env, d.h₀, d.L, m, d.fs, d.kp ++ cs⟩

structure CellsOK (env : Env) (cs : List (Addr × Obj)) : Prop where
  all : All2 (fun (p : Str × Addr) (q : Addr × Obj) => p.2 = q.1 ∧ ∃ v, q.2.data = .cell v) env.cells cs
  nd : (env.cells.map (·.1)).Nodup

structure Fm (S : Sig) (d : Dx) (sc : Scope) (loc : Loc) (os : List (Addr × Obj)) (σ : H) (h : Heap) (m : Str → Option Value) (cs : List (Addr × Obj)) : Prop where
  vars : VarsOK S (d.cx m cs) sc (adr os) loc
  cells : CellsOK d.env cs
  led : (d.cx m cs).led S os σ h

abbrev XS := Loc → H → Option (R (Option V) × Loc × H)
noncomputable def PostX (S : Sig) (d : Dx) (sc : Scope) (os : List (Addr × Obj)) (s : Shared) (r : R (Option V)) (loc' : Loc) (σ' : H) (Q : Flow → Shared → Prop) (E : Value → Shared → Prop) : Prop :=
  ∀ (m' : Str → Option Value) (cs' os' : List (Addr × Obj)) (h' : Heap) (tk : Nat), adr os <+: adr os' → Fm S d sc loc' os' σ' h' m' cs' → match r with
    | .ok none => Q .next { s with heap := h', toks := tk }
    | .ok (some v) => ∀ a, VR (adr os') v a → Q (.ret a) { s with heap := h', toks := tk }
    | .err k => ∀ e, Fly S (d.cx m' cs') os' e k h' → E e { s with heap := h', toks := tk }
noncomputable def PostE (S : Sig) (d : Dx) (sc : Scope) (os : List (Addr × Obj)) (s : Shared) (m : Str → Option Value) (cs : List (Addr × Obj)) (loc : Loc) (r : R (Option V)) (loc' : Loc) (σ' : H) (E : Value → Shared → Prop) : Prop :=
  ∀ k, r = .err k → loc' = loc → ∀ (os₁ : List (Addr × Obj)) (h₁ : Heap) (tk : Nat) (e : Value), adr os <+: adr os₁ → Fm S d sc loc os₁ σ' h₁ m cs → Fly S (d.cx m cs) os₁ e k h₁ → E e { s with heap := h₁, toks := tk }
theorem PostX.err {S : Sig} {d : Dx} {sc : Scope} {os : List (Addr × Obj)} {s : Shared} {r : R (Option V)} {loc' : Loc} {σ' : H} {Q : Flow → Shared → Prop} {E : Value → Shared → Prop} (hQ : PostX S d sc os s r loc' σ' Q E)
    {os₁ : List (Addr × Obj)} (k : adr os <+: adr os₁) {h : Heap} {t : Nat} {m : Str → Option Value} {cs : List (Addr × Obj)} {loc : Loc} : PostE S d sc os₁ { s with heap := h, toks := t } m cs loc r loc' σ' E := by
  rintro q rfl rfl os₂ h₂ tk e k₂ F f
  exact hQ m cs os₂ h₂ tk (k.trans k₂) F e f
noncomputable def SX (S : Sig) (d : Dx) (sc : Scope) (t : Sem Flow) (x : XS) : Prop :=
  ∀ (loc : Loc) (m : Str → Option Value) (cs os : List (Addr × Obj)) (σ : H) (s : Shared) (r : R (Option V)) (loc' : Loc) (σ' : H), Fm S d sc loc os σ s.heap m cs → x loc σ = some (r, loc', σ') →
    ∀ (Q : Flow → Shared → Prop) (E : Value → Shared → Prop),
      PostX S d sc os s r loc' σ' Q E →
      wpAny (model S.prog S.w) d.A t Q E s

theorem onX_inv {α : Type} {m : X α} {loc loc' : Loc} {f : α → H → Option (R (Option V) × Loc × H)} {σ σ' : H} {r : R (Option V)} (h : onX m loc f σ = some (r, loc', σ')) :
    (∃ a σ₁, m σ = some (.ok a, σ₁) ∧ f a σ₁ = some (r, loc', σ')) ∨ (∃ k, m σ = some (.err k, σ') ∧ r = .err k ∧ loc' = loc) := by
  unfold onX at h
  split at h
  · cases h
  · rename_i k σ₁ e; cases h; exact .inr ⟨k, e, rfl, rfl⟩
  · rename_i a σ₁ e; exact .inl ⟨a, σ₁, e, h⟩

section
variable {d : Dx} {sc : Scope} {loc : Loc} {os os' : List (Addr × Obj)} {σ σ' : H} {h h' : Heap} {m : Str → Option Value} {cs : List (Addr × Obj)}
theorem Fm.step (f : Fm S d sc loc os σ h m cs) (k : adr os <+: adr os') (l : (d.cx m cs).led S os' σ' h') : Fm S d sc loc os' σ' h' m cs := ⟨f.vars.mono k, f.cells, l⟩

theorem sx_on {α β : Type} {RV : List Addr → β → α → Prop} {t : Sem α} {x : X β} {s : Shared} {r : R (Option V)} {loc' : Loc} {f : β → H → Option (R (Option V) × Loc × H)}
    (F : Fm S d sc loc os σ s.heap m cs) (hx : SM S (d.cx m cs) (adr os) RV t x) (e : onX x loc f σ = some (r, loc', σ')) {Q : α → Shared → Prop} {E : Value → Shared → Prop} (hE : PostE S d sc os s m cs loc r loc' σ' E)
    (hQ : ∀ (b : β) (σ₁ : H), f b σ₁ = some (r, loc', σ') → ∀ (os₁ : List (Addr × Obj)) (h₁ : Heap) (tk : Nat) (a : α), adr os <+: adr os₁ → Fm S d sc loc os₁ σ₁ h₁ m cs → RV (adr os₁) b a → Q a { s with heap := h₁, toks := tk }) :
    wpAny (model S.prog S.w) d.A t Q E s := by
  rcases onX_inv e with ⟨b, σ₁, e1, e2⟩ | ⟨k, e1, rfl, rfl⟩
  · exact hx os σ s _ _ List.prefix_rfl F.led e1 _ _ fun os₁ h₁ tk a k l hr => hQ b σ₁ e2 os₁ h₁ tk a k (F.step k l) hr
  · exact hx os σ s _ _ List.prefix_rfl F.led e1 _ _ fun os₁ h₁ tk e k₁ l₁ f => hE k rfl rfl os₁ h₁ tk e k₁ (F.step k₁ l₁) f
end

section
variable {d : Dx} {sc : Scope}
noncomputable def isComp (v : Expr) : Bool := Nat.ble 8 (tagE v) && Nat.ble (tagE v) 10
theorem no_swap {v : Expr} (h : isComp v = false) (t : Option Expr) (line : Nat) (env : Env) : swapsWith v t line env = pure false := by
  cases v <;> first | rfl | cases h

theorem sx_expr (hk : d.env.scope.kind = .function) {v : Expr} {pos : Pos} {x : Loc → X V} (hc : isComp v = false) (hx : ∀ m cs ρ loc, VarsOK S (d.cx m cs) sc ρ loc → SM S (d.cx m cs) ρ VR (eval v d.env) (x loc)) :
    SX S d sc (exec (.Expr v pos) d.env) (fun loc h => onX (x loc) loc (fun _ h₁ => some (.ok none, loc, h₁)) h) := by
  intro loc m cs os σ s r loc' σ' F e Q E hQ
  refine wpAny_Expr_any (sx_on F (hx _ _ _ _ F.vars) e (hQ.err List.prefix_rfl) fun b σ₁ e2 os₁ h₁ tk a k F₁ hr => ?_) (by unfold interactive; rw [hk]; rfl) (no_swap hc _ _ _)
  cases e2
  exact hQ m cs os₁ h₁ tk k F₁
theorem sx_ret {v : Expr} {pos : Pos} {x : Loc → X V} (hx : ∀ m cs ρ loc, VarsOK S (d.cx m cs) sc ρ loc → SM S (d.cx m cs) ρ VR (eval v d.env) (x loc)) :
    SX S d sc (exec (.Return (some v) pos) d.env) (fun loc h => onX (x loc) loc (fun v h₁ => some (.ok (some v), loc, h₁)) h) := by
  intro loc m cs os σ s r loc' σ' F e Q E hQ
  refine wpAny_Return_some (sx_on F (hx _ _ _ _ F.vars) e (hQ.err List.prefix_rfl) fun b σ₁ e2 os₁ h₁ tk a k F₁ hr => ?_)
  cases e2
  exact hQ m cs os₁ h₁ tk k F₁ a hr
theorem sx_ret0 {pos : Pos} : SX S d sc (exec (.Return none pos) d.env) (fun loc h => some (.ok (some .none), loc, h)) := by
  intro loc m cs os σ s r loc' σ' F e Q E hQ
  cases e
  exact wpAny_Return_none (hQ m cs os s.heap s.toks List.prefix_rfl F .none rfl)
theorem sx_pass {pos : Pos} : SX S d sc (exec (.Pass pos) d.env) (fun loc h => some (.ok none, loc, h)) := by
  intro loc m cs os σ s r loc' σ' F e Q E hQ
  cases e
  exact wpAny_Pass (hQ m cs os s.heap s.toks List.prefix_rfl F)
theorem sx_nil : SX S d sc (execs [] d.env) (fun loc h => some (.ok none, loc, h)) := by
  intro loc m cs os σ s r loc' σ' F e Q E hQ
  cases e
  exact wpAny_execs_nil (hQ m cs os s.heap s.toks List.prefix_rfl F)
theorem sx_cons {st : Stmt} {rest : List Stmt} {x y : XS} (h1 : SX S d sc (exec st d.env) x) (h2 : SX S d sc (execs rest d.env) y) :
    SX S d sc (execs (st :: rest) d.env) (fun loc h => match x loc h with | some (.ok none, l₁, h₁) => y l₁ h₁ | r => r) := by
  intro loc m cs os σ s r loc' σ' F e Q E hQ
  refine wpAny_execs_cons ?_
  cases hx : x loc σ with
  | none => dsimp only at e; rw [hx] at e; cases e
  | some p =>
    obtain ⟨rr, l₁, σ₁⟩ := p
    dsimp only at e
    rw [hx] at e
    refine h1 loc m cs os σ s rr l₁ σ₁ F hx _ _ fun m₁ cs₁ os₁ h₁ tk₁ k₁ F₁ => ?_
    cases rr with
    | err q => cases e; exact hQ m₁ cs₁ os₁ h₁ tk₁ k₁ F₁
    | ok o =>
      cases o with
      | none => exact h2 l₁ m₁ cs₁ os₁ σ₁ { s with heap := h₁, toks := tk₁ } r loc' σ' F₁ e Q E fun m₂ cs₂ os₂ h₂ tk₂ k₂ F₂ => hQ m₂ cs₂ os₂ h₂ tk₂ (k₁.trans k₂) F₂
      | some v =>
        cases e
        exact hQ m₁ cs₁ os₁ h₁ tk₁ k₁ F₁
theorem sx_if {c : Expr} {a b : List Stmt} {pos : Pos} {x : Loc → X Bool} {y z : XS} (hx : ∀ m cs ρ loc, VarsOK S (d.cx m cs) sc ρ loc → SM S (d.cx m cs) ρ EqR (isTrue c d.env (eval c d.env)) (x loc)) (hy : SX S d sc (execs a d.env) y) (hz : SX S d sc (execs b d.env) z) :
    SX S d sc (exec (.If c a b pos) d.env) (fun loc h => onX (x loc) loc (fun t h₁ => if t then y loc h₁ else z loc h₁) h) := by
  intro loc m cs os σ s r loc' σ' F e Q E hQ
  refine wpAny_If (sx_on F (hx _ _ _ _ F.vars) e (hQ.err List.prefix_rfl) fun t σ₁ e2 os₁ h₁ tk a k F₁ hr => ?_)
  subst hr
  cases t
  · exact hz loc m cs os₁ σ₁ { s with heap := h₁, toks := tk } r loc' σ' F₁ e2 Q E fun m₂ cs₂ os₂ h₂ tk₂ k₂ F₂ => hQ m₂ cs₂ os₂ h₂ tk₂ (k.trans k₂) F₂
  · exact hy loc m cs os₁ σ₁ { s with heap := h₁, toks := tk } r loc' σ' F₁ e2 Q E fun m₂ cs₂ os₂ h₂ tk₂ k₂ F₂ => hQ m₂ cs₂ os₂ h₂ tk₂ (k.trans k₂) F₂
theorem sx_while {c : Expr} {a : List Stmt} {pos : Pos} {x : Loc → X Bool} {y : XS} {fuel : Nat} (hx : ∀ m cs ρ loc, VarsOK S (d.cx m cs) sc ρ loc → SM S (d.cx m cs) ρ EqR (isTrue c d.env (eval c d.env)) (x loc)) (hy : SX S d sc (execs a d.env) y) :
    SX S d sc (exec (.While c a [] pos) d.env) (fun loc h => whileL x y fuel loc h) := by
  intro loc m cs os σ s r loc' σ' F e Q E hQ
  refine wpAny_While ?_
  refine codeAny_whileLoop (fun k s' => ∃ h' tk os' σ₁ m' cs' l', s' = { s with heap := h', toks := tk } ∧ adr os <+: adr os' ∧ Fm S d sc l' os' σ₁ h' m' cs' ∧ whileL x y k l' σ₁ = some (r, loc', σ')) ?_ fuel ⟨s.heap, s.toks, os, σ, m, cs, loc, rfl, List.prefix_rfl, F, e⟩
  rintro k s' ⟨h', tk, os', σ₁, m', cs', l', rfl, k', F', e'⟩
  cases k with
  | zero => cases e'
  | succ k =>
    unfold whileL at e'
    cases ht : x l' σ₁ with
    | none => rw [ht] at e'; cases e'
    | some p =>
      obtain ⟨tr, σ₂⟩ := p
      rw [ht] at e'
      cases tr with
      | err q => cases e'
      | ok t =>
        refine hx _ _ _ _ F'.vars os' σ₁ { s with heap := h', toks := tk } _ _ List.prefix_rfl F'.led ht _ _ fun os₂ h₂ tk₂ t' k₂ l₂ hb => ?_
        subst hb
        have F₂ := F'.step k₂ l₂
        cases t with
        | false =>
          cases e'
          simp only [Bool.false_eq_true, if_false]
          exact wpAny_execs_nil (hQ m' cs' os₂ h₂ tk₂ (k'.trans k₂) F₂)
        | true =>
          simp only [if_true]
          dsimp only at e'
          cases hb : y l' σ₂ with
          | none => rw [hb] at e'; cases e'
          | some p₂ =>
            obtain ⟨rr, l₃, σ₃⟩ := p₂
            rw [hb] at e'
            refine hy l' m' cs' os₂ σ₂ { s with heap := h₂, toks := tk₂ } rr l₃ σ₃ F₂ hb _ _ fun m₃ cs₃ os₃ h₃ tk₃ k₃ F₃ => ?_
            cases rr with
            | err q => cases e'
            | ok o =>
              cases o with
              | none => exact ⟨k, Nat.lt_succ_self k, h₃, tk₃, os₃, σ₃, m₃, cs₃, l₃, rfl, k'.trans (k₂.trans k₃), F₃, e'⟩
              | some v => cases e'; exact hQ m₃ cs₃ os₃ h₃ tk₃ (k'.trans (k₂.trans k₃)) F₃
end
end Mine

set_option autoImplicit false
namespace Mine
open PySem PySem.W PySem.Calls PyProof.Rows
variable {S : Sig}

theorem lookup_idx {α : Type} : ∀ {l : List (Str × α)} {n : Str} {a : α}, l.lookup n = some a → ∃ i : Nat, l[i]? = some (n, a)
  | [], _, _, h => by simp at h
  | (k, b) :: r, n, a, h => by
    by_cases hk : n = k
    · subst hk
      simp at h; subst h; exact ⟨0, rfl⟩
    · have : (n == k) = false := by simpa using hk
      rw [List.lookup_cons, this] at h
      obtain ⟨i, hi⟩ := lookup_idx h
      exact ⟨i + 1, hi⟩

theorem Led.kperm {h₀ h : Heap} {L : Addr} {m : Str → Option Value} {fs : Fs} {kp kp' os : List (Addr × Obj)} {σ : H} (l : Led S h₀ L m fs kp os σ h) (p : kp.Perm kp') : Led S h₀ L m fs kp' os σ h := by
  have p' : (kp ++ os).Perm (kp' ++ os) := p.append_right os
  have pa : (adr (kp ++ os)).Perm (adr (kp' ++ os)) := p'.map _
  exact ⟨l.fr, fun q hq => l.news q (p'.mem_iff.mpr hq), pa.nodup_iff.mp l.nd, l.objs, fun f hf => ⟨(l.outs f hf).1, (l.outs f hf).2.1, (l.outs f hf).2.2.1, fun q => (l.outs f hf).2.2.2 (pa.mem_iff.mpr q)⟩, l.top, fun b hb => l.big b (pa.mem_iff.mpr hb), l.frz⟩
theorem set_self {α : Type} : ∀ {l : List α} {i : Nat} {a : α}, l[i]? = some a → l.set i a = l
  | [], _, _, e => by simp at e
  | x :: r, 0, _, e => by simp only [List.getElem?_cons_zero, Option.some.injEq] at e; rw [e]; rfl
  | x :: r, i + 1, _, e => by simp only [List.getElem?_cons_succ] at e; rw [List.set_cons_succ, set_self e]
section
variable {d : Dx} {sc : Scope} {loc : Loc} {os : List (Addr × Obj)} {σ : H} {h : Heap} {m : Str → Option Value} {cs : List (Addr × Obj)}
theorem nd_parts {S : Sig} {h₀ : Heap} {L : Addr} {fs : Fs} {kp : List (Addr × Obj)} (l : Led S h₀ L m fs (kp ++ cs) os σ h) : (adr cs).Nodup ∧ ∀ p ∈ kp, ∀ q ∈ cs, p.1 ≠ q.1 := by
  have nd := l.nd
  simp only [adr, List.map_append] at nd
  obtain ⟨n1, _, _⟩ := List.nodup_append.mp nd
  obtain ⟨_, n2, n3⟩ := List.nodup_append.mp n1
  exact ⟨n2, fun p hp q hq e => n3 p.1 (List.mem_map_of_mem hp) q.1 (List.mem_map_of_mem hq) e⟩
theorem CellsOK.at {env : Env} (C : CellsOK env cs) {nm : Str} {a : Addr} (e : env.cells.lookup nm = some a) : ∃ (i : Nat) (o : Obj) (v : Option Value), env.cells[i]? = some (nm, a) ∧ cs[i]? = some (a, o) ∧ o.data = .cell v := by
  obtain ⟨i, hi⟩ := lookup_idx e
  obtain ⟨q, hq, h1, v, h2⟩ := C.all.get hi
  obtain ⟨b, o⟩ := q
  dsimp only at h1 h2
  subst h1
  exact ⟨i, o, v, hi, hq, h2⟩
theorem cell_mem {S : Sig} {h₀ : Heap} {L : Addr} {fs : Fs} {kp : List (Addr × Obj)} {env : Env} (l : Led S h₀ L m fs (kp ++ cs) os σ h) (C : CellsOK env cs) {nm : Str} {a : Addr} {o : Obj} (e : env.cells.lookup nm = some a) (hm : (a, o) ∈ kp ++ cs) : (a, o) ∈ cs := by
  obtain ⟨i, o', v, _, h2, _⟩ := C.at e
  rcases List.mem_append.mp hm with hm | hm
  · exact absurd rfl ((nd_parts l).2 (a, o) hm (a, o') (List.mem_of_getElem? h2))
  · exact hm
theorem vars_kp {kp' : List (Addr × Obj)} (F : Fm S d sc loc os σ h m cs) : VarsOK S ({ d with kp := kp' }.cx m cs) sc (adr os) loc := by
  intro i v nm h1 h2 h3
  obtain ⟨x, h4, h5⟩ := F.vars i v nm h1 h2 h3
  refine ⟨x, ?_, h5⟩
  rcases h4 with ⟨q1, q2⟩ | ⟨q1, a, o, q2, q3, q4⟩
  · exact .inl ⟨q1, q2⟩
  · exact .inr ⟨q1, a, o, q2, List.mem_append_right _ (cell_mem F.led F.cells q2 q3), q4⟩

theorem upd_ne {loc : Loc} {i j : Nat} {v : V} (h : j ≠ i) : loc.upd i v j = loc j := by rw [Loc.upd, beq_eq_false_iff_ne.mpr h]; rfl
theorem upd_eq {loc : Loc} {i : Nat} {v : V} : loc.upd i v i = some v := by rw [Loc.upd, beq_self_eq_true]; rfl

theorem store_var (nd : S.T.Nodup) (SO : ScOK sc d.env) (hk : d.env.scope.kind = .function) (hloc : d.env.locals = d.L) {s : Shared} (F : Fm S d sc loc os σ s.heap m cs) {i : Nat} {nm : Str} {v : V} {x : Value} (hn : S.T[i]? = some nm)
    (hs : sc.names.lookup nm = some .local ∨ (sc.names.lookup nm = some .cell ∧ d.env.kindOf nm = some .cell)) (hv : VR (adr os) v x) {Q : Unit → Shared → Prop} {E : Value → Shared → Prop}
    (hQ : ∀ m' cs' h' tk, Fm S d sc (loc.upd i v) os σ h' m' cs' → Q () { s with heap := h', toks := tk }) : wpAny (model S.prog S.w) d.A (storeName d.env nm x) Q E s := by
  have inj : ∀ {j : Nat} {nmj : Str}, S.T[j]? = some nmj → j ≠ i → nmj ≠ nm := fun {j nmj} hj hji q => hji ((List.getElem?_inj (List.getElem?_eq_some_iff.mp hj).1 nd).mp (by rw [hj, hn, q]))
  rcases hs with hs | ⟨hs, hkc⟩
  · have kind := SO.loc nm hs
    have hns : s.heap.Ns d.env.locals m := by rw [hloc]; exact F.led.fr.ns
    refine wpAny_storeName_local kind hns (fun h' hn' hs' => ?_) (by rw [hk]; rfl)
    rw [hloc] at hn' hs'
    refine hQ (fun y => if y = nm then some x else m y) cs h' _ ⟨fun j w nmj h1 h2 h3 => ?_, F.cells, F.led.lset hn' hs'⟩
    by_cases hji : j = i
    · subst hji
      rw [upd_eq] at h1; cases h1
      rw [hn] at h2; cases h2
      exact ⟨x, .inl ⟨kind, by simp⟩, hv⟩
    · rw [upd_ne hji] at h1
      obtain ⟨y, h4, h5⟩ := F.vars j w nmj h1 h2 h3
      refine ⟨y, ?_, h5⟩
      rcases h4 with ⟨q1, q2⟩ | q
      · exact .inl ⟨q1, by show (if nmj = nm then some x else m nmj) = some y; rw [if_neg (inj h2 hji)]; exact q2⟩
      · exact .inr q
  · obtain ⟨a, ha⟩ := (SO.cell nm (by unfold isCell; rw [hs])).2
    obtain ⟨p, o, v₀, hp, hcs, hd⟩ := F.cells.at ha
    have hmem : (a, o) ∈ d.kp ++ cs := List.mem_append_right _ (List.mem_of_getElem? hcs)
    refine wpAny_storeName_cell hk hkc ha ⟨o, (F.led.news (a, o) (List.mem_append_left _ hmem)).1, hd⟩ fun h' hv' hs' => ?_
    obtain ⟨o', ho', hd'⟩ := hv'
    have sp : cs = cs.take p ++ (a, o) :: cs.drop (p + 1) := split_at hcs
    have sp' : cs.set p (a, o') = cs.take p ++ (a, o') :: cs.drop (p + 1) := set_split hcs
    have l' : (d.cx m (cs.set p (a, o'))).led S os σ h' := by
      have l := F.led
      show Led S d.h₀ d.L m d.fs (d.kp ++ cs.set p (a, o')) os σ h'
      rw [sp', ← List.append_assoc]
      refine Led.kset (x := o) ?_ hs' ho'
      rw [List.append_assoc, ← sp]; exact l
    have ndc := nd_parts F.led
    have mem' : ∀ {b : Addr} {ob : Obj}, b ≠ a → (b, ob) ∈ d.kp ++ cs → (b, ob) ∈ d.kp ++ cs.set p (a, o') := by
      intro b ob hb hm
      rcases List.mem_append.mp hm with hm | hm
      · exact List.mem_append_left _ hm
      · refine List.mem_append_right _ ?_
        rw [sp'] ; rw [sp] at hm
        simp only [List.mem_append, List.mem_cons] at hm ⊢
        rcases hm with hm | hm | hm
        · exact .inl hm
        · cases hm; exact absurd rfl hb
        · exact .inr (.inr hm)
    refine hQ m (cs.set p (a, o')) h' s.toks ⟨fun j w nmj h1 h2 h3 => ?_, ⟨?_, F.cells.nd⟩, l'⟩
    · by_cases hji : j = i
      · subst hji
        rw [upd_eq] at h1; cases h1
        rw [hn] at h2; cases h2
        refine ⟨x, .inr ⟨.inl hkc, a, o', ha, List.mem_append_right _ ?_, hd'⟩, hv⟩
        rw [sp']; simp
      · rw [upd_ne hji] at h1
        obtain ⟨y, h4, h5⟩ := F.vars j w nmj h1 h2 h3
        refine ⟨y, ?_, h5⟩
        rcases h4 with q | ⟨q1, b, ob, q2, q3, q4⟩
        · exact .inl q
        · refine .inr ⟨q1, b, ob, q2, mem' (fun q => ?_) q3, q4⟩
          subst q
          obtain ⟨p', _, _, hp', hcs', _⟩ := F.cells.at q2
          have e1 : (adr cs)[p]? = some b := by simp [adr, hcs]
          have e2 : (adr cs)[p']? = some b := by simp [adr, hcs']
          have : p = p' := (List.getElem?_inj (List.getElem?_eq_some_iff.mp e1).1 ndc.1).mp (e1.trans e2.symm)
          subst this
          rw [hp] at hp'; cases hp'
          exact inj h2 hji rfl
    · have := F.cells.all.set (a := (nm, a)) (b := (a, o')) ⟨rfl, some x, hd'⟩ p
      have e : d.env.cells.set p (nm, a) = d.env.cells := set_self hp
      rwa [e] at this
end

section
variable {d : Dx} {sc : Scope} {n : Nat}
noncomputable def StoreOK (sc : Scope) (env : Env) (nm : Str) : Prop := sc.names.lookup nm = some .local ∨ (sc.names.lookup nm = some .cell ∧ env.kindOf nm = some .cell)

theorem sx_asg_var (nd : S.T.Nodup) (SO : ScOK sc d.env) (hk : d.env.scope.kind = .function) (hloc : d.env.locals = d.L) {v : Expr} {nm : Str} {px pos : Pos} {i : Nat} {x : Loc → X V} (hn : S.T[i]? = some nm) (hs : StoreOK sc d.env nm)
    (hsw : swapsWith v (some (.Name nm px)) pos.line d.env = pure false) (hx : ∀ m cs ρ loc, VarsOK S (d.cx m cs) sc ρ loc → SM S (d.cx m cs) ρ VR (eval v d.env) (x loc)) :
    SX S d sc (exec (.Assign [.Name nm px] v pos) d.env) (fun loc h => onX (x loc) loc (fun v h₁ => some (.ok none, loc.upd i v, h₁)) h) := by
  intro loc m cs os σ s r loc' σ' F e Q E hQ
  refine wpAny_Assign_Name (sx_on F (hx _ _ _ _ F.vars) e (hQ.err List.prefix_rfl) fun b σ₁ e2 os₁ h₁ tk a k F₁ hr => ?_) hsw
  cases e2
  exact store_var nd SO hk hloc (s := { s with heap := h₁, toks := tk }) F₁ hn hs hr fun m' cs' h' tk' F' => hQ m' cs' os₁ h' tk' k F'

theorem assign_arm {t v : Expr} {pos : Pos} {env : Env} (hs : swapsWith v (some t) pos.line env = pure false) (hw : swappedStores [t] v env = pure none) (he : (assignEach [t] env).map (·.2) = [assign t env]) {M : Model} {A : Around} {E : Value → Shared → Prop} {s : Shared} {Q : Flow → Shared → Prop}
    (h : wpAny M A (eval v env) (fun x s₁ => wpAny M A (assign t env x) (fun _ => Q .next) E s₁) E s) : wpAny M A (exec (.Assign [t] v pos) env) Q E s := by
  refine wpAny_Assign_stores (wpAny_mono h (fun x s₁ h₁ => ?_) fun _ _ y => y) hs hw
  rw [he]; exact h₁
theorem swap_attr {v o : Expr} {nm : Str} {p : Pos} {line : Nat} {env : Env} : swapsWith v (some (.Attribute o nm p)) line env = pure false := by cases v <;> rfl
theorem swap_sub {v o i : Expr} {p : Pos} {line : Nat} {env : Env} : swapsWith v (some (.Subscript o i p)) line env = pure false := by cases v <;> rfl
theorem stores_attr {v o : Expr} {nm : Str} {p : Pos} {env : Env} : swappedStores [.Attribute o nm p] v env = pure none := by cases v <;> rfl
theorem stores_sub {v o i : Expr} {p : Pos} {env : Env} : swappedStores [.Subscript o i p] v env = pure none := by cases v <;> rfl

theorem sx_asg_attr (TV : TabOK S) (K : ∀ m cs, CtxOK S n (d.cx m cs)) {v o : Expr} {nm : Str} {px pos : Pos} {i : Nat} {x y : Loc → X V} (hn : S.T[i]? = some nm)
    (hx : ∀ m cs ρ loc, VarsOK S (d.cx m cs) sc ρ loc → SM S (d.cx m cs) ρ VR (eval v d.env) (x loc)) (hy : ∀ m cs ρ loc, VarsOK S (d.cx m cs) sc ρ loc → SM S (d.cx m cs) ρ VR (eval o d.env) (y loc)) :
    SX S d sc (exec (.Assign [.Attribute o nm px] v pos) d.env) (fun loc h => onX (x loc) loc (fun v h₁ => onX (y loc) loc (fun ov h₂ => onX (setAttr S.P ov i v) loc (fun _ h₃ => some (.ok none, loc, h₃)) h₂) h₁) h) := by
  intro loc m cs os σ s r loc' σ' F e Q E hQ
  refine assign_arm swap_attr stores_attr rfl (sx_on F (hx _ _ _ _ F.vars) e (hQ.err List.prefix_rfl) fun b σ₁ e2 os₁ h₁ tk a k F₁ hr => ?_)
  rw [arm_assign_Attribute]
  refine wpAny_bind (wpAny_holding (sx_on (s := { s with heap := h₁, toks := tk }) F₁ (hy _ _ _ _ F₁.vars) e2 (hQ.err k) fun ob σ₂ e3 os₂ h₂ tk₂ oa k₂ F₂ hr₂ => wpAny_bind (wpAny_standAt (wpAny_bind (wpAny_holding ?_)))))
  refine sx_on (s := { s with heap := h₂, toks := tk₂ }) F₂ (sm_setAttr TV (K m cs).kin hn hr₂ (hr.mono k₂)) e3 (hQ.err (k.trans k₂)) fun _ σ₃ e4 os₃ h₃ tk₃ _ k₃ F₃ _ => wpAny_release' ?_
  cases e4
  exact hQ m cs os₃ h₃ tk₃ (k.trans (k₂.trans k₃)) F₃
theorem sx_asg_sub {v o j : Expr} {px pos : Pos} {x y z : Loc → X V}
    (hx : ∀ m cs ρ loc, VarsOK S (d.cx m cs) sc ρ loc → SM S (d.cx m cs) ρ VR (eval v d.env) (x loc)) (hy : ∀ m cs ρ loc, VarsOK S (d.cx m cs) sc ρ loc → SM S (d.cx m cs) ρ VR (eval o d.env) (y loc)) (hz : ∀ m cs ρ loc, VarsOK S (d.cx m cs) sc ρ loc → SM S (d.cx m cs) ρ VR (eval j d.env) (z loc)) :
    SX S d sc (exec (.Assign [.Subscript o j px] v pos) d.env) (fun loc h => onX (x loc) loc (fun v h₁ => onX (y loc) loc (fun ov h₂ => onX (z loc) loc (fun iv h₃ => onX (setItem S.P ov iv v) loc (fun _ h₄ => some (.ok none, loc, h₄)) h₃) h₂) h₁) h) := by
  intro loc m cs os σ s r loc' σ' F e Q E hQ
  refine assign_arm swap_sub stores_sub rfl (sx_on F (hx _ _ _ _ F.vars) e (hQ.err List.prefix_rfl) fun b σ₁ e2 os₁ h₁ tk a k F₁ hr => ?_)
  rw [arm_assign_Subscript]
  refine wpAny_bind (wpAny_holding (sx_on (s := { s with heap := h₁, toks := tk }) F₁ (hy _ _ _ _ F₁.vars) e2 (hQ.err k) fun ob σ₂ e3 os₂ h₂ tk₂ oa k₂ F₂ hr₂ => wpAny_bind (wpAny_holding ?_)))
  refine sx_on (s := { s with heap := h₂, toks := tk₂ }) F₂ (hz _ _ _ _ F₂.vars) e3 (hQ.err (k.trans k₂)) fun jb σ₃ e4 os₃ h₃ tk₃ ja k₃ F₃ hr₃ => wpAny_bind (wpAny_standAt (wpAny_bind (wpAny_holding ?_)))
  refine sx_on (s := { s with heap := h₃, toks := tk₃ }) F₃ (sm_setItem (hr₂.mono k₃) hr₃ (hr.mono (k₂.trans k₃))) e4 (hQ.err (k.trans (k₂.trans k₃))) fun _ σ₄ e5 os₄ h₄ tk₄ _ k₄ F₄ _ => wpAny_release' ?_
  cases e5
  exact hQ m cs os₄ h₄ tk₄ (k.trans (k₂.trans (k₃.trans k₄))) F₄

theorem sx_for (nd : S.T.Nodup) (SO : ScOK sc d.env) (hk : d.env.scope.kind = .function) (hloc : d.env.locals = d.L) (hh : d.A.handled = none) {it : Expr} {nm : Str} {px pos : Pos} {b : List Stmt} {i : Nat} {x : Loc → X V} {y : XS} (hn : S.T[i]? = some nm) (hs : StoreOK sc d.env nm) (hset : isSet it = false)
    (hx : ∀ m cs ρ loc, VarsOK S (d.cx m cs) sc ρ loc → SM S (d.cx m cs) ρ VR (eval it d.env) (x loc)) (hy : ∀ kp', SX S { d with kp := kp' } sc (execs b d.env) y) :
    SX S d sc (exec (.For (.Name nm px) it b [] pos) d.env) (fun loc h => onX (x loc) loc (fun v h₁ => match iterOf v h₁ with | none => none | some vs => forL v [i] false y h₁ vs loc h₁) h) := by
  intro loc m cs os σ s r loc' σE F e Q E hQ
  refine wpAny_For (sx_on F (hx _ _ _ _ F.vars) e (hQ.err List.prefix_rfl) fun v σ₁ e2 os₁ h₁ tk xv k F₁ hv => ?_) (not_set hset d.env)
  cases hi : iterOf v σ₁ with
  | none => rw [hi] at e2; cases e2
  | some vs =>
    rw [hi] at e2
    dsimp only at e2
    refine it_new (s := { s with heap := h₁, toks := tk }) F₁.led List.prefix_rfl hv hi fun I o₀ h₂ l₂ it₂ => ?_
    have l₂' : Led S d.h₀ d.L m d.fs (d.kp ++ (I, o₀) :: cs) os₁ σ₁ h₂ := l₂.kperm (by simpa using (List.perm_append_comm (l₁ := cs) (l₂ := [(I, o₀)])).append_left d.kp)
    refine codeAny_forLoop (fun kk s' => ∃ h' tk' os' σ' m' cs' l' o j, s' = { s with heap := h', toks := tk' } ∧ adr os₁ <+: adr os' ∧ VarsOK S (d.cx m' cs') sc (adr os') l' ∧ CellsOK d.env cs' ∧ Led S d.h₀ d.L m' d.fs (d.kp ++ (I, o) :: cs') os' σ' h' ∧
        ItAt h' I (adr os') v σ' j ∧ still v σ₁ σ' = true ∧ forL v [i] false y σ₁ (vs.drop j) l' σ' = some (r, loc', σE) ∧ j ≤ vs.length ∧ kk = vs.length + 1 - j) ?_ (vs.length + 1)
      ⟨h₂, tk, os₁, σ₁, m, cs, loc, o₀, 0, rfl, List.prefix_rfl, F₁.vars, F₁.cells, l₂', it₂, still_refl v σ₁, by simpa using e2, Nat.zero_le _, rfl⟩
    rintro kk s' ⟨h', tk', os', σ', m', cs', l', o, j, rfl, k', V', C', L', it', st, hL', hj, rfl⟩
    have hi' : iterOf v σ' = some vs := (still_iter st).trans hi
    cases hvj : vs[j]? with
    | none =>
      have hjv : vs.length ≤ j := List.getElem?_eq_none_iff.mp hvj
      rw [List.drop_eq_nil_of_le hjv] at hL'
      cases hL'
      refine it_done (s := { s with heap := h', toks := tk' }) hh L' it' hi' hvj fun h₄ l₄ => ?_
      exact wpAny_execs_nil (hQ m' cs' os' h₄ tk' (k.trans k') ⟨V', C', l₄⟩)
    | some yv =>
      obtain ⟨hjl, hjy⟩ := List.getElem?_eq_some_iff.mp hvj
      rw [List.drop_eq_getElem_cons hjl, hjy] at hL'
      unfold forL at hL'
      have hb : bindTg [i] false yv l' σ' = some (l'.upd i yv) := rfl
      rw [hb] at hL'
      dsimp only at hL'
      refine it_next (s := { s with heap := h', toks := tk' }) L' it' hi' hvj fun o' h₄ tk₄ xw l₄ it₄ hxw => ?_
      have l₄' : ({ d with kp := d.kp ++ (I, o') :: [] }.cx m' cs').led S os' σ' h₄ := by
        show Led S d.h₀ d.L m' d.fs ((d.kp ++ (I, o') :: []) ++ cs') os' σ' h₄
        simpa using l₄
      have Vk : VarsOK S ({ d with kp := d.kp ++ (I, o') :: [] }.cx m' cs') sc (adr os') l' := by
        intro a w nma h1 h2 h3
        obtain ⟨z, q, hz⟩ := V' a w nma h1 h2 h3
        refine ⟨z, ?_, hz⟩
        rcases q with q | ⟨q1, b, ob, q2, q3, q4⟩
        · exact .inl q
        · refine .inr ⟨q1, b, ob, q2, ?_, q4⟩
          simp only [List.mem_append] at q3 ⊢
          rcases q3 with q3 | q3
          · exact .inl (.inl q3)
          · exact .inr q3
      refine wpAny_assign_Name (store_var (d := { d with kp := d.kp ++ (I, o') :: [] }) nd SO hk hloc (s := { s with heap := h₄, toks := tk₄ }) ⟨Vk, C', l₄'⟩ hn hs hxw fun m₅ cs₅ h₅ tk₅ F₅ => ?_)
      have memI : ∀ {hh : Heap} {oo : List (Addr × Obj)} {ss : H} {mm : Str → Option Value} {cc : List (Addr × Obj)}, ({ d with kp := d.kp ++ (I, o') :: [] }.cx mm cc).led S oo ss hh → hh.get? I = some o' := fun l => (l.news (I, o') (by simp)).1
      cases hq : y (l'.upd i yv) σ' with
      | none => rw [hq] at hL'; cases hL'
      | some p =>
        obtain ⟨rr, l₆, σ₆⟩ := p
        rw [hq] at hL'
        refine hy (d.kp ++ (I, o') :: []) (l'.upd i yv) m₅ cs₅ os' σ' { s with heap := h₅, toks := tk₅ } rr l₆ σ₆ F₅ hq _ _ fun m₆ cs₆ os₆ h₆ tk₆ k₆ F₆ => ?_
        have L₆ : Led S d.h₀ d.L m₆ d.fs (d.kp ++ (I, o') :: cs₆) os₆ σ₆ h₆ := by
          have this : Led S d.h₀ d.L m₆ d.fs ((d.kp ++ (I, o') :: []) ++ cs₆) os₆ σ₆ h₆ := F₆.led
          simpa using this
        have V₆ : VarsOK S (d.cx m₆ cs₆) sc (adr os₆) l₆ := vars_kp (d := { d with kp := d.kp ++ (I, o') :: [] }) (kp' := d.kp) F₆
        cases rr with
        | err q => cases hL'
        | ok ov =>
          cases ov with
          | none =>
            dsimp only at hL'
            split at hL'
            · rename_i hst
              refine ⟨vs.length + 1 - (j + 1), by lia, h₆, tk₆, os₆, σ₆, m₆, cs₆, l₆, o', j + 1, rfl, k'.trans k₆, V₆, F₆.cells, L₆, it₄.at (fun ob q => ?_) k₆ (still_trans (still_sym st) hst), hst, hL', hjl, rfl⟩
              rw [memI l₄'] at q; cases q; exact memI F₆.led
            · cases hL'
          | some w =>
            cases hL'
            exact hQ m₆ cs₆ os₆ h₆ tk₆ (k.trans (k'.trans k₆)) ⟨V₆, F₆.cells, L₆.kdrop⟩
end
end Mine

set_option autoImplicit false
namespace Mine
open PySem PySem.W PySem.Calls PyProof.Rows
variable {S : Sig}

theorem funFrames_intro {h base : Heap} : ∀ {l : List Env}, (∀ e ∈ l, e.scope.kind ≠ .module ∧ ∃ L o, e.frame = some L ∧ base.get? L = none ∧ h.get? L = some o ∧ ∀ vs, o.data ≠ .fields vs) → h.FunFrames base l
  | [], _ => trivial
  | _ :: _, k => ⟨(k _ (.head _)).1, (k _ (.head _)).2, funFrames_intro fun e he => k e (.tail _ he)⟩
theorem ns_there {h : Heap} {a : Addr} {m : Str → Option Value} (x : h.Ns a m) : ∃ o, h.get? a = some o ∧ ∀ vs, o.data ≠ .fields vs := by
  obtain ⟨o, es, ep, ho, hd, _⟩ := x
  exact ⟨o, ho, fun vs q => by rw [hd] at q; cases q⟩

section
variable {h₀ h h' : Heap} {L : Addr} {m : Str → Option Value} {fs : Fs} {kp os : List (Addr × Obj)} {σ : H}
theorem Led.slots (l : Led S h₀ L m fs kp os σ h) (sm : h.UpToSlots h') (st : h₀.StaysIn h') (kb : ∀ p ∈ kp ++ os, h'.get? p.1 = some p.2) : Led S h₀ L m fs kp os σ h' :=
  ⟨Fr.of_stays l.fr st sm, fun p hp => ⟨kb p hp, (l.news p hp).2⟩, l.nd, l.objs, fun f hf => ⟨sm.ns (l.outs f hf).1, (l.outs f hf).2⟩, l.top, l.big, l.frz⟩
theorem Led.frame (l : Led S h₀ L m fs kp os σ h) {b : Addr} (hb : b ∈ L :: fs.map (·.1)) : h₀.get? b = none ∧ b ∉ adr (kp ++ os) ∧ ∃ o, h.get? b = some o ∧ ∀ vs, o.data ≠ .fields vs := by
  rcases List.mem_cons.mp hb with rfl | hb
  · refine ⟨none_above l.fr, fun hm => ?_, ns_there l.fr.ns⟩
    obtain ⟨p, hp, e⟩ := List.mem_map.mp hm
    exact (l.news p hp).2.1 e
  · obtain ⟨f, hf, rfl⟩ := List.mem_map.mp hb
    have := l.outs f hf
    exact ⟨this.2.2.1, this.2.2.2, ns_there this.1⟩
end

section
variable {c : Cx} {n : Nat} {os : List (Addr × Obj)} {σ : H} {h h' : Heap}
theorem fly_made (K : CtxOK S n c) (l : c.led S os σ h) {e C : Addr} {vs : List Value} {k : Nat} (hk : S.ex k = some C) (hx : Heap.MadeExcOf h h' e (.ref C) vs) : Fly S c os (.ref e) k h' := by
  obtain ⟨fr, h1, h2⟩ := K.frs
  have hb : ∀ b, b ∈ fr.filterMap (·.frame) → c.h₀.get? b = none ∧ b ∉ adr (c.kp ++ os) := fun b hb => by
    obtain ⟨ev, he, hf⟩ := List.mem_filterMap.mp hb
    obtain ⟨_, b', g1, g2⟩ := h2 ev he
    rw [hf] at g1; cases g1
    exact ⟨(l.frame g2).1, (l.frame g2).2.1⟩
  refine ⟨e, C, hideAll h (fr.filterMap (·.frame)), fr, rfl, hk, h1, ⟨fun b o q => hx.keeps b o (of_hideAll _ q), ?_, ?_, .inr ?_⟩, fun b o q => ?_, fun p hp => ?_⟩
  · cases q : (hideAll h (fr.filterMap (·.frame))).get? e with
    | none => rfl
    | some o => have := of_hideAll _ q; rw [hx.new] at this; cases this
  · refine funFrames_intro fun ev he => ?_
    obtain ⟨g0, b, g1, g2⟩ := h2 ev he
    obtain ⟨_, _, o, g3, g4⟩ := l.frame g2
    exact ⟨g0, b, o, g1, hideAll_none _ (List.mem_filterMap.mpr ⟨ev, he, g1⟩), hx.keeps _ _ g3, g4⟩
  · obtain ⟨t, he, _, _⟩ := hx.there
    exact ⟨_, _, _, he, rfl, rfl, rfl, rfl⟩
  · refine hideAll_get _ (l.fr.keep b o q) fun hm => ?_
    rw [(hb b hm).1] at q; cases q
  · exact hideAll_get _ (l.news p hp).1 fun hm => (hb _ hm).2 (List.mem_map_of_mem hp)

variable {M : Model} {A : Around} {E : Value → Shared → Prop} {s : Shared}
theorem fly_note {B : Heap} {env : Env} {outer : List Env} {L a : Addr} {cls : Value} {Q : Unit → Shared → Prop} (hfr : A.frames = some (env :: outer)) (hf : env.frame = some L) (F : FlyB B (env :: outer) a cls s.heap)
    (hQ : ∀ h' a0, Heap.HeldW B (env :: outer) a cls a0 L h' → s.heap.UpToSlots h' → Q () { s with heap := h' }) : wpAny M A (noteFrame (.ref a) env) Q E s := by
  obtain ⟨f1, f2, f3, ⟨a0, f4⟩ | ⟨oe, vs, a0, g1, rfl, g3, g4, g5⟩⟩ := F
  · exact wpAny_looks_onW hfr hf ⟨f1, f2, f3, f4⟩ fun h' x y => hQ h' a0 x y
  · unfold noteFrame
    simp only [hf]
    refine wpAny_bind (wpAny_field g1 g3 g4 ?_)
    rw [if_neg (by decide)]
    exact wpAny_entryW hfr f3 hf g1 f1 f2 g3 (Array.getElem?_eq_some_iff.mp g4).1 g5 fun h' x => hQ h' a0 ⟨x.1, f2, x.2.1, x.2.2.1⟩ x.2.2.2
theorem fly_leave {B : Heap} {env : Env} {outer : List Env} {L a : Addr} {cls : Value} {Q : Unit → Shared → Prop} (hfr : A.frames = some (env :: outer)) (hf : env.frame = some L) (F : FlyB B (env :: outer) a cls s.heap)
    (hQ : ∀ h', FlyB B outer a cls h' → s.heap.UpToSlots h' → Q () { s with heap := h' }) : wpAny M A (leaving env (.ref a)) Q E s := by
  unfold leaving
  refine wpAny_bind (fly_note hfr hf F fun h₁ a0 x y => ?_)
  exact wpAny_landsW x fun h₂ z u => hQ h₂ ⟨z.1, z.2.1, z.2.2.1.2.2, .inl ⟨a0, z.2.2.2⟩⟩ (y.trans u)
end
end Mine

set_option autoImplicit false
namespace Mine
open PySem PySem.W PySem.Calls PyProof.Rows
variable {S : Sig}

section
variable {d : Dx} {sc : Scope} {n : Nat} {c : Nat} {C : Addr} {nm : Str}
theorem sx_rais (OK : SigOK S) (K : ∀ m cs, CtxOK S n (d.cx m cs)) (SO : ScOK sc d.env) (hC : S.ex c = some C) (hn : S.T[c]? = some nm) (hg : isGlob sc nm = true) {st : Str} (hs : okS st = true) {kd : Nat} {q cp p pos : Pos} :
    SX S d sc (exec (.Raise (some (.Call (.Name nm q) [.Constant (.str st) kd cp] [] p)) none pos) d.env) (fun loc h => some (.err c, loc, h)) := by
  intro loc m cs os σ s r loc' σ' F e Q E hQ
  cases e
  obtain ⟨nm', h1, h2, h3⟩ := OK.exs c C hC
  rw [hn] at h1; cases h1
  obtain ⟨bm, N, nm', qn, bs, hdct, sn, sub, ab, col, dd, k0, k1, k2, k3, k5, mN, hC', hN, hni, T⟩ := h3 _ (K m cs).kin
  have hg' := Bool.and_eq_true_iff.mp hg
  refine wpAny_Raise_call_subT (C := C) (nm := nm') (q := qn) (N := N) (bs := bs) (bm := bm) (hdct := hdct) (sn := sn) (sub := sub) (ab := ab) (col := col) (dd := dd) (k0 := k0) (k1 := k1) (k2 := k2) (k3 := k3) (k5 := k5) PySem.F.excBase_ValueError (mN := mN) (T.hasType PySem.F.excBase_ValueError.hasBase) (K m cs).hand rfl hni ?_
  refine sm_top (c := d.cx m cs) (ρ := adr os) (x := V.none) (RV := fun _ _ v => v = .ref C) (K m cs) (SO.glob _ (of_decide_eq_true hg'.1)) (by simpa using hg'.2) h2 (fun _ => rfl) os σ s _ _ List.prefix_rfl F.led rfl _ _ fun os₁ h₁ tk₁ f k₁ l₁ hf => ?_
  refine ⟨hf, ?_⟩
  refine Calls.evalArgs_plain (Calls.spliced_cons (sm_const_str (c := d.cx m cs) (ρ := adr os₁) (k := kd) (p := cp) hs os₁ σ { s with heap := h₁, toks := tk₁ } _ _ List.prefix_rfl l₁ rfl _ _ fun os₂ h₂ tk₂ v k₂ l₂ _ => Calls.spliced_nil ?_))
  exact ⟨rfl, Nat.le_of_ble_eq_true rfl, l₂.fr.keep _ _ hC', hN.keeps l₂.fr.keep, T.keeps l₂.fr.keep, fun h' e hx => hQ m cs os₂ h' tk₂ (k₁.trans k₂) (F.step (k₁.trans k₂) (l₂.keep hx.keeps)) _ (fly_made (K m cs) l₂ hC hx)⟩

theorem sx_try (OK : SigOK S) (K : ∀ m cs, CtxOK S n (d.cx m cs)) (TF : ∃ outer, d.A.frames = some (d.env :: outer) ∧ d.env.frame = some d.L) (SO : ScOK sc d.env) (hC : S.ex c = some C) (hn : S.T[c]? = some nm) (hg : isGlob sc nm = true)
    {x : XS} {body : List Stmt} (hx : SX S d sc (execs body d.env) x) {r : Ex} {v : V} (hv : kstV r = some v) {re : Expr} (hr : ∀ c' : Cx, SM S c' [] VR (eval re c'.env) (X.pure v)) {np rp hp pos : Pos} :
    SX S d sc (exec (.Try body [.ExceptHandler (some (.Name nm np)) none [.Return (some re) rp] hp] [] [] pos) d.env) (fun loc h => tryX (x loc h) c r) := by
  intro loc m cs os σ s r' loc' σ' F e Q E hQ
  refine wpAny_Try_except ?_
  have e : tryX (x loc σ) c r = some (r', loc', σ') := e
  cases hxx : x loc σ with
  | none => rw [hxx] at e; cases e
  | some p =>
    obtain ⟨rr, l₁, σ₁⟩ := p
    rw [hxx] at e
    refine hx loc m cs os σ s rr l₁ σ₁ F hxx _ _ fun m₁ cs₁ os₁ h₁ tk₁ k₁ F₁ => ?_
    cases rr with
    | ok o =>
      cases e
      cases o with
      | none => exact wpAny_execs_nil (hQ m₁ cs₁ os₁ h₁ tk₁ k₁ F₁)
      | some w => exact hQ m₁ cs₁ os₁ h₁ tk₁ k₁ F₁
    | err k =>
      have e : (if k = c then (kstV r).map fun v => (R.ok (some v), l₁, σ₁) else none) = some (r', loc', σ') := e
      by_cases hkc : k = c
      · subst hkc
        rw [if_pos rfl, hv] at e
        cases e
        rintro ev ⟨a, C', B, l, rfl, hC', hfr, FB, hB, hkB⟩
        rw [hC] at hC'; cases hC'
        obtain ⟨outer, t1, t2⟩ := TF
        obtain rfl : d.env :: outer = l := Option.some.inj (t1.symm.trans hfr)
        refine fly_note t1 t2 FB fun h₄ a0 held sm₄ => wpAny_landsW held fun h₅ fl₅ sm₅ => ?_
        have sm := sm₄.trans sm₅
        have L₅ := F₁.led.slots sm (fun b o q => fl₅.1 b o (hB b o q)) fun p hp => fl₅.1 _ _ (hkB p hp)
        obtain ⟨ob, hob, hobc⟩ := fl₅.there
        obtain ⟨nm', h1, h2, h3⟩ := OK.exs k C hC
        rw [hn] at h1; cases h1
        obtain ⟨bm, N, nm', qn, bs, hdct, sn, sub, ab, col, dd, k0, k1, k2, k3, k5, mN, hC', hN, hni, T⟩ := h3 _ ((K m cs).kin.keeps L₅.fr.keep)
        have hg' := Bool.and_eq_true_iff.mp hg
        obtain ⟨mg, mb, g1, g2, g3⟩ := (K m cs).top
        refine wpAny_handleBy_cons (codeAny_handlers_test (Name_function_global (K m cs).kind (SO.glob _ (of_decide_eq_true hg'.1)) (loadGlobal_global ((K m cs).glob ▸ g1.keeps L₅.fr.keep) (mg_of (K m cs).kin g1 h2) ?_) (by simpa using hg'.2))) (by intro q; cases q)
        refine wpAny_excMatches_sub_self hC' hob hobc (T.hasType PySem.F.excBase_ValueError.hasBase) (codeAny_handlers_suite ?_)
        refine lands_againW fl₅ fun h₆ fl₆ sm₆ => ?_
        have L₆ := L₅.slots sm₆ (fun b o q => fl₆.1 b o (hB b o q)) fun p hp => fl₆.1 _ _ (hkB p hp)
        refine wpAny_execs_cons (wpAny_Return_some ?_)
        refine hr { d.cx m₁ cs₁ with A := d.A.mark (some (.ref a)) } os₁ σ' { s with heap := h₆, toks := tk₁ } _ _ (List.nil_prefix) L₆ rfl _ _ fun os₇ h₇ tk₇ w k₇ l₇ hw => ?_
        exact hQ m₁ cs₁ os₇ h₇ tk₇ (k₁.trans k₇) ⟨F₁.vars.mono k₇, F₁.cells, l₇⟩ w hw
      · rw [if_neg hkc] at e; cases e
end
end Mine

set_option autoImplicit false
namespace Mine
open PySem PySem.W PySem.Calls PyProof.Rows
variable {S : Sig}

theorem Led.kadd {h₀ h : Heap} {L : Addr} {m : Str → Option Value} {fs : Fs} {kp os : List (Addr × Obj)} {σ : H} (l : Led S h₀ L m fs kp os σ h) {q : Addr} {x : Obj} (hx : h.get? q = some x) (q1 : q ≠ L) (q2 : h₀.get? q = none) (q3 : q ∉ adr (kp ++ os)) (q4 : ∀ f ∈ fs, f.1 ≠ q) (hq : mainGlobals < q) :
    Led S h₀ L m fs (kp ++ (q, x) :: []) os σ h := by
  have mem : ∀ p, p ∈ (kp ++ (q, x) :: []) ++ os → p = (q, x) ∨ p ∈ kp ++ os := fun p hp => by
    have := mid_mem hp
    rwa [List.append_nil] at this
  refine ⟨l.fr, fun p hp => ?_, ?_, l.objs, fun f hf => ⟨(l.outs f hf).1, (l.outs f hf).2.1, (l.outs f hf).2.2.1, fun hm => ?_⟩, l.top, fun b hb => ?_, l.frz⟩
  · rcases mem p hp with rfl | hp
    · exact ⟨hx, q1, q2⟩
    · exact l.news p hp
  · have nd := l.nd
    unfold adr at nd q3 ⊢
    rw [List.map_append] at nd q3
    obtain ⟨n1, n2, n3⟩ := List.nodup_append.mp nd
    rw [List.append_assoc, List.map_append, List.cons_append, List.nil_append, List.map_cons]
    refine List.nodup_append.mpr ⟨n1, List.nodup_cons.mpr ⟨fun e => q3 (List.mem_append_right _ e), n2⟩, fun b hb d hd e => ?_⟩
    rcases List.mem_cons.mp hd with rfl | hd
    · exact q3 (List.mem_append_left _ (e ▸ hb))
    · exact n3 b hb d hd e
  · obtain ⟨p, hp, e⟩ := List.mem_map.mp hm
    rcases mem p hp with rfl | hp
    · exact q4 f hf e.symm
    · exact (l.outs f hf).2.2.2 (e ▸ List.mem_map_of_mem hp)
  · obtain ⟨p, hp, rfl⟩ := List.mem_map.mp hb
    rcases mem p hp with rfl | hp
    · exact notMods hq
    · exact l.big _ (List.mem_map_of_mem hp)
theorem Led.leaveK {h₀ h : Heap} {L C : Addr} {m mC : Str → Option Value} {fs : Fs} {kp os : List (Addr × Obj)} {σ : H} (l : Led S h₀ C mC ((L, m) :: fs) kp os σ h) (ab : h₀.objs.size ≤ L) (ne : ∀ f ∈ fs, f.1 ≠ L) :
    ∃ oC, NsObj oC mC ∧ Led S h₀ L m fs (kp ++ (C, oC) :: []) os σ h := by
  obtain ⟨oC, hC, hN⟩ := ns_obj l.fr.ns
  have l' := l.leave ab ne (h' := h) fun b o _ e => e
  refine ⟨oC, hN, l'.kadd hC (Ne.symm (l.outs _ (.head _)).2.1) (none_above l.fr) (fun hm => ?_) (fun f hf => (l.outs f (.tail _ hf)).2.1) ?_⟩
  · obtain ⟨p, hp, e⟩ := List.mem_map.mp hm
    exact (l.news p hp).2.1 e
  · obtain ⟨o, ho⟩ := l.top
    exact Nat.lt_of_lt_of_le (Heap.lt_size ho) l.fr.above

section
variable {d : Dx} {sc sc' : Scope} {n : Nat}
theorem sx_asg_used (nd : S.T.Nodup) (SO : ScOK sc d.env) (K : ∀ m cs, CtxOK S n (d.cx m cs)) {nm nm' : Str} {px q pos pos' : Pos} {i i' : Nat} {ite elt : Expr} {ifs : List Expr} (hn : S.T[i]? = some nm) (hs : StoreOK sc d.env nm)
    (hsw : swapsWith (.ListComp elt [⟨.Name nm' q, ite, ifs, 0⟩] sc' pos') (some (.Name nm px)) pos.line d.env = pure true)
    (hn' : S.T[i']? = some nm') (hsc : compScope S.nam sc sc' nm' = true) (hset : isSet ite = false) {xi : Loc → X V} {t : Loc → X Bool} {e : Loc → X V}
    (hit : ∀ m cs ρ loc, VarsOK S (d.cx m cs) sc ρ loc → SM S (d.cx m cs) ρ VR (eval ite d.env) (xi loc))
    (ht : ∀ (c' : Cx) (ρ' : List Addr) (loc' : Loc), CtxOK S n c' → ScOK sc' c'.env → VarsOK S c' sc' ρ' loc' → SM S c' ρ' EqR (condTree ifs c'.env) (t loc'))
    (he : ∀ (c' : Cx) (ρ' : List Addr) (loc' : Loc), CtxOK S n c' → ScOK sc' c'.env → VarsOK S c' sc' ρ' loc' → SM S c' ρ' VR (eval elt c'.env) (e loc')) :
    SX S d sc (exec (.Assign [.Name nm px] (.ListComp elt [⟨.Name nm' q, ite, ifs, 0⟩] sc' pos') pos) d.env)
      (fun loc h => onX (X.bind (xi loc) fun v => fun h => match iterOf v h with | none => none | some vs => X.bind (compL v [i'] false t e loc h vs) (fun ws => alloc (.list ws)) h) loc (fun v h₁ => some (.ok none, loc.upd i v, h₁)) h) := by
  intro loc m cs os σ s r loc' σ' F ee Q E hQ
  rw [exec_Assign_Name_used _ _ _ _ hsw]
  refine wpAny_bind (wpAny_standAt (wpAny_bind ?_))
  show wpAny _ d.A (do let _ ← comprehension (.ListComp elt [⟨.Name nm' q, ite, ifs, 0⟩] sc' pos') sc' d.env _ (newList []) false (eval ite d.env) (some (assign (.Name nm px) d.env))) _ _ s
  have fin : ∀ (rr : R V), X.bind (xi loc) (fun v => fun h => match iterOf v h with | none => none | some vs => X.bind (compL v [i'] false t e loc h vs) (fun ws => alloc (.list ws)) h) σ = some (rr, σ') → (∀ b, rr = .ok b → r = .ok none ∧ loc' = loc.upd i b) → (∀ k, rr = .err k → r = .err k ∧ loc' = loc) →
      wpAny (model S.prog S.w) d.A (comprehension (.ListComp elt [⟨.Name nm' q, ite, ifs, 0⟩] sc' pos') sc' d.env (firstIterPos [⟨.Name nm' q, ite, ifs, 0⟩] pos') (newList []) false (eval ite d.env) (some (assign (.Name nm px) d.env))) (fun _ s' => Q .next s') E s := by
    intro rr hx hrr hre
    refine comp_run (c := d.cx m cs) (K m cs) SO F.vars nd hn' hsc hset (hit _ _ _ _ F.vars) ht he List.prefix_rfl F.led hx (use := some (assign (.Name nm px) d.env)) (Q := fun _ s' => Q .next s') (fun b hb os₁ h₁ tk₁ C mC D k₁ l₁ hD => ?_) fun k hk os₁ h₁ tk₁ e k₁ l₁ f => ?_
    rotate_left
    · obtain ⟨rfl, rfl⟩ := hre k hk
      exact hQ m cs os₁ h₁ tk₁ k₁ (F.step k₁ l₁) e f
    obtain ⟨rfl, rfl⟩ := hrr b hb
    obtain ⟨oC, hN, l₂⟩ := l₁.leaveK F.led.fr.above fun f hf => (F.led.outs f hf).2.1
    have l₃ : ({ d with kp := d.kp ++ (C, oC) :: [] }.cx m cs).led S os₁ σ' h₁ := by
      show Led S d.h₀ d.L m d.fs ((d.kp ++ (C, oC) :: []) ++ cs) os₁ σ' h₁
      refine l₂.kperm ?_
      have := (List.perm_append_comm (l₁ := cs) (l₂ := [(C, oC)])).append_left d.kp
      simpa using this
    have V₃ : VarsOK S ({ d with kp := d.kp ++ (C, oC) :: [] }.cx m cs) sc (adr os₁) loc := by
      have := vars_kp (kp' := d.kp ++ (C, oC) :: []) F
      exact this.mono k₁
    show wpAny _ d.A (assign (.Name nm px) d.env (.ref D)) _ _ _
    refine wpAny_assign_Name (store_var (d := { d with kp := d.kp ++ (C, oC) :: [] }) nd SO (K m cs).kind (K m cs).locs (s := { s with heap := h₁, toks := tk₁ }) ⟨V₃, F.cells, l₃⟩ hn hs hD fun m₅ cs₅ h₅ tk₅ F₅ => ?_)
    have L₅ : Led S d.h₀ d.L m₅ d.fs (d.kp ++ (C, oC) :: cs₅) os₁ σ' h₅ := by
      have this : Led S d.h₀ d.L m₅ d.fs ((d.kp ++ (C, oC) :: []) ++ cs₅) os₁ σ' h₅ := F₅.led
      simpa using this
    refine ⟨mC, hN.ns L₅.kmid.1, fun h₆ hs₆ => ?_⟩
    exact hQ m₅ cs₅ os₁ h₆ tk₅ k₁ ⟨vars_kp (d := { d with kp := d.kp ++ (C, oC) :: [] }) (kp' := d.kp) F₅, F₅.cells, L₅.extBut hs₆.extBut⟩
  rcases onX_inv ee with ⟨b, σ₁, e1, e2⟩ | ⟨k, e1, rfl, rfl⟩
  · cases e2
    refine wpAny_bind (wpAny_mono (fin _ e1 (fun b' hb => ?_) fun k hk => by cases hk) (fun _ s' hq => wpAny_pure (wpAny_pure hq)) fun _ _ z => z)
    cases hb; exact ⟨rfl, rfl⟩
  · exact wpAny_bind (wpAny_mono (fin _ e1 (fun b' hb => by cases hb) fun k' hk => by cases hk; exact ⟨rfl, rfl⟩) (fun _ s' hq => wpAny_pure (wpAny_pure hq)) fun _ _ z => z)
end

noncomputable def storable (sc : Scope) (nm : Str) : Bool := match sc.names.lookup nm with
  | some .local => true
  | some .cell => true
  | _ => false
/- parts of statements -/
noncomputable def tagS : Stmt → Nat
  | .FunctionDef .. => 0 | .AsyncFunctionDef .. => 1 | .ClassDef .. => 2 | .Return .. => 3 | .Delete .. => 4 | .Assign .. => 5 | .TypeAlias .. => 6 | .AugAssign .. => 7 | .AnnAssign .. => 8 | .For .. => 9 | .AsyncFor .. => 10 | .While .. => 11 | .If .. => 12 | .With .. => 13 | .AsyncWith .. => 14
  | .Match .. => 15 | .Raise .. => 16 | .Try .. => 17 | .TryStar .. => 18 | .Assert .. => 19 | .Import .. => 20 | .ImportFrom .. => 21 | .Global .. => 22 | .Nonlocal .. => 23 | .Expr .. => 24 | .Pass .. => 25 | .Break .. => 26 | .Continue .. => 27
set_option genInjectivity false in
structure Ps where
  x : Expr
  y : Expr
  ts : List Expr
  a : List Stmt
  b : List Stmt
  v : Option Expr
  pos : Pos
  w : Option Expr := none
  hs : List ExceptHandler := []
  f : List Stmt := []
noncomputable def noE : Expr := .Name "" noPos
noncomputable def ptS (t : Stmt) : Ps := match t with
  | .Return v p => ⟨noE, noE, [], [], [], v, p, none, [], []⟩
  | .Assign ts v p => ⟨v, v, ts, [], [], none, p, none, [], []⟩
  | .For g e a b p => ⟨g, e, [], a, b, none, p, none, [], []⟩
  | .While e a b p => ⟨e, e, [], a, b, none, p, none, [], []⟩
  | .If e a b p => ⟨e, e, [], a, b, none, p, none, [], []⟩
  | .Expr v p => ⟨v, v, [], [], [], none, p, none, [], []⟩
  | .Pass p => ⟨noE, noE, [], [], [], none, p, none, [], []⟩
  | .Raise v w p => ⟨noE, noE, [], [], [], v, p, w, [], []⟩
  | .Try a hs b f p => ⟨noE, noE, [], a, b, none, p, none, hs, f⟩
  | _ => ⟨noE, noE, [], [], [], none, noPos, none, [], []⟩
noncomputable def isTS (t : Stmt) (n : Nat) : Bool := decide (tagS t = n)
noncomputable def ckT (N : Nam) (sc : Scope) (t : Tg) (x : Expr) : Bool := match t with
  | .var i => isT x 23 && (nameIs N i (ptE x).nm && storable sc (ptE x).nm)
  | .attr o i => isT x 20 && (nameIs N i (ptE x).nm && ckE N sc o (ptE x).x)
  | .sub o i => isT x 21 && (ckE N sc o (ptE x).x && ckE N sc i (ptE x).y)
noncomputable def hdT : ExceptHandler → Option Expr
  | .ExceptHandler t _ _ _ => t
noncomputable def hdN : ExceptHandler → Option Str
  | .ExceptHandler _ n _ _ => n
noncomputable def hdB : ExceptHandler → List Stmt
  | .ExceptHandler _ _ b _ => b
noncomputable def ckH (N : Nam) (sc : Scope) (c : Nat) (r : Ex) (h : ExceptHandler) : Bool :=
  (N.ex c).isSome && ((hdN h).isNone && ((onO (hdT h) fun e => isT e 23 && (nameIs N c (ptE e).nm && isGlob sc (ptE e).nm)) && onO (one (hdB h)) fun s => isTS s 3 && onO (ptS s).v fun v => (kstV r).isSome && ckE N sc r v))
mutual
noncomputable def ckS (N : Nam) (sc : Scope) : St → Stmt → Bool
  | .expr e, t => isTS t 24 && (!isComp (ptS t).x && ckE N sc e (ptS t).x)
  | .asg g e, t => isTS t 5 && onO (one (ptS t).ts) fun x => ckT N sc g x && ckE N sc e (ptS t).x
  | .ite c a b, t => isTS t 12 && (ckE N sc c (ptS t).x && (ckSs N sc a (ptS t).a && ckSs N sc b (ptS t).b))
  | .whl c b, t => isTS t 11 && (nil? (ptS t).b && (ckE N sc c (ptS t).x && ckSs N sc b (ptS t).a))
  | .for tg tup e b, t => isTS t 9 && onO (one tg) fun i => isT (ptS t).x 23 && (!tup && (nil? (ptS t).b && (nameIs N i (ptE (ptS t).x).nm && (storable sc (ptE (ptS t).x).nm && (!isSet (ptS t).y && (ckE N sc e (ptS t).y && ckSs N sc b (ptS t).a))))))
  | .ret e, t => isTS t 3 && onO (ptS t).v fun v => ckE N sc e v
  | .ret0, t => isTS t 3 && (ptS t).v.isNone
  | .pass, t => isTS t 25
  | .rais c s, t => isTS t 16 && ((ptS t).w.isNone && onO (ptS t).v fun e => isCallN e && (nameIs N c (cN e) && (isGlob sc (cN e) && ((N.ex c).isSome && onO (one (cA e)) fun a => ckE N sc (.cstr s) a))))
  | .try b c r, t => isTS t 17 && (nil? (ptS t).b && (nil? (ptS t).f && (ckSs N sc b (ptS t).a && onO (one (ptS t).hs) fun h => ckH N sc c r h)))
termination_by structural x => x
noncomputable def ckSs (N : Nam) (sc : Scope) : Sts → List Stmt → Bool
  | .any, _ => true
  | .nil, xs => nil? xs
  | .cons s ss, xs => match xs with
    | x :: xs => ckS N sc s x && ckSs N sc ss xs
    | [] => false
termination_by structural x => x
end

end Mine

set_option autoImplicit false
namespace Mine
open PySem PySem.W PySem.Calls PyProof.Rows
variable {S : Sig}

theorem store_ok {env : Env} {nm : Str} (h : storable env.scope nm = true) : StoreOK env.scope env nm := by
  unfold storable at h
  split at h
  · rename_i e; exact .inl e
  · rename_i e; exact .inr ⟨e, e⟩
  · cases h
theorem ctx_kp {n : Nat} {d : Dx} (K : ∀ m cs, CtxOK S n (d.cx m cs)) (kp' : List (Addr × Obj)) : ∀ m cs, CtxOK S n ({ d with kp := kp' }.cx m cs) := fun m cs =>
  let k := K m cs; ⟨k.hand, k.units, k.depth, k.kin, k.top, k.lim, k.kind, k.glob, k.blt, k.locs, k.frs⟩
theorem swap_pure {v : Expr} {nm : Str} {p : Pos} {line : Nat} {env : Env} : ∃ b, swapsWith v (some (.Name nm p)) line env = pure b ∧ (isComp v = false → b = false) := by
  cases v <;> exact ⟨_, rfl, fun h => by first | rfl | cases h⟩

section
variable {N : Nam} {sc : Scope}
noncomputable def rebS (n : Nat) (t : Stmt) : Stmt := match n with
  | 24 => .Expr (ptS t).x (ptS t).pos
  | 5 => .Assign (ptS t).ts (ptS t).x (ptS t).pos
  | 12 => .If (ptS t).x (ptS t).a (ptS t).b (ptS t).pos
  | 11 => .While (ptS t).x (ptS t).a (ptS t).b (ptS t).pos
  | 9 => .For (ptS t).x (ptS t).y (ptS t).a (ptS t).b (ptS t).pos
  | 3 => .Return (ptS t).v (ptS t).pos
  | 25 => .Pass (ptS t).pos
  | 16 => .Raise (ptS t).v (ptS t).w (ptS t).pos
  | 17 => .Try (ptS t).a (ptS t).hs (ptS t).b (ptS t).f (ptS t).pos
  | _ => t
theorem stm_all (t : Stmt) : t = rebS (tagS t) t := by cases t <;> rfl
theorem stm_of {t : Stmt} {n : Nat} (h : isTS t n = true) : t = rebS n t := by
  have h2 := stm_all t
  rw [dec_t h] at h2
  exact h2
theorem u_expr {t : Stmt} (h : isTS t 24 = true) : t = .Expr (ptS t).x (ptS t).pos := stm_of h
theorem u_asg {t : Stmt} (h : isTS t 5 = true) : t = .Assign (ptS t).ts (ptS t).x (ptS t).pos := stm_of h
theorem u_if {t : Stmt} (h : isTS t 12 = true) : t = .If (ptS t).x (ptS t).a (ptS t).b (ptS t).pos := stm_of h
theorem u_while {t : Stmt} (h : isTS t 11 = true) : t = .While (ptS t).x (ptS t).a (ptS t).b (ptS t).pos := stm_of h
theorem u_for {t : Stmt} (h : isTS t 9 = true) : t = .For (ptS t).x (ptS t).y (ptS t).a (ptS t).b (ptS t).pos := stm_of h
theorem u_ret {t : Stmt} (h : isTS t 3 = true) : t = .Return (ptS t).v (ptS t).pos := stm_of h
theorem u_pass {t : Stmt} (h : isTS t 25 = true) : t = .Pass (ptS t).pos := stm_of h
theorem u_raise {t : Stmt} (h : isTS t 16 = true) : t = .Raise (ptS t).v (ptS t).w (ptS t).pos := stm_of h
theorem u_try {t : Stmt} (h : isTS t 17 = true) : t = .Try (ptS t).a (ptS t).hs (ptS t).b (ptS t).f (ptS t).pos := stm_of h
theorem cs_rais {c : Nat} {s : Str} {t : Stmt} (h : ckS N sc (.rais c s) t = true) : ∃ nm q k cp p pos, t = .Raise (some (.Call (.Name nm q) [.Constant (.str s) k cp] [] p)) none pos ∧ nameIs N c nm = true ∧ isGlob sc nm = true ∧ (N.ex c).isSome = true ∧ okS s = true := by
  obtain ⟨h1, h2⟩ := and_t (show (_ && _) = true from h)
  obtain ⟨g1, h2⟩ := and_t h2
  obtain ⟨e, h3, h2⟩ := onO_eq h2
  obtain ⟨g2, h2⟩ := and_t h2
  obtain ⟨g3, h2⟩ := and_t h2
  obtain ⟨g4, h2⟩ := and_t h2
  obtain ⟨g5, h2⟩ := and_t h2
  obtain ⟨a, h4, h2⟩ := onO_eq h2
  obtain ⟨k, cp, rfl, g6⟩ := ck_cstr h2
  obtain ⟨q, p, he⟩ := callN_eq g2
  rw [one_eq h4] at he
  have e1 := u_raise h1
  rw [Option.isNone_iff_eq_none.mp g1, h3] at e1
  exact ⟨_, q, k, cp, p, _, by rw [← he]; exact e1, g3, g4, g5, g6⟩
theorem cs_try {b : Sts} {c : Nat} {r : Ex} {t : Stmt} (h : ckS N sc (.try b c r) t = true) : ∃ body nm np re rp hp pos v, t = .Try body [.ExceptHandler (some (.Name nm np)) none [.Return (some re) rp] hp] [] [] pos ∧ ckSs N sc b body = true ∧ nameIs N c nm = true ∧ isGlob sc nm = true ∧ (N.ex c).isSome = true ∧ kstV r = some v ∧ ckE N sc r re = true := by
  obtain ⟨h1, h2⟩ := and_t (show (_ && _) = true from h)
  obtain ⟨g1, h2⟩ := and_t h2
  obtain ⟨g2, h2⟩ := and_t h2
  obtain ⟨g3, h2⟩ := and_t h2
  obtain ⟨hd, h3, h2⟩ := onO_eq h2
  obtain ⟨ty, n, bd, hp⟩ := hd
  obtain ⟨g4, h2⟩ := and_t (show (_ && _) = true from h2)
  obtain ⟨g5, h2⟩ := and_t h2
  obtain ⟨g6, h2⟩ := and_t h2
  obtain ⟨e, h4, g6⟩ := onO_eq g6
  obtain ⟨g6, g7⟩ := and_t g6
  obtain ⟨g7, g8⟩ := and_t g7
  obtain ⟨st, h5, h2⟩ := onO_eq h2
  obtain ⟨g9, h2⟩ := and_t h2
  obtain ⟨re, h6, h2⟩ := onO_eq h2
  obtain ⟨g10, g11⟩ := and_t h2
  obtain ⟨v, hv⟩ := Option.isSome_iff_exists.mp g10
  have e4 : ty = some e := h4
  have e5 : n = none := Option.isNone_iff_eq_none.mp g5
  have e6 : bd = [st] := one_eq h5
  have e7 := u_ret g9
  rw [h6] at e7
  have e8 := t_name g6
  have e1 := u_try h1
  rw [one_eq h3, nil_eq g1, nil_eq g2, e4, e5, e6, e7, e8] at e1
  exact ⟨_, _, _, re, _, hp, _, v, e1, g3, g7, g8, g4, hv, g11⟩
theorem cs_expr {e : Ex} {t : Stmt} (h : ckS N sc (.expr e) t = true) : ∃ v p, t = .Expr v p ∧ isComp v = false ∧ ckE N sc e v = true := by
  obtain ⟨h1, h2⟩ := and_t (show (_ && _) = true from h)
  obtain ⟨g1, g2⟩ := and_t h2
  exact ⟨_, _, u_expr h1, not_t g1, g2⟩
theorem cs_asg {tg : Tg} {e : Ex} {t : Stmt} (h : ckS N sc (.asg tg e) t = true) : ∃ x v p, t = .Assign [x] v p ∧ ckT N sc tg x = true ∧ ckE N sc e v = true := by
  obtain ⟨h1, h2⟩ := and_t (show (_ && _) = true from h)
  obtain ⟨x, h3, h2⟩ := onO_eq h2
  obtain ⟨g1, g2⟩ := and_t h2
  exact ⟨x, _, _, by rw [← one_eq h3] <;> exact u_asg h1, g1, g2⟩
theorem cs_ite {c : Ex} {a b : Sts} {t : Stmt} (h : ckS N sc (.ite c a b) t = true) : ∃ e x y p, t = .If e x y p ∧ ckE N sc c e = true ∧ ckSs N sc a x = true ∧ ckSs N sc b y = true := by
  obtain ⟨h1, h2⟩ := and_t (show (_ && _) = true from h)
  obtain ⟨g1, r1⟩ := and_t h2
  obtain ⟨g2, g3⟩ := and_t r1
  exact ⟨_, _, _, _, u_if h1, g1, g2, g3⟩
theorem cs_whl {c : Ex} {b : Sts} {t : Stmt} (h : ckS N sc (.whl c b) t = true) : ∃ e x p, t = .While e x [] p ∧ ckE N sc c e = true ∧ ckSs N sc b x = true := by
  obtain ⟨h1, h2⟩ := and_t (show (_ && _) = true from h)
  obtain ⟨g1, r1⟩ := and_t h2
  obtain ⟨g2, g3⟩ := and_t r1
  exact ⟨_, _, _, by rw [← nil_eq g1] <;> exact u_while h1, g2, g3⟩
theorem cs_for {tg : List Nat} {tup : Bool} {e : Ex} {b : Sts} {t : Stmt} (h : ckS N sc (.for tg tup e b) t = true) : ∃ i nm q it x p, tg = [i] ∧ tup = false ∧ t = .For (.Name nm q) it x [] p ∧ nameIs N i nm = true ∧ storable sc nm = true ∧ isSet it = false ∧ ckE N sc e it = true ∧ ckSs N sc b x = true := by
  obtain ⟨h1, h2⟩ := and_t (show (_ && _) = true from h)
  obtain ⟨i, h3, h2⟩ := onO_eq h2
  obtain ⟨g1, r1⟩ := and_t h2
  obtain ⟨g2, r2⟩ := and_t r1
  obtain ⟨g3, r3⟩ := and_t r2
  obtain ⟨g4, r4⟩ := and_t r3
  obtain ⟨g5, r5⟩ := and_t r4
  obtain ⟨g6, r6⟩ := and_t r5
  obtain ⟨g7, g8⟩ := and_t r6
  exact ⟨i, _, _, _, _, _, one_eq h3, not_t g2, by rw [← nil_eq g3, ← t_name g1] <;> exact u_for h1, g4, g5, not_t g6, g7, g8⟩
theorem cs_ret {e : Ex} {t : Stmt} (h : ckS N sc (.ret e) t = true) : ∃ v p, t = .Return (some v) p ∧ ckE N sc e v = true := by
  obtain ⟨h1, h2⟩ := and_t (show (_ && _) = true from h)
  obtain ⟨w, h3, h2⟩ := onO_eq h2
  exact ⟨w, _, by rw [← h3] <;> exact u_ret h1, h2⟩
theorem cs_ret0  {t : Stmt} (h : ckS N sc .ret0 t = true) : ∃ p, t = .Return none p := by
  obtain ⟨h1, h2⟩ := and_t (show (_ && _) = true from h)
  exact ⟨_, by rw [← Option.isNone_iff_eq_none.mp h2] <;> exact u_ret h1⟩
theorem ct_var {i : Nat} {t : Expr} (h : ckT N sc (.var i) t = true) : ∃ nm p, t = .Name nm p ∧ nameIs N i nm = true ∧ storable sc nm = true := by
  obtain ⟨h1, h2⟩ := and_t (show (_ && _) = true from h)
  obtain ⟨g1, g2⟩ := and_t h2
  exact ⟨_, _, t_name h1, g1, g2⟩
theorem ct_attr {o : Ex} {i : Nat} {t : Expr} (h : ckT N sc (.attr o i) t = true) : ∃ x nm p, t = .Attribute x nm p ∧ nameIs N i nm = true ∧ ckE N sc o x = true := by
  obtain ⟨h1, h2⟩ := and_t (show (_ && _) = true from h)
  obtain ⟨g1, g2⟩ := and_t h2
  exact ⟨_, _, _, t_attr h1, g1, g2⟩
theorem ct_sub {o i : Ex} {t : Expr} (h : ckT N sc (.sub o i) t = true) : ∃ x y p, t = .Subscript x y p ∧ ckE N sc o x = true ∧ ckE N sc i y = true := by
  obtain ⟨h1, h2⟩ := and_t (show (_ && _) = true from h)
  obtain ⟨g1, g2⟩ := and_t h2
  exact ⟨_, _, _, t_sub h1, g1, g2⟩
theorem cs_pass {t : Stmt} (h : ckS N sc .pass t = true) : ∃ p, t = .Pass p := ⟨_, u_pass h⟩
theorem comp_tag {v : Expr} (h : isComp v = true) : 8 ≤ tagE v ∧ tagE v ≤ 11 := by
  have h := and_t h
  exact ⟨Nat.le_of_ble_eq_true h.1, Nat.le_succ_of_le (Nat.le_of_ble_eq_true h.2)⟩
theorem comp_of {e : Ex} {v : Expr} (hc : isComp v = true) (h : ckE N sc e v = true) : ∃ elt tg tup it conds, e = .comp elt tg tup it conds := by
  have h1 := comp_tag hc
  rw [tag_of h] at h1
  cases e <;> first | exact ⟨_, _, _, _, _, rfl⟩ | exact absurd (show 8 ≤ 19 ∧ 19 ≤ 11 from h1) (by decide) | exact absurd (show 8 ≤ 23 ∧ 23 ≤ 11 from h1) (by decide) | exact absurd (show 8 ≤ 2 ∧ 2 ≤ 11 from h1) (by decide) | exact absurd (show 8 ≤ 3 ∧ 3 ≤ 11 from h1) (by decide) | exact absurd (show 8 ≤ 0 ∧ 0 ≤ 11 from h1) (by decide) | exact absurd (show 8 ≤ 15 ∧ 15 ≤ 11 from h1) (by decide) | exact absurd (show 8 ≤ 24 ∧ 24 ≤ 11 from h1) (by decide) | exact absurd (show 8 ≤ 25 ∧ 25 ≤ 11 from h1) (by decide) | exact absurd (show 8 ≤ 6 ∧ 6 ≤ 11 from h1) (by decide) | exact absurd (show 8 ≤ 20 ∧ 20 ≤ 11 from h1) (by decide) | exact absurd (show 8 ≤ 21 ∧ 21 ≤ 11 from h1) (by decide) | exact absurd (show 8 ≤ 16 ∧ 16 ≤ 11 from h1) (by decide)
end

theorem sm_kst {N : Nam} {sc : Scope} {r : Ex} {v : V} {re : Expr} (hv : kstV r = some v) (h : ckE N sc r re = true) (c' : Cx) : SM S c' [] VR (eval re c'.env) (X.pure v) := by
  cases r with
  | cbool b => obtain ⟨k, p, rfl⟩ := ck_cbool h; cases hv; exact sm_const_bool
  | cstr s =>
    obtain ⟨k, p, rfl, h1⟩ := ck_cstr h
    have hv : (if okS s = true then some (V.str s) else none) = some v := hv
    rw [if_pos h1] at hv; cases hv
    exact sm_const_str h1
  | _ => cases hv
mutual
theorem sx_st (OK : SigOK S) {C : Calls} {n : Nat} (HC : CallsOK S C n) (fuel : Nat) (x : St) {d : Dx} {t : Stmt} (K : ∀ m cs, CtxOK S (n + 2) (d.cx m cs)) (TF : ∃ outer, d.A.frames = some (d.env :: outer) ∧ d.env.frame = some d.L) (SO : ScOK d.env.scope d.env) (h : ckS S.nam d.env.scope x t = true) :
    SX S d d.env.scope (exec t d.env) (ex S.P C fuel x) := by
  match x, h with
  | .expr e, h =>
    obtain ⟨v, p, rfl, h1, h2⟩ := cs_expr h
    exact sx_expr (K (fun _ => none) []).kind h1 fun m cs ρ loc V => sm_ev OK HC e (K m cs) SO V h2
  | .asg (.var i) e, h =>
    obtain ⟨tx, v, pos, rfl, h1, h2⟩ := cs_asg h
    obtain ⟨nm, px, rfl, h3, h4⟩ := ct_var h1
    obtain ⟨b, hb, hb'⟩ := swap_pure (v := v) (nm := nm) (p := px) (line := pos.line) (env := d.env)
    cases b with
    | false => exact sx_asg_var OK.tab.nodup SO (K (fun _ => none) []).kind (K (fun _ => none) []).locs (T_eq h3) (store_ok h4) hb fun m cs ρ loc V => sm_ev OK HC e (K m cs) SO V h2
    | true =>
      have hc : isComp v = true := by
        cases q : isComp v with
        | true => rfl
        | false => exact (Bool.false_ne_true (hb' q).symm).elim
      have hcomp := comp_of hc h2
      obtain ⟨elt, tg, tup, it, conds, rfl⟩ := hcomp
      obtain ⟨i', l, nm', q, ite, ifs, sc', p, rfl, rfl, rfl, g1, g2, g3, g4, g5, g6⟩ := ck_comp h2
      exact sx_asg_used OK.tab.nodup SO K (T_eq h3) (store_ok h4) hb (T_eq g1) g2 g3 (fun m cs ρ loc V => sm_ev OK HC it (K m cs) SO V g4)
        (fun c' ρ' loc' K' SO' V' => sm_conds OK HC conds K' SO' V' g6) (fun c' ρ' loc' K' SO' V' => sm_ev OK HC elt K' SO' V' g5)
  | .asg (.attr o i) e, h =>
    obtain ⟨tx, v, pos, rfl, h1, h2⟩ := cs_asg h
    obtain ⟨y, nm, px, rfl, h3, h4⟩ := ct_attr h1
    exact sx_asg_attr OK.tab K (T_eq h3) (fun m cs ρ loc V => sm_ev OK HC e (K m cs) SO V h2) fun m cs ρ loc V => sm_ev OK HC o (K m cs) SO V h4
  | .asg (.sub o i) e, h =>
    obtain ⟨tx, v, pos, rfl, h1, h2⟩ := cs_asg h
    obtain ⟨y, z, px, rfl, h3, h4⟩ := ct_sub h1
    exact sx_asg_sub (fun m cs ρ loc V => sm_ev OK HC e (K m cs) SO V h2) (fun m cs ρ loc V => sm_ev OK HC o (K m cs) SO V h3) fun m cs ρ loc V => sm_ev OK HC i (K m cs) SO V h4
  | .ite c a b, h =>
    obtain ⟨e, y, z, p, rfl, h1, h2, h3⟩ := cs_ite h
    exact sx_if (fun m cs ρ loc V => sm_tst OK HC c (K m cs) SO V h1 (sm_ev OK HC c (K m cs) SO V h1)) (sx_sts OK HC fuel a K TF SO h2) (sx_sts OK HC fuel b K TF SO h3)
  | .whl c b, h =>
    obtain ⟨e, y, p, rfl, h1, h2⟩ := cs_whl h
    exact sx_while (fun m cs ρ loc V => sm_tst OK HC c (K m cs) SO V h1 (sm_ev OK HC c (K m cs) SO V h1)) (sx_sts OK HC fuel b K TF SO h2)
  | .for tg tup e b, h =>
    obtain ⟨i, nm, q, it, y, p, rfl, rfl, rfl, h1, h2, h3, h4, h5⟩ := cs_for h
    exact sx_for OK.tab.nodup SO (K (fun _ => none) []).kind (K (fun _ => none) []).locs (K (fun _ => none) []).hand (T_eq h1) (store_ok h2) h3 (fun m cs ρ loc V => sm_ev OK HC e (K m cs) SO V h4)
      fun kp' => sx_sts OK HC fuel b (d := { d with kp := kp' }) (ctx_kp K kp') TF SO h5
  | .ret e, h =>
    obtain ⟨v, p, rfl, h1⟩ := cs_ret h
    exact sx_ret fun m cs ρ loc V => sm_ev OK HC e (K m cs) SO V h1
  | .ret0, h =>
    obtain ⟨p, rfl⟩ := cs_ret0 h
    exact sx_ret0
  | .pass, h =>
    obtain ⟨p, rfl⟩ := cs_pass h
    exact sx_pass
  | .rais c msg, h =>
    obtain ⟨nm, q, k, cp, p, pos, rfl, h1, h2, h3, h4⟩ := cs_rais h
    obtain ⟨C', hC⟩ := Option.isSome_iff_exists.mp h3
    exact sx_rais OK K SO hC (T_eq h1) h2 h4
  | .try b c r, h =>
    obtain ⟨body, nm, np, re, rp, hp, pos, v, rfl, h1, h2, h3, h4, h5, h6⟩ := cs_try h
    obtain ⟨C', hC⟩ := Option.isSome_iff_exists.mp h4
    exact sx_try OK K TF SO hC (T_eq h2) h3 (sx_sts OK HC fuel b K TF SO h1) h5 (sm_kst h5 h6)
termination_by structural x
theorem sx_sts (OK : SigOK S) {C : Calls} {n : Nat} (HC : CallsOK S C n) (fuel : Nat) (x : Sts) {d : Dx} {t : List Stmt} (K : ∀ m cs, CtxOK S (n + 2) (d.cx m cs)) (TF : ∃ outer, d.A.frames = some (d.env :: outer) ∧ d.env.frame = some d.L) (SO : ScOK d.env.scope d.env) (h : ckSs S.nam d.env.scope x t = true) :
    SX S d d.env.scope (execs t d.env) (exs S.P C fuel x) := by
  match x, t, h with
  | .any, _, _ => exact fun _ _ _ _ _ _ _ _ _ _ e => nomatch (show none = some _ from e)
  | .nil, [], h => exact sx_nil
  | .cons s ss, a :: as, h =>
    have h := and_t (show (_ && _) = true from h)
    exact sx_cons (sx_st OK HC fuel s K TF SO h.1) (sx_sts OK HC fuel ss K TF SO h.2)
  | .nil, _ :: _, h => exact nomatch (show false = true from h)
  | .cons _ _, [], h => exact nomatch (show false = true from h)
termination_by structural x
end
end Mine

set_option autoImplicit false
namespace Mine
open PySem PySem.W PySem.Calls PyProof.Rows
variable {S : Sig}

theorem cellsFrom_has {nm : Str} : ∀ (l : List (Str × NameKind)) (n : Nat) (acc : List (Str × Addr)), ((nm, NameKind.cell) ∈ l ∨ ∃ a, (nm, a) ∈ acc) → ∃ a, (nm, a) ∈ cellsFrom n l acc
  | [], n, acc, h => by
    rcases h with h | h
    · cases h
    · exact h
  | (x, k) :: r, n, acc, h => by
    unfold cellsFrom
    split
    · rename_i hk
      refine cellsFrom_has r (n + 1) _ ?_
      rcases h with h | ⟨a, h⟩
      · rcases List.mem_cons.mp h with h | h
        · cases h; exact .inr ⟨n, .head _⟩
        · exact .inl h
      · exact .inr ⟨a, .tail _ h⟩
    · rename_i hk
      refine cellsFrom_has r n acc ?_
      rcases h with h | h
      · rcases List.mem_cons.mp h with h | h
        · cases h; exact absurd rfl hk
        · exact .inl h
      · exact .inr h
theorem lookup_of_mem {α : Type} {nm : Str} : ∀ {l : List (Str × α)}, (∃ a, (nm, a) ∈ l) → ∃ a, l.lookup nm = some a
  | [], h => by obtain ⟨_, h⟩ := h; cases h
  | (x, b) :: r, h => by
    rw [List.lookup_cons]
    split
    · exact ⟨b, rfl⟩
    · rename_i hx
      refine lookup_of_mem ?_
      obtain ⟨a, h⟩ := h
      rcases List.mem_cons.mp h with h | h
      · cases h; simp at hx
      · exact ⟨a, h⟩
theorem lookup_nodup {α : Type} : ∀ {l : List (Str × α)} {n : Str} {a : α}, (l.map (·.1)).Nodup → (n, a) ∈ l → l.lookup n = some a
  | [], _, _, _, h => by cases h
  | (x, b) :: r, n, a, nd, h => by
    rw [List.map_cons, List.nodup_cons] at nd
    rw [List.lookup_cons]
    rcases List.mem_cons.mp h with h | h
    · cases h; simp
    · have : (n == x) = false := by
        refine beq_eq_false_iff_ne.mpr fun q => nd.1 ?_
        rw [← q]; exact List.mem_map.mpr ⟨(n, a), h, rfl⟩
      rw [this]; exact lookup_nodup nd.2 h

theorem scOK_fn {env : Env} {n : Nat} (hcells : env.cells = cellsFrom n env.scope.names []) (hfree : ∀ x ∈ env.scope.names, x.2 ≠ .free) : ScOK env.scope env := by
  refine ⟨fun nm h => h, fun nm h => h, fun nm h => ?_⟩
  unfold isCell at h
  split at h
  · rename_i e
    refine ⟨.inl e, ?_⟩
    rw [hcells]
    exact lookup_of_mem (cellsFrom_has _ _ _ (.inl (PySem.mem_of_lookup e)))
  · rename_i e; exact absurd rfl (hfree _ (PySem.mem_of_lookup e))
  · cases h

theorem loc_of {ps : List Nat} {xs : List V} {i : Nat} {v : V} : ∀ {l₀ : Loc}, (ps.zip xs).foldl (fun l p => l.upd p.1 p.2) l₀ i = some v → l₀ i = some v ∨ ∃ k : Nat, ps[k]? = some i ∧ xs[k]? = some v := by
  induction ps generalizing xs with
  | nil => intro l₀ h; exact .inl h
  | cons p ps ih =>
    intro l₀ h
    cases xs with
    | nil => exact .inl h
    | cons x xs =>
      simp only [List.zip_cons_cons, List.foldl_cons] at h
      rcases ih h with h | ⟨k, h1, h2⟩
      · by_cases hp : i = p
        · subst hp; rw [upd_eq] at h; exact .inr ⟨0, rfl, h⟩
        · rw [upd_ne hp] at h; exact .inl h
      · exact .inr ⟨k + 1, h1, h2⟩
theorem bindL_skip {kd : Str → Option NameKind} {nm : Str} : ∀ {bs : List (Str × Value)} {m : Str → Option Value}, (∀ p ∈ bs, p.1 ≠ nm) → bindL kd bs m nm = m nm
  | [], m, _ => rfl
  | (n, v) :: r, m, h => by
    unfold bindL
    rw [bindL_skip fun p hp => h p (.tail _ hp)]
    split
    · exact if_neg (Ne.symm (h _ (.head _)))
    · rfl
theorem bindC_skip {kd : Str → Option NameKind} {nm : Str} : ∀ {bs : List (Str × Value)} {m : Str → Option Value}, (∀ p ∈ bs, p.1 ≠ nm) → bindC kd bs m nm = m nm
  | [], m, _ => rfl
  | (n, v) :: r, m, h => by
    unfold bindC
    rw [bindC_skip fun p hp => h p (.tail _ hp)]
    split
    · rfl
    · exact if_neg (Ne.symm (h _ (.head _)))
theorem bindL_of {kd : Str → Option NameKind} {nm : Str} {x : Value} (hk : kd nm = some .local) : ∀ {bs : List (Str × Value)} {m : Str → Option Value}, (bs.map (·.1)).Nodup → (nm, x) ∈ bs → bindL kd bs m nm = some x
  | [], m, _, h => by cases h
  | (n, v) :: r, m, nd, h => by
    rw [List.map_cons, List.nodup_cons] at nd
    unfold bindL
    rcases List.mem_cons.mp h with h | h
    · cases h
      rw [bindL_skip fun p hp q => nd.1 (List.mem_map.mpr ⟨p, hp, q⟩), if_pos hk]
      simp
    · exact bindL_of hk nd.2 h
theorem bindC_of {kd : Str → Option NameKind} {nm : Str} {x : Value} (hk : kd nm = some .cell) : ∀ {bs : List (Str × Value)} {m : Str → Option Value}, (bs.map (·.1)).Nodup → (nm, x) ∈ bs → bindC kd bs m nm = some x
  | [], m, _, h => by cases h
  | (n, v) :: r, m, nd, h => by
    rw [List.map_cons, List.nodup_cons] at nd
    unfold bindC
    rcases List.mem_cons.mp h with h | h
    · cases h
      rw [bindC_skip fun p hp q => nd.1 (List.mem_map.mpr ⟨p, hp, q⟩), if_neg (by rw [hk]; simp)]
      simp
    · exact bindC_of hk nd.2 h

theorem cells_are {h : Heap} : ∀ (l : List (Str × Addr)), (∀ p ∈ l, ∃ o v, h.get? p.2 = some o ∧ o.data = .cell v) → ∃ cs : List (Addr × Obj), All2 (fun (p : Str × Addr) (q : Addr × Obj) => p.2 = q.1 ∧ ∃ v, q.2.data = .cell v) l cs ∧ ∀ q ∈ cs, h.get? q.1 = some q.2 ∧ ∃ p ∈ l, p.2 = q.1
  | [], _ => ⟨[], .nil, fun q hq => nomatch hq⟩
  | p :: r, hl => by
    obtain ⟨cs, h1, h2⟩ := cells_are r fun q hq => hl q (.tail _ hq)
    obtain ⟨o, v, ho, hv⟩ := hl p (.head _)
    refine ⟨(p.2, o) :: cs, .cons ⟨rfl, v, hv⟩ h1, fun q hq => ?_⟩
    rcases List.mem_cons.mp hq with rfl | hq
    · exact ⟨ho, p, .head _, rfl⟩
    · obtain ⟨g1, p', g2, g3⟩ := h2 q hq
      exact ⟨g1, p', .tail _ g2, g3⟩
theorem Led.kadds {h₀ h : Heap} {L : Addr} {m : Str → Option Value} {fs : Fs} {os : List (Addr × Obj)} {σ : H} : ∀ {cs kp : List (Addr × Obj)}, Led S h₀ L m fs kp os σ h → (adr cs).Nodup → (∀ q ∈ cs, h.get? q.1 = some q.2 ∧ q.1 ≠ L ∧ h₀.get? q.1 = none ∧ q.1 ∉ adr (kp ++ os) ∧ (∀ f ∈ fs, f.1 ≠ q.1) ∧ mainGlobals < q.1) →
    Led S h₀ L m fs (kp ++ cs) os σ h
  | [], kp, l, _, _ => by simpa using l
  | q :: cs, kp, l, nd, hq => by
    obtain ⟨a, x⟩ := q
    obtain ⟨g1, g2, g3, g4, g5, g6⟩ := hq _ (.head _)
    have l' := l.kadd g1 g2 g3 g4 g5 g6
    simp only [adr, List.map_cons, List.nodup_cons] at nd
    have := Led.kadds (cs := cs) l' nd.2 fun q' hq' => by
      obtain ⟨e1, e2, e3, e4, e5, e6⟩ := hq q' (.tail _ hq')
      refine ⟨e1, e2, e3, fun hm => ?_, e5, e6⟩
      obtain ⟨p, hp, e⟩ := List.mem_map.mp hm
      rcases mid_mem hp with rfl | hp
      · exact nd.1 (List.mem_map.mpr ⟨q', hq', e.symm⟩)
      · rw [List.append_nil] at hp
        exact e4 (e ▸ List.mem_map_of_mem hp)
    simpa using this
theorem Led.kdrops {h₀ h : Heap} {L : Addr} {m : Str → Option Value} {fs : Fs} {os : List (Addr × Obj)} {σ : H} : ∀ {cs kp : List (Addr × Obj)}, Led S h₀ L m fs (kp ++ cs) os σ h → Led S h₀ L m fs kp os σ h
  | [], kp, l => by simpa using l
  | (a, x) :: cs, kp, l => Led.kdrops (cs := cs) l.kdrop

theorem cells_adr {l : List (Str × Addr)} {cs : List (Addr × Obj)} (h : All2 (fun (p : Str × Addr) (q : Addr × Obj) => p.2 = q.1 ∧ ∃ v, q.2.data = .cell v) l cs) : l.map (·.2) = adr cs := by
  induction h with
  | nil => rfl
  | cons h1 _ ih => simp only [List.map_cons, adr, h1.1]; rw [ih]

structure FnOK (S : Sig) (A : Addr) (fd : FD) (fo : Obj) (name qual : Str) (params : Arguments) (body : List Stmt) (scope : Scope) (dV kV doc pm : Value) (an : Option Addr) (cdv ct : Value) (names : List Str) : Prop where
  look : S.K.lookup A = some fo
  data : fo.data = .func (fnX name qual params body scope [] dV kV doc pm an cdv ct)
  code : codeIn S.K cdv qual = true
  co : scope.isCoroutine = false
  gen : scope.isGenerator = false
  kind : scope.kind = .function
  bind : ∀ vs : List Value, vs.length = names.length → bindArgs (fnX name qual params body scope [] dV kV doc pm an cdv ct) ⟨vs, []⟩ = pure (names.zip vs)
  pars : All2 (fun i nm => S.T[i]? = some nm) fd.params names
  nd : names.Nodup
  stor : ∀ nm ∈ names, storable scope nm = true
  cells : ((cellsFrom 0 scope.names []).map (·.1)).Nodup
  free : ∀ x ∈ scope.names, x.2 ≠ .free
  ck : ckSs S.nam scope fd.body body = true

theorem zip_map_fst {names : List Str} : ∀ {vs : List Value}, vs.length = names.length → (names.zip vs).map (·.1) = names := by
  induction names with
  | nil => intro vs _; simp
  | cons n r ih =>
    intro vs h
    cases vs with
    | nil => simp at h
    | cons v vs => simp only [List.zip_cons_cons, List.map_cons]; rw [ih (by simpa using h)]

theorem body_ok (OK : SigOK S) {C : Calls} {n : Nat} (HC : CallsOK S C n) (fuel : Nat) {A : Addr} {fd : FD} {fo : Obj} {name qual : Str} {params : Arguments} {body : List Stmt} {scope : Scope} {dV kV doc pm : Value} {an : Option Addr} {cdv ct : Value} {names : List Str}
    (O : FnOK S A fd fo name qual params body scope dV kV doc pm an cdv ct names) {Ar : Around} {h₀ : Heap} {L : Addr} {fs : Fs} {kp os : List (Addr × Obj)} {σ σ' : H} {s : Shared} {xs : List V} {vs : List Value} {r : R (Option V)} {loc' : Loc}
    (K : ∀ m cs, CtxOK S (n + 2) ⟨Ar, envOfC qual scope L A cdv, h₀, L, m, fs, kp ++ cs⟩) (TF : ∃ outer, Ar.frames = some (envOfC qual scope L A cdv :: outer)) (hlen : xs.length = fd.params.length) (hvs : All2 (VR (adr os)) xs vs)
    (l : Led S h₀ L (bindL (envOfC qual scope L A cdv).kindOf (names.zip vs) fun _ => none) fs kp os σ s.heap)
    (hcell : ∀ nm a, (envOfC qual scope L A cdv).cells.lookup nm = some a → s.heap.IsCell a (bindC (envOfC qual scope L A cdv).kindOf (names.zip vs) (fun _ => none) nm))
    (apart : (envOfC qual scope L A cdv).cells.Pairwise fun x y => x.2 ≠ y.2) (hnew : ∀ nm a, (nm, a) ∈ (envOfC qual scope L A cdv).cells → L < a ∧ (∀ p ∈ kp ++ os, p.1 < a) ∧ ∀ f ∈ fs, f.1 < a)
    (he : exs S.P C fuel fd.body ((fd.params.zip xs).foldl (fun l p => l.upd p.1 p.2) fun _ => none) σ = some (r, loc', σ')) {Q : Flow → Shared → Prop} {E : Value → Shared → Prop}
    (hQ : ∀ (m' : Str → Option Value) (os' : List (Addr × Obj)) (h' : Heap) (tk : Nat), adr os <+: adr os' → Led S h₀ L m' fs kp os' σ' h' → ∀ o, r = .ok o → ∀ f, (match o with | none => f = Flow.next | some v => ∃ a, f = .ret a ∧ VR (adr os') v a) → Q f { s with heap := h', toks := tk })
    (hE : ∀ (m' : Str → Option Value) (cs' os' : List (Addr × Obj)) (h' : Heap) (tk : Nat), adr os <+: adr os' → Led S h₀ L m' fs kp os' σ' h' → ∀ k, r = .err k → ∀ e, Fly S ⟨Ar, envOfC qual scope L A cdv, h₀, L, m', fs, kp ++ cs'⟩ os' e k h' → E e { s with heap := h', toks := tk }) :
    wpAny (model S.prog S.w) Ar (execs body (envOfC qual scope L A cdv)) Q E s := by
  have hcn : ((envOfC qual scope L A cdv).cells.map (·.1)).Nodup := cellsFrom_names scope.names 0 (L + 1) [] [] rfl ▸ O.cells
  obtain ⟨cs, ca, cb⟩ := cells_are (h := s.heap) (envOfC qual scope L A cdv).cells fun p hp => by
    obtain ⟨o, ho, hd⟩ := hcell p.1 p.2 (lookup_nodup hcn hp)
    exact ⟨o, _, ho, hd⟩
  have hl2 := hvs.length
  have hl1 := O.pars.length
  have hvl : vs.length = names.length := by lia
  have nda : (adr cs).Nodup := by
    have e : (envOfC qual scope L A cdv).cells.map (·.2) = adr cs := cells_adr ca
    rw [← e]
    exact List.pairwise_map.mpr apart
  have top := l.room
  have Lc : Led S h₀ L (bindL (envOfC qual scope L A cdv).kindOf (names.zip vs) fun _ => none) fs (kp ++ cs) os σ s.heap := by
    refine l.kadds nda fun q hq => ?_
    obtain ⟨g1, ⟨pn, pa⟩, g2, g3⟩ := cb q hq
    dsimp only at g3
    subst g3
    obtain ⟨n1, n2, n3⟩ := hnew pn q.1 g2
    refine ⟨g1, Nat.ne_of_gt n1, ?_, fun hm => ?_, fun f hf => Nat.ne_of_lt (n3 f hf), ?_⟩
    · cases e : h₀.get? q.1 with
      | none => rfl
      | some o => exact absurd (Heap.lt_size e) (Nat.not_lt.mpr (Nat.le_trans l.fr.above (Nat.le_of_lt n1)))
    · obtain ⟨p, hp, e⟩ := List.mem_map.mp hm
      exact absurd e (Nat.ne_of_lt (n2 p hp))
    · obtain ⟨o, ho⟩ := l.top
      exact Nat.lt_trans (Nat.lt_of_lt_of_le (Heap.lt_size ho) l.fr.above) n1
  let d : Dx := ⟨Ar, envOfC qual scope L A cdv, h₀, L, fs, kp⟩
  have CO : CellsOK d.env cs := ⟨ca, hcn⟩
  have SO : ScOK d.env.scope d.env := scOK_fn rfl O.free
  have Vs : VarsOK S (d.cx (bindL (envOfC qual scope L A cdv).kindOf (names.zip vs) fun _ => none) cs) d.env.scope (adr os) ((fd.params.zip xs).foldl (fun l p => l.upd p.1 p.2) fun _ => none) := by
    intro i v nm h1 h2 h3
    rcases loc_of h1 with h | ⟨k, k1, k2⟩
    · cases h
    · obtain ⟨nm', k3, k4⟩ := O.pars.get k1
      rw [h2] at k4; cases k4
      obtain ⟨x, k5, k6⟩ := hvs.get k2
      have hmem : (nm, x) ∈ names.zip vs := by
        refine List.mem_of_getElem? (i := k) ?_
        rw [List.getElem?_zip_eq_some]; exact ⟨k3, k5⟩
      have hnz : ((names.zip vs).map (·.1)).Nodup := by rw [zip_map_fst hvl]; exact O.nd
      have hst := O.stor nm (List.mem_of_getElem? k3)
      unfold storable at hst
      split at hst
      · rename_i e
        exact ⟨x, .inl ⟨e, bindL_of e hnz hmem⟩, k6⟩
      · rename_i e
        obtain ⟨a, ha⟩ := (SO.cell nm (by unfold isCell; rw [show d.env.scope.names.lookup nm = some .cell from e])).2
        obtain ⟨o, ho, hd⟩ := hcell nm a ha
        obtain ⟨p, o', v', p1, p2, p3⟩ := CO.at ha
        have hoo : o = o' := by
          have := (cb _ (List.mem_of_getElem? p2)).1
          dsimp only at this
          rw [ho] at this; cases this; rfl
        subst hoo
        refine ⟨x, .inr ⟨.inl e, a, o, ha, List.mem_append_right _ (List.mem_of_getElem? p2), ?_⟩, k6⟩
        rw [hd, bindC_of e hnz hmem]
      · cases hst
  refine sx_sts OK HC fuel fd.body (d := d) K (let ⟨o, h⟩ := TF; ⟨o, h, rfl⟩) SO O.ck _ _ cs os σ s r loc' σ' ⟨Vs, CO, Lc⟩ he Q E fun m' cs' os' h' tk k F => ?_
  cases r with
  | err q => exact fun e f => hE m' cs' os' h' tk k (Led.kdrops (cs := cs') F.led) q rfl e f
  | ok o =>
    have fin := fun f hf => hQ m' os' h' tk k (Led.kdrops (cs := cs') F.led) o rfl f hf
    cases o with
    | none => exact fin .next rfl
    | some v => exact fun a ha => fin (.ret a) ⟨a, rfl, ha⟩

noncomputable def FnAll (S : Sig) : Prop :=
  (∀ f A, S.fn f = some A → ∃ fd, S.P.funs.lookup f = some fd ∧ ∃ fo name qual params body scope dV kV doc pm an cdv ct names, FnOK S A fd fo name qual params body scope dV kV doc pm an cdv ct names) ∧
  (∀ f A, S.me f = some A → ∃ fd, S.P.meths.lookup f = some fd ∧ ∃ fo name qual params body scope dV kV doc pm an cdv ct names, FnOK S A fd fo name qual params body scope dV kV doc pm an cdv ct names)

theorem call_ok (OK : SigOK S) {C : Calls} {n : Nat} (HC : CallsOK S C n) (fuel : Nat) {A : Addr} {fd : FD} {fo : Obj} {name qual : Str} {params : Arguments} {body : List Stmt} {scope : Scope} {dV kV doc pm : Value} {an : Option Addr} {cdv ct : Value} {names : List Str}
    (O : FnOK S A fd fo name qual params body scope dV kV doc pm an cdv ct names) {c : Cx} {ρ : List Addr} (K : CtxOK S (n + 5) c) {xs : List V} {vs : List Value} (hvs : All2 (VR ρ) xs vs) :
    SC S c ρ (.ref A) vs (fun h => if xs.length = fd.params.length then
        match exs S.P C fuel fd.body ((fd.params.zip xs).foldl (fun l p => l.upd p.1 p.2) (fun _ => none)) h with
        | none => none
        | some (.err c, _, h₁) => some (.err c, h₁)
        | some (.ok r, _, h₁) => some (.ok (r.getD .none), h₁)
      else none) := by
  intro os σ s r σ' hp hl hx R hR
  dsimp only at hx
  split at hx
  · rename_i hlen
    have hl1 := O.pars.length
    have hl2 := hvs.length
    have hvl : vs.length = names.length := by lia
    cases hb : exs S.P C fuel fd.body ((fd.params.zip xs).foldl (fun l p => l.upd p.1 p.2) (fun _ => none)) σ with
    | none => rw [hb] at hx; cases hx
    | some p =>
      obtain ⟨rr, loc', σ₁⟩ := p
      rw [hb] at hx
      have KX := K.kin.keeps hl.fr.keep
      refine codeAny_call_function (by have := K.depth; lia) (KX _ _ O.look) O.data O.co O.gen rfl (codeRec_of KX O.code) (BindsTo.of_eq (s := s) (O.bind vs hvl) _ _ _ _ ?_)
      refine wpAny_newFunctionEnv_cells O.kind (fun x hx => ?_) fun env' he s' x => ?_
      · have hm : x.1 ∈ names := by rw [← zip_map_fst hvl]; exact List.mem_map_of_mem hx
        have hst := O.stor x.1 hm
        unfold storable at hst
        split at hst
        · rename_i e; exact .inl e
        · rename_i e
          refine .inr ⟨e, ?_⟩
          obtain ⟨a, ha⟩ := lookup_of_mem (cellsFrom_has scope.names (s.heap.objs.size + 1) [] (.inl (PySem.mem_of_lookup e)))
          rw [ha]; rfl
        · cases hst
      · have he' : env' = envOfC qual scope s.heap.objs.size A cdv := he
        subst he'
        refine ⟨(K.lim.keeps hl.fr.keep).keeps x.toInCall.keep, codeAny_func ?_⟩
        obtain ⟨h₁, tk, rfl, hk₁⟩ := x.done
        have lE : Led S c.h₀ s.heap.objs.size (bindL (envOfC qual scope s.heap.objs.size A cdv).kindOf (names.zip vs) fun _ => none) ((c.L, c.m) :: c.fs) c.kp os σ h₁ := hl.enter x.toInCall.ns hk₁ (get_size _) (Nat.le_refl _)
        refine body_ok OK HC fuel O (s := { s with heap := h₁, toks := tk }) (Ar := c.A.deeper (envOfC qual scope s.heap.objs.size A cdv)) (fun m cs => ?_) (let ⟨l, h, _⟩ := K.frs; ⟨l, Around.frames_deeper h⟩) hlen (VRs.mono hp hvs) lE x.cell x.apart (fun nm a hm => ?_) hb (fun m' os' h' tk' k l' o ho f hf => ?_) fun m' cs' os' h' tk' k l' q hq e f => ?_
        · refine ⟨K.hand, ?_, ?_, K.kin, K.top, K.lim, O.kind, rfl, rfl, rfl, ?_⟩
          · have := K.units; show c.A.units + 3 + _ + _ < _; lia
          · have := K.depth; show c.A.depth + 1 + _ < _; lia
          · obtain ⟨l, g1, g2⟩ := K.frs
            refine ⟨_, Around.frames_deeper g1, fun e he => ?_⟩
            rcases List.mem_cons.mp he with rfl | he
            · exact ⟨by rw [show (envOfC qual scope s.heap.objs.size A cdv).scope.kind = .function from O.kind]; exact nofun, _, rfl, .head _⟩
            · obtain ⟨g3, b, g4, g5⟩ := g2 e he
              exact ⟨g3, b, g4, .tail _ g5⟩
        · have hlt : s.heap.objs.size < a := x.above nm a hm
          refine ⟨hlt, fun p hp' => Nat.lt_trans (Heap.lt_size (hl.news p hp').1) hlt, fun f hf => ?_⟩
          rcases List.mem_cons.mp hf with rfl | hf
          · obtain ⟨oL, _, _, hL, _⟩ := hl.fr.ns
            exact Nat.lt_trans (Heap.lt_size hL) hlt
          · obtain ⟨oL, _, _, hL, _⟩ := (hl.outs f hf).1
            exact Nat.lt_trans (Heap.lt_size hL) hlt
        · subst ho
          cases hx
          have lB := l'.leave hl.fr.above (fun f hf => (hl.outs f hf).2.1) (h' := h') fun b o _ e => e
          cases o with
          | none => subst hf; exact hR os' h' tk' .none k lB rfl
          | some v => obtain ⟨a, rfl, ha⟩ := hf; exact hR os' h' tk' a k lB ha
        · subst hq
          cases hx
          obtain ⟨a, C', B, l, rfl, hC, hfr, FB, hB, hkB⟩ := f
          obtain ⟨fr, g1, g2⟩ := K.frs
          obtain rfl : envOfC qual scope s.heap.objs.size A cdv :: fr = l := Option.some.inj ((Around.frames_deeper g1).symm.trans hfr)
          refine fly_leave (Around.frames_deeper g1) rfl FB fun h₂ F₂ sm₂ => ?_
          have kb : ∀ p ∈ c.kp ++ os', B.get? p.1 = some p.2 := fun p hp' => by
            rcases List.mem_append.mp hp' with hp' | hp'
            · exact hkB p (List.mem_append_left _ (List.mem_append_left _ hp'))
            · exact hkB p (List.mem_append_right _ hp')
          have lB := (l'.leave hl.fr.above (fun f hf => (hl.outs f hf).2.1) (h' := h') fun b o _ e => e).slots sm₂ (fun b o q => F₂.1 b o (hB b o q)) fun p hp' => F₂.1 _ _ (kb p hp')
          exact hR os' h₂ tk' _ k lB ⟨a, C', B, fr, rfl, hC, g1, F₂, hB, kb⟩
  · cases hx

theorem run_ok (OK : SigOK S) (hA : FnAll S) (fuel : Nat) : ∀ d, CallsOK S (run S.P fuel d) (5 * d)
  | 0 => ⟨fun _ _ _ => (fun os σ s r σ' _ _ hx => by cases hx), fun _ _ _ => (fun os σ s r σ' _ _ hx => by cases hx)⟩
  | d + 1 => by
    have ih := run_ok OK hA fuel d
    refine ⟨fun {c ρ f A xs vs} K hf hvs => ?_, fun {c ρ f A xs vs} K hf hvs => ?_⟩
    · obtain ⟨fd, hfd, fo, name, qual, params, body, scope, dV, kV, doc, pm, an, cdv, ct, names, O⟩ := hA.1 f A hf
      have := call_ok OK ih fuel O (c := c) K hvs
      intro os σ s r σ' hp hl hx
      refine this os σ s r σ' hp hl ?_
      rw [← hx]
      have e : run S.P fuel (d + 1) false f xs σ = (match S.P.funs.lookup f with
        | none => none
        | some fd => if xs.length = fd.params.length then
            match exs S.P (run S.P fuel d) fuel fd.body ((fd.params.zip xs).foldl (fun l p => l.upd p.1 p.2) (fun _ => none)) σ with
            | none => none
            | some (.err c, _, h₁) => some (.err c, h₁)
            | some (.ok r, _, h₁) => some (.ok (r.getD .none), h₁)
          else none) := rfl
      rw [e, hfd]
    · obtain ⟨fd, hfd, fo, name, qual, params, body, scope, dV, kV, doc, pm, an, cdv, ct, names, O⟩ := hA.2 f A hf
      have := call_ok OK ih fuel O (c := c) K hvs
      intro os σ s r σ' hp hl hx
      refine this os σ s r σ' hp hl ?_
      rw [← hx]
      have e : run S.P fuel (d + 1) true f xs σ = (match S.P.meths.lookup f with
        | none => none
        | some fd => if xs.length = fd.params.length then
            match exs S.P (run S.P fuel d) fuel fd.body ((fd.params.zip xs).foldl (fun l p => l.upd p.1 p.2) (fun _ => none)) σ with
            | none => none
            | some (.err c, _, h₁) => some (.err c, h₁)
            | some (.ok r, _, h₁) => some (.ok (r.getD .none), h₁)
          else none) := rfl
      rw [e, hfd]
end Mine

set_option autoImplicit false
namespace Mine
open PySem PySem.W PySem.Calls PyProof.Rows

theorem lookup_zip {names : List Str} : ∀ {vs : List Value} {k : Nat} {nm : Str} {v : Value}, names.Nodup → names[k]? = some nm → vs[k]? = some v → (names.zip vs).lookup nm = some v := by
  induction names with
  | nil => intro vs k nm v _ h; simp at h
  | cons n r ih =>
    intro vs k nm v nd h1 h2
    rw [List.nodup_cons] at nd
    cases vs with
    | nil => simp at h2
    | cons x xs =>
      cases k with
      | zero => simp at h1 h2; subst h1 h2; simp
      | succ k =>
        simp only [List.getElem?_cons_succ] at h1 h2
        have : (nm == n) = false := beq_eq_false_iff_ne.mpr fun q => nd.1 (q ▸ List.mem_of_getElem? h1)
        simp only [List.zip_cons_cons, List.lookup_cons, this]
        exact ih nd.2 h1 h2
theorem filterMap_zip {names : List Str} : ∀ {vs : List Value} {f : Str → Option Value}, vs.length = names.length → (∀ (k : Nat) nm v, names[k]? = some nm → vs[k]? = some v → f nm = some v) → names.filterMap (fun n => (f n).map (n, ·)) = names.zip vs := by
  induction names with
  | nil => intro vs f _ _; simp
  | cons n r ih =>
    intro vs f h1 h2
    cases vs with
    | nil => simp at h1
    | cons x xs =>
      have e := h2 0 n x rfl rfl
      rw [List.filterMap_cons, e]
      simp only [Option.map_some, List.zip_cons_cons]
      rw [ih (by simpa using h1) fun k nm v a b => h2 (k + 1) nm v a b]
theorem bind_plain {fd : FuncData} {vs : List Value} (h1 : fd.params.posonlyargs = []) (h2 : fd.params.kwonlyargs = []) (h3 : fd.params.vararg = none) (h4 : fd.params.kwarg = none) (h5 : fd.defaults = .none)
    (nd : (fd.params.args.map (·.arg)).Nodup) (hl : vs.length = (fd.params.args.map (·.arg)).length) : bindArgs fd ⟨vs, []⟩ = pure ((fd.params.args.map (·.arg)).zip vs) := by
  have look : ∀ k nm v, (fd.params.args.map (·.arg))[k]? = some nm → vs[k]? = some v → ((fd.params.args.map (·.arg)).zip vs).lookup nm = some v := fun k nm v a b => lookup_zip nd a b
  have mis : ((fd.params.args.map (·.arg)).take (fd.params.args.map (·.arg)).length).filter (fun n => (((fd.params.args.map (·.arg)).zip vs).lookup n).isNone) = [] := by
    rw [List.filter_eq_nil_iff]
    intro nm hm
    rw [List.take_length] at hm
    obtain ⟨k, hk⟩ := List.getElem?_of_mem hm
    have hk' := (List.getElem?_eq_some_iff.mp hk).1
    rw [← hl] at hk'
    rw [look k nm vs[k] hk (List.getElem?_eq_getElem hk')]
    simp
  have fm := filterMap_zip (f := fun n => ((fd.params.args.map (·.arg)).zip vs).lookup n) hl look
  unfold bindArgs
  simp only [h1, h2, h3, h4, h5, List.map_nil, List.nil_append, List.append_nil, List.forIn_nil, pure_bind]
  have hs : seqItems? Value.none = pure none := rfl
  have hd : decide (vs.length > (fd.params.args.map (·.arg)).length) = false := by simp [hl]
  have e0 : (Option.getD (none : Option (Array Value)) #[]).toList = [] := rfl
  simp only [hs, pure_bind, e0, hd, Bool.false_and, Bool.false_eq_true, if_false, List.drop_nil, List.length_nil, Nat.sub_zero, mis, List.isEmpty_nil, Bool.not_true, List.zip_nil_right, List.forIn_nil, List.nil_append, List.append_nil]
  rw [fm]

noncomputable def vIs : V → Value → Bool
  | .none, .none => true
  | .bool b, .bool b' => b == b'
  | .int i, .int j _ => decide (i = j)
  | .str s, .str s' _ => decide (s = s') && okS s
  | _, _ => false
theorem vIs_vr {v : V} {x : Value} (h : vIs v x = true) (ρ : List Addr) : VR ρ v x := by
  cases v with
  | none => cases x <;> first | rfl | exact (Bool.false_ne_true h).elim
  | bool b => cases x <;> first | exact (Bool.false_ne_true h).elim | (have := beq_iff_eq.mp h; subst this; rfl)
  | int i => cases x <;> first | exact (Bool.false_ne_true h).elim | (have := of_decide_eq_true h; subst this; exact ⟨_, rfl⟩)
  | str s =>
    cases x with
    | str s' o =>
      have h : (decide (s = s') && okS s) = true := h
      simp only [Bool.and_eq_true, decide_eq_true_eq] at h
      obtain ⟨rfl, h2⟩ := h; exact ⟨_, rfl, h2⟩
    | _ => exact (Bool.false_ne_true h).elim
  | _ => exact (Bool.false_ne_true h).elim
noncomputable def isRef (x : Option (Option Value)) (A : Addr) : Bool := decide (x = some (some (.ref A)))
theorem isRef_eq {x : Option (Option Value)} {A : Addr} (h : isRef x A = true) : x = some (some (.ref A)) := of_decide_eq_true h
noncomputable def isNo {α : Type} (x : Option (Option α)) : Bool := match x with
  | some none => true
  | some (some _) => false
  | none => false
theorem isNo_eq {α : Type} {x : Option (Option α)} (h : isNo x = true) : x = some none := by
  rcases x with _ | _ | _
  · exact (Bool.false_ne_true h).elim
  · rfl
  · exact (Bool.false_ne_true h).elim
noncomputable def isBi (x : Option (Option Value)) (id : String) : Bool := decide (x = some (some (.builtin id)))
theorem isBi_eq {x : Option (Option Value)} {id : String} (h : isBi x id = true) : x = some (some (.builtin id)) := of_decide_eq_true h
noncomputable def isTy (x : Option Value) (id : String) : Bool := decide (x = some (.type id))
theorem isTy_eq {x : Option Value} {id : String} (h : isTy x id = true) : x = some (.type id) := of_decide_eq_true h
noncomputable def nsObOk (o : Obj) : Bool := match o.data with
  | .dict es _ => es.all (fun e => match e.key with | .str _ _ => true | _ => false) && (nsFind es "__init__").isNone
  | _ => false
theorem ns_of {K : Frag} {h : Heap} {N : Addr} (X : K.In h) (e : onO (K.lookup N) nsObOk = true) : ∃ mN, h.Ns N mN ∧ mN "__init__" = none := by
  obtain ⟨o, hk, e⟩ := onO_eq e
  have ho := X _ _ hk
  unfold nsObOk at e
  cases hd : o.data with
  | dict es n =>
    rw [hd] at e
    obtain ⟨e1, e2⟩ := and_t e
    refine ⟨h.nsMap N, .of_isNs ?_, ?_⟩
    · unfold Heap.isNs; rw [ho]; dsimp only; rw [hd]; exact e1
    · unfold Heap.nsMap; rw [ho]; dsimp only; rw [hd]; exact Option.isNone_iff_eq_none.mp e2
  | _ => rw [hd] at e; exact (Bool.false_ne_true e).elim
noncomputable def clsD (o : Obj) : Option ClassData := match o.data with
  | .cls cd => some cd
  | _ => none
theorem clsD_eq {o : Obj} {cd : ClassData} (h : clsD o = some cd) : o.data = .cls cd := by
  unfold clsD at h
  cases hd : o.data with
  | cls c => rw [hd] at h; cases h; rfl
  | _ => rw [hd] at h; cases h
noncomputable def exIn (K : Frag) (P C : Addr) : Bool := onO (K.lookup C) fun o => onO (clsD o) fun cd => onO (K.lookup P) fun p => onO (clsD p) fun cp => 
  decide (o.cls = .type "type") && (decide (cd.mro = .ref C :: .ref P :: veL) && (!cd.hasDel && (decide (o.slots.size = 6) && (decide (o.slots[4]? = some (some (.builtin "ValueError.__new__"))) && (onO (K.lookup cd.ns) nsObOk && onO (K.lookup cp.ns) nsObOk)))))
theorem six {α : Type} : ∀ {l : List α}, l.length = 6 → ∃ a b c d e f, l = [a, b, c, d, e, f]
  | [a, b, c, d, e, f], _ => ⟨a, b, c, d, e, f, rfl⟩
theorem exc_eq {o : Obj} {cd : ClassData} {C : Addr} {bm : List Value} (hd : o.data = .cls cd) (m1 : o.cls = .type "type") (m2 : cd.mro = .ref C :: bm) (m3 : cd.hasDel = false) (m4 : o.slots.size = 6) (m5 : o.slots[4]? = some (some (.builtin "ValueError.__new__"))) :
    ∃ k0 k1 k2 k3 k5, o = excClassObj cd.name cd.qualname C cd.ns cd.bases bm cd.hasDict cd.slotNames cd.subclasses cd.abstract cd.collection o.dict k0 k1 k2 k3 k5 "ValueError.__new__" := by
  obtain ⟨c, dd, dt, ⟨l⟩⟩ := o
  obtain ⟨nm, bs, mro, ns, qn, hdc, sn, sub, ab, col, del⟩ := cd
  cases hd
  cases m1
  cases m2
  cases m3
  obtain ⟨k0, k1, k2, k3, k4, k5, rfl⟩ := six m4
  cases m5
  exact ⟨k0, k1, k2, k3, k5, rfl⟩
theorem exOb_of {K : Frag} {h : Heap} {C P : Addr} (X : K.In h) (e : exIn K P C = true) : ExOb h C := by
  obtain ⟨o, hC, e⟩ := onO_eq e
  obtain ⟨cd, hd, e⟩ := onO_eq e
  obtain ⟨p, hP, e⟩ := onO_eq e
  obtain ⟨cp, hp, e⟩ := onO_eq e
  have ⟨g1, e⟩ := and_t e
  have ⟨g2, e⟩ := and_t e
  have ⟨g3, e⟩ := and_t e
  have ⟨g4, e⟩ := and_t e
  have ⟨g5, e⟩ := and_t e
  have ⟨g6, g7⟩ := and_t e
  have ⟨mN, n1, n2⟩ := ns_of X g6
  have ⟨mP, p1, p2⟩ := ns_of X g7
  have ⟨k0, k1, k2, k3, k5, eo⟩ := exc_eq (clsD_eq hd) (dec_t g1) (dec_t g2) (not_t g3) (dec_t g4) (dec_t g5)
  have ep : p = ⟨p.cls, p.dict, .cls cp, p.slots⟩ := by rw [← clsD_eq hp]
  exact ⟨_, _, _, _, _, _, _, _, _, _, _, k0, k1, k2, k3, k5, mN, (X _ _ hC).trans (congrArg some eo), n1, n2, .own ((X _ _ hP).trans (congrArg some ep)) p1 p2 .base⟩
noncomputable def ckAttr (K : Frag) (C : Addr) (nm : Str) : Bool :=
  plainGet K C nm && hasDictIn K C && isNo (findIn K (.ref C) nm) && isBi (findIn K (.ref C) "__setattr__") "object.__setattr__" && plainOver K C && isNo (takerIn K C nm)
theorem attr_ok {S : Sig} {C : Addr} {nm : Str} (h : ckAttr S.K C nm = true) : AttrOK S C nm := by
  have ⟨h, h6⟩ := and_t h
  have ⟨h, h5⟩ := and_t h
  have ⟨h, h4⟩ := and_t h
  have ⟨h, h3⟩ := and_t h
  have ⟨h1, h2⟩ := and_t h
  exact ⟨h1, h2, isNo_eq h3, isBi_eq h4, h5, isNo_eq h6⟩

noncomputable def ckFn (N : Nam) (K : Frag) (A : Addr) (fd : FD) : Bool := match K.lookup A with
  | some ⟨_, _, .func ⟨_, qual, ⟨[], args, none, [], _, none, _⟩, .stmts body, scope, gl, [], .none, _, _, _, _, cdv, _, bl⟩, _⟩ =>
    decide (gl = mainGlobals) && decide (bl = builtinsNs) && codeIn K cdv qual && !scope.isCoroutine && !scope.isGenerator && decide (scope.kind = .function) && decide (fd.params.map (fun i => N.T[i]?) = (args.map (·.arg)).map some) &&
    decide (args.map (·.arg)).Nodup && (args.map (·.arg)).all (storable scope) && decide ((cellsFrom 0 scope.names []).map (·.1)).Nodup && scope.names.all (fun x => decide (x.2 ≠ .free)) && ckSs N scope fd.body body
  | _ => false
theorem all2_map {T : List Str} : ∀ {ps : List Nat} {ns : List Str}, ps.map (fun i => T[i]?) = ns.map some → All2 (fun i nm => T[i]? = some nm) ps ns
  | [], [], _ => .nil
  | [], _ :: _, h => by simp at h
  | _ :: _, [], h => by simp at h
  | p :: ps, n :: ns, h => by
    simp only [List.map_cons, List.cons.injEq] at h
    exact .cons h.1 (all2_map h.2)
theorem fn_ok {S : Sig} {A : Addr} {fd : FD} (h : ckFn S.nam S.K A fd = true) : ∃ fo name qual params body scope dV kV doc pm an cdv ct names, FnOK S A fd fo name qual params body scope dV kV doc pm an cdv ct names := by
  unfold ckFn at h
  cases hk : S.K.lookup A with
  | none => rw [hk] at h; exact (Bool.false_ne_true h).elim
  | some o =>
    rw [hk] at h
    obtain ⟨cl, dt, data, sl⟩ := o
    cases data with
    | func f =>
      obtain ⟨name, qual, params, body, scope, gl, dfl, clo, kV, doc, pm, an, cdv, ct, bl⟩ := f
      obtain ⟨po, args, va, ko, kwd, kw, df⟩ := params
      cases po with
      | cons => exact (Bool.false_ne_true h).elim
      | nil =>
      cases va with
      | some => exact (Bool.false_ne_true h).elim
      | none =>
      cases ko with
      | cons => exact (Bool.false_ne_true h).elim
      | nil =>
      cases kw with
      | some => exact (Bool.false_ne_true h).elim
      | none =>
      cases body with
      | stmts body =>
        cases dfl with
        | cons => exact (Bool.false_ne_true h).elim
        | nil =>
        cases clo with
        | none =>
          dsimp only at h
          simp only [Bool.and_eq_true, decide_eq_true_eq, Bool.not_eq_true', List.all_eq_true] at h
          obtain ⟨⟨⟨⟨⟨⟨⟨⟨⟨⟨⟨h1, h2⟩, h3⟩, h4⟩, h5⟩, h6⟩, h7⟩, h8⟩, h9⟩, h10⟩, h11⟩, h12⟩ := h
          subst h1 h2
          refine ⟨_, name, qual, ⟨[], args, none, [], kwd, none, df⟩, body, scope, .none, kV, doc, pm, an, cdv, ct, args.map (·.arg), ⟨hk, rfl, h3, h4, h5, h6, fun vs hl => ?_, all2_map (ns := args.map (·.arg)) h7, h8, h9, h10, h11, h12⟩⟩
          exact bind_plain rfl rfl rfl rfl rfl h8 hl
        | _ => exact (Bool.false_ne_true h).elim
      | _ => exact (Bool.false_ne_true h).elim
    | _ => exact (Bool.false_ne_true h).elim

abbrev mkSig (prog : Program) (w : World) (K : Frag) (T : List Str) (P : Prog) (clsL fnL meL exL : List (Nat × Addr)) (fz : List (Addr × Obj)) : Sig :=
  { prog := prog, w := w, K := K, T := T, P := P, cls := fun i => clsL.lookup i, fn := fun i => fnL.lookup i, me := fun i => meL.lookup i, ex := fun i => exL.lookup i, fz := fz }
abbrev mkNam (T : List Str) (clsL fnL meL exL : List (Nat × Addr)) : Nam := ⟨T, fun i => fnL.lookup i, fun i => meL.lookup i, fun i => clsL.lookup i, fun i => exL.lookup i⟩

noncomputable def allBi : List Bi := [.len, .sorted, .list, .tuple, .str, .int, .range, .min, .max, .set, .zip]
noncomputable def ckTop (K : Frag) (T : List Str) (P : Prog) (clsL fnL meL exL : List (Nat × Addr)) (xP : Addr) : Bool :=
  decide T.Nodup && P.attrs.all (fun n => onO T[n]? fun nm => clsL.all fun q => ckAttr K q.2 nm) &&
  P.globs.all (fun q => onO T[q.1]? fun nm => onO (nsIn K mainGlobals nm) fun y => onO y fun x => vIs q.2 x) && P.tabs.isEmpty &&
  fnL.all (fun q => onO T[q.1]? fun nm => isRef (nsIn K mainGlobals nm) q.2 && keepIn K (.ref q.2)) &&
  allBi.all (fun b => isNo (nsIn K mainGlobals (biName b))) && isNo (nsIn K mainGlobals "isinstance") && [0, 1, 2, 3, 4].all (fun k => isNo (nsIn K mainGlobals (clsName k))) &&
  meL.all (fun q => onO T[q.1]? fun nm => !P.attrs.contains q.1 && keepIn K (.ref q.2) && isFn K (.ref q.2) && clsL.all (fun r => plainGet K r.2 nm && isRef (findIn K (.ref r.2) nm) q.2)) &&
  clsL.all (fun q => onO T[q.1]? fun nm => isRef (nsIn K mainGlobals nm) q.2 && keepIn K (.ref q.2) && makesIn K q.2) &&
  (onO (meL.lookup P.init) fun fI => isTy (typeIn K (.ref fI)) "function" && clsL.all (fun r => isRef (findIn K (.ref r.2) "__init__") fI)) &&
  decide (T[idAppend]? = some ("append" : Str)) && decide (T[idPop]? = some ("pop" : Str)) && decide (T[idClear]? = some ("clear" : Str)) &&
  exL.all (fun q => onO T[q.1]? fun nm => isRef (nsIn K mainGlobals nm) q.2 && exIn K xP q.2)
noncomputable def ckFuns (K : Frag) (T : List Str) (P : Prog) (clsL fnL meL exL : List (Nat × Addr)) : Bool :=
  fnL.all (fun q => onO (P.funs.lookup q.1) fun fd => ckFn (mkNam T clsL fnL meL exL) K q.2 fd) &&
  meL.all (fun q => onO (P.meths.lookup q.1) fun fd => ckFn (mkNam T clsL fnL meL exL) K q.2 fd)

theorem mem_lookup {α : Type} : ∀ {l : List (Nat × α)} {i : Nat} {a : α}, l.lookup i = some a → (i, a) ∈ l
  | [], _, _, h => by simp at h
  | (k, b) :: r, i, a, h => by
    rw [List.lookup_cons] at h
    split at h
    · rename_i e; cases h; rw [beq_iff_eq.mp e]; exact .head _
    · exact .tail _ (mem_lookup h)

section
variable {prog : Program} {w : World} {K : Frag} {T : List Str} {P : Prog} {clsL fnL meL exL : List (Nat × Addr)} {fz : List (Addr × Obj)}
theorem funs_ok (h : ckFuns K T P clsL fnL meL exL = true) : FnAll (mkSig prog w K T P clsL fnL meL exL fz) := by
  have h := and_t h
  refine ⟨fun f A hf => ?_, fun f A hf => ?_⟩
  · obtain ⟨fd, hfd, this⟩ := onO_eq (List.all_eq_true.mp h.1 _ (mem_lookup hf))
    exact ⟨fd, hfd, fn_ok (S := mkSig prog w K T P clsL fnL meL exL fz) this⟩
  · obtain ⟨fd, hfd, this⟩ := onO_eq (List.all_eq_true.mp h.2 _ (mem_lookup hf))
    exact ⟨fd, hfd, fn_ok (S := mkSig prog w K T P clsL fnL meL exL fz) this⟩
theorem top_ok {xP : Addr} (h : ckTop K T P clsL fnL meL exL xP = true) : SigOK (mkSig prog w K T P clsL fnL meL exL fz) := by
  have ⟨h, h15⟩ := and_t h
  have ⟨h, h14⟩ := and_t h
  have ⟨h, h13⟩ := and_t h
  have ⟨h, h12⟩ := and_t h
  have ⟨h, h11⟩ := and_t h
  have ⟨h, h10⟩ := and_t h
  have ⟨h, h9⟩ := and_t h
  have ⟨h, h8⟩ := and_t h
  have ⟨h, h7⟩ := and_t h
  have ⟨h, h6⟩ := and_t h
  have ⟨h, h5⟩ := and_t h
  have ⟨h, h4⟩ := and_t h
  have ⟨h, h3⟩ := and_t h
  have ⟨h1, h2⟩ := and_t h
  refine ⟨⟨of_decide_eq_true h1, fun n hn => ?_⟩, fun i v hv => ?_, List.isEmpty_iff.mp h4, fun i A hA => ?_, fun b => ?_, isNo_eq h7, fun k hk => ?_, fun i A hA => ?_, fun i C hC => ?_, ?_, of_decide_eq_true h12, of_decide_eq_true h13, of_decide_eq_true h14, fun i C hC => ?_⟩
  · obtain ⟨nm, e, this⟩ := onO_eq (List.all_eq_true.mp h2 n hn)
    refine ⟨nm, e, fun k C hC => attr_ok (S := mkSig prog w K T P clsL fnL meL exL fz) ?_⟩
    exact (List.all_eq_true.mp this) _ (mem_lookup hC)
  · obtain ⟨nm, e, this⟩ := onO_eq (List.all_eq_true.mp h3 _ (mem_lookup hv))
    obtain ⟨y, e2, this⟩ := onO_eq this
    obtain ⟨x, rfl, this⟩ := onO_eq this
    exact ⟨nm, x, e, e2, vIs_vr this⟩
  · obtain ⟨nm, e, this⟩ := onO_eq (List.all_eq_true.mp h5 _ (mem_lookup hA))
    have this := and_t this
    exact ⟨nm, e, isRef_eq this.1, this.2⟩
  · exact isNo_eq (List.all_eq_true.mp h6 b (by cases b <;> decide))
  · have : k ∈ [0, 1, 2, 3, 4] := by
      match k, hk with
      | 0, _ => decide
      | 1, _ => decide
      | 2, _ => decide
      | 3, _ => decide
      | 4, _ => decide
    exact isNo_eq (List.all_eq_true.mp h8 k this)
  · obtain ⟨nm, e, this⟩ := onO_eq (List.all_eq_true.mp h9 _ (mem_lookup hA))
    have ⟨this, g4⟩ := and_t this
    have ⟨this, g3⟩ := and_t this
    have ⟨g1, g2⟩ := and_t this
    refine ⟨nm, e, fun hm => ?_, g2, g3, fun k C hC => ?_⟩
    · have : P.attrs.contains i = true := List.contains_iff_mem.mpr hm
      rw [this] at g1; exact (Bool.false_ne_true g1).elim
    · have := and_t (List.all_eq_true.mp g4 _ (mem_lookup hC))
      exact ⟨this.1, isRef_eq this.2⟩
  · obtain ⟨nm, e, this⟩ := onO_eq (List.all_eq_true.mp h10 _ (mem_lookup hC))
    have ⟨this, g3⟩ := and_t this
    have ⟨g1, g2⟩ := and_t this
    exact ⟨nm, e, isRef_eq g1, g2, g3⟩
  · obtain ⟨fI, e, this⟩ := onO_eq h11
    have this := and_t this
    exact ⟨fI, e, fun i C hC => ⟨isRef_eq (List.all_eq_true.mp this.2 _ (mem_lookup hC)), isTy_eq this.1⟩⟩
  · obtain ⟨nm, e, this⟩ := onO_eq (List.all_eq_true.mp h15 _ (mem_lookup hC))
    have this := and_t this
    exact ⟨nm, e, isRef_eq this.1, fun h X => exOb_of X this.2⟩
end
end Mine

set_option autoImplicit false
namespace Mine
open PySem PySem.W PySem.Calls PyProof.Rows

noncomputable def noList (K : Frag) : Bool := K.all fun p => match p.2.cls with | .type s => !(s == "list") | _ => true
theorem noList_of {K : Frag} (h : noList K = true) {a : Addr} {o : Obj} (e : K.lookup a = some o) : o.cls ≠ .type "list" := by
  intro q
  have := (List.all_eq_true.mp h) (a, o) (mem_lookup e)
  dsimp only at this
  rw [q] at this
  simp at this

theorem ns_hide {h : Heap} {a A : Addr} {m : Str → Option Value} {vs : Array Value} {n : Nat} (x : h.Ns a m) (hA : h.get? A = some (W.listOf vs n)) : (hideAll h [A]).Ns a m ∧ a ≠ A := by
  obtain ⟨o, es, ep, h1, h2, h3⟩ := x
  have hne : a ≠ A := fun q => by
    subst q; rw [hA] at h1; cases h1; cases h2
  exact ⟨⟨o, es, ep, hideAll_get _ h1 (by simpa using hne), h2, h3⟩, hne⟩

theorem ints_vr {ρ : List Addr} {vs : List Value} {ns : List Int} (h : IntsAre vs ns) : All2 (VR ρ) (ns.map V.int) vs := by
  induction h with
  | nil => exact .nil
  | cons n t _ ih => exact .cons ⟨t, rfl⟩ ih

theorem law_main {prog : Program} {w : World} {K : Frag} {T : List Str} {P : Prog} {clsL fnL meL exL : List (Nat × Addr)} {xP : Addr} (hT : ckTop K T P clsL fnL meL exL xP = true) (hF : ckFuns K T P clsL fnL meL exL = true) (hN : noList K = true) (hnf : P.nf = 1)
    {lid : Nat} {fa : Addr} (hfa : fnL.lookup lid = some fa) {s₁ : Shared} (KX : K.In s₁.heap) {mg mb : Str → Option Value} (hmg : s₁.heap.Ns mainGlobals mg) (hmb : s₁.heap.Ns builtinsNs mb) (hbt : ∀ x : Str, x ≠ "__name__" → mb x = bootBuiltins x) (hlim : s₁.heap.NoLimit)
    {A : Addr} {vs : List Value} {ns : List Int} (hL : s₁.heap.get? A = some (W.listOf vs.toArray 0)) (hA : (A == sysModules) = false) (hI : IntsAre vs ns) (hlen : ns.length ≤ lim) {fuel d : Nat} (hd : d ≤ 50) {σ' : H}
    (hrun : run P fuel (d + 1) false lid [.ref 0] [.list (ns.map .int)] = some (.ok (.bool true), σ')) {R : Result → Shared → Prop}
    (hR : ∀ h' tk, (∀ b o, s₁.heap.get? b = some o → h'.get? b = some o) → R (.ok (.ret (.bool true))) { s₁ with heap := h', toks := tk }) :
    codeAny (model prog w) callerA (.call (.ref fa) ⟨[.ref A], []⟩) R s₁ := by
  let S : Sig := mkSig prog w K T P clsL fnL meL exL [(A, W.listOf vs.toArray 0)]
  have OK : SigOK S := top_ok hT
  have FA : FnAll S := funs_ok hF
  have HC : CallsOK S (run P fuel d) (5 * d) := run_ok (S := S) OK FA fuel d
  obtain ⟨fd, hfd, fo, name, qual, params, body, scope, dV, kV, doc, pm, an, cdv, ct, names, O⟩ := FA.1 lid fa hfa
  have e : run P fuel (d + 1) false lid [.ref 0] [.list (ns.map .int)] = (match P.funs.lookup lid with
        | none => none
        | some fd => if [V.ref 0].length = fd.params.length then
            match exs P (run P fuel d) fuel fd.body ((fd.params.zip [V.ref 0]).foldl (fun l p => l.upd p.1 p.2) (fun _ => none)) [.list (ns.map .int)] with
            | none => none
            | some (.err c, _, h₁) => some (.err c, h₁)
            | some (.ok r, _, h₁) => some (.ok (r.getD .none), h₁)
          else none) := rfl
  rw [e, hfd] at hrun
  dsimp only at hrun
  split at hrun
  · rename_i hpl
    cases hb : exs P (run P fuel d) fuel fd.body ((fd.params.zip [V.ref 0]).foldl (fun l p => l.upd p.1 p.2) (fun _ => none)) [.list (ns.map .int)] with
    | none => rw [hb] at hrun; cases hrun
    | some p =>
      obtain ⟨rr, loc', σ₁⟩ := p
      rw [hb] at hrun
      cases rr with
      | err q => cases hrun
      | ok ov =>
        simp only [Option.some.injEq, Prod.mk.injEq, Mine.R.ok.injEq] at hrun
        obtain ⟨hov, rfl⟩ := hrun
        have hov : ov = some (.bool true) := by
          cases ov with
          | none => cases hov
          | some v => exact congrArg some hov
        subst hov
        have hl1 := O.pars.length
        have hvl : [Value.ref A].length = names.length := by rw [← hl1, ← hpl]; rfl
        refine codeAny_call_function (by decide) (KX _ _ O.look) O.data O.co O.gen rfl (codeRec_of KX O.code) (BindsTo.of_eq (s := s₁) (O.bind [.ref A] hvl) _ _ _ _ ?_)
        refine wpAny_newFunctionEnv_cells O.kind (fun x hx => ?_) fun env' he s' x => ?_
        · have hm : x.1 ∈ names := by rw [← zip_map_fst hvl]; exact List.mem_map_of_mem hx
          have hst := O.stor x.1 hm
          unfold storable at hst
          split at hst
          · rename_i e; exact .inl e
          · rename_i e
            refine .inr ⟨e, ?_⟩
            obtain ⟨a, ha⟩ := lookup_of_mem (cellsFrom_has scope.names (s₁.heap.objs.size + 1) [] (.inl (PySem.mem_of_lookup e)))
            rw [ha]; rfl
          · cases hst
        · have he' : env' = envOfC qual scope s₁.heap.objs.size fa cdv := he
          subst he'
          refine ⟨hlim.keeps x.toInCall.keep, codeAny_func ?_⟩
          obtain ⟨h₁, tk, rfl, hk₁⟩ := x.done
          have g1 := ns_hide hmg hL
          have g2 := ns_hide hmb hL
          obtain ⟨mc, hc1, hc2⟩ := hlim
          have g3 := ns_hide hc1 hL
          have hlt := Heap.lt_size hL
          have hv0 : VR (adr [(A, W.listOf vs.toArray 0)]) (.ref 0) (.ref A) := ⟨A, rfl, rfl⟩
          have lE : Led S (hideAll s₁.heap [A]) s₁.heap.objs.size (bindL (envOfC qual scope s₁.heap.objs.size fa cdv).kindOf (names.zip [.ref A]) fun _ => none) [] [] [(A, W.listOf vs.toArray 0)] [.list (ns.map .int)] h₁ := by
            refine ⟨⟨x.toInCall.ns, fun b o q => hk₁ b o (of_hideAll _ q), Nat.le_of_eq (hideAll_size _ _)⟩, fun p hp => ?_, by simp [adr], .one ⟨vs, 0, rfl, ints_vr hI, by simpa using hlen⟩, (fun f hf => nomatch hf), ?_, fun b hb => ?_, List.prefix_rfl, by show 1 ≤ P.nf; rw [hnf]; exact Nat.le_refl _⟩
            · simp only [List.nil_append, List.mem_singleton] at hp
              subst hp
              exact ⟨hk₁ _ _ hL, Nat.ne_of_lt hlt, hideAll_none _ (by simp)⟩
            · obtain ⟨o, _, _, q, _⟩ := g1.1; exact ⟨o, q⟩
            · simp [adr] at hb; subst hb; exact hA
          refine body_ok (S := S) OK HC fuel O (s := { s₁ with heap := h₁, toks := tk }) (Ar := callerA.deeper (envOfC qual scope s₁.heap.objs.size fa cdv)) (fun m cs => ?_) ⟨[], rfl⟩ hpl (.one hv0) lE x.cell x.apart (fun nm a hm => ?_) hb (fun m' os' h' tk' k l' o ho f hf => ?_) fun _ _ _ _ _ _ _ q hq => nomatch hq
          · refine ⟨rfl, ?_, ?_, fun a o q => ?_, ⟨mg, mb, g1.1, g2.1, hbt⟩, ⟨mc, g3.1, hc2⟩, O.kind, rfl, rfl, rfl, _, rfl, fun e he => ?_⟩
            · show 4 + 3 + 2 * (5 * d + 2) + 200 < 9900; lia
            · show 1 + 300 + 1 + (5 * d + 2) < 1000; lia
            · refine hideAll_get _ (KX a o q) ?_
              simp only [List.mem_singleton]
              intro qq; subst qq
              have := KX _ _ q
              rw [hL] at this; cases this
              exact noList_of hN q rfl
            · obtain rfl := List.mem_singleton.mp he
              exact ⟨by rw [show (envOfC qual scope s₁.heap.objs.size fa cdv).scope.kind = .function from O.kind]; exact nofun, _, rfl, .head _⟩
          · have hlt' : s₁.heap.objs.size < a := x.above nm a hm
            refine ⟨hlt', fun p hp => ?_, (fun f hf => nomatch hf)⟩
            simp only [List.nil_append, List.mem_singleton] at hp
            subst hp
            exact Nat.lt_trans hlt hlt'
          · cases ho
            obtain ⟨a, rfl, ha⟩ := hf
            cases ha
            refine hR h' tk' fun b ob q => ?_
            by_cases hbA : b = A
            · subst hbA
              obtain ⟨t, ht⟩ := l'.frz.1
              have hm : (b, W.listOf vs.toArray 0) ∈ os' := by rw [← ht]; exact List.mem_append_left _ (.head _)
              rw [hL] at q; cases q
              exact (l'.news _ hm).1
            · exact l'.fr.keep b ob (hideAll_get _ q (by simpa using hbA))
  · cases hrun
end Mine

set_option autoImplicit false
namespace Mine
open PySem (Str PyData)

noncomputable def okR {α : Type} (Q : α → H → Prop) : Option (R α × H) → Prop
  | some (.ok a, σ) => Q a σ
  | _ => False
noncomputable def Ok {α : Type} (x : X α) (σ : H) (Q : α → H → Prop) : Prop := okR Q (x σ)
noncomputable def okL (Q : Option V → Loc → H → Prop) : Option (R (Option V) × Loc × H) → Prop
  | some (.ok a, l, σ) => Q a l σ
  | _ => False
noncomputable def OkS (x : Option (R (Option V) × Loc × H)) (Q : Option V → Loc → H → Prop) : Prop := okL Q x
theorem ok_iff {α : Type} {x : X α} {σ : H} {Q : α → H → Prop} : Ok x σ Q ↔ ∃ a σ', x σ = some (.ok a, σ') ∧ Q a σ' := by
  unfold Ok
  constructor
  · intro h
    cases e : x σ with
    | none => rw [e] at h; exact h.elim
    | some p => obtain ⟨r, σ'⟩ := p; rw [e] at h; cases r with | ok a => exact ⟨a, σ', rfl, h⟩ | err c => exact h.elim
  · rintro ⟨a, σ', h, q⟩; rw [h]; exact q
theorem oks_iff {x : Option (R (Option V) × Loc × H)} {Q : Option V → Loc → H → Prop} : OkS x Q ↔ ∃ r l σ', x = some (.ok r, l, σ') ∧ Q r l σ' := by
  unfold OkS
  constructor
  · intro h
    cases x with
    | none => exact h.elim
    | some p => obtain ⟨r, l, σ'⟩ := p; cases r with | ok a => exact ⟨a, l, σ', rfl, h⟩ | err c => exact h.elim
  · rintro ⟨a, l, σ', h, q⟩; rw [h]; exact q

noncomputable def bindK {α β : Type} (f : α → X β) (Q : β → H → Prop) : α → H → Prop := fun a σ => Ok (f a) σ Q
theorem bindK_at {α β : Type} {f : α → X β} {Q : β → H → Prop} {a : α} {σ : H} : bindK f Q a σ = Ok (f a) σ Q := rfl
theorem ok_bind {α β : Type} {x : X α} {f : α → X β} {σ : H} {Q : β → H → Prop} : Ok (X.bind x f) σ Q = Ok x σ (bindK f Q) := by
  unfold Ok X.bind
  cases x σ with
  | none => rfl
  | some p => obtain ⟨r, σ₁⟩ := p; cases r <;> rfl
theorem bind_pure {α β : Type} {a : α} {f : α → X β} : X.bind (X.pure a) f = f a := rfl
theorem bind_lift {α β : Type} {a : α} {f : α → X β} : X.bind (X.lift (some a)) f = f a := rfl
theorem ok_pure {α : Type} {a : α} {σ : H} {Q : α → H → Prop} : Ok (X.pure a) σ Q = Q a σ := rfl
theorem ok_none {α : Type} {σ : H} {Q : α → H → Prop} : Ok (X.none : X α) σ Q = False := rfl
theorem ok_lift {α : Type} {a : α} {σ : H} {Q : α → H → Prop} : Ok (X.lift (some a)) σ Q = Q a σ := rfl
theorem ok_some {α : Type} {x : X α} {σ σ' : H} {a : α} {Q : α → H → Prop} (h : x σ = some (.ok a, σ')) : Ok x σ Q = Q a σ' := by unfold Ok; rw [h]; rfl

theorem oks_nil {P : Prog} {C : Calls} {F : Nat} {loc : Loc} {σ : H} {Q : Option V → Loc → H → Prop} : OkS (exs P C F .nil loc σ) Q = Q none loc σ := rfl
noncomputable def andThen (P : Prog) (C : Calls) (F : Nat) (ss : Sts) (Q : Option V → Loc → H → Prop) : Option V → Loc → H → Prop := fun r l σ => match r with
  | none => OkS (exs P C F ss l σ) Q
  | some v => Q (some v) l σ
theorem oks_cons {P : Prog} {C : Calls} {F : Nat} {s : St} {ss : Sts} {loc : Loc} {σ : H} {Q : Option V → Loc → H → Prop} : OkS (exs P C F (.cons s ss) loc σ) Q = OkS (ex P C F s loc σ) (andThen P C F ss Q) := by
  show OkS (match ex P C F s loc σ with | some (.ok none, l₁, h₁) => exs P C F ss l₁ h₁ | r => r) Q = _
  cases ex P C F s loc σ with
  | none => rfl
  | some p =>
    obtain ⟨rr, l₁, σ₁⟩ := p
    cases rr with
    | err k => rfl
    | ok o => cases o <;> rfl
theorem then_none {P : Prog} {C : Calls} {F : Nat} {ss : Sts} {Q : Option V → Loc → H → Prop} {l : Loc} {σ : H} : andThen P C F ss Q none l σ = OkS (exs P C F ss l σ) Q := rfl
theorem then_some {P : Prog} {C : Calls} {F : Nat} {ss : Sts} {Q : Option V → Loc → H → Prop} {l : Loc} {σ : H} {v : V} : andThen P C F ss Q (some v) l σ = Q (some v) l σ := rfl
theorem oks_step {P : Prog} {C : Calls} {F : Nat} {t : Sts} {s : St} {ss : Sts} {loc : Loc} {σ : H} {Q : Option V → Loc → H → Prop} (h : t = .cons s ss) (k : OkS (ex P C F s loc σ) (andThen P C F ss Q)) : OkS (exs P C F t loc σ) Q := by
  subst h; exact oks_cons.mpr k
theorem then_step {P : Prog} {C : Calls} {F : Nat} {t : Sts} {s : St} {ss : Sts} {loc : Loc} {σ : H} {Q : Option V → Loc → H → Prop} (h : t = .cons s ss) (k : OkS (ex P C F s loc σ) (andThen P C F ss Q)) : andThen P C F t Q none loc σ := oks_step h k
noncomputable def onK {α : Type} (f : α → H → Option (R (Option V) × Loc × H)) (Q : Option V → Loc → H → Prop) : α → H → Prop := fun a σ => OkS (f a σ) Q
theorem oks_on {α : Type} {m : X α} {loc : Loc} {f : α → H → Option (R (Option V) × Loc × H)} {σ : H} {Q : Option V → Loc → H → Prop} : OkS (onX m loc f σ) Q = Ok m σ (onK f Q) := by
  unfold Ok onX
  cases m σ with
  | none => rfl
  | some p => obtain ⟨r, σ₁⟩ := p; cases r <;> rfl
theorem oks_some {r : Option V} {l : Loc} {σ : H} {Q : Option V → Loc → H → Prop} : OkS (some (.ok r, l, σ)) Q = Q r l σ := rfl

section
variable {P : Prog} {C : Calls} {F : Nat} {loc : Loc} {σ : H} {Q : Option V → Loc → H → Prop}
noncomputable def exprK {α : Type} (loc : Loc) (Q : Option V → Loc → H → Prop) : α → H → Prop := fun _ σ => Q none loc σ
theorem exprK_at {α : Type} {a : α} : exprK loc Q a σ = Q none loc σ := rfl
theorem s_expr {e : Ex} : OkS (ex P C F (.expr e) loc σ) Q = Ok (ev P C e loc) σ (exprK loc Q) := oks_on
noncomputable def varK (i : Nat) (loc : Loc) (Q : Option V → Loc → H → Prop) : V → H → Prop := fun v σ => Q none (loc.upd i v) σ
theorem varK_at {i : Nat} {v : V} : varK i loc Q v σ = Q none (loc.upd i v) σ := rfl
theorem s_var {i : Nat} {e : Ex} : OkS (ex P C F (.asg (.var i) e) loc σ) Q = Ok (ev P C e loc) σ (varK i loc Q) := oks_on
noncomputable def attrK2 (P : Prog) (n : Nat) (v : V) (loc : Loc) (Q : Option V → Loc → H → Prop) : V → H → Prop := fun ov σ => Ok (setAttr P ov n v) σ (exprK loc Q)
theorem attrK2_at {n : Nat} {v ov : V} : attrK2 P n v loc Q ov σ = Ok (setAttr P ov n v) σ (exprK loc Q) := rfl
noncomputable def attrK (P : Prog) (C : Calls) (o : Ex) (n : Nat) (loc : Loc) (Q : Option V → Loc → H → Prop) : V → H → Prop := fun v σ => Ok (ev P C o loc) σ (attrK2 P n v loc Q)
theorem attrK_at {o : Ex} {n : Nat} {v : V} : attrK P C o n loc Q v σ = Ok (ev P C o loc) σ (attrK2 P n v loc Q) := rfl
theorem s_attr {o e : Ex} {n : Nat} : OkS (ex P C F (.asg (.attr o n) e) loc σ) Q = Ok (ev P C e loc) σ (attrK P C o n loc Q) := by
  refine oks_on.trans (congrArg _ ?_); funext v σ₁; refine oks_on.trans (congrArg _ ?_); funext ov σ₂; exact oks_on
noncomputable def subK3 (P : Prog) (ov v : V) (loc : Loc) (Q : Option V → Loc → H → Prop) : V → H → Prop := fun iv σ => Ok (setItem P ov iv v) σ (exprK loc Q)
theorem subK3_at {ov v iv : V} : subK3 P ov v loc Q iv σ = Ok (setItem P ov iv v) σ (exprK loc Q) := rfl
noncomputable def subK2 (P : Prog) (C : Calls) (i : Ex) (v : V) (loc : Loc) (Q : Option V → Loc → H → Prop) : V → H → Prop := fun ov σ => Ok (ev P C i loc) σ (subK3 P ov v loc Q)
theorem subK2_at {i : Ex} {v ov : V} : subK2 P C i v loc Q ov σ = Ok (ev P C i loc) σ (subK3 P ov v loc Q) := rfl
noncomputable def subK (P : Prog) (C : Calls) (o i : Ex) (loc : Loc) (Q : Option V → Loc → H → Prop) : V → H → Prop := fun v σ => Ok (ev P C o loc) σ (subK2 P C i v loc Q)
theorem subK_at {o i : Ex} {v : V} : subK P C o i loc Q v σ = Ok (ev P C o loc) σ (subK2 P C i v loc Q) := rfl
theorem s_sub {o i e : Ex} : OkS (ex P C F (.asg (.sub o i) e) loc σ) Q = Ok (ev P C e loc) σ (subK P C o i loc Q) := by
  refine oks_on.trans (congrArg _ ?_); funext v σ₁; refine oks_on.trans (congrArg _ ?_); funext ov σ₂; refine oks_on.trans (congrArg _ ?_); funext iv σ₂; exact oks_on
noncomputable def iteK (P : Prog) (C : Calls) (F : Nat) (a b : Sts) (loc : Loc) (Q : Option V → Loc → H → Prop) : Bool → H → Prop := fun t σ => bif t then OkS (exs P C F a loc σ) Q else OkS (exs P C F b loc σ) Q
theorem iteK_t {a b : Sts} : iteK P C F a b loc Q true σ = OkS (exs P C F a loc σ) Q := rfl
theorem iteK_f {a b : Sts} : iteK P C F a b loc Q false σ = OkS (exs P C F b loc σ) Q := rfl
theorem s_ite {c : Ex} {a b : Sts} : OkS (ex P C F (.ite c a b) loc σ) Q = Ok (tst P C c loc (ev P C c loc)) σ (iteK P C F a b loc Q) := by
  refine oks_on.trans (congrArg _ ?_); funext t σ₁; cases t <;> rfl
noncomputable def retK (loc : Loc) (Q : Option V → Loc → H → Prop) : V → H → Prop := fun v σ => Q (some v) loc σ
theorem retK_at {v : V} : retK loc Q v σ = Q (some v) loc σ := rfl
theorem s_ret {e : Ex} : OkS (ex P C F (.ret e) loc σ) Q = Ok (ev P C e loc) σ (retK loc Q) := oks_on
theorem s_ret0 : OkS (ex P C F .ret0 loc σ) Q = Q (some .none) loc σ := rfl
theorem s_pass : OkS (ex P C F .pass loc σ) Q = Q none loc σ := rfl
end

noncomputable def runK (Q : V → H → Prop) : Option V → Loc → H → Prop := fun r _ σ => Q (r.getD .none) σ
theorem runK_some {Q : V → H → Prop} {v : V} {l : Loc} {σ : H} : runK Q (some v) l σ = Q v σ := rfl
theorem runK_none {Q : V → H → Prop} {l : Loc} {σ : H} : runK Q none l σ = Q .none σ := rfl
theorem ok_run {P : Prog} {F d f : Nat} {m : Bool} {fd : FD} {args : List V} {σ : H} {Q : V → H → Prop} (h : (if m then P.meths else P.funs).lookup f = some fd) (hl : args.length = fd.params.length) :
    Ok (run P F (d + 1) m f args) σ Q = OkS (exs P (run P F d) F fd.body ((fd.params.zip args).foldl (fun l p => l.upd p.1 p.2) (fun _ => none)) σ) (runK Q) := by
  unfold Ok run
  simp only [h, hl, if_true]
  cases exs P (run P F d) F fd.body ((fd.params.zip args).foldl (fun l p => l.upd p.1 p.2) (fun _ => none)) σ with
  | none => rfl
  | some p => obtain ⟨r, l, σ₁⟩ := p; cases r <;> rfl

/- the heap -/
theorem get_put_ne {σ : H} {a b : Nat} {o : O} (h : a ≠ b) : (H.put σ a o).get b = σ.get b := List.getElem?_set_ne h
theorem get_put_eq {σ : H} {a : Nat} {o : O} (h : a < σ.length) : (H.put σ a o).get a = some o := List.getElem?_set_self h
theorem get_push_lt {σ : H} {a : Nat} {o : O} (h : a < σ.length) : (H.push σ o).get a = σ.get a := List.getElem?_append_left h
theorem get_push_eq {σ : H} {o : O} : (H.push σ o).get σ.length = some o := List.getElem?_concat_length
theorem len_put {σ : H} {a : Nat} {o : O} : (H.put σ a o).length = σ.length := List.length_set
theorem len_push {σ : H} {o : O} : (H.push σ o).length = σ.length + 1 := List.length_append

noncomputable def methX (P : Prog) (C : Calls) (ax : X (List V)) (i : Nat) (ov : V) : X V := fun h => match kdOf ov h with
  | .inst => if i ≤ 12 then none else X.bind ax (fun vs => C true i (ov :: vs)) h
  | .list => if i = idAppend ∨ i = idPop ∨ i = idClear then X.bind ax (fun vs => listMeth P ov i vs) h else none
  | .dict => if i = idPop then X.bind ax (fun vs => dictMeth P ov i vs) h else none
  | _ => none
noncomputable def compX (tg : List Nat) (tup : Bool) (t : Loc → X Bool) (e : Loc → X V) (loc : Loc) (v : V) : X V := fun h => match iterOf v h with
  | none => none
  | some vs => X.bind (compL v tg tup t e loc h vs) (fun ws => alloc (.list ws)) h
section
variable {P : Prog} {C : Calls} {loc : Loc}
theorem bif_t {α : Type} {a b : α} : (bif true then a else b) = a := rfl
theorem bif_f {α : Type} {a b : α} : (bif false then a else b) = b := rfl
theorem upd_def {l : Loc} {i j : Nat} {v : V} : l.upd i v j = bif j == i then some v else l j := rfl
theorem e_none : ev P C .cnone loc = X.pure .none := rfl
theorem e_bool {b : Bool} : ev P C (.cbool b) loc = X.pure (.bool b) := rfl
theorem e_int {i : Int} : ev P C (.cint i) loc = X.pure (.int i) := rfl
theorem e_str {s : Str} : ev P C (.cstr s) loc = X.pure (.str s) := rfl
theorem e_loc {i : Nat} : ev P C (.loc i) loc = X.lift (loc i) := rfl
noncomputable def binF (P : Prog) (C : Calls) (op : PySem.Operator) (b : Ex) (loc : Loc) : V → X V := fun x => X.bind (ev P C b loc) (binop op x)
theorem binF_at {op : PySem.Operator} {b : Ex} {x : V} : binF P C op b loc x = X.bind (ev P C b loc) (binop op x) := rfl
theorem e_bin {op : PySem.Operator} {a b : Ex} : ev P C (.bin op a b) loc = X.bind (ev P C a loc) (binF P C op b loc) := rfl
noncomputable def notF2 : Bool → X V := fun t => X.pure (.bool (!t))
theorem notF2_t : notF2 true = X.pure (.bool false) := rfl
theorem notF2_f : notF2 false = X.pure (.bool true) := rfl
noncomputable def notF : V → X V := fun x => X.bind (truth x) notF2
theorem notF_at {x : V} : notF x = X.bind (truth x) notF2 := rfl
theorem e_not {a : Ex} : ev P C (.not a) loc = X.bind (ev P C a loc) notF := rfl
theorem e_band {es : Exs} : ev P C (.band es) loc = evAnd P C es loc := rfl
theorem e_bor {es : Exs} : ev P C (.bor es) loc = evOr P C es loc := rfl
noncomputable def cmpF (P : Prog) (C : Calls) (op : PySem.CmpOp) (b : Ex) (loc : Loc) : V → X V := fun x => X.bind (ev P C b loc) (cmpop P op x)
theorem cmpF_at {op : PySem.CmpOp} {b : Ex} {x : V} : cmpF P C op b loc x = X.bind (ev P C b loc) (cmpop P op x) := rfl
theorem e_cmp {op : PySem.CmpOp} {a b : Ex} : ev P C (.cmp op a b) loc = X.bind (ev P C a loc) (cmpF P C op b loc) := rfl
noncomputable def cmpG (P : Prog) (C : Calls) (o2 : PySem.CmpOp) (c : Ex) (loc : Loc) (y r : V) : Bool → X V := fun t => bif t then X.bind (ev P C c loc) (cmpop P o2 y) else X.pure r
theorem cmpG_t {o2 : PySem.CmpOp} {c : Ex} {y r : V} : cmpG P C o2 c loc y r true = X.bind (ev P C c loc) (cmpop P o2 y) := rfl
theorem cmpG_f {o2 : PySem.CmpOp} {c : Ex} {y r : V} : cmpG P C o2 c loc y r false = X.pure r := rfl
theorem e_cmp2 {o1 o2 : PySem.CmpOp} {a b c : Ex} : ev P C (.cmp2 o1 o2 a b c) loc = X.bind (ev P C a loc) fun x => X.bind (ev P C b loc) fun y => X.bind (cmpop P o1 x y) fun r => X.bind (truth r) (cmpG P C o2 c loc y r) := by
  show (X.bind _ fun x => X.bind _ fun y => X.bind _ fun r => X.bind _ fun t => _) = _
  refine congrArg _ (funext fun x => congrArg _ (funext fun y => congrArg _ (funext fun r => congrArg _ (funext fun t => ?_))))
  cases t <;> rfl
noncomputable def listF : List V → X V := fun vs => alloc (.list vs)
theorem listF_at {vs : List V} : listF vs = alloc (.list vs) := rfl
theorem e_list {es : Exs} : ev P C (.list es) loc = X.bind (evs P C es loc) listF := rfl
noncomputable def tupF : List V → X V := fun vs => alloc (.tup vs)
theorem tupF_at {vs : List V} : tupF vs = alloc (.tup vs) := rfl
theorem e_tup {es : Exs} : ev P C (.tup es) loc = X.bind (evs P C es loc) tupF := rfl
theorem e_dict0 : ev P C (.dict .nil .nil) loc = alloc (.dict []) := rfl
noncomputable def attrF (n : Nat) : V → X V := fun o => getAttr o n
theorem attrF_at {n : Nat} {o : V} : attrF n o = getAttr o n := rfl
theorem e_attr {a : Ex} {n : Nat} : ev P C (.attr a n) loc = X.bind (ev P C a loc) (attrF n) := rfl
noncomputable def subF (P : Prog) (C : Calls) (i : Ex) (loc : Loc) : V → X V := fun o => X.bind (ev P C i loc) (getItem P o)
theorem subF_at {i : Ex} {o : V} : subF P C i loc o = X.bind (ev P C i loc) (getItem P o) := rfl
theorem e_sub {a i : Ex} : ev P C (.sub a i) loc = X.bind (ev P C a loc) (subF P C i loc) := rfl
noncomputable def slF2 (P : Prog) (C : Calls) (u : Ex) (loc : Loc) (o : V) : V → X V := fun l => X.bind (ev P C u loc) (getSlice o l)
theorem slF2_at {u : Ex} {o l : V} : slF2 P C u loc o l = X.bind (ev P C u loc) (getSlice o l) := rfl
noncomputable def slF (P : Prog) (C : Calls) (l u : Ex) (loc : Loc) : V → X V := fun o => X.bind (ev P C l loc) (slF2 P C u loc o)
theorem slF_at {l u : Ex} {o : V} : slF P C l u loc o = X.bind (ev P C l loc) (slF2 P C u loc o) := rfl
theorem e_slice {a l u : Ex} : ev P C (.slice a l u) loc = X.bind (ev P C a loc) (slF P C l u loc) := rfl
theorem e_call {f : Nat} {args : Exs} : ev P C (.call f args) loc = X.bind (evs P C args loc) (C false f) := rfl
theorem e_meth {o : Ex} {i : Nat} {args : Exs} : ev P C (.meth o i args) loc = X.bind (ev P C o loc) (methX P C (evs P C args loc) i) := rfl
theorem e_bi {b : Bi} {args : Exs} : ev P C (.bi b args) loc = X.bind (evs P C args loc) (builtin b) := rfl
noncomputable def boolF : Bool → X V := fun b => X.pure (.bool b)
theorem boolF_at {b : Bool} : boolF b = X.pure (.bool b) := rfl
noncomputable def isiF (P : Prog) (cs : List Nat) : V → X V := fun v => X.bind (isinsts P v cs) boolF
theorem isiF_at {cs : List Nat} {v : V} : isiF P cs v = X.bind (isinsts P v cs) boolF := rfl
theorem e_isi {a : Ex} {cs : List Nat} : ev P C (.isi a cs) loc = X.bind (ev P C a loc) (isiF P cs) := rfl
theorem e_comp {elt it : Ex} {tg : List Nat} {tup : Bool} {conds : Exs} : ev P C (.comp elt tg tup it conds) loc = X.bind (ev P C it loc) (compX tg tup (tstAnd P C conds) (ev P C elt) loc) := rfl
theorem es_nil : evs P C .nil loc = X.pure [] := rfl
noncomputable def consF2 (v : V) : List V → X (List V) := fun vs => X.pure (v :: vs)
theorem consF2_at {v : V} {vs : List V} : consF2 v vs = X.pure (v :: vs) := rfl
noncomputable def consF (P : Prog) (C : Calls) (es : Exs) (loc : Loc) : V → X (List V) := fun v => X.bind (evs P C es loc) (consF2 v)
theorem consF_at {es : Exs} {v : V} : consF P C es loc v = X.bind (evs P C es loc) (consF2 v) := rfl
theorem es_cons {e : Ex} {es : Exs} : evs P C (.cons e es) loc = X.bind (ev P C e loc) (consF P C es loc) := rfl
noncomputable def eandF (P : Prog) (C : Calls) (es : Exs) (loc : Loc) (v : V) : Bool → X V := fun t => bif t then evAnd P C es loc else X.pure v
theorem eandF_t {es : Exs} {v : V} : eandF P C es loc v true = evAnd P C es loc := rfl
theorem eandF_f {es : Exs} {v : V} : eandF P C es loc v false = X.pure v := rfl
theorem ea_one {e : Ex} : evAnd P C (.cons e .nil) loc = ev P C e loc := rfl
theorem ea_cons {e e' : Ex} {es : Exs} : evAnd P C (.cons e (.cons e' es)) loc = X.bind (ev P C e loc) fun v => X.bind (truth v) (eandF P C (.cons e' es) loc v) := by
  show (X.bind _ fun v => X.bind _ fun t => _) = _
  refine congrArg _ (funext fun v => congrArg _ (funext fun t => ?_)); cases t <;> rfl
/- tests -/
section
variable {w : X V}
noncomputable def tnotF : Bool → X Bool := fun t => X.pure (!t)
theorem tnotF_t : tnotF true = X.pure false := rfl
theorem tnotF_f : tnotF false = X.pure true := rfl
theorem tt_not {a : Ex} : tst P C (.not a) loc w = X.bind (tst P C a loc (ev P C a loc)) tnotF := rfl
theorem tt_band {es : Exs} : tst P C (.band es) loc w = tstAnd P C es loc := rfl
theorem tt_bor {es : Exs} : tst P C (.bor es) loc w = tstOr P C es loc := rfl
theorem tt_bool {b : Bool} : tst P C (.cbool b) loc w = X.bind w truth := rfl
theorem tt_loc {i : Nat} : tst P C (.loc i) loc w = X.bind w truth := rfl
theorem tt_cmp {op : PySem.CmpOp} {a b : Ex} : tst P C (.cmp op a b) loc w = X.bind w truth := rfl
theorem tt_cmp2 {o1 o2 : PySem.CmpOp} {a b c : Ex} : tst P C (.cmp2 o1 o2 a b c) loc w = X.bind w truth := rfl
theorem tt_call {f : Nat} {args : Exs} : tst P C (.call f args) loc w = X.bind w truth := rfl
theorem tt_meth {o : Ex} {i : Nat} {args : Exs} : tst P C (.meth o i args) loc w = X.bind w truth := rfl
theorem tt_isi {a : Ex} {cs : List Nat} : tst P C (.isi a cs) loc w = X.bind w truth := rfl
theorem tt_attr {a : Ex} {n : Nat} : tst P C (.attr a n) loc w = X.bind w truth := rfl
theorem tt_sub {a i : Ex} : tst P C (.sub a i) loc w = X.bind w truth := rfl
theorem tt_bin {op : PySem.Operator} {a b : Ex} : tst P C (.bin op a b) loc w = X.bind w truth := rfl
noncomputable def andF (P : Prog) (C : Calls) (es : Exs) (loc : Loc) : Bool → X Bool := fun t => bif t then tstAnd P C es loc else X.pure false
theorem andF_t {es : Exs} : andF P C es loc true = tstAnd P C es loc := rfl
theorem andF_f {es : Exs} : andF P C es loc false = X.pure false := rfl
theorem ta_nil : tstAnd P C .nil loc = X.pure true := rfl
theorem ta_cons {e : Ex} {es : Exs} : tstAnd P C (.cons e es) loc = X.bind (tst P C e loc (ev P C e loc)) (andF P C es loc) := by
  show (X.bind _ fun t => _) = _
  refine congrArg _ (funext fun t => ?_); cases t <;> rfl
noncomputable def orF (P : Prog) (C : Calls) (es : Exs) (loc : Loc) : Bool → X Bool := fun t => bif t then X.pure true else tstOr P C es loc
theorem orF_t {es : Exs} : orF P C es loc true = X.pure true := rfl
theorem orF_f {es : Exs} : orF P C es loc false = tstOr P C es loc := rfl
theorem to_nil : tstOr P C .nil loc = X.pure false := rfl
theorem to_cons {e : Ex} {es : Exs} : tstOr P C (.cons e es) loc = X.bind (tst P C e loc (ev P C e loc)) (orF P C es loc) := by
  show (X.bind _ fun t => _) = _
  refine congrArg _ (funext fun t => ?_); cases t <;> rfl
end
end
section
variable {P : Prog} {C : Calls} {σ : H} {ax : X (List V)} {Q : V → H → Prop}
theorem ok_of_eq {α : Type} {x y : X α} {Q : α → H → Prop} (h : x σ = y σ) : Ok x σ Q = Ok y σ Q := by unfold Ok; rw [h]
noncomputable def methF (C : Calls) (i : Nat) (ov : V) : List V → X V := fun vs => C true i (ov :: vs)
theorem methF_at {i : Nat} {ov : V} {vs : List V} : methF C i ov vs = C true i (ov :: vs) := rfl
theorem mx_inst {i p c d : Nat} {es : List (Nat × V)} (h1 : σ.get p = some (.inst c d)) (h2 : σ.get d = some (.attrs es)) (hi : 12 < i) : Ok (methX P C ax i (.ref p)) σ Q = Ok ax σ (bindK (methF C i (.ref p)) Q) := by
  rw [← ok_bind]
  refine ok_of_eq ?_
  have hk : kdOf (.ref p) σ = .inst := by unfold kdOf; simp only [h1, h2]
  unfold methX
  rw [hk]
  exact if_neg (Nat.not_le_of_lt hi)
theorem mx_list {i a : Nat} {xs : List V} (h1 : σ.get a = some (.list xs)) (hi : i = 6 ∨ i = 7 ∨ i = 8) : Ok (methX P C ax i (.ref a)) σ Q = Ok ax σ (bindK (listMeth P (.ref a) i) Q) := by
  rw [← ok_bind]
  refine ok_of_eq ?_
  have hk : kdOf (.ref a) σ = .list := by unfold kdOf; simp only [h1]
  unfold methX
  rw [hk]
  exact if_pos hi
theorem mx_dict {a : Nat} {es : List (V × V)} (h1 : σ.get a = some (.dict es)) : Ok (methX P C ax 7 (.ref a)) σ Q = Ok ax σ (bindK (dictMeth P (.ref a) 7) Q) := by
  rw [← ok_bind]
  refine ok_of_eq ?_
  have hk : kdOf (.ref a) σ = .dict := by unfold kdOf; simp only [h1]
  unfold methX
  rw [hk]
  exact if_pos rfl
end

noncomputable def OkW (P : Prog) (C : Calls) (F n : Nat) (c : Ex) (b : Sts) (loc : Loc) (σ : H) (Q : Option V → Loc → H → Prop) : Prop := OkS (whileL (fun l => tst P C c l (ev P C c l)) (exs P C F b) n loc σ) Q
noncomputable def OkF (P : Prog) (C : Calls) (F : Nat) (v : V) (tg : List Nat) (tup : Bool) (b : Sts) (h₀ : H) (vs : List V) (loc : Loc) (σ : H) (Q : Option V → Loc → H → Prop) : Prop := OkS (forL v tg tup (exs P C F b) h₀ vs loc σ) Q
section
variable {P : Prog} {C : Calls} {F : Nat} {loc : Loc} {σ : H} {Q : Option V → Loc → H → Prop}
theorem s_whl {c : Ex} {b : Sts} : OkS (ex P C F (.whl c b) loc σ) Q = OkW P C F F c b loc σ Q := rfl
noncomputable def turnK (P : Prog) (C : Calls) (F n : Nat) (c : Ex) (b : Sts) (Q : Option V → Loc → H → Prop) : Option V → Loc → H → Prop := fun r l σ => match r with | none => OkW P C F n c b l σ Q | some v => Q (some v) l σ
theorem turnK_none {n : Nat} {c : Ex} {b : Sts} : turnK P C F n c b Q none loc σ = OkW P C F n c b loc σ Q := rfl
theorem turnK_some {n : Nat} {c : Ex} {b : Sts} {v : V} : turnK P C F n c b Q (some v) loc σ = Q (some v) loc σ := rfl
noncomputable def whlK (P : Prog) (C : Calls) (F n : Nat) (c : Ex) (b : Sts) (loc : Loc) (Q : Option V → Loc → H → Prop) : Bool → H → Prop := fun t σ => bif t then OkS (exs P C F b loc σ) (turnK P C F n c b Q) else Q none loc σ
theorem whlK_t {n : Nat} {c : Ex} {b : Sts} : whlK P C F n c b loc Q true σ = OkS (exs P C F b loc σ) (turnK P C F n c b Q) := rfl
theorem whlK_f {n : Nat} {c : Ex} {b : Sts} : whlK P C F n c b loc Q false σ = Q none loc σ := rfl
theorem w_step {n : Nat} {c : Ex} {b : Sts} : OkW P C F (n + 1) c b loc σ Q = Ok (tst P C c loc (ev P C c loc)) σ (whlK P C F n c b loc Q) := by
  unfold OkW Ok whileL
  cases tst P C c loc (ev P C c loc) σ with
  | none => rfl
  | some p =>
    obtain ⟨tr, σ₁⟩ := p
    cases tr with
    | err k => rfl
    | ok t =>
      cases t with
      | false => rfl
      | true =>
        show OkS (match exs P C F b loc σ₁ with | none => none | some (.ok none, l₂, h₂) => _ | some (.ok (some v), l₂, h₂) => some (.ok (some v), l₂, h₂) | some (.err _, _, _) => none) Q = OkS (exs P C F b loc σ₁) _
        cases exs P C F b loc σ₁ with
        | none => rfl
        | some p₂ => obtain ⟨rr, l₂, σ₂⟩ := p₂; cases rr with
          | err k => rfl
          | ok o => cases o <;> rfl
noncomputable def forK (P : Prog) (C : Calls) (F : Nat) (tg : List Nat) (tup : Bool) (b : Sts) (loc : Loc) (Q : Option V → Loc → H → Prop) : V → H → Prop := fun v σ => ∃ vs, iterOf v σ = some vs ∧ OkF P C F v tg tup b σ vs loc σ Q
theorem forK_at {tg : List Nat} {tup : Bool} {b : Sts} {v : V} : forK P C F tg tup b loc Q v σ = ∃ vs, iterOf v σ = some vs ∧ OkF P C F v tg tup b σ vs loc σ Q := rfl
theorem s_for {tg : List Nat} {tup : Bool} {e : Ex} {b : Sts} : OkS (ex P C F (.for tg tup e b) loc σ) Q = Ok (ev P C e loc) σ (forK P C F tg tup b loc Q) := by
  refine oks_on.trans (congrArg _ ?_)
  funext v σ₁
  refine propext ⟨fun h => ?_, ?_⟩
  · unfold onK at h
    dsimp only at h
    cases hi : iterOf v σ₁ with
    | none => rw [hi] at h; exact h.elim
    | some vs => rw [hi] at h; exact ⟨vs, hi, h⟩
  · rintro ⟨vs, hi, h⟩
    unfold onK; dsimp only; rw [hi]; exact h
theorem f_nil {v : V} {tg : List Nat} {tup : Bool} {b : Sts} {h₀ : H} : OkF P C F v tg tup b h₀ [] loc σ Q = Q none loc σ := rfl
theorem f_inv {v : V} {i : Nat} {b : Sts} {h₀ : H} {vs : List V} (I : Nat → Loc → H → Prop) (h0 : I 0 loc σ)
    (step : ∀ j l s y, vs[j]? = some y → I j l s → OkS (exs P C F b (l.upd i y) s) (fun r l' s' => r = none ∧ still v h₀ s' = true ∧ I (j + 1) l' s')) (fin : ∀ l s, I vs.length l s → Q none l s) : OkF P C F v [i] false b h₀ vs loc σ Q := by
  have key : ∀ (rest : List V) (j : Nat) (l : Loc) (s : H), j ≤ vs.length → vs.drop j = rest → I j l s → OkF P C F v [i] false b h₀ rest l s Q := by
    intro rest
    induction rest with
    | nil =>
      intro j l s hle hd hI
      rw [f_nil]
      have hj : vs.length ≤ j := List.drop_eq_nil_iff.mp hd
      have hje : j = vs.length := Nat.le_antisymm hle hj
      subst hje; exact fin l s hI
    | cons y ys ih =>
      intro j l s hle hd hI
      have hj : vs[j]? = some y := by
        have : (vs.drop j)[0]? = some y := by rw [hd]; rfl
        simpa using this
      obtain ⟨r, l', s', hb, rfl, hst, hI'⟩ := oks_iff.mp (step j l s y hj hI)
      have hd' : vs.drop (j + 1) = ys := by
        have : (vs.drop j).drop 1 = ys := by rw [hd]; rfl
        simpa [Nat.add_comm] using this
      have h2 := ih (j + 1) l' s' (List.getElem?_eq_some_iff.mp hj).1 hd' hI'
      unfold OkF forL
      have hbt : bindTg [i] false y l s = some (l.upd i y) := rfl
      rw [hbt]
      dsimp only
      rw [hb]
      dsimp only
      rw [if_pos hst]
      exact h2
  exact key vs 0 loc σ (Nat.zero_le _) rfl h0
theorem compL_pure {v : V} {i : Nat} {t : Loc → X Bool} {e : Loc → X V} {h₀ : H} (p : V → Bool) (g : V → V) (hst : still v h₀ σ = true) : ∀ vs : List V, (∀ y ∈ vs, t (loc.upd i y) σ = some (.ok (p y), σ)) → (∀ y ∈ vs, p y = true → e (loc.upd i y) σ = some (.ok (g y), σ)) →
    compL v [i] false t e loc h₀ vs σ = some (.ok ((vs.filter p).map g), σ)
  | [], _, _ => rfl
  | y :: ys, h1, h2 => by
    have ih := compL_pure p g hst ys (fun z hz => h1 z (.tail _ hz)) (fun z hz => h2 z (.tail _ hz))
    unfold compL
    have hbt : bindTg [i] false y loc σ = some (loc.upd i y) := rfl
    rw [hbt]
    dsimp only
    rw [h1 y (.head _)]
    cases hp : p y with
    | false => dsimp only; rw [if_pos hst, ih, List.filter_cons, hp]; rfl
    | true => dsimp only; rw [h2 y (.head _) hp]; dsimp only; rw [if_pos hst, ih, List.filter_cons, hp]; rfl
theorem c_pure {v : V} {i : Nat} {t : Loc → X Bool} {e : Loc → X V} {vs : List V} {Q : V → H → Prop} (p : V → Bool) (g : V → V) (hi : iterOf v σ = some vs) (h1 : ∀ y ∈ vs, t (loc.upd i y) σ = some (.ok (p y), σ)) (h2 : ∀ y ∈ vs, p y = true → e (loc.upd i y) σ = some (.ok (g y), σ))
    (hl : ((vs.filter p).map g).length ≤ lim) : Ok (compX [i] false t e loc v) σ Q = Q (.ref σ.length) (σ.push (.list ((vs.filter p).map g))) := by
  refine ok_some ?_
  unfold compX
  rw [hi]
  have hst : still v σ σ = true := by cases v <;> simp [still]
  dsimp only
  unfold X.bind
  rw [compL_pure p g hst vs h1 h2]
  dsimp only
  unfold alloc
  rw [if_pos (by simpa [okO] using hl)]
theorem ok_alloc {o : O} {Q : V → H → Prop} (h : okO o = true) : Ok (alloc o) σ Q = Q (.ref σ.length) (σ.push o) := ok_some (by unfold alloc; rw [if_pos h])
theorem ok_eq {α : Type} {x : X α} {a : α} {σ' : H} (h : Ok x σ (fun b s => b = a ∧ s = σ')) : x σ = some (.ok a, σ') := by
  obtain ⟨b, s, h', rfl, rfl⟩ := ok_iff.mp h; exact h'
theorem it_list {a : Nat} {xs : List V} (h : σ.get a = some (.list xs)) : iterOf (.ref a) σ = some xs := by unfold iterOf; simp [h]
theorem it_range {a : Nat} {n : Int} (h : σ.get a = some (.rng 0 n 1)) (h0 : 0 ≤ n) (h1 : n ≤ 1000000) : iterOf (.ref a) σ = some ((List.range n.toNat).map fun (k : Nat) => V.int (k : Int)) := by
  unfold iterOf
  simp only [h]
  have c1 : small' 0 = true := by decide
  have c2 : small' n = true := by unfold small'; simp; lia
  have c3 : small' 1 = true := by decide
  rw [c1, c2, c3, if_pos (by simp [lim]; lia)]
  congr 1
  unfold rangeList
  rw [if_pos (by decide)]
  by_cases hn : 0 < n
  · rw [if_pos hn]
    have : ((n - 0 - 1) / 1 + 1).toNat = n.toNat := by lia
    rw [this, List.map_map]
    apply List.map_congr_left
    intro k _
    simp
  · have : n = 0 := by lia
    subst this; rfl
theorem still_get {a : Nat} {h h' : H} (e : h'.get a = h.get a) : still (.ref a) h h' = true := by simp [still, e]
end
end Mine

set_option autoImplicit false
namespace Mine.PP
open PySem Mine
noncomputable def m___init___5 : Sts := .cons (.asg (.attr (.loc 46) 51) (.cint 0)) .nil
noncomputable def m___init___4 : Sts := .cons (.asg (.attr (.loc 46) 50) (.dict .nil .nil)) m___init___5
noncomputable def m___init___3 : Sts := .cons (.asg (.attr (.loc 46) 49) (.dict .nil .nil)) m___init___4
noncomputable def m___init___2 : Sts := .cons (.asg (.attr (.loc 46) 48) (.dict .nil .nil)) m___init___3
noncomputable def m___init___1 : Sts := .cons (.asg (.attr (.loc 46) 47) (.comp .cnone [14] false (.bi .range (.cons (.glo 21) .nil)) .nil)) m___init___2
noncomputable def m___init__ : FD := ⟨[46], m___init___1⟩
noncomputable def m_need_hand : FD := ⟨[46, 52],
  (.cons (.ite (.not (.cmp2 .LtE .Lt (.cint 0) (.loc 52) (.glo 21)))
    .any
    .nil)
  .nil)⟩
noncomputable def m_need_box : FD := ⟨[46, 53],
  (.cons (.ite (.cmp .NotIn (.loc 53) (.attr (.loc 46) 48))
    .any
    .nil)
  .nil)⟩
noncomputable def m_box_with_slot : FD := ⟨[46, 52, 54],
  (.cons (.asg (.var 53) (.sub (.attr (.loc 46) 47) (.loc 52)))
  (.cons (.ite (.cmp .Is (.loc 53) .cnone)
    .any
    .nil)
  (.cons (.ite (.not (.cmp2 .LtE .Lt (.cint 0) (.loc 54) (.bi .len (.cons (.sub (.attr (.loc 46) 48) (.loc 53)) .nil))))
    (.cons (.rais 85 (.ofString "no such slot"))
    .nil)
    .nil)
  (.cons (.ret (.loc 53))
  .nil))))⟩
noncomputable def m_counted : FD := ⟨[46, 53],
  (.cons (.ite (.cmp .IsNot (.loc 53) .cnone)
    (.cons (.asg (.sub (.attr (.loc 46) 49) (.loc 53)) (.bin .Add (.sub (.attr (.loc 46) 49) (.loc 53)) (.cint 1)))
    .nil)
    .nil)
  .nil)⟩
noncomputable def m_let_go_5 : Sts := .cons (.ret (.loc 55)) .nil
noncomputable def m_let_go_4 : Sts := .cons (.whl (.cmp .Lt (.loc 56) (.bi .len (.cons (.loc 55) .nil))) .any) m_let_go_5
noncomputable def m_let_go_3 : Sts := .cons (.asg (.var 56) (.cint 0)) m_let_go_4
noncomputable def m_let_go_2 : Sts := .cons (.expr (.meth (.loc 46) 31 (.cons (.loc 53) (.cons (.loc 55) .nil)))) m_let_go_3
noncomputable def m_let_go_1 : Sts := .cons (.asg (.var 55) (.list .nil)) m_let_go_2
noncomputable def m_let_go : FD := ⟨[46, 53], m_let_go_1⟩
noncomputable def m_lighter : FD := ⟨[46, 53, 55],
  (.cons (.ite (.cmp .Is (.loc 53) .cnone)
    (.cons .ret0
    .nil)
    .nil)
  (.cons (.asg (.sub (.attr (.loc 46) 49) (.loc 53)) (.bin .Sub (.sub (.attr (.loc 46) 49) (.loc 53)) (.cint 1)))
  (.cons (.ite (.cmp .Gt (.sub (.attr (.loc 46) 49) (.loc 53)) (.cint 0))
    (.cons (.asg (.sub (.attr (.loc 46) 50) (.loc 53)) (.cbool true))
    (.cons .ret0
    .nil))
    .nil)
  .any)))⟩
noncomputable def m_handed_4 : Sts := .cons (.ret (.meth (.loc 46) 30 (.cons (.loc 57) .nil))) .nil
noncomputable def m_handed_3 : Sts := .cons (.asg (.sub (.attr (.loc 46) 47) (.loc 52)) (.loc 53)) m_handed_4
noncomputable def m_handed_2 : Sts := .cons (.asg (.var 57) (.sub (.attr (.loc 46) 47) (.loc 52))) m_handed_3
noncomputable def m_handed_1 : Sts := .cons (.expr (.meth (.loc 46) 29 (.cons (.loc 53) .nil))) m_handed_2
noncomputable def m_handed : FD := ⟨[46, 52, 53], m_handed_1⟩
noncomputable def m_pointed_4 : Sts := .cons (.ret (.meth (.loc 46) 30 (.cons (.loc 57) .nil))) .nil
noncomputable def m_pointed_3 : Sts := .cons (.asg (.sub (.sub (.attr (.loc 46) 48) (.loc 58)) (.loc 54)) (.loc 53)) m_pointed_4
noncomputable def m_pointed_2 : Sts := .cons (.asg (.var 57) (.sub (.sub (.attr (.loc 46) 48) (.loc 58)) (.loc 54))) m_pointed_3
noncomputable def m_pointed_1 : Sts := .cons (.expr (.meth (.loc 46) 29 (.cons (.loc 53) .nil))) m_pointed_2
noncomputable def m_pointed : FD := ⟨[46, 58, 54, 53], m_pointed_1⟩
noncomputable def m_make_8 : Sts := .cons (.ret (.meth (.loc 46) 32 (.cons (.loc 52) (.cons (.loc 53) .nil)))) .nil
noncomputable def m_make_7 : Sts := .cons (.asg (.sub (.attr (.loc 46) 49) (.loc 53)) (.cint 0)) m_make_8
noncomputable def m_make_6 : Sts := .cons (.asg (.sub (.attr (.loc 46) 48) (.loc 53)) (.comp .cnone [14] false (.bi .range (.cons (.loc 59) .nil)) .nil)) m_make_7
noncomputable def m_make_5 : Sts := .cons (.asg (.attr (.loc 46) 51) (.bin .Add (.loc 53) (.cint 1))) m_make_6
noncomputable def m_make_4 : Sts := .cons (.asg (.var 53) (.attr (.loc 46) 51)) m_make_5
noncomputable def m_make_3 : Sts := .cons (.ite (.cmp .Eq (.bi .len (.cons (.attr (.loc 46) 48) .nil)) (.glo 23)) .any .nil) m_make_4
noncomputable def m_make_2 : Sts := .cons (.ite (.not (.cmp2 .LtE .LtE (.cint 0) (.loc 59) (.glo 22))) .any .nil) m_make_3
noncomputable def m_make_1 : Sts := .cons (.expr (.meth (.loc 46) 26 (.cons (.loc 52) .nil))) m_make_2
noncomputable def m_make : FD := ⟨[46, 52, 59], m_make_1⟩
noncomputable def m_put : FD := ⟨[46, 52, 54, 60],
  (.cons (.expr (.meth (.loc 46) 26 (.cons (.loc 52) .nil)))
  (.cons (.expr (.meth (.loc 46) 26 (.cons (.loc 60) .nil)))
  (.cons (.asg (.var 58) (.meth (.loc 46) 28 (.cons (.loc 52) (.cons (.loc 54) .nil))))
  (.cons (.ret (.meth (.loc 46) 33 (.cons (.loc 58) (.cons (.loc 54) (.cons (.sub (.attr (.loc 46) 47) (.loc 60)) .nil)))))
  .nil))))⟩
noncomputable def m_empty : FD := ⟨[46, 52, 54],
  (.cons (.expr (.meth (.loc 46) 26 (.cons (.loc 52) .nil)))
  (.cons (.asg (.var 58) (.meth (.loc 46) 28 (.cons (.loc 52) (.cons (.loc 54) .nil))))
  (.cons (.ret (.meth (.loc 46) 33 (.cons (.loc 58) (.cons (.loc 54) (.cons .cnone .nil)))))
  .nil)))⟩
noncomputable def m_take : FD := ⟨[46, 52, 60, 54],
  (.cons (.expr (.meth (.loc 46) 26 (.cons (.loc 52) .nil)))
  (.cons (.expr (.meth (.loc 46) 26 (.cons (.loc 60) .nil)))
  (.cons (.asg (.var 58) (.meth (.loc 46) 28 (.cons (.loc 60) (.cons (.loc 54) .nil))))
  (.cons (.ret (.meth (.loc 46) 32 (.cons (.loc 52) (.cons (.sub (.sub (.attr (.loc 46) 48) (.loc 58)) (.loc 54)) .nil))))
  .nil))))⟩
noncomputable def m_holds : FD := ⟨[46, 52],
  (.cons (.expr (.meth (.loc 46) 26 (.cons (.loc 52) .nil)))
  (.cons (.ret (.sub (.attr (.loc 46) 47) (.loc 52)))
  .nil))⟩
noncomputable def m_points : FD := ⟨[46, 53],
  (.cons (.expr (.meth (.loc 46) 27 (.cons (.loc 53) .nil)))
  (.cons (.ret (.bi .list (.cons (.sub (.attr (.loc 46) 48) (.loc 53)) .nil)))
  .nil))⟩
noncomputable def m_weighs : FD := ⟨[46, 53],
  (.cons (.expr (.meth (.loc 46) 27 (.cons (.loc 53) .nil)))
  (.cons (.ret (.sub (.attr (.loc 46) 49) (.loc 53)))
  .nil))⟩
noncomputable def m_alive : FD := ⟨[46],
  (.cons (.ret (.bi .sorted (.cons (.attr (.loc 46) 48) .nil)))
  .nil)⟩
noncomputable def m_suspects : FD := ⟨[46],
  (.cons (.ret (.bi .sorted (.cons (.attr (.loc 46) 50) .nil)))
  .nil)⟩
noncomputable def f__law_whole : FD := ⟨[67],
  (.cons (.ret (.band (.cons (.isi (.loc 67) [0]) (.cons (.not (.isi (.loc 67) [1])) .nil))))
  .nil)⟩
noncomputable def f__law_cell_at : FD := ⟨[70, 71],
  (.cons (.ite (.cmp .Lt (.loc 71) (.bi .len (.cons (.loc 70) .nil)))
    (.cons (.ret (.sub (.loc 70) (.loc 71)))
    .nil)
    .nil)
  (.cons (.ret (.cint 0))
  .nil))⟩
noncomputable def f__law_numbers : FD := ⟨[67, 73],
  (.cons (.ite (.bor (.cons (.not (.isi (.loc 67) [2])) (.cons (.cmp .NotEq (.bi .len (.cons (.loc 67) .nil)) (.bi .len (.cons (.loc 73) .nil))) .nil)))
    (.cons (.ret (.cbool false))
    .nil)
    .nil)
  (.cons (.for [71] false (.bi .range (.cons (.bi .len (.cons (.loc 73) .nil)) .nil))
    (.cons (.ite (.cmp .Is (.sub (.loc 73) (.loc 71)) .cnone)
      (.cons (.ite (.cmp .IsNot (.sub (.loc 67) (.loc 71)) .cnone)
        (.cons (.ret (.cbool false))
        .nil)
        .nil)
      .nil)
      (.cons (.ite (.bor (.cons (.not (.call 66 (.cons (.sub (.loc 67) (.loc 71)) .nil))) (.cons (.cmp .NotEq (.sub (.loc 67) (.loc 71)) (.sub (.loc 73) (.loc 71))) .nil)))
        (.cons (.ret (.cbool false))
        .nil)
        .nil)
      .nil))
    .nil))
  (.cons (.ret (.cbool true))
  .nil)))⟩
end Mine.PP

set_option autoImplicit false
set_option linter.unusedSimpArgs false
set_option linter.unusedVariables false
namespace Mine
open PySem (Str PyData)

theorem count_set {xs : List (Option Nat)} {i : Nat} {x y : Option Nat} (h : i < xs.length) : (xs.set i x).count y + (if (xs[i]?).getD none == y then 1 else 0) = xs.count y + (if x == y then 1 else 0) := by
  induction xs generalizing i with
  | nil => simp at h
  | cons a r ih =>
    cases i with
    | zero => simp only [List.set_cons_zero, List.count_cons, List.getElem?_cons_zero, Option.getD_some]; lia
    | succ i =>
      have := ih (i := i) (by simpa using h)
      simp only [List.set_cons_succ, List.count_cons, List.getElem?_cons_succ]; lia
noncomputable def addN (l : List Nat) (k : Nat) : List Nat := if k ∈ l then l else l ++ [k]
theorem upd_at {l : Loc} {i : Nat} {v : V} : l.upd i v i = some v := by rw [upd_def, beq_self_eq_true]; rfl
theorem upd_no {l : Loc} {i j : Nat} {v : V} (h : j ≠ i) : l.upd i v j = l j := by rw [upd_def, beq_eq_false_iff_ne.mpr h]; rfl
abbrev loc0 : Loc := fun _ => none
section
variable {P : Prog} {σ : H}
theorem ok_getAttr {p d n : Nat} {c : Nat} {es : List (Nat × V)} {v : V} {Q : V → H → Prop} (h1 : σ.get p = some (.inst c d)) (h2 : σ.get d = some (.attrs es)) (h3 : aget es n = some v) : Ok (getAttr (.ref p) n) σ Q = Q v σ :=
  ok_some (by unfold getAttr; simp [h1, h2, h3])
theorem ok_is {a : V} {Q : V → H → Prop} : Ok (cmpop P .Is a .none) σ Q = Q (.bool (decide (a = .none))) σ := rfl
theorem ok_isNot {a : V} {Q : V → H → Prop} : Ok (cmpop P .IsNot a .none) σ Q = Q (.bool (decide (a ≠ .none))) σ := rfl
theorem ok_gt {a b : Int} {Q : V → H → Prop} : Ok (cmpop P .Gt (.int a) (.int b)) σ Q = Q (.bool (decide (a > b))) σ := rfl
theorem ok_ge {a b : Int} {Q : V → H → Prop} : Ok (cmpop P .GtE (.int a) (.int b)) σ Q = Q (.bool (decide (a ≥ b))) σ := rfl
theorem ok_lt {a b : Int} {Q : V → H → Prop} : Ok (cmpop P .Lt (.int a) (.int b)) σ Q = Q (.bool (decide (a < b))) σ := rfl
theorem ok_le {a b : Int} {Q : V → H → Prop} : Ok (cmpop P .LtE (.int a) (.int b)) σ Q = Q (.bool (decide (a ≤ b))) σ := rfl
theorem eqv_int {a b : Int} : PyData.eqv (.int a) (.int b) = decide (a = b) := rfl
theorem ok_eqI {a b : Int} {Q : V → H → Prop} : Ok (cmpop P .Eq (.int a) (.int b)) σ Q = Q (.bool (decide (a = b))) σ := ok_some (by
  show some (R.ok (V.bool (PyData.eqv (.int a) (.int b))), σ) = _
  rw [eqv_int])
theorem ok_neI {a b : Int} {Q : V → H → Prop} : Ok (cmpop P .NotEq (.int a) (.int b)) σ Q = Q (.bool (!decide (a = b))) σ := ok_some (by
  show some (R.ok (V.bool (!PyData.eqv (.int a) (.int b))), σ) = _
  rw [eqv_int])
theorem ok_truthb {b : Bool} {Q : Bool → H → Prop} : Ok (truth (.bool b)) σ Q = Q b σ := rfl
theorem ok_add {a b : Int} {Q : V → H → Prop} : Ok (binop .Add (.int a) (.int b)) σ Q = Q (.int (a + b)) σ := rfl
theorem ok_sub {a b : Int} {Q : V → H → Prop} : Ok (binop .Sub (.int a) (.int b)) σ Q = Q (.int (a - b)) σ := rfl
theorem ok_getDict {a : Nat} {es : List (V × V)} {k v : V} {Q : V → H → Prop} (h1 : σ.get a = some (.dict es)) (hk : isKey k = true) (h3 : dget es k = some v) : Ok (getItem P (.ref a) k) σ Q = Q v σ :=
  ok_some (by unfold getItem; cases k <;> simp_all [isKey])
theorem ok_getList {a : Nat} {xs : List V} {k : Int} {v : V} {Q : V → H → Prop} (h1 : σ.get a = some (.list xs)) (hk : 0 ≤ k) (h3 : xs[k.toNat]? = some v) : Ok (getItem P (.ref a) (.int k)) σ Q = Q v σ := by
  refine ok_some ?_
  have : k < xs.length := by have := (List.getElem?_eq_some_iff.mp h3).1; lia
  unfold getItem idx; simp only [h1, hk, this, and_self, if_true, Option.bind_some, h3, Option.map_some]
theorem ok_getTup {a : Nat} {xs : List V} {k : Int} {v : V} {Q : V → H → Prop} (h1 : σ.get a = some (.tup xs)) (hk : 0 ≤ k) (h3 : xs[k.toNat]? = some v) : Ok (getItem P (.ref a) (.int k)) σ Q = Q v σ := by
  refine ok_some ?_
  have : k < xs.length := by have := (List.getElem?_eq_some_iff.mp h3).1; lia
  unfold getItem idx; simp only [h1, hk, this, and_self, if_true, Option.bind_some, h3, Option.map_some]
theorem getM_of {a : Nat} {o : O} (h1 : σ.get a = some o) (ha : P.nf ≤ a) : σ.getM P a = some o := by unfold H.getM; rw [if_pos ha]; exact h1
theorem ok_setDict {a : Nat} {es : List (V × V)} {k v : V} {Q : Unit → H → Prop} (h1 : σ.get a = some (.dict es)) (ha : P.nf ≤ a) (hk : isKey k = true) (h3 : (dset es k v).length ≤ lim) : Ok (setItem P (.ref a) k v) σ Q = Q () (σ.put a (.dict (dset es k v))) :=
  ok_some (by
    have := getM_of h1 ha
    unfold setItem; cases k <;> simp_all [isKey, okO])
theorem ok_setList {a : Nat} {xs : List V} {k : Int} {v : V} {Q : Unit → H → Prop} (h1 : σ.get a = some (.list xs)) (ha : P.nf ≤ a) (hk : 0 ≤ k) (h3 : k < xs.length) : Ok (setItem P (.ref a) (.int k) v) σ Q = Q () (σ.put a (.list (xs.set k.toNat v))) :=
  ok_some (by
    have := getM_of h1 ha
    unfold setItem idx; simp [this, hk, h3])
theorem ok_append {a : Nat} {xs : List V} {v : V} {Q : V → H → Prop} (h1 : σ.get a = some (.list xs)) (ha : P.nf ≤ a) (h3 : (xs ++ [v]).length ≤ lim) : Ok (listMeth P (.ref a) 6 [v]) σ Q = Q .none (σ.put a (.list (xs ++ [v]))) :=
  ok_some (by
    have := getM_of h1 ha
    unfold listMeth; simp only [this]
    show grow a (.list (xs ++ [v])) .none σ = _
    unfold grow; rw [if_pos (by simpa [okO] using h3)])
theorem ok_clear {a : Nat} {xs : List V} {Q : V → H → Prop} (h1 : σ.get a = some (.list xs)) (ha : P.nf ≤ a) : Ok (listMeth P (.ref a) 8 []) σ Q = Q .none (σ.put a (.list [])) :=
  ok_some (by
    have := getM_of h1 ha
    unfold listMeth; simp [this, idAppend, idPop, idClear])
theorem ok_setAttr {p d n : Nat} {c : Nat} {es : List (Nat × V)} {v : V} {Q : Unit → H → Prop} (h1 : σ.get p = some (.inst c d)) (h2 : σ.get d = some (.attrs es)) (hd : P.nf ≤ d) (ha : P.attrs.contains n = true) (hl : (aset es n v).length ≤ 100) : Ok (setAttr P (.ref p) n v) σ Q = Q () (σ.put d (.attrs (aset es n v))) :=
  ok_some (by
    have : σ.getM P d = some (.attrs es) := by unfold H.getM; rw [if_pos hd]; exact h2
    unfold setAttr; simp only [h1, this]; rw [if_pos (by rw [ha]; simpa using hl)])
theorem ok_lenL {a : Nat} {xs : List V} {Q : V → H → Prop} (h : σ.get a = some (.list xs)) : Ok (builtin .len [.ref a]) σ Q = Q (.int xs.length) σ := ok_some (by show biLen (.ref a) σ = _; unfold biLen; simp [h])
theorem ok_lenD {a : Nat} {xs : List (V × V)} {Q : V → H → Prop} (h : σ.get a = some (.dict xs)) : Ok (builtin .len [.ref a]) σ Q = Q (.int xs.length) σ := ok_some (by show biLen (.ref a) σ = _; unfold biLen; simp [h])
theorem ok_range1 {n : Int} {Q : V → H → Prop} : Ok (builtin .range [.int n]) σ Q = Q (.ref σ.length) (σ.push (.rng 0 n 1)) := rfl
theorem ok_sortedD {a : Nat} {es : List (V × V)} {ns : List Int} {Q : V → H → Prop} (h1 : σ.get a = some (.dict es)) (h2 : intsOf (es.map (·.1)) = some ns) (h3 : ns.length < 64) : Ok (builtin .sorted [.ref a]) σ Q = Q (.ref σ.length) (σ.push (.list ((sortI ns).map .int))) := ok_some (by
  show biSorted (.ref a) σ = _; simp [biSorted, onRef, sortedI, h1, h2, h3])
theorem ok_listL {a : Nat} {xs : List V} {Q : V → H → Prop} (h1 : σ.get a = some (.list xs)) (hl : xs.length ≤ lim) : Ok (builtin .list [.ref a]) σ Q = Q (.ref σ.length) (σ.push (.list xs)) := ok_some (by
  show biList (.ref a) σ = _; simp only [biList, onRef, h1]; unfold alloc; rw [if_pos (by simpa [okO] using hl)])
theorem ok_notInD {a : Nat} {es : List (V × V)} {k : V} {Q : V → H → Prop} (h1 : σ.get a = some (.dict es)) (hk : isKey k = true) : Ok (cmpop P .NotIn k (.ref a)) σ Q = Q (.bool (!(dget es k).isSome)) σ := ok_some (by
  unfold cmpop contains X.bind; simp [h1, hk, X.pure])
end
noncomputable def dD (q : List Nat) : List (V × V) := q.map fun (k : Nat) => (V.int (k : Int), V.bool true)
theorem dD_set {k : Nat} : ∀ {q : List Nat}, dset (dD q) (.int k) (.bool true) = dD (addN q k)
  | [] => rfl
  | a :: r => by
    have ih := dD_set (k := k) (q := r)
    show (if V.int a = V.int k then (V.int a, V.bool true) :: dD r else (V.int a, V.bool true) :: dset (dD r) (.int k) (.bool true)) = _
    rw [ih]
    by_cases e : a = k
    · subst e; simp [addN, dD]
    · have : ¬ (V.int (a : Int) = V.int (k : Int)) := fun h => e (by injection h with h; exact Int.ofNat.inj h)
      rw [if_neg this]
      unfold addN
      by_cases hk : k ∈ r
      · simp [hk, dD]
      · simp [hk, Ne.symm e, dD]
theorem dD_keys {q : List Nat} : intsOf ((dD q).map (·.1)) = some (q.map Int.ofNat) := by
  induction q with
  | nil => rfl
  | cons p r ih => unfold dD at *; simp only [List.map_cons, intsOf] at *; rw [ih]; rfl
noncomputable def ov : Option Nat → V
  | none => .none
  | some k => .int (k : Int)
theorem get_lt {σ : H} {a : Nat} {o : O} (h : σ.get a = some o) : a < σ.length := (List.getElem?_eq_some_iff.mp h).1
structure LawP (P : Prog) : Prop where
  f66 : P.funs.lookup 66 = some PP.f__law_whole
  f69 : P.funs.lookup 69 = some PP.f__law_cell_at
  f72 : P.funs.lookup 72 = some PP.f__law_numbers
section
variable {P : Prog} {σ : H}
theorem ok_isi {x : V} {k : Nat} {b : Bool} {Q : Bool → H → Prop} (h : isinsts P x [k] σ = some (.ok b, σ)) : Ok (isinsts P x [k]) σ Q = Q b σ := ok_some h
theorem isi_int {i : Int} : isinsts P (.int i) [0] σ = some (.ok true, σ) := rfl
theorem isi_intb {i : Int} : isinsts P (.int i) [1] σ = some (.ok false, σ) := rfl
theorem isi_list {a : Nat} {xs : List V} (h : σ.get a = some (.list xs)) : isinsts P (.ref a) [2] σ = some (.ok true, σ) := by
  show (if 2 ≤ 4 then isinst P (.ref a) 2 else X.none) σ = _
  rw [if_pos (by decide)]
  unfold isinst; simp [h, idList]
theorem whole_ok (hL : LawP P) {d : Nat} {i : Int} {Q : V → H → Prop} (h : Q (.bool true) σ) : Ok (run P 1000 (d + 1) false 66 [.int i]) σ Q := by
  rw [ok_run (fd := PP.f__law_whole) hL.f66 rfl]
  simp (disch := decide) only [PP.f__law_whole, ea_cons, ea_one, eandF_t, eandF_f, ok_isi isi_int, ok_isi isi_intb, ok_truthb, oks_cons, oks_nil, then_none, then_some, s_expr, exprK_at, s_var, varK_at, s_attr, attrK_at, attrK2_at, s_sub, subK_at, subK2_at, subK3_at, s_ite, iteK_t, iteK_f, s_ret, retK_at, s_ret0, s_pass, runK_some, runK_none, forK_at, turnK_none, turnK_some, whlK_t, whlK_f, tt_not, tt_band, tt_bor, tt_bool, tt_loc, tt_cmp, tt_cmp2, tt_call, tt_meth, tt_isi, tt_attr, tt_sub, tt_bin, tnotF_t, tnotF_f, ta_nil, ta_cons, andF_t, andF_f, to_nil, to_cons, orF_t, orF_f, e_none, e_bool, e_int, e_str, e_loc, e_bin, binF_at, e_not, notF_at, notF2_t, notF2_f, e_band, e_bor, e_cmp, cmpF_at, e_cmp2, cmpG_t, cmpG_f, e_list, listF_at, e_tup, tupF_at, e_dict0, e_attr, attrF_at, e_sub, subF_at, e_slice, e_call, e_meth, methF_at, e_bi, e_isi, isiF_at, boolF_at, e_comp, es_nil, es_cons, consF_at, consF2_at, ok_bind, bindK_at, bind_pure, bind_lift, ok_pure, ok_lift, List.zip_cons_cons, List.zip_nil_right, List.zip_nil_left, List.foldl_cons, List.foldl_nil, upd_def, Nat.reduceBEq, bif_t, bif_f, if_true, if_false, Bool.false_eq_true, reduceCtorEq, Nat.reduceEqDiff, ne_eq, not_false_eq_true, not_true_eq_false, decide_true, decide_false, Bool.not_true, Bool.not_false]
  exact h
theorem rng_at {n : Int} {j : Nat} {y : V} (h : ((List.range n.toNat).map fun (k : Nat) => V.int (k : Int))[j]? = some y) : (j : Int) < n ∧ y = .int (j : Int) := by
  rw [List.getElem?_map] at h
  obtain ⟨q, hq, rfl⟩ := Option.map_eq_some_iff.mp h
  obtain ⟨q1, q2⟩ := List.getElem?_eq_some_iff.mp hq
  simp at q1 q2
  subst q2
  exact ⟨by lia, rfl⟩
theorem numbers_ok (hL : LawP P) {d a b : Nat} {xs : List V} {Q : V → H → Prop} (ha : σ.get a = some (.list xs)) (hb : σ.get b = some (.list xs)) (hx : ∀ x ∈ xs, x = V.none ∨ ∃ i, x = V.int i) (hl : xs.length ≤ 1000) (h : Q (.bool true) (σ.push (.rng 0 xs.length 1))) :
    Ok (run P 1000 (d + 2) false 72 [.ref a, .ref b]) σ Q := by
  have alt := get_lt ha
  have blt := get_lt hb
  rw [ok_run (fd := PP.f__law_numbers) hL.f72 rfl]
  simp (disch := decide) only [PP.f__law_numbers, ok_isi (isi_list ha), ok_truthb, ok_lenL ha, ok_lenL hb, ok_neI, ok_range1, s_for, oks_cons, oks_nil, then_none, then_some, s_expr, exprK_at, s_var, varK_at, s_attr, attrK_at, attrK2_at, s_sub, subK_at, subK2_at, subK3_at, s_ite, iteK_t, iteK_f, s_ret, retK_at, s_ret0, s_pass, runK_some, runK_none, forK_at, turnK_none, turnK_some, whlK_t, whlK_f, tt_not, tt_band, tt_bor, tt_bool, tt_loc, tt_cmp, tt_cmp2, tt_call, tt_meth, tt_isi, tt_attr, tt_sub, tt_bin, tnotF_t, tnotF_f, ta_nil, ta_cons, andF_t, andF_f, to_nil, to_cons, orF_t, orF_f, e_none, e_bool, e_int, e_str, e_loc, e_bin, binF_at, e_not, notF_at, notF2_t, notF2_f, e_band, e_bor, e_cmp, cmpF_at, e_cmp2, cmpG_t, cmpG_f, e_list, listF_at, e_tup, tupF_at, e_dict0, e_attr, attrF_at, e_sub, subF_at, e_slice, e_call, e_meth, methF_at, e_bi, e_isi, isiF_at, boolF_at, e_comp, es_nil, es_cons, consF_at, consF2_at, ok_bind, bindK_at, bind_pure, bind_lift, ok_pure, ok_lift, List.zip_cons_cons, List.zip_nil_right, List.zip_nil_left, List.foldl_cons, List.foldl_nil, upd_def, Nat.reduceBEq, bif_t, bif_f, if_true, if_false, Bool.false_eq_true, reduceCtorEq, Nat.reduceEqDiff, ne_eq, not_false_eq_true, not_true_eq_false, decide_true, decide_false, Bool.not_true, Bool.not_false]
  have ha1 : (σ.push (.rng 0 xs.length 1)).get a = some (.list xs) := by rw [get_push_lt alt]; exact ha
  have hb1 : (σ.push (.rng 0 xs.length 1)).get b = some (.list xs) := by rw [get_push_lt blt]; exact hb
  refine ⟨_, it_range get_push_eq (by lia) (by lia), f_inv (fun _ l s => s = σ.push (.rng 0 xs.length 1) ∧ l 67 = some (.ref a) ∧ l 73 = some (.ref b)) ⟨rfl, rfl, rfl⟩ (fun j l s y hy ⟨e, e1, e2⟩ => ?_) fun l s ⟨e, e1, e2⟩ => ?_⟩
  · subst e
    have hj := rng_at hy
    obtain ⟨hj, rfl⟩ := hj
    have hj : j < xs.length := by lia
    have hg : xs[(j : Int).toNat]? = some xs[j] := by simp
    rcases hx xs[j] (List.getElem_mem hj) with hn | ⟨i, hi⟩
    · rw [hn] at hg
      simp (disch := decide) only [e1, e2, ok_getList hb1 (Int.natCast_nonneg j) hg, ok_getList ha1 (Int.natCast_nonneg j) hg, ok_is, ok_isNot, ok_truthb, oks_cons, oks_nil, then_none, then_some, s_expr, exprK_at, s_var, varK_at, s_attr, attrK_at, attrK2_at, s_sub, subK_at, subK2_at, subK3_at, s_ite, iteK_t, iteK_f, s_ret, retK_at, s_ret0, s_pass, runK_some, runK_none, forK_at, turnK_none, turnK_some, whlK_t, whlK_f, tt_not, tt_band, tt_bor, tt_bool, tt_loc, tt_cmp, tt_cmp2, tt_call, tt_meth, tt_isi, tt_attr, tt_sub, tt_bin, tnotF_t, tnotF_f, ta_nil, ta_cons, andF_t, andF_f, to_nil, to_cons, orF_t, orF_f, e_none, e_bool, e_int, e_str, e_loc, e_bin, binF_at, e_not, notF_at, notF2_t, notF2_f, e_band, e_bor, e_cmp, cmpF_at, e_cmp2, cmpG_t, cmpG_f, e_list, listF_at, e_tup, tupF_at, e_dict0, e_attr, attrF_at, e_sub, subF_at, e_slice, e_call, e_meth, methF_at, e_bi, e_isi, isiF_at, boolF_at, e_comp, es_nil, es_cons, consF_at, consF2_at, ok_bind, bindK_at, bind_pure, bind_lift, ok_pure, ok_lift, List.zip_cons_cons, List.zip_nil_right, List.zip_nil_left, List.foldl_cons, List.foldl_nil, upd_def, Nat.reduceBEq, bif_t, bif_f, if_true, if_false, Bool.false_eq_true, reduceCtorEq, Nat.reduceEqDiff, ne_eq, not_false_eq_true, not_true_eq_false, decide_true, decide_false, Bool.not_true, Bool.not_false]
      exact ⟨trivial, still_get rfl, trivial, trivial, trivial⟩
    · rw [hi] at hg
      simp (disch := decide) only [e1, e2, ok_getList hb1 (Int.natCast_nonneg j) hg, ok_getList ha1 (Int.natCast_nonneg j) hg, ok_is, ok_isNot, ok_truthb, oks_cons, oks_nil, then_none, then_some, s_expr, exprK_at, s_var, varK_at, s_attr, attrK_at, attrK2_at, s_sub, subK_at, subK2_at, subK3_at, s_ite, iteK_t, iteK_f, s_ret, retK_at, s_ret0, s_pass, runK_some, runK_none, forK_at, turnK_none, turnK_some, whlK_t, whlK_f, tt_not, tt_band, tt_bor, tt_bool, tt_loc, tt_cmp, tt_cmp2, tt_call, tt_meth, tt_isi, tt_attr, tt_sub, tt_bin, tnotF_t, tnotF_f, ta_nil, ta_cons, andF_t, andF_f, to_nil, to_cons, orF_t, orF_f, e_none, e_bool, e_int, e_str, e_loc, e_bin, binF_at, e_not, notF_at, notF2_t, notF2_f, e_band, e_bor, e_cmp, cmpF_at, e_cmp2, cmpG_t, cmpG_f, e_list, listF_at, e_tup, tupF_at, e_dict0, e_attr, attrF_at, e_sub, subF_at, e_slice, e_call, e_meth, methF_at, e_bi, e_isi, isiF_at, boolF_at, e_comp, es_nil, es_cons, consF_at, consF2_at, ok_bind, bindK_at, bind_pure, bind_lift, ok_pure, ok_lift, List.zip_cons_cons, List.zip_nil_right, List.zip_nil_left, List.foldl_cons, List.foldl_nil, upd_def, Nat.reduceBEq, bif_t, bif_f, if_true, if_false, Bool.false_eq_true, reduceCtorEq, Nat.reduceEqDiff, ne_eq, not_false_eq_true, not_true_eq_false, decide_true, decide_false, Bool.not_true, Bool.not_false]
      refine whole_ok hL ?_
      simp (disch := decide) only [e1, e2, ok_getList hb1 (Int.natCast_nonneg j) hg, ok_getList ha1 (Int.natCast_nonneg j) hg, ok_neI, ok_truthb, oks_cons, oks_nil, then_none, then_some, s_expr, exprK_at, s_var, varK_at, s_attr, attrK_at, attrK2_at, s_sub, subK_at, subK2_at, subK3_at, s_ite, iteK_t, iteK_f, s_ret, retK_at, s_ret0, s_pass, runK_some, runK_none, forK_at, turnK_none, turnK_some, whlK_t, whlK_f, tt_not, tt_band, tt_bor, tt_bool, tt_loc, tt_cmp, tt_cmp2, tt_call, tt_meth, tt_isi, tt_attr, tt_sub, tt_bin, tnotF_t, tnotF_f, ta_nil, ta_cons, andF_t, andF_f, to_nil, to_cons, orF_t, orF_f, e_none, e_bool, e_int, e_str, e_loc, e_bin, binF_at, e_not, notF_at, notF2_t, notF2_f, e_band, e_bor, e_cmp, cmpF_at, e_cmp2, cmpG_t, cmpG_f, e_list, listF_at, e_tup, tupF_at, e_dict0, e_attr, attrF_at, e_sub, subF_at, e_slice, e_call, e_meth, methF_at, e_bi, e_isi, isiF_at, boolF_at, e_comp, es_nil, es_cons, consF_at, consF2_at, ok_bind, bindK_at, bind_pure, bind_lift, ok_pure, ok_lift, List.zip_cons_cons, List.zip_nil_right, List.zip_nil_left, List.foldl_cons, List.foldl_nil, upd_def, Nat.reduceBEq, bif_t, bif_f, if_true, if_false, Bool.false_eq_true, reduceCtorEq, Nat.reduceEqDiff, ne_eq, not_false_eq_true, not_true_eq_false, decide_true, decide_false, Bool.not_true, Bool.not_false]
      exact ⟨trivial, still_get rfl, trivial, trivial, trivial⟩
  · subst e
    simp (disch := decide) only [oks_cons, oks_nil, then_none, then_some, s_expr, exprK_at, s_var, varK_at, s_attr, attrK_at, attrK2_at, s_sub, subK_at, subK2_at, subK3_at, s_ite, iteK_t, iteK_f, s_ret, retK_at, s_ret0, s_pass, runK_some, runK_none, forK_at, turnK_none, turnK_some, whlK_t, whlK_f, tt_not, tt_band, tt_bor, tt_bool, tt_loc, tt_cmp, tt_cmp2, tt_call, tt_meth, tt_isi, tt_attr, tt_sub, tt_bin, tnotF_t, tnotF_f, ta_nil, ta_cons, andF_t, andF_f, to_nil, to_cons, orF_t, orF_f, e_none, e_bool, e_int, e_str, e_loc, e_bin, binF_at, e_not, notF_at, notF2_t, notF2_f, e_band, e_bor, e_cmp, cmpF_at, e_cmp2, cmpG_t, cmpG_f, e_list, listF_at, e_tup, tupF_at, e_dict0, e_attr, attrF_at, e_sub, subF_at, e_slice, e_call, e_meth, methF_at, e_bi, e_isi, isiF_at, boolF_at, e_comp, es_nil, es_cons, consF_at, consF2_at, ok_bind, bindK_at, bind_pure, bind_lift, ok_pure, ok_lift, List.zip_cons_cons, List.zip_nil_right, List.zip_nil_left, List.foldl_cons, List.foldl_nil, upd_def, Nat.reduceBEq, bif_t, bif_f, if_true, if_false, Bool.false_eq_true, reduceCtorEq, Nat.reduceEqDiff, ne_eq, not_false_eq_true, not_true_eq_false, decide_true, decide_false, Bool.not_true, Bool.not_false]
    exact h
noncomputable def cellAt (ns : List Int) (k : Nat) : Int := (ns[k]?).getD 0
theorem cell_ok (hL : LawP P) {d k : Nat} {ns : List Int} {Q : V → H → Prop} (hz : σ.get 0 = some (.list (ns.map .int))) (h : Q (.int (cellAt ns k)) σ) : Ok (run P 1000 (d + 1) false 69 [.ref 0, .int (k : Int)]) σ Q := by
  rw [ok_run (fd := PP.f__law_cell_at) hL.f69 rfl]
  by_cases hk : k < ns.length
  · have hlt : (k : Int) < ((ns.map V.int).length : Int) := by rw [List.length_map]; lia
    have hg : (ns.map V.int)[((k : Int)).toNat]? = some (.int (cellAt ns k)) := by simp [cellAt, hk]
    simp (disch := decide) only [PP.f__law_cell_at, ok_lenL hz, ok_lt, hlt, ok_truthb, ok_getList hz (Int.natCast_nonneg _) hg, oks_cons, oks_nil, then_none, then_some, s_expr, exprK_at, s_var, varK_at, s_attr, attrK_at, attrK2_at, s_sub, subK_at, subK2_at, subK3_at, s_ite, iteK_t, iteK_f, s_ret, retK_at, s_ret0, s_pass, runK_some, runK_none, forK_at, turnK_none, turnK_some, whlK_t, whlK_f, tt_not, tt_band, tt_bor, tt_bool, tt_loc, tt_cmp, tt_cmp2, tt_call, tt_meth, tt_isi, tt_attr, tt_sub, tt_bin, tnotF_t, tnotF_f, ta_nil, ta_cons, andF_t, andF_f, to_nil, to_cons, orF_t, orF_f, e_none, e_bool, e_int, e_str, e_loc, e_bin, binF_at, e_not, notF_at, notF2_t, notF2_f, e_band, e_bor, e_cmp, cmpF_at, e_cmp2, cmpG_t, cmpG_f, e_list, listF_at, e_tup, tupF_at, e_dict0, e_attr, attrF_at, e_sub, subF_at, e_slice, e_call, e_meth, methF_at, e_bi, e_isi, isiF_at, boolF_at, e_comp, es_nil, es_cons, consF_at, consF2_at, ok_bind, bindK_at, bind_pure, bind_lift, ok_pure, ok_lift, List.zip_cons_cons, List.zip_nil_right, List.zip_nil_left, List.foldl_cons, List.foldl_nil, upd_def, Nat.reduceBEq, bif_t, bif_f, if_true, if_false, Bool.false_eq_true, reduceCtorEq, Nat.reduceEqDiff, ne_eq, not_false_eq_true, not_true_eq_false, decide_true, decide_false, Bool.not_true, Bool.not_false]
    exact h
  · have hlt : ¬ ((k : Int) < ((ns.map V.int).length : Int)) := by rw [List.length_map]; lia
    have hg : cellAt ns k = 0 := by unfold cellAt; rw [List.getElem?_eq_none (by lia)]; rfl
    rw [hg] at h
    simp (disch := decide) only [PP.f__law_cell_at, ok_lenL hz, ok_lt, hlt, ok_truthb, oks_cons, oks_nil, then_none, then_some, s_expr, exprK_at, s_var, varK_at, s_attr, attrK_at, attrK2_at, s_sub, subK_at, subK2_at, subK3_at, s_ite, iteK_t, iteK_f, s_ret, retK_at, s_ret0, s_pass, runK_some, runK_none, forK_at, turnK_none, turnK_some, whlK_t, whlK_f, tt_not, tt_band, tt_bor, tt_bool, tt_loc, tt_cmp, tt_cmp2, tt_call, tt_meth, tt_isi, tt_attr, tt_sub, tt_bin, tnotF_t, tnotF_f, ta_nil, ta_cons, andF_t, andF_f, to_nil, to_cons, orF_t, orF_f, e_none, e_bool, e_int, e_str, e_loc, e_bin, binF_at, e_not, notF_at, notF2_t, notF2_f, e_band, e_bor, e_cmp, cmpF_at, e_cmp2, cmpG_t, cmpG_f, e_list, listF_at, e_tup, tupF_at, e_dict0, e_attr, attrF_at, e_sub, subF_at, e_slice, e_call, e_meth, methF_at, e_bi, e_isi, isiF_at, boolF_at, e_comp, es_nil, es_cons, consF_at, consF2_at, ok_bind, bindK_at, bind_pure, bind_lift, ok_pure, ok_lift, List.zip_cons_cons, List.zip_nil_right, List.zip_nil_left, List.foldl_cons, List.foldl_nil, upd_def, Nat.reduceBEq, bif_t, bif_f, if_true, if_false, Bool.false_eq_true, reduceCtorEq, Nat.reduceEqDiff, ne_eq, not_false_eq_true, not_true_eq_false, decide_true, decide_false, Bool.not_true, Bool.not_false]
    exact h
theorem ok_mod {a b : Int} {Q : V → H → Prop} (h : b ≠ 0) : Ok (binop .Mod (.int a) (.int b)) σ Q = Q (.int (Int.fmod a b)) σ := ok_some (by simp [binop, twoInts, onInt, h])
theorem ok_div {a b : Int} {Q : V → H → Prop} (h : b ≠ 0) (hs : small b = true) : Ok (binop .FloorDiv (.int a) (.int b)) σ Q = Q (.int (Int.fdiv a b)) σ := ok_some (by simp [binop, twoInts, onInt, h, hs])
theorem fmod_range {a b : Int} (h : 0 < b) : 0 ≤ Int.fmod a b ∧ Int.fmod a b < b := ⟨Int.fmod_nonneg_of_pos _ h, Int.fmod_lt_of_pos _ h⟩
theorem fmod_nat {a b : Int} (h : 0 < b) : ∃ k : Nat, Int.fmod a b = (k : Int) ∧ (k : Int) < b := by
  obtain ⟨h1, h2⟩ := fmod_range (a := a) h
  exact ⟨(Int.fmod a b).toNat, by lia, by lia⟩
end
end Mine

set_option autoImplicit false
namespace Mine.L03
open PySem Mine
noncomputable def f__law_done_1t_3 : Sts := .cons (.ret (.meth (.loc 75) 39 (.cons (.sub (.loc 87) (.cint 1)) (.cons (.sub (.loc 87) (.cint 3)) (.cons (.sub (.loc 87) (.cint 2)) .nil))))) .nil
noncomputable def f__law_done_1t_2a_1 : Sts := .cons (.ret (.meth (.loc 75) 38 (.cons (.sub (.loc 87) (.cint 1)) (.cons (.sub (.loc 87) (.cint 2)) .nil)))) .nil
noncomputable def f__law_done_1t_2 : Sts := .cons (.ite (.cmp .Eq (.sub (.loc 87) (.cint 0)) (.cstr (.ofString "empty"))) f__law_done_1t_2a_1 .nil) f__law_done_1t_3
noncomputable def f__law_done_1t_1a_1 : Sts := .cons (.ret (.meth (.loc 75) 37 (.cons (.sub (.loc 87) (.cint 1)) (.cons (.sub (.loc 87) (.cint 2)) (.cons (.sub (.loc 87) (.cint 3)) .nil))))) .nil
noncomputable def f__law_done_1t_1 : Sts := .cons (.ite (.cmp .Eq (.sub (.loc 87) (.cint 0)) (.cstr (.ofString "put"))) f__law_done_1t_1a_1 .nil) f__law_done_1t_2
noncomputable def f__law_done_1 : Sts := .cons (.try f__law_done_1t_1 85 (.cstr (.ofString "no slot"))) .nil
noncomputable def f__law_done : FD := ⟨[75, 87], f__law_done_1⟩
noncomputable def f__law_pointers_3 : Sts := .cons (.ret (.loc 90)) .nil
noncomputable def f__law_pointers_2f_1 : Sts := .cons (.asg (.var 90) (.bin .Add (.loc 90) (.bi .len (.cons (.comp (.cint 1) [92] false (.loc 91) (.cons (.cmp .Eq (.loc 92) (.loc 78)) .nil)) .nil)))) .nil
noncomputable def f__law_pointers_2 : Sts := .cons (.for [91] false (.loc 89) f__law_pointers_2f_1) f__law_pointers_3
noncomputable def f__law_pointers_1 : Sts := .cons (.asg (.var 90) (.bi .len (.cons (.comp (.cint 1) [84] false (.loc 76) (.cons (.cmp .Eq (.loc 84) (.loc 78)) .nil)) .nil))) f__law_pointers_2
noncomputable def f__law_pointers : FD := ⟨[76, 89, 78], f__law_pointers_1⟩
noncomputable def f__law_stands_2 : Sts := .cons (.ret (.call 72 (.cons (.comp (.meth (.loc 75) 41 (.cons (.loc 71) .nil)) [71] false (.bi .range (.cons (.cint 8) .nil)) .nil) (.cons (.loc 76) .nil)))) .nil
noncomputable def f__law_stands_1f_2a_1 : Sts := .cons (.ret (.cbool false)) .nil
noncomputable def f__law_stands_1f_2 : Sts := .cons (.ite (.bor (.cons (.not (.call 66 (.cons (.meth (.loc 75) 43 (.cons (.loc 71) .nil)) .nil))) (.cons (.cmp .NotEq (.meth (.loc 75) 43 (.cons (.loc 71) .nil)) (.call 88 (.cons (.loc 76) (.cons (.loc 89) (.cons (.loc 71) .nil))))) .nil))) f__law_stands_1f_2a_1 .nil) .nil
noncomputable def f__law_stands_1f_1a_1 : Sts := .cons (.ret (.cbool false)) .nil
noncomputable def f__law_stands_1f_1 : Sts := .cons (.ite (.not (.call 72 (.cons (.meth (.loc 75) 42 (.cons (.loc 71) .nil)) (.cons (.sub (.loc 89) (.loc 71)) .nil)))) f__law_stands_1f_1a_1 .nil) f__law_stands_1f_2
noncomputable def f__law_stands_1 : Sts := .cons (.for [71] false (.bi .range (.cons (.cint 2) .nil)) f__law_stands_1f_1) f__law_stands_2
noncomputable def f__law_stands : FD := ⟨[75, 76, 89], f__law_stands_1⟩
noncomputable def f_law_7 : Sts := .cons (.ret (.band (.cons (.call 93 (.cons (.loc 75) (.cons (.loc 76) (.cons (.loc 89) .nil)))) (.cons (.call 72 (.cons (.meth (.loc 75) 44 .nil) (.cons (.list (.cons (.cint 0) (.cons (.cint 1) .nil))) .nil))) .nil)))) .nil
noncomputable def f_law_6f_1 : Sts := .cons (.expr (.meth (.loc 67) 8 .nil)) .nil
noncomputable def f_law_6 : Sts := .cons (.for [67] false (.list (.cons (.meth (.loc 75) 42 (.cons (.cint 0) .nil)) (.cons (.meth (.loc 75) 42 (.cons (.cint 1) .nil)) (.cons (.meth (.loc 75) 44 .nil) (.cons (.meth (.loc 75) 45 .nil) .nil))))) f_law_6f_1) f_law_7
noncomputable def f_law_5f_9a_1 : Sts := .cons (.ret (.cbool false)) .nil
noncomputable def f_law_5f_9 : Sts := .cons (.ite (.not (.call 93 (.cons (.loc 75) (.cons (.loc 76) (.cons (.loc 89) .nil))))) f_law_5f_9a_1 .nil) .nil
noncomputable def f_law_5f_8a_1a_1 : Sts := .cons (.ret (.cbool false)) .nil
noncomputable def f_law_5f_8a_1 : Sts := .cons (.ite (.cmp .NotEq (.loc 67) (.cstr (.ofString "no slot"))) f_law_5f_8a_1a_1 .nil) .nil
noncomputable def f_law_5f_8b_2a_1 : Sts := .cons (.asg (.sub (.sub (.loc 89) (.loc 95)) (.loc 96)) (.sub (.loc 76) (.loc 79))) .nil
noncomputable def f_law_5f_8b_2b_1a_1 : Sts := .cons (.asg (.sub (.sub (.loc 89) (.loc 95)) (.loc 96)) .cnone) .nil
noncomputable def f_law_5f_8b_2b_1b_1 : Sts := .cons (.asg (.sub (.loc 76) (.bin .Mod (.loc 79) (.cint 6))) (.sub (.sub (.loc 89) (.loc 95)) (.loc 96))) .nil
noncomputable def f_law_5f_8b_2b_1 : Sts := .cons (.ite (.cmp .Eq (.sub (.loc 87) (.cint 0)) (.cstr (.ofString "empty"))) f_law_5f_8b_2b_1a_1 f_law_5f_8b_2b_1b_1) .nil
noncomputable def f_law_5f_8b_2 : Sts := .cons (.ite (.cmp .Eq (.sub (.loc 87) (.cint 0)) (.cstr (.ofString "put"))) f_law_5f_8b_2a_1 f_law_5f_8b_2b_1) .nil
noncomputable def f_law_5f_8b_1a_1 : Sts := .cons (.ret (.cbool false)) .nil
noncomputable def f_law_5f_8b_1 : Sts := .cons (.ite (.not (.call 72 (.cons (.loc 67) (.cons (.list .nil) .nil)))) f_law_5f_8b_1a_1 .nil) f_law_5f_8b_2
noncomputable def f_law_5f_8 : Sts := .cons (.ite (.cmp .GtE (.loc 96) (.bi .len (.cons (.sub (.loc 89) (.loc 95)) .nil))) f_law_5f_8a_1 f_law_5f_8b_1) f_law_5f_9
noncomputable def f_law_5f_7 : Sts := .cons (.asg (.var 67) (.call 86 (.cons (.loc 75) (.cons (.loc 87) .nil)))) f_law_5f_8
noncomputable def f_law_5f_6a_1 : Sts := .cons (.asg (.var 87) (.tup (.cons (.cstr (.ofString "take")) (.cons (.bin .Mod (.loc 79) (.cint 6)) (.cons (.loc 96) (.cons (.bin .Add (.cint 6) (.loc 95)) .nil)))))) .nil
noncomputable def f_law_5f_6 : Sts := .cons (.ite (.cmp .Eq (.bin .Mod (.loc 94) (.cint 3)) (.cint 2)) f_law_5f_6a_1 .nil) f_law_5f_7
noncomputable def f_law_5f_5a_1 : Sts := .cons (.asg (.var 87) (.tup (.cons (.cstr (.ofString "empty")) (.cons (.bin .Add (.cint 6) (.loc 95)) (.cons (.loc 96) (.cons (.cint 0) .nil)))))) .nil
noncomputable def f_law_5f_5 : Sts := .cons (.ite (.cmp .Eq (.bin .Mod (.loc 94) (.cint 3)) (.cint 1)) f_law_5f_5a_1 .nil) f_law_5f_6
noncomputable def f_law_5f_4 : Sts := .cons (.asg (.var 87) (.tup (.cons (.cstr (.ofString "put")) (.cons (.bin .Add (.cint 6) (.loc 95)) (.cons (.loc 96) (.cons (.loc 79) .nil)))))) f_law_5f_5
noncomputable def f_law_5f_3 : Sts := .cons (.asg (.var 79) (.bin .Mod (.bin .FloorDiv (.loc 94) (.cint 48)) (.cint 8))) f_law_5f_4
noncomputable def f_law_5f_2 : Sts := .cons (.asg (.var 96) (.bin .Mod (.bin .FloorDiv (.loc 94) (.cint 6)) (.cint 8))) f_law_5f_3
noncomputable def f_law_5f_1 : Sts := .cons (.asg (.var 95) (.bin .Mod (.bin .FloorDiv (.loc 94) (.cint 3)) (.cint 2))) f_law_5f_2
noncomputable def f_law_5 : Sts := .cons (.for [94] false (.slice (.loc 70) (.cint 2) (.cint 32)) f_law_5f_1) f_law_6
noncomputable def f_law_4 : Sts := .cons (.asg (.var 76) (.list (.cons .cnone (.cons .cnone (.cons .cnone (.cons .cnone (.cons .cnone (.cons .cnone (.cons (.cint 0) (.cons (.cint 1) .nil)))))))))) f_law_5
noncomputable def f_law_3f_3 : Sts := .cons (.expr (.meth (.loc 89) 6 (.cons (.comp .cnone [96] false (.bi .range (.cons (.loc 80) .nil)) .nil) .nil))) .nil
noncomputable def f_law_3f_2 : Sts := .cons (.expr (.meth (.loc 75) 34 (.cons (.bin .Add (.cint 6) (.loc 71)) (.cons (.loc 80) .nil)))) f_law_3f_3
noncomputable def f_law_3f_1 : Sts := .cons (.asg (.var 80) (.bin .Mod (.call 69 (.cons (.loc 70) (.cons (.loc 71) .nil))) (.cint 7))) f_law_3f_2
noncomputable def f_law_3 : Sts := .cons (.for [71] false (.bi .range (.cons (.cint 2) .nil)) f_law_3f_1) f_law_4
noncomputable def f_law_2 : Sts := .cons (.asg (.var 89) (.list .nil)) f_law_3
noncomputable def f_law_1 : Sts := .cons (.asg (.var 75) (.new 24)) f_law_2
noncomputable def f_law : FD := ⟨[70], f_law_1⟩
noncomputable def prog : Prog := { funs := [(66, PP.f__law_whole), (69, PP.f__law_cell_at), (72, PP.f__law_numbers), (86, f__law_done), (88, f__law_pointers), (93, f__law_stands), (74, f_law)], meths := [(25, PP.m___init__), (26, PP.m_need_hand), (27, PP.m_need_box), (28, PP.m_box_with_slot), (29, PP.m_counted), (30, PP.m_let_go), (31, PP.m_lighter), (32, PP.m_handed), (33, PP.m_pointed), (34, PP.m_make), (37, PP.m_put), (38, PP.m_empty), (39, PP.m_take), (41, PP.m_holds), (42, PP.m_points), (43, PP.m_weighs), (44, PP.m_alive), (45, PP.m_suspects)], globs := [(21, .int 8), (22, .int 6), (23, .int 60)], tabs := [], init := 25, attrs := [47, 48, 49, 50, 51], nf := 1 }
noncomputable def T03 : List Str := [Str.ofString "int", Str.ofString "bool", Str.ofString "list", Str.ofString "tuple", Str.ofString "str", Str.ofString "ValueError", Str.ofString "append", Str.ofString "pop", Str.ofString "clear", Str.ofString "remove", Str.ofString "split", Str.ofString "join", Str.ofString "replace", Str.ofString "_wall", Str.ofString "k", Str.ofString "__name__", Str.ofString "PileError", Str.ofString "NoHand", Str.ofString "NoSize", Str.ofString "Full", Str.ofString "NoBox", Str.ofString "HANDS", Str.ofString "MOST_SLOTS", Str.ofString "MOST_ALIVE", Str.ofString "Pile", Str.ofString "__init__", Str.ofString "need_hand", Str.ofString "need_box", Str.ofString "box_with_slot", Str.ofString "counted", Str.ofString "let_go", Str.ofString "lighter", Str.ofString "handed", Str.ofString "pointed", Str.ofString "make", Str.ofString "hold", Str.ofString "drop", Str.ofString "put", Str.ofString "empty", Str.ofString "take", Str.ofString "swept", Str.ofString "holds", Str.ofString "points", Str.ofString "weighs", Str.ofString "alive", Str.ofString "suspects", Str.ofString "self", Str.ofString "in_hands", Str.ofString "boxes", Str.ofString "weights", Str.ofString "doubted", Str.ofString "made", Str.ofString "hand", Str.ofString "number", Str.ofString "slot", Str.ofString "freed", Str.ofString "at", Str.ofString "old", Str.ofString "box", Str.ofString "size", Str.ofString "other", Str.ofString "numbers", Str.ofString "slots", Str.ofString "sorted", Str.ofString "len", Str.ofString "range", Str.ofString "_law_whole", Str.ofString "_law_found", Str.ofString "isinstance", Str.ofString "_law_cell_at", Str.ofString "_law_script", Str.ofString "_law_k", Str.ofString "_law_numbers", Str.ofString "_law_due", Str.ofString "law", Str.ofString "_law_pile", Str.ofString "_law_hands", Str.ofString "_law_begin", Str.ofString "_law_number", Str.ofString "_law_hand", Str.ofString "_law_size", Str.ofString "_law_freed", Str.ofString "min", Str.ofString "_law_one", Str.ofString "_law_held", Str.ofString "NoSlot", Str.ofString "_law_done", Str.ofString "_law_deed", Str.ofString "_law_pointers", Str.ofString "_law_rooms", Str.ofString "_law_many", Str.ofString "_law_room", Str.ofString "_law_other", Str.ofString "_law_stands", Str.ofString "_law_cell", Str.ofString "_law_which", Str.ofString "_law_slot"]
noncomputable def clsL : List (Nat × PySem.Addr) := [(24, 247)]
noncomputable def fnL : List (Nat × PySem.Addr) := [(66, 258), (69, 265), (72, 272), (86, 279), (88, 284), (93, 289), (74, 294)]
noncomputable def meL : List (Nat × PySem.Addr) := [(25, 106), (26, 113), (27, 120), (28, 127), (29, 134), (30, 141), (31, 148), (32, 155), (33, 162), (34, 167), (37, 188), (38, 195), (39, 202), (41, 216), (42, 223), (43, 230), (44, 237), (45, 244)]
noncomputable def exL : List (Nat × PySem.Addr) := [(85, 92)]
end Mine.L03

set_option autoImplicit false
set_option linter.unusedSimpArgs false
set_option linter.unusedVariables false
namespace Mine.L03
open Mine
open PySem (Str PyData)

theorem get_keep {σ : H} {a : Nat} {o x : O} (h : σ.get a = some o) : (σ.push x).get a = some o := by rw [get_push_lt (get_lt h)]; exact h
theorem put_self {σ : H} {a : Nat} {o x : O} (h : σ.get a = some o) : (σ.put a x).get a = some x := get_put_eq (get_lt h)
noncomputable def bA (b : Nat) : Nat := bif b == 0 then 11 else 16
noncomputable def wD (w : Nat → Nat) : List (V × V) := [(.int 0, .int (w 0)), (.int 1, .int (w 1))]
noncomputable def updF {β : Type} (w : Nat → β) (k : Nat) (v : β) : Nat → β := fun j => if j = k then v else w j
theorem wD_get {w : Nat → Nat} : ∀ {k : Nat}, k < 2 → dget (wD w) (.int (k : Int)) = some (.int (w k : Int))
  | 0, _ => rfl
  | 1, _ => rfl
theorem wD_set {w : Nat → Nat} {v : Nat} : ∀ {k : Nat}, k < 2 → dset (wD w) (.int (k : Int)) (.int (v : Int)) = wD (updF w k v)
  | 0, _ => rfl
  | 1, _ => rfl
noncomputable def bD : List (V × V) := [(.int 0, .ref 11), (.int 1, .ref 16)]
theorem bD_get : ∀ {b : Nat}, b < 2 → dget bD (.int (b : Int)) = some (.ref (bA b))
  | 0, _ => rfl
  | 1, _ => rfl
noncomputable def Ow (a : Nat) : Bool := a == 4 || a == 6 || a == 7 || a == 11 || a == 16
theorem ow_gt {a : Nat} (h : 16 < a) : Ow a = false := by
  unfold Ow
  simp only [Bool.or_eq_false_iff, beq_eq_false_iff_ne]
  lia
theorem ow_bA : ∀ {b : Nat}, b < 2 → Ow (bA b) = true
  | 0, _ => rfl
  | 1, _ => rfl
noncomputable def Kp (σ σ' : H) : Prop := ∀ a o, Ow a = false → σ.get a = some o → σ'.get a = some o
theorem Kp.refl (σ : H) : Kp σ σ := fun _ _ _ h => h
theorem Kp.trans {σ σ' σ'' : H} (h : Kp σ σ') (k : Kp σ' σ'') : Kp σ σ'' := fun a o e g => k a o e (h a o e g)
theorem Kp.push {σ σ' : H} (h : Kp σ σ') (x : O) : Kp σ (σ'.push x) := fun a o e g => get_keep (h a o e g)
theorem Kp.put {σ σ' : H} (h : Kp σ σ') {a : Nat} (ha : Ow a = true) (x : O) : Kp σ (σ'.put a x) := fun b o e g => by
  rw [get_put_ne (fun q => by rw [q, e] at ha; cases ha)]; exact h b o e g

structure Pl (σ : H) (hs : List (Option Nat)) (r : Nat → List (Option Nat)) (w : Nat → Nat) (q : List Nat) : Prop where
  d : σ.get 1 = some (.attrs [(47, .ref 4), (48, .ref 5), (49, .ref 6), (50, .ref 7), (51, .int 2)])
  p : σ.get 2 = some (.inst 24 1)
  h : σ.get 4 = some (.list (hs.map ov))
  b : σ.get 5 = some (.dict bD)
  w' : σ.get 6 = some (.dict (wD w))
  q' : σ.get 7 = some (.dict (dD q))
  bx : ∀ b, b < 2 → σ.get (bA b) = some (.list ((r b).map ov))

theorem bA_ne {a : Nat} (h1 : a ≠ 11) (h2 : a ≠ 16) : ∀ {b : Nat}, a ≠ bA b := fun {b} => by
  unfold bA
  cases (b == 0) <;> assumption
theorem bA_inj : ∀ {b c : Nat}, b < 2 → c < 2 → b ≠ c → bA b ≠ bA c
  | 0, 1, _, _, _ => by decide
  | 1, 0, _, _, _ => by decide
  | 0, 0, _, _, h => (h rfl).elim
  | 1, 1, _, _, h => (h rfl).elim

section
variable {σ : H} {hs : List (Option Nat)} {r : Nat → List (Option Nat)} {w : Nat → Nat} {q : List Nat}
theorem Pl.push (A : Pl σ hs r w q) (x : O) : Pl (σ.push x) hs r w q := ⟨get_keep A.d, get_keep A.p, get_keep A.h, get_keep A.b, get_keep A.w', get_keep A.q', fun b hb => get_keep (A.bx b hb)⟩
theorem Pl.big (A : Pl σ hs r w q) : 16 < σ.length := get_lt (A.bx 1 (by decide))
theorem Pl.setW (A : Pl σ hs r w q) (w₁ : Nat → Nat) : Pl (σ.put 6 (.dict (wD w₁))) hs r w₁ q :=
  ⟨(get_put_ne (by decide)).trans A.d, (get_put_ne (by decide)).trans A.p, (get_put_ne (by decide)).trans A.h, (get_put_ne (by decide)).trans A.b, put_self A.w', (get_put_ne (by decide)).trans A.q', fun b hb => (get_put_ne (bA_ne (by decide) (by decide))).trans (A.bx b hb)⟩
theorem Pl.setQ (A : Pl σ hs r w q) (q₁ : List Nat) : Pl (σ.put 7 (.dict (dD q₁))) hs r w q₁ :=
  ⟨(get_put_ne (by decide)).trans A.d, (get_put_ne (by decide)).trans A.p, (get_put_ne (by decide)).trans A.h, (get_put_ne (by decide)).trans A.b, (get_put_ne (by decide)).trans A.w', put_self A.q', fun b hb => (get_put_ne (bA_ne (by decide) (by decide))).trans (A.bx b hb)⟩
theorem Pl.setH (A : Pl σ hs r w q) (h₁ : List (Option Nat)) : Pl (σ.put 4 (.list (h₁.map ov))) h₁ r w q :=
  ⟨(get_put_ne (by decide)).trans A.d, (get_put_ne (by decide)).trans A.p, put_self A.h, (get_put_ne (by decide)).trans A.b, (get_put_ne (by decide)).trans A.w', (get_put_ne (by decide)).trans A.q', fun b hb => (get_put_ne (bA_ne (by decide) (by decide))).trans (A.bx b hb)⟩
theorem Pl.setB (A : Pl σ hs r w q) {c : Nat} (hc : c < 2) (xs : List (Option Nat)) : Pl (σ.put (bA c) (.list (xs.map ov))) hs (updF r c xs) w q := by
  have ne : ∀ a, a ≠ 11 → a ≠ 16 → bA c ≠ a := fun a h1 h2 => (bA_ne h1 h2).symm
  refine ⟨(get_put_ne (ne _ (by decide) (by decide))).trans A.d, (get_put_ne (ne _ (by decide) (by decide))).trans A.p, (get_put_ne (ne _ (by decide) (by decide))).trans A.h, (get_put_ne (ne _ (by decide) (by decide))).trans A.b, (get_put_ne (ne _ (by decide) (by decide))).trans A.w', (get_put_ne (ne _ (by decide) (by decide))).trans A.q', fun b hb => ?_⟩
  by_cases e : b = c
  · subst e
    unfold updF
    rw [if_pos rfl]; exact put_self (A.bx _ hb)
  · unfold updF
    rw [if_neg e, get_put_ne (bA_inj hc hb (Ne.symm e))]; exact A.bx b hb

noncomputable def addW (w : Nat → Nat) : Option Nat → Nat → Nat
  | none => w
  | some k => updF w k (w k + 1)
noncomputable def subW (w : Nat → Nat) : Option Nat → Nat → Nat
  | none => w
  | some k => updF w k (w k - 1)
noncomputable def addQ (q : List Nat) : Option Nat → List Nat
  | none => q
  | some k => addN q k
theorem ov_at {xs : List (Option Nat)} {i : Nat} (h : i < xs.length) : (xs.map ov)[((i : Int)).toNat]? = some (ov ((xs[i]?).getD none)) := by simp [h]
theorem set_ov {xs : List (Option Nat)} {i : Nat} {x : Option Nat} : (xs.map ov).set ((i : Int)).toNat (ov x) = (xs.set i x).map ov := by rw [List.map_set]; rfl
theorem lt_ov {xs : List (Option Nat)} {i : Nat} (h : i < xs.length) : (i : Int) < ((xs.map ov).length : Int) := by rw [List.length_map]; lia

variable {d : Nat} {Q : V → H → Prop}
theorem eg21 {C : Calls} {loc : Loc} : ev prog C (.glo 21) loc = X.pure (.int 8) := rfl
theorem need_hand_ok {k : Nat} (h1 : k < 8) (h : Q .none σ) : Ok (run prog 1000 (d + 1) true 26 [.ref 2, .int (k : Int)]) σ Q := by
  rw [ok_run (fd := PP.m_need_hand) rfl rfl]
  have h0' : (0 : Int) ≤ (k : Int) := Int.natCast_nonneg _
  have h1' : (k : Int) < 8 := by lia
  simp (disch := decide) only [PP.m_need_hand, eg21, ok_le, ok_lt, ok_truthb, h0', h1', oks_cons, oks_nil, then_none, then_some, s_expr, exprK_at, s_var, varK_at, s_attr, attrK_at, attrK2_at, s_sub, subK_at, subK2_at, subK3_at, s_ite, iteK_t, iteK_f, s_ret, retK_at, s_ret0, s_pass, runK_some, runK_none, forK_at, turnK_none, turnK_some, whlK_t, whlK_f, tt_not, tt_band, tt_bor, tt_bool, tt_loc, tt_cmp, tt_cmp2, tt_call, tt_meth, tt_isi, tt_attr, tt_sub, tt_bin, tnotF_t, tnotF_f, ta_nil, ta_cons, andF_t, andF_f, to_nil, to_cons, orF_t, orF_f, e_none, e_bool, e_int, e_str, e_loc, e_bin, binF_at, e_not, notF_at, notF2_t, notF2_f, e_band, e_bor, e_cmp, cmpF_at, e_cmp2, cmpG_t, cmpG_f, e_list, listF_at, e_tup, tupF_at, e_dict0, e_attr, attrF_at, e_sub, subF_at, e_slice, e_call, e_meth, methF_at, e_bi, e_isi, isiF_at, boolF_at, e_comp, es_nil, es_cons, consF_at, consF2_at, ok_bind, bindK_at, bind_pure, bind_lift, ok_pure, ok_lift, List.zip_cons_cons, List.zip_nil_right, List.zip_nil_left, List.foldl_cons, List.foldl_nil, upd_def, Nat.reduceBEq, bif_t, bif_f, if_true, if_false, Bool.false_eq_true, reduceCtorEq, Nat.reduceEqDiff, ne_eq, not_false_eq_true, not_true_eq_false, decide_true, decide_false, Bool.not_true, Bool.not_false]
  exact h
theorem need_box_ok {k : Nat} (A : Pl σ hs r w q) (hk : k < 2) (h : Q .none σ) : Ok (run prog 1000 (d + 1) true 27 [.ref 2, .int (k : Int)]) σ Q := by
  rw [ok_run (fd := PP.m_need_box) rfl rfl]
  simp (disch := decide) only [PP.m_need_box, ok_getAttr A.p A.d (n := 48) (v := .ref 5) rfl, ok_notInD A.b (k := .int (k : Int)) rfl, bD_get hk, Option.isSome_some, ok_truthb, oks_cons, oks_nil, then_none, then_some, s_expr, exprK_at, s_var, varK_at, s_attr, attrK_at, attrK2_at, s_sub, subK_at, subK2_at, subK3_at, s_ite, iteK_t, iteK_f, s_ret, retK_at, s_ret0, s_pass, runK_some, runK_none, forK_at, turnK_none, turnK_some, whlK_t, whlK_f, tt_not, tt_band, tt_bor, tt_bool, tt_loc, tt_cmp, tt_cmp2, tt_call, tt_meth, tt_isi, tt_attr, tt_sub, tt_bin, tnotF_t, tnotF_f, ta_nil, ta_cons, andF_t, andF_f, to_nil, to_cons, orF_t, orF_f, e_none, e_bool, e_int, e_str, e_loc, e_bin, binF_at, e_not, notF_at, notF2_t, notF2_f, e_band, e_bor, e_cmp, cmpF_at, e_cmp2, cmpG_t, cmpG_f, e_list, listF_at, e_tup, tupF_at, e_dict0, e_attr, attrF_at, e_sub, subF_at, e_slice, e_call, e_meth, methF_at, e_bi, e_isi, isiF_at, boolF_at, e_comp, es_nil, es_cons, consF_at, consF2_at, ok_bind, bindK_at, bind_pure, bind_lift, ok_pure, ok_lift, List.zip_cons_cons, List.zip_nil_right, List.zip_nil_left, List.foldl_cons, List.foldl_nil, upd_def, Nat.reduceBEq, bif_t, bif_f, if_true, if_false, Bool.false_eq_true, reduceCtorEq, Nat.reduceEqDiff, ne_eq, not_false_eq_true, not_true_eq_false, decide_true, decide_false, Bool.not_true, Bool.not_false]
  exact h
theorem holds_ok {k : Nat} (A : Pl σ hs r w q) (hl : hs.length = 8) (h1 : k < 8) (h : Q (ov ((hs[k]?).getD none)) σ) : Ok (run prog 1000 (d + 2) true 41 [.ref 2, .int (k : Int)]) σ Q := by
  rw [ok_run (fd := PP.m_holds) rfl rfl]
  simp (disch := decide) only [PP.m_holds, mx_inst A.p A.d, oks_cons, oks_nil, then_none, then_some, s_expr, exprK_at, s_var, varK_at, s_attr, attrK_at, attrK2_at, s_sub, subK_at, subK2_at, subK3_at, s_ite, iteK_t, iteK_f, s_ret, retK_at, s_ret0, s_pass, runK_some, runK_none, forK_at, turnK_none, turnK_some, whlK_t, whlK_f, tt_not, tt_band, tt_bor, tt_bool, tt_loc, tt_cmp, tt_cmp2, tt_call, tt_meth, tt_isi, tt_attr, tt_sub, tt_bin, tnotF_t, tnotF_f, ta_nil, ta_cons, andF_t, andF_f, to_nil, to_cons, orF_t, orF_f, e_none, e_bool, e_int, e_str, e_loc, e_bin, binF_at, e_not, notF_at, notF2_t, notF2_f, e_band, e_bor, e_cmp, cmpF_at, e_cmp2, cmpG_t, cmpG_f, e_list, listF_at, e_tup, tupF_at, e_dict0, e_attr, attrF_at, e_sub, subF_at, e_slice, e_call, e_meth, methF_at, e_bi, e_isi, isiF_at, boolF_at, e_comp, es_nil, es_cons, consF_at, consF2_at, ok_bind, bindK_at, bind_pure, bind_lift, ok_pure, ok_lift, List.zip_cons_cons, List.zip_nil_right, List.zip_nil_left, List.foldl_cons, List.foldl_nil, upd_def, Nat.reduceBEq, bif_t, bif_f, if_true, if_false, Bool.false_eq_true, reduceCtorEq, Nat.reduceEqDiff, ne_eq, not_false_eq_true, not_true_eq_false, decide_true, decide_false, Bool.not_true, Bool.not_false]
  refine need_hand_ok h1 ?_
  simp (disch := decide) only [ok_getAttr A.p A.d (n := 47) (v := .ref 4) rfl, ok_getList A.h (Int.natCast_nonneg _) (ov_at (show k < hs.length by lia)), oks_cons, oks_nil, then_none, then_some, s_expr, exprK_at, s_var, varK_at, s_attr, attrK_at, attrK2_at, s_sub, subK_at, subK2_at, subK3_at, s_ite, iteK_t, iteK_f, s_ret, retK_at, s_ret0, s_pass, runK_some, runK_none, forK_at, turnK_none, turnK_some, whlK_t, whlK_f, tt_not, tt_band, tt_bor, tt_bool, tt_loc, tt_cmp, tt_cmp2, tt_call, tt_meth, tt_isi, tt_attr, tt_sub, tt_bin, tnotF_t, tnotF_f, ta_nil, ta_cons, andF_t, andF_f, to_nil, to_cons, orF_t, orF_f, e_none, e_bool, e_int, e_str, e_loc, e_bin, binF_at, e_not, notF_at, notF2_t, notF2_f, e_band, e_bor, e_cmp, cmpF_at, e_cmp2, cmpG_t, cmpG_f, e_list, listF_at, e_tup, tupF_at, e_dict0, e_attr, attrF_at, e_sub, subF_at, e_slice, e_call, e_meth, methF_at, e_bi, e_isi, isiF_at, boolF_at, e_comp, es_nil, es_cons, consF_at, consF2_at, ok_bind, bindK_at, bind_pure, bind_lift, ok_pure, ok_lift, List.zip_cons_cons, List.zip_nil_right, List.zip_nil_left, List.foldl_cons, List.foldl_nil, upd_def, Nat.reduceBEq, bif_t, bif_f, if_true, if_false, Bool.false_eq_true, reduceCtorEq, Nat.reduceEqDiff, ne_eq, not_false_eq_true, not_true_eq_false, decide_true, decide_false, Bool.not_true, Bool.not_false]
  exact h
theorem points_ok {k : Nat} (A : Pl σ hs r w q) (hk : k < 2) (hr : (r k).length ≤ 6) (h : Q (.ref σ.length) (σ.push (.list ((r k).map ov)))) : Ok (run prog 1000 (d + 2) true 42 [.ref 2, .int (k : Int)]) σ Q := by
  rw [ok_run (fd := PP.m_points) rfl rfl]
  simp (disch := decide) only [PP.m_points, mx_inst A.p A.d, oks_cons, oks_nil, then_none, then_some, s_expr, exprK_at, s_var, varK_at, s_attr, attrK_at, attrK2_at, s_sub, subK_at, subK2_at, subK3_at, s_ite, iteK_t, iteK_f, s_ret, retK_at, s_ret0, s_pass, runK_some, runK_none, forK_at, turnK_none, turnK_some, whlK_t, whlK_f, tt_not, tt_band, tt_bor, tt_bool, tt_loc, tt_cmp, tt_cmp2, tt_call, tt_meth, tt_isi, tt_attr, tt_sub, tt_bin, tnotF_t, tnotF_f, ta_nil, ta_cons, andF_t, andF_f, to_nil, to_cons, orF_t, orF_f, e_none, e_bool, e_int, e_str, e_loc, e_bin, binF_at, e_not, notF_at, notF2_t, notF2_f, e_band, e_bor, e_cmp, cmpF_at, e_cmp2, cmpG_t, cmpG_f, e_list, listF_at, e_tup, tupF_at, e_dict0, e_attr, attrF_at, e_sub, subF_at, e_slice, e_call, e_meth, methF_at, e_bi, e_isi, isiF_at, boolF_at, e_comp, es_nil, es_cons, consF_at, consF2_at, ok_bind, bindK_at, bind_pure, bind_lift, ok_pure, ok_lift, List.zip_cons_cons, List.zip_nil_right, List.zip_nil_left, List.foldl_cons, List.foldl_nil, upd_def, Nat.reduceBEq, bif_t, bif_f, if_true, if_false, Bool.false_eq_true, reduceCtorEq, Nat.reduceEqDiff, ne_eq, not_false_eq_true, not_true_eq_false, decide_true, decide_false, Bool.not_true, Bool.not_false]
  refine need_box_ok A hk ?_
  have hlim : lim = 1000000 := rfl
  simp (disch := decide) only [ok_getAttr A.p A.d (n := 48) (v := .ref 5) rfl, ok_getDict A.b rfl (bD_get hk), ok_listL (A.bx k hk) (by rw [List.length_map, hlim]; lia), oks_cons, oks_nil, then_none, then_some, s_expr, exprK_at, s_var, varK_at, s_attr, attrK_at, attrK2_at, s_sub, subK_at, subK2_at, subK3_at, s_ite, iteK_t, iteK_f, s_ret, retK_at, s_ret0, s_pass, runK_some, runK_none, forK_at, turnK_none, turnK_some, whlK_t, whlK_f, tt_not, tt_band, tt_bor, tt_bool, tt_loc, tt_cmp, tt_cmp2, tt_call, tt_meth, tt_isi, tt_attr, tt_sub, tt_bin, tnotF_t, tnotF_f, ta_nil, ta_cons, andF_t, andF_f, to_nil, to_cons, orF_t, orF_f, e_none, e_bool, e_int, e_str, e_loc, e_bin, binF_at, e_not, notF_at, notF2_t, notF2_f, e_band, e_bor, e_cmp, cmpF_at, e_cmp2, cmpG_t, cmpG_f, e_list, listF_at, e_tup, tupF_at, e_dict0, e_attr, attrF_at, e_sub, subF_at, e_slice, e_call, e_meth, methF_at, e_bi, e_isi, isiF_at, boolF_at, e_comp, es_nil, es_cons, consF_at, consF2_at, ok_bind, bindK_at, bind_pure, bind_lift, ok_pure, ok_lift, List.zip_cons_cons, List.zip_nil_right, List.zip_nil_left, List.foldl_cons, List.foldl_nil, upd_def, Nat.reduceBEq, bif_t, bif_f, if_true, if_false, Bool.false_eq_true, reduceCtorEq, Nat.reduceEqDiff, ne_eq, not_false_eq_true, not_true_eq_false, decide_true, decide_false, Bool.not_true, Bool.not_false]
  exact h
theorem weighs_ok {k : Nat} (A : Pl σ hs r w q) (hk : k < 2) (h : Q (.int (w k : Int)) σ) : Ok (run prog 1000 (d + 2) true 43 [.ref 2, .int (k : Int)]) σ Q := by
  rw [ok_run (fd := PP.m_weighs) rfl rfl]
  simp (disch := decide) only [PP.m_weighs, mx_inst A.p A.d, oks_cons, oks_nil, then_none, then_some, s_expr, exprK_at, s_var, varK_at, s_attr, attrK_at, attrK2_at, s_sub, subK_at, subK2_at, subK3_at, s_ite, iteK_t, iteK_f, s_ret, retK_at, s_ret0, s_pass, runK_some, runK_none, forK_at, turnK_none, turnK_some, whlK_t, whlK_f, tt_not, tt_band, tt_bor, tt_bool, tt_loc, tt_cmp, tt_cmp2, tt_call, tt_meth, tt_isi, tt_attr, tt_sub, tt_bin, tnotF_t, tnotF_f, ta_nil, ta_cons, andF_t, andF_f, to_nil, to_cons, orF_t, orF_f, e_none, e_bool, e_int, e_str, e_loc, e_bin, binF_at, e_not, notF_at, notF2_t, notF2_f, e_band, e_bor, e_cmp, cmpF_at, e_cmp2, cmpG_t, cmpG_f, e_list, listF_at, e_tup, tupF_at, e_dict0, e_attr, attrF_at, e_sub, subF_at, e_slice, e_call, e_meth, methF_at, e_bi, e_isi, isiF_at, boolF_at, e_comp, es_nil, es_cons, consF_at, consF2_at, ok_bind, bindK_at, bind_pure, bind_lift, ok_pure, ok_lift, List.zip_cons_cons, List.zip_nil_right, List.zip_nil_left, List.foldl_cons, List.foldl_nil, upd_def, Nat.reduceBEq, bif_t, bif_f, if_true, if_false, Bool.false_eq_true, reduceCtorEq, Nat.reduceEqDiff, ne_eq, not_false_eq_true, not_true_eq_false, decide_true, decide_false, Bool.not_true, Bool.not_false]
  refine need_box_ok A hk ?_
  simp (disch := decide) only [ok_getAttr A.p A.d (n := 49) (v := .ref 6) rfl, ok_getDict A.w' rfl (wD_get hk), oks_cons, oks_nil, then_none, then_some, s_expr, exprK_at, s_var, varK_at, s_attr, attrK_at, attrK2_at, s_sub, subK_at, subK2_at, subK3_at, s_ite, iteK_t, iteK_f, s_ret, retK_at, s_ret0, s_pass, runK_some, runK_none, forK_at, turnK_none, turnK_some, whlK_t, whlK_f, tt_not, tt_band, tt_bor, tt_bool, tt_loc, tt_cmp, tt_cmp2, tt_call, tt_meth, tt_isi, tt_attr, tt_sub, tt_bin, tnotF_t, tnotF_f, ta_nil, ta_cons, andF_t, andF_f, to_nil, to_cons, orF_t, orF_f, e_none, e_bool, e_int, e_str, e_loc, e_bin, binF_at, e_not, notF_at, notF2_t, notF2_f, e_band, e_bor, e_cmp, cmpF_at, e_cmp2, cmpG_t, cmpG_f, e_list, listF_at, e_tup, tupF_at, e_dict0, e_attr, attrF_at, e_sub, subF_at, e_slice, e_call, e_meth, methF_at, e_bi, e_isi, isiF_at, boolF_at, e_comp, es_nil, es_cons, consF_at, consF2_at, ok_bind, bindK_at, bind_pure, bind_lift, ok_pure, ok_lift, List.zip_cons_cons, List.zip_nil_right, List.zip_nil_left, List.foldl_cons, List.foldl_nil, upd_def, Nat.reduceBEq, bif_t, bif_f, if_true, if_false, Bool.false_eq_true, reduceCtorEq, Nat.reduceEqDiff, ne_eq, not_false_eq_true, not_true_eq_false, decide_true, decide_false, Bool.not_true, Bool.not_false]
  exact h
theorem alive_ok (A : Pl σ hs r w q) (h : Q (.ref σ.length) (σ.push (.list [.int 0, .int 1]))) : Ok (run prog 1000 (d + 1) true 44 [.ref 2]) σ Q := by
  rw [ok_run (fd := PP.m_alive) rfl rfl]
  simp (disch := decide) only [PP.m_alive, ok_getAttr A.p A.d (n := 48) (v := .ref 5) rfl, ok_sortedD (ns := [0, 1]) A.b rfl (by decide), oks_cons, oks_nil, then_none, then_some, s_expr, exprK_at, s_var, varK_at, s_attr, attrK_at, attrK2_at, s_sub, subK_at, subK2_at, subK3_at, s_ite, iteK_t, iteK_f, s_ret, retK_at, s_ret0, s_pass, runK_some, runK_none, forK_at, turnK_none, turnK_some, whlK_t, whlK_f, tt_not, tt_band, tt_bor, tt_bool, tt_loc, tt_cmp, tt_cmp2, tt_call, tt_meth, tt_isi, tt_attr, tt_sub, tt_bin, tnotF_t, tnotF_f, ta_nil, ta_cons, andF_t, andF_f, to_nil, to_cons, orF_t, orF_f, e_none, e_bool, e_int, e_str, e_loc, e_bin, binF_at, e_not, notF_at, notF2_t, notF2_f, e_band, e_bor, e_cmp, cmpF_at, e_cmp2, cmpG_t, cmpG_f, e_list, listF_at, e_tup, tupF_at, e_dict0, e_attr, attrF_at, e_sub, subF_at, e_slice, e_call, e_meth, methF_at, e_bi, e_isi, isiF_at, boolF_at, e_comp, es_nil, es_cons, consF_at, consF2_at, ok_bind, bindK_at, bind_pure, bind_lift, ok_pure, ok_lift, List.zip_cons_cons, List.zip_nil_right, List.zip_nil_left, List.foldl_cons, List.foldl_nil, upd_def, Nat.reduceBEq, bif_t, bif_f, if_true, if_false, Bool.false_eq_true, reduceCtorEq, Nat.reduceEqDiff, ne_eq, not_false_eq_true, not_true_eq_false, decide_true, decide_false, Bool.not_true, Bool.not_false]
  exact h
theorem suspects_ok (A : Pl σ hs r w q) (hl : q.length < 64) (h : Q (.ref σ.length) (σ.push (.list ((sortI (q.map Int.ofNat)).map .int)))) : Ok (run prog 1000 (d + 1) true 45 [.ref 2]) σ Q := by
  rw [ok_run (fd := PP.m_suspects) rfl rfl]
  simp (disch := decide) only [PP.m_suspects, ok_getAttr A.p A.d (n := 50) (v := .ref 7) rfl, ok_sortedD A.q' dD_keys (by simpa using hl), oks_cons, oks_nil, then_none, then_some, s_expr, exprK_at, s_var, varK_at, s_attr, attrK_at, attrK2_at, s_sub, subK_at, subK2_at, subK3_at, s_ite, iteK_t, iteK_f, s_ret, retK_at, s_ret0, s_pass, runK_some, runK_none, forK_at, turnK_none, turnK_some, whlK_t, whlK_f, tt_not, tt_band, tt_bor, tt_bool, tt_loc, tt_cmp, tt_cmp2, tt_call, tt_meth, tt_isi, tt_attr, tt_sub, tt_bin, tnotF_t, tnotF_f, ta_nil, ta_cons, andF_t, andF_f, to_nil, to_cons, orF_t, orF_f, e_none, e_bool, e_int, e_str, e_loc, e_bin, binF_at, e_not, notF_at, notF2_t, notF2_f, e_band, e_bor, e_cmp, cmpF_at, e_cmp2, cmpG_t, cmpG_f, e_list, listF_at, e_tup, tupF_at, e_dict0, e_attr, attrF_at, e_sub, subF_at, e_slice, e_call, e_meth, methF_at, e_bi, e_isi, isiF_at, boolF_at, e_comp, es_nil, es_cons, consF_at, consF2_at, ok_bind, bindK_at, bind_pure, bind_lift, ok_pure, ok_lift, List.zip_cons_cons, List.zip_nil_right, List.zip_nil_left, List.foldl_cons, List.foldl_nil, upd_def, Nat.reduceBEq, bif_t, bif_f, if_true, if_false, Bool.false_eq_true, reduceCtorEq, Nat.reduceEqDiff, ne_eq, not_false_eq_true, not_true_eq_false, decide_true, decide_false, Bool.not_true, Bool.not_false]
  exact h
theorem counted_ok {x : Option Nat} (A : Pl σ hs r w q) (hx : ∀ k, x = some k → k < 2) (h : ∀ σ', Pl σ' hs r (addW w x) q → Kp σ σ' → Q .none σ') : Ok (run prog 1000 (d + 1) true 29 [.ref 2, ov x]) σ Q := by
  rw [ok_run (fd := PP.m_counted) rfl rfl]
  cases x with
  | none =>
    simp (disch := decide) only [PP.m_counted, ov, ok_isNot, ok_truthb, oks_cons, oks_nil, then_none, then_some, s_expr, exprK_at, s_var, varK_at, s_attr, attrK_at, attrK2_at, s_sub, subK_at, subK2_at, subK3_at, s_ite, iteK_t, iteK_f, s_ret, retK_at, s_ret0, s_pass, runK_some, runK_none, forK_at, turnK_none, turnK_some, whlK_t, whlK_f, tt_not, tt_band, tt_bor, tt_bool, tt_loc, tt_cmp, tt_cmp2, tt_call, tt_meth, tt_isi, tt_attr, tt_sub, tt_bin, tnotF_t, tnotF_f, ta_nil, ta_cons, andF_t, andF_f, to_nil, to_cons, orF_t, orF_f, e_none, e_bool, e_int, e_str, e_loc, e_bin, binF_at, e_not, notF_at, notF2_t, notF2_f, e_band, e_bor, e_cmp, cmpF_at, e_cmp2, cmpG_t, cmpG_f, e_list, listF_at, e_tup, tupF_at, e_dict0, e_attr, attrF_at, e_sub, subF_at, e_slice, e_call, e_meth, methF_at, e_bi, e_isi, isiF_at, boolF_at, e_comp, es_nil, es_cons, consF_at, consF2_at, ok_bind, bindK_at, bind_pure, bind_lift, ok_pure, ok_lift, List.zip_cons_cons, List.zip_nil_right, List.zip_nil_left, List.foldl_cons, List.foldl_nil, upd_def, Nat.reduceBEq, bif_t, bif_f, if_true, if_false, Bool.false_eq_true, reduceCtorEq, Nat.reduceEqDiff, ne_eq, not_false_eq_true, not_true_eq_false, decide_true, decide_false, Bool.not_true, Bool.not_false]
    exact h σ A (Kp.refl _)
  | some k =>
    have hk := hx k rfl
    have hs' : dset (wD w) (.int (k : Int)) (.int ((w k : Int) + 1)) = wD (updF w k (w k + 1)) := wD_set (v := w k + 1) hk
    simp (disch := decide) only [PP.m_counted, ov, ok_isNot, ok_truthb, ok_getAttr A.p A.d (n := 49) (v := .ref 6) rfl, ok_getDict A.w' rfl (wD_get hk), ok_add, ok_setDict (v := .int ((w k : Int) + 1)) A.w' (show prog.nf ≤ 6 by decide) (show isKey (.int (k : Int)) = true from rfl) (by rw [hs']; exact (show 2 ≤ lim by decide)), hs', oks_cons, oks_nil, then_none, then_some, s_expr, exprK_at, s_var, varK_at, s_attr, attrK_at, attrK2_at, s_sub, subK_at, subK2_at, subK3_at, s_ite, iteK_t, iteK_f, s_ret, retK_at, s_ret0, s_pass, runK_some, runK_none, forK_at, turnK_none, turnK_some, whlK_t, whlK_f, tt_not, tt_band, tt_bor, tt_bool, tt_loc, tt_cmp, tt_cmp2, tt_call, tt_meth, tt_isi, tt_attr, tt_sub, tt_bin, tnotF_t, tnotF_f, ta_nil, ta_cons, andF_t, andF_f, to_nil, to_cons, orF_t, orF_f, e_none, e_bool, e_int, e_str, e_loc, e_bin, binF_at, e_not, notF_at, notF2_t, notF2_f, e_band, e_bor, e_cmp, cmpF_at, e_cmp2, cmpG_t, cmpG_f, e_list, listF_at, e_tup, tupF_at, e_dict0, e_attr, attrF_at, e_sub, subF_at, e_slice, e_call, e_meth, methF_at, e_bi, e_isi, isiF_at, boolF_at, e_comp, es_nil, es_cons, consF_at, consF2_at, ok_bind, bindK_at, bind_pure, bind_lift, ok_pure, ok_lift, List.zip_cons_cons, List.zip_nil_right, List.zip_nil_left, List.foldl_cons, List.foldl_nil, upd_def, Nat.reduceBEq, bif_t, bif_f, if_true, if_false, Bool.false_eq_true, reduceCtorEq, Nat.reduceEqDiff, ne_eq, not_false_eq_true, not_true_eq_false, decide_true, decide_false, Bool.not_true, Bool.not_false]
    exact h _ (A.setW _) ((Kp.refl _).put rfl _)
theorem lighter_ok {x : Option Nat} {f : Nat} (A : Pl σ hs r w q) (hx : ∀ k, x = some k → k < 2 ∧ 1 < w k) (hq : q.length ≤ 100) (h : ∀ σ', Pl σ' hs r (subW w x) (addQ q x) → Kp σ σ' → Q .none σ') : Ok (run prog 1000 (d + 1) true 31 [.ref 2, ov x, .ref f]) σ Q := by
  rw [ok_run (fd := PP.m_lighter) rfl rfl]
  cases x with
  | none =>
    simp (disch := decide) only [PP.m_lighter, ov, ok_is, ok_truthb, oks_cons, oks_nil, then_none, then_some, s_expr, exprK_at, s_var, varK_at, s_attr, attrK_at, attrK2_at, s_sub, subK_at, subK2_at, subK3_at, s_ite, iteK_t, iteK_f, s_ret, retK_at, s_ret0, s_pass, runK_some, runK_none, forK_at, turnK_none, turnK_some, whlK_t, whlK_f, tt_not, tt_band, tt_bor, tt_bool, tt_loc, tt_cmp, tt_cmp2, tt_call, tt_meth, tt_isi, tt_attr, tt_sub, tt_bin, tnotF_t, tnotF_f, ta_nil, ta_cons, andF_t, andF_f, to_nil, to_cons, orF_t, orF_f, e_none, e_bool, e_int, e_str, e_loc, e_bin, binF_at, e_not, notF_at, notF2_t, notF2_f, e_band, e_bor, e_cmp, cmpF_at, e_cmp2, cmpG_t, cmpG_f, e_list, listF_at, e_tup, tupF_at, e_dict0, e_attr, attrF_at, e_sub, subF_at, e_slice, e_call, e_meth, methF_at, e_bi, e_isi, isiF_at, boolF_at, e_comp, es_nil, es_cons, consF_at, consF2_at, ok_bind, bindK_at, bind_pure, bind_lift, ok_pure, ok_lift, List.zip_cons_cons, List.zip_nil_right, List.zip_nil_left, List.foldl_cons, List.foldl_nil, upd_def, Nat.reduceBEq, bif_t, bif_f, if_true, if_false, Bool.false_eq_true, reduceCtorEq, Nat.reduceEqDiff, ne_eq, not_false_eq_true, not_true_eq_false, decide_true, decide_false, Bool.not_true, Bool.not_false]
    exact h σ A (Kp.refl _)
  | some k =>
    obtain ⟨hk, hw⟩ := hx k rfl
    have hs' : dset (wD w) (.int (k : Int)) (.int ((w k : Int) - 1)) = wD (updF w k (w k - 1)) := by
      have : (w k : Int) - 1 = ((w k - 1 : Nat) : Int) := by lia
      rw [this]; exact wD_set hk
    have A1 := A.setW (updF w k (w k - 1))
    have hg1 : dget (wD (updF w k (w k - 1))) (.int (k : Int)) = some (.int ((w k - 1 : Nat) : Int)) := by
      rw [wD_get hk]; unfold updF; rw [if_pos rfl]
    have hgt : ((w k - 1 : Nat) : Int) > 0 := by lia
    have hqs : (dset (dD q) (.int (k : Int)) (.bool true)).length ≤ lim := by
      rw [dD_set]; unfold dD addN
      have : lim = 1000000 := rfl
      split <;> simp <;> lia
    simp (disch := decide) only [PP.m_lighter, ov, ok_is, ok_truthb, ok_getAttr A.p A.d (n := 49) (v := .ref 6) rfl, ok_getDict A.w' rfl (wD_get hk), ok_sub, ok_setDict (v := .int ((w k : Int) - 1)) A.w' (show prog.nf ≤ 6 by decide) (show isKey (.int (k : Int)) = true from rfl) (by rw [hs']; exact (show 2 ≤ lim by decide)), hs',
      ok_getAttr A1.p A1.d (n := 49) (v := .ref 6) rfl, ok_getDict A1.w' rfl hg1, ok_gt, hgt, ok_getAttr A1.p A1.d (n := 50) (v := .ref 7) rfl, ok_setDict A1.q' (show prog.nf ≤ 7 by decide) (show isKey (.int (k : Int)) = true from rfl) hqs, oks_cons, oks_nil, then_none, then_some, s_expr, exprK_at, s_var, varK_at, s_attr, attrK_at, attrK2_at, s_sub, subK_at, subK2_at, subK3_at, s_ite, iteK_t, iteK_f, s_ret, retK_at, s_ret0, s_pass, runK_some, runK_none, forK_at, turnK_none, turnK_some, whlK_t, whlK_f, tt_not, tt_band, tt_bor, tt_bool, tt_loc, tt_cmp, tt_cmp2, tt_call, tt_meth, tt_isi, tt_attr, tt_sub, tt_bin, tnotF_t, tnotF_f, ta_nil, ta_cons, andF_t, andF_f, to_nil, to_cons, orF_t, orF_f, e_none, e_bool, e_int, e_str, e_loc, e_bin, binF_at, e_not, notF_at, notF2_t, notF2_f, e_band, e_bor, e_cmp, cmpF_at, e_cmp2, cmpG_t, cmpG_f, e_list, listF_at, e_tup, tupF_at, e_dict0, e_attr, attrF_at, e_sub, subF_at, e_slice, e_call, e_meth, methF_at, e_bi, e_isi, isiF_at, boolF_at, e_comp, es_nil, es_cons, consF_at, consF2_at, ok_bind, bindK_at, bind_pure, bind_lift, ok_pure, ok_lift, List.zip_cons_cons, List.zip_nil_right, List.zip_nil_left, List.foldl_cons, List.foldl_nil, upd_def, Nat.reduceBEq, bif_t, bif_f, if_true, if_false, Bool.false_eq_true, reduceCtorEq, Nat.reduceEqDiff, ne_eq, not_false_eq_true, not_true_eq_false, decide_true, decide_false, Bool.not_true, Bool.not_false]
    rw [dD_set]
    exact h _ (A1.setQ _) (((Kp.refl _).put rfl _).put rfl _)
theorem letgo_ok {x : Option Nat} (A : Pl σ hs r w q) (hx : ∀ k, x = some k → k < 2 ∧ 1 < w k) (hq : q.length ≤ 100) (h : ∀ σ' f, Pl σ' hs r (subW w x) (addQ q x) → Kp σ σ' → σ'.get f = some (.list []) → Q (.ref f) σ') : Ok (run prog 1000 (d + 2) true 30 [.ref 2, ov x]) σ Q := by
  rw [ok_run (fd := PP.m_let_go) rfl rfl]
  have A1 := A.push (.list [])
  have g1 : (σ.push (.list [])).get σ.length = some (.list []) := get_push_eq
  have k1 : Kp σ (σ.push (.list [])) := (Kp.refl _).push _
  have ow := ow_gt A.big
  unfold PP.m_let_go
  refine oks_step rfl ?_
  simp (disch := decide) only [ok_alloc (o := .list []) rfl, s_expr, exprK_at, s_var, varK_at, s_attr, attrK_at, attrK2_at, s_sub, subK_at, subK2_at, subK3_at, s_ite, iteK_t, iteK_f, s_ret, retK_at, s_ret0, s_pass, runK_some, runK_none, forK_at, turnK_none, turnK_some, whlK_t, whlK_f, tt_not, tt_band, tt_bor, tt_bool, tt_loc, tt_cmp, tt_cmp2, tt_call, tt_meth, tt_isi, tt_attr, tt_sub, tt_bin, tnotF_t, tnotF_f, ta_nil, ta_cons, andF_t, andF_f, to_nil, to_cons, orF_t, orF_f, e_none, e_bool, e_int, e_str, e_loc, e_bin, binF_at, e_not, notF_at, notF2_t, notF2_f, e_band, e_bor, e_cmp, cmpF_at, e_cmp2, cmpG_t, cmpG_f, e_list, listF_at, e_tup, tupF_at, e_dict0, e_attr, attrF_at, e_sub, subF_at, e_slice, e_call, e_meth, methF_at, e_bi, e_isi, isiF_at, boolF_at, e_comp, es_nil, es_cons, consF_at, consF2_at, ok_bind, bindK_at, bind_pure, bind_lift, ok_pure, ok_lift, List.zip_cons_cons, List.zip_nil_right, List.zip_nil_left, List.foldl_cons, List.foldl_nil, upd_def, Nat.reduceBEq, bif_t, bif_f, if_true, if_false, Bool.false_eq_true, reduceCtorEq, Nat.reduceEqDiff, ne_eq, not_false_eq_true, not_true_eq_false, decide_true, decide_false, Bool.not_true, Bool.not_false]
  refine then_step rfl ?_
  generalize σ.push (.list []) = τ at *
  simp (disch := decide) only [mx_inst A1.p A1.d, s_expr, exprK_at, s_var, varK_at, s_attr, attrK_at, attrK2_at, s_sub, subK_at, subK2_at, subK3_at, s_ite, iteK_t, iteK_f, s_ret, retK_at, s_ret0, s_pass, runK_some, runK_none, forK_at, turnK_none, turnK_some, whlK_t, whlK_f, tt_not, tt_band, tt_bor, tt_bool, tt_loc, tt_cmp, tt_cmp2, tt_call, tt_meth, tt_isi, tt_attr, tt_sub, tt_bin, tnotF_t, tnotF_f, ta_nil, ta_cons, andF_t, andF_f, to_nil, to_cons, orF_t, orF_f, e_none, e_bool, e_int, e_str, e_loc, e_bin, binF_at, e_not, notF_at, notF2_t, notF2_f, e_band, e_bor, e_cmp, cmpF_at, e_cmp2, cmpG_t, cmpG_f, e_list, listF_at, e_tup, tupF_at, e_dict0, e_attr, attrF_at, e_sub, subF_at, e_slice, e_call, e_meth, methF_at, e_bi, e_isi, isiF_at, boolF_at, e_comp, es_nil, es_cons, consF_at, consF2_at, ok_bind, bindK_at, bind_pure, bind_lift, ok_pure, ok_lift, List.zip_cons_cons, List.zip_nil_right, List.zip_nil_left, List.foldl_cons, List.foldl_nil, upd_def, Nat.reduceBEq, bif_t, bif_f, if_true, if_false, Bool.false_eq_true, reduceCtorEq, Nat.reduceEqDiff, ne_eq, not_false_eq_true, not_true_eq_false, decide_true, decide_false, Bool.not_true, Bool.not_false]
  refine lighter_ok A1 hx hq fun τ' A2 k2 => ?_
  have g2 := k2 _ _ ow g1
  refine then_step rfl ?_
  simp (disch := decide) only [s_expr, exprK_at, s_var, varK_at, s_attr, attrK_at, attrK2_at, s_sub, subK_at, subK2_at, subK3_at, s_ite, iteK_t, iteK_f, s_ret, retK_at, s_ret0, s_pass, runK_some, runK_none, forK_at, turnK_none, turnK_some, whlK_t, whlK_f, tt_not, tt_band, tt_bor, tt_bool, tt_loc, tt_cmp, tt_cmp2, tt_call, tt_meth, tt_isi, tt_attr, tt_sub, tt_bin, tnotF_t, tnotF_f, ta_nil, ta_cons, andF_t, andF_f, to_nil, to_cons, orF_t, orF_f, e_none, e_bool, e_int, e_str, e_loc, e_bin, binF_at, e_not, notF_at, notF2_t, notF2_f, e_band, e_bor, e_cmp, cmpF_at, e_cmp2, cmpG_t, cmpG_f, e_list, listF_at, e_tup, tupF_at, e_dict0, e_attr, attrF_at, e_sub, subF_at, e_slice, e_call, e_meth, methF_at, e_bi, e_isi, isiF_at, boolF_at, e_comp, es_nil, es_cons, consF_at, consF2_at, ok_bind, bindK_at, bind_pure, bind_lift, ok_pure, ok_lift, List.zip_cons_cons, List.zip_nil_right, List.zip_nil_left, List.foldl_cons, List.foldl_nil, upd_def, Nat.reduceBEq, bif_t, bif_f, if_true, if_false, Bool.false_eq_true, reduceCtorEq, Nat.reduceEqDiff, ne_eq, not_false_eq_true, not_true_eq_false, decide_true, decide_false, Bool.not_true, Bool.not_false]
  refine then_step rfl ?_
  rw [s_whl, w_step (n := 999)]
  simp (disch := decide) only [ok_lenL g2, ok_lt, ok_truthb, List.length_nil, Int.ofNat_zero, Int.natCast_zero, Int.lt_irrefl, s_expr, exprK_at, s_var, varK_at, s_attr, attrK_at, attrK2_at, s_sub, subK_at, subK2_at, subK3_at, s_ite, iteK_t, iteK_f, s_ret, retK_at, s_ret0, s_pass, runK_some, runK_none, forK_at, turnK_none, turnK_some, whlK_t, whlK_f, tt_not, tt_band, tt_bor, tt_bool, tt_loc, tt_cmp, tt_cmp2, tt_call, tt_meth, tt_isi, tt_attr, tt_sub, tt_bin, tnotF_t, tnotF_f, ta_nil, ta_cons, andF_t, andF_f, to_nil, to_cons, orF_t, orF_f, e_none, e_bool, e_int, e_str, e_loc, e_bin, binF_at, e_not, notF_at, notF2_t, notF2_f, e_band, e_bor, e_cmp, cmpF_at, e_cmp2, cmpG_t, cmpG_f, e_list, listF_at, e_tup, tupF_at, e_dict0, e_attr, attrF_at, e_sub, subF_at, e_slice, e_call, e_meth, methF_at, e_bi, e_isi, isiF_at, boolF_at, e_comp, es_nil, es_cons, consF_at, consF2_at, ok_bind, bindK_at, bind_pure, bind_lift, ok_pure, ok_lift, List.zip_cons_cons, List.zip_nil_right, List.zip_nil_left, List.foldl_cons, List.foldl_nil, upd_def, Nat.reduceBEq, bif_t, bif_f, if_true, if_false, Bool.false_eq_true, reduceCtorEq, Nat.reduceEqDiff, ne_eq, not_false_eq_true, not_true_eq_false, decide_true, decide_false, Bool.not_true, Bool.not_false]
  refine then_step rfl ?_
  simp (disch := decide) only [s_expr, exprK_at, s_var, varK_at, s_attr, attrK_at, attrK2_at, s_sub, subK_at, subK2_at, subK3_at, s_ite, iteK_t, iteK_f, s_ret, retK_at, s_ret0, s_pass, runK_some, runK_none, forK_at, turnK_none, turnK_some, whlK_t, whlK_f, tt_not, tt_band, tt_bor, tt_bool, tt_loc, tt_cmp, tt_cmp2, tt_call, tt_meth, tt_isi, tt_attr, tt_sub, tt_bin, tnotF_t, tnotF_f, ta_nil, ta_cons, andF_t, andF_f, to_nil, to_cons, orF_t, orF_f, e_none, e_bool, e_int, e_str, e_loc, e_bin, binF_at, e_not, notF_at, notF2_t, notF2_f, e_band, e_bor, e_cmp, cmpF_at, e_cmp2, cmpG_t, cmpG_f, e_list, listF_at, e_tup, tupF_at, e_dict0, e_attr, attrF_at, e_sub, subF_at, e_slice, e_call, e_meth, methF_at, e_bi, e_isi, isiF_at, boolF_at, e_comp, es_nil, es_cons, consF_at, consF2_at, ok_bind, bindK_at, bind_pure, bind_lift, ok_pure, ok_lift, List.zip_cons_cons, List.zip_nil_right, List.zip_nil_left, List.foldl_cons, List.foldl_nil, upd_def, Nat.reduceBEq, bif_t, bif_f, if_true, if_false, Bool.false_eq_true, reduceCtorEq, Nat.reduceEqDiff, ne_eq, not_false_eq_true, not_true_eq_false, decide_true, decide_false, Bool.not_true, Bool.not_false]
  exact h τ' _ A2 (k1.trans k2) g2
end
end Mine.L03

set_option autoImplicit false
set_option linter.unusedSimpArgs false
set_option linter.unusedVariables false
namespace Mine.L03
open Mine
open PySem (Str PyData)

section
variable {P : Prog} {C : Calls} {F : Nat} {loc : Loc} {σ σ' σ₁ : H} {k : Nat}
noncomputable def ErS (x : Option (R (Option V) × Loc × H)) (k : Nat) (σ' : H) : Prop := ∃ l, x = some (.err k, l, σ')
theorem ers_cons1 {s : St} {ss : Sts} (h : ErS (ex P C F s loc σ) k σ') : ErS (exs P C F (.cons s ss) loc σ) k σ' := by
  obtain ⟨l, h⟩ := h
  refine ⟨l, ?_⟩
  show (match ex P C F s loc σ with | some (.ok none, l₁, h₁) => exs P C F ss l₁ h₁ | r => r) = _
  rw [h]
theorem ers_cons2 {s : St} {ss : Sts} (h : OkS (ex P C F s loc σ) (fun r l σ₁ => r = none ∧ ErS (exs P C F ss l σ₁) k σ')) : ErS (exs P C F (.cons s ss) loc σ) k σ' := by
  obtain ⟨r, l, σ₁, h, rfl, l', h2⟩ := oks_iff.mp h
  refine ⟨l', ?_⟩
  show (match ex P C F s loc σ with | some (.ok none, l₁, h₁) => exs P C F ss l₁ h₁ | r => r) = _
  rw [h]; exact h2
theorem ers_var {e : Ex} {i : Nat} (h : ev P C e loc σ = some (.err k, σ')) : ErS (ex P C F (.asg (.var i) e) loc σ) k σ' := ⟨loc, by
  show onX (ev P C e loc) loc _ σ = _
  unfold onX; rw [h]⟩
theorem ers_ret {e : Ex} (h : ev P C e loc σ = some (.err k, σ')) : ErS (ex P C F (.ret e) loc σ) k σ' := ⟨loc, by
  show onX (ev P C e loc) loc _ σ = _
  unfold onX; rw [h]⟩
theorem ers_ite {c : Ex} {a b : Sts} {t : Bool} (ht : tst P C c loc (ev P C c loc) σ = some (.ok t, σ₁)) (h : ErS (exs P C F (bif t then a else b) loc σ₁) k σ') : ErS (ex P C F (.ite c a b) loc σ) k σ' := by
  obtain ⟨l, h⟩ := h
  refine ⟨l, ?_⟩
  show onX (tst P C c loc (ev P C c loc)) loc _ σ = _
  unfold onX; rw [ht]
  cases t <;> exact h
theorem run_err {d f : Nat} {m : Bool} {args : List V} {fd : FD} (h1 : (if m then P.meths else P.funs).lookup f = some fd) (h2 : args.length = fd.params.length) (h : ErS (exs P (run P F d) F fd.body ((fd.params.zip args).foldl (fun l p => l.upd p.1 p.2) (fun _ => none)) σ) k σ') :
    run P F (d + 1) m f args σ = some (.err k, σ') := by
  obtain ⟨l, h⟩ := h
  unfold run
  rw [h1]
  dsimp only
  rw [if_pos h2, h]
theorem ev_meth {o : Ex} {args : Exs} {i p c dd : Nat} {vs : List V} {es : List (Nat × V)} (ho : ev P C o loc σ = some (.ok (.ref p), σ)) (ha : evs P C args loc σ = some (.ok vs, σ)) (h1 : σ.get p = some (.inst c dd)) (h2 : σ.get dd = some (.attrs es)) (hi : 12 < i) :
    ev P C (.meth o i args) loc σ = C true i (.ref p :: vs) σ := by
  rw [e_meth]
  unfold X.bind
  rw [ho]
  dsimp only
  have hk : kdOf (.ref p) σ = .inst := by unfold kdOf; simp only [h1, h2]
  unfold methX
  rw [hk]
  dsimp only
  rw [if_neg (Nat.not_le_of_lt hi)]
  unfold X.bind
  rw [ha]
theorem s_try_ok {b : Sts} {c : Nat} {r : Ex} {Q : Option V → Loc → H → Prop} (h : OkS (exs P C F b loc σ) Q) : OkS (ex P C F (.try b c r) loc σ) Q := by
  obtain ⟨o, l, σ₁, h, hq⟩ := oks_iff.mp h
  show OkS (tryX (exs P C F b loc σ) c r) Q
  rw [h]; exact hq
theorem s_try_err {b : Sts} {c : Nat} {r : Ex} {v : V} {Q : Option V → Loc → H → Prop} (h : ErS (exs P C F b loc σ) c σ') (hv : kstV r = some v) (hq : ∀ l, Q (some v) l σ') : OkS (ex P C F (.try b c r) loc σ) Q := by
  obtain ⟨l, h⟩ := h
  show OkS (tryX (exs P C F b loc σ) c r) Q
  rw [h]
  unfold tryX
  dsimp only
  rw [if_pos rfl, hv]
  exact hq l
end

section
variable {σ : H} {hs : List (Option Nat)} {r : Nat → List (Option Nat)} {w : Nat → Nat} {q : List Nat} {d : Nat} {Q : V → H → Prop}
theorem handed_ok {k : Nat} {x : Option Nat} (A : Pl σ hs r w q) (h8 : k < 8) (hl : hs.length = 8) (hx : ∀ k, x = some k → k < 2) (ho : ∀ m, (hs[k]?).getD none = some m → m < 2 ∧ 1 < addW w x m) (hq : q.length ≤ 100)
    (h : ∀ σ' f, Pl σ' (hs.set k x) r (subW (addW w x) ((hs[k]?).getD none)) (addQ q ((hs[k]?).getD none)) → Kp σ σ' → σ'.get f = some (.list []) → Q (.ref f) σ') : Ok (run prog 1000 (d + 3) true 32 [.ref 2, .int (k : Int), ov x]) σ Q := by
  rw [ok_run (fd := PP.m_handed) rfl rfl]
  unfold PP.m_handed
  refine oks_step rfl ?_
  simp (disch := decide) only [mx_inst A.p A.d, s_expr, exprK_at, s_var, varK_at, s_attr, attrK_at, attrK2_at, s_sub, subK_at, subK2_at, subK3_at, s_ite, iteK_t, iteK_f, s_ret, retK_at, s_ret0, s_pass, runK_some, runK_none, forK_at, turnK_none, turnK_some, whlK_t, whlK_f, tt_not, tt_band, tt_bor, tt_bool, tt_loc, tt_cmp, tt_cmp2, tt_call, tt_meth, tt_isi, tt_attr, tt_sub, tt_bin, tnotF_t, tnotF_f, ta_nil, ta_cons, andF_t, andF_f, to_nil, to_cons, orF_t, orF_f, e_none, e_bool, e_int, e_str, e_loc, e_bin, binF_at, e_not, notF_at, notF2_t, notF2_f, e_band, e_bor, e_cmp, cmpF_at, e_cmp2, cmpG_t, cmpG_f, e_list, listF_at, e_tup, tupF_at, e_dict0, e_attr, attrF_at, e_sub, subF_at, e_slice, e_call, e_meth, methF_at, e_bi, e_isi, isiF_at, boolF_at, e_comp, es_nil, es_cons, consF_at, consF2_at, ok_bind, bindK_at, bind_pure, bind_lift, ok_pure, ok_lift, List.zip_cons_cons, List.zip_nil_right, List.zip_nil_left, List.foldl_cons, List.foldl_nil, upd_def, Nat.reduceBEq, bif_t, bif_f, if_true, if_false, Bool.false_eq_true, reduceCtorEq, Nat.reduceEqDiff, ne_eq, not_false_eq_true, not_true_eq_false, decide_true, decide_false, Bool.not_true, Bool.not_false]
  refine counted_ok A hx fun σ1 A1 k1 => ?_
  refine then_step rfl ?_
  simp (disch := decide) only [ok_getAttr A1.p A1.d (n := 47) (v := .ref 4) rfl, ok_getList A1.h (Int.natCast_nonneg _) (ov_at (show k < hs.length by lia)), s_expr, exprK_at, s_var, varK_at, s_attr, attrK_at, attrK2_at, s_sub, subK_at, subK2_at, subK3_at, s_ite, iteK_t, iteK_f, s_ret, retK_at, s_ret0, s_pass, runK_some, runK_none, forK_at, turnK_none, turnK_some, whlK_t, whlK_f, tt_not, tt_band, tt_bor, tt_bool, tt_loc, tt_cmp, tt_cmp2, tt_call, tt_meth, tt_isi, tt_attr, tt_sub, tt_bin, tnotF_t, tnotF_f, ta_nil, ta_cons, andF_t, andF_f, to_nil, to_cons, orF_t, orF_f, e_none, e_bool, e_int, e_str, e_loc, e_bin, binF_at, e_not, notF_at, notF2_t, notF2_f, e_band, e_bor, e_cmp, cmpF_at, e_cmp2, cmpG_t, cmpG_f, e_list, listF_at, e_tup, tupF_at, e_dict0, e_attr, attrF_at, e_sub, subF_at, e_slice, e_call, e_meth, methF_at, e_bi, e_isi, isiF_at, boolF_at, e_comp, es_nil, es_cons, consF_at, consF2_at, ok_bind, bindK_at, bind_pure, bind_lift, ok_pure, ok_lift, List.zip_cons_cons, List.zip_nil_right, List.zip_nil_left, List.foldl_cons, List.foldl_nil, upd_def, Nat.reduceBEq, bif_t, bif_f, if_true, if_false, Bool.false_eq_true, reduceCtorEq, Nat.reduceEqDiff, ne_eq, not_false_eq_true, not_true_eq_false, decide_true, decide_false, Bool.not_true, Bool.not_false]
  refine then_step rfl ?_
  simp (disch := decide) only [ok_getAttr A1.p A1.d (n := 47) (v := .ref 4) rfl, ok_setList A1.h (show prog.nf ≤ 4 by decide) (Int.natCast_nonneg _) (lt_ov (show k < hs.length by lia)), set_ov, s_expr, exprK_at, s_var, varK_at, s_attr, attrK_at, attrK2_at, s_sub, subK_at, subK2_at, subK3_at, s_ite, iteK_t, iteK_f, s_ret, retK_at, s_ret0, s_pass, runK_some, runK_none, forK_at, turnK_none, turnK_some, whlK_t, whlK_f, tt_not, tt_band, tt_bor, tt_bool, tt_loc, tt_cmp, tt_cmp2, tt_call, tt_meth, tt_isi, tt_attr, tt_sub, tt_bin, tnotF_t, tnotF_f, ta_nil, ta_cons, andF_t, andF_f, to_nil, to_cons, orF_t, orF_f, e_none, e_bool, e_int, e_str, e_loc, e_bin, binF_at, e_not, notF_at, notF2_t, notF2_f, e_band, e_bor, e_cmp, cmpF_at, e_cmp2, cmpG_t, cmpG_f, e_list, listF_at, e_tup, tupF_at, e_dict0, e_attr, attrF_at, e_sub, subF_at, e_slice, e_call, e_meth, methF_at, e_bi, e_isi, isiF_at, boolF_at, e_comp, es_nil, es_cons, consF_at, consF2_at, ok_bind, bindK_at, bind_pure, bind_lift, ok_pure, ok_lift, List.zip_cons_cons, List.zip_nil_right, List.zip_nil_left, List.foldl_cons, List.foldl_nil, upd_def, Nat.reduceBEq, bif_t, bif_f, if_true, if_false, Bool.false_eq_true, reduceCtorEq, Nat.reduceEqDiff, ne_eq, not_false_eq_true, not_true_eq_false, decide_true, decide_false, Bool.not_true, Bool.not_false]
  refine then_step rfl ?_
  have A2 := A1.setH (hs.set k x)
  have k2 := k1.put (a := 4) rfl (.list ((hs.set k x).map ov))
  generalize σ1.put 4 (.list ((hs.set k x).map ov)) = σ2 at *
  simp (disch := decide) only [mx_inst A2.p A2.d, s_expr, exprK_at, s_var, varK_at, s_attr, attrK_at, attrK2_at, s_sub, subK_at, subK2_at, subK3_at, s_ite, iteK_t, iteK_f, s_ret, retK_at, s_ret0, s_pass, runK_some, runK_none, forK_at, turnK_none, turnK_some, whlK_t, whlK_f, tt_not, tt_band, tt_bor, tt_bool, tt_loc, tt_cmp, tt_cmp2, tt_call, tt_meth, tt_isi, tt_attr, tt_sub, tt_bin, tnotF_t, tnotF_f, ta_nil, ta_cons, andF_t, andF_f, to_nil, to_cons, orF_t, orF_f, e_none, e_bool, e_int, e_str, e_loc, e_bin, binF_at, e_not, notF_at, notF2_t, notF2_f, e_band, e_bor, e_cmp, cmpF_at, e_cmp2, cmpG_t, cmpG_f, e_list, listF_at, e_tup, tupF_at, e_dict0, e_attr, attrF_at, e_sub, subF_at, e_slice, e_call, e_meth, methF_at, e_bi, e_isi, isiF_at, boolF_at, e_comp, es_nil, es_cons, consF_at, consF2_at, ok_bind, bindK_at, bind_pure, bind_lift, ok_pure, ok_lift, List.zip_cons_cons, List.zip_nil_right, List.zip_nil_left, List.foldl_cons, List.foldl_nil, upd_def, Nat.reduceBEq, bif_t, bif_f, if_true, if_false, Bool.false_eq_true, reduceCtorEq, Nat.reduceEqDiff, ne_eq, not_false_eq_true, not_true_eq_false, decide_true, decide_false, Bool.not_true, Bool.not_false]
  exact letgo_ok A2 ho hq fun σ3 f A3 k3 g3 => h σ3 f A3 (k2.trans k3) g3
theorem pointed_ok {b i : Nat} {x : Option Nat} (A : Pl σ hs r w q) (hb : b < 2) (hi : i < (r b).length) (hx : ∀ k, x = some k → k < 2) (ho : ∀ m, ((r b)[i]?).getD none = some m → m < 2 ∧ 1 < addW w x m) (hq : q.length ≤ 100)
    (h : ∀ σ' f, Pl σ' hs (updF r b ((r b).set i x)) (subW (addW w x) (((r b)[i]?).getD none)) (addQ q (((r b)[i]?).getD none)) → Kp σ σ' → σ'.get f = some (.list []) → Q (.ref f) σ') : Ok (run prog 1000 (d + 3) true 33 [.ref 2, .int (b : Int), .int (i : Int), ov x]) σ Q := by
  rw [ok_run (fd := PP.m_pointed) rfl rfl]
  unfold PP.m_pointed
  refine oks_step rfl ?_
  simp (disch := decide) only [mx_inst A.p A.d, s_expr, exprK_at, s_var, varK_at, s_attr, attrK_at, attrK2_at, s_sub, subK_at, subK2_at, subK3_at, s_ite, iteK_t, iteK_f, s_ret, retK_at, s_ret0, s_pass, runK_some, runK_none, forK_at, turnK_none, turnK_some, whlK_t, whlK_f, tt_not, tt_band, tt_bor, tt_bool, tt_loc, tt_cmp, tt_cmp2, tt_call, tt_meth, tt_isi, tt_attr, tt_sub, tt_bin, tnotF_t, tnotF_f, ta_nil, ta_cons, andF_t, andF_f, to_nil, to_cons, orF_t, orF_f, e_none, e_bool, e_int, e_str, e_loc, e_bin, binF_at, e_not, notF_at, notF2_t, notF2_f, e_band, e_bor, e_cmp, cmpF_at, e_cmp2, cmpG_t, cmpG_f, e_list, listF_at, e_tup, tupF_at, e_dict0, e_attr, attrF_at, e_sub, subF_at, e_slice, e_call, e_meth, methF_at, e_bi, e_isi, isiF_at, boolF_at, e_comp, es_nil, es_cons, consF_at, consF2_at, ok_bind, bindK_at, bind_pure, bind_lift, ok_pure, ok_lift, List.zip_cons_cons, List.zip_nil_right, List.zip_nil_left, List.foldl_cons, List.foldl_nil, upd_def, Nat.reduceBEq, bif_t, bif_f, if_true, if_false, Bool.false_eq_true, reduceCtorEq, Nat.reduceEqDiff, ne_eq, not_false_eq_true, not_true_eq_false, decide_true, decide_false, Bool.not_true, Bool.not_false]
  refine counted_ok A hx fun σ1 A1 k1 => ?_
  refine then_step rfl ?_
  have hB := A1.bx b hb
  have nfB : prog.nf ≤ bA b := by unfold bA; cases (b == 0) <;> decide
  simp (disch := decide) only [ok_getAttr A1.p A1.d (n := 48) (v := .ref 5) rfl, ok_getDict A1.b rfl (bD_get hb), ok_getList hB (Int.natCast_nonneg _) (ov_at hi), s_expr, exprK_at, s_var, varK_at, s_attr, attrK_at, attrK2_at, s_sub, subK_at, subK2_at, subK3_at, s_ite, iteK_t, iteK_f, s_ret, retK_at, s_ret0, s_pass, runK_some, runK_none, forK_at, turnK_none, turnK_some, whlK_t, whlK_f, tt_not, tt_band, tt_bor, tt_bool, tt_loc, tt_cmp, tt_cmp2, tt_call, tt_meth, tt_isi, tt_attr, tt_sub, tt_bin, tnotF_t, tnotF_f, ta_nil, ta_cons, andF_t, andF_f, to_nil, to_cons, orF_t, orF_f, e_none, e_bool, e_int, e_str, e_loc, e_bin, binF_at, e_not, notF_at, notF2_t, notF2_f, e_band, e_bor, e_cmp, cmpF_at, e_cmp2, cmpG_t, cmpG_f, e_list, listF_at, e_tup, tupF_at, e_dict0, e_attr, attrF_at, e_sub, subF_at, e_slice, e_call, e_meth, methF_at, e_bi, e_isi, isiF_at, boolF_at, e_comp, es_nil, es_cons, consF_at, consF2_at, ok_bind, bindK_at, bind_pure, bind_lift, ok_pure, ok_lift, List.zip_cons_cons, List.zip_nil_right, List.zip_nil_left, List.foldl_cons, List.foldl_nil, upd_def, Nat.reduceBEq, bif_t, bif_f, if_true, if_false, Bool.false_eq_true, reduceCtorEq, Nat.reduceEqDiff, ne_eq, not_false_eq_true, not_true_eq_false, decide_true, decide_false, Bool.not_true, Bool.not_false]
  refine then_step rfl ?_
  simp (disch := decide) only [ok_getAttr A1.p A1.d (n := 48) (v := .ref 5) rfl, ok_getDict A1.b rfl (bD_get hb), ok_setList hB nfB (Int.natCast_nonneg _) (lt_ov hi), set_ov, s_expr, exprK_at, s_var, varK_at, s_attr, attrK_at, attrK2_at, s_sub, subK_at, subK2_at, subK3_at, s_ite, iteK_t, iteK_f, s_ret, retK_at, s_ret0, s_pass, runK_some, runK_none, forK_at, turnK_none, turnK_some, whlK_t, whlK_f, tt_not, tt_band, tt_bor, tt_bool, tt_loc, tt_cmp, tt_cmp2, tt_call, tt_meth, tt_isi, tt_attr, tt_sub, tt_bin, tnotF_t, tnotF_f, ta_nil, ta_cons, andF_t, andF_f, to_nil, to_cons, orF_t, orF_f, e_none, e_bool, e_int, e_str, e_loc, e_bin, binF_at, e_not, notF_at, notF2_t, notF2_f, e_band, e_bor, e_cmp, cmpF_at, e_cmp2, cmpG_t, cmpG_f, e_list, listF_at, e_tup, tupF_at, e_dict0, e_attr, attrF_at, e_sub, subF_at, e_slice, e_call, e_meth, methF_at, e_bi, e_isi, isiF_at, boolF_at, e_comp, es_nil, es_cons, consF_at, consF2_at, ok_bind, bindK_at, bind_pure, bind_lift, ok_pure, ok_lift, List.zip_cons_cons, List.zip_nil_right, List.zip_nil_left, List.foldl_cons, List.foldl_nil, upd_def, Nat.reduceBEq, bif_t, bif_f, if_true, if_false, Bool.false_eq_true, reduceCtorEq, Nat.reduceEqDiff, ne_eq, not_false_eq_true, not_true_eq_false, decide_true, decide_false, Bool.not_true, Bool.not_false]
  refine then_step rfl ?_
  have A2 := A1.setB hb ((r b).set i x)
  have k2 := k1.put (ow_bA hb) (.list (((r b).set i x).map ov))
  generalize σ1.put (bA b) (.list (((r b).set i x).map ov)) = σ2 at *
  simp (disch := decide) only [mx_inst A2.p A2.d, s_expr, exprK_at, s_var, varK_at, s_attr, attrK_at, attrK2_at, s_sub, subK_at, subK2_at, subK3_at, s_ite, iteK_t, iteK_f, s_ret, retK_at, s_ret0, s_pass, runK_some, runK_none, forK_at, turnK_none, turnK_some, whlK_t, whlK_f, tt_not, tt_band, tt_bor, tt_bool, tt_loc, tt_cmp, tt_cmp2, tt_call, tt_meth, tt_isi, tt_attr, tt_sub, tt_bin, tnotF_t, tnotF_f, ta_nil, ta_cons, andF_t, andF_f, to_nil, to_cons, orF_t, orF_f, e_none, e_bool, e_int, e_str, e_loc, e_bin, binF_at, e_not, notF_at, notF2_t, notF2_f, e_band, e_bor, e_cmp, cmpF_at, e_cmp2, cmpG_t, cmpG_f, e_list, listF_at, e_tup, tupF_at, e_dict0, e_attr, attrF_at, e_sub, subF_at, e_slice, e_call, e_meth, methF_at, e_bi, e_isi, isiF_at, boolF_at, e_comp, es_nil, es_cons, consF_at, consF2_at, ok_bind, bindK_at, bind_pure, bind_lift, ok_pure, ok_lift, List.zip_cons_cons, List.zip_nil_right, List.zip_nil_left, List.foldl_cons, List.foldl_nil, upd_def, Nat.reduceBEq, bif_t, bif_f, if_true, if_false, Bool.false_eq_true, reduceCtorEq, Nat.reduceEqDiff, ne_eq, not_false_eq_true, not_true_eq_false, decide_true, decide_false, Bool.not_true, Bool.not_false]
  exact letgo_ok A2 ho hq fun σ3 f A3 k3 g3 => h σ3 f A3 (k2.trans k3) g3
theorem slot_ok {k i b : Nat} (A : Pl σ hs r w q) (h8 : k < hs.length) (hk : (hs[k]?).getD none = some b) (hb : b < 2) (hi : i < (r b).length) (h : Q (.int (b : Int)) σ) : Ok (run prog 1000 (d + 1) true 28 [.ref 2, .int (k : Int), .int (i : Int)]) σ Q := by
  rw [ok_run (fd := PP.m_box_with_slot) rfl rfl]
  have hv := ov_at h8
  rw [hk] at hv
  have h0' : (0 : Int) ≤ (i : Int) := Int.natCast_nonneg _
  have h1' := lt_ov hi
  simp (disch := decide) only [PP.m_box_with_slot, ok_getAttr A.p A.d (n := 47) (v := .ref 4) rfl, ok_getList A.h (Int.natCast_nonneg _) hv, ov, ok_is, ok_truthb, ok_getAttr A.p A.d (n := 48) (v := .ref 5) rfl, ok_getDict A.b rfl (bD_get hb), ok_lenL (A.bx b hb), ok_le, ok_lt, h0', h1', oks_cons, oks_nil, then_none, then_some, s_expr, exprK_at, s_var, varK_at, s_attr, attrK_at, attrK2_at, s_sub, subK_at, subK2_at, subK3_at, s_ite, iteK_t, iteK_f, s_ret, retK_at, s_ret0, s_pass, runK_some, runK_none, forK_at, turnK_none, turnK_some, whlK_t, whlK_f, tt_not, tt_band, tt_bor, tt_bool, tt_loc, tt_cmp, tt_cmp2, tt_call, tt_meth, tt_isi, tt_attr, tt_sub, tt_bin, tnotF_t, tnotF_f, ta_nil, ta_cons, andF_t, andF_f, to_nil, to_cons, orF_t, orF_f, e_none, e_bool, e_int, e_str, e_loc, e_bin, binF_at, e_not, notF_at, notF2_t, notF2_f, e_band, e_bor, e_cmp, cmpF_at, e_cmp2, cmpG_t, cmpG_f, e_list, listF_at, e_tup, tupF_at, e_dict0, e_attr, attrF_at, e_sub, subF_at, e_slice, e_call, e_meth, methF_at, e_bi, e_isi, isiF_at, boolF_at, e_comp, es_nil, es_cons, consF_at, consF2_at, ok_bind, bindK_at, bind_pure, bind_lift, ok_pure, ok_lift, List.zip_cons_cons, List.zip_nil_right, List.zip_nil_left, List.foldl_cons, List.foldl_nil, upd_def, Nat.reduceBEq, bif_t, bif_f, if_true, if_false, Bool.false_eq_true, reduceCtorEq, Nat.reduceEqDiff, ne_eq, not_false_eq_true, not_true_eq_false, decide_true, decide_false, Bool.not_true, Bool.not_false]
  exact h
theorem slot_bad {k i b : Nat} (A : Pl σ hs r w q) (h8 : k < hs.length) (hk : (hs[k]?).getD none = some b) (hb : b < 2) (hi : (r b).length ≤ i) : run prog 1000 (d + 1) true 28 [.ref 2, .int (k : Int), .int (i : Int)] σ = some (.err 85, σ) := by
  refine run_err (fd := PP.m_box_with_slot) rfl rfl ?_
  have hv := ov_at h8
  rw [hk] at hv
  have h0' : (0 : Int) ≤ (i : Int) := Int.natCast_nonneg _
  have h1' : ¬ ((i : Int) < (((r b).map ov).length : Int)) := by rw [List.length_map]; lia
  unfold PP.m_box_with_slot
  refine ers_cons2 ?_
  simp (disch := decide) only [ok_getAttr A.p A.d (n := 47) (v := .ref 4) rfl, ok_getList A.h (Int.natCast_nonneg _) hv, ov, oks_cons, oks_nil, then_none, then_some, s_expr, exprK_at, s_var, varK_at, s_attr, attrK_at, attrK2_at, s_sub, subK_at, subK2_at, subK3_at, s_ite, iteK_t, iteK_f, s_ret, retK_at, s_ret0, s_pass, runK_some, runK_none, forK_at, turnK_none, turnK_some, whlK_t, whlK_f, tt_not, tt_band, tt_bor, tt_bool, tt_loc, tt_cmp, tt_cmp2, tt_call, tt_meth, tt_isi, tt_attr, tt_sub, tt_bin, tnotF_t, tnotF_f, ta_nil, ta_cons, andF_t, andF_f, to_nil, to_cons, orF_t, orF_f, e_none, e_bool, e_int, e_str, e_loc, e_bin, binF_at, e_not, notF_at, notF2_t, notF2_f, e_band, e_bor, e_cmp, cmpF_at, e_cmp2, cmpG_t, cmpG_f, e_list, listF_at, e_tup, tupF_at, e_dict0, e_attr, attrF_at, e_sub, subF_at, e_slice, e_call, e_meth, methF_at, e_bi, e_isi, isiF_at, boolF_at, e_comp, es_nil, es_cons, consF_at, consF2_at, ok_bind, bindK_at, bind_pure, bind_lift, ok_pure, ok_lift, List.zip_cons_cons, List.zip_nil_right, List.zip_nil_left, List.foldl_cons, List.foldl_nil, upd_def, Nat.reduceBEq, bif_t, bif_f, if_true, if_false, Bool.false_eq_true, reduceCtorEq, Nat.reduceEqDiff, ne_eq, not_false_eq_true, not_true_eq_false, decide_true, decide_false, Bool.not_true, Bool.not_false]
  refine ⟨trivial, ers_cons2 ?_⟩
  simp (disch := decide) only [ok_is, ok_truthb, oks_cons, oks_nil, then_none, then_some, s_expr, exprK_at, s_var, varK_at, s_attr, attrK_at, attrK2_at, s_sub, subK_at, subK2_at, subK3_at, s_ite, iteK_t, iteK_f, s_ret, retK_at, s_ret0, s_pass, runK_some, runK_none, forK_at, turnK_none, turnK_some, whlK_t, whlK_f, tt_not, tt_band, tt_bor, tt_bool, tt_loc, tt_cmp, tt_cmp2, tt_call, tt_meth, tt_isi, tt_attr, tt_sub, tt_bin, tnotF_t, tnotF_f, ta_nil, ta_cons, andF_t, andF_f, to_nil, to_cons, orF_t, orF_f, e_none, e_bool, e_int, e_str, e_loc, e_bin, binF_at, e_not, notF_at, notF2_t, notF2_f, e_band, e_bor, e_cmp, cmpF_at, e_cmp2, cmpG_t, cmpG_f, e_list, listF_at, e_tup, tupF_at, e_dict0, e_attr, attrF_at, e_sub, subF_at, e_slice, e_call, e_meth, methF_at, e_bi, e_isi, isiF_at, boolF_at, e_comp, es_nil, es_cons, consF_at, consF2_at, ok_bind, bindK_at, bind_pure, bind_lift, ok_pure, ok_lift, List.zip_cons_cons, List.zip_nil_right, List.zip_nil_left, List.foldl_cons, List.foldl_nil, upd_def, Nat.reduceBEq, bif_t, bif_f, if_true, if_false, Bool.false_eq_true, reduceCtorEq, Nat.reduceEqDiff, ne_eq, not_false_eq_true, not_true_eq_false, decide_true, decide_false, Bool.not_true, Bool.not_false]
  refine ⟨trivial, ers_cons1 (ers_ite (t := true) (σ₁ := σ) (ok_eq ?_) (ers_cons1 ⟨_, rfl⟩))⟩
  simp (disch := decide) only [ok_getAttr A.p A.d (n := 48) (v := .ref 5) rfl, ok_getDict A.b rfl (bD_get hb), ok_lenL (A.bx b hb), ok_le, ok_lt, ok_truthb, h0', h1', oks_cons, oks_nil, then_none, then_some, s_expr, exprK_at, s_var, varK_at, s_attr, attrK_at, attrK2_at, s_sub, subK_at, subK2_at, subK3_at, s_ite, iteK_t, iteK_f, s_ret, retK_at, s_ret0, s_pass, runK_some, runK_none, forK_at, turnK_none, turnK_some, whlK_t, whlK_f, tt_not, tt_band, tt_bor, tt_bool, tt_loc, tt_cmp, tt_cmp2, tt_call, tt_meth, tt_isi, tt_attr, tt_sub, tt_bin, tnotF_t, tnotF_f, ta_nil, ta_cons, andF_t, andF_f, to_nil, to_cons, orF_t, orF_f, e_none, e_bool, e_int, e_str, e_loc, e_bin, binF_at, e_not, notF_at, notF2_t, notF2_f, e_band, e_bor, e_cmp, cmpF_at, e_cmp2, cmpG_t, cmpG_f, e_list, listF_at, e_tup, tupF_at, e_dict0, e_attr, attrF_at, e_sub, subF_at, e_slice, e_call, e_meth, methF_at, e_bi, e_isi, isiF_at, boolF_at, e_comp, es_nil, es_cons, consF_at, consF2_at, ok_bind, bindK_at, bind_pure, bind_lift, ok_pure, ok_lift, List.zip_cons_cons, List.zip_nil_right, List.zip_nil_left, List.foldl_cons, List.foldl_nil, upd_def, Nat.reduceBEq, bif_t, bif_f, if_true, if_false, Bool.false_eq_true, reduceCtorEq, Nat.reduceEqDiff, ne_eq, not_false_eq_true, not_true_eq_false, decide_true, decide_false, Bool.not_true, Bool.not_false]
  exact ⟨trivial, trivial⟩
theorem put_ok {k i j b : Nat} (A : Pl σ hs r w q) (hl : hs.length = 8) (h8 : k < 8) (hj : j < 8) (hk : (hs[k]?).getD none = some b) (hb : b < 2) (hi : i < (r b).length) (hx : ∀ k, (hs[j]?).getD none = some k → k < 2) (ho : ∀ m, ((r b)[i]?).getD none = some m → m < 2 ∧ 1 < addW w ((hs[j]?).getD none) m) (hq : q.length ≤ 100)
    (h : ∀ σ' f, Pl σ' hs (updF r b ((r b).set i ((hs[j]?).getD none))) (subW (addW w ((hs[j]?).getD none)) (((r b)[i]?).getD none)) (addQ q (((r b)[i]?).getD none)) → Kp σ σ' → σ'.get f = some (.list []) → Q (.ref f) σ') : Ok (run prog 1000 (d + 4) true 37 [.ref 2, .int (k : Int), .int (i : Int), .int (j : Int)]) σ Q := by
  rw [ok_run (fd := PP.m_put) rfl rfl]
  simp (disch := decide) only [PP.m_put, mx_inst A.p A.d, oks_cons, oks_nil, then_none, then_some, s_expr, exprK_at, s_var, varK_at, s_attr, attrK_at, attrK2_at, s_sub, subK_at, subK2_at, subK3_at, s_ite, iteK_t, iteK_f, s_ret, retK_at, s_ret0, s_pass, runK_some, runK_none, forK_at, turnK_none, turnK_some, whlK_t, whlK_f, tt_not, tt_band, tt_bor, tt_bool, tt_loc, tt_cmp, tt_cmp2, tt_call, tt_meth, tt_isi, tt_attr, tt_sub, tt_bin, tnotF_t, tnotF_f, ta_nil, ta_cons, andF_t, andF_f, to_nil, to_cons, orF_t, orF_f, e_none, e_bool, e_int, e_str, e_loc, e_bin, binF_at, e_not, notF_at, notF2_t, notF2_f, e_band, e_bor, e_cmp, cmpF_at, e_cmp2, cmpG_t, cmpG_f, e_list, listF_at, e_tup, tupF_at, e_dict0, e_attr, attrF_at, e_sub, subF_at, e_slice, e_call, e_meth, methF_at, e_bi, e_isi, isiF_at, boolF_at, e_comp, es_nil, es_cons, consF_at, consF2_at, ok_bind, bindK_at, bind_pure, bind_lift, ok_pure, ok_lift, List.zip_cons_cons, List.zip_nil_right, List.zip_nil_left, List.foldl_cons, List.foldl_nil, upd_def, Nat.reduceBEq, bif_t, bif_f, if_true, if_false, Bool.false_eq_true, reduceCtorEq, Nat.reduceEqDiff, ne_eq, not_false_eq_true, not_true_eq_false, decide_true, decide_false, Bool.not_true, Bool.not_false]
  refine need_hand_ok h8 ?_
  simp (disch := decide) only [mx_inst A.p A.d, oks_cons, oks_nil, then_none, then_some, s_expr, exprK_at, s_var, varK_at, s_attr, attrK_at, attrK2_at, s_sub, subK_at, subK2_at, subK3_at, s_ite, iteK_t, iteK_f, s_ret, retK_at, s_ret0, s_pass, runK_some, runK_none, forK_at, turnK_none, turnK_some, whlK_t, whlK_f, tt_not, tt_band, tt_bor, tt_bool, tt_loc, tt_cmp, tt_cmp2, tt_call, tt_meth, tt_isi, tt_attr, tt_sub, tt_bin, tnotF_t, tnotF_f, ta_nil, ta_cons, andF_t, andF_f, to_nil, to_cons, orF_t, orF_f, e_none, e_bool, e_int, e_str, e_loc, e_bin, binF_at, e_not, notF_at, notF2_t, notF2_f, e_band, e_bor, e_cmp, cmpF_at, e_cmp2, cmpG_t, cmpG_f, e_list, listF_at, e_tup, tupF_at, e_dict0, e_attr, attrF_at, e_sub, subF_at, e_slice, e_call, e_meth, methF_at, e_bi, e_isi, isiF_at, boolF_at, e_comp, es_nil, es_cons, consF_at, consF2_at, ok_bind, bindK_at, bind_pure, bind_lift, ok_pure, ok_lift, List.zip_cons_cons, List.zip_nil_right, List.zip_nil_left, List.foldl_cons, List.foldl_nil, upd_def, Nat.reduceBEq, bif_t, bif_f, if_true, if_false, Bool.false_eq_true, reduceCtorEq, Nat.reduceEqDiff, ne_eq, not_false_eq_true, not_true_eq_false, decide_true, decide_false, Bool.not_true, Bool.not_false]
  refine need_hand_ok hj ?_
  simp (disch := decide) only [mx_inst A.p A.d, oks_cons, oks_nil, then_none, then_some, s_expr, exprK_at, s_var, varK_at, s_attr, attrK_at, attrK2_at, s_sub, subK_at, subK2_at, subK3_at, s_ite, iteK_t, iteK_f, s_ret, retK_at, s_ret0, s_pass, runK_some, runK_none, forK_at, turnK_none, turnK_some, whlK_t, whlK_f, tt_not, tt_band, tt_bor, tt_bool, tt_loc, tt_cmp, tt_cmp2, tt_call, tt_meth, tt_isi, tt_attr, tt_sub, tt_bin, tnotF_t, tnotF_f, ta_nil, ta_cons, andF_t, andF_f, to_nil, to_cons, orF_t, orF_f, e_none, e_bool, e_int, e_str, e_loc, e_bin, binF_at, e_not, notF_at, notF2_t, notF2_f, e_band, e_bor, e_cmp, cmpF_at, e_cmp2, cmpG_t, cmpG_f, e_list, listF_at, e_tup, tupF_at, e_dict0, e_attr, attrF_at, e_sub, subF_at, e_slice, e_call, e_meth, methF_at, e_bi, e_isi, isiF_at, boolF_at, e_comp, es_nil, es_cons, consF_at, consF2_at, ok_bind, bindK_at, bind_pure, bind_lift, ok_pure, ok_lift, List.zip_cons_cons, List.zip_nil_right, List.zip_nil_left, List.foldl_cons, List.foldl_nil, upd_def, Nat.reduceBEq, bif_t, bif_f, if_true, if_false, Bool.false_eq_true, reduceCtorEq, Nat.reduceEqDiff, ne_eq, not_false_eq_true, not_true_eq_false, decide_true, decide_false, Bool.not_true, Bool.not_false]
  refine slot_ok A (by lia) hk hb hi ?_
  simp (disch := decide) only [mx_inst A.p A.d, ok_getAttr A.p A.d (n := 47) (v := .ref 4) rfl, ok_getList A.h (Int.natCast_nonneg _) (ov_at (show j < hs.length by lia)), oks_cons, oks_nil, then_none, then_some, s_expr, exprK_at, s_var, varK_at, s_attr, attrK_at, attrK2_at, s_sub, subK_at, subK2_at, subK3_at, s_ite, iteK_t, iteK_f, s_ret, retK_at, s_ret0, s_pass, runK_some, runK_none, forK_at, turnK_none, turnK_some, whlK_t, whlK_f, tt_not, tt_band, tt_bor, tt_bool, tt_loc, tt_cmp, tt_cmp2, tt_call, tt_meth, tt_isi, tt_attr, tt_sub, tt_bin, tnotF_t, tnotF_f, ta_nil, ta_cons, andF_t, andF_f, to_nil, to_cons, orF_t, orF_f, e_none, e_bool, e_int, e_str, e_loc, e_bin, binF_at, e_not, notF_at, notF2_t, notF2_f, e_band, e_bor, e_cmp, cmpF_at, e_cmp2, cmpG_t, cmpG_f, e_list, listF_at, e_tup, tupF_at, e_dict0, e_attr, attrF_at, e_sub, subF_at, e_slice, e_call, e_meth, methF_at, e_bi, e_isi, isiF_at, boolF_at, e_comp, es_nil, es_cons, consF_at, consF2_at, ok_bind, bindK_at, bind_pure, bind_lift, ok_pure, ok_lift, List.zip_cons_cons, List.zip_nil_right, List.zip_nil_left, List.foldl_cons, List.foldl_nil, upd_def, Nat.reduceBEq, bif_t, bif_f, if_true, if_false, Bool.false_eq_true, reduceCtorEq, Nat.reduceEqDiff, ne_eq, not_false_eq_true, not_true_eq_false, decide_true, decide_false, Bool.not_true, Bool.not_false]
  exact pointed_ok A hb hi hx ho hq h
theorem empty_ok {k i b : Nat} (A : Pl σ hs r w q) (hl : hs.length = 8) (h8 : k < 8) (hk : (hs[k]?).getD none = some b) (hb : b < 2) (hi : i < (r b).length) (ho : ∀ m, ((r b)[i]?).getD none = some m → m < 2 ∧ 1 < w m) (hq : q.length ≤ 100)
    (h : ∀ σ' f, Pl σ' hs (updF r b ((r b).set i none)) (subW w (((r b)[i]?).getD none)) (addQ q (((r b)[i]?).getD none)) → Kp σ σ' → σ'.get f = some (.list []) → Q (.ref f) σ') : Ok (run prog 1000 (d + 4) true 38 [.ref 2, .int (k : Int), .int (i : Int)]) σ Q := by
  rw [ok_run (fd := PP.m_empty) rfl rfl]
  simp (disch := decide) only [PP.m_empty, mx_inst A.p A.d, oks_cons, oks_nil, then_none, then_some, s_expr, exprK_at, s_var, varK_at, s_attr, attrK_at, attrK2_at, s_sub, subK_at, subK2_at, subK3_at, s_ite, iteK_t, iteK_f, s_ret, retK_at, s_ret0, s_pass, runK_some, runK_none, forK_at, turnK_none, turnK_some, whlK_t, whlK_f, tt_not, tt_band, tt_bor, tt_bool, tt_loc, tt_cmp, tt_cmp2, tt_call, tt_meth, tt_isi, tt_attr, tt_sub, tt_bin, tnotF_t, tnotF_f, ta_nil, ta_cons, andF_t, andF_f, to_nil, to_cons, orF_t, orF_f, e_none, e_bool, e_int, e_str, e_loc, e_bin, binF_at, e_not, notF_at, notF2_t, notF2_f, e_band, e_bor, e_cmp, cmpF_at, e_cmp2, cmpG_t, cmpG_f, e_list, listF_at, e_tup, tupF_at, e_dict0, e_attr, attrF_at, e_sub, subF_at, e_slice, e_call, e_meth, methF_at, e_bi, e_isi, isiF_at, boolF_at, e_comp, es_nil, es_cons, consF_at, consF2_at, ok_bind, bindK_at, bind_pure, bind_lift, ok_pure, ok_lift, List.zip_cons_cons, List.zip_nil_right, List.zip_nil_left, List.foldl_cons, List.foldl_nil, upd_def, Nat.reduceBEq, bif_t, bif_f, if_true, if_false, Bool.false_eq_true, reduceCtorEq, Nat.reduceEqDiff, ne_eq, not_false_eq_true, not_true_eq_false, decide_true, decide_false, Bool.not_true, Bool.not_false]
  refine need_hand_ok h8 ?_
  simp (disch := decide) only [mx_inst A.p A.d, oks_cons, oks_nil, then_none, then_some, s_expr, exprK_at, s_var, varK_at, s_attr, attrK_at, attrK2_at, s_sub, subK_at, subK2_at, subK3_at, s_ite, iteK_t, iteK_f, s_ret, retK_at, s_ret0, s_pass, runK_some, runK_none, forK_at, turnK_none, turnK_some, whlK_t, whlK_f, tt_not, tt_band, tt_bor, tt_bool, tt_loc, tt_cmp, tt_cmp2, tt_call, tt_meth, tt_isi, tt_attr, tt_sub, tt_bin, tnotF_t, tnotF_f, ta_nil, ta_cons, andF_t, andF_f, to_nil, to_cons, orF_t, orF_f, e_none, e_bool, e_int, e_str, e_loc, e_bin, binF_at, e_not, notF_at, notF2_t, notF2_f, e_band, e_bor, e_cmp, cmpF_at, e_cmp2, cmpG_t, cmpG_f, e_list, listF_at, e_tup, tupF_at, e_dict0, e_attr, attrF_at, e_sub, subF_at, e_slice, e_call, e_meth, methF_at, e_bi, e_isi, isiF_at, boolF_at, e_comp, es_nil, es_cons, consF_at, consF2_at, ok_bind, bindK_at, bind_pure, bind_lift, ok_pure, ok_lift, List.zip_cons_cons, List.zip_nil_right, List.zip_nil_left, List.foldl_cons, List.foldl_nil, upd_def, Nat.reduceBEq, bif_t, bif_f, if_true, if_false, Bool.false_eq_true, reduceCtorEq, Nat.reduceEqDiff, ne_eq, not_false_eq_true, not_true_eq_false, decide_true, decide_false, Bool.not_true, Bool.not_false]
  refine slot_ok A (by lia) hk hb hi ?_
  simp (disch := decide) only [mx_inst A.p A.d, oks_cons, oks_nil, then_none, then_some, s_expr, exprK_at, s_var, varK_at, s_attr, attrK_at, attrK2_at, s_sub, subK_at, subK2_at, subK3_at, s_ite, iteK_t, iteK_f, s_ret, retK_at, s_ret0, s_pass, runK_some, runK_none, forK_at, turnK_none, turnK_some, whlK_t, whlK_f, tt_not, tt_band, tt_bor, tt_bool, tt_loc, tt_cmp, tt_cmp2, tt_call, tt_meth, tt_isi, tt_attr, tt_sub, tt_bin, tnotF_t, tnotF_f, ta_nil, ta_cons, andF_t, andF_f, to_nil, to_cons, orF_t, orF_f, e_none, e_bool, e_int, e_str, e_loc, e_bin, binF_at, e_not, notF_at, notF2_t, notF2_f, e_band, e_bor, e_cmp, cmpF_at, e_cmp2, cmpG_t, cmpG_f, e_list, listF_at, e_tup, tupF_at, e_dict0, e_attr, attrF_at, e_sub, subF_at, e_slice, e_call, e_meth, methF_at, e_bi, e_isi, isiF_at, boolF_at, e_comp, es_nil, es_cons, consF_at, consF2_at, ok_bind, bindK_at, bind_pure, bind_lift, ok_pure, ok_lift, List.zip_cons_cons, List.zip_nil_right, List.zip_nil_left, List.foldl_cons, List.foldl_nil, upd_def, Nat.reduceBEq, bif_t, bif_f, if_true, if_false, Bool.false_eq_true, reduceCtorEq, Nat.reduceEqDiff, ne_eq, not_false_eq_true, not_true_eq_false, decide_true, decide_false, Bool.not_true, Bool.not_false]
  exact pointed_ok (x := none) A hb hi (fun k e => by cases e) ho hq h
theorem take_ok {k i j b : Nat} (A : Pl σ hs r w q) (hl : hs.length = 8) (h8 : k < 8) (hj : j < 8) (hk : (hs[j]?).getD none = some b) (hb : b < 2) (hi : i < (r b).length) (hx : ∀ k, ((r b)[i]?).getD none = some k → k < 2) (ho : ∀ m, (hs[k]?).getD none = some m → m < 2 ∧ 1 < addW w (((r b)[i]?).getD none) m) (hq : q.length ≤ 100)
    (h : ∀ σ' f, Pl σ' (hs.set k (((r b)[i]?).getD none)) r (subW (addW w (((r b)[i]?).getD none)) ((hs[k]?).getD none)) (addQ q ((hs[k]?).getD none)) → Kp σ σ' → σ'.get f = some (.list []) → Q (.ref f) σ') : Ok (run prog 1000 (d + 4) true 39 [.ref 2, .int (k : Int), .int (j : Int), .int (i : Int)]) σ Q := by
  rw [ok_run (fd := PP.m_take) rfl rfl]
  simp (disch := decide) only [PP.m_take, mx_inst A.p A.d, oks_cons, oks_nil, then_none, then_some, s_expr, exprK_at, s_var, varK_at, s_attr, attrK_at, attrK2_at, s_sub, subK_at, subK2_at, subK3_at, s_ite, iteK_t, iteK_f, s_ret, retK_at, s_ret0, s_pass, runK_some, runK_none, forK_at, turnK_none, turnK_some, whlK_t, whlK_f, tt_not, tt_band, tt_bor, tt_bool, tt_loc, tt_cmp, tt_cmp2, tt_call, tt_meth, tt_isi, tt_attr, tt_sub, tt_bin, tnotF_t, tnotF_f, ta_nil, ta_cons, andF_t, andF_f, to_nil, to_cons, orF_t, orF_f, e_none, e_bool, e_int, e_str, e_loc, e_bin, binF_at, e_not, notF_at, notF2_t, notF2_f, e_band, e_bor, e_cmp, cmpF_at, e_cmp2, cmpG_t, cmpG_f, e_list, listF_at, e_tup, tupF_at, e_dict0, e_attr, attrF_at, e_sub, subF_at, e_slice, e_call, e_meth, methF_at, e_bi, e_isi, isiF_at, boolF_at, e_comp, es_nil, es_cons, consF_at, consF2_at, ok_bind, bindK_at, bind_pure, bind_lift, ok_pure, ok_lift, List.zip_cons_cons, List.zip_nil_right, List.zip_nil_left, List.foldl_cons, List.foldl_nil, upd_def, Nat.reduceBEq, bif_t, bif_f, if_true, if_false, Bool.false_eq_true, reduceCtorEq, Nat.reduceEqDiff, ne_eq, not_false_eq_true, not_true_eq_false, decide_true, decide_false, Bool.not_true, Bool.not_false]
  refine need_hand_ok h8 ?_
  simp (disch := decide) only [mx_inst A.p A.d, oks_cons, oks_nil, then_none, then_some, s_expr, exprK_at, s_var, varK_at, s_attr, attrK_at, attrK2_at, s_sub, subK_at, subK2_at, subK3_at, s_ite, iteK_t, iteK_f, s_ret, retK_at, s_ret0, s_pass, runK_some, runK_none, forK_at, turnK_none, turnK_some, whlK_t, whlK_f, tt_not, tt_band, tt_bor, tt_bool, tt_loc, tt_cmp, tt_cmp2, tt_call, tt_meth, tt_isi, tt_attr, tt_sub, tt_bin, tnotF_t, tnotF_f, ta_nil, ta_cons, andF_t, andF_f, to_nil, to_cons, orF_t, orF_f, e_none, e_bool, e_int, e_str, e_loc, e_bin, binF_at, e_not, notF_at, notF2_t, notF2_f, e_band, e_bor, e_cmp, cmpF_at, e_cmp2, cmpG_t, cmpG_f, e_list, listF_at, e_tup, tupF_at, e_dict0, e_attr, attrF_at, e_sub, subF_at, e_slice, e_call, e_meth, methF_at, e_bi, e_isi, isiF_at, boolF_at, e_comp, es_nil, es_cons, consF_at, consF2_at, ok_bind, bindK_at, bind_pure, bind_lift, ok_pure, ok_lift, List.zip_cons_cons, List.zip_nil_right, List.zip_nil_left, List.foldl_cons, List.foldl_nil, upd_def, Nat.reduceBEq, bif_t, bif_f, if_true, if_false, Bool.false_eq_true, reduceCtorEq, Nat.reduceEqDiff, ne_eq, not_false_eq_true, not_true_eq_false, decide_true, decide_false, Bool.not_true, Bool.not_false]
  refine need_hand_ok hj ?_
  simp (disch := decide) only [mx_inst A.p A.d, oks_cons, oks_nil, then_none, then_some, s_expr, exprK_at, s_var, varK_at, s_attr, attrK_at, attrK2_at, s_sub, subK_at, subK2_at, subK3_at, s_ite, iteK_t, iteK_f, s_ret, retK_at, s_ret0, s_pass, runK_some, runK_none, forK_at, turnK_none, turnK_some, whlK_t, whlK_f, tt_not, tt_band, tt_bor, tt_bool, tt_loc, tt_cmp, tt_cmp2, tt_call, tt_meth, tt_isi, tt_attr, tt_sub, tt_bin, tnotF_t, tnotF_f, ta_nil, ta_cons, andF_t, andF_f, to_nil, to_cons, orF_t, orF_f, e_none, e_bool, e_int, e_str, e_loc, e_bin, binF_at, e_not, notF_at, notF2_t, notF2_f, e_band, e_bor, e_cmp, cmpF_at, e_cmp2, cmpG_t, cmpG_f, e_list, listF_at, e_tup, tupF_at, e_dict0, e_attr, attrF_at, e_sub, subF_at, e_slice, e_call, e_meth, methF_at, e_bi, e_isi, isiF_at, boolF_at, e_comp, es_nil, es_cons, consF_at, consF2_at, ok_bind, bindK_at, bind_pure, bind_lift, ok_pure, ok_lift, List.zip_cons_cons, List.zip_nil_right, List.zip_nil_left, List.foldl_cons, List.foldl_nil, upd_def, Nat.reduceBEq, bif_t, bif_f, if_true, if_false, Bool.false_eq_true, reduceCtorEq, Nat.reduceEqDiff, ne_eq, not_false_eq_true, not_true_eq_false, decide_true, decide_false, Bool.not_true, Bool.not_false]
  refine slot_ok A (by lia) hk hb hi ?_
  simp (disch := decide) only [mx_inst A.p A.d, ok_getAttr A.p A.d (n := 48) (v := .ref 5) rfl, ok_getDict A.b rfl (bD_get hb), ok_getList (A.bx b hb) (Int.natCast_nonneg _) (ov_at hi), oks_cons, oks_nil, then_none, then_some, s_expr, exprK_at, s_var, varK_at, s_attr, attrK_at, attrK2_at, s_sub, subK_at, subK2_at, subK3_at, s_ite, iteK_t, iteK_f, s_ret, retK_at, s_ret0, s_pass, runK_some, runK_none, forK_at, turnK_none, turnK_some, whlK_t, whlK_f, tt_not, tt_band, tt_bor, tt_bool, tt_loc, tt_cmp, tt_cmp2, tt_call, tt_meth, tt_isi, tt_attr, tt_sub, tt_bin, tnotF_t, tnotF_f, ta_nil, ta_cons, andF_t, andF_f, to_nil, to_cons, orF_t, orF_f, e_none, e_bool, e_int, e_str, e_loc, e_bin, binF_at, e_not, notF_at, notF2_t, notF2_f, e_band, e_bor, e_cmp, cmpF_at, e_cmp2, cmpG_t, cmpG_f, e_list, listF_at, e_tup, tupF_at, e_dict0, e_attr, attrF_at, e_sub, subF_at, e_slice, e_call, e_meth, methF_at, e_bi, e_isi, isiF_at, boolF_at, e_comp, es_nil, es_cons, consF_at, consF2_at, ok_bind, bindK_at, bind_pure, bind_lift, ok_pure, ok_lift, List.zip_cons_cons, List.zip_nil_right, List.zip_nil_left, List.foldl_cons, List.foldl_nil, upd_def, Nat.reduceBEq, bif_t, bif_f, if_true, if_false, Bool.false_eq_true, reduceCtorEq, Nat.reduceEqDiff, ne_eq, not_false_eq_true, not_true_eq_false, decide_true, decide_false, Bool.not_true, Bool.not_false]
  exact handed_ok A h8 hl hx ho hq h
theorem put_bad {k i j b : Nat} (A : Pl σ hs r w q) (hl : hs.length = 8) (h8 : k < 8) (hj : j < 8) (hk : (hs[k]?).getD none = some b) (hb : b < 2) (hi : (r b).length ≤ i) : run prog 1000 (d + 4) true 37 [.ref 2, .int (k : Int), .int (i : Int), .int (j : Int)] σ = some (.err 85, σ) := by
  refine run_err (fd := PP.m_put) rfl rfl ?_
  unfold PP.m_put
  refine ers_cons2 ?_
  simp (disch := decide) only [mx_inst A.p A.d, oks_cons, oks_nil, then_none, then_some, s_expr, exprK_at, s_var, varK_at, s_attr, attrK_at, attrK2_at, s_sub, subK_at, subK2_at, subK3_at, s_ite, iteK_t, iteK_f, s_ret, retK_at, s_ret0, s_pass, runK_some, runK_none, forK_at, turnK_none, turnK_some, whlK_t, whlK_f, tt_not, tt_band, tt_bor, tt_bool, tt_loc, tt_cmp, tt_cmp2, tt_call, tt_meth, tt_isi, tt_attr, tt_sub, tt_bin, tnotF_t, tnotF_f, ta_nil, ta_cons, andF_t, andF_f, to_nil, to_cons, orF_t, orF_f, e_none, e_bool, e_int, e_str, e_loc, e_bin, binF_at, e_not, notF_at, notF2_t, notF2_f, e_band, e_bor, e_cmp, cmpF_at, e_cmp2, cmpG_t, cmpG_f, e_list, listF_at, e_tup, tupF_at, e_dict0, e_attr, attrF_at, e_sub, subF_at, e_slice, e_call, e_meth, methF_at, e_bi, e_isi, isiF_at, boolF_at, e_comp, es_nil, es_cons, consF_at, consF2_at, ok_bind, bindK_at, bind_pure, bind_lift, ok_pure, ok_lift, List.zip_cons_cons, List.zip_nil_right, List.zip_nil_left, List.foldl_cons, List.foldl_nil, upd_def, Nat.reduceBEq, bif_t, bif_f, if_true, if_false, Bool.false_eq_true, reduceCtorEq, Nat.reduceEqDiff, ne_eq, not_false_eq_true, not_true_eq_false, decide_true, decide_false, Bool.not_true, Bool.not_false]
  refine need_hand_ok h8 ⟨rfl, ers_cons2 ?_⟩
  simp (disch := decide) only [mx_inst A.p A.d, oks_cons, oks_nil, then_none, then_some, s_expr, exprK_at, s_var, varK_at, s_attr, attrK_at, attrK2_at, s_sub, subK_at, subK2_at, subK3_at, s_ite, iteK_t, iteK_f, s_ret, retK_at, s_ret0, s_pass, runK_some, runK_none, forK_at, turnK_none, turnK_some, whlK_t, whlK_f, tt_not, tt_band, tt_bor, tt_bool, tt_loc, tt_cmp, tt_cmp2, tt_call, tt_meth, tt_isi, tt_attr, tt_sub, tt_bin, tnotF_t, tnotF_f, ta_nil, ta_cons, andF_t, andF_f, to_nil, to_cons, orF_t, orF_f, e_none, e_bool, e_int, e_str, e_loc, e_bin, binF_at, e_not, notF_at, notF2_t, notF2_f, e_band, e_bor, e_cmp, cmpF_at, e_cmp2, cmpG_t, cmpG_f, e_list, listF_at, e_tup, tupF_at, e_dict0, e_attr, attrF_at, e_sub, subF_at, e_slice, e_call, e_meth, methF_at, e_bi, e_isi, isiF_at, boolF_at, e_comp, es_nil, es_cons, consF_at, consF2_at, ok_bind, bindK_at, bind_pure, bind_lift, ok_pure, ok_lift, List.zip_cons_cons, List.zip_nil_right, List.zip_nil_left, List.foldl_cons, List.foldl_nil, upd_def, Nat.reduceBEq, bif_t, bif_f, if_true, if_false, Bool.false_eq_true, reduceCtorEq, Nat.reduceEqDiff, ne_eq, not_false_eq_true, not_true_eq_false, decide_true, decide_false, Bool.not_true, Bool.not_false]
  refine need_hand_ok hj ⟨rfl, ers_cons1 (ers_var ?_)⟩
  exact (ev_meth rfl rfl A.p A.d (by decide)).trans (slot_bad A (by lia) hk hb hi)
theorem empty_bad {k i b : Nat} (A : Pl σ hs r w q) (hl : hs.length = 8) (h8 : k < 8) (hk : (hs[k]?).getD none = some b) (hb : b < 2) (hi : (r b).length ≤ i) : run prog 1000 (d + 4) true 38 [.ref 2, .int (k : Int), .int (i : Int)] σ = some (.err 85, σ) := by
  refine run_err (fd := PP.m_empty) rfl rfl ?_
  unfold PP.m_empty
  refine ers_cons2 ?_
  simp (disch := decide) only [mx_inst A.p A.d, oks_cons, oks_nil, then_none, then_some, s_expr, exprK_at, s_var, varK_at, s_attr, attrK_at, attrK2_at, s_sub, subK_at, subK2_at, subK3_at, s_ite, iteK_t, iteK_f, s_ret, retK_at, s_ret0, s_pass, runK_some, runK_none, forK_at, turnK_none, turnK_some, whlK_t, whlK_f, tt_not, tt_band, tt_bor, tt_bool, tt_loc, tt_cmp, tt_cmp2, tt_call, tt_meth, tt_isi, tt_attr, tt_sub, tt_bin, tnotF_t, tnotF_f, ta_nil, ta_cons, andF_t, andF_f, to_nil, to_cons, orF_t, orF_f, e_none, e_bool, e_int, e_str, e_loc, e_bin, binF_at, e_not, notF_at, notF2_t, notF2_f, e_band, e_bor, e_cmp, cmpF_at, e_cmp2, cmpG_t, cmpG_f, e_list, listF_at, e_tup, tupF_at, e_dict0, e_attr, attrF_at, e_sub, subF_at, e_slice, e_call, e_meth, methF_at, e_bi, e_isi, isiF_at, boolF_at, e_comp, es_nil, es_cons, consF_at, consF2_at, ok_bind, bindK_at, bind_pure, bind_lift, ok_pure, ok_lift, List.zip_cons_cons, List.zip_nil_right, List.zip_nil_left, List.foldl_cons, List.foldl_nil, upd_def, Nat.reduceBEq, bif_t, bif_f, if_true, if_false, Bool.false_eq_true, reduceCtorEq, Nat.reduceEqDiff, ne_eq, not_false_eq_true, not_true_eq_false, decide_true, decide_false, Bool.not_true, Bool.not_false]
  refine need_hand_ok h8 ⟨rfl, ers_cons1 (ers_var ?_)⟩
  exact (ev_meth rfl rfl A.p A.d (by decide)).trans (slot_bad A (by lia) hk hb hi)
theorem take_bad {k i j b : Nat} (A : Pl σ hs r w q) (hl : hs.length = 8) (h8 : k < 8) (hj : j < 8) (hk : (hs[j]?).getD none = some b) (hb : b < 2) (hi : (r b).length ≤ i) : run prog 1000 (d + 4) true 39 [.ref 2, .int (k : Int), .int (j : Int), .int (i : Int)] σ = some (.err 85, σ) := by
  refine run_err (fd := PP.m_take) rfl rfl ?_
  unfold PP.m_take
  refine ers_cons2 ?_
  simp (disch := decide) only [mx_inst A.p A.d, oks_cons, oks_nil, then_none, then_some, s_expr, exprK_at, s_var, varK_at, s_attr, attrK_at, attrK2_at, s_sub, subK_at, subK2_at, subK3_at, s_ite, iteK_t, iteK_f, s_ret, retK_at, s_ret0, s_pass, runK_some, runK_none, forK_at, turnK_none, turnK_some, whlK_t, whlK_f, tt_not, tt_band, tt_bor, tt_bool, tt_loc, tt_cmp, tt_cmp2, tt_call, tt_meth, tt_isi, tt_attr, tt_sub, tt_bin, tnotF_t, tnotF_f, ta_nil, ta_cons, andF_t, andF_f, to_nil, to_cons, orF_t, orF_f, e_none, e_bool, e_int, e_str, e_loc, e_bin, binF_at, e_not, notF_at, notF2_t, notF2_f, e_band, e_bor, e_cmp, cmpF_at, e_cmp2, cmpG_t, cmpG_f, e_list, listF_at, e_tup, tupF_at, e_dict0, e_attr, attrF_at, e_sub, subF_at, e_slice, e_call, e_meth, methF_at, e_bi, e_isi, isiF_at, boolF_at, e_comp, es_nil, es_cons, consF_at, consF2_at, ok_bind, bindK_at, bind_pure, bind_lift, ok_pure, ok_lift, List.zip_cons_cons, List.zip_nil_right, List.zip_nil_left, List.foldl_cons, List.foldl_nil, upd_def, Nat.reduceBEq, bif_t, bif_f, if_true, if_false, Bool.false_eq_true, reduceCtorEq, Nat.reduceEqDiff, ne_eq, not_false_eq_true, not_true_eq_false, decide_true, decide_false, Bool.not_true, Bool.not_false]
  refine need_hand_ok h8 ⟨rfl, ers_cons2 ?_⟩
  simp (disch := decide) only [mx_inst A.p A.d, oks_cons, oks_nil, then_none, then_some, s_expr, exprK_at, s_var, varK_at, s_attr, attrK_at, attrK2_at, s_sub, subK_at, subK2_at, subK3_at, s_ite, iteK_t, iteK_f, s_ret, retK_at, s_ret0, s_pass, runK_some, runK_none, forK_at, turnK_none, turnK_some, whlK_t, whlK_f, tt_not, tt_band, tt_bor, tt_bool, tt_loc, tt_cmp, tt_cmp2, tt_call, tt_meth, tt_isi, tt_attr, tt_sub, tt_bin, tnotF_t, tnotF_f, ta_nil, ta_cons, andF_t, andF_f, to_nil, to_cons, orF_t, orF_f, e_none, e_bool, e_int, e_str, e_loc, e_bin, binF_at, e_not, notF_at, notF2_t, notF2_f, e_band, e_bor, e_cmp, cmpF_at, e_cmp2, cmpG_t, cmpG_f, e_list, listF_at, e_tup, tupF_at, e_dict0, e_attr, attrF_at, e_sub, subF_at, e_slice, e_call, e_meth, methF_at, e_bi, e_isi, isiF_at, boolF_at, e_comp, es_nil, es_cons, consF_at, consF2_at, ok_bind, bindK_at, bind_pure, bind_lift, ok_pure, ok_lift, List.zip_cons_cons, List.zip_nil_right, List.zip_nil_left, List.foldl_cons, List.foldl_nil, upd_def, Nat.reduceBEq, bif_t, bif_f, if_true, if_false, Bool.false_eq_true, reduceCtorEq, Nat.reduceEqDiff, ne_eq, not_false_eq_true, not_true_eq_false, decide_true, decide_false, Bool.not_true, Bool.not_false]
  refine need_hand_ok hj ⟨rfl, ers_cons1 (ers_var ?_)⟩
  exact (ev_meth rfl rfl A.p A.d (by decide)).trans (slot_bad A (by lia) hk hb hi)
end
end Mine.L03

set_option autoImplicit false
namespace Mine.L03
open Mine
open PySem (Str PyData)
noncomputable def n8 : List V := [.none, .none, .none, .none, .none, .none, .none, .none]
noncomputable def at5 (m : Int) : O := .attrs [(47, .ref 4), (48, .ref 5), (49, .ref 6), (50, .ref 7), (51, .int m)]
noncomputable def Hn (xs : List V) : H := [.list xs, at5 0, .inst 24 1, .rng 0 8 1, .list n8, .dict [], .dict [], .dict []]
theorem new_at {xs : List V} {loc : Loc} : ev prog (run prog 1000 20) (.new 24) loc [.list xs] = some (.ok (.ref 2), Hn xs) := by kernel_rfl
noncomputable def L0 : Loc := Loc.upd (Loc.upd (Loc.upd (fun _ => none) 70 (.ref 0)) 75 (.ref 2)) 89 (.ref 8)
noncomputable def H0 (xs : List V) : H := [.list xs, at5 0, .inst 24 1, .rng 0 8 1, .list n8, .dict [], .dict [], .dict [], .list [], .rng 0 2 1]
noncomputable def h7 : List V := [.none, .none, .none, .none, .none, .none, .int 0, .none]
noncomputable def h8 : List V := [.none, .none, .none, .none, .none, .none, .int 0, .int 1]
noncomputable def H1 (xs : List V) (o10 o11 o13 o14 : O) : H := [.list xs, at5 1, .inst 24 1, .rng 0 8 1, .list h7, .dict [(.int 0, .ref 11)], .dict [(.int 0, .int 1)], .dict [], .list [.ref 14], .rng 0 2 1, o10, o11, .list [], o13, o14]
noncomputable def H2 (xs : List V) (o10 o11 o13 o14 o15 o16 o18 o19 : O) : H := [.list xs, at5 2, .inst 24 1, .rng 0 8 1, .list h8, .dict bD, .dict [(.int 0, .int 1), (.int 1, .int 1)], .dict [], .list [.ref 14, .ref 19], .rng 0 2 1, o10, o11, .list [], o13, o14, o15, o16, .list [], o18, o19]
noncomputable def no (z : Nat) : O := .list (List.replicate z .none)
noncomputable def rg (z : Nat) : O := .rng 0 (z : Int) 1
theorem turn1 {xs : List V} : ∀ {z : Nat}, z < 7 → exs prog (run prog 1000 20) 1000 f_law_3f_2 ((L0.upd 71 (.int 0)).upd 80 (.int (z : Int))) (H0 xs) = some (.ok none, (L0.upd 71 (.int 0)).upd 80 (.int (z : Int)), H1 xs (rg z) (no z) (rg z) (no z))
  | 0, _ => by kernel_rfl
  | 1, _ => by kernel_rfl
  | 2, _ => by kernel_rfl
  | 3, _ => by kernel_rfl
  | 4, _ => by kernel_rfl
  | 5, _ => by kernel_rfl
  | 6, _ => by kernel_rfl
theorem turn2 {xs : List V} {y : Nat} {o10 o11 o13 o14 : O} : ∀ {z : Nat}, z < 7 → exs prog (run prog 1000 20) 1000 f_law_3f_2 ((((L0.upd 71 (.int 0)).upd 80 (.int (y : Int))).upd 71 (.int 1)).upd 80 (.int (z : Int))) (H1 xs o10 o11 o13 o14) = some (.ok none, (((L0.upd 71 (.int 0)).upd 80 (.int (y : Int))).upd 71 (.int 1)).upd 80 (.int (z : Int)), H2 xs o10 o11 o13 o14 (rg z) (no z) (rg z) (no z))
  | 0, _ => by kernel_rfl
  | 1, _ => by kernel_rfl
  | 2, _ => by kernel_rfl
  | 3, _ => by kernel_rfl
  | 4, _ => by kernel_rfl
  | 5, _ => by kernel_rfl
  | 6, _ => by kernel_rfl
end Mine.L03

set_option autoImplicit false
set_option linter.unusedSimpArgs false
set_option linter.unusedVariables false
namespace Mine.L03
open Mine
open PySem (Str PyData)

section
variable {P : Prog} {C : Calls} {F : Nat} {loc : Loc} {σ : H} {Q : Option V → Loc → H → Prop}
theorem f_cons {v y : V} {i : Nat} {b : Sts} {h₀ : H} {ys : List V} (h : OkS (exs P C F b (loc.upd i y) σ) (fun r l s => r = none ∧ still v h₀ s = true ∧ OkF P C F v [i] false b h₀ ys l s Q)) : OkF P C F v [i] false b h₀ (y :: ys) loc σ Q := by
  obtain ⟨r, l', s', hb, rfl, hst, h2⟩ := oks_iff.mp h
  unfold OkF forL
  have hbt : bindTg [i] false y loc σ = some (loc.upd i y) := rfl
  rw [hbt]
  dsimp only
  rw [hb]
  dsimp only
  rw [if_pos hst]
  exact h2
end

noncomputable def rA (b : Nat) : Nat := bif b == 0 then 14 else 19
structure Lw (σ : H) (ns : List Int) (hs : List (Option Nat)) (r : Nat → List (Option Nat)) : Prop where
  z : σ.get 0 = some (.list (ns.map .int))
  rm : σ.get 8 = some (.list [.ref 14, .ref 19])
  rx : ∀ b, b < 2 → σ.get (rA b) = some (.list ((r b).map ov))
  hl : σ.get 20 = some (.list (hs.map ov))
theorem ow_rA : ∀ {b : Nat}, Ow (rA b) = false := fun {b} => by unfold rA; cases (b == 0) <;> rfl
section
variable {σ σ' : H} {ns : List Int} {hs : List (Option Nat)} {r : Nat → List (Option Nat)} {w : Nat → Nat} {q : List Nat} {z : Nat → Nat}
theorem Lw.kp (l : Lw σ ns hs r) (k : Kp σ σ') : Lw σ' ns hs r := ⟨k _ _ rfl l.z, k _ _ rfl l.rm, fun b hb => k _ _ ow_rA (l.rx b hb), k _ _ rfl l.hl⟩
theorem Lw.push (l : Lw σ ns hs r) (x : O) : Lw (σ.push x) ns hs r := l.kp ((Kp.refl _).push x)

structure Inv (z : Nat → Nat) (hs : List (Option Nat)) (r : Nat → List (Option Nat)) (w : Nat → Nat) : Prop where
  hl : hs.length = 8
  rl : ∀ b, b < 2 → (r b).length = z b ∧ z b ≤ 6
  h6 : ∀ b, b < 2 → hs[6 + b]? = some (some b)
  kn : ∀ x ∈ hs ++ r 0 ++ r 1, ∀ k, x = some k → k < 2
  ct : ∀ k, k < 2 → w k = hs.count (some k) + (r 0).count (some k) + (r 1).count (some k)

theorem data_ov {h : H} {n : Nat} {x : Option Nat} : dataOf h (n + 1) (ov x) = some (match x with | none => .none | some k => .int (k : Int)) := by cases x <;> rfl
theorem ok_eqO {x : Option Nat} {k : Nat} {Q : V → H → Prop} : Ok (cmpop prog .Eq (ov x) (.int (k : Int))) σ Q = Q (.bool (decide (ov x = .int (k : Int)))) σ := by
  cases x with
  | none => rfl
  | some j =>
    show Ok (cmpop prog .Eq (.int (j : Int)) (.int (k : Int))) σ Q = _
    rw [ok_eqI]
    have : decide ((j : Int) = (k : Int)) = decide (V.int (j : Int) = V.int (k : Int)) := by by_cases e : (j : Int) = (k : Int) <;> simp [e]
    rw [this]; rfl
theorem cnt_ov {k : Nat} {g : V → V} : ∀ {xs : List (Option Nat)}, ((((xs.map ov).filter (fun y => decide (y = V.int (k : Int)))).map g).length : Int) = ((xs.count (some k) : Nat) : Int)
  | [] => rfl
  | x :: xs => by
    have ih := cnt_ov (k := k) (g := g) (xs := xs)
    have e : decide (ov x = V.int (k : Int)) = (x == some k) := by
      cases x with
      | none => rfl
      | some j =>
        by_cases h : j = k
        · subst h; simp [ov]
        · have h' : ((j : Int) = (k : Int)) = False := eq_false (by lia)
          simp [ov, h, h']
    rw [List.map_cons, List.filter_cons, e, List.count_cons]
    cases hb : (x == some k) with
    | false => simpa using ih
    | true => simp only [if_true, List.map_cons, List.length_cons]; lia
theorem cnt_le {k : Nat} {g : V → V} {xs : List (Option Nat)} (h : xs.length ≤ 100) : (((xs.map ov).filter (fun y => decide (y = V.int (k : Int)))).map g).length ≤ lim := by
  have hl : lim = 1000000 := rfl
  rw [List.length_map]
  have := List.length_filter_le (fun y => decide (y = V.int (k : Int))) (xs.map ov)
  rw [List.length_map] at this
  lia
theorem comp_cnt {C : Calls} {loc : Loc} {i a k : Nat} {xs : List (Option Nat)} {Q : V → H → Prop} (h : σ.get a = some (.list (xs.map ov))) (hx : xs.length ≤ 100) (hi : i ≠ 78) (hk : loc 78 = some (.int (k : Int))) :
    Ok (compX [i] false (tstAnd prog C (.cons (.cmp .Eq (.loc i) (.loc 78)) .nil)) (ev prog C (.cint 1)) loc (.ref a)) σ Q = Q (.ref σ.length) (σ.push (.list (((xs.map ov).filter (fun y => decide (y = V.int (k : Int)))).map fun _ => .int 1))) := by
  rw [c_pure (fun y => decide (y = V.int (k : Int))) (fun _ => .int 1) (it_list h) (fun y hy => ?_) (fun y hy _ => rfl) (cnt_le hx)]
  obtain ⟨x, _, rfl⟩ := List.mem_map.mp hy
  refine ok_eq ?_
  have e1 : (loc.upd i (ov x)) i = some (ov x) := upd_at
  have e2 : (loc.upd i (ov x)) 78 = some (.int (k : Int)) := by rw [upd_no hi.symm]; exact hk
  rw [ta_cons, ok_bind, tt_cmp, e_cmp]
  simp only [e_loc, e1, e2, cmpF_at, ok_bind, bindK_at, ok_lift, ok_eqO, ok_truthb]
  cases decide (ov x = V.int (k : Int)) <;> exact ⟨rfl, rfl⟩

variable {d : Nat} {Q : V → H → Prop}
theorem pointers_ok {k : Nat} (l : Lw σ ns hs r) (h1 : hs.length ≤ 100) (h2 : ∀ b, b < 2 → (r b).length ≤ 100) (h : ∀ σ', Kp σ σ' → (∀ a o, σ.get a = some o → σ'.get a = some o) → Q (.int ((hs.count (some k) + (r 0).count (some k) + (r 1).count (some k) : Nat) : Int)) σ') : Ok (run prog 1000 (d + 1) false 88 [.ref 20, .ref 8, .int (k : Int)]) σ Q := by
  rw [ok_run (fd := f__law_pointers) rfl rfl]
  unfold f__law_pointers
  refine oks_step rfl ?_
  simp (disch := decide) only [s_expr, exprK_at, s_var, varK_at, s_attr, attrK_at, attrK2_at, s_sub, subK_at, subK2_at, subK3_at, s_ite, iteK_t, iteK_f, s_ret, retK_at, s_ret0, s_pass, runK_some, runK_none, forK_at, turnK_none, turnK_some, whlK_t, whlK_f, tt_not, tt_band, tt_bor, tt_bool, tt_loc, tt_cmp, tt_cmp2, tt_call, tt_meth, tt_isi, tt_attr, tt_sub, tt_bin, tnotF_t, tnotF_f, ta_nil, ta_cons, andF_t, andF_f, to_nil, to_cons, orF_t, orF_f, e_none, e_bool, e_int, e_str, e_loc, e_bin, binF_at, e_not, notF_at, notF2_t, notF2_f, e_band, e_bor, e_cmp, cmpF_at, e_cmp2, cmpG_t, cmpG_f, e_list, listF_at, e_tup, tupF_at, e_dict0, e_attr, attrF_at, e_sub, subF_at, e_slice, e_call, e_meth, methF_at, e_bi, e_isi, isiF_at, boolF_at, e_comp, es_nil, es_cons, consF_at, consF2_at, ok_bind, bindK_at, bind_pure, bind_lift, ok_pure, ok_lift, List.zip_cons_cons, List.zip_nil_right, List.zip_nil_left, List.foldl_cons, List.foldl_nil, upd_def, Nat.reduceBEq, bif_t, bif_f, if_true, if_false, Bool.false_eq_true, reduceCtorEq, Nat.reduceEqDiff, ne_eq, not_false_eq_true, not_true_eq_false, decide_true, decide_false, Bool.not_true, Bool.not_false]
  rw [comp_cnt (k := k) l.hl h1 (by decide) rfl]
  simp (disch := decide) only [ok_lenL get_push_eq, cnt_ov, s_expr, exprK_at, s_var, varK_at, s_attr, attrK_at, attrK2_at, s_sub, subK_at, subK2_at, subK3_at, s_ite, iteK_t, iteK_f, s_ret, retK_at, s_ret0, s_pass, runK_some, runK_none, forK_at, turnK_none, turnK_some, whlK_t, whlK_f, tt_not, tt_band, tt_bor, tt_bool, tt_loc, tt_cmp, tt_cmp2, tt_call, tt_meth, tt_isi, tt_attr, tt_sub, tt_bin, tnotF_t, tnotF_f, ta_nil, ta_cons, andF_t, andF_f, to_nil, to_cons, orF_t, orF_f, e_none, e_bool, e_int, e_str, e_loc, e_bin, binF_at, e_not, notF_at, notF2_t, notF2_f, e_band, e_bor, e_cmp, cmpF_at, e_cmp2, cmpG_t, cmpG_f, e_list, listF_at, e_tup, tupF_at, e_dict0, e_attr, attrF_at, e_sub, subF_at, e_slice, e_call, e_meth, methF_at, e_bi, e_isi, isiF_at, boolF_at, e_comp, es_nil, es_cons, consF_at, consF2_at, ok_bind, bindK_at, bind_pure, bind_lift, ok_pure, ok_lift, List.zip_cons_cons, List.zip_nil_right, List.zip_nil_left, List.foldl_cons, List.foldl_nil, upd_def, Nat.reduceBEq, bif_t, bif_f, if_true, if_false, Bool.false_eq_true, reduceCtorEq, Nat.reduceEqDiff, ne_eq, not_false_eq_true, not_true_eq_false, decide_true, decide_false, Bool.not_true, Bool.not_false]
  have l1 := l.push (.list (((hs.map ov).filter (fun y => decide (y = V.int (k : Int)))).map fun _ => .int 1))
  have k1 : ∀ a o, σ.get a = some o → (σ.push (.list (((hs.map ov).filter (fun y => decide (y = V.int (k : Int)))).map fun _ => .int 1))).get a = some o := fun a o e => get_keep e
  generalize σ.push (.list (((hs.map ov).filter (fun y => decide (y = V.int (k : Int)))).map fun _ => .int 1)) = σ1 at *
  refine then_step rfl ?_
  rw [s_for]
  simp (disch := decide) only [s_expr, exprK_at, s_var, varK_at, s_attr, attrK_at, attrK2_at, s_sub, subK_at, subK2_at, subK3_at, s_ite, iteK_t, iteK_f, s_ret, retK_at, s_ret0, s_pass, runK_some, runK_none, forK_at, turnK_none, turnK_some, whlK_t, whlK_f, tt_not, tt_band, tt_bor, tt_bool, tt_loc, tt_cmp, tt_cmp2, tt_call, tt_meth, tt_isi, tt_attr, tt_sub, tt_bin, tnotF_t, tnotF_f, ta_nil, ta_cons, andF_t, andF_f, to_nil, to_cons, orF_t, orF_f, e_none, e_bool, e_int, e_str, e_loc, e_bin, binF_at, e_not, notF_at, notF2_t, notF2_f, e_band, e_bor, e_cmp, cmpF_at, e_cmp2, cmpG_t, cmpG_f, e_list, listF_at, e_tup, tupF_at, e_dict0, e_attr, attrF_at, e_sub, subF_at, e_slice, e_call, e_meth, methF_at, e_bi, e_isi, isiF_at, boolF_at, e_comp, es_nil, es_cons, consF_at, consF2_at, ok_bind, bindK_at, bind_pure, bind_lift, ok_pure, ok_lift, List.zip_cons_cons, List.zip_nil_right, List.zip_nil_left, List.foldl_cons, List.foldl_nil, upd_def, Nat.reduceBEq, bif_t, bif_f, if_true, if_false, Bool.false_eq_true, reduceCtorEq, Nat.reduceEqDiff, ne_eq, not_false_eq_true, not_true_eq_false, decide_true, decide_false, Bool.not_true, Bool.not_false]
  refine ⟨_, it_list l1.rm, f_cons ?_⟩
  have c0 := l1.rx 0 (by decide)
  have c1 := l1.rx 1 (by decide)
  refine oks_step rfl ?_
  simp (disch := decide) only [s_expr, exprK_at, s_var, varK_at, s_attr, attrK_at, attrK2_at, s_sub, subK_at, subK2_at, subK3_at, s_ite, iteK_t, iteK_f, s_ret, retK_at, s_ret0, s_pass, runK_some, runK_none, forK_at, turnK_none, turnK_some, whlK_t, whlK_f, tt_not, tt_band, tt_bor, tt_bool, tt_loc, tt_cmp, tt_cmp2, tt_call, tt_meth, tt_isi, tt_attr, tt_sub, tt_bin, tnotF_t, tnotF_f, ta_nil, ta_cons, andF_t, andF_f, to_nil, to_cons, orF_t, orF_f, e_none, e_bool, e_int, e_str, e_loc, e_bin, binF_at, e_not, notF_at, notF2_t, notF2_f, e_band, e_bor, e_cmp, cmpF_at, e_cmp2, cmpG_t, cmpG_f, e_list, listF_at, e_tup, tupF_at, e_dict0, e_attr, attrF_at, e_sub, subF_at, e_slice, e_call, e_meth, methF_at, e_bi, e_isi, isiF_at, boolF_at, e_comp, es_nil, es_cons, consF_at, consF2_at, ok_bind, bindK_at, bind_pure, bind_lift, ok_pure, ok_lift, List.zip_cons_cons, List.zip_nil_right, List.zip_nil_left, List.foldl_cons, List.foldl_nil, upd_def, Nat.reduceBEq, bif_t, bif_f, if_true, if_false, Bool.false_eq_true, reduceCtorEq, Nat.reduceEqDiff, ne_eq, not_false_eq_true, not_true_eq_false, decide_true, decide_false, Bool.not_true, Bool.not_false]
  rw [comp_cnt (k := k) (a := 14) c0 (h2 0 (by decide)) (by decide) rfl]
  simp (disch := decide) only [ok_lenL get_push_eq, cnt_ov, ok_add, s_expr, exprK_at, s_var, varK_at, s_attr, attrK_at, attrK2_at, s_sub, subK_at, subK2_at, subK3_at, s_ite, iteK_t, iteK_f, s_ret, retK_at, s_ret0, s_pass, runK_some, runK_none, forK_at, turnK_none, turnK_some, whlK_t, whlK_f, tt_not, tt_band, tt_bor, tt_bool, tt_loc, tt_cmp, tt_cmp2, tt_call, tt_meth, tt_isi, tt_attr, tt_sub, tt_bin, tnotF_t, tnotF_f, ta_nil, ta_cons, andF_t, andF_f, to_nil, to_cons, orF_t, orF_f, e_none, e_bool, e_int, e_str, e_loc, e_bin, binF_at, e_not, notF_at, notF2_t, notF2_f, e_band, e_bor, e_cmp, cmpF_at, e_cmp2, cmpG_t, cmpG_f, e_list, listF_at, e_tup, tupF_at, e_dict0, e_attr, attrF_at, e_sub, subF_at, e_slice, e_call, e_meth, methF_at, e_bi, e_isi, isiF_at, boolF_at, e_comp, es_nil, es_cons, consF_at, consF2_at, ok_bind, bindK_at, bind_pure, bind_lift, ok_pure, ok_lift, List.zip_cons_cons, List.zip_nil_right, List.zip_nil_left, List.foldl_cons, List.foldl_nil, upd_def, Nat.reduceBEq, bif_t, bif_f, if_true, if_false, Bool.false_eq_true, reduceCtorEq, Nat.reduceEqDiff, ne_eq, not_false_eq_true, not_true_eq_false, decide_true, decide_false, Bool.not_true, Bool.not_false]
  refine ⟨rfl, still_get ((get_keep l1.rm).trans l1.rm.symm), f_cons ?_⟩
  refine oks_step rfl ?_
  simp (disch := decide) only [s_expr, exprK_at, s_var, varK_at, s_attr, attrK_at, attrK2_at, s_sub, subK_at, subK2_at, subK3_at, s_ite, iteK_t, iteK_f, s_ret, retK_at, s_ret0, s_pass, runK_some, runK_none, forK_at, turnK_none, turnK_some, whlK_t, whlK_f, tt_not, tt_band, tt_bor, tt_bool, tt_loc, tt_cmp, tt_cmp2, tt_call, tt_meth, tt_isi, tt_attr, tt_sub, tt_bin, tnotF_t, tnotF_f, ta_nil, ta_cons, andF_t, andF_f, to_nil, to_cons, orF_t, orF_f, e_none, e_bool, e_int, e_str, e_loc, e_bin, binF_at, e_not, notF_at, notF2_t, notF2_f, e_band, e_bor, e_cmp, cmpF_at, e_cmp2, cmpG_t, cmpG_f, e_list, listF_at, e_tup, tupF_at, e_dict0, e_attr, attrF_at, e_sub, subF_at, e_slice, e_call, e_meth, methF_at, e_bi, e_isi, isiF_at, boolF_at, e_comp, es_nil, es_cons, consF_at, consF2_at, ok_bind, bindK_at, bind_pure, bind_lift, ok_pure, ok_lift, List.zip_cons_cons, List.zip_nil_right, List.zip_nil_left, List.foldl_cons, List.foldl_nil, upd_def, Nat.reduceBEq, bif_t, bif_f, if_true, if_false, Bool.false_eq_true, reduceCtorEq, Nat.reduceEqDiff, ne_eq, not_false_eq_true, not_true_eq_false, decide_true, decide_false, Bool.not_true, Bool.not_false]
  rw [comp_cnt (k := k) (a := 19) (get_keep c1) (h2 1 (by decide)) (by decide) rfl]
  simp (disch := decide) only [ok_lenL get_push_eq, cnt_ov, ok_add, s_expr, exprK_at, s_var, varK_at, s_attr, attrK_at, attrK2_at, s_sub, subK_at, subK2_at, subK3_at, s_ite, iteK_t, iteK_f, s_ret, retK_at, s_ret0, s_pass, runK_some, runK_none, forK_at, turnK_none, turnK_some, whlK_t, whlK_f, tt_not, tt_band, tt_bor, tt_bool, tt_loc, tt_cmp, tt_cmp2, tt_call, tt_meth, tt_isi, tt_attr, tt_sub, tt_bin, tnotF_t, tnotF_f, ta_nil, ta_cons, andF_t, andF_f, to_nil, to_cons, orF_t, orF_f, e_none, e_bool, e_int, e_str, e_loc, e_bin, binF_at, e_not, notF_at, notF2_t, notF2_f, e_band, e_bor, e_cmp, cmpF_at, e_cmp2, cmpG_t, cmpG_f, e_list, listF_at, e_tup, tupF_at, e_dict0, e_attr, attrF_at, e_sub, subF_at, e_slice, e_call, e_meth, methF_at, e_bi, e_isi, isiF_at, boolF_at, e_comp, es_nil, es_cons, consF_at, consF2_at, ok_bind, bindK_at, bind_pure, bind_lift, ok_pure, ok_lift, List.zip_cons_cons, List.zip_nil_right, List.zip_nil_left, List.foldl_cons, List.foldl_nil, upd_def, Nat.reduceBEq, bif_t, bif_f, if_true, if_false, Bool.false_eq_true, reduceCtorEq, Nat.reduceEqDiff, ne_eq, not_false_eq_true, not_true_eq_false, decide_true, decide_false, Bool.not_true, Bool.not_false]
  refine ⟨rfl, still_get ((get_keep (get_keep l1.rm)).trans l1.rm.symm), ?_⟩
  rw [f_nil]
  refine then_step rfl ?_
  simp (disch := decide) only [s_expr, exprK_at, s_var, varK_at, s_attr, attrK_at, attrK2_at, s_sub, subK_at, subK2_at, subK3_at, s_ite, iteK_t, iteK_f, s_ret, retK_at, s_ret0, s_pass, runK_some, runK_none, forK_at, turnK_none, turnK_some, whlK_t, whlK_f, tt_not, tt_band, tt_bor, tt_bool, tt_loc, tt_cmp, tt_cmp2, tt_call, tt_meth, tt_isi, tt_attr, tt_sub, tt_bin, tnotF_t, tnotF_f, ta_nil, ta_cons, andF_t, andF_f, to_nil, to_cons, orF_t, orF_f, e_none, e_bool, e_int, e_str, e_loc, e_bin, binF_at, e_not, notF_at, notF2_t, notF2_f, e_band, e_bor, e_cmp, cmpF_at, e_cmp2, cmpG_t, cmpG_f, e_list, listF_at, e_tup, tupF_at, e_dict0, e_attr, attrF_at, e_sub, subF_at, e_slice, e_call, e_meth, methF_at, e_bi, e_isi, isiF_at, boolF_at, e_comp, es_nil, es_cons, consF_at, consF2_at, ok_bind, bindK_at, bind_pure, bind_lift, ok_pure, ok_lift, List.zip_cons_cons, List.zip_nil_right, List.zip_nil_left, List.foldl_cons, List.foldl_nil, upd_def, Nat.reduceBEq, bif_t, bif_f, if_true, if_false, Bool.false_eq_true, reduceCtorEq, Nat.reduceEqDiff, ne_eq, not_false_eq_true, not_true_eq_false, decide_true, decide_false, Bool.not_true, Bool.not_false]
  have e : ((hs.count (some k) : Nat) : Int) + (((r 0).count (some k) : Nat) : Int) + (((r 1).count (some k) : Nat) : Int) = ((hs.count (some k) + (r 0).count (some k) + (r 1).count (some k) : Nat) : Int) := by lia
  rw [e]
  exact h _ (fun a o _ g => get_keep (get_keep (k1 a o g))) fun a o g => get_keep (get_keep (k1 a o g))
end
end Mine.L03

set_option autoImplicit false
set_option linter.unusedSimpArgs false
set_option linter.unusedVariables false
namespace Mine.L03
open Mine
open PySem (Str PyData)

theorem hL : LawP prog := ⟨rfl, rfl, rfl⟩
theorem rm_at : ∀ {j : Nat}, j < 2 → [V.ref 14, V.ref 19][((j : Int)).toNat]? = some (.ref (rA j))
  | 0, _ => rfl
  | 1, _ => rfl
theorem ovs {xs : List (Option Nat)} : ∀ x ∈ xs.map ov, x = V.none ∨ ∃ i, x = V.int i := fun x hx => by
  obtain ⟨o, _, rfl⟩ := List.mem_map.mp hx
  cases o with
  | none => exact .inl rfl
  | some i => exact .inr ⟨_, rfl⟩
noncomputable def hv (hs : List (Option Nat)) : V → V
  | .int i => ov ((hs[i.toNat]?).getD none)
  | _ => .none
theorem hv_all {hs : List (Option Nat)} (h : hs.length = 8) : ((((List.range (8 : Int).toNat).map fun (k : Nat) => V.int (k : Int)).filter fun _ => true).map (hv hs)) = hs.map ov := by
  match hs, h with
  | [_, _, _, _, _, _, _, _], _ => rfl
section
variable {σ σ' : H} {ns : List Int} {hs : List (Option Nat)} {r : Nat → List (Option Nat)} {w : Nat → Nat} {q : List Nat} {z : Nat → Nat} {d : Nat} {Q : V → H → Prop}
theorem comp_hands {loc : Loc} {a : Nat} {Q : V → H → Prop} (A : Pl σ hs r w q) (hl : hs.length = 8) (h : σ.get a = some (.rng 0 8 1)) (h75 : loc 75 = some (.ref 2)) :
    Ok (compX [71] false (tstAnd prog (run prog 1000 (d + 2)) .nil) (ev prog (run prog 1000 (d + 2)) (.meth (.loc 75) 41 (.cons (.loc 71) .nil))) loc (.ref a)) σ Q = Q (.ref σ.length) (σ.push (.list (hs.map ov))) := by
  rw [c_pure (fun _ => true) (hv hs) (it_range h (by decide) (by decide)) (fun y hy => rfl) (fun y hy _ => ?_) (by rw [hv_all hl, List.length_map, hl]; decide), hv_all hl]
  obtain ⟨k, hk, rfl⟩ := List.mem_map.mp hy
  have hk : k < 8 := List.mem_range.mp hk
  refine ok_eq ?_
  have e1 : (loc.upd 71 (.int (k : Int))) 75 = some (.ref 2) := h75
  rw [e_meth]
  simp (disch := decide) only [e1, mx_inst A.p A.d, oks_cons, oks_nil, then_none, then_some, s_expr, exprK_at, s_var, varK_at, s_attr, attrK_at, attrK2_at, s_sub, subK_at, subK2_at, subK3_at, s_ite, iteK_t, iteK_f, s_ret, retK_at, s_ret0, s_pass, runK_some, runK_none, forK_at, turnK_none, turnK_some, whlK_t, whlK_f, tt_not, tt_band, tt_bor, tt_bool, tt_loc, tt_cmp, tt_cmp2, tt_call, tt_meth, tt_isi, tt_attr, tt_sub, tt_bin, tnotF_t, tnotF_f, ta_nil, ta_cons, andF_t, andF_f, to_nil, to_cons, orF_t, orF_f, e_none, e_bool, e_int, e_str, e_loc, e_bin, binF_at, e_not, notF_at, notF2_t, notF2_f, e_band, e_bor, e_cmp, cmpF_at, e_cmp2, cmpG_t, cmpG_f, e_list, listF_at, e_tup, tupF_at, e_dict0, e_attr, attrF_at, e_sub, subF_at, e_slice, e_call, e_meth, methF_at, e_bi, e_isi, isiF_at, boolF_at, e_comp, es_nil, es_cons, consF_at, consF2_at, ok_bind, bindK_at, bind_pure, bind_lift, ok_pure, ok_lift, List.zip_cons_cons, List.zip_nil_right, List.zip_nil_left, List.foldl_cons, List.foldl_nil, upd_def, Nat.reduceBEq, bif_t, bif_f, if_true, if_false, Bool.false_eq_true, reduceCtorEq, Nat.reduceEqDiff, ne_eq, not_false_eq_true, not_true_eq_false, decide_true, decide_false, Bool.not_true, Bool.not_false]
  exact holds_ok A hl hk ⟨by simp [hv], rfl⟩
theorem stands_ok (A : Pl σ hs r w q) (l : Lw σ ns hs r) (I : Inv z hs r w) (h : ∀ σ', Pl σ' hs r w q → Kp σ σ' → Q (.bool true) σ') : Ok (run prog 1000 (d + 4) false 93 [.ref 2, .ref 20, .ref 8]) σ Q := by
  rw [ok_run (fd := f__law_stands) rfl rfl]
  unfold f__law_stands
  refine oks_step rfl ?_
  rw [s_for]
  simp (disch := decide) only [ok_range1, s_expr, exprK_at, s_var, varK_at, s_attr, attrK_at, attrK2_at, s_sub, subK_at, subK2_at, subK3_at, s_ite, iteK_t, iteK_f, s_ret, retK_at, s_ret0, s_pass, runK_some, runK_none, forK_at, turnK_none, turnK_some, whlK_t, whlK_f, tt_not, tt_band, tt_bor, tt_bool, tt_loc, tt_cmp, tt_cmp2, tt_call, tt_meth, tt_isi, tt_attr, tt_sub, tt_bin, tnotF_t, tnotF_f, ta_nil, ta_cons, andF_t, andF_f, to_nil, to_cons, orF_t, orF_f, e_none, e_bool, e_int, e_str, e_loc, e_bin, binF_at, e_not, notF_at, notF2_t, notF2_f, e_band, e_bor, e_cmp, cmpF_at, e_cmp2, cmpG_t, cmpG_f, e_list, listF_at, e_tup, tupF_at, e_dict0, e_attr, attrF_at, e_sub, subF_at, e_slice, e_call, e_meth, methF_at, e_bi, e_isi, isiF_at, boolF_at, e_comp, es_nil, es_cons, consF_at, consF2_at, ok_bind, bindK_at, bind_pure, bind_lift, ok_pure, ok_lift, List.zip_cons_cons, List.zip_nil_right, List.zip_nil_left, List.foldl_cons, List.foldl_nil, upd_def, Nat.reduceBEq, bif_t, bif_f, if_true, if_false, Bool.false_eq_true, reduceCtorEq, Nat.reduceEqDiff, ne_eq, not_false_eq_true, not_true_eq_false, decide_true, decide_false, Bool.not_true, Bool.not_false]
  have A0 := A.push (.rng 0 2 1)
  have k0 : Kp σ (σ.push (.rng 0 2 1)) := (Kp.refl _).push _
  have gr : (σ.push (.rng 0 2 1)).get σ.length = some (.rng 0 2 1) := get_push_eq
  have ow := ow_gt A.big
  generalize σ.push (.rng 0 2 1) = τ at *
  generalize σ.length = ra at *
  refine ⟨_, it_range gr (by decide) (by decide), f_inv (fun j lc σj => lc 75 = some (.ref 2) ∧ lc 76 = some (.ref 20) ∧ lc 89 = some (.ref 8) ∧ Pl σj hs r w q ∧ Kp τ σj) ⟨rfl, rfl, rfl, A0, Kp.refl _⟩ ?_ ?_⟩
  · rintro j lc σj y hy ⟨e1, e2, e3, Aj, kj⟩
    obtain ⟨hj, rfl⟩ := rng_at hy
    have hj : j < 2 := by lia
    have lj := (l.kp k0).kp kj
    have rj := I.rl j hj
    refine oks_step rfl ?_
    simp (disch := decide) only [e1, mx_inst Aj.p Aj.d, s_expr, exprK_at, s_var, varK_at, s_attr, attrK_at, attrK2_at, s_sub, subK_at, subK2_at, subK3_at, s_ite, iteK_t, iteK_f, s_ret, retK_at, s_ret0, s_pass, runK_some, runK_none, forK_at, turnK_none, turnK_some, whlK_t, whlK_f, tt_not, tt_band, tt_bor, tt_bool, tt_loc, tt_cmp, tt_cmp2, tt_call, tt_meth, tt_isi, tt_attr, tt_sub, tt_bin, tnotF_t, tnotF_f, ta_nil, ta_cons, andF_t, andF_f, to_nil, to_cons, orF_t, orF_f, e_none, e_bool, e_int, e_str, e_loc, e_bin, binF_at, e_not, notF_at, notF2_t, notF2_f, e_band, e_bor, e_cmp, cmpF_at, e_cmp2, cmpG_t, cmpG_f, e_list, listF_at, e_tup, tupF_at, e_dict0, e_attr, attrF_at, e_sub, subF_at, e_slice, e_call, e_meth, methF_at, e_bi, e_isi, isiF_at, boolF_at, e_comp, es_nil, es_cons, consF_at, consF2_at, ok_bind, bindK_at, bind_pure, bind_lift, ok_pure, ok_lift, List.zip_cons_cons, List.zip_nil_right, List.zip_nil_left, List.foldl_cons, List.foldl_nil, upd_def, Nat.reduceBEq, bif_t, bif_f, if_true, if_false, Bool.false_eq_true, reduceCtorEq, Nat.reduceEqDiff, ne_eq, not_false_eq_true, not_true_eq_false, decide_true, decide_false, Bool.not_true, Bool.not_false]
    refine points_ok Aj hj (by lia) ?_
    have l1 := lj.push (.list ((r j).map ov))
    have A1 := Aj.push (.list ((r j).map ov))
    have k1 := kj.push (.list ((r j).map ov))
    have g1 : (σj.push (.list ((r j).map ov))).get σj.length = some (.list ((r j).map ov)) := get_push_eq
    generalize σj.push (.list ((r j).map ov)) = σ1 at *
    simp (disch := decide) only [e3, ok_getList l1.rm (Int.natCast_nonneg _) (rm_at hj), s_expr, exprK_at, s_var, varK_at, s_attr, attrK_at, attrK2_at, s_sub, subK_at, subK2_at, subK3_at, s_ite, iteK_t, iteK_f, s_ret, retK_at, s_ret0, s_pass, runK_some, runK_none, forK_at, turnK_none, turnK_some, whlK_t, whlK_f, tt_not, tt_band, tt_bor, tt_bool, tt_loc, tt_cmp, tt_cmp2, tt_call, tt_meth, tt_isi, tt_attr, tt_sub, tt_bin, tnotF_t, tnotF_f, ta_nil, ta_cons, andF_t, andF_f, to_nil, to_cons, orF_t, orF_f, e_none, e_bool, e_int, e_str, e_loc, e_bin, binF_at, e_not, notF_at, notF2_t, notF2_f, e_band, e_bor, e_cmp, cmpF_at, e_cmp2, cmpG_t, cmpG_f, e_list, listF_at, e_tup, tupF_at, e_dict0, e_attr, attrF_at, e_sub, subF_at, e_slice, e_call, e_meth, methF_at, e_bi, e_isi, isiF_at, boolF_at, e_comp, es_nil, es_cons, consF_at, consF2_at, ok_bind, bindK_at, bind_pure, bind_lift, ok_pure, ok_lift, List.zip_cons_cons, List.zip_nil_right, List.zip_nil_left, List.foldl_cons, List.foldl_nil, upd_def, Nat.reduceBEq, bif_t, bif_f, if_true, if_false, Bool.false_eq_true, reduceCtorEq, Nat.reduceEqDiff, ne_eq, not_false_eq_true, not_true_eq_false, decide_true, decide_false, Bool.not_true, Bool.not_false]
    refine numbers_ok hL g1 (l1.rx j hj) ovs (by rw [List.length_map]; lia) ?_
    have l2 := l1.push (.rng 0 ((r j).map ov).length 1)
    have A2 := A1.push (.rng 0 ((r j).map ov).length 1)
    have k2 := k1.push (.rng 0 ((r j).map ov).length 1)
    generalize σ1.push (.rng 0 ((r j).map ov).length 1) = σ2 at *
    simp (disch := decide) only [ok_truthb, oks_nil, s_expr, exprK_at, s_var, varK_at, s_attr, attrK_at, attrK2_at, s_sub, subK_at, subK2_at, subK3_at, s_ite, iteK_t, iteK_f, s_ret, retK_at, s_ret0, s_pass, runK_some, runK_none, forK_at, turnK_none, turnK_some, whlK_t, whlK_f, tt_not, tt_band, tt_bor, tt_bool, tt_loc, tt_cmp, tt_cmp2, tt_call, tt_meth, tt_isi, tt_attr, tt_sub, tt_bin, tnotF_t, tnotF_f, ta_nil, ta_cons, andF_t, andF_f, to_nil, to_cons, orF_t, orF_f, e_none, e_bool, e_int, e_str, e_loc, e_bin, binF_at, e_not, notF_at, notF2_t, notF2_f, e_band, e_bor, e_cmp, cmpF_at, e_cmp2, cmpG_t, cmpG_f, e_list, listF_at, e_tup, tupF_at, e_dict0, e_attr, attrF_at, e_sub, subF_at, e_slice, e_call, e_meth, methF_at, e_bi, e_isi, isiF_at, boolF_at, e_comp, es_nil, es_cons, consF_at, consF2_at, ok_bind, bindK_at, bind_pure, bind_lift, ok_pure, ok_lift, List.zip_cons_cons, List.zip_nil_right, List.zip_nil_left, List.foldl_cons, List.foldl_nil, upd_def, Nat.reduceBEq, bif_t, bif_f, if_true, if_false, Bool.false_eq_true, reduceCtorEq, Nat.reduceEqDiff, ne_eq, not_false_eq_true, not_true_eq_false, decide_true, decide_false, Bool.not_true, Bool.not_false]
    refine then_step rfl ?_
    simp (disch := decide) only [e1, mx_inst A2.p A2.d, s_expr, exprK_at, s_var, varK_at, s_attr, attrK_at, attrK2_at, s_sub, subK_at, subK2_at, subK3_at, s_ite, iteK_t, iteK_f, s_ret, retK_at, s_ret0, s_pass, runK_some, runK_none, forK_at, turnK_none, turnK_some, whlK_t, whlK_f, tt_not, tt_band, tt_bor, tt_bool, tt_loc, tt_cmp, tt_cmp2, tt_call, tt_meth, tt_isi, tt_attr, tt_sub, tt_bin, tnotF_t, tnotF_f, ta_nil, ta_cons, andF_t, andF_f, to_nil, to_cons, orF_t, orF_f, e_none, e_bool, e_int, e_str, e_loc, e_bin, binF_at, e_not, notF_at, notF2_t, notF2_f, e_band, e_bor, e_cmp, cmpF_at, e_cmp2, cmpG_t, cmpG_f, e_list, listF_at, e_tup, tupF_at, e_dict0, e_attr, attrF_at, e_sub, subF_at, e_slice, e_call, e_meth, methF_at, e_bi, e_isi, isiF_at, boolF_at, e_comp, es_nil, es_cons, consF_at, consF2_at, ok_bind, bindK_at, bind_pure, bind_lift, ok_pure, ok_lift, List.zip_cons_cons, List.zip_nil_right, List.zip_nil_left, List.foldl_cons, List.foldl_nil, upd_def, Nat.reduceBEq, bif_t, bif_f, if_true, if_false, Bool.false_eq_true, reduceCtorEq, Nat.reduceEqDiff, ne_eq, not_false_eq_true, not_true_eq_false, decide_true, decide_false, Bool.not_true, Bool.not_false]
    refine weighs_ok A2 hj ?_
    simp (disch := decide) only [s_expr, exprK_at, s_var, varK_at, s_attr, attrK_at, attrK2_at, s_sub, subK_at, subK2_at, subK3_at, s_ite, iteK_t, iteK_f, s_ret, retK_at, s_ret0, s_pass, runK_some, runK_none, forK_at, turnK_none, turnK_some, whlK_t, whlK_f, tt_not, tt_band, tt_bor, tt_bool, tt_loc, tt_cmp, tt_cmp2, tt_call, tt_meth, tt_isi, tt_attr, tt_sub, tt_bin, tnotF_t, tnotF_f, ta_nil, ta_cons, andF_t, andF_f, to_nil, to_cons, orF_t, orF_f, e_none, e_bool, e_int, e_str, e_loc, e_bin, binF_at, e_not, notF_at, notF2_t, notF2_f, e_band, e_bor, e_cmp, cmpF_at, e_cmp2, cmpG_t, cmpG_f, e_list, listF_at, e_tup, tupF_at, e_dict0, e_attr, attrF_at, e_sub, subF_at, e_slice, e_call, e_meth, methF_at, e_bi, e_isi, isiF_at, boolF_at, e_comp, es_nil, es_cons, consF_at, consF2_at, ok_bind, bindK_at, bind_pure, bind_lift, ok_pure, ok_lift, List.zip_cons_cons, List.zip_nil_right, List.zip_nil_left, List.foldl_cons, List.foldl_nil, upd_def, Nat.reduceBEq, bif_t, bif_f, if_true, if_false, Bool.false_eq_true, reduceCtorEq, Nat.reduceEqDiff, ne_eq, not_false_eq_true, not_true_eq_false, decide_true, decide_false, Bool.not_true, Bool.not_false]
    refine whole_ok hL ?_
    simp (disch := decide) only [ok_truthb, e1, mx_inst A2.p A2.d, s_expr, exprK_at, s_var, varK_at, s_attr, attrK_at, attrK2_at, s_sub, subK_at, subK2_at, subK3_at, s_ite, iteK_t, iteK_f, s_ret, retK_at, s_ret0, s_pass, runK_some, runK_none, forK_at, turnK_none, turnK_some, whlK_t, whlK_f, tt_not, tt_band, tt_bor, tt_bool, tt_loc, tt_cmp, tt_cmp2, tt_call, tt_meth, tt_isi, tt_attr, tt_sub, tt_bin, tnotF_t, tnotF_f, ta_nil, ta_cons, andF_t, andF_f, to_nil, to_cons, orF_t, orF_f, e_none, e_bool, e_int, e_str, e_loc, e_bin, binF_at, e_not, notF_at, notF2_t, notF2_f, e_band, e_bor, e_cmp, cmpF_at, e_cmp2, cmpG_t, cmpG_f, e_list, listF_at, e_tup, tupF_at, e_dict0, e_attr, attrF_at, e_sub, subF_at, e_slice, e_call, e_meth, methF_at, e_bi, e_isi, isiF_at, boolF_at, e_comp, es_nil, es_cons, consF_at, consF2_at, ok_bind, bindK_at, bind_pure, bind_lift, ok_pure, ok_lift, List.zip_cons_cons, List.zip_nil_right, List.zip_nil_left, List.foldl_cons, List.foldl_nil, upd_def, Nat.reduceBEq, bif_t, bif_f, if_true, if_false, Bool.false_eq_true, reduceCtorEq, Nat.reduceEqDiff, ne_eq, not_false_eq_true, not_true_eq_false, decide_true, decide_false, Bool.not_true, Bool.not_false]
    refine weighs_ok A2 hj ?_
    simp (disch := decide) only [e2, e3, s_expr, exprK_at, s_var, varK_at, s_attr, attrK_at, attrK2_at, s_sub, subK_at, subK2_at, subK3_at, s_ite, iteK_t, iteK_f, s_ret, retK_at, s_ret0, s_pass, runK_some, runK_none, forK_at, turnK_none, turnK_some, whlK_t, whlK_f, tt_not, tt_band, tt_bor, tt_bool, tt_loc, tt_cmp, tt_cmp2, tt_call, tt_meth, tt_isi, tt_attr, tt_sub, tt_bin, tnotF_t, tnotF_f, ta_nil, ta_cons, andF_t, andF_f, to_nil, to_cons, orF_t, orF_f, e_none, e_bool, e_int, e_str, e_loc, e_bin, binF_at, e_not, notF_at, notF2_t, notF2_f, e_band, e_bor, e_cmp, cmpF_at, e_cmp2, cmpG_t, cmpG_f, e_list, listF_at, e_tup, tupF_at, e_dict0, e_attr, attrF_at, e_sub, subF_at, e_slice, e_call, e_meth, methF_at, e_bi, e_isi, isiF_at, boolF_at, e_comp, es_nil, es_cons, consF_at, consF2_at, ok_bind, bindK_at, bind_pure, bind_lift, ok_pure, ok_lift, List.zip_cons_cons, List.zip_nil_right, List.zip_nil_left, List.foldl_cons, List.foldl_nil, upd_def, Nat.reduceBEq, bif_t, bif_f, if_true, if_false, Bool.false_eq_true, reduceCtorEq, Nat.reduceEqDiff, ne_eq, not_false_eq_true, not_true_eq_false, decide_true, decide_false, Bool.not_true, Bool.not_false]
    refine pointers_ok l2 (by have := I.hl; lia) (fun b hb => by have := I.rl b hb; lia) fun σ3 k3 kk => ?_
    rw [← I.ct j hj]
    simp (disch := decide) only [ok_neI, ok_truthb, oks_nil, s_expr, exprK_at, s_var, varK_at, s_attr, attrK_at, attrK2_at, s_sub, subK_at, subK2_at, subK3_at, s_ite, iteK_t, iteK_f, s_ret, retK_at, s_ret0, s_pass, runK_some, runK_none, forK_at, turnK_none, turnK_some, whlK_t, whlK_f, tt_not, tt_band, tt_bor, tt_bool, tt_loc, tt_cmp, tt_cmp2, tt_call, tt_meth, tt_isi, tt_attr, tt_sub, tt_bin, tnotF_t, tnotF_f, ta_nil, ta_cons, andF_t, andF_f, to_nil, to_cons, orF_t, orF_f, e_none, e_bool, e_int, e_str, e_loc, e_bin, binF_at, e_not, notF_at, notF2_t, notF2_f, e_band, e_bor, e_cmp, cmpF_at, e_cmp2, cmpG_t, cmpG_f, e_list, listF_at, e_tup, tupF_at, e_dict0, e_attr, attrF_at, e_sub, subF_at, e_slice, e_call, e_meth, methF_at, e_bi, e_isi, isiF_at, boolF_at, e_comp, es_nil, es_cons, consF_at, consF2_at, ok_bind, bindK_at, bind_pure, bind_lift, ok_pure, ok_lift, List.zip_cons_cons, List.zip_nil_right, List.zip_nil_left, List.foldl_cons, List.foldl_nil, upd_def, Nat.reduceBEq, bif_t, bif_f, if_true, if_false, Bool.false_eq_true, reduceCtorEq, Nat.reduceEqDiff, ne_eq, not_false_eq_true, not_true_eq_false, decide_true, decide_false, Bool.not_true, Bool.not_false]
    have k3' := k2.trans k3
    refine ⟨rfl, still_get ?_, e1, e2, e3, ⟨kk _ _ A2.d, kk _ _ A2.p, kk _ _ A2.h, kk _ _ A2.b, kk _ _ A2.w', kk _ _ A2.q', fun b hb => kk _ _ (A2.bx b hb)⟩, k3'⟩
    rw [gr]; exact k3' _ _ ow gr
  · rintro lc σj ⟨e1, e2, e3, Aj, kj⟩
    have lj := (l.kp k0).kp kj
    refine then_step rfl ?_
    simp (disch := decide) only [ok_range1, s_expr, exprK_at, s_var, varK_at, s_attr, attrK_at, attrK2_at, s_sub, subK_at, subK2_at, subK3_at, s_ite, iteK_t, iteK_f, s_ret, retK_at, s_ret0, s_pass, runK_some, runK_none, forK_at, turnK_none, turnK_some, whlK_t, whlK_f, tt_not, tt_band, tt_bor, tt_bool, tt_loc, tt_cmp, tt_cmp2, tt_call, tt_meth, tt_isi, tt_attr, tt_sub, tt_bin, tnotF_t, tnotF_f, ta_nil, ta_cons, andF_t, andF_f, to_nil, to_cons, orF_t, orF_f, e_none, e_bool, e_int, e_str, e_loc, e_bin, binF_at, e_not, notF_at, notF2_t, notF2_f, e_band, e_bor, e_cmp, cmpF_at, e_cmp2, cmpG_t, cmpG_f, e_list, listF_at, e_tup, tupF_at, e_dict0, e_attr, attrF_at, e_sub, subF_at, e_slice, e_call, e_meth, methF_at, e_bi, e_isi, isiF_at, boolF_at, e_comp, es_nil, es_cons, consF_at, consF2_at, ok_bind, bindK_at, bind_pure, bind_lift, ok_pure, ok_lift, List.zip_cons_cons, List.zip_nil_right, List.zip_nil_left, List.foldl_cons, List.foldl_nil, upd_def, Nat.reduceBEq, bif_t, bif_f, if_true, if_false, Bool.false_eq_true, reduceCtorEq, Nat.reduceEqDiff, ne_eq, not_false_eq_true, not_true_eq_false, decide_true, decide_false, Bool.not_true, Bool.not_false]
    have g8 : (σj.push (.rng 0 8 1)).get σj.length = some (.rng 0 8 1) := get_push_eq
    have A1 := Aj.push (.rng 0 8 1)
    rw [comp_hands A1 I.hl g8 e1]
    have A2 := A1.push (.list (hs.map ov))
    have l2 := (lj.push (.rng 0 8 1)).push (.list (hs.map ov))
    have k2 := (k0.trans kj).push (.rng 0 8 1) |>.push (.list (hs.map ov))
    have g2 : ((σj.push (.rng 0 8 1)).push (.list (hs.map ov))).get (σj.push (.rng 0 8 1)).length = some (.list (hs.map ov)) := get_push_eq
    generalize (σj.push (.rng 0 8 1)).push (.list (hs.map ov)) = σ2 at *
    generalize (σj.push (.rng 0 8 1)).length = a2 at *
    simp (disch := decide) only [e2, s_expr, exprK_at, s_var, varK_at, s_attr, attrK_at, attrK2_at, s_sub, subK_at, subK2_at, subK3_at, s_ite, iteK_t, iteK_f, s_ret, retK_at, s_ret0, s_pass, runK_some, runK_none, forK_at, turnK_none, turnK_some, whlK_t, whlK_f, tt_not, tt_band, tt_bor, tt_bool, tt_loc, tt_cmp, tt_cmp2, tt_call, tt_meth, tt_isi, tt_attr, tt_sub, tt_bin, tnotF_t, tnotF_f, ta_nil, ta_cons, andF_t, andF_f, to_nil, to_cons, orF_t, orF_f, e_none, e_bool, e_int, e_str, e_loc, e_bin, binF_at, e_not, notF_at, notF2_t, notF2_f, e_band, e_bor, e_cmp, cmpF_at, e_cmp2, cmpG_t, cmpG_f, e_list, listF_at, e_tup, tupF_at, e_dict0, e_attr, attrF_at, e_sub, subF_at, e_slice, e_call, e_meth, methF_at, e_bi, e_isi, isiF_at, boolF_at, e_comp, es_nil, es_cons, consF_at, consF2_at, ok_bind, bindK_at, bind_pure, bind_lift, ok_pure, ok_lift, List.zip_cons_cons, List.zip_nil_right, List.zip_nil_left, List.foldl_cons, List.foldl_nil, upd_def, Nat.reduceBEq, bif_t, bif_f, if_true, if_false, Bool.false_eq_true, reduceCtorEq, Nat.reduceEqDiff, ne_eq, not_false_eq_true, not_true_eq_false, decide_true, decide_false, Bool.not_true, Bool.not_false]
    refine numbers_ok hL g2 l2.hl ovs (by rw [List.length_map, I.hl]; decide) ?_
    exact h _ (A2.push _) (k2.push _)
end
end Mine.L03

set_option autoImplicit false
set_option linter.unusedSimpArgs false
set_option linter.unusedVariables false
namespace Mine.L03
open Mine
open PySem (Str PyData)

section
variable {hs : List (Option Nat)} {r : Nat → List (Option Nat)} {w : Nat → Nat} {z : Nat → Nat}
theorem aw {x : Option Nat} {k : Nat} : addW w x k = w k + (if x == some k then 1 else 0) := by
  cases x with
  | none => rfl
  | some j =>
    show updF w j (w j + 1) k = _
    unfold updF
    by_cases h : k = j
    · subst h; simp
    · rw [if_neg h, if_neg (by simpa using fun e => h e.symm)]; rfl
theorem sw {x : Option Nat} {k : Nat} : subW w x k = w k - (if x == some k then 1 else 0) := by
  cases x with
  | none => rfl
  | some j =>
    show updF w j (w j - 1) k = _
    unfold updF
    by_cases h : k = j
    · subst h; simp
    · rw [if_neg h, if_neg (by simpa using fun e => h e.symm)]; rfl
theorem Inv.mem (I : Inv z hs r w) : ∀ {b i k : Nat}, b < 2 → ((r b)[i]?).getD none = some k → k < 2
  | 0, i, k, _, e => by
    cases h : (r 0)[i]? with
    | none => rw [h] at e; cases e
    | some y => rw [h] at e; exact I.kn y (List.mem_append_left _ (List.mem_append_right _ (List.mem_of_getElem? h))) k e
  | 1, i, k, _, e => by
    cases h : (r 1)[i]? with
    | none => rw [h] at e; cases e
    | some y => rw [h] at e; exact I.kn y (List.mem_append_right _ (List.mem_of_getElem? h)) k e
theorem Inv.memH (I : Inv z hs r w) {i k : Nat} (e : (hs[i]?).getD none = some k) : k < 2 := by
  cases h : hs[i]? with
  | none => rw [h] at e; cases e
  | some y => rw [h] at e; exact I.kn y (List.mem_append_left _ (List.mem_append_left _ (List.mem_of_getElem? h))) k e
theorem Inv.held (I : Inv z hs r w) {m : Nat} (hm : m < 2) : 0 < hs.count (some m) := List.count_pos_iff.mpr (List.mem_of_getElem? (I.h6 m hm))
theorem Inv.two (I : Inv z hs r w) {b i m : Nat} (hb : b < 2) (hi : i < (r b).length) (x : Option Nat) (e : ((r b)[i]?).getD none = some m) : m < 2 ∧ 1 < addW w x m := by
  have hm := I.mem hb e
  have h1 := I.held hm
  have h2 := count_set (x := none) (y := some m) hi
  rw [e] at h2
  simp only [BEq.rfl, if_true] at h2
  have h3 : w m = _ := I.ct m hm
  have h4 : 0 < (r b).count (some m) := by lia
  have h5 : (r b).count (some m) ≤ (r 0).count (some m) + (r 1).count (some m) := by
    match b, hb with
    | 0, _ => lia
    | 1, _ => lia
  refine ⟨hm, ?_⟩
  rw [aw]; lia
theorem Inv.twoH (I : Inv z hs r w) {i m : Nat} (hi : i < 6) (x : Option Nat) (e : (hs[i]?).getD none = some m) : m < 2 ∧ 1 < addW w x m := by
  have hm := I.memH e
  have h2 := count_set (x := none) (y := some m) (show i < hs.length by have := I.hl; lia)
  rw [e] at h2
  simp only [BEq.rfl, if_true] at h2
  have h3 : w m = _ := I.ct m hm
  have h4 : 0 < (hs.set i none).count (some m) := by
    refine List.count_pos_iff.mpr (List.mem_of_getElem? (i := 6 + m) ?_)
    rw [List.getElem?_set_ne (by lia)]; exact I.h6 m hm
  refine ⟨hm, ?_⟩
  rw [aw]; lia
theorem inv_slot (I : Inv z hs r w) {i : Nat} {x : Option Nat} (hx : ∀ k, x = some k → k < 2) : ∀ {b : Nat}, b < 2 → i < (r b).length → Inv z hs (updF r b ((r b).set i x)) (subW (addW w x) (((r b)[i]?).getD none))
  | 0, _, hi => by
    refine ⟨I.hl, fun c hc => ?_, I.h6, fun y hy => ?_, fun k hk => ?_⟩
    · match c, hc with
      | 0, _ => exact ⟨List.length_set.trans (I.rl 0 (by decide)).1, (I.rl 0 (by decide)).2⟩
      | 1, _ => exact I.rl 1 (by decide)
    · rcases List.mem_append.mp hy with hy | hy
      · rcases List.mem_append.mp hy with hy | hy
        · exact I.kn y (List.mem_append_left _ (List.mem_append_left _ hy))
        · rcases List.mem_or_eq_of_mem_set (show y ∈ (r 0).set i x from hy) with hy | rfl
          · exact I.kn y (List.mem_append_left _ (List.mem_append_right _ hy))
          · exact hx
      · exact I.kn y (List.mem_append_right _ hy)
    · have h1 := count_set (x := x) (y := some k) hi
      have h2 := I.ct k hk
      show subW (addW w x) _ k = hs.count (some k) + ((r 0).set i x).count (some k) + (r 1).count (some k)
      rw [sw, aw]; lia
  | 1, _, hi => by
    refine ⟨I.hl, fun c hc => ?_, I.h6, fun y hy => ?_, fun k hk => ?_⟩
    · match c, hc with
      | 0, _ => exact I.rl 0 (by decide)
      | 1, _ => exact ⟨List.length_set.trans (I.rl 1 (by decide)).1, (I.rl 1 (by decide)).2⟩
    · rcases List.mem_append.mp hy with hy | hy
      · exact I.kn y (List.mem_append_left _ hy)
      · rcases List.mem_or_eq_of_mem_set (show y ∈ (r 1).set i x from hy) with hy | rfl
        · exact I.kn y (List.mem_append_right _ hy)
        · exact hx
    · have h1 := count_set (x := x) (y := some k) hi
      have h2 := I.ct k hk
      show subW (addW w x) _ k = hs.count (some k) + (r 0).count (some k) + ((r 1).set i x).count (some k)
      rw [sw, aw]; lia
theorem inv_hand (I : Inv z hs r w) {i : Nat} {x : Option Nat} (hx : ∀ k, x = some k → k < 2) (hi : i < 6) : Inv z (hs.set i x) r (subW (addW w x) ((hs[i]?).getD none)) := by
  have hl := I.hl
  refine ⟨List.length_set.trans hl, I.rl, fun b hb => ?_, fun y hy => ?_, fun k hk => ?_⟩
  · rw [List.getElem?_set_ne (by lia)]; exact I.h6 b hb
  · rcases List.mem_append.mp hy with hy | hy
    · rcases List.mem_append.mp hy with hy | hy
      · rcases List.mem_or_eq_of_mem_set hy with hy | rfl
        · exact I.kn y (List.mem_append_left _ (List.mem_append_left _ hy))
        · exact hx
      · exact I.kn y (List.mem_append_left _ (List.mem_append_right _ hy))
    · exact I.kn y (List.mem_append_right _ hy)
  · have h1 := count_set (x := x) (y := some k) (show i < hs.length by lia)
    have h2 := I.ct k hk
    rw [sw, aw]; lia
theorem addQ_len {q : List Nat} {x : Option Nat} : (addQ q x).length ≤ q.length + 1 := by
  cases x with
  | none => exact Nat.le_succ _
  | some k => show (addN q k).length ≤ _; unfold addN; split <;> simp
end

section
variable {σ : H} {hs : List (Option Nat)} {r : Nat → List (Option Nat)} {w : Nat → Nat} {q : List Nat} {z : Nat → Nat} {d D : Nat} {Q : V → H → Prop}
abbrev sPut : Str := .ofString "put"
abbrev sEmp : Str := .ofString "empty"
abbrev sTak : Str := .ofString "take"
abbrev sNo : Str := .ofString "no slot"
theorem ok_eqS {a b : Str} {Q : V → H → Prop} : Ok (cmpop prog .Eq (.str a) (.str b)) σ Q = Q (.bool (PyData.eqv (.str a) (.str b))) σ := rfl
theorem ok_neS {a b : Str} {Q : V → H → Prop} : Ok (cmpop prog .NotEq (.str a) (.str b)) σ Q = Q (.bool (!PyData.eqv (.str a) (.str b))) σ := rfl
theorem q1 : PyData.eqv (.str sPut) (.str sPut) = true := by kernel_rfl
theorem q2 : PyData.eqv (.str sEmp) (.str sPut) = false := by kernel_rfl
theorem q3 : PyData.eqv (.str sTak) (.str sPut) = false := by kernel_rfl
theorem q4 : PyData.eqv (.str sEmp) (.str sEmp) = true := by kernel_rfl
theorem q5 : PyData.eqv (.str sTak) (.str sEmp) = false := by kernel_rfl
theorem q6 : PyData.eqv (.str sNo) (.str sNo) = true := by kernel_rfl
theorem qk : kstV (.cstr sNo) = some (.str sNo) := by kernel_rfl
noncomputable def tp (s : Str) (a b c : Nat) : O := .tup [.str s, .int (a : Int), .int (b : Int), .int (c : Int)]
theorem t0 {s : Str} {a b c : Nat} (h : σ.get D = some (tp s a b c)) {Q : V → H → Prop} : Ok (getItem prog (.ref D) (.int 0)) σ Q = Q (.str s) σ := ok_getTup h (by decide) rfl
theorem t1 {s : Str} {a b c : Nat} (h : σ.get D = some (tp s a b c)) {Q : V → H → Prop} : Ok (getItem prog (.ref D) (.int 1)) σ Q = Q (.int (a : Int)) σ := ok_getTup h (by decide) rfl
theorem t2 {s : Str} {a b c : Nat} (h : σ.get D = some (tp s a b c)) {Q : V → H → Prop} : Ok (getItem prog (.ref D) (.int 2)) σ Q = Q (.int (b : Int)) σ := ok_getTup h (by decide) rfl
theorem t3 {s : Str} {a b c : Nat} (h : σ.get D = some (tp s a b c)) {Q : V → H → Prop} : Ok (getItem prog (.ref D) (.int 3)) σ Q = Q (.int (c : Int)) σ := ok_getTup h (by decide) rfl
theorem h6d (I : Inv z hs r w) {b : Nat} (hb : b < 2) : (hs[6 + b]?).getD none = some b := by rw [I.h6 b hb]; rfl

theorem done_put {b i j : Nat} (A : Pl σ hs r w q) (I : Inv z hs r w) (hD : σ.get D = some (tp sPut (6 + b) i j)) (hb : b < 2) (hj : j < 8) (hi : i < (r b).length) (hq : q.length ≤ 100)
    (h : ∀ σ' f q', Pl σ' hs (updF r b ((r b).set i ((hs[j]?).getD none))) (subW (addW w ((hs[j]?).getD none)) (((r b)[i]?).getD none)) q' → q'.length ≤ q.length + 1 → Kp σ σ' → σ'.get f = some (.list []) → Q (.ref f) σ') : Ok (run prog 1000 (d + 5) false 86 [.ref 2, .ref D]) σ Q := by
  rw [ok_run (fd := f__law_done) rfl rfl]
  unfold f__law_done
  refine oks_step rfl (s_try_ok ?_)
  refine oks_step rfl ?_
  simp (disch := decide) only [t0 hD, ok_eqS, q1, ok_truthb, s_expr, exprK_at, s_var, varK_at, s_attr, attrK_at, attrK2_at, s_sub, subK_at, subK2_at, subK3_at, s_ite, iteK_t, iteK_f, s_ret, retK_at, s_ret0, s_pass, runK_some, runK_none, forK_at, turnK_none, turnK_some, whlK_t, whlK_f, tt_not, tt_band, tt_bor, tt_bool, tt_loc, tt_cmp, tt_cmp2, tt_call, tt_meth, tt_isi, tt_attr, tt_sub, tt_bin, tnotF_t, tnotF_f, ta_nil, ta_cons, andF_t, andF_f, to_nil, to_cons, orF_t, orF_f, e_none, e_bool, e_int, e_str, e_loc, e_bin, binF_at, e_not, notF_at, notF2_t, notF2_f, e_band, e_bor, e_cmp, cmpF_at, e_cmp2, cmpG_t, cmpG_f, e_list, listF_at, e_tup, tupF_at, e_dict0, e_attr, attrF_at, e_sub, subF_at, e_slice, e_call, e_meth, methF_at, e_bi, e_isi, isiF_at, boolF_at, e_comp, es_nil, es_cons, consF_at, consF2_at, ok_bind, bindK_at, bind_pure, bind_lift, ok_pure, ok_lift, List.zip_cons_cons, List.zip_nil_right, List.zip_nil_left, List.foldl_cons, List.foldl_nil, upd_def, Nat.reduceBEq, bif_t, bif_f, if_true, if_false, Bool.false_eq_true, reduceCtorEq, Nat.reduceEqDiff, ne_eq, not_false_eq_true, not_true_eq_false, decide_true, decide_false, Bool.not_true, Bool.not_false]
  refine oks_step rfl ?_
  simp (disch := decide) only [mx_inst A.p A.d, t1 hD, t2 hD, t3 hD, s_expr, exprK_at, s_var, varK_at, s_attr, attrK_at, attrK2_at, s_sub, subK_at, subK2_at, subK3_at, s_ite, iteK_t, iteK_f, s_ret, retK_at, s_ret0, s_pass, runK_some, runK_none, forK_at, turnK_none, turnK_some, whlK_t, whlK_f, tt_not, tt_band, tt_bor, tt_bool, tt_loc, tt_cmp, tt_cmp2, tt_call, tt_meth, tt_isi, tt_attr, tt_sub, tt_bin, tnotF_t, tnotF_f, ta_nil, ta_cons, andF_t, andF_f, to_nil, to_cons, orF_t, orF_f, e_none, e_bool, e_int, e_str, e_loc, e_bin, binF_at, e_not, notF_at, notF2_t, notF2_f, e_band, e_bor, e_cmp, cmpF_at, e_cmp2, cmpG_t, cmpG_f, e_list, listF_at, e_tup, tupF_at, e_dict0, e_attr, attrF_at, e_sub, subF_at, e_slice, e_call, e_meth, methF_at, e_bi, e_isi, isiF_at, boolF_at, e_comp, es_nil, es_cons, consF_at, consF2_at, ok_bind, bindK_at, bind_pure, bind_lift, ok_pure, ok_lift, List.zip_cons_cons, List.zip_nil_right, List.zip_nil_left, List.foldl_cons, List.foldl_nil, upd_def, Nat.reduceBEq, bif_t, bif_f, if_true, if_false, Bool.false_eq_true, reduceCtorEq, Nat.reduceEqDiff, ne_eq, not_false_eq_true, not_true_eq_false, decide_true, decide_false, Bool.not_true, Bool.not_false]
  exact put_ok A I.hl (by lia) hj (h6d I hb) hb hi (fun k e => I.memH e) (fun m e => I.two hb hi _ e) hq fun σ' f A' k' g' => h σ' f _ A' addQ_len k' g'
theorem done_empty {b i j : Nat} (A : Pl σ hs r w q) (I : Inv z hs r w) (hD : σ.get D = some (tp sEmp (6 + b) i j)) (hb : b < 2) (hi : i < (r b).length) (hq : q.length ≤ 100)
    (h : ∀ σ' f q', Pl σ' hs (updF r b ((r b).set i none)) (subW (addW w none) (((r b)[i]?).getD none)) q' → q'.length ≤ q.length + 1 → Kp σ σ' → σ'.get f = some (.list []) → Q (.ref f) σ') : Ok (run prog 1000 (d + 5) false 86 [.ref 2, .ref D]) σ Q := by
  rw [ok_run (fd := f__law_done) rfl rfl]
  unfold f__law_done
  refine oks_step rfl (s_try_ok ?_)
  refine oks_step rfl ?_
  simp (disch := decide) only [t0 hD, ok_eqS, q2, ok_truthb, oks_nil, s_expr, exprK_at, s_var, varK_at, s_attr, attrK_at, attrK2_at, s_sub, subK_at, subK2_at, subK3_at, s_ite, iteK_t, iteK_f, s_ret, retK_at, s_ret0, s_pass, runK_some, runK_none, forK_at, turnK_none, turnK_some, whlK_t, whlK_f, tt_not, tt_band, tt_bor, tt_bool, tt_loc, tt_cmp, tt_cmp2, tt_call, tt_meth, tt_isi, tt_attr, tt_sub, tt_bin, tnotF_t, tnotF_f, ta_nil, ta_cons, andF_t, andF_f, to_nil, to_cons, orF_t, orF_f, e_none, e_bool, e_int, e_str, e_loc, e_bin, binF_at, e_not, notF_at, notF2_t, notF2_f, e_band, e_bor, e_cmp, cmpF_at, e_cmp2, cmpG_t, cmpG_f, e_list, listF_at, e_tup, tupF_at, e_dict0, e_attr, attrF_at, e_sub, subF_at, e_slice, e_call, e_meth, methF_at, e_bi, e_isi, isiF_at, boolF_at, e_comp, es_nil, es_cons, consF_at, consF2_at, ok_bind, bindK_at, bind_pure, bind_lift, ok_pure, ok_lift, List.zip_cons_cons, List.zip_nil_right, List.zip_nil_left, List.foldl_cons, List.foldl_nil, upd_def, Nat.reduceBEq, bif_t, bif_f, if_true, if_false, Bool.false_eq_true, reduceCtorEq, Nat.reduceEqDiff, ne_eq, not_false_eq_true, not_true_eq_false, decide_true, decide_false, Bool.not_true, Bool.not_false]
  refine then_step rfl ?_
  simp (disch := decide) only [t0 hD, ok_eqS, q4, ok_truthb, s_expr, exprK_at, s_var, varK_at, s_attr, attrK_at, attrK2_at, s_sub, subK_at, subK2_at, subK3_at, s_ite, iteK_t, iteK_f, s_ret, retK_at, s_ret0, s_pass, runK_some, runK_none, forK_at, turnK_none, turnK_some, whlK_t, whlK_f, tt_not, tt_band, tt_bor, tt_bool, tt_loc, tt_cmp, tt_cmp2, tt_call, tt_meth, tt_isi, tt_attr, tt_sub, tt_bin, tnotF_t, tnotF_f, ta_nil, ta_cons, andF_t, andF_f, to_nil, to_cons, orF_t, orF_f, e_none, e_bool, e_int, e_str, e_loc, e_bin, binF_at, e_not, notF_at, notF2_t, notF2_f, e_band, e_bor, e_cmp, cmpF_at, e_cmp2, cmpG_t, cmpG_f, e_list, listF_at, e_tup, tupF_at, e_dict0, e_attr, attrF_at, e_sub, subF_at, e_slice, e_call, e_meth, methF_at, e_bi, e_isi, isiF_at, boolF_at, e_comp, es_nil, es_cons, consF_at, consF2_at, ok_bind, bindK_at, bind_pure, bind_lift, ok_pure, ok_lift, List.zip_cons_cons, List.zip_nil_right, List.zip_nil_left, List.foldl_cons, List.foldl_nil, upd_def, Nat.reduceBEq, bif_t, bif_f, if_true, if_false, Bool.false_eq_true, reduceCtorEq, Nat.reduceEqDiff, ne_eq, not_false_eq_true, not_true_eq_false, decide_true, decide_false, Bool.not_true, Bool.not_false]
  refine oks_step rfl ?_
  simp (disch := decide) only [mx_inst A.p A.d, t1 hD, t2 hD, s_expr, exprK_at, s_var, varK_at, s_attr, attrK_at, attrK2_at, s_sub, subK_at, subK2_at, subK3_at, s_ite, iteK_t, iteK_f, s_ret, retK_at, s_ret0, s_pass, runK_some, runK_none, forK_at, turnK_none, turnK_some, whlK_t, whlK_f, tt_not, tt_band, tt_bor, tt_bool, tt_loc, tt_cmp, tt_cmp2, tt_call, tt_meth, tt_isi, tt_attr, tt_sub, tt_bin, tnotF_t, tnotF_f, ta_nil, ta_cons, andF_t, andF_f, to_nil, to_cons, orF_t, orF_f, e_none, e_bool, e_int, e_str, e_loc, e_bin, binF_at, e_not, notF_at, notF2_t, notF2_f, e_band, e_bor, e_cmp, cmpF_at, e_cmp2, cmpG_t, cmpG_f, e_list, listF_at, e_tup, tupF_at, e_dict0, e_attr, attrF_at, e_sub, subF_at, e_slice, e_call, e_meth, methF_at, e_bi, e_isi, isiF_at, boolF_at, e_comp, es_nil, es_cons, consF_at, consF2_at, ok_bind, bindK_at, bind_pure, bind_lift, ok_pure, ok_lift, List.zip_cons_cons, List.zip_nil_right, List.zip_nil_left, List.foldl_cons, List.foldl_nil, upd_def, Nat.reduceBEq, bif_t, bif_f, if_true, if_false, Bool.false_eq_true, reduceCtorEq, Nat.reduceEqDiff, ne_eq, not_false_eq_true, not_true_eq_false, decide_true, decide_false, Bool.not_true, Bool.not_false]
  exact empty_ok A I.hl (by lia) (h6d I hb) hb hi (fun m e => I.two hb hi none e) hq fun σ' f A' k' g' => h σ' f _ A' addQ_len k' g'
theorem done_take {b i k : Nat} (A : Pl σ hs r w q) (I : Inv z hs r w) (hD : σ.get D = some (tp sTak k i (6 + b))) (hb : b < 2) (hk : k < 6) (hi : i < (r b).length) (hq : q.length ≤ 100)
    (h : ∀ σ' f q', Pl σ' (hs.set k (((r b)[i]?).getD none)) r (subW (addW w (((r b)[i]?).getD none)) ((hs[k]?).getD none)) q' → q'.length ≤ q.length + 1 → Kp σ σ' → σ'.get f = some (.list []) → Q (.ref f) σ') : Ok (run prog 1000 (d + 5) false 86 [.ref 2, .ref D]) σ Q := by
  rw [ok_run (fd := f__law_done) rfl rfl]
  unfold f__law_done
  refine oks_step rfl (s_try_ok ?_)
  refine oks_step rfl ?_
  simp (disch := decide) only [t0 hD, ok_eqS, q3, ok_truthb, oks_nil, s_expr, exprK_at, s_var, varK_at, s_attr, attrK_at, attrK2_at, s_sub, subK_at, subK2_at, subK3_at, s_ite, iteK_t, iteK_f, s_ret, retK_at, s_ret0, s_pass, runK_some, runK_none, forK_at, turnK_none, turnK_some, whlK_t, whlK_f, tt_not, tt_band, tt_bor, tt_bool, tt_loc, tt_cmp, tt_cmp2, tt_call, tt_meth, tt_isi, tt_attr, tt_sub, tt_bin, tnotF_t, tnotF_f, ta_nil, ta_cons, andF_t, andF_f, to_nil, to_cons, orF_t, orF_f, e_none, e_bool, e_int, e_str, e_loc, e_bin, binF_at, e_not, notF_at, notF2_t, notF2_f, e_band, e_bor, e_cmp, cmpF_at, e_cmp2, cmpG_t, cmpG_f, e_list, listF_at, e_tup, tupF_at, e_dict0, e_attr, attrF_at, e_sub, subF_at, e_slice, e_call, e_meth, methF_at, e_bi, e_isi, isiF_at, boolF_at, e_comp, es_nil, es_cons, consF_at, consF2_at, ok_bind, bindK_at, bind_pure, bind_lift, ok_pure, ok_lift, List.zip_cons_cons, List.zip_nil_right, List.zip_nil_left, List.foldl_cons, List.foldl_nil, upd_def, Nat.reduceBEq, bif_t, bif_f, if_true, if_false, Bool.false_eq_true, reduceCtorEq, Nat.reduceEqDiff, ne_eq, not_false_eq_true, not_true_eq_false, decide_true, decide_false, Bool.not_true, Bool.not_false]
  refine then_step rfl ?_
  simp (disch := decide) only [t0 hD, ok_eqS, q5, ok_truthb, oks_nil, s_expr, exprK_at, s_var, varK_at, s_attr, attrK_at, attrK2_at, s_sub, subK_at, subK2_at, subK3_at, s_ite, iteK_t, iteK_f, s_ret, retK_at, s_ret0, s_pass, runK_some, runK_none, forK_at, turnK_none, turnK_some, whlK_t, whlK_f, tt_not, tt_band, tt_bor, tt_bool, tt_loc, tt_cmp, tt_cmp2, tt_call, tt_meth, tt_isi, tt_attr, tt_sub, tt_bin, tnotF_t, tnotF_f, ta_nil, ta_cons, andF_t, andF_f, to_nil, to_cons, orF_t, orF_f, e_none, e_bool, e_int, e_str, e_loc, e_bin, binF_at, e_not, notF_at, notF2_t, notF2_f, e_band, e_bor, e_cmp, cmpF_at, e_cmp2, cmpG_t, cmpG_f, e_list, listF_at, e_tup, tupF_at, e_dict0, e_attr, attrF_at, e_sub, subF_at, e_slice, e_call, e_meth, methF_at, e_bi, e_isi, isiF_at, boolF_at, e_comp, es_nil, es_cons, consF_at, consF2_at, ok_bind, bindK_at, bind_pure, bind_lift, ok_pure, ok_lift, List.zip_cons_cons, List.zip_nil_right, List.zip_nil_left, List.foldl_cons, List.foldl_nil, upd_def, Nat.reduceBEq, bif_t, bif_f, if_true, if_false, Bool.false_eq_true, reduceCtorEq, Nat.reduceEqDiff, ne_eq, not_false_eq_true, not_true_eq_false, decide_true, decide_false, Bool.not_true, Bool.not_false]
  refine then_step rfl ?_
  simp (disch := decide) only [mx_inst A.p A.d, t1 hD, t2 hD, t3 hD, s_expr, exprK_at, s_var, varK_at, s_attr, attrK_at, attrK2_at, s_sub, subK_at, subK2_at, subK3_at, s_ite, iteK_t, iteK_f, s_ret, retK_at, s_ret0, s_pass, runK_some, runK_none, forK_at, turnK_none, turnK_some, whlK_t, whlK_f, tt_not, tt_band, tt_bor, tt_bool, tt_loc, tt_cmp, tt_cmp2, tt_call, tt_meth, tt_isi, tt_attr, tt_sub, tt_bin, tnotF_t, tnotF_f, ta_nil, ta_cons, andF_t, andF_f, to_nil, to_cons, orF_t, orF_f, e_none, e_bool, e_int, e_str, e_loc, e_bin, binF_at, e_not, notF_at, notF2_t, notF2_f, e_band, e_bor, e_cmp, cmpF_at, e_cmp2, cmpG_t, cmpG_f, e_list, listF_at, e_tup, tupF_at, e_dict0, e_attr, attrF_at, e_sub, subF_at, e_slice, e_call, e_meth, methF_at, e_bi, e_isi, isiF_at, boolF_at, e_comp, es_nil, es_cons, consF_at, consF2_at, ok_bind, bindK_at, bind_pure, bind_lift, ok_pure, ok_lift, List.zip_cons_cons, List.zip_nil_right, List.zip_nil_left, List.foldl_cons, List.foldl_nil, upd_def, Nat.reduceBEq, bif_t, bif_f, if_true, if_false, Bool.false_eq_true, reduceCtorEq, Nat.reduceEqDiff, ne_eq, not_false_eq_true, not_true_eq_false, decide_true, decide_false, Bool.not_true, Bool.not_false]
  exact take_ok A I.hl (by lia) (by lia) (h6d I hb) hb hi (fun k e => I.mem hb e) (fun m e => I.twoH hk _ e) hq fun σ' f A' k' g' => h σ' f _ A' addQ_len k' g'
theorem done_bad {b i j k : Nat} (A : Pl σ hs r w q) (I : Inv z hs r w) (hD : σ.get D = some (tp sPut (6 + b) i j) ∨ σ.get D = some (tp sEmp (6 + b) i j) ∨ σ.get D = some (tp sTak k i (6 + b))) (hb : b < 2) (hj : j < 8) (hk : k < 6) (hi : (r b).length ≤ i)
    (h : Q (.str sNo) σ) : Ok (run prog 1000 (d + 5) false 86 [.ref 2, .ref D]) σ Q := by
  rw [ok_run (fd := f__law_done) rfl rfl]
  unfold f__law_done
  refine oks_step rfl (s_try_err (σ' := σ) (v := .str sNo) ?_ qk fun l => h)
  rcases hD with hD | hD | hD
  · refine ers_cons1 (ers_ite (t := true) (σ₁ := σ) (ok_eq ?_) (ers_cons1 (ers_ret ?_)))
    · simp (disch := decide) only [t0 hD, ok_eqS, q1, ok_truthb, oks_cons, oks_nil, then_none, then_some, s_expr, exprK_at, s_var, varK_at, s_attr, attrK_at, attrK2_at, s_sub, subK_at, subK2_at, subK3_at, s_ite, iteK_t, iteK_f, s_ret, retK_at, s_ret0, s_pass, runK_some, runK_none, forK_at, turnK_none, turnK_some, whlK_t, whlK_f, tt_not, tt_band, tt_bor, tt_bool, tt_loc, tt_cmp, tt_cmp2, tt_call, tt_meth, tt_isi, tt_attr, tt_sub, tt_bin, tnotF_t, tnotF_f, ta_nil, ta_cons, andF_t, andF_f, to_nil, to_cons, orF_t, orF_f, e_none, e_bool, e_int, e_str, e_loc, e_bin, binF_at, e_not, notF_at, notF2_t, notF2_f, e_band, e_bor, e_cmp, cmpF_at, e_cmp2, cmpG_t, cmpG_f, e_list, listF_at, e_tup, tupF_at, e_dict0, e_attr, attrF_at, e_sub, subF_at, e_slice, e_call, e_meth, methF_at, e_bi, e_isi, isiF_at, boolF_at, e_comp, es_nil, es_cons, consF_at, consF2_at, ok_bind, bindK_at, bind_pure, bind_lift, ok_pure, ok_lift, List.zip_cons_cons, List.zip_nil_right, List.zip_nil_left, List.foldl_cons, List.foldl_nil, upd_def, Nat.reduceBEq, bif_t, bif_f, if_true, if_false, Bool.false_eq_true, reduceCtorEq, Nat.reduceEqDiff, ne_eq, not_false_eq_true, not_true_eq_false, decide_true, decide_false, Bool.not_true, Bool.not_false]
      exact ⟨trivial, trivial⟩
    · refine (ev_meth (vs := [.int ((6 + b : Nat) : Int), .int (i : Int), .int (j : Int)]) rfl (ok_eq ?_) A.p A.d (by decide)).trans (put_bad A I.hl (by lia) hj (h6d I hb) hb hi)
      simp (disch := decide) only [t1 hD, t2 hD, t3 hD, oks_cons, oks_nil, then_none, then_some, s_expr, exprK_at, s_var, varK_at, s_attr, attrK_at, attrK2_at, s_sub, subK_at, subK2_at, subK3_at, s_ite, iteK_t, iteK_f, s_ret, retK_at, s_ret0, s_pass, runK_some, runK_none, forK_at, turnK_none, turnK_some, whlK_t, whlK_f, tt_not, tt_band, tt_bor, tt_bool, tt_loc, tt_cmp, tt_cmp2, tt_call, tt_meth, tt_isi, tt_attr, tt_sub, tt_bin, tnotF_t, tnotF_f, ta_nil, ta_cons, andF_t, andF_f, to_nil, to_cons, orF_t, orF_f, e_none, e_bool, e_int, e_str, e_loc, e_bin, binF_at, e_not, notF_at, notF2_t, notF2_f, e_band, e_bor, e_cmp, cmpF_at, e_cmp2, cmpG_t, cmpG_f, e_list, listF_at, e_tup, tupF_at, e_dict0, e_attr, attrF_at, e_sub, subF_at, e_slice, e_call, e_meth, methF_at, e_bi, e_isi, isiF_at, boolF_at, e_comp, es_nil, es_cons, consF_at, consF2_at, ok_bind, bindK_at, bind_pure, bind_lift, ok_pure, ok_lift, List.zip_cons_cons, List.zip_nil_right, List.zip_nil_left, List.foldl_cons, List.foldl_nil, upd_def, Nat.reduceBEq, bif_t, bif_f, if_true, if_false, Bool.false_eq_true, reduceCtorEq, Nat.reduceEqDiff, ne_eq, not_false_eq_true, not_true_eq_false, decide_true, decide_false, Bool.not_true, Bool.not_false]
      exact ⟨trivial, trivial⟩
  · refine ers_cons2 ?_
    simp (disch := decide) only [t0 hD, ok_eqS, q2, ok_truthb, oks_cons, oks_nil, then_none, then_some, s_expr, exprK_at, s_var, varK_at, s_attr, attrK_at, attrK2_at, s_sub, subK_at, subK2_at, subK3_at, s_ite, iteK_t, iteK_f, s_ret, retK_at, s_ret0, s_pass, runK_some, runK_none, forK_at, turnK_none, turnK_some, whlK_t, whlK_f, tt_not, tt_band, tt_bor, tt_bool, tt_loc, tt_cmp, tt_cmp2, tt_call, tt_meth, tt_isi, tt_attr, tt_sub, tt_bin, tnotF_t, tnotF_f, ta_nil, ta_cons, andF_t, andF_f, to_nil, to_cons, orF_t, orF_f, e_none, e_bool, e_int, e_str, e_loc, e_bin, binF_at, e_not, notF_at, notF2_t, notF2_f, e_band, e_bor, e_cmp, cmpF_at, e_cmp2, cmpG_t, cmpG_f, e_list, listF_at, e_tup, tupF_at, e_dict0, e_attr, attrF_at, e_sub, subF_at, e_slice, e_call, e_meth, methF_at, e_bi, e_isi, isiF_at, boolF_at, e_comp, es_nil, es_cons, consF_at, consF2_at, ok_bind, bindK_at, bind_pure, bind_lift, ok_pure, ok_lift, List.zip_cons_cons, List.zip_nil_right, List.zip_nil_left, List.foldl_cons, List.foldl_nil, upd_def, Nat.reduceBEq, bif_t, bif_f, if_true, if_false, Bool.false_eq_true, reduceCtorEq, Nat.reduceEqDiff, ne_eq, not_false_eq_true, not_true_eq_false, decide_true, decide_false, Bool.not_true, Bool.not_false]
    refine ⟨trivial, ers_cons1 (ers_ite (t := true) (σ₁ := σ) (ok_eq ?_) (ers_cons1 (ers_ret ?_)))⟩
    · simp (disch := decide) only [t0 hD, ok_eqS, q4, ok_truthb, oks_cons, oks_nil, then_none, then_some, s_expr, exprK_at, s_var, varK_at, s_attr, attrK_at, attrK2_at, s_sub, subK_at, subK2_at, subK3_at, s_ite, iteK_t, iteK_f, s_ret, retK_at, s_ret0, s_pass, runK_some, runK_none, forK_at, turnK_none, turnK_some, whlK_t, whlK_f, tt_not, tt_band, tt_bor, tt_bool, tt_loc, tt_cmp, tt_cmp2, tt_call, tt_meth, tt_isi, tt_attr, tt_sub, tt_bin, tnotF_t, tnotF_f, ta_nil, ta_cons, andF_t, andF_f, to_nil, to_cons, orF_t, orF_f, e_none, e_bool, e_int, e_str, e_loc, e_bin, binF_at, e_not, notF_at, notF2_t, notF2_f, e_band, e_bor, e_cmp, cmpF_at, e_cmp2, cmpG_t, cmpG_f, e_list, listF_at, e_tup, tupF_at, e_dict0, e_attr, attrF_at, e_sub, subF_at, e_slice, e_call, e_meth, methF_at, e_bi, e_isi, isiF_at, boolF_at, e_comp, es_nil, es_cons, consF_at, consF2_at, ok_bind, bindK_at, bind_pure, bind_lift, ok_pure, ok_lift, List.zip_cons_cons, List.zip_nil_right, List.zip_nil_left, List.foldl_cons, List.foldl_nil, upd_def, Nat.reduceBEq, bif_t, bif_f, if_true, if_false, Bool.false_eq_true, reduceCtorEq, Nat.reduceEqDiff, ne_eq, not_false_eq_true, not_true_eq_false, decide_true, decide_false, Bool.not_true, Bool.not_false]
      exact ⟨trivial, trivial⟩
    · refine (ev_meth (vs := [.int ((6 + b : Nat) : Int), .int (i : Int)]) rfl (ok_eq ?_) A.p A.d (by decide)).trans (empty_bad A I.hl (by lia) (h6d I hb) hb hi)
      simp (disch := decide) only [t1 hD, t2 hD, t3 hD, oks_cons, oks_nil, then_none, then_some, s_expr, exprK_at, s_var, varK_at, s_attr, attrK_at, attrK2_at, s_sub, subK_at, subK2_at, subK3_at, s_ite, iteK_t, iteK_f, s_ret, retK_at, s_ret0, s_pass, runK_some, runK_none, forK_at, turnK_none, turnK_some, whlK_t, whlK_f, tt_not, tt_band, tt_bor, tt_bool, tt_loc, tt_cmp, tt_cmp2, tt_call, tt_meth, tt_isi, tt_attr, tt_sub, tt_bin, tnotF_t, tnotF_f, ta_nil, ta_cons, andF_t, andF_f, to_nil, to_cons, orF_t, orF_f, e_none, e_bool, e_int, e_str, e_loc, e_bin, binF_at, e_not, notF_at, notF2_t, notF2_f, e_band, e_bor, e_cmp, cmpF_at, e_cmp2, cmpG_t, cmpG_f, e_list, listF_at, e_tup, tupF_at, e_dict0, e_attr, attrF_at, e_sub, subF_at, e_slice, e_call, e_meth, methF_at, e_bi, e_isi, isiF_at, boolF_at, e_comp, es_nil, es_cons, consF_at, consF2_at, ok_bind, bindK_at, bind_pure, bind_lift, ok_pure, ok_lift, List.zip_cons_cons, List.zip_nil_right, List.zip_nil_left, List.foldl_cons, List.foldl_nil, upd_def, Nat.reduceBEq, bif_t, bif_f, if_true, if_false, Bool.false_eq_true, reduceCtorEq, Nat.reduceEqDiff, ne_eq, not_false_eq_true, not_true_eq_false, decide_true, decide_false, Bool.not_true, Bool.not_false]
      exact ⟨trivial, trivial⟩
  · refine ers_cons2 ?_
    simp (disch := decide) only [t0 hD, ok_eqS, q3, ok_truthb, oks_cons, oks_nil, then_none, then_some, s_expr, exprK_at, s_var, varK_at, s_attr, attrK_at, attrK2_at, s_sub, subK_at, subK2_at, subK3_at, s_ite, iteK_t, iteK_f, s_ret, retK_at, s_ret0, s_pass, runK_some, runK_none, forK_at, turnK_none, turnK_some, whlK_t, whlK_f, tt_not, tt_band, tt_bor, tt_bool, tt_loc, tt_cmp, tt_cmp2, tt_call, tt_meth, tt_isi, tt_attr, tt_sub, tt_bin, tnotF_t, tnotF_f, ta_nil, ta_cons, andF_t, andF_f, to_nil, to_cons, orF_t, orF_f, e_none, e_bool, e_int, e_str, e_loc, e_bin, binF_at, e_not, notF_at, notF2_t, notF2_f, e_band, e_bor, e_cmp, cmpF_at, e_cmp2, cmpG_t, cmpG_f, e_list, listF_at, e_tup, tupF_at, e_dict0, e_attr, attrF_at, e_sub, subF_at, e_slice, e_call, e_meth, methF_at, e_bi, e_isi, isiF_at, boolF_at, e_comp, es_nil, es_cons, consF_at, consF2_at, ok_bind, bindK_at, bind_pure, bind_lift, ok_pure, ok_lift, List.zip_cons_cons, List.zip_nil_right, List.zip_nil_left, List.foldl_cons, List.foldl_nil, upd_def, Nat.reduceBEq, bif_t, bif_f, if_true, if_false, Bool.false_eq_true, reduceCtorEq, Nat.reduceEqDiff, ne_eq, not_false_eq_true, not_true_eq_false, decide_true, decide_false, Bool.not_true, Bool.not_false]
    refine ⟨trivial, ers_cons2 ?_⟩
    simp (disch := decide) only [t0 hD, ok_eqS, q5, ok_truthb, oks_cons, oks_nil, then_none, then_some, s_expr, exprK_at, s_var, varK_at, s_attr, attrK_at, attrK2_at, s_sub, subK_at, subK2_at, subK3_at, s_ite, iteK_t, iteK_f, s_ret, retK_at, s_ret0, s_pass, runK_some, runK_none, forK_at, turnK_none, turnK_some, whlK_t, whlK_f, tt_not, tt_band, tt_bor, tt_bool, tt_loc, tt_cmp, tt_cmp2, tt_call, tt_meth, tt_isi, tt_attr, tt_sub, tt_bin, tnotF_t, tnotF_f, ta_nil, ta_cons, andF_t, andF_f, to_nil, to_cons, orF_t, orF_f, e_none, e_bool, e_int, e_str, e_loc, e_bin, binF_at, e_not, notF_at, notF2_t, notF2_f, e_band, e_bor, e_cmp, cmpF_at, e_cmp2, cmpG_t, cmpG_f, e_list, listF_at, e_tup, tupF_at, e_dict0, e_attr, attrF_at, e_sub, subF_at, e_slice, e_call, e_meth, methF_at, e_bi, e_isi, isiF_at, boolF_at, e_comp, es_nil, es_cons, consF_at, consF2_at, ok_bind, bindK_at, bind_pure, bind_lift, ok_pure, ok_lift, List.zip_cons_cons, List.zip_nil_right, List.zip_nil_left, List.foldl_cons, List.foldl_nil, upd_def, Nat.reduceBEq, bif_t, bif_f, if_true, if_false, Bool.false_eq_true, reduceCtorEq, Nat.reduceEqDiff, ne_eq, not_false_eq_true, not_true_eq_false, decide_true, decide_false, Bool.not_true, Bool.not_false]
    refine ⟨trivial, ers_cons1 (ers_ret ?_)⟩
    refine (ev_meth (vs := [.int (k : Int), .int ((6 + b : Nat) : Int), .int (i : Int)]) rfl (ok_eq ?_) A.p A.d (by decide)).trans (take_bad A I.hl (by lia) (by lia) (h6d I hb) hb hi)
    simp (disch := decide) only [t1 hD, t2 hD, t3 hD, oks_cons, oks_nil, then_none, then_some, s_expr, exprK_at, s_var, varK_at, s_attr, attrK_at, attrK2_at, s_sub, subK_at, subK2_at, subK3_at, s_ite, iteK_t, iteK_f, s_ret, retK_at, s_ret0, s_pass, runK_some, runK_none, forK_at, turnK_none, turnK_some, whlK_t, whlK_f, tt_not, tt_band, tt_bor, tt_bool, tt_loc, tt_cmp, tt_cmp2, tt_call, tt_meth, tt_isi, tt_attr, tt_sub, tt_bin, tnotF_t, tnotF_f, ta_nil, ta_cons, andF_t, andF_f, to_nil, to_cons, orF_t, orF_f, e_none, e_bool, e_int, e_str, e_loc, e_bin, binF_at, e_not, notF_at, notF2_t, notF2_f, e_band, e_bor, e_cmp, cmpF_at, e_cmp2, cmpG_t, cmpG_f, e_list, listF_at, e_tup, tupF_at, e_dict0, e_attr, attrF_at, e_sub, subF_at, e_slice, e_call, e_meth, methF_at, e_bi, e_isi, isiF_at, boolF_at, e_comp, es_nil, es_cons, consF_at, consF2_at, ok_bind, bindK_at, bind_pure, bind_lift, ok_pure, ok_lift, List.zip_cons_cons, List.zip_nil_right, List.zip_nil_left, List.foldl_cons, List.foldl_nil, upd_def, Nat.reduceBEq, bif_t, bif_f, if_true, if_false, Bool.false_eq_true, reduceCtorEq, Nat.reduceEqDiff, ne_eq, not_false_eq_true, not_true_eq_false, decide_true, decide_false, Bool.not_true, Bool.not_false]
    exact ⟨trivial, trivial⟩
end
end Mine.L03

set_option autoImplicit false
set_option linter.unusedSimpArgs false
set_option linter.unusedVariables false
namespace Mine.L03
open Mine
open PySem (Str PyData)

noncomputable def Lo (σ σ' : H) : Prop := ∀ a o, a ≤ 20 → σ.get a = some o → σ'.get a = some o
theorem bA_le {b : Nat} : bA b ≤ 20 := by unfold bA; cases (b == 0) <;> decide
theorem rA_le {b : Nat} : rA b ≤ 20 := by unfold rA; cases (b == 0) <;> decide
section
variable {σ σ' : H} {ns : List Int} {hs : List (Option Nat)} {r : Nat → List (Option Nat)} {w : Nat → Nat} {q : List Nat} {z : Nat → Nat}
theorem Pl.lo (A : Pl σ hs r w q) (k : Lo σ σ') : Pl σ' hs r w q := ⟨k _ _ (by decide) A.d, k _ _ (by decide) A.p, k _ _ (by decide) A.h, k _ _ (by decide) A.b, k _ _ (by decide) A.w', k _ _ (by decide) A.q', fun b hb => k _ _ bA_le (A.bx b hb)⟩
theorem Lw.lo (l : Lw σ ns hs r) (k : Lo σ σ') : Lw σ' ns hs r := ⟨k _ _ (by decide) l.z, k _ _ (by decide) l.rm, fun b hb => k _ _ rA_le (l.rx b hb), k _ _ (by decide) l.hl⟩
theorem rA_inj : ∀ {b c : Nat}, b < 2 → c < 2 → b ≠ c → rA b ≠ rA c
  | 0, 1, _, _, _ => by decide
  | 1, 0, _, _, _ => by decide
  | 0, 0, _, _, h => (h rfl).elim
  | 1, 1, _, _, h => (h rfl).elim
theorem rA_ne {a : Nat} (h1 : a ≠ 14) (h2 : a ≠ 19) : ∀ {b : Nat}, rA b ≠ a := fun {b} => by
  unfold rA
  cases (b == 0) <;> exact fun e => by first | exact h1 e.symm | exact h2 e.symm
theorem Lw.setR (l : Lw σ ns hs r) {c : Nat} (hc : c < 2) (xs : List (Option Nat)) : Lw (σ.put (rA c) (.list (xs.map ov))) ns hs (updF r c xs) := by
  refine ⟨(get_put_ne (rA_ne (by decide) (by decide))).trans l.z, (get_put_ne (rA_ne (by decide) (by decide))).trans l.rm, fun b hb => ?_, (get_put_ne (rA_ne (by decide) (by decide))).trans l.hl⟩
  unfold updF
  by_cases e : b = c
  · subst e; rw [if_pos rfl]; exact put_self (l.rx _ hb)
  · rw [if_neg e, get_put_ne (rA_inj hc hb (Ne.symm e))]; exact l.rx b hb
theorem Lw.setH (l : Lw σ ns hs r) (h₁ : List (Option Nat)) : Lw (σ.put 20 (.list (h₁.map ov))) ns h₁ r :=
  ⟨(get_put_ne (by decide)).trans l.z, (get_put_ne (by decide)).trans l.rm, fun b hb => (get_put_ne (rA_ne (by decide) (by decide)).symm).trans (l.rx b hb), put_self l.hl⟩
theorem Pl.put (A : Pl σ hs r w q) {a : Nat} (h : a = 14 ∨ a = 19 ∨ a = 20) (x : O) : Pl (σ.put a x) hs r w q := by
  have ne : ∀ b, b ≠ 14 → b ≠ 19 → b ≠ 20 → a ≠ b := fun b h1 h2 h3 e => by rcases h with h | h | h <;> (subst h; first | exact h1 e.symm | exact h2 e.symm | exact h3 e.symm)
  have nb : ∀ b, a ≠ bA b := fun b => by unfold bA; cases (b == 0) <;> exact ne _ (by decide) (by decide) (by decide)
  exact ⟨(get_put_ne (ne _ (by decide) (by decide) (by decide))).trans A.d, (get_put_ne (ne _ (by decide) (by decide) (by decide))).trans A.p, (get_put_ne (ne _ (by decide) (by decide) (by decide))).trans A.h, (get_put_ne (ne _ (by decide) (by decide) (by decide))).trans A.b, (get_put_ne (ne _ (by decide) (by decide) (by decide))).trans A.w', (get_put_ne (ne _ (by decide) (by decide) (by decide))).trans A.q', fun b hb => (get_put_ne (nb b)).trans (A.bx b hb)⟩
theorem rA_or {b : Nat} : rA b = 14 ∨ rA b = 19 ∨ rA b = 20 := by unfold rA; cases (b == 0) <;> simp

theorem clear_at {a : Nat} {xs : List V} {C : Calls} {loc : Loc} {Q : Option V → Loc → H → Prop} (hl : loc 67 = some (.ref a)) (h : σ.get a = some (.list xs)) (ha : 1 ≤ a) (hq : Q none loc (σ.put a (.list []))) : OkS (exs prog C 1000 f_law_6f_1 loc σ) Q := by
  refine oks_step rfl ?_
  simp (disch := decide) only [hl, mx_list h (.inr (.inr rfl)), ok_clear h (show prog.nf ≤ a from ha), s_expr, exprK_at, s_var, varK_at, s_attr, attrK_at, attrK2_at, s_sub, subK_at, subK2_at, subK3_at, s_ite, iteK_t, iteK_f, s_ret, retK_at, s_ret0, s_pass, runK_some, runK_none, forK_at, turnK_none, turnK_some, whlK_t, whlK_f, tt_not, tt_band, tt_bor, tt_bool, tt_loc, tt_cmp, tt_cmp2, tt_call, tt_meth, tt_isi, tt_attr, tt_sub, tt_bin, tnotF_t, tnotF_f, ta_nil, ta_cons, andF_t, andF_f, to_nil, to_cons, orF_t, orF_f, e_none, e_bool, e_int, e_str, e_loc, e_bin, binF_at, e_not, notF_at, notF2_t, notF2_f, e_band, e_bor, e_cmp, cmpF_at, e_cmp2, cmpG_t, cmpG_f, e_list, listF_at, e_tup, tupF_at, e_dict0, e_attr, attrF_at, e_sub, subF_at, e_slice, e_call, e_meth, methF_at, e_bi, e_isi, isiF_at, boolF_at, e_comp, es_nil, es_cons, consF_at, consF2_at, ok_bind, bindK_at, bind_pure, bind_lift, ok_pure, ok_lift, List.zip_cons_cons, List.zip_nil_right, List.zip_nil_left, List.foldl_cons, List.foldl_nil, upd_def, Nat.reduceBEq, bif_t, bif_f, if_true, if_false, Bool.false_eq_true, reduceCtorEq, Nat.reduceEqDiff, ne_eq, not_false_eq_true, not_true_eq_false, decide_true, decide_false, Bool.not_true, Bool.not_false]
  exact hq

theorem tail_ok {lc : Loc} {Q : Option V → Loc → H → Prop} (A : Pl σ hs r w q) (l : Lw σ ns hs r) (I : Inv z hs r w) (hq : q.length < 64) (e75 : lc 75 = some (.ref 2)) (e76 : lc 76 = some (.ref 20)) (e89 : lc 89 = some (.ref 8))
    (h : ∀ l' σ', Q (some (.bool true)) l' σ') : OkS (exs prog (run prog 1000 20) 1000 f_law_6 lc σ) Q := by
  have r0 := I.rl 0 (by decide)
  have r1 := I.rl 1 (by decide)
  have big := get_lt l.hl
  refine oks_step rfl ?_
  rw [s_for]
  simp (disch := decide) only [e75, mx_inst A.p A.d, s_expr, exprK_at, s_var, varK_at, s_attr, attrK_at, attrK2_at, s_sub, subK_at, subK2_at, subK3_at, s_ite, iteK_t, iteK_f, s_ret, retK_at, s_ret0, s_pass, runK_some, runK_none, forK_at, turnK_none, turnK_some, whlK_t, whlK_f, tt_not, tt_band, tt_bor, tt_bool, tt_loc, tt_cmp, tt_cmp2, tt_call, tt_meth, tt_isi, tt_attr, tt_sub, tt_bin, tnotF_t, tnotF_f, ta_nil, ta_cons, andF_t, andF_f, to_nil, to_cons, orF_t, orF_f, e_none, e_bool, e_int, e_str, e_loc, e_bin, binF_at, e_not, notF_at, notF2_t, notF2_f, e_band, e_bor, e_cmp, cmpF_at, e_cmp2, cmpG_t, cmpG_f, e_list, listF_at, e_tup, tupF_at, e_dict0, e_attr, attrF_at, e_sub, subF_at, e_slice, e_call, e_meth, methF_at, e_bi, e_isi, isiF_at, boolF_at, e_comp, es_nil, es_cons, consF_at, consF2_at, ok_bind, bindK_at, bind_pure, bind_lift, ok_pure, ok_lift, List.zip_cons_cons, List.zip_nil_right, List.zip_nil_left, List.foldl_cons, List.foldl_nil, upd_def, Nat.reduceBEq, bif_t, bif_f, if_true, if_false, Bool.false_eq_true, reduceCtorEq, Nat.reduceEqDiff, ne_eq, not_false_eq_true, not_true_eq_false, decide_true, decide_false, Bool.not_true, Bool.not_false]
  refine points_ok (k := 0) A (by decide) (by lia) ?_
  have A1 := A.push (.list ((r 0).map ov))
  simp (disch := decide) only [e75, mx_inst A1.p A1.d, s_expr, exprK_at, s_var, varK_at, s_attr, attrK_at, attrK2_at, s_sub, subK_at, subK2_at, subK3_at, s_ite, iteK_t, iteK_f, s_ret, retK_at, s_ret0, s_pass, runK_some, runK_none, forK_at, turnK_none, turnK_some, whlK_t, whlK_f, tt_not, tt_band, tt_bor, tt_bool, tt_loc, tt_cmp, tt_cmp2, tt_call, tt_meth, tt_isi, tt_attr, tt_sub, tt_bin, tnotF_t, tnotF_f, ta_nil, ta_cons, andF_t, andF_f, to_nil, to_cons, orF_t, orF_f, e_none, e_bool, e_int, e_str, e_loc, e_bin, binF_at, e_not, notF_at, notF2_t, notF2_f, e_band, e_bor, e_cmp, cmpF_at, e_cmp2, cmpG_t, cmpG_f, e_list, listF_at, e_tup, tupF_at, e_dict0, e_attr, attrF_at, e_sub, subF_at, e_slice, e_call, e_meth, methF_at, e_bi, e_isi, isiF_at, boolF_at, e_comp, es_nil, es_cons, consF_at, consF2_at, ok_bind, bindK_at, bind_pure, bind_lift, ok_pure, ok_lift, List.zip_cons_cons, List.zip_nil_right, List.zip_nil_left, List.foldl_cons, List.foldl_nil, upd_def, Nat.reduceBEq, bif_t, bif_f, if_true, if_false, Bool.false_eq_true, reduceCtorEq, Nat.reduceEqDiff, ne_eq, not_false_eq_true, not_true_eq_false, decide_true, decide_false, Bool.not_true, Bool.not_false]
  refine points_ok (k := 1) A1 (by decide) (by lia) ?_
  have A2 := A1.push (.list ((r 1).map ov))
  simp (disch := decide) only [e75, mx_inst A2.p A2.d, s_expr, exprK_at, s_var, varK_at, s_attr, attrK_at, attrK2_at, s_sub, subK_at, subK2_at, subK3_at, s_ite, iteK_t, iteK_f, s_ret, retK_at, s_ret0, s_pass, runK_some, runK_none, forK_at, turnK_none, turnK_some, whlK_t, whlK_f, tt_not, tt_band, tt_bor, tt_bool, tt_loc, tt_cmp, tt_cmp2, tt_call, tt_meth, tt_isi, tt_attr, tt_sub, tt_bin, tnotF_t, tnotF_f, ta_nil, ta_cons, andF_t, andF_f, to_nil, to_cons, orF_t, orF_f, e_none, e_bool, e_int, e_str, e_loc, e_bin, binF_at, e_not, notF_at, notF2_t, notF2_f, e_band, e_bor, e_cmp, cmpF_at, e_cmp2, cmpG_t, cmpG_f, e_list, listF_at, e_tup, tupF_at, e_dict0, e_attr, attrF_at, e_sub, subF_at, e_slice, e_call, e_meth, methF_at, e_bi, e_isi, isiF_at, boolF_at, e_comp, es_nil, es_cons, consF_at, consF2_at, ok_bind, bindK_at, bind_pure, bind_lift, ok_pure, ok_lift, List.zip_cons_cons, List.zip_nil_right, List.zip_nil_left, List.foldl_cons, List.foldl_nil, upd_def, Nat.reduceBEq, bif_t, bif_f, if_true, if_false, Bool.false_eq_true, reduceCtorEq, Nat.reduceEqDiff, ne_eq, not_false_eq_true, not_true_eq_false, decide_true, decide_false, Bool.not_true, Bool.not_false]
  refine alive_ok A2 ?_
  have A3 := A2.push (.list [.int 0, .int 1])
  simp (disch := decide) only [e75, mx_inst A3.p A3.d, s_expr, exprK_at, s_var, varK_at, s_attr, attrK_at, attrK2_at, s_sub, subK_at, subK2_at, subK3_at, s_ite, iteK_t, iteK_f, s_ret, retK_at, s_ret0, s_pass, runK_some, runK_none, forK_at, turnK_none, turnK_some, whlK_t, whlK_f, tt_not, tt_band, tt_bor, tt_bool, tt_loc, tt_cmp, tt_cmp2, tt_call, tt_meth, tt_isi, tt_attr, tt_sub, tt_bin, tnotF_t, tnotF_f, ta_nil, ta_cons, andF_t, andF_f, to_nil, to_cons, orF_t, orF_f, e_none, e_bool, e_int, e_str, e_loc, e_bin, binF_at, e_not, notF_at, notF2_t, notF2_f, e_band, e_bor, e_cmp, cmpF_at, e_cmp2, cmpG_t, cmpG_f, e_list, listF_at, e_tup, tupF_at, e_dict0, e_attr, attrF_at, e_sub, subF_at, e_slice, e_call, e_meth, methF_at, e_bi, e_isi, isiF_at, boolF_at, e_comp, es_nil, es_cons, consF_at, consF2_at, ok_bind, bindK_at, bind_pure, bind_lift, ok_pure, ok_lift, List.zip_cons_cons, List.zip_nil_right, List.zip_nil_left, List.foldl_cons, List.foldl_nil, upd_def, Nat.reduceBEq, bif_t, bif_f, if_true, if_false, Bool.false_eq_true, reduceCtorEq, Nat.reduceEqDiff, ne_eq, not_false_eq_true, not_true_eq_false, decide_true, decide_false, Bool.not_true, Bool.not_false]
  refine suspects_ok A3 hq ?_
  generalize sortI (q.map Int.ofNat) = qs
  have n1 : (σ.push (.list ((r 0).map ov))).length = σ.length + 1 := len_push
  have n2 : ((σ.push (.list ((r 0).map ov))).push (.list ((r 1).map ov))).length = σ.length + 2 := by rw [len_push, n1]
  have n3 : (((σ.push (.list ((r 0).map ov))).push (.list ((r 1).map ov))).push (.list [.int 0, .int 1])).length = σ.length + 3 := by rw [len_push, n2]
  have n4 : ((((σ.push (.list ((r 0).map ov))).push (.list ((r 1).map ov))).push (.list [.int 0, .int 1])).push (.list (qs.map .int))).length = σ.length + 4 := by rw [len_push, n3]
  have ok4 : okO (.list [.ref σ.length, .ref (σ.length + 1), .ref (σ.length + 2), .ref (σ.length + 3)]) = true := rfl
  simp (disch := decide) only [n1, n2, n3, ok_alloc ok4, n4, s_expr, exprK_at, s_var, varK_at, s_attr, attrK_at, attrK2_at, s_sub, subK_at, subK2_at, subK3_at, s_ite, iteK_t, iteK_f, s_ret, retK_at, s_ret0, s_pass, runK_some, runK_none, forK_at, turnK_none, turnK_some, whlK_t, whlK_f, tt_not, tt_band, tt_bor, tt_bool, tt_loc, tt_cmp, tt_cmp2, tt_call, tt_meth, tt_isi, tt_attr, tt_sub, tt_bin, tnotF_t, tnotF_f, ta_nil, ta_cons, andF_t, andF_f, to_nil, to_cons, orF_t, orF_f, e_none, e_bool, e_int, e_str, e_loc, e_bin, binF_at, e_not, notF_at, notF2_t, notF2_f, e_band, e_bor, e_cmp, cmpF_at, e_cmp2, cmpG_t, cmpG_f, e_list, listF_at, e_tup, tupF_at, e_dict0, e_attr, attrF_at, e_sub, subF_at, e_slice, e_call, e_meth, methF_at, e_bi, e_isi, isiF_at, boolF_at, e_comp, es_nil, es_cons, consF_at, consF2_at, ok_bind, bindK_at, bind_pure, bind_lift, ok_pure, ok_lift, List.zip_cons_cons, List.zip_nil_right, List.zip_nil_left, List.foldl_cons, List.foldl_nil, upd_def, Nat.reduceBEq, bif_t, bif_f, if_true, if_false, Bool.false_eq_true, reduceCtorEq, Nat.reduceEqDiff, ne_eq, not_false_eq_true, not_true_eq_false, decide_true, decide_false, Bool.not_true, Bool.not_false]
  have g0 : (σ.push (.list ((r 0).map ov))).get σ.length = some (.list ((r 0).map ov)) := get_push_eq
  have g1 : ((σ.push (.list ((r 0).map ov))).push (.list ((r 1).map ov))).get (σ.length + 1) = some (.list ((r 1).map ov)) := by rw [← n1]; exact get_push_eq
  have g2 : (((σ.push (.list ((r 0).map ov))).push (.list ((r 1).map ov))).push (.list [.int 0, .int 1])).get (σ.length + 2) = some (.list [.int 0, .int 1]) := by rw [← n2]; exact get_push_eq
  have g3 : ((((σ.push (.list ((r 0).map ov))).push (.list ((r 1).map ov))).push (.list [.int 0, .int 1])).push (.list (qs.map .int))).get (σ.length + 3) = some (.list (qs.map .int)) := by rw [← n3]; exact get_push_eq
  have g4 : (((((σ.push (.list ((r 0).map ov))).push (.list ((r 1).map ov))).push (.list [.int 0, .int 1])).push (.list (qs.map .int))).push (.list [.ref σ.length, .ref (σ.length + 1), .ref (σ.length + 2), .ref (σ.length + 3)])).get (σ.length + 4) = some (.list [.ref σ.length, .ref (σ.length + 1), .ref (σ.length + 2), .ref (σ.length + 3)]) := by rw [← n4]; exact get_push_eq
  have lo : Lo σ (((((σ.push (.list ((r 0).map ov))).push (.list ((r 1).map ov))).push (.list [.int 0, .int 1])).push (.list (qs.map .int))).push (.list [.ref σ.length, .ref (σ.length + 1), .ref (σ.length + 2), .ref (σ.length + 3)])) := fun a o _ e => get_keep (get_keep (get_keep (get_keep (get_keep e))))
  replace g0 := get_keep (x := .list [.ref σ.length, .ref (σ.length + 1), .ref (σ.length + 2), .ref (σ.length + 3)]) (get_keep (x := .list (qs.map .int)) (get_keep (x := .list [.int 0, .int 1]) (get_keep (x := .list ((r 1).map ov)) g0)))
  replace g1 := get_keep (x := .list [.ref σ.length, .ref (σ.length + 1), .ref (σ.length + 2), .ref (σ.length + 3)]) (get_keep (x := .list (qs.map .int)) (get_keep (x := .list [.int 0, .int 1]) g1))
  replace g2 := get_keep (x := .list [.ref σ.length, .ref (σ.length + 1), .ref (σ.length + 2), .ref (σ.length + 3)]) (get_keep (x := .list (qs.map .int)) g2)
  replace g3 := get_keep (x := .list [.ref σ.length, .ref (σ.length + 1), .ref (σ.length + 2), .ref (σ.length + 3)]) g3
  generalize ((((σ.push (.list ((r 0).map ov))).push (.list ((r 1).map ov))).push (.list [.int 0, .int 1])).push (.list (qs.map .int))).push (.list [.ref σ.length, .ref (σ.length + 1), .ref (σ.length + 2), .ref (σ.length + 3)]) = τ at *
  clear n1 n2 n3 n4 A1 A2 A3
  generalize hn : σ.length = n at *
  refine ⟨_, it_list g4, f_cons (clear_at rfl g0 (by lia) ⟨rfl, still_get (get_put_ne (by lia)), f_cons (clear_at rfl ((get_put_ne (by lia)).trans g1) (by lia) ⟨rfl, still_get ?_, f_cons (clear_at rfl ((get_put_ne (by lia)).trans ((get_put_ne (by lia)).trans g2)) (by lia) ⟨rfl, still_get ?_, f_cons (clear_at rfl ((get_put_ne (by lia)).trans ((get_put_ne (by lia)).trans ((get_put_ne (by lia)).trans g3))) (by lia) ⟨rfl, still_get ?_, ?_⟩)⟩)⟩)⟩)⟩
  · rw [get_put_ne (by lia), get_put_ne (by lia)]
  · rw [get_put_ne (by lia), get_put_ne (by lia), get_put_ne (by lia)]
  · rw [get_put_ne (by lia), get_put_ne (by lia), get_put_ne (by lia), get_put_ne (by lia)]
  · rw [f_nil]
    have lo' : Lo σ ((((τ.put n (.list [])).put (n + 1) (.list [])).put (n + 2) (.list [])).put (n + 3) (.list [])) := fun a o ha e => by
      rw [get_put_ne (by lia), get_put_ne (by lia), get_put_ne (by lia), get_put_ne (by lia)]; exact lo a o ha e
    have A4 := A.lo lo'
    have l4 := l.lo lo'
    generalize (((τ.put n (.list [])).put (n + 1) (.list [])).put (n + 2) (.list [])).put (n + 3) (.list []) = υ at *
    refine then_step rfl ?_
    have m75 : ((((lc.upd 67 (.ref n)).upd 67 (.ref (n + 1))).upd 67 (.ref (n + 2))).upd 67 (.ref (n + 3))) 75 = some (.ref 2) := e75
    have m76 : ((((lc.upd 67 (.ref n)).upd 67 (.ref (n + 1))).upd 67 (.ref (n + 2))).upd 67 (.ref (n + 3))) 76 = some (.ref 20) := e76
    have m89 : ((((lc.upd 67 (.ref n)).upd 67 (.ref (n + 1))).upd 67 (.ref (n + 2))).upd 67 (.ref (n + 3))) 89 = some (.ref 8) := e89
    generalize (((lc.upd 67 (.ref n)).upd 67 (.ref (n + 1))).upd 67 (.ref (n + 2))).upd 67 (.ref (n + 3)) = lc' at *
    simp (disch := decide) only [ea_cons, m75, m76, m89, s_expr, exprK_at, s_var, varK_at, s_attr, attrK_at, attrK2_at, s_sub, subK_at, subK2_at, subK3_at, s_ite, iteK_t, iteK_f, s_ret, retK_at, s_ret0, s_pass, runK_some, runK_none, forK_at, turnK_none, turnK_some, whlK_t, whlK_f, tt_not, tt_band, tt_bor, tt_bool, tt_loc, tt_cmp, tt_cmp2, tt_call, tt_meth, tt_isi, tt_attr, tt_sub, tt_bin, tnotF_t, tnotF_f, ta_nil, ta_cons, andF_t, andF_f, to_nil, to_cons, orF_t, orF_f, e_none, e_bool, e_int, e_str, e_loc, e_bin, binF_at, e_not, notF_at, notF2_t, notF2_f, e_band, e_bor, e_cmp, cmpF_at, e_cmp2, cmpG_t, cmpG_f, e_list, listF_at, e_tup, tupF_at, e_dict0, e_attr, attrF_at, e_sub, subF_at, e_slice, e_call, e_meth, methF_at, e_bi, e_isi, isiF_at, boolF_at, e_comp, es_nil, es_cons, consF_at, consF2_at, ok_bind, bindK_at, bind_pure, bind_lift, ok_pure, ok_lift, List.zip_cons_cons, List.zip_nil_right, List.zip_nil_left, List.foldl_cons, List.foldl_nil, upd_def, Nat.reduceBEq, bif_t, bif_f, if_true, if_false, Bool.false_eq_true, reduceCtorEq, Nat.reduceEqDiff, ne_eq, not_false_eq_true, not_true_eq_false, decide_true, decide_false, Bool.not_true, Bool.not_false]
    refine stands_ok A4 l4 I fun σ5 A5 k5 => ?_
    simp (disch := decide) only [ok_truthb, eandF_t, ea_one, m75, mx_inst A5.p A5.d, s_expr, exprK_at, s_var, varK_at, s_attr, attrK_at, attrK2_at, s_sub, subK_at, subK2_at, subK3_at, s_ite, iteK_t, iteK_f, s_ret, retK_at, s_ret0, s_pass, runK_some, runK_none, forK_at, turnK_none, turnK_some, whlK_t, whlK_f, tt_not, tt_band, tt_bor, tt_bool, tt_loc, tt_cmp, tt_cmp2, tt_call, tt_meth, tt_isi, tt_attr, tt_sub, tt_bin, tnotF_t, tnotF_f, ta_nil, ta_cons, andF_t, andF_f, to_nil, to_cons, orF_t, orF_f, e_none, e_bool, e_int, e_str, e_loc, e_bin, binF_at, e_not, notF_at, notF2_t, notF2_f, e_band, e_bor, e_cmp, cmpF_at, e_cmp2, cmpG_t, cmpG_f, e_list, listF_at, e_tup, tupF_at, e_dict0, e_attr, attrF_at, e_sub, subF_at, e_slice, e_call, e_meth, methF_at, e_bi, e_isi, isiF_at, boolF_at, e_comp, es_nil, es_cons, consF_at, consF2_at, ok_bind, bindK_at, bind_pure, bind_lift, ok_pure, ok_lift, List.zip_cons_cons, List.zip_nil_right, List.zip_nil_left, List.foldl_cons, List.foldl_nil, upd_def, Nat.reduceBEq, bif_t, bif_f, if_true, if_false, Bool.false_eq_true, reduceCtorEq, Nat.reduceEqDiff, ne_eq, not_false_eq_true, not_true_eq_false, decide_true, decide_false, Bool.not_true, Bool.not_false]
    refine alive_ok A5 ?_
    have okl : okO (.list [.int 0, .int 1]) = true := rfl
    simp (disch := decide) only [ok_alloc okl, s_expr, exprK_at, s_var, varK_at, s_attr, attrK_at, attrK2_at, s_sub, subK_at, subK2_at, subK3_at, s_ite, iteK_t, iteK_f, s_ret, retK_at, s_ret0, s_pass, runK_some, runK_none, forK_at, turnK_none, turnK_some, whlK_t, whlK_f, tt_not, tt_band, tt_bor, tt_bool, tt_loc, tt_cmp, tt_cmp2, tt_call, tt_meth, tt_isi, tt_attr, tt_sub, tt_bin, tnotF_t, tnotF_f, ta_nil, ta_cons, andF_t, andF_f, to_nil, to_cons, orF_t, orF_f, e_none, e_bool, e_int, e_str, e_loc, e_bin, binF_at, e_not, notF_at, notF2_t, notF2_f, e_band, e_bor, e_cmp, cmpF_at, e_cmp2, cmpG_t, cmpG_f, e_list, listF_at, e_tup, tupF_at, e_dict0, e_attr, attrF_at, e_sub, subF_at, e_slice, e_call, e_meth, methF_at, e_bi, e_isi, isiF_at, boolF_at, e_comp, es_nil, es_cons, consF_at, consF2_at, ok_bind, bindK_at, bind_pure, bind_lift, ok_pure, ok_lift, List.zip_cons_cons, List.zip_nil_right, List.zip_nil_left, List.foldl_cons, List.foldl_nil, upd_def, Nat.reduceBEq, bif_t, bif_f, if_true, if_false, Bool.false_eq_true, reduceCtorEq, Nat.reduceEqDiff, ne_eq, not_false_eq_true, not_true_eq_false, decide_true, decide_false, Bool.not_true, Bool.not_false]
    refine numbers_ok hL (get_keep get_push_eq) get_push_eq (fun x hx => ?_) (by decide) ?_
    · rcases List.mem_cons.mp hx with rfl | hx
      · exact .inr ⟨_, rfl⟩
      · rcases List.mem_cons.mp hx with rfl | hx
        · exact .inr ⟨_, rfl⟩
        · cases hx
    · simp (disch := decide) only [then_some, s_expr, exprK_at, s_var, varK_at, s_attr, attrK_at, attrK2_at, s_sub, subK_at, subK2_at, subK3_at, s_ite, iteK_t, iteK_f, s_ret, retK_at, s_ret0, s_pass, runK_some, runK_none, forK_at, turnK_none, turnK_some, whlK_t, whlK_f, tt_not, tt_band, tt_bor, tt_bool, tt_loc, tt_cmp, tt_cmp2, tt_call, tt_meth, tt_isi, tt_attr, tt_sub, tt_bin, tnotF_t, tnotF_f, ta_nil, ta_cons, andF_t, andF_f, to_nil, to_cons, orF_t, orF_f, e_none, e_bool, e_int, e_str, e_loc, e_bin, binF_at, e_not, notF_at, notF2_t, notF2_f, e_band, e_bor, e_cmp, cmpF_at, e_cmp2, cmpG_t, cmpG_f, e_list, listF_at, e_tup, tupF_at, e_dict0, e_attr, attrF_at, e_sub, subF_at, e_slice, e_call, e_meth, methF_at, e_bi, e_isi, isiF_at, boolF_at, e_comp, es_nil, es_cons, consF_at, consF2_at, ok_bind, bindK_at, bind_pure, bind_lift, ok_pure, ok_lift, List.zip_cons_cons, List.zip_nil_right, List.zip_nil_left, List.foldl_cons, List.foldl_nil, upd_def, Nat.reduceBEq, bif_t, bif_f, if_true, if_false, Bool.false_eq_true, reduceCtorEq, Nat.reduceEqDiff, ne_eq, not_false_eq_true, not_true_eq_false, decide_true, decide_false, Bool.not_true, Bool.not_false]
      exact h _ _
end
end Mine.L03

set_option autoImplicit false
set_option linter.unusedSimpArgs false
set_option linter.unusedVariables false
namespace Mine.L03
open Mine
open PySem (Str PyData)

section
variable {σ σ' : H} {ns : List Int} {hs : List (Option Nat)} {r : Nat → List (Option Nat)} {w : Nat → Nat} {q : List Nat} {z : Nat → Nat} {lc : Loc} {Q : Option V → Loc → H → Prop}
noncomputable def Then (σ : H) (ns : List Int) (z : Nat → Nat) (n : Nat) (lc : Loc) (Q : Option V → Loc → H → Prop) : Prop :=
  ∀ l' σ' hs' r' w' q', Pl σ' hs' r' w' q' → Lw σ' ns hs' r' → Inv z hs' r' w' → q'.length ≤ n + 1 → l' 75 = lc 75 → l' 76 = lc 76 → l' 89 = lc 89 → (∀ o, σ.get 21 = some o → σ'.get 21 = some o) → Q none l' σ'
theorem end_ok (A : Pl σ hs r w q) (l : Lw σ ns hs r) (I : Inv z hs r w) (e75 : lc 75 = some (.ref 2)) (e76 : lc 76 = some (.ref 20)) (e89 : lc 89 = some (.ref 8)) (h : ∀ σ', Pl σ' hs r w q → Kp σ σ' → Q none lc σ') : OkS (exs prog (run prog 1000 20) 1000 f_law_5f_9 lc σ) Q := by
  refine oks_step rfl ?_
  simp (disch := decide) only [e75, e76, e89, s_expr, exprK_at, s_var, varK_at, s_attr, attrK_at, attrK2_at, s_sub, subK_at, subK2_at, subK3_at, s_ite, iteK_t, iteK_f, s_ret, retK_at, s_ret0, s_pass, runK_some, runK_none, forK_at, turnK_none, turnK_some, whlK_t, whlK_f, tt_not, tt_band, tt_bor, tt_bool, tt_loc, tt_cmp, tt_cmp2, tt_call, tt_meth, tt_isi, tt_attr, tt_sub, tt_bin, tnotF_t, tnotF_f, ta_nil, ta_cons, andF_t, andF_f, to_nil, to_cons, orF_t, orF_f, e_none, e_bool, e_int, e_str, e_loc, e_bin, binF_at, e_not, notF_at, notF2_t, notF2_f, e_band, e_bor, e_cmp, cmpF_at, e_cmp2, cmpG_t, cmpG_f, e_list, listF_at, e_tup, tupF_at, e_dict0, e_attr, attrF_at, e_sub, subF_at, e_slice, e_call, e_meth, methF_at, e_bi, e_isi, isiF_at, boolF_at, e_comp, es_nil, es_cons, consF_at, consF2_at, ok_bind, bindK_at, bind_pure, bind_lift, ok_pure, ok_lift, List.zip_cons_cons, List.zip_nil_right, List.zip_nil_left, List.foldl_cons, List.foldl_nil, upd_def, Nat.reduceBEq, bif_t, bif_f, if_true, if_false, Bool.false_eq_true, reduceCtorEq, Nat.reduceEqDiff, ne_eq, not_false_eq_true, not_true_eq_false, decide_true, decide_false, Bool.not_true, Bool.not_false]
  refine stands_ok A l I fun σ' A' k' => ?_
  simp (disch := decide) only [ok_truthb, oks_nil, s_expr, exprK_at, s_var, varK_at, s_attr, attrK_at, attrK2_at, s_sub, subK_at, subK2_at, subK3_at, s_ite, iteK_t, iteK_f, s_ret, retK_at, s_ret0, s_pass, runK_some, runK_none, forK_at, turnK_none, turnK_some, whlK_t, whlK_f, tt_not, tt_band, tt_bor, tt_bool, tt_loc, tt_cmp, tt_cmp2, tt_call, tt_meth, tt_isi, tt_attr, tt_sub, tt_bin, tnotF_t, tnotF_f, ta_nil, ta_cons, andF_t, andF_f, to_nil, to_cons, orF_t, orF_f, e_none, e_bool, e_int, e_str, e_loc, e_bin, binF_at, e_not, notF_at, notF2_t, notF2_f, e_band, e_bor, e_cmp, cmpF_at, e_cmp2, cmpG_t, cmpG_f, e_list, listF_at, e_tup, tupF_at, e_dict0, e_attr, attrF_at, e_sub, subF_at, e_slice, e_call, e_meth, methF_at, e_bi, e_isi, isiF_at, boolF_at, e_comp, es_nil, es_cons, consF_at, consF2_at, ok_bind, bindK_at, bind_pure, bind_lift, ok_pure, ok_lift, List.zip_cons_cons, List.zip_nil_right, List.zip_nil_left, List.foldl_cons, List.foldl_nil, upd_def, Nat.reduceBEq, bif_t, bif_f, if_true, if_false, Bool.false_eq_true, reduceCtorEq, Nat.reduceEqDiff, ne_eq, not_false_eq_true, not_true_eq_false, decide_true, decide_false, Bool.not_true, Bool.not_false]
  exact h σ' A' k'
variable {D b i j k : Nat}
theorem rest_bad (A : Pl σ hs r w q) (l : Lw σ ns hs r) (I : Inv z hs r w) (e75 : lc 75 = some (.ref 2)) (e76 : lc 76 = some (.ref 20)) (e89 : lc 89 = some (.ref 8)) (e95 : lc 95 = some (.int (b : Int))) (e96 : lc 96 = some (.int (i : Int))) (e87 : lc 87 = some (.ref D))
    (hD : σ.get D = some (tp sPut (6 + b) i j) ∨ σ.get D = some (tp sEmp (6 + b) i j) ∨ σ.get D = some (tp sTak k i (6 + b))) (hb : b < 2) (hj : j < 8) (hk : k < 6) (hi : (r b).length ≤ i) (h : Then σ ns z q.length lc Q) : OkS (exs prog (run prog 1000 20) 1000 f_law_5f_7 lc σ) Q := by
  refine oks_step rfl ?_
  simp (disch := decide) only [e75, e87, s_expr, exprK_at, s_var, varK_at, s_attr, attrK_at, attrK2_at, s_sub, subK_at, subK2_at, subK3_at, s_ite, iteK_t, iteK_f, s_ret, retK_at, s_ret0, s_pass, runK_some, runK_none, forK_at, turnK_none, turnK_some, whlK_t, whlK_f, tt_not, tt_band, tt_bor, tt_bool, tt_loc, tt_cmp, tt_cmp2, tt_call, tt_meth, tt_isi, tt_attr, tt_sub, tt_bin, tnotF_t, tnotF_f, ta_nil, ta_cons, andF_t, andF_f, to_nil, to_cons, orF_t, orF_f, e_none, e_bool, e_int, e_str, e_loc, e_bin, binF_at, e_not, notF_at, notF2_t, notF2_f, e_band, e_bor, e_cmp, cmpF_at, e_cmp2, cmpG_t, cmpG_f, e_list, listF_at, e_tup, tupF_at, e_dict0, e_attr, attrF_at, e_sub, subF_at, e_slice, e_call, e_meth, methF_at, e_bi, e_isi, isiF_at, boolF_at, e_comp, es_nil, es_cons, consF_at, consF2_at, ok_bind, bindK_at, bind_pure, bind_lift, ok_pure, ok_lift, List.zip_cons_cons, List.zip_nil_right, List.zip_nil_left, List.foldl_cons, List.foldl_nil, upd_def, Nat.reduceBEq, bif_t, bif_f, if_true, if_false, Bool.false_eq_true, reduceCtorEq, Nat.reduceEqDiff, ne_eq, not_false_eq_true, not_true_eq_false, decide_true, decide_false, Bool.not_true, Bool.not_false]
  refine done_bad A I hD hb hj hk hi ?_
  simp (disch := decide) only [s_expr, exprK_at, s_var, varK_at, s_attr, attrK_at, attrK2_at, s_sub, subK_at, subK2_at, subK3_at, s_ite, iteK_t, iteK_f, s_ret, retK_at, s_ret0, s_pass, runK_some, runK_none, forK_at, turnK_none, turnK_some, whlK_t, whlK_f, tt_not, tt_band, tt_bor, tt_bool, tt_loc, tt_cmp, tt_cmp2, tt_call, tt_meth, tt_isi, tt_attr, tt_sub, tt_bin, tnotF_t, tnotF_f, ta_nil, ta_cons, andF_t, andF_f, to_nil, to_cons, orF_t, orF_f, e_none, e_bool, e_int, e_str, e_loc, e_bin, binF_at, e_not, notF_at, notF2_t, notF2_f, e_band, e_bor, e_cmp, cmpF_at, e_cmp2, cmpG_t, cmpG_f, e_list, listF_at, e_tup, tupF_at, e_dict0, e_attr, attrF_at, e_sub, subF_at, e_slice, e_call, e_meth, methF_at, e_bi, e_isi, isiF_at, boolF_at, e_comp, es_nil, es_cons, consF_at, consF2_at, ok_bind, bindK_at, bind_pure, bind_lift, ok_pure, ok_lift, List.zip_cons_cons, List.zip_nil_right, List.zip_nil_left, List.foldl_cons, List.foldl_nil, upd_def, Nat.reduceBEq, bif_t, bif_f, if_true, if_false, Bool.false_eq_true, reduceCtorEq, Nat.reduceEqDiff, ne_eq, not_false_eq_true, not_true_eq_false, decide_true, decide_false, Bool.not_true, Bool.not_false]
  refine then_step rfl ?_
  have hge : (i : Int) ≥ (((r b).map ov).length : Int) := by rw [List.length_map]; lia
  simp (disch := decide) only [e96, e89, e95, ok_getList l.rm (Int.natCast_nonneg _) (rm_at hb), ok_lenL (l.rx b hb), ok_ge, hge, ok_truthb, s_expr, exprK_at, s_var, varK_at, s_attr, attrK_at, attrK2_at, s_sub, subK_at, subK2_at, subK3_at, s_ite, iteK_t, iteK_f, s_ret, retK_at, s_ret0, s_pass, runK_some, runK_none, forK_at, turnK_none, turnK_some, whlK_t, whlK_f, tt_not, tt_band, tt_bor, tt_bool, tt_loc, tt_cmp, tt_cmp2, tt_call, tt_meth, tt_isi, tt_attr, tt_sub, tt_bin, tnotF_t, tnotF_f, ta_nil, ta_cons, andF_t, andF_f, to_nil, to_cons, orF_t, orF_f, e_none, e_bool, e_int, e_str, e_loc, e_bin, binF_at, e_not, notF_at, notF2_t, notF2_f, e_band, e_bor, e_cmp, cmpF_at, e_cmp2, cmpG_t, cmpG_f, e_list, listF_at, e_tup, tupF_at, e_dict0, e_attr, attrF_at, e_sub, subF_at, e_slice, e_call, e_meth, methF_at, e_bi, e_isi, isiF_at, boolF_at, e_comp, es_nil, es_cons, consF_at, consF2_at, ok_bind, bindK_at, bind_pure, bind_lift, ok_pure, ok_lift, List.zip_cons_cons, List.zip_nil_right, List.zip_nil_left, List.foldl_cons, List.foldl_nil, upd_def, Nat.reduceBEq, bif_t, bif_f, if_true, if_false, Bool.false_eq_true, reduceCtorEq, Nat.reduceEqDiff, ne_eq, not_false_eq_true, not_true_eq_false, decide_true, decide_false, Bool.not_true, Bool.not_false]
  refine oks_step rfl ?_
  simp (disch := decide) only [ok_neS, q6, ok_truthb, oks_nil, s_expr, exprK_at, s_var, varK_at, s_attr, attrK_at, attrK2_at, s_sub, subK_at, subK2_at, subK3_at, s_ite, iteK_t, iteK_f, s_ret, retK_at, s_ret0, s_pass, runK_some, runK_none, forK_at, turnK_none, turnK_some, whlK_t, whlK_f, tt_not, tt_band, tt_bor, tt_bool, tt_loc, tt_cmp, tt_cmp2, tt_call, tt_meth, tt_isi, tt_attr, tt_sub, tt_bin, tnotF_t, tnotF_f, ta_nil, ta_cons, andF_t, andF_f, to_nil, to_cons, orF_t, orF_f, e_none, e_bool, e_int, e_str, e_loc, e_bin, binF_at, e_not, notF_at, notF2_t, notF2_f, e_band, e_bor, e_cmp, cmpF_at, e_cmp2, cmpG_t, cmpG_f, e_list, listF_at, e_tup, tupF_at, e_dict0, e_attr, attrF_at, e_sub, subF_at, e_slice, e_call, e_meth, methF_at, e_bi, e_isi, isiF_at, boolF_at, e_comp, es_nil, es_cons, consF_at, consF2_at, ok_bind, bindK_at, bind_pure, bind_lift, ok_pure, ok_lift, List.zip_cons_cons, List.zip_nil_right, List.zip_nil_left, List.foldl_cons, List.foldl_nil, upd_def, Nat.reduceBEq, bif_t, bif_f, if_true, if_false, Bool.false_eq_true, reduceCtorEq, Nat.reduceEqDiff, ne_eq, not_false_eq_true, not_true_eq_false, decide_true, decide_false, Bool.not_true, Bool.not_false]
  exact end_ok A l I e75 e76 e89 fun σ' A' k' => h _ σ' _ _ _ _ A' (l.kp k') I (by lia) rfl rfl rfl fun o e => k' _ _ rfl e
theorem rest_good {lc' : Loc} {hs' : List (Option Nat)} {r' : Nat → List (Option Nat)} {w' : Nat → Nat} {q' : List Nat} {f : Nat} (A : Pl σ' hs' r' w' q') (l : Lw σ' ns hs r) (g : σ'.get f = some (.list [])) (hb : b < 2) (hi : i < (r b).length)
    (e89 : lc' 89 = some (.ref 8)) (e95 : lc' 95 = some (.int (b : Int))) (e96 : lc' 96 = some (.int (i : Int))) (e67 : lc' 67 = some (.ref f))
    (h : ∀ τ, Pl τ hs' r' w' q' → Lw τ ns hs r → Kp σ' τ → OkS (exs prog (run prog 1000 20) 1000 f_law_5f_8b_2 lc' τ) (andThen prog (run prog 1000 20) 1000 f_law_5f_9 Q)) : OkS (exs prog (run prog 1000 20) 1000 f_law_5f_8 lc' σ') Q := by
  refine oks_step rfl ?_
  have hge : ¬ ((i : Int) ≥ (((r b).map ov).length : Int)) := by rw [List.length_map]; lia
  simp (disch := decide) only [e96, e89, e95, ok_getList l.rm (Int.natCast_nonneg _) (rm_at hb), ok_lenL (l.rx b hb), ok_ge, hge, ok_truthb, s_expr, exprK_at, s_var, varK_at, s_attr, attrK_at, attrK2_at, s_sub, subK_at, subK2_at, subK3_at, s_ite, iteK_t, iteK_f, s_ret, retK_at, s_ret0, s_pass, runK_some, runK_none, forK_at, turnK_none, turnK_some, whlK_t, whlK_f, tt_not, tt_band, tt_bor, tt_bool, tt_loc, tt_cmp, tt_cmp2, tt_call, tt_meth, tt_isi, tt_attr, tt_sub, tt_bin, tnotF_t, tnotF_f, ta_nil, ta_cons, andF_t, andF_f, to_nil, to_cons, orF_t, orF_f, e_none, e_bool, e_int, e_str, e_loc, e_bin, binF_at, e_not, notF_at, notF2_t, notF2_f, e_band, e_bor, e_cmp, cmpF_at, e_cmp2, cmpG_t, cmpG_f, e_list, listF_at, e_tup, tupF_at, e_dict0, e_attr, attrF_at, e_sub, subF_at, e_slice, e_call, e_meth, methF_at, e_bi, e_isi, isiF_at, boolF_at, e_comp, es_nil, es_cons, consF_at, consF2_at, ok_bind, bindK_at, bind_pure, bind_lift, ok_pure, ok_lift, List.zip_cons_cons, List.zip_nil_right, List.zip_nil_left, List.foldl_cons, List.foldl_nil, upd_def, Nat.reduceBEq, bif_t, bif_f, if_true, if_false, Bool.false_eq_true, reduceCtorEq, Nat.reduceEqDiff, ne_eq, not_false_eq_true, not_true_eq_false, decide_true, decide_false, Bool.not_true, Bool.not_false]
  refine oks_step rfl ?_
  simp (disch := decide) only [e67, ok_alloc (o := .list []) rfl, s_expr, exprK_at, s_var, varK_at, s_attr, attrK_at, attrK2_at, s_sub, subK_at, subK2_at, subK3_at, s_ite, iteK_t, iteK_f, s_ret, retK_at, s_ret0, s_pass, runK_some, runK_none, forK_at, turnK_none, turnK_some, whlK_t, whlK_f, tt_not, tt_band, tt_bor, tt_bool, tt_loc, tt_cmp, tt_cmp2, tt_call, tt_meth, tt_isi, tt_attr, tt_sub, tt_bin, tnotF_t, tnotF_f, ta_nil, ta_cons, andF_t, andF_f, to_nil, to_cons, orF_t, orF_f, e_none, e_bool, e_int, e_str, e_loc, e_bin, binF_at, e_not, notF_at, notF2_t, notF2_f, e_band, e_bor, e_cmp, cmpF_at, e_cmp2, cmpG_t, cmpG_f, e_list, listF_at, e_tup, tupF_at, e_dict0, e_attr, attrF_at, e_sub, subF_at, e_slice, e_call, e_meth, methF_at, e_bi, e_isi, isiF_at, boolF_at, e_comp, es_nil, es_cons, consF_at, consF2_at, ok_bind, bindK_at, bind_pure, bind_lift, ok_pure, ok_lift, List.zip_cons_cons, List.zip_nil_right, List.zip_nil_left, List.foldl_cons, List.foldl_nil, upd_def, Nat.reduceBEq, bif_t, bif_f, if_true, if_false, Bool.false_eq_true, reduceCtorEq, Nat.reduceEqDiff, ne_eq, not_false_eq_true, not_true_eq_false, decide_true, decide_false, Bool.not_true, Bool.not_false]
  refine numbers_ok hL (get_keep g) get_push_eq (fun x hx => nomatch hx) (by decide) ?_
  simp (disch := decide) only [ok_truthb, oks_nil, s_expr, exprK_at, s_var, varK_at, s_attr, attrK_at, attrK2_at, s_sub, subK_at, subK2_at, subK3_at, s_ite, iteK_t, iteK_f, s_ret, retK_at, s_ret0, s_pass, runK_some, runK_none, forK_at, turnK_none, turnK_some, whlK_t, whlK_f, tt_not, tt_band, tt_bor, tt_bool, tt_loc, tt_cmp, tt_cmp2, tt_call, tt_meth, tt_isi, tt_attr, tt_sub, tt_bin, tnotF_t, tnotF_f, ta_nil, ta_cons, andF_t, andF_f, to_nil, to_cons, orF_t, orF_f, e_none, e_bool, e_int, e_str, e_loc, e_bin, binF_at, e_not, notF_at, notF2_t, notF2_f, e_band, e_bor, e_cmp, cmpF_at, e_cmp2, cmpG_t, cmpG_f, e_list, listF_at, e_tup, tupF_at, e_dict0, e_attr, attrF_at, e_sub, subF_at, e_slice, e_call, e_meth, methF_at, e_bi, e_isi, isiF_at, boolF_at, e_comp, es_nil, es_cons, consF_at, consF2_at, ok_bind, bindK_at, bind_pure, bind_lift, ok_pure, ok_lift, List.zip_cons_cons, List.zip_nil_right, List.zip_nil_left, List.foldl_cons, List.foldl_nil, upd_def, Nat.reduceBEq, bif_t, bif_f, if_true, if_false, Bool.false_eq_true, reduceCtorEq, Nat.reduceEqDiff, ne_eq, not_false_eq_true, not_true_eq_false, decide_true, decide_false, Bool.not_true, Bool.not_false]
  exact h _ ((A.push _).push _) ((l.push _).push _) (((Kp.refl _).push _).push _)
theorem rest_put (A : Pl σ hs r w q) (l : Lw σ ns hs r) (I : Inv z hs r w) (e75 : lc 75 = some (.ref 2)) (e76 : lc 76 = some (.ref 20)) (e89 : lc 89 = some (.ref 8)) (e95 : lc 95 = some (.int (b : Int))) (e96 : lc 96 = some (.int (i : Int))) (e79 : lc 79 = some (.int (j : Int))) (e87 : lc 87 = some (.ref D)) (hDw : 20 < D)
    (hD : σ.get D = some (tp sPut (6 + b) i j)) (hb : b < 2) (hj : j < 8) (hi : i < (r b).length) (hq : q.length ≤ 100) (h : Then σ ns z q.length lc Q) : OkS (exs prog (run prog 1000 20) 1000 f_law_5f_7 lc σ) Q := by
  refine oks_step rfl ?_
  simp (disch := decide) only [e75, e87, s_expr, exprK_at, s_var, varK_at, s_attr, attrK_at, attrK2_at, s_sub, subK_at, subK2_at, subK3_at, s_ite, iteK_t, iteK_f, s_ret, retK_at, s_ret0, s_pass, runK_some, runK_none, forK_at, turnK_none, turnK_some, whlK_t, whlK_f, tt_not, tt_band, tt_bor, tt_bool, tt_loc, tt_cmp, tt_cmp2, tt_call, tt_meth, tt_isi, tt_attr, tt_sub, tt_bin, tnotF_t, tnotF_f, ta_nil, ta_cons, andF_t, andF_f, to_nil, to_cons, orF_t, orF_f, e_none, e_bool, e_int, e_str, e_loc, e_bin, binF_at, e_not, notF_at, notF2_t, notF2_f, e_band, e_bor, e_cmp, cmpF_at, e_cmp2, cmpG_t, cmpG_f, e_list, listF_at, e_tup, tupF_at, e_dict0, e_attr, attrF_at, e_sub, subF_at, e_slice, e_call, e_meth, methF_at, e_bi, e_isi, isiF_at, boolF_at, e_comp, es_nil, es_cons, consF_at, consF2_at, ok_bind, bindK_at, bind_pure, bind_lift, ok_pure, ok_lift, List.zip_cons_cons, List.zip_nil_right, List.zip_nil_left, List.foldl_cons, List.foldl_nil, upd_def, Nat.reduceBEq, bif_t, bif_f, if_true, if_false, Bool.false_eq_true, reduceCtorEq, Nat.reduceEqDiff, ne_eq, not_false_eq_true, not_true_eq_false, decide_true, decide_false, Bool.not_true, Bool.not_false]
  refine done_put A I hD hb hj hi hq fun σ1 f q1' A1 hq1 k1 g1 => ?_
  simp (disch := decide) only [s_expr, exprK_at, s_var, varK_at, s_attr, attrK_at, attrK2_at, s_sub, subK_at, subK2_at, subK3_at, s_ite, iteK_t, iteK_f, s_ret, retK_at, s_ret0, s_pass, runK_some, runK_none, forK_at, turnK_none, turnK_some, whlK_t, whlK_f, tt_not, tt_band, tt_bor, tt_bool, tt_loc, tt_cmp, tt_cmp2, tt_call, tt_meth, tt_isi, tt_attr, tt_sub, tt_bin, tnotF_t, tnotF_f, ta_nil, ta_cons, andF_t, andF_f, to_nil, to_cons, orF_t, orF_f, e_none, e_bool, e_int, e_str, e_loc, e_bin, binF_at, e_not, notF_at, notF2_t, notF2_f, e_band, e_bor, e_cmp, cmpF_at, e_cmp2, cmpG_t, cmpG_f, e_list, listF_at, e_tup, tupF_at, e_dict0, e_attr, attrF_at, e_sub, subF_at, e_slice, e_call, e_meth, methF_at, e_bi, e_isi, isiF_at, boolF_at, e_comp, es_nil, es_cons, consF_at, consF2_at, ok_bind, bindK_at, bind_pure, bind_lift, ok_pure, ok_lift, List.zip_cons_cons, List.zip_nil_right, List.zip_nil_left, List.foldl_cons, List.foldl_nil, upd_def, Nat.reduceBEq, bif_t, bif_f, if_true, if_false, Bool.false_eq_true, reduceCtorEq, Nat.reduceEqDiff, ne_eq, not_false_eq_true, not_true_eq_false, decide_true, decide_false, Bool.not_true, Bool.not_false]
  refine rest_good A1 (l.kp k1) g1 hb hi e89 e95 e96 rfl fun τ A2 l2 k2 => ?_
  have hD2 := k2 _ _ (ow_gt (by lia)) (k1 _ _ (ow_gt (by lia)) hD)
  refine oks_step rfl ?_
  simp (disch := decide) only [e87, t0 hD2, ok_eqS, q1, ok_truthb, s_expr, exprK_at, s_var, varK_at, s_attr, attrK_at, attrK2_at, s_sub, subK_at, subK2_at, subK3_at, s_ite, iteK_t, iteK_f, s_ret, retK_at, s_ret0, s_pass, runK_some, runK_none, forK_at, turnK_none, turnK_some, whlK_t, whlK_f, tt_not, tt_band, tt_bor, tt_bool, tt_loc, tt_cmp, tt_cmp2, tt_call, tt_meth, tt_isi, tt_attr, tt_sub, tt_bin, tnotF_t, tnotF_f, ta_nil, ta_cons, andF_t, andF_f, to_nil, to_cons, orF_t, orF_f, e_none, e_bool, e_int, e_str, e_loc, e_bin, binF_at, e_not, notF_at, notF2_t, notF2_f, e_band, e_bor, e_cmp, cmpF_at, e_cmp2, cmpG_t, cmpG_f, e_list, listF_at, e_tup, tupF_at, e_dict0, e_attr, attrF_at, e_sub, subF_at, e_slice, e_call, e_meth, methF_at, e_bi, e_isi, isiF_at, boolF_at, e_comp, es_nil, es_cons, consF_at, consF2_at, ok_bind, bindK_at, bind_pure, bind_lift, ok_pure, ok_lift, List.zip_cons_cons, List.zip_nil_right, List.zip_nil_left, List.foldl_cons, List.foldl_nil, upd_def, Nat.reduceBEq, bif_t, bif_f, if_true, if_false, Bool.false_eq_true, reduceCtorEq, Nat.reduceEqDiff, ne_eq, not_false_eq_true, not_true_eq_false, decide_true, decide_false, Bool.not_true, Bool.not_false]
  refine oks_step rfl ?_
  have nf : prog.nf ≤ rA b := by unfold rA; cases (b == 0) <;> decide
  simp (disch := decide) only [e76, e79, e89, e95, e96, ok_getList l2.hl (Int.natCast_nonneg _) (ov_at (show j < hs.length by have := I.hl; lia)), ok_getList l2.rm (Int.natCast_nonneg _) (rm_at hb), ok_setList (l2.rx b hb) nf (Int.natCast_nonneg _) (lt_ov hi), set_ov, oks_nil, s_expr, exprK_at, s_var, varK_at, s_attr, attrK_at, attrK2_at, s_sub, subK_at, subK2_at, subK3_at, s_ite, iteK_t, iteK_f, s_ret, retK_at, s_ret0, s_pass, runK_some, runK_none, forK_at, turnK_none, turnK_some, whlK_t, whlK_f, tt_not, tt_band, tt_bor, tt_bool, tt_loc, tt_cmp, tt_cmp2, tt_call, tt_meth, tt_isi, tt_attr, tt_sub, tt_bin, tnotF_t, tnotF_f, ta_nil, ta_cons, andF_t, andF_f, to_nil, to_cons, orF_t, orF_f, e_none, e_bool, e_int, e_str, e_loc, e_bin, binF_at, e_not, notF_at, notF2_t, notF2_f, e_band, e_bor, e_cmp, cmpF_at, e_cmp2, cmpG_t, cmpG_f, e_list, listF_at, e_tup, tupF_at, e_dict0, e_attr, attrF_at, e_sub, subF_at, e_slice, e_call, e_meth, methF_at, e_bi, e_isi, isiF_at, boolF_at, e_comp, es_nil, es_cons, consF_at, consF2_at, ok_bind, bindK_at, bind_pure, bind_lift, ok_pure, ok_lift, List.zip_cons_cons, List.zip_nil_right, List.zip_nil_left, List.foldl_cons, List.foldl_nil, upd_def, Nat.reduceBEq, bif_t, bif_f, if_true, if_false, Bool.false_eq_true, reduceCtorEq, Nat.reduceEqDiff, ne_eq, not_false_eq_true, not_true_eq_false, decide_true, decide_false, Bool.not_true, Bool.not_false]
  refine end_ok (A2.put rA_or _) (l2.setR hb _) (inv_slot I (fun k e => I.memH e) hb hi) e75 e76 e89 fun σ' A' k' => ?_
  refine h _ σ' _ _ _ _ A' ((l2.setR hb _).kp k') (inv_slot I (fun k e => I.memH e) hb hi) (by lia) rfl rfl rfl fun o e => k' _ _ rfl ?_
  rw [get_put_ne (rA_ne (by decide) (by decide))]; exact k2 _ _ rfl (k1 _ _ rfl e)
theorem rest_empty (A : Pl σ hs r w q) (l : Lw σ ns hs r) (I : Inv z hs r w) (e75 : lc 75 = some (.ref 2)) (e76 : lc 76 = some (.ref 20)) (e89 : lc 89 = some (.ref 8)) (e95 : lc 95 = some (.int (b : Int))) (e96 : lc 96 = some (.int (i : Int))) (e87 : lc 87 = some (.ref D)) (hDw : 20 < D)
    (hD : σ.get D = some (tp sEmp (6 + b) i j)) (hb : b < 2) (hi : i < (r b).length) (hq : q.length ≤ 100) (h : Then σ ns z q.length lc Q) : OkS (exs prog (run prog 1000 20) 1000 f_law_5f_7 lc σ) Q := by
  refine oks_step rfl ?_
  simp (disch := decide) only [e75, e87, s_expr, exprK_at, s_var, varK_at, s_attr, attrK_at, attrK2_at, s_sub, subK_at, subK2_at, subK3_at, s_ite, iteK_t, iteK_f, s_ret, retK_at, s_ret0, s_pass, runK_some, runK_none, forK_at, turnK_none, turnK_some, whlK_t, whlK_f, tt_not, tt_band, tt_bor, tt_bool, tt_loc, tt_cmp, tt_cmp2, tt_call, tt_meth, tt_isi, tt_attr, tt_sub, tt_bin, tnotF_t, tnotF_f, ta_nil, ta_cons, andF_t, andF_f, to_nil, to_cons, orF_t, orF_f, e_none, e_bool, e_int, e_str, e_loc, e_bin, binF_at, e_not, notF_at, notF2_t, notF2_f, e_band, e_bor, e_cmp, cmpF_at, e_cmp2, cmpG_t, cmpG_f, e_list, listF_at, e_tup, tupF_at, e_dict0, e_attr, attrF_at, e_sub, subF_at, e_slice, e_call, e_meth, methF_at, e_bi, e_isi, isiF_at, boolF_at, e_comp, es_nil, es_cons, consF_at, consF2_at, ok_bind, bindK_at, bind_pure, bind_lift, ok_pure, ok_lift, List.zip_cons_cons, List.zip_nil_right, List.zip_nil_left, List.foldl_cons, List.foldl_nil, upd_def, Nat.reduceBEq, bif_t, bif_f, if_true, if_false, Bool.false_eq_true, reduceCtorEq, Nat.reduceEqDiff, ne_eq, not_false_eq_true, not_true_eq_false, decide_true, decide_false, Bool.not_true, Bool.not_false]
  refine done_empty A I hD hb hi hq fun σ1 f q1' A1 hq1 k1 g1 => ?_
  simp (disch := decide) only [s_expr, exprK_at, s_var, varK_at, s_attr, attrK_at, attrK2_at, s_sub, subK_at, subK2_at, subK3_at, s_ite, iteK_t, iteK_f, s_ret, retK_at, s_ret0, s_pass, runK_some, runK_none, forK_at, turnK_none, turnK_some, whlK_t, whlK_f, tt_not, tt_band, tt_bor, tt_bool, tt_loc, tt_cmp, tt_cmp2, tt_call, tt_meth, tt_isi, tt_attr, tt_sub, tt_bin, tnotF_t, tnotF_f, ta_nil, ta_cons, andF_t, andF_f, to_nil, to_cons, orF_t, orF_f, e_none, e_bool, e_int, e_str, e_loc, e_bin, binF_at, e_not, notF_at, notF2_t, notF2_f, e_band, e_bor, e_cmp, cmpF_at, e_cmp2, cmpG_t, cmpG_f, e_list, listF_at, e_tup, tupF_at, e_dict0, e_attr, attrF_at, e_sub, subF_at, e_slice, e_call, e_meth, methF_at, e_bi, e_isi, isiF_at, boolF_at, e_comp, es_nil, es_cons, consF_at, consF2_at, ok_bind, bindK_at, bind_pure, bind_lift, ok_pure, ok_lift, List.zip_cons_cons, List.zip_nil_right, List.zip_nil_left, List.foldl_cons, List.foldl_nil, upd_def, Nat.reduceBEq, bif_t, bif_f, if_true, if_false, Bool.false_eq_true, reduceCtorEq, Nat.reduceEqDiff, ne_eq, not_false_eq_true, not_true_eq_false, decide_true, decide_false, Bool.not_true, Bool.not_false]
  refine rest_good A1 (l.kp k1) g1 hb hi e89 e95 e96 rfl fun τ A2 l2 k2 => ?_
  have hD2 := k2 _ _ (ow_gt (by lia)) (k1 _ _ (ow_gt (by lia)) hD)
  refine oks_step rfl ?_
  simp (disch := decide) only [e87, t0 hD2, ok_eqS, q2, ok_truthb, s_expr, exprK_at, s_var, varK_at, s_attr, attrK_at, attrK2_at, s_sub, subK_at, subK2_at, subK3_at, s_ite, iteK_t, iteK_f, s_ret, retK_at, s_ret0, s_pass, runK_some, runK_none, forK_at, turnK_none, turnK_some, whlK_t, whlK_f, tt_not, tt_band, tt_bor, tt_bool, tt_loc, tt_cmp, tt_cmp2, tt_call, tt_meth, tt_isi, tt_attr, tt_sub, tt_bin, tnotF_t, tnotF_f, ta_nil, ta_cons, andF_t, andF_f, to_nil, to_cons, orF_t, orF_f, e_none, e_bool, e_int, e_str, e_loc, e_bin, binF_at, e_not, notF_at, notF2_t, notF2_f, e_band, e_bor, e_cmp, cmpF_at, e_cmp2, cmpG_t, cmpG_f, e_list, listF_at, e_tup, tupF_at, e_dict0, e_attr, attrF_at, e_sub, subF_at, e_slice, e_call, e_meth, methF_at, e_bi, e_isi, isiF_at, boolF_at, e_comp, es_nil, es_cons, consF_at, consF2_at, ok_bind, bindK_at, bind_pure, bind_lift, ok_pure, ok_lift, List.zip_cons_cons, List.zip_nil_right, List.zip_nil_left, List.foldl_cons, List.foldl_nil, upd_def, Nat.reduceBEq, bif_t, bif_f, if_true, if_false, Bool.false_eq_true, reduceCtorEq, Nat.reduceEqDiff, ne_eq, not_false_eq_true, not_true_eq_false, decide_true, decide_false, Bool.not_true, Bool.not_false]
  refine oks_step rfl ?_
  simp (disch := decide) only [e87, t0 hD2, ok_eqS, q4, ok_truthb, s_expr, exprK_at, s_var, varK_at, s_attr, attrK_at, attrK2_at, s_sub, subK_at, subK2_at, subK3_at, s_ite, iteK_t, iteK_f, s_ret, retK_at, s_ret0, s_pass, runK_some, runK_none, forK_at, turnK_none, turnK_some, whlK_t, whlK_f, tt_not, tt_band, tt_bor, tt_bool, tt_loc, tt_cmp, tt_cmp2, tt_call, tt_meth, tt_isi, tt_attr, tt_sub, tt_bin, tnotF_t, tnotF_f, ta_nil, ta_cons, andF_t, andF_f, to_nil, to_cons, orF_t, orF_f, e_none, e_bool, e_int, e_str, e_loc, e_bin, binF_at, e_not, notF_at, notF2_t, notF2_f, e_band, e_bor, e_cmp, cmpF_at, e_cmp2, cmpG_t, cmpG_f, e_list, listF_at, e_tup, tupF_at, e_dict0, e_attr, attrF_at, e_sub, subF_at, e_slice, e_call, e_meth, methF_at, e_bi, e_isi, isiF_at, boolF_at, e_comp, es_nil, es_cons, consF_at, consF2_at, ok_bind, bindK_at, bind_pure, bind_lift, ok_pure, ok_lift, List.zip_cons_cons, List.zip_nil_right, List.zip_nil_left, List.foldl_cons, List.foldl_nil, upd_def, Nat.reduceBEq, bif_t, bif_f, if_true, if_false, Bool.false_eq_true, reduceCtorEq, Nat.reduceEqDiff, ne_eq, not_false_eq_true, not_true_eq_false, decide_true, decide_false, Bool.not_true, Bool.not_false]
  refine oks_step rfl ?_
  have nf : prog.nf ≤ rA b := by unfold rA; cases (b == 0) <;> decide
  have so : ((r b).map ov).set ((i : Int)).toNat V.none = ((r b).set i none).map ov := set_ov (x := none)
  simp (disch := decide) only [e89, e95, e96, ok_getList l2.rm (Int.natCast_nonneg _) (rm_at hb), ok_setList (l2.rx b hb) nf (Int.natCast_nonneg _) (lt_ov hi), so, oks_nil, then_none, s_expr, exprK_at, s_var, varK_at, s_attr, attrK_at, attrK2_at, s_sub, subK_at, subK2_at, subK3_at, s_ite, iteK_t, iteK_f, s_ret, retK_at, s_ret0, s_pass, runK_some, runK_none, forK_at, turnK_none, turnK_some, whlK_t, whlK_f, tt_not, tt_band, tt_bor, tt_bool, tt_loc, tt_cmp, tt_cmp2, tt_call, tt_meth, tt_isi, tt_attr, tt_sub, tt_bin, tnotF_t, tnotF_f, ta_nil, ta_cons, andF_t, andF_f, to_nil, to_cons, orF_t, orF_f, e_none, e_bool, e_int, e_str, e_loc, e_bin, binF_at, e_not, notF_at, notF2_t, notF2_f, e_band, e_bor, e_cmp, cmpF_at, e_cmp2, cmpG_t, cmpG_f, e_list, listF_at, e_tup, tupF_at, e_dict0, e_attr, attrF_at, e_sub, subF_at, e_slice, e_call, e_meth, methF_at, e_bi, e_isi, isiF_at, boolF_at, e_comp, es_nil, es_cons, consF_at, consF2_at, ok_bind, bindK_at, bind_pure, bind_lift, ok_pure, ok_lift, List.zip_cons_cons, List.zip_nil_right, List.zip_nil_left, List.foldl_cons, List.foldl_nil, upd_def, Nat.reduceBEq, bif_t, bif_f, if_true, if_false, Bool.false_eq_true, reduceCtorEq, Nat.reduceEqDiff, ne_eq, not_false_eq_true, not_true_eq_false, decide_true, decide_false, Bool.not_true, Bool.not_false]
  refine end_ok (A2.put rA_or _) (l2.setR hb _) (inv_slot (x := none) I (fun k e => nomatch e) hb hi) e75 e76 e89 fun σ' A' k' => ?_
  refine h _ σ' _ _ _ _ A' ((l2.setR hb _).kp k') (inv_slot (x := none) I (fun k e => nomatch e) hb hi) (by lia) rfl rfl rfl fun o e => k' _ _ rfl ?_
  rw [get_put_ne (rA_ne (by decide) (by decide))]; exact k2 _ _ rfl (k1 _ _ rfl e)
theorem rest_take (A : Pl σ hs r w q) (l : Lw σ ns hs r) (I : Inv z hs r w) (e75 : lc 75 = some (.ref 2)) (e76 : lc 76 = some (.ref 20)) (e89 : lc 89 = some (.ref 8)) (e95 : lc 95 = some (.int (b : Int))) (e96 : lc 96 = some (.int (i : Int))) (e79 : lc 79 = some (.int (j : Int))) (e87 : lc 87 = some (.ref D)) (hDw : 20 < D)
    (hD : σ.get D = some (tp sTak k i (6 + b))) (hb : b < 2) (hk : k < 6) (hkj : Int.fmod (j : Int) 6 = (k : Int)) (hi : i < (r b).length) (hq : q.length ≤ 100) (h : Then σ ns z q.length lc Q) : OkS (exs prog (run prog 1000 20) 1000 f_law_5f_7 lc σ) Q := by
  refine oks_step rfl ?_
  simp (disch := decide) only [e75, e87, s_expr, exprK_at, s_var, varK_at, s_attr, attrK_at, attrK2_at, s_sub, subK_at, subK2_at, subK3_at, s_ite, iteK_t, iteK_f, s_ret, retK_at, s_ret0, s_pass, runK_some, runK_none, forK_at, turnK_none, turnK_some, whlK_t, whlK_f, tt_not, tt_band, tt_bor, tt_bool, tt_loc, tt_cmp, tt_cmp2, tt_call, tt_meth, tt_isi, tt_attr, tt_sub, tt_bin, tnotF_t, tnotF_f, ta_nil, ta_cons, andF_t, andF_f, to_nil, to_cons, orF_t, orF_f, e_none, e_bool, e_int, e_str, e_loc, e_bin, binF_at, e_not, notF_at, notF2_t, notF2_f, e_band, e_bor, e_cmp, cmpF_at, e_cmp2, cmpG_t, cmpG_f, e_list, listF_at, e_tup, tupF_at, e_dict0, e_attr, attrF_at, e_sub, subF_at, e_slice, e_call, e_meth, methF_at, e_bi, e_isi, isiF_at, boolF_at, e_comp, es_nil, es_cons, consF_at, consF2_at, ok_bind, bindK_at, bind_pure, bind_lift, ok_pure, ok_lift, List.zip_cons_cons, List.zip_nil_right, List.zip_nil_left, List.foldl_cons, List.foldl_nil, upd_def, Nat.reduceBEq, bif_t, bif_f, if_true, if_false, Bool.false_eq_true, reduceCtorEq, Nat.reduceEqDiff, ne_eq, not_false_eq_true, not_true_eq_false, decide_true, decide_false, Bool.not_true, Bool.not_false]
  refine done_take A I hD hb hk hi hq fun σ1 f q1' A1 hq1 k1 g1 => ?_
  simp (disch := decide) only [s_expr, exprK_at, s_var, varK_at, s_attr, attrK_at, attrK2_at, s_sub, subK_at, subK2_at, subK3_at, s_ite, iteK_t, iteK_f, s_ret, retK_at, s_ret0, s_pass, runK_some, runK_none, forK_at, turnK_none, turnK_some, whlK_t, whlK_f, tt_not, tt_band, tt_bor, tt_bool, tt_loc, tt_cmp, tt_cmp2, tt_call, tt_meth, tt_isi, tt_attr, tt_sub, tt_bin, tnotF_t, tnotF_f, ta_nil, ta_cons, andF_t, andF_f, to_nil, to_cons, orF_t, orF_f, e_none, e_bool, e_int, e_str, e_loc, e_bin, binF_at, e_not, notF_at, notF2_t, notF2_f, e_band, e_bor, e_cmp, cmpF_at, e_cmp2, cmpG_t, cmpG_f, e_list, listF_at, e_tup, tupF_at, e_dict0, e_attr, attrF_at, e_sub, subF_at, e_slice, e_call, e_meth, methF_at, e_bi, e_isi, isiF_at, boolF_at, e_comp, es_nil, es_cons, consF_at, consF2_at, ok_bind, bindK_at, bind_pure, bind_lift, ok_pure, ok_lift, List.zip_cons_cons, List.zip_nil_right, List.zip_nil_left, List.foldl_cons, List.foldl_nil, upd_def, Nat.reduceBEq, bif_t, bif_f, if_true, if_false, Bool.false_eq_true, reduceCtorEq, Nat.reduceEqDiff, ne_eq, not_false_eq_true, not_true_eq_false, decide_true, decide_false, Bool.not_true, Bool.not_false]
  refine rest_good A1 (l.kp k1) g1 hb hi e89 e95 e96 rfl fun τ A2 l2 k2 => ?_
  have hD2 := k2 _ _ (ow_gt (by lia)) (k1 _ _ (ow_gt (by lia)) hD)
  refine oks_step rfl ?_
  simp (disch := decide) only [e87, t0 hD2, ok_eqS, q3, ok_truthb, s_expr, exprK_at, s_var, varK_at, s_attr, attrK_at, attrK2_at, s_sub, subK_at, subK2_at, subK3_at, s_ite, iteK_t, iteK_f, s_ret, retK_at, s_ret0, s_pass, runK_some, runK_none, forK_at, turnK_none, turnK_some, whlK_t, whlK_f, tt_not, tt_band, tt_bor, tt_bool, tt_loc, tt_cmp, tt_cmp2, tt_call, tt_meth, tt_isi, tt_attr, tt_sub, tt_bin, tnotF_t, tnotF_f, ta_nil, ta_cons, andF_t, andF_f, to_nil, to_cons, orF_t, orF_f, e_none, e_bool, e_int, e_str, e_loc, e_bin, binF_at, e_not, notF_at, notF2_t, notF2_f, e_band, e_bor, e_cmp, cmpF_at, e_cmp2, cmpG_t, cmpG_f, e_list, listF_at, e_tup, tupF_at, e_dict0, e_attr, attrF_at, e_sub, subF_at, e_slice, e_call, e_meth, methF_at, e_bi, e_isi, isiF_at, boolF_at, e_comp, es_nil, es_cons, consF_at, consF2_at, ok_bind, bindK_at, bind_pure, bind_lift, ok_pure, ok_lift, List.zip_cons_cons, List.zip_nil_right, List.zip_nil_left, List.foldl_cons, List.foldl_nil, upd_def, Nat.reduceBEq, bif_t, bif_f, if_true, if_false, Bool.false_eq_true, reduceCtorEq, Nat.reduceEqDiff, ne_eq, not_false_eq_true, not_true_eq_false, decide_true, decide_false, Bool.not_true, Bool.not_false]
  refine oks_step rfl ?_
  simp (disch := decide) only [e87, t0 hD2, ok_eqS, q5, ok_truthb, s_expr, exprK_at, s_var, varK_at, s_attr, attrK_at, attrK2_at, s_sub, subK_at, subK2_at, subK3_at, s_ite, iteK_t, iteK_f, s_ret, retK_at, s_ret0, s_pass, runK_some, runK_none, forK_at, turnK_none, turnK_some, whlK_t, whlK_f, tt_not, tt_band, tt_bor, tt_bool, tt_loc, tt_cmp, tt_cmp2, tt_call, tt_meth, tt_isi, tt_attr, tt_sub, tt_bin, tnotF_t, tnotF_f, ta_nil, ta_cons, andF_t, andF_f, to_nil, to_cons, orF_t, orF_f, e_none, e_bool, e_int, e_str, e_loc, e_bin, binF_at, e_not, notF_at, notF2_t, notF2_f, e_band, e_bor, e_cmp, cmpF_at, e_cmp2, cmpG_t, cmpG_f, e_list, listF_at, e_tup, tupF_at, e_dict0, e_attr, attrF_at, e_sub, subF_at, e_slice, e_call, e_meth, methF_at, e_bi, e_isi, isiF_at, boolF_at, e_comp, es_nil, es_cons, consF_at, consF2_at, ok_bind, bindK_at, bind_pure, bind_lift, ok_pure, ok_lift, List.zip_cons_cons, List.zip_nil_right, List.zip_nil_left, List.foldl_cons, List.foldl_nil, upd_def, Nat.reduceBEq, bif_t, bif_f, if_true, if_false, Bool.false_eq_true, reduceCtorEq, Nat.reduceEqDiff, ne_eq, not_false_eq_true, not_true_eq_false, decide_true, decide_false, Bool.not_true, Bool.not_false]
  refine oks_step rfl ?_
  simp (disch := decide) only [e76, e79, e89, e95, e96, ok_mod (b := 6) (by decide), hkj, ok_getList l2.rm (Int.natCast_nonneg _) (rm_at hb), ok_getList (l2.rx b hb) (Int.natCast_nonneg _) (ov_at hi), ok_setList l2.hl (show prog.nf ≤ 20 by decide) (Int.natCast_nonneg _) (lt_ov (show k < hs.length by have := I.hl; lia)), set_ov, oks_nil, then_none, s_expr, exprK_at, s_var, varK_at, s_attr, attrK_at, attrK2_at, s_sub, subK_at, subK2_at, subK3_at, s_ite, iteK_t, iteK_f, s_ret, retK_at, s_ret0, s_pass, runK_some, runK_none, forK_at, turnK_none, turnK_some, whlK_t, whlK_f, tt_not, tt_band, tt_bor, tt_bool, tt_loc, tt_cmp, tt_cmp2, tt_call, tt_meth, tt_isi, tt_attr, tt_sub, tt_bin, tnotF_t, tnotF_f, ta_nil, ta_cons, andF_t, andF_f, to_nil, to_cons, orF_t, orF_f, e_none, e_bool, e_int, e_str, e_loc, e_bin, binF_at, e_not, notF_at, notF2_t, notF2_f, e_band, e_bor, e_cmp, cmpF_at, e_cmp2, cmpG_t, cmpG_f, e_list, listF_at, e_tup, tupF_at, e_dict0, e_attr, attrF_at, e_sub, subF_at, e_slice, e_call, e_meth, methF_at, e_bi, e_isi, isiF_at, boolF_at, e_comp, es_nil, es_cons, consF_at, consF2_at, ok_bind, bindK_at, bind_pure, bind_lift, ok_pure, ok_lift, List.zip_cons_cons, List.zip_nil_right, List.zip_nil_left, List.foldl_cons, List.foldl_nil, upd_def, Nat.reduceBEq, bif_t, bif_f, if_true, if_false, Bool.false_eq_true, reduceCtorEq, Nat.reduceEqDiff, ne_eq, not_false_eq_true, not_true_eq_false, decide_true, decide_false, Bool.not_true, Bool.not_false]
  refine end_ok (A2.put (.inr (.inr rfl)) _) (l2.setH _) (inv_hand I (fun k e => I.mem hb e) hk) e75 e76 e89 fun σ' A' k' => ?_
  refine h _ σ' _ _ _ _ A' ((l2.setH _).kp k') (inv_hand I (fun k e => I.mem hb e) hk) (by lia) rfl rfl rfl fun o e => k' _ _ rfl ?_
  rw [get_put_ne (by decide)]; exact k2 _ _ rfl (k1 _ _ rfl e)
end
end Mine.L03

set_option autoImplicit false
set_option linter.unusedSimpArgs false
set_option linter.unusedVariables false
namespace Mine.L03
open Mine
open PySem (Str PyData)

section
variable {σ σ' : H} {ns : List Int} {hs : List (Option Nat)} {r : Nat → List (Option Nat)} {w : Nat → Nat} {q : List Nat} {z : Nat → Nat} {lc : Loc} {Q : Option V → Loc → H → Prop}
theorem Then.mono {n : Nat} {lc' : Loc} (h : Then σ ns z n lc Q) (k : Kp σ σ') (e1 : lc' 75 = lc 75) (e2 : lc' 76 = lc 76) (e3 : lc' 89 = lc 89) : Then σ' ns z n lc' Q :=
  fun l' τ hs' r' w' q' A l I hq d1 d2 d3 g => h l' τ hs' r' w' q' A l I hq (d1.trans e1) (d2.trans e2) (d3.trans e3) fun o e => g o (k _ _ rfl e)
theorem turn_ok {c : Int} (A : Pl σ hs r w q) (l : Lw σ ns hs r) (I : Inv z hs r w) (e75 : lc 75 = some (.ref 2)) (e76 : lc 76 = some (.ref 20)) (e89 : lc 89 = some (.ref 8)) (e94 : lc 94 = some (.int c)) (hq : q.length ≤ 100) (h : Then σ ns z q.length lc Q) : OkS (exs prog (run prog 1000 20) 1000 f_law_5f_1 lc σ) Q := by
  obtain ⟨b, hb, hb2⟩ := fmod_nat (a := Int.fdiv c 3) (b := 2) (by decide)
  obtain ⟨i, hi, hi2⟩ := fmod_nat (a := Int.fdiv c 6) (b := 8) (by decide)
  obtain ⟨j, hj, hj2⟩ := fmod_nat (a := Int.fdiv c 48) (b := 8) (by decide)
  obtain ⟨k, hk, hk2⟩ := fmod_nat (a := (j : Int)) (b := 6) (by decide)
  obtain ⟨m, hm, hm2⟩ := fmod_nat (a := c) (b := 3) (by decide)
  have hb2 : b < 2 := by lia
  have hj2 : j < 8 := by lia
  have hk2 : k < 6 := by lia
  have e6 : (6 : Int) + (b : Int) = ((6 + b : Nat) : Int) := by lia
  have big := get_lt l.hl
  refine oks_step rfl ?_
  simp (disch := decide) only [e94, ok_div (b := 3) (by decide) (by decide), ok_mod (b := 2) (by decide), hb, s_expr, exprK_at, s_var, varK_at, s_attr, attrK_at, attrK2_at, s_sub, subK_at, subK2_at, subK3_at, s_ite, iteK_t, iteK_f, s_ret, retK_at, s_ret0, s_pass, runK_some, runK_none, forK_at, turnK_none, turnK_some, whlK_t, whlK_f, tt_not, tt_band, tt_bor, tt_bool, tt_loc, tt_cmp, tt_cmp2, tt_call, tt_meth, tt_isi, tt_attr, tt_sub, tt_bin, tnotF_t, tnotF_f, ta_nil, ta_cons, andF_t, andF_f, to_nil, to_cons, orF_t, orF_f, e_none, e_bool, e_int, e_str, e_loc, e_bin, binF_at, e_not, notF_at, notF2_t, notF2_f, e_band, e_bor, e_cmp, cmpF_at, e_cmp2, cmpG_t, cmpG_f, e_list, listF_at, e_tup, tupF_at, e_dict0, e_attr, attrF_at, e_sub, subF_at, e_slice, e_call, e_meth, methF_at, e_bi, e_isi, isiF_at, boolF_at, e_comp, es_nil, es_cons, consF_at, consF2_at, ok_bind, bindK_at, bind_pure, bind_lift, ok_pure, ok_lift, List.zip_cons_cons, List.zip_nil_right, List.zip_nil_left, List.foldl_cons, List.foldl_nil, upd_def, Nat.reduceBEq, bif_t, bif_f, if_true, if_false, Bool.false_eq_true, reduceCtorEq, Nat.reduceEqDiff, ne_eq, not_false_eq_true, not_true_eq_false, decide_true, decide_false, Bool.not_true, Bool.not_false]
  refine then_step rfl ?_
  simp (disch := decide) only [e94, ok_div (b := 6) (by decide) (by decide), ok_mod (b := 8) (by decide), hi, s_expr, exprK_at, s_var, varK_at, s_attr, attrK_at, attrK2_at, s_sub, subK_at, subK2_at, subK3_at, s_ite, iteK_t, iteK_f, s_ret, retK_at, s_ret0, s_pass, runK_some, runK_none, forK_at, turnK_none, turnK_some, whlK_t, whlK_f, tt_not, tt_band, tt_bor, tt_bool, tt_loc, tt_cmp, tt_cmp2, tt_call, tt_meth, tt_isi, tt_attr, tt_sub, tt_bin, tnotF_t, tnotF_f, ta_nil, ta_cons, andF_t, andF_f, to_nil, to_cons, orF_t, orF_f, e_none, e_bool, e_int, e_str, e_loc, e_bin, binF_at, e_not, notF_at, notF2_t, notF2_f, e_band, e_bor, e_cmp, cmpF_at, e_cmp2, cmpG_t, cmpG_f, e_list, listF_at, e_tup, tupF_at, e_dict0, e_attr, attrF_at, e_sub, subF_at, e_slice, e_call, e_meth, methF_at, e_bi, e_isi, isiF_at, boolF_at, e_comp, es_nil, es_cons, consF_at, consF2_at, ok_bind, bindK_at, bind_pure, bind_lift, ok_pure, ok_lift, List.zip_cons_cons, List.zip_nil_right, List.zip_nil_left, List.foldl_cons, List.foldl_nil, upd_def, Nat.reduceBEq, bif_t, bif_f, if_true, if_false, Bool.false_eq_true, reduceCtorEq, Nat.reduceEqDiff, ne_eq, not_false_eq_true, not_true_eq_false, decide_true, decide_false, Bool.not_true, Bool.not_false]
  refine then_step rfl ?_
  simp (disch := decide) only [e94, ok_div (b := 48) (by decide) (by decide), ok_mod (b := 8) (by decide), hj, s_expr, exprK_at, s_var, varK_at, s_attr, attrK_at, attrK2_at, s_sub, subK_at, subK2_at, subK3_at, s_ite, iteK_t, iteK_f, s_ret, retK_at, s_ret0, s_pass, runK_some, runK_none, forK_at, turnK_none, turnK_some, whlK_t, whlK_f, tt_not, tt_band, tt_bor, tt_bool, tt_loc, tt_cmp, tt_cmp2, tt_call, tt_meth, tt_isi, tt_attr, tt_sub, tt_bin, tnotF_t, tnotF_f, ta_nil, ta_cons, andF_t, andF_f, to_nil, to_cons, orF_t, orF_f, e_none, e_bool, e_int, e_str, e_loc, e_bin, binF_at, e_not, notF_at, notF2_t, notF2_f, e_band, e_bor, e_cmp, cmpF_at, e_cmp2, cmpG_t, cmpG_f, e_list, listF_at, e_tup, tupF_at, e_dict0, e_attr, attrF_at, e_sub, subF_at, e_slice, e_call, e_meth, methF_at, e_bi, e_isi, isiF_at, boolF_at, e_comp, es_nil, es_cons, consF_at, consF2_at, ok_bind, bindK_at, bind_pure, bind_lift, ok_pure, ok_lift, List.zip_cons_cons, List.zip_nil_right, List.zip_nil_left, List.foldl_cons, List.foldl_nil, upd_def, Nat.reduceBEq, bif_t, bif_f, if_true, if_false, Bool.false_eq_true, reduceCtorEq, Nat.reduceEqDiff, ne_eq, not_false_eq_true, not_true_eq_false, decide_true, decide_false, Bool.not_true, Bool.not_false]
  refine then_step rfl ?_
  have okp : okO (.tup [.str (.ofString "put"), .int ((6 + b : Nat) : Int), .int (i : Int), .int (j : Int)]) = true := rfl
  simp (disch := decide) only [ok_add, e6, ok_alloc okp, s_expr, exprK_at, s_var, varK_at, s_attr, attrK_at, attrK2_at, s_sub, subK_at, subK2_at, subK3_at, s_ite, iteK_t, iteK_f, s_ret, retK_at, s_ret0, s_pass, runK_some, runK_none, forK_at, turnK_none, turnK_some, whlK_t, whlK_f, tt_not, tt_band, tt_bor, tt_bool, tt_loc, tt_cmp, tt_cmp2, tt_call, tt_meth, tt_isi, tt_attr, tt_sub, tt_bin, tnotF_t, tnotF_f, ta_nil, ta_cons, andF_t, andF_f, to_nil, to_cons, orF_t, orF_f, e_none, e_bool, e_int, e_str, e_loc, e_bin, binF_at, e_not, notF_at, notF2_t, notF2_f, e_band, e_bor, e_cmp, cmpF_at, e_cmp2, cmpG_t, cmpG_f, e_list, listF_at, e_tup, tupF_at, e_dict0, e_attr, attrF_at, e_sub, subF_at, e_slice, e_call, e_meth, methF_at, e_bi, e_isi, isiF_at, boolF_at, e_comp, es_nil, es_cons, consF_at, consF2_at, ok_bind, bindK_at, bind_pure, bind_lift, ok_pure, ok_lift, List.zip_cons_cons, List.zip_nil_right, List.zip_nil_left, List.foldl_cons, List.foldl_nil, upd_def, Nat.reduceBEq, bif_t, bif_f, if_true, if_false, Bool.false_eq_true, reduceCtorEq, Nat.reduceEqDiff, ne_eq, not_false_eq_true, not_true_eq_false, decide_true, decide_false, Bool.not_true, Bool.not_false]
  have gp : (σ.push (.tup [.str (.ofString "put"), .int ((6 + b : Nat) : Int), .int (i : Int), .int (j : Int)])).get σ.length = some (tp sPut (6 + b) i j) := get_push_eq
  have A1 := A.push (.tup [.str (.ofString "put"), .int ((6 + b : Nat) : Int), .int (i : Int), .int (j : Int)])
  have l1 := l.push (.tup [.str (.ofString "put"), .int ((6 + b : Nat) : Int), .int (i : Int), .int (j : Int)])
  have k1 : Kp σ (σ.push (.tup [.str (.ofString "put"), .int ((6 + b : Nat) : Int), .int (i : Int), .int (j : Int)])) := (Kp.refl _).push _
  have n1 : (σ.push (.tup [.str (.ofString "put"), .int ((6 + b : Nat) : Int), .int (i : Int), .int (j : Int)])).length = σ.length + 1 := len_push
  generalize σ.push (.tup [.str (.ofString "put"), .int ((6 + b : Nat) : Int), .int (i : Int), .int (j : Int)]) = σ1 at *
  generalize σ.length = D at *
  refine then_step rfl ?_
  have hm3 : m = 0 ∨ m = 1 ∨ m = 2 := by lia
  rcases hm3 with rfl | rfl | rfl
  · simp (disch := decide) only [e94, ok_mod (b := 3) (by decide), hm, ok_eqI, ok_truthb, oks_nil, Int.natCast_zero, Int.reduceEq, s_expr, exprK_at, s_var, varK_at, s_attr, attrK_at, attrK2_at, s_sub, subK_at, subK2_at, subK3_at, s_ite, iteK_t, iteK_f, s_ret, retK_at, s_ret0, s_pass, runK_some, runK_none, forK_at, turnK_none, turnK_some, whlK_t, whlK_f, tt_not, tt_band, tt_bor, tt_bool, tt_loc, tt_cmp, tt_cmp2, tt_call, tt_meth, tt_isi, tt_attr, tt_sub, tt_bin, tnotF_t, tnotF_f, ta_nil, ta_cons, andF_t, andF_f, to_nil, to_cons, orF_t, orF_f, e_none, e_bool, e_int, e_str, e_loc, e_bin, binF_at, e_not, notF_at, notF2_t, notF2_f, e_band, e_bor, e_cmp, cmpF_at, e_cmp2, cmpG_t, cmpG_f, e_list, listF_at, e_tup, tupF_at, e_dict0, e_attr, attrF_at, e_sub, subF_at, e_slice, e_call, e_meth, methF_at, e_bi, e_isi, isiF_at, boolF_at, e_comp, es_nil, es_cons, consF_at, consF2_at, ok_bind, bindK_at, bind_pure, bind_lift, ok_pure, ok_lift, List.zip_cons_cons, List.zip_nil_right, List.zip_nil_left, List.foldl_cons, List.foldl_nil, upd_def, Nat.reduceBEq, bif_t, bif_f, if_true, if_false, Bool.false_eq_true, reduceCtorEq, Nat.reduceEqDiff, ne_eq, not_false_eq_true, not_true_eq_false, decide_true, decide_false, Bool.not_true, Bool.not_false]
    refine then_step rfl ?_
    simp (disch := decide) only [e94, ok_mod (b := 3) (by decide), hm, ok_eqI, ok_truthb, oks_nil, Int.natCast_zero, Int.reduceEq, then_none, s_expr, exprK_at, s_var, varK_at, s_attr, attrK_at, attrK2_at, s_sub, subK_at, subK2_at, subK3_at, s_ite, iteK_t, iteK_f, s_ret, retK_at, s_ret0, s_pass, runK_some, runK_none, forK_at, turnK_none, turnK_some, whlK_t, whlK_f, tt_not, tt_band, tt_bor, tt_bool, tt_loc, tt_cmp, tt_cmp2, tt_call, tt_meth, tt_isi, tt_attr, tt_sub, tt_bin, tnotF_t, tnotF_f, ta_nil, ta_cons, andF_t, andF_f, to_nil, to_cons, orF_t, orF_f, e_none, e_bool, e_int, e_str, e_loc, e_bin, binF_at, e_not, notF_at, notF2_t, notF2_f, e_band, e_bor, e_cmp, cmpF_at, e_cmp2, cmpG_t, cmpG_f, e_list, listF_at, e_tup, tupF_at, e_dict0, e_attr, attrF_at, e_sub, subF_at, e_slice, e_call, e_meth, methF_at, e_bi, e_isi, isiF_at, boolF_at, e_comp, es_nil, es_cons, consF_at, consF2_at, ok_bind, bindK_at, bind_pure, bind_lift, ok_pure, ok_lift, List.zip_cons_cons, List.zip_nil_right, List.zip_nil_left, List.foldl_cons, List.foldl_nil, upd_def, Nat.reduceBEq, bif_t, bif_f, if_true, if_false, Bool.false_eq_true, reduceCtorEq, Nat.reduceEqDiff, ne_eq, not_false_eq_true, not_true_eq_false, decide_true, decide_false, Bool.not_true, Bool.not_false]
    by_cases hs' : i < (r b).length
    · exact rest_put A1 l1 I e75 e76 e89 rfl rfl rfl rfl (by lia) gp hb2 hj2 hs' hq (h.mono k1 rfl rfl rfl)
    · exact rest_bad (k := k) A1 l1 I e75 e76 e89 rfl rfl rfl (.inl gp) hb2 hj2 hk2 (by lia) (h.mono k1 rfl rfl rfl)
  · simp (disch := decide) only [e94, ok_mod (b := 3) (by decide), hm, ok_eqI, ok_truthb, Int.natCast_one, s_expr, exprK_at, s_var, varK_at, s_attr, attrK_at, attrK2_at, s_sub, subK_at, subK2_at, subK3_at, s_ite, iteK_t, iteK_f, s_ret, retK_at, s_ret0, s_pass, runK_some, runK_none, forK_at, turnK_none, turnK_some, whlK_t, whlK_f, tt_not, tt_band, tt_bor, tt_bool, tt_loc, tt_cmp, tt_cmp2, tt_call, tt_meth, tt_isi, tt_attr, tt_sub, tt_bin, tnotF_t, tnotF_f, ta_nil, ta_cons, andF_t, andF_f, to_nil, to_cons, orF_t, orF_f, e_none, e_bool, e_int, e_str, e_loc, e_bin, binF_at, e_not, notF_at, notF2_t, notF2_f, e_band, e_bor, e_cmp, cmpF_at, e_cmp2, cmpG_t, cmpG_f, e_list, listF_at, e_tup, tupF_at, e_dict0, e_attr, attrF_at, e_sub, subF_at, e_slice, e_call, e_meth, methF_at, e_bi, e_isi, isiF_at, boolF_at, e_comp, es_nil, es_cons, consF_at, consF2_at, ok_bind, bindK_at, bind_pure, bind_lift, ok_pure, ok_lift, List.zip_cons_cons, List.zip_nil_right, List.zip_nil_left, List.foldl_cons, List.foldl_nil, upd_def, Nat.reduceBEq, bif_t, bif_f, if_true, if_false, Bool.false_eq_true, reduceCtorEq, Nat.reduceEqDiff, ne_eq, not_false_eq_true, not_true_eq_false, decide_true, decide_false, Bool.not_true, Bool.not_false]
    refine oks_step rfl ?_
    have oke : okO (.tup [.str (.ofString "empty"), .int ((6 + b : Nat) : Int), .int (i : Int), .int 0]) = true := rfl
    simp (disch := decide) only [ok_add, e6, ok_alloc oke, s_expr, exprK_at, s_var, varK_at, s_attr, attrK_at, attrK2_at, s_sub, subK_at, subK2_at, subK3_at, s_ite, iteK_t, iteK_f, s_ret, retK_at, s_ret0, s_pass, runK_some, runK_none, forK_at, turnK_none, turnK_some, whlK_t, whlK_f, tt_not, tt_band, tt_bor, tt_bool, tt_loc, tt_cmp, tt_cmp2, tt_call, tt_meth, tt_isi, tt_attr, tt_sub, tt_bin, tnotF_t, tnotF_f, ta_nil, ta_cons, andF_t, andF_f, to_nil, to_cons, orF_t, orF_f, e_none, e_bool, e_int, e_str, e_loc, e_bin, binF_at, e_not, notF_at, notF2_t, notF2_f, e_band, e_bor, e_cmp, cmpF_at, e_cmp2, cmpG_t, cmpG_f, e_list, listF_at, e_tup, tupF_at, e_dict0, e_attr, attrF_at, e_sub, subF_at, e_slice, e_call, e_meth, methF_at, e_bi, e_isi, isiF_at, boolF_at, e_comp, es_nil, es_cons, consF_at, consF2_at, ok_bind, bindK_at, bind_pure, bind_lift, ok_pure, ok_lift, List.zip_cons_cons, List.zip_nil_right, List.zip_nil_left, List.foldl_cons, List.foldl_nil, upd_def, Nat.reduceBEq, bif_t, bif_f, if_true, if_false, Bool.false_eq_true, reduceCtorEq, Nat.reduceEqDiff, ne_eq, not_false_eq_true, not_true_eq_false, decide_true, decide_false, Bool.not_true, Bool.not_false]
    have g2 : (σ1.push (.tup [.str (.ofString "empty"), .int ((6 + b : Nat) : Int), .int (i : Int), .int 0])).get σ1.length = some (tp sEmp (6 + b) i 0) := get_push_eq
    have A2 := A1.push (.tup [.str (.ofString "empty"), .int ((6 + b : Nat) : Int), .int (i : Int), .int 0])
    have l2 := l1.push (.tup [.str (.ofString "empty"), .int ((6 + b : Nat) : Int), .int (i : Int), .int 0])
    have k2 := k1.push (.tup [.str (.ofString "empty"), .int ((6 + b : Nat) : Int), .int (i : Int), .int 0])
    generalize σ1.push (.tup [.str (.ofString "empty"), .int ((6 + b : Nat) : Int), .int (i : Int), .int 0]) = σ2 at *
    change andThen prog (run prog 1000 20) 1000 f_law_5f_6 Q none _ _
    refine then_step rfl ?_
    simp (disch := decide) only [e94, ok_mod (b := 3) (by decide), hm, ok_eqI, ok_truthb, oks_nil, Int.natCast_one, Int.reduceEq, then_none, s_expr, exprK_at, s_var, varK_at, s_attr, attrK_at, attrK2_at, s_sub, subK_at, subK2_at, subK3_at, s_ite, iteK_t, iteK_f, s_ret, retK_at, s_ret0, s_pass, runK_some, runK_none, forK_at, turnK_none, turnK_some, whlK_t, whlK_f, tt_not, tt_band, tt_bor, tt_bool, tt_loc, tt_cmp, tt_cmp2, tt_call, tt_meth, tt_isi, tt_attr, tt_sub, tt_bin, tnotF_t, tnotF_f, ta_nil, ta_cons, andF_t, andF_f, to_nil, to_cons, orF_t, orF_f, e_none, e_bool, e_int, e_str, e_loc, e_bin, binF_at, e_not, notF_at, notF2_t, notF2_f, e_band, e_bor, e_cmp, cmpF_at, e_cmp2, cmpG_t, cmpG_f, e_list, listF_at, e_tup, tupF_at, e_dict0, e_attr, attrF_at, e_sub, subF_at, e_slice, e_call, e_meth, methF_at, e_bi, e_isi, isiF_at, boolF_at, e_comp, es_nil, es_cons, consF_at, consF2_at, ok_bind, bindK_at, bind_pure, bind_lift, ok_pure, ok_lift, List.zip_cons_cons, List.zip_nil_right, List.zip_nil_left, List.foldl_cons, List.foldl_nil, upd_def, Nat.reduceBEq, bif_t, bif_f, if_true, if_false, Bool.false_eq_true, reduceCtorEq, Nat.reduceEqDiff, ne_eq, not_false_eq_true, not_true_eq_false, decide_true, decide_false, Bool.not_true, Bool.not_false]
    by_cases hs' : i < (r b).length
    · exact rest_empty A2 l2 I e75 e76 e89 rfl rfl rfl (by lia) g2 hb2 hs' hq (h.mono k2 rfl rfl rfl)
    · exact rest_bad (k := k) (j := 0) A2 l2 I e75 e76 e89 rfl rfl rfl (.inr (.inl g2)) hb2 (by decide) hk2 (by lia) (h.mono k2 rfl rfl rfl)
  · have n2 : ((2 : Nat) : Int) = 2 := rfl
    simp (disch := decide) only [e94, ok_mod (b := 3) (by decide), hm, ok_eqI, ok_truthb, oks_nil, n2, Int.reduceEq, s_expr, exprK_at, s_var, varK_at, s_attr, attrK_at, attrK2_at, s_sub, subK_at, subK2_at, subK3_at, s_ite, iteK_t, iteK_f, s_ret, retK_at, s_ret0, s_pass, runK_some, runK_none, forK_at, turnK_none, turnK_some, whlK_t, whlK_f, tt_not, tt_band, tt_bor, tt_bool, tt_loc, tt_cmp, tt_cmp2, tt_call, tt_meth, tt_isi, tt_attr, tt_sub, tt_bin, tnotF_t, tnotF_f, ta_nil, ta_cons, andF_t, andF_f, to_nil, to_cons, orF_t, orF_f, e_none, e_bool, e_int, e_str, e_loc, e_bin, binF_at, e_not, notF_at, notF2_t, notF2_f, e_band, e_bor, e_cmp, cmpF_at, e_cmp2, cmpG_t, cmpG_f, e_list, listF_at, e_tup, tupF_at, e_dict0, e_attr, attrF_at, e_sub, subF_at, e_slice, e_call, e_meth, methF_at, e_bi, e_isi, isiF_at, boolF_at, e_comp, es_nil, es_cons, consF_at, consF2_at, ok_bind, bindK_at, bind_pure, bind_lift, ok_pure, ok_lift, List.zip_cons_cons, List.zip_nil_right, List.zip_nil_left, List.foldl_cons, List.foldl_nil, upd_def, Nat.reduceBEq, bif_t, bif_f, if_true, if_false, Bool.false_eq_true, reduceCtorEq, Nat.reduceEqDiff, ne_eq, not_false_eq_true, not_true_eq_false, decide_true, decide_false, Bool.not_true, Bool.not_false]
    refine then_step rfl ?_
    simp (disch := decide) only [e94, ok_mod (b := 3) (by decide), hm, ok_eqI, ok_truthb, n2, s_expr, exprK_at, s_var, varK_at, s_attr, attrK_at, attrK2_at, s_sub, subK_at, subK2_at, subK3_at, s_ite, iteK_t, iteK_f, s_ret, retK_at, s_ret0, s_pass, runK_some, runK_none, forK_at, turnK_none, turnK_some, whlK_t, whlK_f, tt_not, tt_band, tt_bor, tt_bool, tt_loc, tt_cmp, tt_cmp2, tt_call, tt_meth, tt_isi, tt_attr, tt_sub, tt_bin, tnotF_t, tnotF_f, ta_nil, ta_cons, andF_t, andF_f, to_nil, to_cons, orF_t, orF_f, e_none, e_bool, e_int, e_str, e_loc, e_bin, binF_at, e_not, notF_at, notF2_t, notF2_f, e_band, e_bor, e_cmp, cmpF_at, e_cmp2, cmpG_t, cmpG_f, e_list, listF_at, e_tup, tupF_at, e_dict0, e_attr, attrF_at, e_sub, subF_at, e_slice, e_call, e_meth, methF_at, e_bi, e_isi, isiF_at, boolF_at, e_comp, es_nil, es_cons, consF_at, consF2_at, ok_bind, bindK_at, bind_pure, bind_lift, ok_pure, ok_lift, List.zip_cons_cons, List.zip_nil_right, List.zip_nil_left, List.foldl_cons, List.foldl_nil, upd_def, Nat.reduceBEq, bif_t, bif_f, if_true, if_false, Bool.false_eq_true, reduceCtorEq, Nat.reduceEqDiff, ne_eq, not_false_eq_true, not_true_eq_false, decide_true, decide_false, Bool.not_true, Bool.not_false]
    refine oks_step rfl ?_
    have okt : okO (.tup [.str (.ofString "take"), .int (k : Int), .int (i : Int), .int ((6 + b : Nat) : Int)]) = true := rfl
    simp (disch := decide) only [ok_mod (b := 6) (by decide), hk, ok_add, e6, ok_alloc okt, s_expr, exprK_at, s_var, varK_at, s_attr, attrK_at, attrK2_at, s_sub, subK_at, subK2_at, subK3_at, s_ite, iteK_t, iteK_f, s_ret, retK_at, s_ret0, s_pass, runK_some, runK_none, forK_at, turnK_none, turnK_some, whlK_t, whlK_f, tt_not, tt_band, tt_bor, tt_bool, tt_loc, tt_cmp, tt_cmp2, tt_call, tt_meth, tt_isi, tt_attr, tt_sub, tt_bin, tnotF_t, tnotF_f, ta_nil, ta_cons, andF_t, andF_f, to_nil, to_cons, orF_t, orF_f, e_none, e_bool, e_int, e_str, e_loc, e_bin, binF_at, e_not, notF_at, notF2_t, notF2_f, e_band, e_bor, e_cmp, cmpF_at, e_cmp2, cmpG_t, cmpG_f, e_list, listF_at, e_tup, tupF_at, e_dict0, e_attr, attrF_at, e_sub, subF_at, e_slice, e_call, e_meth, methF_at, e_bi, e_isi, isiF_at, boolF_at, e_comp, es_nil, es_cons, consF_at, consF2_at, ok_bind, bindK_at, bind_pure, bind_lift, ok_pure, ok_lift, List.zip_cons_cons, List.zip_nil_right, List.zip_nil_left, List.foldl_cons, List.foldl_nil, upd_def, Nat.reduceBEq, bif_t, bif_f, if_true, if_false, Bool.false_eq_true, reduceCtorEq, Nat.reduceEqDiff, ne_eq, not_false_eq_true, not_true_eq_false, decide_true, decide_false, Bool.not_true, Bool.not_false]
    have g2 : (σ1.push (.tup [.str (.ofString "take"), .int (k : Int), .int (i : Int), .int ((6 + b : Nat) : Int)])).get σ1.length = some (tp sTak k i (6 + b)) := get_push_eq
    have A2 := A1.push (.tup [.str (.ofString "take"), .int (k : Int), .int (i : Int), .int ((6 + b : Nat) : Int)])
    have l2 := l1.push (.tup [.str (.ofString "take"), .int (k : Int), .int (i : Int), .int ((6 + b : Nat) : Int)])
    have k2 := k1.push (.tup [.str (.ofString "take"), .int (k : Int), .int (i : Int), .int ((6 + b : Nat) : Int)])
    generalize σ1.push (.tup [.str (.ofString "take"), .int (k : Int), .int (i : Int), .int ((6 + b : Nat) : Int)]) = σ2 at *
    by_cases hs' : i < (r b).length
    · exact rest_take A2 l2 I e75 e76 e89 rfl rfl rfl rfl (by lia) g2 hb2 hk2 hk hs' hq (h.mono k2 rfl rfl rfl)
    · exact rest_bad (k := k) (j := 0) A2 l2 I e75 e76 e89 rfl rfl rfl (.inr (.inr g2)) hb2 (by decide) hk2 (by lia) (h.mono k2 rfl rfl rfl)
end

theorem ok_slice {σ : H} {a : Nat} {xs : List V} {Q : V → H → Prop} (h : σ.get a = some (.list xs)) : Ok (getSlice (.ref a) (.int 2) (.int 32)) σ Q = Q (.ref σ.length) (σ.push (.list (cut xs (min 2 xs.length) (min 32 xs.length)))) := ok_some (by
  unfold getSlice; simp only [h]; rfl)
theorem cut_at {ns : List Int} {u j : Nat} {y : V} (h : (cut (ns.map V.int) (min 2 (ns.map V.int).length) u)[j]? = some y) : ∃ c, y = .int c := by
  have := List.mem_of_mem_take (List.mem_of_mem_drop (List.mem_of_getElem? h))
  obtain ⟨c, _, rfl⟩ := List.mem_map.mp this
  exact ⟨c, rfl⟩
theorem cut_len {xs : List V} : (cut xs (min 2 xs.length) (min 32 xs.length)).length ≤ 30 := by
  unfold cut
  rw [List.length_drop, List.length_take]
  lia
noncomputable def zz (z0 z1 : Nat) (b : Nat) : Nat := if b = 0 then z0 else z1
noncomputable def rr (z0 z1 : Nat) (b : Nat) : List (Option Nat) := List.replicate (zz z0 z1 b) none
noncomputable def hs8 : List (Option Nat) := [none, none, none, none, none, none, some 0, some 1]
theorem rep_ov {z : Nat} : (List.replicate z (none : Option Nat)).map ov = List.replicate z V.none := by rw [List.map_replicate]; rfl
theorem inv0 {z0 z1 : Nat} (h0 : z0 < 7) (h1 : z1 < 7) : Inv (zz z0 z1) hs8 (rr z0 z1) (fun _ => 1) := by
  refine ⟨rfl, fun b hb => ?_, fun b hb => ?_, fun x hx k e => ?_, fun k hk => ?_⟩
  · refine ⟨List.length_replicate, ?_⟩
    unfold zz; split <;> lia
  · match b, hb with
    | 0, _ => rfl
    | 1, _ => rfl
  · subst e
    rcases List.mem_append.mp hx with hx | hx
    · rcases List.mem_append.mp hx with hx | hx
      · simp [hs8] at hx; lia
      · cases (List.mem_replicate.mp hx).2
    · cases (List.mem_replicate.mp hx).2
  · have e : ∀ b, (rr z0 z1 b).count (some k) = 0 := fun b => List.count_eq_zero.mpr fun h => by cases (List.mem_replicate.mp h).2
    rw [e, e]
    match k, hk with
    | 0, _ => rfl
    | 1, _ => rfl

set_option maxHeartbeats 4000000 in
theorem plain (ns : List Int) (hns : ns.length ≤ 63) : ∃ σ', run prog 1000 21 false 74 [.ref 0] [.list (ns.map .int)] = some (.ok (.bool true), σ') := by
  suffices hq : Ok (run prog 1000 21 false 74 [.ref 0]) [.list (ns.map .int)] (fun v _ => v = .bool true) by
    obtain ⟨v, σ', h, rfl⟩ := ok_iff.mp hq
    exact ⟨σ', h⟩
  rw [ok_run (fd := f_law) rfl rfl]
  unfold f_law
  refine oks_step rfl ?_
  rw [s_var, ok_some new_at, varK_at]
  refine then_step rfl ?_
  simp (disch := decide) only [ok_alloc (o := .list []) rfl, s_expr, exprK_at, s_var, varK_at, s_attr, attrK_at, attrK2_at, s_sub, subK_at, subK2_at, subK3_at, s_ite, iteK_t, iteK_f, s_ret, retK_at, s_ret0, s_pass, runK_some, runK_none, forK_at, turnK_none, turnK_some, whlK_t, whlK_f, tt_not, tt_band, tt_bor, tt_bool, tt_loc, tt_cmp, tt_cmp2, tt_call, tt_meth, tt_isi, tt_attr, tt_sub, tt_bin, tnotF_t, tnotF_f, ta_nil, ta_cons, andF_t, andF_f, to_nil, to_cons, orF_t, orF_f, e_none, e_bool, e_int, e_str, e_loc, e_bin, binF_at, e_not, notF_at, notF2_t, notF2_f, e_band, e_bor, e_cmp, cmpF_at, e_cmp2, cmpG_t, cmpG_f, e_list, listF_at, e_tup, tupF_at, e_dict0, e_attr, attrF_at, e_sub, subF_at, e_slice, e_call, e_meth, methF_at, e_bi, e_isi, isiF_at, boolF_at, e_comp, es_nil, es_cons, consF_at, consF2_at, ok_bind, bindK_at, bind_pure, bind_lift, ok_pure, ok_lift, List.zip_cons_cons, List.zip_nil_right, List.zip_nil_left, List.foldl_cons, List.foldl_nil, upd_def, Nat.reduceBEq, bif_t, bif_f, if_true, if_false, Bool.false_eq_true, reduceCtorEq, Nat.reduceEqDiff, ne_eq, not_false_eq_true, not_true_eq_false, decide_true, decide_false, Bool.not_true, Bool.not_false]
  refine then_step rfl ?_
  rw [s_for]
  simp (disch := decide) only [ok_range1, s_expr, exprK_at, s_var, varK_at, s_attr, attrK_at, attrK2_at, s_sub, subK_at, subK2_at, subK3_at, s_ite, iteK_t, iteK_f, s_ret, retK_at, s_ret0, s_pass, runK_some, runK_none, forK_at, turnK_none, turnK_some, whlK_t, whlK_f, tt_not, tt_band, tt_bor, tt_bool, tt_loc, tt_cmp, tt_cmp2, tt_call, tt_meth, tt_isi, tt_attr, tt_sub, tt_bin, tnotF_t, tnotF_f, ta_nil, ta_cons, andF_t, andF_f, to_nil, to_cons, orF_t, orF_f, e_none, e_bool, e_int, e_str, e_loc, e_bin, binF_at, e_not, notF_at, notF2_t, notF2_f, e_band, e_bor, e_cmp, cmpF_at, e_cmp2, cmpG_t, cmpG_f, e_list, listF_at, e_tup, tupF_at, e_dict0, e_attr, attrF_at, e_sub, subF_at, e_slice, e_call, e_meth, methF_at, e_bi, e_isi, isiF_at, boolF_at, e_comp, es_nil, es_cons, consF_at, consF2_at, ok_bind, bindK_at, bind_pure, bind_lift, ok_pure, ok_lift, List.zip_cons_cons, List.zip_nil_right, List.zip_nil_left, List.foldl_cons, List.foldl_nil, upd_def, Nat.reduceBEq, bif_t, bif_f, if_true, if_false, Bool.false_eq_true, reduceCtorEq, Nat.reduceEqDiff, ne_eq, not_false_eq_true, not_true_eq_false, decide_true, decide_false, Bool.not_true, Bool.not_false]
  obtain ⟨z0, hz0, hz0'⟩ := fmod_nat (a := cellAt ns 0) (b := 7) (by decide)
  obtain ⟨z1, hz1, hz1'⟩ := fmod_nat (a := cellAt ns 1) (b := 7) (by decide)
  have lz0 : z0 < 7 := by lia
  have lz1 : z1 < 7 := by lia
  show forK _ _ _ _ _ _ L0 _ (.ref 9) (H0 (ns.map .int))
  refine ⟨[.int 0, .int 1], by kernel_rfl, f_cons ?_⟩
  refine oks_step rfl ?_
  simp (disch := decide) only [L0, s_expr, exprK_at, s_var, varK_at, s_attr, attrK_at, attrK2_at, s_sub, subK_at, subK2_at, subK3_at, s_ite, iteK_t, iteK_f, s_ret, retK_at, s_ret0, s_pass, runK_some, runK_none, forK_at, turnK_none, turnK_some, whlK_t, whlK_f, tt_not, tt_band, tt_bor, tt_bool, tt_loc, tt_cmp, tt_cmp2, tt_call, tt_meth, tt_isi, tt_attr, tt_sub, tt_bin, tnotF_t, tnotF_f, ta_nil, ta_cons, andF_t, andF_f, to_nil, to_cons, orF_t, orF_f, e_none, e_bool, e_int, e_str, e_loc, e_bin, binF_at, e_not, notF_at, notF2_t, notF2_f, e_band, e_bor, e_cmp, cmpF_at, e_cmp2, cmpG_t, cmpG_f, e_list, listF_at, e_tup, tupF_at, e_dict0, e_attr, attrF_at, e_sub, subF_at, e_slice, e_call, e_meth, methF_at, e_bi, e_isi, isiF_at, boolF_at, e_comp, es_nil, es_cons, consF_at, consF2_at, ok_bind, bindK_at, bind_pure, bind_lift, ok_pure, ok_lift, List.zip_cons_cons, List.zip_nil_right, List.zip_nil_left, List.foldl_cons, List.foldl_nil, upd_def, Nat.reduceBEq, bif_t, bif_f, if_true, if_false, Bool.false_eq_true, reduceCtorEq, Nat.reduceEqDiff, ne_eq, not_false_eq_true, not_true_eq_false, decide_true, decide_false, Bool.not_true, Bool.not_false]
  refine cell_ok hL (ns := ns) (k := 0) (σ := H0 (ns.map .int)) (by kernel_rfl) ?_
  simp (disch := decide) only [ok_mod (b := 7) (by decide), hz0, s_expr, exprK_at, s_var, varK_at, s_attr, attrK_at, attrK2_at, s_sub, subK_at, subK2_at, subK3_at, s_ite, iteK_t, iteK_f, s_ret, retK_at, s_ret0, s_pass, runK_some, runK_none, forK_at, turnK_none, turnK_some, whlK_t, whlK_f, tt_not, tt_band, tt_bor, tt_bool, tt_loc, tt_cmp, tt_cmp2, tt_call, tt_meth, tt_isi, tt_attr, tt_sub, tt_bin, tnotF_t, tnotF_f, ta_nil, ta_cons, andF_t, andF_f, to_nil, to_cons, orF_t, orF_f, e_none, e_bool, e_int, e_str, e_loc, e_bin, binF_at, e_not, notF_at, notF2_t, notF2_f, e_band, e_bor, e_cmp, cmpF_at, e_cmp2, cmpG_t, cmpG_f, e_list, listF_at, e_tup, tupF_at, e_dict0, e_attr, attrF_at, e_sub, subF_at, e_slice, e_call, e_meth, methF_at, e_bi, e_isi, isiF_at, boolF_at, e_comp, es_nil, es_cons, consF_at, consF2_at, ok_bind, bindK_at, bind_pure, bind_lift, ok_pure, ok_lift, List.zip_cons_cons, List.zip_nil_right, List.zip_nil_left, List.foldl_cons, List.foldl_nil, upd_def, Nat.reduceBEq, bif_t, bif_f, if_true, if_false, Bool.false_eq_true, reduceCtorEq, Nat.reduceEqDiff, ne_eq, not_false_eq_true, not_true_eq_false, decide_true, decide_false, Bool.not_true, Bool.not_false]
  show OkS (exs prog (run prog 1000 20) 1000 f_law_3f_2 ((L0.upd 71 (.int 0)).upd 80 (.int (z0 : Int))) (H0 (ns.map .int))) _
  rw [turn1 lz0]
  refine ⟨rfl, by kernel_rfl, f_cons ?_⟩
  refine oks_step rfl ?_
  simp (disch := decide) only [L0, s_expr, exprK_at, s_var, varK_at, s_attr, attrK_at, attrK2_at, s_sub, subK_at, subK2_at, subK3_at, s_ite, iteK_t, iteK_f, s_ret, retK_at, s_ret0, s_pass, runK_some, runK_none, forK_at, turnK_none, turnK_some, whlK_t, whlK_f, tt_not, tt_band, tt_bor, tt_bool, tt_loc, tt_cmp, tt_cmp2, tt_call, tt_meth, tt_isi, tt_attr, tt_sub, tt_bin, tnotF_t, tnotF_f, ta_nil, ta_cons, andF_t, andF_f, to_nil, to_cons, orF_t, orF_f, e_none, e_bool, e_int, e_str, e_loc, e_bin, binF_at, e_not, notF_at, notF2_t, notF2_f, e_band, e_bor, e_cmp, cmpF_at, e_cmp2, cmpG_t, cmpG_f, e_list, listF_at, e_tup, tupF_at, e_dict0, e_attr, attrF_at, e_sub, subF_at, e_slice, e_call, e_meth, methF_at, e_bi, e_isi, isiF_at, boolF_at, e_comp, es_nil, es_cons, consF_at, consF2_at, ok_bind, bindK_at, bind_pure, bind_lift, ok_pure, ok_lift, List.zip_cons_cons, List.zip_nil_right, List.zip_nil_left, List.foldl_cons, List.foldl_nil, upd_def, Nat.reduceBEq, bif_t, bif_f, if_true, if_false, Bool.false_eq_true, reduceCtorEq, Nat.reduceEqDiff, ne_eq, not_false_eq_true, not_true_eq_false, decide_true, decide_false, Bool.not_true, Bool.not_false]
  refine cell_ok hL (ns := ns) (k := 1) (σ := H1 (ns.map .int) (rg z0) (no z0) (rg z0) (no z0)) (by kernel_rfl) ?_
  simp (disch := decide) only [ok_mod (b := 7) (by decide), hz1, s_expr, exprK_at, s_var, varK_at, s_attr, attrK_at, attrK2_at, s_sub, subK_at, subK2_at, subK3_at, s_ite, iteK_t, iteK_f, s_ret, retK_at, s_ret0, s_pass, runK_some, runK_none, forK_at, turnK_none, turnK_some, whlK_t, whlK_f, tt_not, tt_band, tt_bor, tt_bool, tt_loc, tt_cmp, tt_cmp2, tt_call, tt_meth, tt_isi, tt_attr, tt_sub, tt_bin, tnotF_t, tnotF_f, ta_nil, ta_cons, andF_t, andF_f, to_nil, to_cons, orF_t, orF_f, e_none, e_bool, e_int, e_str, e_loc, e_bin, binF_at, e_not, notF_at, notF2_t, notF2_f, e_band, e_bor, e_cmp, cmpF_at, e_cmp2, cmpG_t, cmpG_f, e_list, listF_at, e_tup, tupF_at, e_dict0, e_attr, attrF_at, e_sub, subF_at, e_slice, e_call, e_meth, methF_at, e_bi, e_isi, isiF_at, boolF_at, e_comp, es_nil, es_cons, consF_at, consF2_at, ok_bind, bindK_at, bind_pure, bind_lift, ok_pure, ok_lift, List.zip_cons_cons, List.zip_nil_right, List.zip_nil_left, List.foldl_cons, List.foldl_nil, upd_def, Nat.reduceBEq, bif_t, bif_f, if_true, if_false, Bool.false_eq_true, reduceCtorEq, Nat.reduceEqDiff, ne_eq, not_false_eq_true, not_true_eq_false, decide_true, decide_false, Bool.not_true, Bool.not_false]
  show OkS (exs prog (run prog 1000 20) 1000 f_law_3f_2 ((((L0.upd 71 (.int 0)).upd 80 (.int (z0 : Int))).upd 71 (.int 1)).upd 80 (.int (z1 : Int))) (H1 (ns.map .int) (rg z0) (no z0) (rg z0) (no z0))) _
  rw [turn2 lz1]
  refine ⟨rfl, by kernel_rfl, ?_⟩
  rw [f_nil]
  refine then_step rfl ?_
  have ok8 : okO (.list [.none, .none, .none, .none, .none, .none, .int 0, .int 1]) = true := rfl
  simp (disch := decide) only [ok_alloc ok8, s_expr, exprK_at, s_var, varK_at, s_attr, attrK_at, attrK2_at, s_sub, subK_at, subK2_at, subK3_at, s_ite, iteK_t, iteK_f, s_ret, retK_at, s_ret0, s_pass, runK_some, runK_none, forK_at, turnK_none, turnK_some, whlK_t, whlK_f, tt_not, tt_band, tt_bor, tt_bool, tt_loc, tt_cmp, tt_cmp2, tt_call, tt_meth, tt_isi, tt_attr, tt_sub, tt_bin, tnotF_t, tnotF_f, ta_nil, ta_cons, andF_t, andF_f, to_nil, to_cons, orF_t, orF_f, e_none, e_bool, e_int, e_str, e_loc, e_bin, binF_at, e_not, notF_at, notF2_t, notF2_f, e_band, e_bor, e_cmp, cmpF_at, e_cmp2, cmpG_t, cmpG_f, e_list, listF_at, e_tup, tupF_at, e_dict0, e_attr, attrF_at, e_sub, subF_at, e_slice, e_call, e_meth, methF_at, e_bi, e_isi, isiF_at, boolF_at, e_comp, es_nil, es_cons, consF_at, consF2_at, ok_bind, bindK_at, bind_pure, bind_lift, ok_pure, ok_lift, List.zip_cons_cons, List.zip_nil_right, List.zip_nil_left, List.foldl_cons, List.foldl_nil, upd_def, Nat.reduceBEq, bif_t, bif_f, if_true, if_false, Bool.false_eq_true, reduceCtorEq, Nat.reduceEqDiff, ne_eq, not_false_eq_true, not_true_eq_false, decide_true, decide_false, Bool.not_true, Bool.not_false]
  have A0 : Pl ((H2 (ns.map .int) (rg z0) (no z0) (rg z0) (no z0) (rg z1) (no z1) (rg z1) (no z1)).push (.list [.none, .none, .none, .none, .none, .none, .int 0, .int 1])) hs8 (rr z0 z1) (fun _ => 1) [] := by
    refine ⟨by kernel_rfl, by kernel_rfl, by kernel_rfl, by kernel_rfl, by kernel_rfl, by kernel_rfl, fun b hb => ?_⟩
    match b, hb with
    | 0, _ => show some (no z0) = some (O.list ((List.replicate z0 none).map ov)); rw [rep_ov]; rfl
    | 1, _ => show some (no z1) = some (O.list ((List.replicate z1 none).map ov)); rw [rep_ov]; rfl
  have l0 : Lw ((H2 (ns.map .int) (rg z0) (no z0) (rg z0) (no z0) (rg z1) (no z1) (rg z1) (no z1)).push (.list [.none, .none, .none, .none, .none, .none, .int 0, .int 1])) ns hs8 (rr z0 z1) := by
    refine ⟨by kernel_rfl, by kernel_rfl, fun b hb => ?_, by kernel_rfl⟩
    match b, hb with
    | 0, _ => show some (no z0) = some (O.list ((List.replicate z0 none).map ov)); rw [rep_ov]; rfl
    | 1, _ => show some (no z1) = some (O.list ((List.replicate z1 none).map ov)); rw [rep_ov]; rfl
  have I0 := inv0 lz0 lz1
  have n0 : ((H2 (ns.map .int) (rg z0) (no z0) (rg z0) (no z0) (rg z1) (no z1) (rg z1) (no z1)).push (.list [.none, .none, .none, .none, .none, .none, .int 0, .int 1])).length = 21 := by kernel_rfl
  have nn : (H2 (ns.map .int) (rg z0) (no z0) (rg z0) (no z0) (rg z1) (no z1) (rg z1) (no z1)).length = 20 := by kernel_rfl
  rw [nn]
  generalize (H2 (ns.map .int) (rg z0) (no z0) (rg z0) (no z0) (rg z1) (no z1) (rg z1) (no z1)).push (.list [.none, .none, .none, .none, .none, .none, .int 0, .int 1]) = σ at *
  generalize zz z0 z1 = z at *
  generalize rr z0 z1 = r at *
  generalize hs8 = hs at *
  generalize (fun _ => 1 : Nat → Nat) = w at *
  refine then_step rfl ?_
  rw [s_for]
  simp (disch := decide) only [L0, slF_at, slF2_at, ok_slice l0.z, n0, s_expr, exprK_at, s_var, varK_at, s_attr, attrK_at, attrK2_at, s_sub, subK_at, subK2_at, subK3_at, s_ite, iteK_t, iteK_f, s_ret, retK_at, s_ret0, s_pass, runK_some, runK_none, forK_at, turnK_none, turnK_some, whlK_t, whlK_f, tt_not, tt_band, tt_bor, tt_bool, tt_loc, tt_cmp, tt_cmp2, tt_call, tt_meth, tt_isi, tt_attr, tt_sub, tt_bin, tnotF_t, tnotF_f, ta_nil, ta_cons, andF_t, andF_f, to_nil, to_cons, orF_t, orF_f, e_none, e_bool, e_int, e_str, e_loc, e_bin, binF_at, e_not, notF_at, notF2_t, notF2_f, e_band, e_bor, e_cmp, cmpF_at, e_cmp2, cmpG_t, cmpG_f, e_list, listF_at, e_tup, tupF_at, e_dict0, e_attr, attrF_at, e_sub, subF_at, e_slice, e_call, e_meth, methF_at, e_bi, e_isi, isiF_at, boolF_at, e_comp, es_nil, es_cons, consF_at, consF2_at, ok_bind, bindK_at, bind_pure, bind_lift, ok_pure, ok_lift, List.zip_cons_cons, List.zip_nil_right, List.zip_nil_left, List.foldl_cons, List.foldl_nil, upd_def, Nat.reduceBEq, bif_t, bif_f, if_true, if_false, Bool.false_eq_true, reduceCtorEq, Nat.reduceEqDiff, ne_eq, not_false_eq_true, not_true_eq_false, decide_true, decide_false, Bool.not_true, Bool.not_false]
  have A1 := A0.push (.list (cut (ns.map V.int) (min 2 (ns.map V.int).length) (min 32 (ns.map V.int).length)))
  have l1 := l0.push (.list (cut (ns.map V.int) (min 2 (ns.map V.int).length) (min 32 (ns.map V.int).length)))
  have g21 : (σ.push (.list (cut (ns.map V.int) (min 2 (ns.map V.int).length) (min 32 (ns.map V.int).length)))).get 21 = some (.list (cut (ns.map V.int) (min 2 (ns.map V.int).length) (min 32 (ns.map V.int).length))) := by rw [← n0]; exact get_push_eq
  generalize σ.push (.list (cut (ns.map V.int) (min 2 (ns.map V.int).length) (min 32 (ns.map V.int).length))) = τ at *
  refine ⟨_, it_list g21, f_inv (fun j lc σj => lc 75 = some (.ref 2) ∧ lc 76 = some (.ref 20) ∧ lc 89 = some (.ref 8) ∧ σj.get 21 = τ.get 21 ∧ ∃ hs r w q, Pl σj hs r w q ∧ Lw σj ns hs r ∧ Inv z hs r w ∧ q.length ≤ j) ⟨rfl, rfl, rfl, rfl, hs, r, w, [], A1, l1, I0, Nat.le_refl _⟩ ?_ ?_⟩
  · rintro j lc σj y hy ⟨e1, e2, e3, e4, hs', r', w', q', Aj, lj, Ij, hqj⟩
    obtain ⟨c, rfl⟩ := cut_at hy
    have hjl := (List.getElem?_eq_some_iff.mp hy).1
    have := cut_len (xs := ns.map V.int)
    refine turn_ok Aj lj Ij e1 e2 e3 rfl (by lia) fun l' σ' hs'' r'' w'' q'' A' l' I' hq' d1 d2 d3 g => ?_
    have g' : σ'.get 21 = τ.get 21 := by rw [g21] at e4 ⊢; exact g _ e4
    exact ⟨rfl, still_get g', d1.trans e1, d2.trans e2, d3.trans e3, g', hs'', r'', w'', q'', A', l', I', by lia⟩
  · rintro lc σj ⟨e1, e2, e3, e4, hs', r', w', q', Aj, lj, Ij, hqj⟩
    have := cut_len (xs := ns.map V.int)
    exact tail_ok Aj lj Ij (by lia) e1 e2 e3 fun l' σ' => rfl
end Mine.L03

set_option autoImplicit false
set_option maxRecDepth 100000
namespace Mine.K03
open PySem PySem.W
noncomputable def topS (i : Nat) : Stmt := (PySem.Challenge.pw_uf040002_03.main.body)[i]?.getD (.Pass ⟨0, 0, 0, 0⟩)
noncomputable def meS (i j : Nat) : Stmt := match topS i with
  | .ClassDef _ _ _ b _ _ _ _ _ _ _ => b[j]?.getD (.Pass ⟨0, 0, 0, 0⟩)
  | _ => .Pass ⟨0, 0, 0, 0⟩
noncomputable def argsOf : Stmt → Arguments
  | .FunctionDef _ a _ _ _ _ _ _ _ _ => a
  | _ => ⟨[], [], .none, [], [], .none, []⟩
noncomputable def bodyOf : Stmt → List Stmt
  | .FunctionDef _ _ b _ _ _ _ _ _ _ => b
  | _ => []
noncomputable def scopeOf : Stmt → Scope
  | .FunctionDef _ _ _ _ _ _ s _ _ _ => s
  | _ => ⟨.function, [], false, false, []⟩
noncomputable def g0 (P : Params) : Frag := [(2, { cls := Value.none, data := Data.dict #[] }), (3, { cls := Value.type "dict", data := Data.dict #[{ hash := PyData.keyHash P (Str.ofString "__name__"), key := Value.str (Str.ofString "__name__") 165, val := Value.str (Str.ofString "law_uf040002_03") 510 }, { hash := PyData.keyHash P (Str.ofString "__doc__"), key := Value.str (Str.ofString "__doc__") 166, val := Value.none }, { hash := PyData.keyHash P (Str.ofString "__package__"), key := Value.str (Str.ofString "__package__") 167, val := Value.none }, { hash := PyData.keyHash P (Str.ofString "__loader__"), key := Value.str (Str.ofString "__loader__") 168, val := Value.builtin "__main__.__loader__#opaque" }, { hash := PyData.keyHash P (Str.ofString "__spec__"), key := Value.str (Str.ofString "__spec__") 169, val := Value.none }, { hash := PyData.keyHash P (Str.ofString "__annotations__"), key := Value.str (Str.ofString "__annotations__") 170, val := Value.ref 6 }, { hash := PyData.keyHash P (Str.ofString "__builtins__"), key := Value.str (Str.ofString "__builtins__") 171, val := Value.ref 4 }, { hash := PyData.keyHash P (Str.ofString "__file__"), key := Value.str (Str.ofString "__file__") 173, val := Value.str (Str.ofString "/claim/cut.py") 172 }, { hash := PyData.keyHash P (Str.ofString "__cached__"), key := Value.str (Str.ofString "__cached__") 174, val := Value.none }, { hash := PyData.keyHash P (Str.ofString "_wall"), key := Value.str (Str.ofString "_wall") 193, val := Value.ref 21 }, { hash := PyData.keyHash P (Str.ofString "PileError"), key := Value.str (Str.ofString "PileError") 213, val := Value.ref 31 }, { hash := PyData.keyHash P (Str.ofString "NoHand"), key := Value.str (Str.ofString "NoHand") 229, val := Value.ref 44 }, { hash := PyData.keyHash P (Str.ofString "NoSize"), key := Value.str (Str.ofString "NoSize") 245, val := Value.ref 56 }, { hash := PyData.keyHash P (Str.ofString "Full"), key := Value.str (Str.ofString "Full") 261, val := Value.ref 68 }, { hash := PyData.keyHash P (Str.ofString "NoBox"), key := Value.str (Str.ofString "NoBox") 277, val := Value.ref 80 }, { hash := PyData.keyHash P (Str.ofString "NoSlot"), key := Value.str (Str.ofString "NoSlot") 293, val := Value.ref 92 }, { hash := PyData.keyHash P (Str.ofString "HANDS"), key := Value.str (Str.ofString "HANDS") 297, val := Value.int 8 296 }, { hash := PyData.keyHash P (Str.ofString "MOST_SLOTS"), key := Value.str (Str.ofString "MOST_SLOTS") 299, val := Value.int 6 298 }, { hash := PyData.keyHash P (Str.ofString "MOST_ALIVE"), key := Value.str (Str.ofString "MOST_ALIVE") 301, val := Value.int 60 300 }, { hash := PyData.keyHash P (Str.ofString "Pile"), key := Value.str (Str.ofString "Pile") 509, val := Value.ref 247 }, { hash := PyData.keyHash P (Str.ofString "_law_whole"), key := Value.str (Str.ofString "_law_whole") 518, val := Value.ref 258 }, { hash := PyData.keyHash P (Str.ofString "_law_cell_at"), key := Value.str (Str.ofString "_law_cell_at") 526, val := Value.ref 265 }, { hash := PyData.keyHash P (Str.ofString "_law_numbers"), key := Value.str (Str.ofString "_law_numbers") 535, val := Value.ref 272 }, { hash := PyData.keyHash P (Str.ofString "_law_done"), key := Value.str (Str.ofString "_law_done") 543, val := Value.ref 279 }, { hash := PyData.keyHash P (Str.ofString "_law_pointers"), key := Value.str (Str.ofString "_law_pointers") 549, val := Value.ref 284 }, { hash := PyData.keyHash P (Str.ofString "_law_stands"), key := Value.str (Str.ofString "_law_stands") 555, val := Value.ref 289 }, { hash := PyData.keyHash P (Str.ofString "law"), key := Value.str (Str.ofString "law") 561, val := Value.ref 294 }] 27 }), (15, { cls := Value.type "tuple", data := Data.seq #[] }), (17, { cls := Value.type "tuple", data := Data.seq #[Value.str (Str.ofString "k") 190] }), (18, { cls := Value.type "tuple", data := Data.seq #[] }), (20, { cls := Value.type "code", data := Data.fields #[Value.str (Str.ofString "_wall") 187, Value.str (Str.ofString "_wall") 188, Value.str (Str.ofString "/claim/cut.py") 189, Value.int 1 0, Value.int 1 0, Value.int 0 0, Value.int 0 0, Value.int 3 0, Value.ref 15, Value.bool true, Value.int 181 0, Value.ref 16, Value.none, Value.ref 17, Value.ref 18, Value.ref 19, Value.int 191 0, Value.int 1 0, Value.str (Str.ofString "/claim/cut.py") 192] }), (21, { cls := Value.type "function", data := Data.func { name := Str.ofString "_wall", qualname := Str.ofString "_wall", params := argsOf (topS 0), body := FuncBody.stmts (bodyOf (topS 0)), scope := scopeOf (topS 0), globals := 3, closure := [], defaults := Value.none, kwdefaults := Value.none, pyModule := Value.str (Str.ofString "__main__") 164, code := Value.ref 20 } }), (22, { cls := Value.type "tuple", data := Data.seq #[Value.type "ValueError"] }), (29, { cls := Value.type "tuple", data := Data.seq #[] }), (30, { cls := Value.type "dict", data := Data.dict #[{ hash := PyData.keyHash P (Str.ofString "__module__"), key := Value.str (Str.ofString "__module__") 203, val := Value.str (Str.ofString "boxpile.errors") 194 }, { hash := PyData.keyHash P (Str.ofString "__firstlineno__"), key := Value.str (Str.ofString "__firstlineno__") 207, val := Value.int 5 206 }, { hash := PyData.keyHash P (Str.ofString "__static_attributes__"), key := Value.str (Str.ofString "__static_attributes__") 208, val := Value.ref 29 }, { hash := PyData.keyHash P (Str.ofString "__weakref__"), key := Value.str (Str.ofString "__weakref__") 210, val := Value.ref 32 }, { hash := PyData.keyHash P (Str.ofString "__doc__"), key := Value.str (Str.ofString "__doc__") 211, val := Value.none }] 3 }), (31, { cls := Value.type "type", data := Data.cls { name := Str.ofString "PileError", bases := [Value.type "ValueError"], mro := [Value.ref 31, Value.type "ValueError", Value.type "Exception", Value.type "BaseException", Value.type "object"], ns := 30, qualname := Str.ofString "PileError", subclasses := [Value.ref 44, Value.ref 56, Value.ref 68, Value.ref 80, Value.ref 92] }, slots := #[.some (Value.ref 22), .none, .some (Value.str (Str.ofString "PileError") 196), .some (Value.str (Str.ofString "PileError") 204), .some (Value.builtin "ValueError.__new__"), .some (Value.bool true)] }), (32, { cls := Value.type "getset_descriptor", data := Data.fields #[Value.str (Str.ofString "__weakref__") 209, Value.ref 31, Value.builtin "ExceptionGroup.__weakref__", Value.none] })]
noncomputable def g1 (P : Params) : Frag := [(35, { cls := Value.type "tuple", data := Data.seq #[Value.ref 31] }), (42, { cls := Value.type "tuple", data := Data.seq #[] }), (43, { cls := Value.type "dict", data := Data.dict #[{ hash := PyData.keyHash P (Str.ofString "__module__"), key := Value.str (Str.ofString "__module__") 221, val := Value.str (Str.ofString "boxpile.errors") 194 }, { hash := PyData.keyHash P (Str.ofString "__firstlineno__"), key := Value.str (Str.ofString "__firstlineno__") 225, val := Value.int 7 224 }, { hash := PyData.keyHash P (Str.ofString "__static_attributes__"), key := Value.str (Str.ofString "__static_attributes__") 226, val := Value.ref 42 }, { hash := PyData.keyHash P (Str.ofString "__doc__"), key := Value.str (Str.ofString "__doc__") 227, val := Value.none }] 2 }), (44, { cls := Value.type "type", data := Data.cls { name := Str.ofString "NoHand", bases := [Value.ref 31], mro := [Value.ref 44, Value.ref 31, Value.type "ValueError", Value.type "Exception", Value.type "BaseException", Value.type "object"], ns := 43, qualname := Str.ofString "NoHand" }, slots := #[.some (Value.ref 35), .none, .some (Value.str (Str.ofString "NoHand") 214), .some (Value.str (Str.ofString "NoHand") 222), .some (Value.builtin "ValueError.__new__"), .some (Value.bool true)] }), (47, { cls := Value.type "tuple", data := Data.seq #[Value.ref 31] }), (54, { cls := Value.type "tuple", data := Data.seq #[] }), (55, { cls := Value.type "dict", data := Data.dict #[{ hash := PyData.keyHash P (Str.ofString "__module__"), key := Value.str (Str.ofString "__module__") 237, val := Value.str (Str.ofString "boxpile.errors") 194 }, { hash := PyData.keyHash P (Str.ofString "__firstlineno__"), key := Value.str (Str.ofString "__firstlineno__") 241, val := Value.int 9 240 }, { hash := PyData.keyHash P (Str.ofString "__static_attributes__"), key := Value.str (Str.ofString "__static_attributes__") 242, val := Value.ref 54 }, { hash := PyData.keyHash P (Str.ofString "__doc__"), key := Value.str (Str.ofString "__doc__") 243, val := Value.none }] 2 }), (56, { cls := Value.type "type", data := Data.cls { name := Str.ofString "NoSize", bases := [Value.ref 31], mro := [Value.ref 56, Value.ref 31, Value.type "ValueError", Value.type "Exception", Value.type "BaseException", Value.type "object"], ns := 55, qualname := Str.ofString "NoSize" }, slots := #[.some (Value.ref 47), .none, .some (Value.str (Str.ofString "NoSize") 230), .some (Value.str (Str.ofString "NoSize") 238), .some (Value.builtin "ValueError.__new__"), .some (Value.bool true)] }), (59, { cls := Value.type "tuple", data := Data.seq #[Value.ref 31] }), (66, { cls := Value.type "tuple", data := Data.seq #[] }), (67, { cls := Value.type "dict", data := Data.dict #[{ hash := PyData.keyHash P (Str.ofString "__module__"), key := Value.str (Str.ofString "__module__") 253, val := Value.str (Str.ofString "boxpile.errors") 194 }, { hash := PyData.keyHash P (Str.ofString "__firstlineno__"), key := Value.str (Str.ofString "__firstlineno__") 257, val := Value.int 11 256 }, { hash := PyData.keyHash P (Str.ofString "__static_attributes__"), key := Value.str (Str.ofString "__static_attributes__") 258, val := Value.ref 66 }, { hash := PyData.keyHash P (Str.ofString "__doc__"), key := Value.str (Str.ofString "__doc__") 259, val := Value.none }] 2 }), (68, { cls := Value.type "type", data := Data.cls { name := Str.ofString "Full", bases := [Value.ref 31], mro := [Value.ref 68, Value.ref 31, Value.type "ValueError", Value.type "Exception", Value.type "BaseException", Value.type "object"], ns := 67, qualname := Str.ofString "Full" }, slots := #[.some (Value.ref 59), .none, .some (Value.str (Str.ofString "Full") 246), .some (Value.str (Str.ofString "Full") 254), .some (Value.builtin "ValueError.__new__"), .some (Value.bool true)] })]
noncomputable def g2 (P : Params) : Frag := [(71, { cls := Value.type "tuple", data := Data.seq #[Value.ref 31] }), (78, { cls := Value.type "tuple", data := Data.seq #[] }), (79, { cls := Value.type "dict", data := Data.dict #[{ hash := PyData.keyHash P (Str.ofString "__module__"), key := Value.str (Str.ofString "__module__") 269, val := Value.str (Str.ofString "boxpile.errors") 194 }, { hash := PyData.keyHash P (Str.ofString "__firstlineno__"), key := Value.str (Str.ofString "__firstlineno__") 273, val := Value.int 13 272 }, { hash := PyData.keyHash P (Str.ofString "__static_attributes__"), key := Value.str (Str.ofString "__static_attributes__") 274, val := Value.ref 78 }, { hash := PyData.keyHash P (Str.ofString "__doc__"), key := Value.str (Str.ofString "__doc__") 275, val := Value.none }] 2 }), (80, { cls := Value.type "type", data := Data.cls { name := Str.ofString "NoBox", bases := [Value.ref 31], mro := [Value.ref 80, Value.ref 31, Value.type "ValueError", Value.type "Exception", Value.type "BaseException", Value.type "object"], ns := 79, qualname := Str.ofString "NoBox" }, slots := #[.some (Value.ref 71), .none, .some (Value.str (Str.ofString "NoBox") 262), .some (Value.str (Str.ofString "NoBox") 270), .some (Value.builtin "ValueError.__new__"), .some (Value.bool true)] }), (83, { cls := Value.type "tuple", data := Data.seq #[Value.ref 31] }), (90, { cls := Value.type "tuple", data := Data.seq #[] }), (91, { cls := Value.type "dict", data := Data.dict #[{ hash := PyData.keyHash P (Str.ofString "__module__"), key := Value.str (Str.ofString "__module__") 285, val := Value.str (Str.ofString "boxpile.errors") 194 }, { hash := PyData.keyHash P (Str.ofString "__firstlineno__"), key := Value.str (Str.ofString "__firstlineno__") 289, val := Value.int 15 288 }, { hash := PyData.keyHash P (Str.ofString "__static_attributes__"), key := Value.str (Str.ofString "__static_attributes__") 290, val := Value.ref 90 }, { hash := PyData.keyHash P (Str.ofString "__doc__"), key := Value.str (Str.ofString "__doc__") 291, val := Value.none }] 2 }), (92, { cls := Value.type "type", data := Data.cls { name := Str.ofString "NoSlot", bases := [Value.ref 31], mro := [Value.ref 92, Value.ref 31, Value.type "ValueError", Value.type "Exception", Value.type "BaseException", Value.type "object"], ns := 91, qualname := Str.ofString "NoSlot" }, slots := #[.some (Value.ref 83), .none, .some (Value.str (Str.ofString "NoSlot") 278), .some (Value.str (Str.ofString "NoSlot") 286), .some (Value.builtin "ValueError.__new__"), .some (Value.bool true)] }), (102, { cls := Value.type "tuple", data := Data.seq #[] }), (105, { cls := Value.type "code", data := Data.fields #[Value.str (Str.ofString "__init__") 314, Value.str (Str.ofString "Pile.__init__") 315, Value.str (Str.ofString "/claim/cut.py") 316, Value.int 23 0, Value.int 1 0, Value.int 0 0, Value.int 0 0, Value.int 3 0, Value.ref 102, Value.bool true, Value.int 181 0, Value.ref 103, Value.none, Value.none, Value.none, Value.ref 104, Value.int 317 0, Value.int 23 0, Value.str (Str.ofString "/claim/cut.py") 318] }), (106, { cls := Value.type "function", data := Data.func { name := Str.ofString "__init__", qualname := Str.ofString "Pile.__init__", params := argsOf (meS 12 0), body := FuncBody.stmts (bodyOf (meS 12 0)), scope := scopeOf (meS 12 0), globals := 3, closure := [], defaults := Value.none, kwdefaults := Value.none, pyModule := Value.str (Str.ofString "boxpile.pile") 294, code := Value.ref 105 } }), (107, { cls := Value.type "tuple", data := Data.seq #[] })]
noncomputable def g3 (P : Params) : Frag := [(109, { cls := Value.type "tuple", data := Data.seq #[Value.str (Str.ofString "self") 323, Value.str (Str.ofString "hand") 324] }), (110, { cls := Value.type "tuple", data := Data.seq #[] }), (112, { cls := Value.type "code", data := Data.fields #[Value.str (Str.ofString "need_hand") 320, Value.str (Str.ofString "Pile.need_hand") 321, Value.str (Str.ofString "/claim/cut.py") 322, Value.int 30 0, Value.int 2 0, Value.int 0 0, Value.int 0 0, Value.int 3 0, Value.ref 107, Value.bool true, Value.int 181 0, Value.ref 108, Value.none, Value.ref 109, Value.ref 110, Value.ref 111, Value.int 325 0, Value.int 30 0, Value.str (Str.ofString "/claim/cut.py") 326] }), (113, { cls := Value.type "function", data := Data.func { name := Str.ofString "need_hand", qualname := Str.ofString "Pile.need_hand", params := argsOf (meS 12 1), body := FuncBody.stmts (bodyOf (meS 12 1)), scope := scopeOf (meS 12 1), globals := 3, closure := [], defaults := Value.none, kwdefaults := Value.none, pyModule := Value.str (Str.ofString "boxpile.pile") 294, code := Value.ref 112 } }), (114, { cls := Value.type "tuple", data := Data.seq #[] }), (116, { cls := Value.type "tuple", data := Data.seq #[Value.str (Str.ofString "self") 331, Value.str (Str.ofString "number") 332] }), (117, { cls := Value.type "tuple", data := Data.seq #[] }), (119, { cls := Value.type "code", data := Data.fields #[Value.str (Str.ofString "need_box") 328, Value.str (Str.ofString "Pile.need_box") 329, Value.str (Str.ofString "/claim/cut.py") 330, Value.int 34 0, Value.int 2 0, Value.int 0 0, Value.int 0 0, Value.int 3 0, Value.ref 114, Value.bool true, Value.int 181 0, Value.ref 115, Value.none, Value.ref 116, Value.ref 117, Value.ref 118, Value.int 333 0, Value.int 34 0, Value.str (Str.ofString "/claim/cut.py") 334] }), (120, { cls := Value.type "function", data := Data.func { name := Str.ofString "need_box", qualname := Str.ofString "Pile.need_box", params := argsOf (meS 12 2), body := FuncBody.stmts (bodyOf (meS 12 2)), scope := scopeOf (meS 12 2), globals := 3, closure := [], defaults := Value.none, kwdefaults := Value.none, pyModule := Value.str (Str.ofString "boxpile.pile") 294, code := Value.ref 119 } }), (121, { cls := Value.type "tuple", data := Data.seq #[] }), (123, { cls := Value.type "tuple", data := Data.seq #[Value.str (Str.ofString "self") 339, Value.str (Str.ofString "hand") 340, Value.str (Str.ofString "slot") 341, Value.str (Str.ofString "number") 342] }), (124, { cls := Value.type "tuple", data := Data.seq #[] })]
noncomputable def g4 (P : Params) : Frag := [(126, { cls := Value.type "code", data := Data.fields #[Value.str (Str.ofString "box_with_slot") 336, Value.str (Str.ofString "Pile.box_with_slot") 337, Value.str (Str.ofString "/claim/cut.py") 338, Value.int 38 0, Value.int 3 0, Value.int 0 0, Value.int 0 0, Value.int 3 0, Value.ref 121, Value.bool true, Value.int 181 0, Value.ref 122, Value.none, Value.ref 123, Value.ref 124, Value.ref 125, Value.int 343 0, Value.int 38 0, Value.str (Str.ofString "/claim/cut.py") 344] }), (127, { cls := Value.type "function", data := Data.func { name := Str.ofString "box_with_slot", qualname := Str.ofString "Pile.box_with_slot", params := argsOf (meS 12 3), body := FuncBody.stmts (bodyOf (meS 12 3)), scope := scopeOf (meS 12 3), globals := 3, closure := [], defaults := Value.none, kwdefaults := Value.none, pyModule := Value.str (Str.ofString "boxpile.pile") 294, code := Value.ref 126 } }), (128, { cls := Value.type "tuple", data := Data.seq #[] }), (130, { cls := Value.type "tuple", data := Data.seq #[Value.str (Str.ofString "self") 349, Value.str (Str.ofString "number") 350] }), (131, { cls := Value.type "tuple", data := Data.seq #[] }), (133, { cls := Value.type "code", data := Data.fields #[Value.str (Str.ofString "counted") 346, Value.str (Str.ofString "Pile.counted") 347, Value.str (Str.ofString "/claim/cut.py") 348, Value.int 46 0, Value.int 2 0, Value.int 0 0, Value.int 0 0, Value.int 3 0, Value.ref 128, Value.bool true, Value.int 181 0, Value.ref 129, Value.none, Value.ref 130, Value.ref 131, Value.ref 132, Value.int 351 0, Value.int 46 0, Value.str (Str.ofString "/claim/cut.py") 352] }), (134, { cls := Value.type "function", data := Data.func { name := Str.ofString "counted", qualname := Str.ofString "Pile.counted", params := argsOf (meS 12 4), body := FuncBody.stmts (bodyOf (meS 12 4)), scope := scopeOf (meS 12 4), globals := 3, closure := [], defaults := Value.none, kwdefaults := Value.none, pyModule := Value.str (Str.ofString "boxpile.pile") 294, code := Value.ref 133 } }), (135, { cls := Value.type "tuple", data := Data.seq #[] }), (137, { cls := Value.type "tuple", data := Data.seq #[Value.str (Str.ofString "self") 357, Value.str (Str.ofString "number") 358, Value.str (Str.ofString "freed") 359, Value.str (Str.ofString "at") 360, Value.str (Str.ofString "slots") 361, Value.str (Str.ofString "other") 362] }), (138, { cls := Value.type "tuple", data := Data.seq #[] }), (140, { cls := Value.type "code", data := Data.fields #[Value.str (Str.ofString "let_go") 354, Value.str (Str.ofString "Pile.let_go") 355, Value.str (Str.ofString "/claim/cut.py") 356, Value.int 50 0, Value.int 2 0, Value.int 0 0, Value.int 0 0, Value.int 3 0, Value.ref 135, Value.bool true, Value.int 181 0, Value.ref 136, Value.none, Value.ref 137, Value.ref 138, Value.ref 139, Value.int 363 0, Value.int 50 0, Value.str (Str.ofString "/claim/cut.py") 364] }), (141, { cls := Value.type "function", data := Data.func { name := Str.ofString "let_go", qualname := Str.ofString "Pile.let_go", params := argsOf (meS 12 5), body := FuncBody.stmts (bodyOf (meS 12 5)), scope := scopeOf (meS 12 5), globals := 3, closure := [], defaults := Value.none, kwdefaults := Value.none, pyModule := Value.str (Str.ofString "boxpile.pile") 294, code := Value.ref 140 } })]
noncomputable def g5 (P : Params) : Frag := [(142, { cls := Value.type "tuple", data := Data.seq #[] }), (144, { cls := Value.type "tuple", data := Data.seq #[Value.str (Str.ofString "self") 369, Value.str (Str.ofString "number") 370, Value.str (Str.ofString "freed") 371] }), (145, { cls := Value.type "tuple", data := Data.seq #[] }), (147, { cls := Value.type "code", data := Data.fields #[Value.str (Str.ofString "lighter") 366, Value.str (Str.ofString "Pile.lighter") 367, Value.str (Str.ofString "/claim/cut.py") 368, Value.int 61 0, Value.int 3 0, Value.int 0 0, Value.int 0 0, Value.int 3 0, Value.ref 142, Value.bool true, Value.int 181 0, Value.ref 143, Value.none, Value.ref 144, Value.ref 145, Value.ref 146, Value.int 372 0, Value.int 61 0, Value.str (Str.ofString "/claim/cut.py") 373] }), (148, { cls := Value.type "function", data := Data.func { name := Str.ofString "lighter", qualname := Str.ofString "Pile.lighter", params := argsOf (meS 12 6), body := FuncBody.stmts (bodyOf (meS 12 6)), scope := scopeOf (meS 12 6), globals := 3, closure := [], defaults := Value.none, kwdefaults := Value.none, pyModule := Value.str (Str.ofString "boxpile.pile") 294, code := Value.ref 147 } }), (149, { cls := Value.type "tuple", data := Data.seq #[] }), (151, { cls := Value.type "tuple", data := Data.seq #[Value.str (Str.ofString "self") 378, Value.str (Str.ofString "hand") 379, Value.str (Str.ofString "number") 380, Value.str (Str.ofString "old") 381] }), (152, { cls := Value.type "tuple", data := Data.seq #[] }), (154, { cls := Value.type "code", data := Data.fields #[Value.str (Str.ofString "handed") 375, Value.str (Str.ofString "Pile.handed") 376, Value.str (Str.ofString "/claim/cut.py") 377, Value.int 72 0, Value.int 3 0, Value.int 0 0, Value.int 0 0, Value.int 3 0, Value.ref 149, Value.bool true, Value.int 181 0, Value.ref 150, Value.none, Value.ref 151, Value.ref 152, Value.ref 153, Value.int 382 0, Value.int 72 0, Value.str (Str.ofString "/claim/cut.py") 383] }), (155, { cls := Value.type "function", data := Data.func { name := Str.ofString "handed", qualname := Str.ofString "Pile.handed", params := argsOf (meS 12 7), body := FuncBody.stmts (bodyOf (meS 12 7)), scope := scopeOf (meS 12 7), globals := 3, closure := [], defaults := Value.none, kwdefaults := Value.none, pyModule := Value.str (Str.ofString "boxpile.pile") 294, code := Value.ref 154 } }), (156, { cls := Value.type "tuple", data := Data.seq #[] }), (158, { cls := Value.type "tuple", data := Data.seq #[Value.str (Str.ofString "self") 388, Value.str (Str.ofString "box") 389, Value.str (Str.ofString "slot") 390, Value.str (Str.ofString "number") 391, Value.str (Str.ofString "old") 392] })]
noncomputable def g6 (P : Params) : Frag := [(159, { cls := Value.type "tuple", data := Data.seq #[] }), (161, { cls := Value.type "code", data := Data.fields #[Value.str (Str.ofString "pointed") 385, Value.str (Str.ofString "Pile.pointed") 386, Value.str (Str.ofString "/claim/cut.py") 387, Value.int 78 0, Value.int 4 0, Value.int 0 0, Value.int 0 0, Value.int 3 0, Value.ref 156, Value.bool true, Value.int 181 0, Value.ref 157, Value.none, Value.ref 158, Value.ref 159, Value.ref 160, Value.int 393 0, Value.int 78 0, Value.str (Str.ofString "/claim/cut.py") 394] }), (162, { cls := Value.type "function", data := Data.func { name := Str.ofString "pointed", qualname := Str.ofString "Pile.pointed", params := argsOf (meS 12 8), body := FuncBody.stmts (bodyOf (meS 12 8)), scope := scopeOf (meS 12 8), globals := 3, closure := [], defaults := Value.none, kwdefaults := Value.none, pyModule := Value.str (Str.ofString "boxpile.pile") 294, code := Value.ref 161 } }), (163, { cls := Value.type "tuple", data := Data.seq #[] }), (166, { cls := Value.type "code", data := Data.fields #[Value.str (Str.ofString "make") 396, Value.str (Str.ofString "Pile.make") 397, Value.str (Str.ofString "/claim/cut.py") 398, Value.int 84 0, Value.int 3 0, Value.int 0 0, Value.int 0 0, Value.int 3 0, Value.ref 163, Value.bool true, Value.int 181 0, Value.ref 164, Value.none, Value.none, Value.none, Value.ref 165, Value.int 399 0, Value.int 84 0, Value.str (Str.ofString "/claim/cut.py") 400] }), (167, { cls := Value.type "function", data := Data.func { name := Str.ofString "make", qualname := Str.ofString "Pile.make", params := argsOf (meS 12 9), body := FuncBody.stmts (bodyOf (meS 12 9)), scope := scopeOf (meS 12 9), globals := 3, closure := [], defaults := Value.none, kwdefaults := Value.none, pyModule := Value.str (Str.ofString "boxpile.pile") 294, code := Value.ref 166 } }), (168, { cls := Value.type "tuple", data := Data.seq #[] }), (170, { cls := Value.type "tuple", data := Data.seq #[Value.str (Str.ofString "self") 405, Value.str (Str.ofString "hand") 406, Value.str (Str.ofString "other") 407] }), (171, { cls := Value.type "tuple", data := Data.seq #[] }), (173, { cls := Value.type "code", data := Data.fields #[Value.str (Str.ofString "hold") 402, Value.str (Str.ofString "Pile.hold") 403, Value.str (Str.ofString "/claim/cut.py") 404, Value.int 96 0, Value.int 3 0, Value.int 0 0, Value.int 0 0, Value.int 3 0, Value.ref 168, Value.bool true, Value.int 181 0, Value.ref 169, Value.none, Value.ref 170, Value.ref 171, Value.ref 172, Value.int 408 0, Value.int 96 0, Value.str (Str.ofString "/claim/cut.py") 409] }), (174, { cls := Value.type "function", data := Data.func { name := Str.ofString "hold", qualname := Str.ofString "Pile.hold", params := argsOf (meS 12 10), body := FuncBody.stmts (bodyOf (meS 12 10)), scope := scopeOf (meS 12 10), globals := 3, closure := [], defaults := Value.none, kwdefaults := Value.none, pyModule := Value.str (Str.ofString "boxpile.pile") 294, code := Value.ref 173 } }), (175, { cls := Value.type "tuple", data := Data.seq #[] })]
noncomputable def g7 (P : Params) : Frag := [(177, { cls := Value.type "tuple", data := Data.seq #[Value.str (Str.ofString "self") 414, Value.str (Str.ofString "hand") 415] }), (178, { cls := Value.type "tuple", data := Data.seq #[] }), (180, { cls := Value.type "code", data := Data.fields #[Value.str (Str.ofString "drop") 411, Value.str (Str.ofString "Pile.drop") 412, Value.str (Str.ofString "/claim/cut.py") 413, Value.int 101 0, Value.int 2 0, Value.int 0 0, Value.int 0 0, Value.int 3 0, Value.ref 175, Value.bool true, Value.int 181 0, Value.ref 176, Value.none, Value.ref 177, Value.ref 178, Value.ref 179, Value.int 416 0, Value.int 101 0, Value.str (Str.ofString "/claim/cut.py") 417] }), (181, { cls := Value.type "function", data := Data.func { name := Str.ofString "drop", qualname := Str.ofString "Pile.drop", params := argsOf (meS 12 11), body := FuncBody.stmts (bodyOf (meS 12 11)), scope := scopeOf (meS 12 11), globals := 3, closure := [], defaults := Value.none, kwdefaults := Value.none, pyModule := Value.str (Str.ofString "boxpile.pile") 294, code := Value.ref 180 } }), (182, { cls := Value.type "tuple", data := Data.seq #[] }), (184, { cls := Value.type "tuple", data := Data.seq #[Value.str (Str.ofString "self") 422, Value.str (Str.ofString "hand") 423, Value.str (Str.ofString "slot") 424, Value.str (Str.ofString "other") 425, Value.str (Str.ofString "box") 426] }), (185, { cls := Value.type "tuple", data := Data.seq #[] }), (187, { cls := Value.type "code", data := Data.fields #[Value.str (Str.ofString "put") 419, Value.str (Str.ofString "Pile.put") 420, Value.str (Str.ofString "/claim/cut.py") 421, Value.int 104 0, Value.int 4 0, Value.int 0 0, Value.int 0 0, Value.int 3 0, Value.ref 182, Value.bool true, Value.int 181 0, Value.ref 183, Value.none, Value.ref 184, Value.ref 185, Value.ref 186, Value.int 427 0, Value.int 104 0, Value.str (Str.ofString "/claim/cut.py") 428] }), (188, { cls := Value.type "function", data := Data.func { name := Str.ofString "put", qualname := Str.ofString "Pile.put", params := argsOf (meS 12 12), body := FuncBody.stmts (bodyOf (meS 12 12)), scope := scopeOf (meS 12 12), globals := 3, closure := [], defaults := Value.none, kwdefaults := Value.none, pyModule := Value.str (Str.ofString "boxpile.pile") 294, code := Value.ref 187 } }), (189, { cls := Value.type "tuple", data := Data.seq #[] }), (191, { cls := Value.type "tuple", data := Data.seq #[Value.str (Str.ofString "self") 433, Value.str (Str.ofString "hand") 434, Value.str (Str.ofString "slot") 435, Value.str (Str.ofString "box") 436] }), (192, { cls := Value.type "tuple", data := Data.seq #[] })]
noncomputable def g8 (P : Params) : Frag := [(194, { cls := Value.type "code", data := Data.fields #[Value.str (Str.ofString "empty") 430, Value.str (Str.ofString "Pile.empty") 431, Value.str (Str.ofString "/claim/cut.py") 432, Value.int 110 0, Value.int 3 0, Value.int 0 0, Value.int 0 0, Value.int 3 0, Value.ref 189, Value.bool true, Value.int 181 0, Value.ref 190, Value.none, Value.ref 191, Value.ref 192, Value.ref 193, Value.int 437 0, Value.int 110 0, Value.str (Str.ofString "/claim/cut.py") 438] }), (195, { cls := Value.type "function", data := Data.func { name := Str.ofString "empty", qualname := Str.ofString "Pile.empty", params := argsOf (meS 12 13), body := FuncBody.stmts (bodyOf (meS 12 13)), scope := scopeOf (meS 12 13), globals := 3, closure := [], defaults := Value.none, kwdefaults := Value.none, pyModule := Value.str (Str.ofString "boxpile.pile") 294, code := Value.ref 194 } }), (196, { cls := Value.type "tuple", data := Data.seq #[] }), (198, { cls := Value.type "tuple", data := Data.seq #[Value.str (Str.ofString "self") 443, Value.str (Str.ofString "hand") 444, Value.str (Str.ofString "other") 445, Value.str (Str.ofString "slot") 446, Value.str (Str.ofString "box") 447] }), (199, { cls := Value.type "tuple", data := Data.seq #[] }), (201, { cls := Value.type "code", data := Data.fields #[Value.str (Str.ofString "take") 440, Value.str (Str.ofString "Pile.take") 441, Value.str (Str.ofString "/claim/cut.py") 442, Value.int 115 0, Value.int 4 0, Value.int 0 0, Value.int 0 0, Value.int 3 0, Value.ref 196, Value.bool true, Value.int 181 0, Value.ref 197, Value.none, Value.ref 198, Value.ref 199, Value.ref 200, Value.int 448 0, Value.int 115 0, Value.str (Str.ofString "/claim/cut.py") 449] }), (202, { cls := Value.type "function", data := Data.func { name := Str.ofString "take", qualname := Str.ofString "Pile.take", params := argsOf (meS 12 14), body := FuncBody.stmts (bodyOf (meS 12 14)), scope := scopeOf (meS 12 14), globals := 3, closure := [], defaults := Value.none, kwdefaults := Value.none, pyModule := Value.str (Str.ofString "boxpile.pile") 294, code := Value.ref 201 } }), (203, { cls := Value.type "tuple", data := Data.seq #[] }), (205, { cls := Value.type "tuple", data := Data.seq #[Value.str (Str.ofString "self") 454, Value.str (Str.ofString "numbers") 455] }), (206, { cls := Value.type "tuple", data := Data.seq #[] }), (208, { cls := Value.type "code", data := Data.fields #[Value.str (Str.ofString "swept") 451, Value.str (Str.ofString "Pile.swept") 452, Value.str (Str.ofString "/claim/cut.py") 453, Value.int 121 0, Value.int 2 0, Value.int 0 0, Value.int 0 0, Value.int 3 0, Value.ref 203, Value.bool true, Value.int 181 0, Value.ref 204, Value.none, Value.ref 205, Value.ref 206, Value.ref 207, Value.int 456 0, Value.int 121 0, Value.str (Str.ofString "/claim/cut.py") 457] }), (209, { cls := Value.type "function", data := Data.func { name := Str.ofString "swept", qualname := Str.ofString "Pile.swept", params := argsOf (meS 12 15), body := FuncBody.stmts (bodyOf (meS 12 15)), scope := scopeOf (meS 12 15), globals := 3, closure := [], defaults := Value.none, kwdefaults := Value.none, pyModule := Value.str (Str.ofString "boxpile.pile") 294, code := Value.ref 208 } })]
noncomputable def g9 (P : Params) : Frag := [(210, { cls := Value.type "tuple", data := Data.seq #[] }), (212, { cls := Value.type "tuple", data := Data.seq #[Value.str (Str.ofString "self") 462, Value.str (Str.ofString "hand") 463] }), (213, { cls := Value.type "tuple", data := Data.seq #[] }), (215, { cls := Value.type "code", data := Data.fields #[Value.str (Str.ofString "holds") 459, Value.str (Str.ofString "Pile.holds") 460, Value.str (Str.ofString "/claim/cut.py") 461, Value.int 124 0, Value.int 2 0, Value.int 0 0, Value.int 0 0, Value.int 3 0, Value.ref 210, Value.bool true, Value.int 181 0, Value.ref 211, Value.none, Value.ref 212, Value.ref 213, Value.ref 214, Value.int 464 0, Value.int 124 0, Value.str (Str.ofString "/claim/cut.py") 465] }), (216, { cls := Value.type "function", data := Data.func { name := Str.ofString "holds", qualname := Str.ofString "Pile.holds", params := argsOf (meS 12 16), body := FuncBody.stmts (bodyOf (meS 12 16)), scope := scopeOf (meS 12 16), globals := 3, closure := [], defaults := Value.none, kwdefaults := Value.none, pyModule := Value.str (Str.ofString "boxpile.pile") 294, code := Value.ref 215 } }), (217, { cls := Value.type "tuple", data := Data.seq #[] }), (219, { cls := Value.type "tuple", data := Data.seq #[Value.str (Str.ofString "self") 470, Value.str (Str.ofString "number") 471] }), (220, { cls := Value.type "tuple", data := Data.seq #[] }), (222, { cls := Value.type "code", data := Data.fields #[Value.str (Str.ofString "points") 467, Value.str (Str.ofString "Pile.points") 468, Value.str (Str.ofString "/claim/cut.py") 469, Value.int 128 0, Value.int 2 0, Value.int 0 0, Value.int 0 0, Value.int 3 0, Value.ref 217, Value.bool true, Value.int 181 0, Value.ref 218, Value.none, Value.ref 219, Value.ref 220, Value.ref 221, Value.int 472 0, Value.int 128 0, Value.str (Str.ofString "/claim/cut.py") 473] }), (223, { cls := Value.type "function", data := Data.func { name := Str.ofString "points", qualname := Str.ofString "Pile.points", params := argsOf (meS 12 17), body := FuncBody.stmts (bodyOf (meS 12 17)), scope := scopeOf (meS 12 17), globals := 3, closure := [], defaults := Value.none, kwdefaults := Value.none, pyModule := Value.str (Str.ofString "boxpile.pile") 294, code := Value.ref 222 } }), (224, { cls := Value.type "tuple", data := Data.seq #[] }), (226, { cls := Value.type "tuple", data := Data.seq #[Value.str (Str.ofString "self") 478, Value.str (Str.ofString "number") 479] })]
noncomputable def g10 (P : Params) : Frag := [(227, { cls := Value.type "tuple", data := Data.seq #[] }), (229, { cls := Value.type "code", data := Data.fields #[Value.str (Str.ofString "weighs") 475, Value.str (Str.ofString "Pile.weighs") 476, Value.str (Str.ofString "/claim/cut.py") 477, Value.int 132 0, Value.int 2 0, Value.int 0 0, Value.int 0 0, Value.int 3 0, Value.ref 224, Value.bool true, Value.int 181 0, Value.ref 225, Value.none, Value.ref 226, Value.ref 227, Value.ref 228, Value.int 480 0, Value.int 132 0, Value.str (Str.ofString "/claim/cut.py") 481] }), (230, { cls := Value.type "function", data := Data.func { name := Str.ofString "weighs", qualname := Str.ofString "Pile.weighs", params := argsOf (meS 12 18), body := FuncBody.stmts (bodyOf (meS 12 18)), scope := scopeOf (meS 12 18), globals := 3, closure := [], defaults := Value.none, kwdefaults := Value.none, pyModule := Value.str (Str.ofString "boxpile.pile") 294, code := Value.ref 229 } }), (231, { cls := Value.type "tuple", data := Data.seq #[] }), (233, { cls := Value.type "tuple", data := Data.seq #[Value.str (Str.ofString "self") 486] }), (234, { cls := Value.type "tuple", data := Data.seq #[] }), (236, { cls := Value.type "code", data := Data.fields #[Value.str (Str.ofString "alive") 483, Value.str (Str.ofString "Pile.alive") 484, Value.str (Str.ofString "/claim/cut.py") 485, Value.int 136 0, Value.int 1 0, Value.int 0 0, Value.int 0 0, Value.int 3 0, Value.ref 231, Value.bool true, Value.int 181 0, Value.ref 232, Value.none, Value.ref 233, Value.ref 234, Value.ref 235, Value.int 487 0, Value.int 136 0, Value.str (Str.ofString "/claim/cut.py") 488] }), (237, { cls := Value.type "function", data := Data.func { name := Str.ofString "alive", qualname := Str.ofString "Pile.alive", params := argsOf (meS 12 19), body := FuncBody.stmts (bodyOf (meS 12 19)), scope := scopeOf (meS 12 19), globals := 3, closure := [], defaults := Value.none, kwdefaults := Value.none, pyModule := Value.str (Str.ofString "boxpile.pile") 294, code := Value.ref 236 } }), (238, { cls := Value.type "tuple", data := Data.seq #[] }), (240, { cls := Value.type "tuple", data := Data.seq #[Value.str (Str.ofString "self") 493] }), (241, { cls := Value.type "tuple", data := Data.seq #[] }), (243, { cls := Value.type "code", data := Data.fields #[Value.str (Str.ofString "suspects") 490, Value.str (Str.ofString "Pile.suspects") 491, Value.str (Str.ofString "/claim/cut.py") 492, Value.int 139 0, Value.int 1 0, Value.int 0 0, Value.int 0 0, Value.int 3 0, Value.ref 238, Value.bool true, Value.int 181 0, Value.ref 239, Value.none, Value.ref 240, Value.ref 241, Value.ref 242, Value.int 494 0, Value.int 139 0, Value.str (Str.ofString "/claim/cut.py") 495] })]
noncomputable def g11 (P : Params) : Frag := [(244, { cls := Value.type "function", data := Data.func { name := Str.ofString "suspects", qualname := Str.ofString "Pile.suspects", params := argsOf (meS 12 20), body := FuncBody.stmts (bodyOf (meS 12 20)), scope := scopeOf (meS 12 20), globals := 3, closure := [], defaults := Value.none, kwdefaults := Value.none, pyModule := Value.str (Str.ofString "boxpile.pile") 294, code := Value.ref 243 } }), (245, { cls := Value.type "tuple", data := Data.seq #[Value.str (Str.ofString "boxes") 497, Value.str (Str.ofString "doubted") 498, Value.str (Str.ofString "in_hands") 499, Value.str (Str.ofString "made") 500, Value.str (Str.ofString "weights") 501] }), (246, { cls := Value.type "dict", data := Data.dict #[{ hash := PyData.keyHash P (Str.ofString "__module__"), key := Value.str (Str.ofString "__module__") 309, val := Value.str (Str.ofString "boxpile.pile") 294 }, { hash := PyData.keyHash P (Str.ofString "__firstlineno__"), key := Value.str (Str.ofString "__firstlineno__") 313, val := Value.int 21 312 }, { hash := PyData.keyHash P (Str.ofString "__init__"), key := Value.str (Str.ofString "__init__") 319, val := Value.ref 106 }, { hash := PyData.keyHash P (Str.ofString "need_hand"), key := Value.str (Str.ofString "need_hand") 327, val := Value.ref 113 }, { hash := PyData.keyHash P (Str.ofString "need_box"), key := Value.str (Str.ofString "need_box") 335, val := Value.ref 120 }, { hash := PyData.keyHash P (Str.ofString "box_with_slot"), key := Value.str (Str.ofString "box_with_slot") 345, val := Value.ref 127 }, { hash := PyData.keyHash P (Str.ofString "counted"), key := Value.str (Str.ofString "counted") 353, val := Value.ref 134 }, { hash := PyData.keyHash P (Str.ofString "let_go"), key := Value.str (Str.ofString "let_go") 365, val := Value.ref 141 }, { hash := PyData.keyHash P (Str.ofString "lighter"), key := Value.str (Str.ofString "lighter") 374, val := Value.ref 148 }, { hash := PyData.keyHash P (Str.ofString "handed"), key := Value.str (Str.ofString "handed") 384, val := Value.ref 155 }, { hash := PyData.keyHash P (Str.ofString "pointed"), key := Value.str (Str.ofString "pointed") 395, val := Value.ref 162 }, { hash := PyData.keyHash P (Str.ofString "make"), key := Value.str (Str.ofString "make") 401, val := Value.ref 167 }, { hash := PyData.keyHash P (Str.ofString "hold"), key := Value.str (Str.ofString "hold") 410, val := Value.ref 174 }, { hash := PyData.keyHash P (Str.ofString "drop"), key := Value.str (Str.ofString "drop") 418, val := Value.ref 181 }, { hash := PyData.keyHash P (Str.ofString "put"), key := Value.str (Str.ofString "put") 429, val := Value.ref 188 }, { hash := PyData.keyHash P (Str.ofString "empty"), key := Value.str (Str.ofString "empty") 439, val := Value.ref 195 }, { hash := PyData.keyHash P (Str.ofString "take"), key := Value.str (Str.ofString "take") 450, val := Value.ref 202 }, { hash := PyData.keyHash P (Str.ofString "swept"), key := Value.str (Str.ofString "swept") 458, val := Value.ref 209 }, { hash := PyData.keyHash P (Str.ofString "holds"), key := Value.str (Str.ofString "holds") 466, val := Value.ref 216 }, { hash := PyData.keyHash P (Str.ofString "points"), key := Value.str (Str.ofString "points") 474, val := Value.ref 223 }, { hash := PyData.keyHash P (Str.ofString "weighs"), key := Value.str (Str.ofString "weighs") 482, val := Value.ref 230 }, { hash := PyData.keyHash P (Str.ofString "alive"), key := Value.str (Str.ofString "alive") 489, val := Value.ref 237 }, { hash := PyData.keyHash P (Str.ofString "suspects"), key := Value.str (Str.ofString "suspects") 496, val := Value.ref 244 }, { hash := PyData.keyHash P (Str.ofString "__static_attributes__"), key := Value.str (Str.ofString "__static_attributes__") 502, val := Value.ref 245 }, { hash := PyData.keyHash P (Str.ofString "__dict__"), key := Value.str (Str.ofString "__dict__") 504, val := Value.ref 248 }, { hash := PyData.keyHash P (Str.ofString "__weakref__"), key := Value.str (Str.ofString "__weakref__") 506, val := Value.ref 249 }, { hash := PyData.keyHash P (Str.ofString "__doc__"), key := Value.str (Str.ofString "__doc__") 507, val := Value.none }] 4 }), (247, { cls := Value.type "type", data := Data.cls { name := Str.ofString "Pile", bases := [Value.type "object"], mro := [Value.ref 247, Value.type "object"], ns := 246, qualname := Str.ofString "Pile" }, slots := #[.none, .none, .some (Value.str (Str.ofString "Pile") 302), .some (Value.str (Str.ofString "Pile") 310), .some (Value.builtin "object.__new__"), .some (Value.bool true)] }), (248, { cls := Value.type "getset_descriptor", data := Data.fields #[Value.str (Str.ofString "__dict__") 503, Value.ref 247, Value.builtin "function.__dict__", Value.builtin "function.__dict__#set"] }), (249, { cls := Value.type "getset_descriptor", data := Data.fields #[Value.str (Str.ofString "__weakref__") 505, Value.ref 247, Value.builtin "ExceptionGroup.__weakref__", Value.none] }), (252, { cls := Value.type "tuple", data := Data.seq #[] }), (254, { cls := Value.type "tuple", data := Data.seq #[Value.str (Str.ofString "_law_found") 515] }), (255, { cls := Value.type "tuple", data := Data.seq #[] }), (257, { cls := Value.type "code", data := Data.fields #[Value.str (Str.ofString "_law_whole") 512, Value.str (Str.ofString "_law_whole") 513, Value.str (Str.ofString "/claim/cut.py") 514, Value.int 142 0, Value.int 1 0, Value.int 0 0, Value.int 0 0, Value.int 3 0, Value.ref 252, Value.bool true, Value.int 181 0, Value.ref 253, Value.none, Value.ref 254, Value.ref 255, Value.ref 256, Value.int 516 0, Value.int 142 0, Value.str (Str.ofString "/claim/cut.py") 517] }), (258, { cls := Value.type "function", data := Data.func { name := Str.ofString "_law_whole", qualname := Str.ofString "_law_whole", params := argsOf (topS 14), body := FuncBody.stmts (bodyOf (topS 14)), scope := scopeOf (topS 14), globals := 3, closure := [], defaults := Value.none, kwdefaults := Value.none, pyModule := Value.str (Str.ofString "law_uf040002_03") 510, code := Value.ref 257 } }), (259, { cls := Value.type "tuple", data := Data.seq #[] })]
noncomputable def g12 (P : Params) : Frag := [(261, { cls := Value.type "tuple", data := Data.seq #[Value.str (Str.ofString "_law_script") 522, Value.str (Str.ofString "_law_k") 523] }), (262, { cls := Value.type "tuple", data := Data.seq #[] }), (264, { cls := Value.type "code", data := Data.fields #[Value.str (Str.ofString "_law_cell_at") 519, Value.str (Str.ofString "_law_cell_at") 520, Value.str (Str.ofString "/claim/cut.py") 521, Value.int 144 0, Value.int 2 0, Value.int 0 0, Value.int 0 0, Value.int 3 0, Value.ref 259, Value.bool true, Value.int 181 0, Value.ref 260, Value.none, Value.ref 261, Value.ref 262, Value.ref 263, Value.int 524 0, Value.int 144 0, Value.str (Str.ofString "/claim/cut.py") 525] }), (265, { cls := Value.type "function", data := Data.func { name := Str.ofString "_law_cell_at", qualname := Str.ofString "_law_cell_at", params := argsOf (topS 15), body := FuncBody.stmts (bodyOf (topS 15)), scope := scopeOf (topS 15), globals := 3, closure := [], defaults := Value.none, kwdefaults := Value.none, pyModule := Value.str (Str.ofString "law_uf040002_03") 510, code := Value.ref 264 } }), (266, { cls := Value.type "tuple", data := Data.seq #[] }), (268, { cls := Value.type "tuple", data := Data.seq #[Value.str (Str.ofString "_law_found") 530, Value.str (Str.ofString "_law_due") 531, Value.str (Str.ofString "_law_k") 532] }), (269, { cls := Value.type "tuple", data := Data.seq #[] }), (271, { cls := Value.type "code", data := Data.fields #[Value.str (Str.ofString "_law_numbers") 527, Value.str (Str.ofString "_law_numbers") 528, Value.str (Str.ofString "/claim/cut.py") 529, Value.int 148 0, Value.int 2 0, Value.int 0 0, Value.int 0 0, Value.int 3 0, Value.ref 266, Value.bool true, Value.int 181 0, Value.ref 267, Value.none, Value.ref 268, Value.ref 269, Value.ref 270, Value.int 533 0, Value.int 148 0, Value.str (Str.ofString "/claim/cut.py") 534] }), (272, { cls := Value.type "function", data := Data.func { name := Str.ofString "_law_numbers", qualname := Str.ofString "_law_numbers", params := argsOf (topS 16), body := FuncBody.stmts (bodyOf (topS 16)), scope := scopeOf (topS 16), globals := 3, closure := [], defaults := Value.none, kwdefaults := Value.none, pyModule := Value.str (Str.ofString "law_uf040002_03") 510, code := Value.ref 271 } }), (273, { cls := Value.type "tuple", data := Data.seq #[] }), (275, { cls := Value.type "tuple", data := Data.seq #[Value.str (Str.ofString "_law_pile") 539, Value.str (Str.ofString "_law_deed") 540] }), (276, { cls := Value.type "tuple", data := Data.seq #[] })]
noncomputable def g13 (P : Params) : Frag := [(278, { cls := Value.type "code", data := Data.fields #[Value.str (Str.ofString "_law_done") 536, Value.str (Str.ofString "_law_done") 537, Value.str (Str.ofString "/claim/cut.py") 538, Value.int 158 0, Value.int 2 0, Value.int 0 0, Value.int 0 0, Value.int 3 0, Value.ref 273, Value.bool true, Value.int 181 0, Value.ref 274, Value.none, Value.ref 275, Value.ref 276, Value.ref 277, Value.int 541 0, Value.int 158 0, Value.str (Str.ofString "/claim/cut.py") 542] }), (279, { cls := Value.type "function", data := Data.func { name := Str.ofString "_law_done", qualname := Str.ofString "_law_done", params := argsOf (topS 17), body := FuncBody.stmts (bodyOf (topS 17)), scope := scopeOf (topS 17), globals := 3, closure := [], defaults := Value.none, kwdefaults := Value.none, pyModule := Value.str (Str.ofString "law_uf040002_03") 510, code := Value.ref 278 } }), (280, { cls := Value.type "tuple", data := Data.seq #[] }), (283, { cls := Value.type "code", data := Data.fields #[Value.str (Str.ofString "_law_pointers") 544, Value.str (Str.ofString "_law_pointers") 545, Value.str (Str.ofString "/claim/cut.py") 546, Value.int 167 0, Value.int 3 0, Value.int 0 0, Value.int 0 0, Value.int 3 0, Value.ref 280, Value.bool true, Value.int 181 0, Value.ref 281, Value.none, Value.none, Value.none, Value.ref 282, Value.int 547 0, Value.int 167 0, Value.str (Str.ofString "/claim/cut.py") 548] }), (284, { cls := Value.type "function", data := Data.func { name := Str.ofString "_law_pointers", qualname := Str.ofString "_law_pointers", params := argsOf (topS 18), body := FuncBody.stmts (bodyOf (topS 18)), scope := scopeOf (topS 18), globals := 3, closure := [], defaults := Value.none, kwdefaults := Value.none, pyModule := Value.str (Str.ofString "law_uf040002_03") 510, code := Value.ref 283 } }), (285, { cls := Value.type "tuple", data := Data.seq #[] }), (288, { cls := Value.type "code", data := Data.fields #[Value.str (Str.ofString "_law_stands") 550, Value.str (Str.ofString "_law_stands") 551, Value.str (Str.ofString "/claim/cut.py") 552, Value.int 172 0, Value.int 3 0, Value.int 0 0, Value.int 0 0, Value.int 3 0, Value.ref 285, Value.bool true, Value.int 181 0, Value.ref 286, Value.none, Value.none, Value.none, Value.ref 287, Value.int 553 0, Value.int 172 0, Value.str (Str.ofString "/claim/cut.py") 554] }), (289, { cls := Value.type "function", data := Data.func { name := Str.ofString "_law_stands", qualname := Str.ofString "_law_stands", params := argsOf (topS 19), body := FuncBody.stmts (bodyOf (topS 19)), scope := scopeOf (topS 19), globals := 3, closure := [], defaults := Value.none, kwdefaults := Value.none, pyModule := Value.str (Str.ofString "law_uf040002_03") 510, code := Value.ref 288 } }), (290, { cls := Value.type "tuple", data := Data.seq #[] }), (293, { cls := Value.type "code", data := Data.fields #[Value.str (Str.ofString "law") 556, Value.str (Str.ofString "law") 557, Value.str (Str.ofString "/claim/cut.py") 558, Value.int 179 0, Value.int 1 0, Value.int 0 0, Value.int 0 0, Value.int 3 0, Value.ref 290, Value.bool true, Value.int 181 0, Value.ref 291, Value.none, Value.none, Value.none, Value.ref 292, Value.int 559 0, Value.int 179 0, Value.str (Str.ofString "/claim/cut.py") 560] }), (294, { cls := Value.type "function", data := Data.func { name := Str.ofString "law", qualname := Str.ofString "law", params := argsOf (topS 20), body := FuncBody.stmts (bodyOf (topS 20)), scope := scopeOf (topS 20), globals := 3, closure := [], defaults := Value.none, kwdefaults := Value.none, pyModule := Value.str (Str.ofString "law_uf040002_03") 510, code := Value.ref 293 } })]
noncomputable def K (P : Params) : Frag := g0 P ++ (g1 P ++ (g2 P ++ (g3 P ++ (g4 P ++ (g5 P ++ (g6 P ++ (g7 P ++ (g8 P ++ (g9 P ++ (g10 P ++ (g11 P ++ (g12 P ++ (g13 P)))))))))))))
noncomputable def as : List Addr := [2, 3, 15, 17, 18, 20, 21, 22, 29, 30, 31, 32, 35, 42, 43, 44, 47, 54, 55, 56, 59, 66, 67, 68, 71, 78, 79, 80, 83, 90, 91, 92, 102, 105, 106, 107, 109, 110, 112, 113, 114, 116, 117, 119, 120, 121, 123, 124, 126, 127, 128, 130, 131, 133, 134, 135, 137, 138, 140, 141, 142, 144, 145, 147, 148, 149, 151, 152, 154, 155, 156, 158, 159, 161, 162, 163, 166, 167, 168, 170, 171, 173, 174, 175, 177, 178, 180, 181, 182, 184, 185, 187, 188, 189, 191, 192, 194, 195, 196, 198, 199, 201, 202, 203, 205, 206, 208, 209, 210, 212, 213, 215, 216, 217, 219, 220, 222, 223, 224, 226, 227, 229, 230, 231, 233, 234, 236, 237, 238, 240, 241, 243, 244, 245, 246, 247, 248, 249, 252, 254, 255, 257, 258, 259, 261, 262, 264, 265, 266, 268, 269, 271, 272, 273, 275, 276, 278, 279, 280, 283, 284, 285, 288, 289, 290, 293, 294]
end Mine.K03

set_option Elab.async false
set_option maxRecDepth 100000
set_option maxHeartbeats 8000000
open PySem PySem.W PyProof.Rows
theorem PySem.Challenge.cw_uf040002_03_holds : PySem.Challenge.rw_uf040002_03.Holds := by
  w_on
  o_law
  o_head (kHook Mine.K03.K Mine.K03.as (fun _ => by kernel_rfl))
  case hw => w_witness2
  intro w s₀ s₁ mg mb G Y fa o pm cd doc dV kV ho hd hcd hD hmg hg args vals as hpre hlay hrd hwl hlo
  have KX := kIn_of Y
  refine Ground.open G ?_
  intro T B D TE TW
  try (refine guard_noD D (by decide +kernel) ?_; clear D)
  have hlo' := hlo
  wrow_args hpre hlay hrd hwl hlo
  refine enter_call ?_
  refine codeAny_mono ?_ (fun _ _ g => GoodW.toG g)
  rename_i ns hs1 hs2 hs3 hs4 hs5 as1 as2 A vs as3 hIL hra hwell hrd1 hI hrd2 hc1 hc2
  have hfa : Value.ref fa = .ref 294 := by
    have e : nsIn (Mine.K03.K w.params) mainGlobals (Str.ofString "law") = some (some (.ref 294)) := by kernel_rfl
    have := mg_of KX T.g e
    have h2 : mg (Str.ofString "law") = some (.ref fa) := hmg
    rw [this] at h2; exact (Option.some.inj h2).symm
  have hfa : fa = 294 := by cases hfa; rfl
  rw [hfa]
  have hlen : ns.length ≤ 63 := by lia
  obtain ⟨σ', hrun⟩ := Mine.L03.plain ns hlen
  have hL : s₁.heap.get? A = some (W.listOf vs.toArray 0) := by
    obtain ⟨o1, g1, g2, n, g3⟩ := hIL
    cases hwell with
    | list q1 q2 =>
      rw [g1] at q1
      cases q1
      cases g3
      exact g1
  have hA : (A == sysModules) = false := by
    refine hlo' A ?_
    cases hrd1 with
    | list => simp
  refine Mine.law_main (K := Mine.K03.K w.params) (T := Mine.L03.T03) (P := Mine.L03.prog) (clsL := Mine.L03.clsL) (fnL := Mine.L03.fnL) (meL := Mine.L03.meL) (exL := Mine.L03.exL) (xP := 31) (by kernel_rfl) (by kernel_rfl) (by kernel_rfl) rfl (lid := 74) rfl KX T.g T.b T.builtins T.nolimit hL hA hI (by show ns.length ≤ 1000000; lia) (d := 20) (by decide) hrun fun h' tk keep => ?_
  refine ⟨.inl ⟨_, .bool true, [], rfl, fun _ => rfl, .bool true, by kernel_rfl, fun _ => ⟨List.nodup_nil, fun _ h => nomatch h⟩⟩, keep, rfl, hg⟩
