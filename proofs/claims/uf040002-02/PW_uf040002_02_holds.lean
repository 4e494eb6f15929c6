import PyProof.Rows.All
import PyProof.P3Statements
import OpenK.KCell
import OpenK.Lit
import OpenK.KTop
import Open.FastT9
import Wide.All
import Wide.FinOn
import PySem.Challenge.RW_uf040002_02
set_option Elab.async false
set_option linter.all false
set_option genSizeOf false

namespace Mine
open PySem (Str PyData)

inductive V where
  | none
  | bool (b : Bool)
  | int (i : Int)
  | str (s : Str)
  | ref (a : Nat)
  | top (i : Nat)
  deriving DecidableEq

inductive O where
  | list (xs : List V)
  | tup (xs : List V)
  | dict (es : List (V × V))
  | inst (c : Nat) (d : Nat)
  | attrs (es : List (Nat × V))
  | rng (a b c : Int)
  deriving DecidableEq

abbrev H := List O
noncomputable def H.get (h : H) (a : Nat) : Option O := h[a]?
noncomputable def H.put (h : H) (a : Nat) (o : O) : H := h.set a o
noncomputable def H.push (h : H) (o : O) : H := h ++ [o]

inductive R (α : Type) where
  | ok (a : α)
  | err (c : Nat)

abbrev X (α : Type) := H → Option (R α × H)
noncomputable def X.pure {α : Type} (a : α) : X α := fun h => some (.ok a, h)
noncomputable def X.bind {α β : Type} (m : X α) (f : α → X β) : X β := fun h =>
  match m h with
  | some (.ok a, h') => f a h'
  | some (.err c, h') => some (.err c, h')
  | none => none
noncomputable def X.none {α : Type} : X α := fun _ => Option.none
noncomputable def X.lift {α : Type} (o : Option α) : X α := fun h => match o with | some a => some (.ok a, h) | Option.none => Option.none

abbrev Loc := Nat → Option V
noncomputable def Loc.upd (l : Loc) (i : Nat) (v : V) : Loc := fun j => bif j == i then some v else l j

inductive Bi where
  | len | sorted | list | tuple | str | int | range | min | max | set | zip
  deriving DecidableEq

set_option genInjectivity false in
mutual
inductive Ex where
  | cnone
  | cbool (b : Bool)
  | cint (i : Int)
  | cstr (s : Str)
  | loc (i : Nat)
  | glo (i : Nat)
  | bin (op : PySem.Operator) (a b : Ex)
  | neg (a : Ex)
  | not (a : Ex)
  | band (es : Exs)
  | bor (es : Exs)
  | cmp (op : PySem.CmpOp) (a b : Ex)
  | cmp2 (o1 o2 : PySem.CmpOp) (a b c : Ex)
  | list (es : Exs)
  | tup (es : Exs)
  | dict (ks vs : Exs)
  | attr (a : Ex) (n : Nat)
  | sub (a i : Ex)
  | slice (a lo hi : Ex)
  | sset (a : Ex)
  | call (f : Nat) (args : Exs)
  | new (c : Nat)
  | meth (o : Ex) (n : Nat) (args : Exs)
  | bi (b : Bi) (args : Exs)
  | isi (a : Ex) (cs : List Nat)
  | comp (elt : Ex) (tg : List Nat) (tup : Bool) (it : Ex) (conds : Exs)
inductive Exs where
  | nil
  | cons (e : Ex) (es : Exs)
end

set_option genInjectivity false in
inductive Tg where
  | var (i : Nat)
  | attr (o : Ex) (n : Nat)
  | sub (o i : Ex)

set_option genInjectivity false in
mutual
inductive St where
  | expr (e : Ex)
  | asg (t : Tg) (e : Ex)
  | ite (c : Ex) (a b : Sts)
  | whl (c : Ex) (b : Sts)
  | for (tg : List Nat) (tup : Bool) (e : Ex) (b : Sts)
  | ret (e : Ex)
  | ret0
  | pass
inductive Sts where
  | nil
  | cons (s : St) (ss : Sts)
  | any
end

set_option genInjectivity false in
structure FD where
  params : List Nat
  body : Sts

set_option genInjectivity false in
structure Prog where
  funs : List (Nat × FD)
  meths : List (Nat × FD)
  globs : List (Nat × V)
  tabs : List (Nat × List (V × V))
  init : Nat
  attrs : List Nat := []
  nf : Nat := 0

noncomputable def H.getM (P : Prog) (h : H) (a : Nat) : Option O := if P.nf ≤ a then h.get a else none


noncomputable def idInt : Nat := 0
noncomputable def idBool : Nat := 1
noncomputable def idList : Nat := 2
noncomputable def idTuple : Nat := 3
noncomputable def idStr : Nat := 4
noncomputable def idAppend : Nat := 6
noncomputable def idPop : Nat := 7
noncomputable def idClear : Nat := 8
noncomputable def lim : Nat := 1000000
noncomputable def okO : O → Bool
  | .list xs => decide (xs.length ≤ lim)
  | .tup xs => decide (xs.length ≤ lim)
  | .dict es => decide (es.length ≤ lim)
  | _ => true
noncomputable def okS (s : Str) : Bool := decide (s.length ≤ lim) && PySem.PyData.strOk s
noncomputable def small (i : Int) : Bool := decide (i.natAbs < 2 ^ 64)
noncomputable def small' (i : Int) : Bool := decide (i.natAbs < 2 ^ 60)
noncomputable def alloc (o : O) : X V := fun h => if okO o then some (.ok (.ref h.length), h.push o) else none
noncomputable def grow (a : Nat) (o : O) (v : V) : X V := fun h => if okO o then some (.ok v, h.put a o) else none
noncomputable def err {α : Type} (c : Nat) : X α := fun h => some (.err c, h)

noncomputable def truth (v : V) : X Bool := fun h => match v with
  | .none => some (.ok false, h)
  | .bool b => some (.ok b, h)
  | .int i => some (.ok (decide (i ≠ 0)), h)
  | .str s => some (.ok (decide (s.length ≠ 0)), h)
  | .ref a => match h.get a with
    | some (.list xs) => some (.ok (!xs.isEmpty), h)
    | some (.tup xs) => some (.ok (!xs.isEmpty), h)
    | some (.dict es) => some (.ok (!es.isEmpty), h)
    | _ => none
  | .top _ => none

noncomputable def optAll {α β : Type} (f : α → Option β) : List α → Option (List β)
  | [] => some []
  | x :: xs => match f x, optAll f xs with
    | some y, some ys => some (y :: ys)
    | _, _ => none
noncomputable def dataOf (h : H) : Nat → V → Option PyData
  | 0, _ => none
  | n + 1, v => match v with
    | .none => some .none
    | .bool b => some (.bool b)
    | .int i => some (.int i)
    | .str s => some (.str s)
    | .ref a => match h.get a with
      | some (.list xs) => (optAll (dataOf h n) xs).map .list
      | some (.tup xs) => (optAll (dataOf h n) xs).map .tuple
      | _ => none
    | .top _ => none
noncomputable def deq (h : H) (a b : V) : Option Bool := match dataOf h 5 a, dataOf h 5 b with
  | some x, some y => some (PyData.eqv x y)
  | _, _ => none

/- parts of values, for what is partly defined -/
noncomputable def onInt {β : Type} (v : V) (f : Int → Option β) : Option β := match v with
  | .int i => f i
  | _ => none
noncomputable def onRef {β : Type} (v : V) (f : Nat → Option β) : Option β := match v with
  | .ref i => f i
  | _ => none
noncomputable def onL {β : Type} (o : Option O) (f : List V → Option β) : Option β := match o with
  | some (.list xs) => f xs
  | _ => none
noncomputable def on1 {β : Type} (l : List V) (f : V → Option β) : Option β := match l with
  | [a] => f a
  | _ => none
noncomputable def on2 {β : Type} (l : List V) (f : V → V → Option β) : Option β := match l with
  | [a, b] => f a b
  | _ => none
theorem onInt_eq {β : Type} {v : V} {f : Int → Option β} {r : β} (h : onInt v f = some r) : ∃ i, v = .int i ∧ f i = some r := by
  cases v <;> first | exact ⟨_, rfl, h⟩ | cases h
theorem onRef_eq {β : Type} {v : V} {f : Nat → Option β} {r : β} (h : onRef v f = some r) : ∃ i, v = .ref i ∧ f i = some r := by
  cases v <;> first | exact ⟨_, rfl, h⟩ | cases h
theorem onL_eq {β : Type} {o : Option O} {f : List V → Option β} {r : β} (h : onL o f = some r) : ∃ xs, o = some (.list xs) ∧ f xs = some r := by
  cases o with
  | none => cases h
  | some o => cases o <;> first | exact ⟨_, rfl, h⟩ | cases h
theorem on1_eq {β : Type} {l : List V} {f : V → Option β} {r : β} (h : on1 l f = some r) : ∃ a, l = [a] ∧ f a = some r := by
  match l, h with
  | [a], h => exact ⟨a, rfl, h⟩
theorem on2_eq {β : Type} {l : List V} {f : V → V → Option β} {r : β} (h : on2 l f = some r) : ∃ a b, l = [a, b] ∧ f a b = some r := by
  match l, h with
  | [a, b], h => exact ⟨a, b, rfl, h⟩
noncomputable def twoInts (a b : V) (f : Int → Int → Option (R V × H)) : Option (R V × H) := onInt a fun x => onInt b fun y => f x y
noncomputable def binop (op : PySem.Operator) (a b : V) : X V := fun h => match op with
  | .Add => match a with
    | .int x => onInt b fun y => some (.ok (.int (x + y)), h)
    | _ => none
  | .Sub => twoInts a b fun x y => some (.ok (.int (x - y)), h)
  | .FloorDiv => twoInts a b fun x y => if y = 0 then none else if small y then some (.ok (.int (Int.fdiv x y)), h) else none
  | .Mod => twoInts a b fun x y => if y = 0 then none else some (.ok (.int (Int.fmod x y)), h)
  | _ => none

noncomputable def inList (h : H) (x : V) (ys : List V) : Option Bool := match dataOf h 5 x, optAll (dataOf h 4) ys with
  | some d, some ds => some (ds.any fun y => PyData.eqv y d)
  | _, _ => none

noncomputable def dget (es : List (V × V)) (k : V) : Option V := match es with
  | [] => none
  | (k', v) :: r => if k' = k then some v else dget r k
noncomputable def dset (es : List (V × V)) (k v : V) : List (V × V) := match es with
  | [] => [(k, v)]
  | (k', v') :: r => if k' = k then (k', v) :: r else (k', v') :: dset r k v
noncomputable def ddel (es : List (V × V)) (k : V) : List (V × V) := match es with
  | [] => []
  | (k', v') :: r => if k' = k then r else (k', v') :: ddel r k

noncomputable def isKey : V → Bool
  | .int _ => true
  | .str _ => true
  | _ => false

noncomputable def tabOf (P : Prog) (i : Nat) : Option (List (V × V)) := P.tabs.lookup i

noncomputable def contains (P : Prog) (x c : V) : X Bool := fun h => match c with
  | .ref a => match h.get a with
    | some (.list ys) => (inList h x ys).map fun b => (.ok b, h)
    | some (.tup ys) => (inList h x ys).map fun b => (.ok b, h)
    | some (.dict es) => if isKey x || decide (x = .none) then some (.ok (dget es x).isSome, h) else none
    | _ => none
  | .top i => match tabOf P i with
    | some es => if isKey x then some (.ok (dget es x).isSome, h) else none
    | none => none
  | .str y => match x with
    | .str _ => none
    | _ => none
  | _ => none

noncomputable def cmpop (P : Prog) (op : PySem.CmpOp) (a b : V) : X V := fun h => match op with
  | .Eq => (deq h a b).map fun r => (.ok (.bool r), h)
  | .NotEq => (deq h a b).map fun r => (.ok (.bool (!r)), h)
  | .Lt => match a, b with | .int x, .int y => some (.ok (.bool (decide (x < y))), h) | _, _ => none
  | .LtE => match a, b with | .int x, .int y => some (.ok (.bool (decide (x ≤ y))), h) | _, _ => none
  | .Gt => match a, b with | .int x, .int y => some (.ok (.bool (decide (x > y))), h) | _, _ => none
  | .GtE => match a, b with | .int x, .int y => some (.ok (.bool (decide (x ≥ y))), h) | _, _ => none
  | .Is => match b with | .none => some (.ok (.bool (decide (a = .none))), h) | _ => none
  | .IsNot => match b with | .none => some (.ok (.bool (decide (a ≠ .none))), h) | _ => none
  | .In => X.bind (contains P a b) (fun r => X.pure (.bool r)) h
  | .NotIn => X.bind (contains P a b) (fun r => X.pure (.bool (!r))) h

noncomputable def idx (i : Int) (n : Nat) : Option Nat := if 0 ≤ i ∧ i < n then some i.toNat else none

noncomputable def getItem (P : Prog) (o i : V) : X V := fun h => match o with
  | .ref a => match h.get a, i with
    | some (.list xs), .int k => ((idx k xs.length).bind fun j => xs[j]?).map fun v => (.ok v, h)
    | some (.tup xs), .int k => ((idx k xs.length).bind fun j => xs[j]?).map fun v => (.ok v, h)
    | some (.dict es), k => if isKey k then (dget es k).map fun v => (.ok v, h) else none
    | _, _ => none
  | .top t => match tabOf P t with
    | some es => if isKey i then (dget es i).map fun v => (.ok v, h) else none
    | none => none
  | _ => none

noncomputable def setItem (P : Prog) (o i v : V) : X Unit := fun h => match o with
  | .ref a => match h.getM P a, i with
    | some (.list xs), .int k => (idx k xs.length).map fun j => (.ok (), h.put a (.list (xs.set j v)))
    | some (.dict es), k => if isKey k then (if okO (.dict (dset es k v)) then some (.ok (), h.put a (.dict (dset es k v))) else none) else none
    | _, _ => none
  | _ => none

noncomputable def clip (v : V) (n : Nat) (d : Nat) : Option Nat := match v with
  | .none => some d
  | .int i => some (if 0 ≤ i then min i.toNat n else (i + n).toNat)
  | _ => none
noncomputable def cut {α : Type} (xs : List α) (lo hi : Nat) : List α := (xs.take hi).drop lo

noncomputable def getSlice (o lo hi : V) : X V := fun h => match o with
  | .ref a => match h.get a with
    | some (.list xs) => match clip lo xs.length 0, clip hi xs.length xs.length with
      | some l, some u => some (.ok (.ref h.length), h.push (.list (cut xs l u)))
      | _, _ => none
    | _ => none
  | _ => none

noncomputable def aget (es : List (Nat × V)) (k : Nat) : Option V := match es with
  | [] => none
  | (k', v) :: r => if k' = k then some v else aget r k
noncomputable def aset (es : List (Nat × V)) (k : Nat) (v : V) : List (Nat × V) := match es with
  | [] => [(k, v)]
  | (k', v') :: r => if k' = k then (k', v) :: r else (k', v') :: aset r k v

noncomputable def getAttr (o : V) (n : Nat) : X V := fun h => match o with
  | .ref a => match h.get a with
    | some (.inst _ d) => match h.get d with
      | some (.attrs es) => (aget es n).map fun v => (.ok v, h)
      | _ => none
    | _ => none
  | _ => none
noncomputable def setAttr (P : Prog) (o : V) (n : Nat) (v : V) : X Unit := fun h => match o with
  | .ref a => match h.get a with
    | some (.inst _ d) => match h.getM P d with
      | some (.attrs es) => if P.attrs.contains n && decide ((aset es n v).length ≤ 100) then some (.ok (), h.put d (.attrs (aset es n v))) else none
      | _ => none
    | _ => none
  | _ => none

noncomputable def intsOf : List V → Option (List Int)
  | [] => some []
  | .int i :: r => (intsOf r).map (i :: ·)
  | _ => none
noncomputable def insertI (x : Int) : List Int → List Int
  | [] => [x]
  | y :: r => if x ≤ y then x :: y :: r else y :: insertI x r
noncomputable def sortI : List Int → List Int
  | [] => []
  | x :: r => insertI x (sortI r)

noncomputable def rangeList (a b c : Int) : List Int :=
  if 0 < c then (List.range (if a < b then (b - a - 1) / c + 1 else 0).toNat).map fun (k : Nat) => a + (k : Int) * c else []

noncomputable def iterOf (v : V) (h : H) : Option (List V) := match v with
  | .ref a => match h.get a with
    | some (.list xs) => some xs
    | some (.tup xs) => some xs
    | some (.rng a b c) => if small' a && small' b && small' c && decide (b - a ≤ (lim : Int)) && decide (0 < c) then some ((rangeList a b c).map .int) else none
    | _ => none
  | _ => none
noncomputable def still (v : V) (h h' : H) : Bool := match v with
  | .ref a => decide (h'.get a = h.get a)
  | _ => true

noncomputable def biLen (v : V) (h : H) : Option (R V × H) := match v with
  | .ref a => match h.get a with
    | some (.list xs) => some (.ok (.int xs.length), h)
    | some (.dict es) => some (.ok (.int es.length), h)
    | _ => none
  | _ => none
noncomputable def sortedI (o : Option (List Int)) (h : H) : Option (R V × H) := match o with
  | some ns => if ns.length < 64 then some (.ok (.ref h.length), h.push (.list ((sortI ns).map .int))) else none
  | none => none
noncomputable def biSorted (v : V) (h : H) : Option (R V × H) := onRef v fun a => match h.get a with
    | some (.list xs) => sortedI (intsOf xs) h
    | some (.dict es) => sortedI (intsOf (es.map (·.1))) h
    | _ => none
noncomputable def biList (v : V) (h : H) : Option (R V × H) := onRef v fun a => match h.get a with
    | some (.list xs) => alloc (.list xs) h
    | _ => none
noncomputable def biRange (args : List V) (h : H) : Option (R V × H) := match args with
  | [a] => onInt a fun n => alloc (.rng 0 n 1) h
  | _ => none
noncomputable def builtin (b : Bi) (args : List V) : X V := fun h => match b with
  | .len => on1 args fun v => biLen v h
  | .sorted => on1 args fun v => biSorted v h
  | .list => on1 args fun v => biList v h
  | .range => biRange args h
  | .min => on2 args fun a b => twoInts a b fun a b => some (.ok (.int (if b < a then b else a)), h)
  | _ => none

noncomputable def addI (a : List Int) (x : Int) : List Int := if x ∈ a then a else a ++ [x]
noncomputable def metI (ns : List Int) : List Int := ns.foldl addI []
noncomputable def fewI (ns : List Int) : Bool := decide (ns.length ≤ 18) && ns.all fun i => decide (0 ≤ i) && decide (i < 64)
noncomputable def ssetI (o : Option (List Int)) (h : H) : Option (R V × H) := match o with
  | some ns => if fewI ns = true then some (.ok (.ref h.length), h.push (.list ((sortI (metI ns)).map .int))) else none
  | none => none
noncomputable def biSset (v : V) : X V := fun h => onRef v fun a => onL (h.get a) fun xs => ssetI (intsOf xs) h

noncomputable def isinst (P : Prog) (v : V) (c : Nat) : X Bool := fun h => match v with
  | .none => some (.ok false, h)
  | .bool _ => some (.ok (c == idBool || c == idInt), h)
  | .int _ => some (.ok (c == idInt), h)
  | .str _ => some (.ok (c == idStr), h)
  | .ref a => match h.get a with
    | some (.list _) => some (.ok (c == idList), h)
    | some (.tup _) => some (.ok (c == idTuple), h)
    | _ => none
  | .top _ => none

noncomputable def isinsts (P : Prog) (v : V) : List Nat → X Bool
  | [c] => if c ≤ 4 then isinst P v c else X.none
  | _ => X.none

noncomputable def listMeth (P : Prog) (o : V) (n : Nat) (args : List V) : X V := fun h => match o with
  | .ref a => match h.getM P a with
    | some (.list xs) =>
      if n = idAppend then match args with
        | [v] => grow a (.list (xs ++ [v])) .none h
        | _ => none
      else none
    | _ => none
  | _ => none
noncomputable def dictMeth (P : Prog) (o : V) (n : Nat) (args : List V) : X V := fun h => match o with
  | .ref a => match h.getM P a with
    | some (.dict es) =>
      if n = idPop then match args with
        | [k] => if isKey k then match dget es k with
            | some v => some (.ok v, h.put a (.dict (ddel es k)))
            | none => none
          else none
        | [k, d] => if isKey k then match dget es k with
            | some v => some (.ok v, h.put a (.dict (ddel es k)))
            | none => some (.ok d, h)
          else none
        | _ => none
      else none
    | _ => none
  | _ => none

inductive Kd where
  | inst | list | dict | str | other
noncomputable def kdOf (v : V) (h : H) : Kd := match v with
  | .ref a => match h.get a with
    | some (.inst _ d) => match h.get d with
      | some (.attrs _) => .inst
      | _ => .other
    | some (.list _) => .list
    | some (.dict _) => .dict
    | _ => .other
  | .str _ => .str
  | _ => .other

noncomputable def bindTg (tg : List Nat) (tup : Bool) (v : V) (loc : Loc) (h : H) : Option Loc := match tup, tg with
  | false, [i] => some (loc.upd i v)
  | true, is => match v with
    | .ref a => match h.get a with
      | some (.tup xs) => if xs.length = is.length then some ((is.zip xs).foldl (fun l p => l.upd p.1 p.2) loc) else none
      | _ => none
    | _ => none
  | _, _ => none

noncomputable def compL (v₀ : V) (tg : List Nat) (tup : Bool) (t : Loc → X Bool) (e : Loc → X V) (loc : Loc) (h₀ : H) : List V → H → Option (R (List V) × H)
  | [], h => some (.ok [], h)
  | v :: vs, h => match bindTg tg tup v loc h with
    | none => none
    | some l' => match t l' h with
      | none => none
      | some (.err _, _) => none
      | some (.ok false, h₁) => if still v₀ h₀ h₁ then compL v₀ tg tup t e loc h₀ vs h₁ else none
      | some (.ok true, h₁) => match e l' h₁ with
        | none => none
        | some (.err _, _) => none
        | some (.ok w, h₂) => if still v₀ h₀ h₂ then match compL v₀ tg tup t e loc h₀ vs h₂ with
            | none => none
            | some (.err _, _) => none
            | some (.ok ws, h₃) => some (.ok (w :: ws), h₃)
          else none

abbrev Calls := Bool → Nat → List V → X V

section
variable (P : Prog) (C : Calls)
mutual
noncomputable def ev : Ex → Loc → X V
  | .cnone, _ => X.pure .none
  | .cbool b, _ => X.pure (.bool b)
  | .cint i, _ => X.pure (.int i)
  | .cstr s, _ => X.pure (.str s)
  | .loc i, loc => X.lift (loc i)
  | .glo i, _ => match P.globs.lookup i with
    | some v => X.pure v
    | none => match P.tabs.lookup i with
      | some _ => X.pure (.top i)
      | none => X.none
  | .bin op a b, loc => X.bind (ev a loc) fun x => X.bind (ev b loc) fun y => binop op x y
  | .neg a, loc => X.bind (ev a loc) fun x => match x with | .int i => X.pure (.int (-i)) | _ => X.none
  | .not a, loc => X.bind (ev a loc) fun x => X.bind (truth x) fun t => X.pure (.bool (!t))
  | .band es, loc => evAnd es loc
  | .bor es, loc => evOr es loc
  | .cmp op a b, loc => X.bind (ev a loc) fun x => X.bind (ev b loc) fun y => cmpop P op x y
  | .cmp2 o1 o2 a b c, loc => X.bind (ev a loc) fun x => X.bind (ev b loc) fun y => X.bind (cmpop P o1 x y) fun r => X.bind (truth r) fun t =>
      if t then X.bind (ev c loc) fun z => cmpop P o2 y z else X.pure r
  | .list es, loc => X.bind (evs es loc) fun vs => alloc (.list vs)
  | .tup es, loc => X.bind (evs es loc) fun vs => alloc (.tup vs)
  | .dict ks vs, loc => X.bind (evs ks loc) fun kv => X.bind (evs vs loc) fun vv => if kv.all isKey && kv.length == vv.length then alloc (.dict ((kv.zip vv).foldl (fun d p => dset d p.1 p.2) [])) else X.none
  | .attr a n, loc => X.bind (ev a loc) fun o => getAttr o n
  | .sub a i, loc => X.bind (ev a loc) fun o => X.bind (ev i loc) fun k => getItem P o k
  | .slice a lo hi, loc => X.bind (ev a loc) fun o => X.bind (ev lo loc) fun l => X.bind (ev hi loc) fun u => getSlice o l u
  | .sset a, loc => X.bind (ev a loc) biSset
  | .call f args, loc => X.bind (evs args loc) fun vs => C false f vs
  | .new c, _ => X.bind (alloc (.attrs [])) fun d => match d with
    | .ref k => X.bind (alloc (.inst c k)) fun o => X.bind (C true P.init [o]) fun r => match r with | .none => X.pure o | _ => X.none
    | _ => X.none
  | .meth o n args, loc => X.bind (ev o loc) fun ov => fun h => match kdOf ov h with
    | .inst => if n ≤ 12 then none else X.bind (evs args loc) (fun vs => C true n (ov :: vs)) h
    | .list => if n = idAppend ∨ n = idPop ∨ n = idClear then X.bind (evs args loc) (fun vs => listMeth P ov n vs) h else none
    | .dict => if n = idPop then X.bind (evs args loc) (fun vs => dictMeth P ov n vs) h else none
    | _ => none
  | .bi b args, loc => X.bind (evs args loc) fun vs => builtin b vs
  | .isi a cs, loc => X.bind (ev a loc) fun v => X.bind (isinsts P v cs) fun b => X.pure (.bool b)
  | .comp elt tg tup it conds, loc => X.bind (ev it loc) fun v => fun h => match iterOf v h with
    | none => none
    | some vs => X.bind (compL v tg tup (tstAnd conds) (ev elt) loc h vs) (fun ws => alloc (.list ws)) h
noncomputable def evs : Exs → Loc → X (List V)
  | .nil, _ => X.pure []
  | .cons e es, loc => X.bind (ev e loc) fun v => X.bind (evs es loc) fun vs => X.pure (v :: vs)
noncomputable def evAnd : Exs → Loc → X V
  | .nil, _ => X.none
  | .cons e .nil, loc => ev e loc
  | .cons e es, loc => X.bind (ev e loc) fun v => X.bind (truth v) fun t => if t then evAnd es loc else X.pure v
noncomputable def evOr : Exs → Loc → X V
  | .nil, _ => X.none
  | .cons e .nil, loc => ev e loc
  | .cons e es, loc => X.bind (ev e loc) fun v => X.bind (truth v) fun t => if t then X.pure v else evOr es loc
noncomputable def tst : Ex → Loc → X V → X Bool
  | .not a, loc, _ => X.bind (tst a loc (ev a loc)) fun t => X.pure (!t)
  | .band es, loc, _ => tstAnd es loc
  | .bor es, loc, _ => tstOr es loc
  | _, _, whole => X.bind whole truth
noncomputable def tstAnd : Exs → Loc → X Bool
  | .nil, _ => X.pure true
  | .cons e es, loc => X.bind (tst e loc (ev e loc)) fun t => if t then tstAnd es loc else X.pure false
noncomputable def tstOr : Exs → Loc → X Bool
  | .nil, _ => X.pure false
  | .cons e es, loc => X.bind (tst e loc (ev e loc)) fun t => if t then X.pure true else tstOr es loc
end

noncomputable def whileL (t : Loc → X Bool) (b : Loc → H → Option (R (Option V) × Loc × H)) : Nat → Loc → H → Option (R (Option V) × Loc × H)
  | 0, _, _ => none
  | n + 1, loc, h => match t loc h with
    | none => none
    | some (.err _, _) => none
    | some (.ok false, h₁) => some (.ok none, loc, h₁)
    | some (.ok true, h₁) => match b loc h₁ with
      | none => none
      | some (.ok none, l₂, h₂) => whileL t b n l₂ h₂
      | some (.ok (some v), l₂, h₂) => some (.ok (some v), l₂, h₂)
      | some (.err _, _, _) => none

noncomputable def forL (v₀ : V) (tg : List Nat) (tup : Bool) (b : Loc → H → Option (R (Option V) × Loc × H)) (h₀ : H) : List V → Loc → H → Option (R (Option V) × Loc × H)
  | [], loc, h => some (.ok none, loc, h)
  | v :: vs, loc, h => match bindTg tg tup v loc h with
    | none => none
    | some l' => match b l' h with
      | none => none
      | some (.ok none, l₂, h₂) => if still v₀ h₀ h₂ then forL v₀ tg tup b h₀ vs l₂ h₂ else none
      | some (.ok (some v), l₂, h₂) => some (.ok (some v), l₂, h₂)
      | some (.err _, _, _) => none

noncomputable def onX {α : Type} (m : X α) (loc : Loc) (f : α → H → Option (R (Option V) × Loc × H)) (h : H) : Option (R (Option V) × Loc × H) := match m h with
  | none => none
  | some (.err c, h₁) => some (.err c, loc, h₁)
  | some (.ok a, h₁) => f a h₁


variable (F : Nat)
mutual
noncomputable def ex : St → Loc → H → Option (R (Option V) × Loc × H)
  | .expr e, loc, h => onX (ev P C e loc) loc (fun _ h₁ => some (.ok none, loc, h₁)) h
  | .asg t e, loc, h => onX (ev P C e loc) loc (fun v h₁ => match t with
      | .var i => some (.ok none, loc.upd i v, h₁)
      | .attr o n => onX (ev P C o loc) loc (fun ov h₂ => onX (setAttr P ov n v) loc (fun _ h₃ => some (.ok none, loc, h₃)) h₂) h₁
      | .sub o i => onX (ev P C o loc) loc (fun ov h₂ => onX (ev P C i loc) loc (fun iv h₃ => onX (setItem P ov iv v) loc (fun _ h₄ => some (.ok none, loc, h₄)) h₃) h₂) h₁) h
  | .ite c a b, loc, h => onX (tst P C c loc (ev P C c loc)) loc (fun t h₁ => if t then exs a loc h₁ else exs b loc h₁) h
  | .whl c b, loc, h => whileL (fun l => tst P C c l (ev P C c l)) (exs b) F loc h
  | .for tg tup e b, loc, h => onX (ev P C e loc) loc (fun v h₁ => match iterOf v h₁ with
      | none => none
      | some vs => forL v tg tup (exs b) h₁ vs loc h₁) h
  | .ret e, loc, h => onX (ev P C e loc) loc (fun v h₁ => some (.ok (some v), loc, h₁)) h
  | .ret0, loc, h => some (.ok (some .none), loc, h)
  | .pass, loc, h => some (.ok none, loc, h)
noncomputable def exs : Sts → Loc → H → Option (R (Option V) × Loc × H)
  | .any, _, _ => none
  | .nil, loc, h => some (.ok none, loc, h)
  | .cons s ss, loc, h => match ex s loc h with
    | some (.ok none, l₁, h₁) => exs ss l₁ h₁
    | r => r
end
end

noncomputable def run (P : Prog) (F : Nat) : Nat → Calls
  | 0, _, _, _ => X.none
  | d + 1, m, f, args => fun h => match (if m then P.meths else P.funs).lookup f with
    | none => none
    | some fd => if args.length = fd.params.length then
        match exs P (run P F d) F fd.body ((fd.params.zip args).foldl (fun l p => l.upd p.1 p.2) (fun _ => none)) h with
        | none => none
        | some (.err c, _, h₁) => some (.err c, h₁)
        | some (.ok r, _, h₁) => some (.ok (r.getD .none), h₁)
      else none

end Mine

set_option autoImplicit false
namespace Mine

theorem insertI_perm (x : Int) (l : List Int) : (insertI x l).Perm (x :: l) := by
  induction l with
  | nil => exact List.Perm.refl _
  | cons y r ih =>
    simp only [insertI]
    split
    · exact List.Perm.refl _
    · exact (ih.cons y).trans (List.Perm.swap x y r)
theorem sortI_perm (l : List Int) : (sortI l).Perm l := by
  induction l with
  | nil => exact List.Perm.refl _
  | cons x r ih => exact (insertI_perm x _).trans (ih.cons x)
theorem insertI_sorted (x : Int) {l : List Int} (h : l.Pairwise (· ≤ ·)) : (insertI x l).Pairwise (· ≤ ·) := by
  induction l with
  | nil => simp [insertI]
  | cons y r ih =>
    simp only [insertI]
    rw [List.pairwise_cons] at h
    split
    · rename_i hxy
      refine List.pairwise_cons.mpr ⟨fun z hz => ?_, List.pairwise_cons.mpr h⟩
      rcases List.mem_cons.mp hz with rfl | hz
      · exact hxy
      · exact Int.le_trans hxy (h.1 z hz)
    · rename_i hxy
      refine List.pairwise_cons.mpr ⟨fun z hz => ?_, ih h.2⟩
      rcases List.mem_cons.mp ((insertI_perm x r).mem_iff.mp hz) with rfl | hz
      · lia
      · exact h.1 z hz
theorem sortI_sorted (l : List Int) : (sortI l).Pairwise (· ≤ ·) := by
  induction l with
  | nil => exact List.Pairwise.nil
  | cons x r ih => exact insertI_sorted x ih
theorem sorted_unique : ∀ {a b : List Int}, a.Perm b → a.Pairwise (· ≤ ·) → b.Pairwise (· ≤ ·) → a = b
  | [], b, p, _, _ => (List.nil_perm.mp p).symm
  | x :: a, [], p, _, _ => absurd p.length_eq (by simp)
  | x :: a, y :: b, p, ha, hb => by
    rw [List.pairwise_cons] at ha hb
    have hxy : x = y := by
      have h1 : x ∈ y :: b := p.mem_iff.mp (.head _)
      have h2 : y ∈ x :: a := p.mem_iff.mpr (.head _)
      rcases List.mem_cons.mp h1 with h1 | h1
      · exact h1
      · rcases List.mem_cons.mp h2 with h2 | h2
        · exact h2.symm
        · have := hb.1 x h1; have := ha.1 y h2; lia
    subst hxy
    rw [sorted_unique (List.Perm.cons_inv p) ha.2 hb.2]

theorem sortI_of_perm {l m : List Int} (h : l.Perm m) : sortI l = sortI m := sorted_unique ((sortI_perm l).trans (h.trans (sortI_perm m).symm)) (sortI_sorted l) (sortI_sorted m)
theorem met_all {x : Int} : ∀ {ns a : List Int}, x ∈ ns.foldl addI a ↔ x ∈ a ∨ x ∈ ns
  | [], a => by simp
  | y :: r, a => by
    rw [List.foldl_cons, met_all]
    unfold addI
    split
    · rename_i h
      constructor
      · rintro (h1 | h1)
        · exact .inl h1
        · exact .inr (.tail _ h1)
      · rintro (h1 | h1)
        · exact .inl h1
        · rcases List.mem_cons.mp h1 with rfl | h1
          · exact .inl h
          · exact .inr h1
    · rw [List.mem_append, List.mem_singleton, List.mem_cons, or_assoc]
theorem met_mem {x : Int} {ns : List Int} : x ∈ metI ns ↔ x ∈ ns := by unfold metI; rw [met_all]; simp
theorem met_nd : ∀ {ns a : List Int}, a.Nodup → (ns.foldl addI a).Nodup
  | [], a, h => h
  | y :: r, a, h => by
    rw [List.foldl_cons]
    refine met_nd ?_
    unfold addI
    split
    · exact h
    · rename_i hy
      exact List.nodup_append.mpr ⟨h, by simp, fun b hb c hc e => by rw [List.mem_singleton.mp hc] at e; exact hy (e ▸ hb)⟩
theorem met_nodup {ns : List Int} : (metI ns).Nodup := met_nd List.nodup_nil
theorem met_len : ∀ {ns a : List Int}, (ns.foldl addI a).length ≤ a.length + ns.length
  | [], a => by simp
  | y :: r, a => by
    rw [List.foldl_cons]
    have := met_len (ns := r) (a := addI a y)
    have h2 : (addI a y).length ≤ a.length + 1 := by unfold addI; split <;> simp
    rw [List.length_cons]; lia
end Mine

set_option autoImplicit false
namespace Mine
open PySem PySem.W PySem.Calls PyProof.Rows

inductive All2 {α β : Type} (R : α → β → Prop) : List α → List β → Prop
  | nil : All2 R [] []
  | cons {a : α} {b : β} {as : List α} {bs : List β} : R a b → All2 R as bs → All2 R (a :: as) (b :: bs)

namespace All2
variable {α β γ δ : Type} {R R' : α → β → Prop}
theorem length {as : List α} {bs : List β} (h : All2 R as bs) : as.length = bs.length := by
  induction h with
  | nil => rfl
  | cons _ _ ih => simp [ih]
theorem get {as : List α} {bs : List β} (h : All2 R as bs) : ∀ {i : Nat} {a : α}, as[i]? = some a → ∃ b, bs[i]? = some b ∧ R a b := by
  induction h with
  | nil => intro i a e; simp at e
  | cons hr _ ih =>
    intro i a e
    cases i with
    | zero => simp only [List.getElem?_cons_zero, Option.some.injEq] at e; subst e; exact ⟨_, rfl, hr⟩
    | succ i => simp only [List.getElem?_cons_succ] at e ⊢; exact ih e
theorem mono {as : List α} {bs : List β} (h : All2 R as bs) (k : ∀ a b, R a b → R' a b) : All2 R' as bs := by
  induction h with
  | nil => exact .nil
  | cons hr _ ih => exact .cons (k _ _ hr) ih
theorem append {as as' : List α} {bs bs' : List β} (h : All2 R as bs) (h' : All2 R as' bs') : All2 R (as ++ as') (bs ++ bs') := by
  induction h with
  | nil => exact h'
  | cons hr _ ih => exact .cons hr ih
theorem set {as : List α} {bs : List β} (h : All2 R as bs) {a : α} {b : β} (hr : R a b) : ∀ i : Nat, All2 R (as.set i a) (bs.set i b) := by
  induction h with
  | nil => intro i; exact .nil
  | cons hr' hs ih =>
    intro i
    cases i with
    | zero => exact .cons hr hs
    | succ i => exact .cons hr' (ih i)
theorem one {a : α} {b : β} (h : R a b) : All2 R [a] [b] := .cons h .nil
theorem take {as : List α} {bs : List β} (h : All2 R as bs) : ∀ n : Nat, All2 R (as.take n) (bs.take n) := by
  induction h with
  | nil => intro n; simp; exact .nil
  | cons hr _ ih =>
    intro n
    cases n with
    | zero => exact .nil
    | succ n => exact .cons hr (ih n)
theorem drop {as : List α} {bs : List β} (h : All2 R as bs) : ∀ n : Nat, All2 R (as.drop n) (bs.drop n) := by
  induction h with
  | nil => intro n; simp; exact .nil
  | cons hr hs ih =>
    intro n
    cases n with
    | zero => exact .cons hr hs
    | succ n => exact ih n
end All2

set_option genInjectivity false in
structure Sig where
  prog : Program
  w : World
  K : Frag
  T : List Str
  P : Prog
  cls : Nat → Option Addr
  fn : Nat → Option Addr
  me : Nat → Option Addr
  ex : Nat → Option Addr
  fz : List (Addr × Obj)

variable (S : Sig)

noncomputable def VR (ρ : List Addr) : V → Value → Prop
  | .none, x => x = .none
  | .bool b, x => x = .bool b
  | .int i, x => ∃ t, x = .int i t
  | .str s, x => ∃ t, x = .str s t ∧ okS s = true
  | .ref a, x => ∃ A, ρ[a]? = some A ∧ x = .ref A
  | .top _, _ => False

theorem VR.mono {ρ ρ' : List Addr} {v : V} {x : Value} (h : VR ρ v x) (k : ρ <+: ρ') : VR ρ' v x := by
  cases v <;> try exact h
  obtain ⟨A, hA, rfl⟩ := h
  obtain ⟨r, rfl⟩ := k
  refine ⟨A, ?_, rfl⟩
  rw [List.getElem?_append_left (List.getElem?_eq_some_iff.mp hA).1]
  exact hA

noncomputable def keyIs : V → Value → Bool
  | .int i, v => Value.isInt i v
  | .str s, v => Value.isStrOf s v
  | .none, .none => true
  | _, _ => false
theorem keyIs_int {i : Int} {v : Value} (h : keyIs (.int i) v = true) : ∃ t, v = .int i t := Value.isInt_shape h
theorem keyIs_str {s : Str} {v : Value} (h : keyIs (.str s) v = true) : ∃ t, v = .str s t := Value.isStrOf_shape h
theorem keyIs_none {v : Value} (h : keyIs .none v = true) : v = .none := by cases v <;> first | rfl | cases h
theorem keyIs_shape {k : V} {v : Value} (h : keyIs k v = true) : (∃ i t, k = .int i ∧ v = .int i t) ∨ (∃ s t, k = .str s ∧ v = .str s t) ∨ (k = .none ∧ v = .none) := by
  cases k with
  | int i => obtain ⟨t, rfl⟩ := keyIs_int h; exact .inl ⟨i, t, rfl, rfl⟩
  | str s => obtain ⟨t, rfl⟩ := keyIs_str h; exact .inr (.inl ⟨s, t, rfl, rfl⟩)
  | none => exact .inr (.inr ⟨rfl, keyIs_none h⟩)
  | _ => cases v <;> cases h

noncomputable def hashNone : Int := 4238894112
noncomputable def hashV (w : World) : V → Int
  | .int i => hashInt i
  | .str s => hashStr w s
  | _ => hashNone

section
variable {prog : Program} {w : World} {A : Around} {E : Value → Shared → Prop} {s : Shared}
theorem hash_none {Q : Int → Shared → Prop} (h : Q hashNone { s with toks := s.toks + 1 }) : wpAny (model prog w) A (pyHash .none) Q E s := by
  have hT : s.TypeIs .none "NoneType" := rfl
  unfold pyHash
  have hv : [Value.none].any Value.onHeap = false := rfl
  refine wpAny_bind ?_
  rw [cRoomFor, if_neg (by rw [hv]; exact Bool.false_ne_true)]; refine wpAny_pure ?_
  refine wpAny_bind (wpAny_specialOf hT F.slot_NoneType_hash.lookup ?_)
  show wpAny _ _ (if (some (Value.builtin "NoneType.__hash__") == some Value.none) = true then _ else _) Q E s
  rw [if_neg (by decide)]
  refine wpAny_bind (wpAny_specialOf hT F.slot_NoneType_hash.lookup ?_)
  show wpAny _ _ (callSpecialIfBoundUnlessNone? .none "__hash__" _ >>= _) Q E s
  refine wpAny_bind (wpAny_callSpecialIfBoundUnlessNone?_slot hT F.slot_NoneType_hash
    (wpAny_call_entry F.slot_NoneType_hash hT F.entry_NoneType_hash
      (show wpAny _ _ (do ret (← mkInt hashNone)) _ _ s from wpAny_ret_mkInt ?_) (F.args_NoneType_hash_1 _)))
  exact wpAny_pure h
theorem eqBool_of {a b : Value} {r : Bool} {Q : Bool → Shared → Prop} (hne : (a == b) = true → r = true) (hf : ∀ x t, a ≠ .float x t)
    (hc : ∀ Q' : Value → Shared → Prop, Q' (.bool r) s → wpAny (model prog w) A (compareOp .Eq a b) Q' E s) (h : Q r s) : wpAny (model prog w) A (eqBool a b) Q E s := by
  unfold eqBool
  refine wpAny_holding ?_
  by_cases hab : (a == b) = true
  · rw [if_pos hab]
    exact wpAny_bind (wpAny_rule (wpAny_pure (by rw [hne hab] at h; exact h)))
  · rw [if_neg hab]
    cases a <;> first | exact absurd rfl (hf _ _) | exact wpAny_bind (hc _ (wpAny_truthy_bool h))
end

theorem keyIs_inj (v : Value) (a b : V) (ha : keyIs a v = true) (hb : keyIs b v = true) : a = b := by
  rcases keyIs_shape ha with ⟨i, t, rfl, rfl⟩ | ⟨x, t, rfl, rfl⟩ | ⟨rfl, rfl⟩ <;> rcases keyIs_shape hb with ⟨j, u, rfl, e⟩ | ⟨y, u, rfl, e⟩ | ⟨rfl, e⟩ <;> first | (cases e; rfl) | cases e

noncomputable def vKind (prog : Program) (w : World) : KeyKind prog w V where
  is := keyIs
  hash := hashV w
  inj := keyIs_inj
  byValue := fun k v h => by rcases keyIs_shape h with ⟨i, t, rfl, rfl⟩ | ⟨x, t, rfl, rfl⟩ | ⟨rfl, rfl⟩ <;> rfl
  pyHash := fun hv h => by
    rcases keyIs_shape hv with ⟨i, t, rfl, rfl⟩ | ⟨x, t, rfl, rfl⟩ | ⟨rfl, rfl⟩
    · exact wpAny_pyHash_int h
    · exact wpAny_pyHash_str h
    · exact hash_none h
  eqBool := fun hu hv h => by
    rcases keyIs_shape hu with ⟨i, t, rfl, rfl⟩ | ⟨x, t, rfl, rfl⟩ | ⟨rfl, rfl⟩ <;> rcases keyIs_shape hv with ⟨j, u, rfl, rfl⟩ | ⟨y, u, rfl, rfl⟩ | ⟨rfl, rfl⟩
    · refine wpAny_eqBool_int ?_
      have : (i == j) = decide (V.int i = V.int j) := by by_cases hij : i = j <;> simp [hij]
      rw [this]; exact h
    · exact eqBool_of (r := false) (fun e => by cases (eq_of_beq e)) (fun _ _ e => by cases e) (fun _ h' => EqMixed.eq_int_str h') (by simpa using h)
    · exact eqBool_of (r := false) (fun e => by cases (eq_of_beq e)) (fun _ _ e => by cases e) (fun _ h' => EqNone.eq_int_none h') (by simpa using h)
    · exact eqBool_of (r := false) (fun e => by cases (eq_of_beq e)) (fun _ _ e => by cases e) (fun _ h' => EqMixed.eq_str_int h') (by simpa using h)
    · refine wpAny_eqBool_str ?_
      have : decide (x = y) = decide (V.str x = V.str y) := by by_cases hij : x = y <;> simp [hij]
      rw [this]; exact h
    · exact eqBool_of (r := false) (fun e => by cases (eq_of_beq e)) (fun _ _ e => by cases e) (fun _ h' => EqNone.eq_str_none h') (by simpa using h)
    · exact eqBool_of (r := false) (fun e => by cases (eq_of_beq e)) (fun _ _ e => by cases e) (fun _ h' => EqNone.eq_none_int h') (by simpa using h)
    · exact eqBool_of (r := false) (fun e => by cases (eq_of_beq e)) (fun _ _ e => by cases e) (fun _ h' => EqNone.eq_none_str h') (by simpa using h)
    · exact eqBool_of (r := true) (fun _ => rfl) (fun _ _ e => by cases e) (fun _ h' => EqNone.eq_none_none h') (by simpa using h)
  «strs» := fun k x t v h => by
    rcases keyIs_shape h with ⟨i, u, rfl, e⟩ | ⟨y, u, rfl, e⟩ | ⟨rfl, e⟩
    · cases e
    · cases e; cases v <;> rfl
    · cases e

abbrev tupOf (its : Array Value) (n : Nat) : Obj := { cls := .type "tuple", data := .seq its n }
abbrev rangeOf (a b c : Int) (ta tb tc : Tok) : Obj := { cls := .type "range", data := .fields #[.int a ta, .int b tb, .int c tc] }

noncomputable def PR (ρ : List Addr) (p : V × V) (q : V × Value) : Prop := p.1 = q.1 ∧ VR ρ p.2 q.2
noncomputable def AR (ρ : List Addr) (p : Nat × V) (e : DictEntry) : Prop := p.1 ∈ S.P.attrs ∧ ∃ nm t, S.T[p.1]? = some nm ∧ e.key = .str nm t ∧ VR ρ p.2 e.val

noncomputable def OR (ρ : List Addr) : O → Obj → Prop
  | .list xs, o => ∃ vs n, o = listOf (List.toArray vs) n ∧ All2 (VR ρ) xs vs ∧ xs.length ≤ lim
  | .tup xs, o => ∃ vs n, o = tupOf (List.toArray vs) n ∧ All2 (VR ρ) xs vs ∧ xs.length ≤ lim
  | .dict es, o => ∃ es' n kvs, o = dictOf es' n ∧ KeysOf (vKind S.prog S.w) es'.toArray ∧ Pairs (vKind S.prog S.w) es' kvs ∧ (kvs.map (·.1)).Nodup ∧ All2 (PR ρ) es kvs ∧ es.length ≤ lim
  | .inst c d, o => ∃ C D, S.cls c = some C ∧ ρ[d]? = some D ∧ o = ⟨.ref C, some D, .plain, #[]⟩
  | .attrs es, o => ∃ es' n, o = dictOf es' n ∧ All2 (AR S ρ) es es' ∧ es.length ≤ 100
  | .rng a b c, o => ∃ ta tb tc, o = rangeOf a b c ta tb tc

theorem PR.mono {ρ ρ' : List Addr} (k : ρ <+: ρ') {p : V × V} {q : V × Value} (h : PR ρ p q) : PR ρ' p q := ⟨h.1, h.2.mono k⟩
theorem AR.mono {ρ ρ' : List Addr} (k : ρ <+: ρ') {p : Nat × V} {q : DictEntry} (h : AR S ρ p q) : AR S ρ' p q := by
  obtain ⟨h1, nm, t, h2, h3, h4⟩ := h
  exact ⟨h1, nm, t, h2, h3, h4.mono k⟩
theorem pre_get {ρ ρ' : List Addr} (k : ρ <+: ρ') {a : Nat} {A : Addr} (h : ρ[a]? = some A) : ρ'[a]? = some A := by
  obtain ⟨r, rfl⟩ := k
  rw [List.getElem?_append_left (List.getElem?_eq_some_iff.mp h).1]
  exact h
theorem OR.mono {ρ ρ' : List Addr} (k : ρ <+: ρ') {o : O} {x : Obj} (h : OR S ρ o x) : OR S ρ' o x := by
  cases o with
  | list xs => obtain ⟨vs, n, rfl, h, z⟩ := h; exact ⟨vs, n, rfl, h.mono fun _ _ e => e.mono k, z⟩
  | tup xs => obtain ⟨vs, n, rfl, h, z⟩ := h; exact ⟨vs, n, rfl, h.mono fun _ _ e => e.mono k, z⟩
  | dict es => obtain ⟨es', n, kvs, rfl, h1, h2, h3, h4, z⟩ := h; exact ⟨es', n, kvs, rfl, h1, h2, h3, h4.mono fun _ _ e => e.mono k, z⟩
  | inst c d => obtain ⟨C, D, h1, h2, rfl⟩ := h; exact ⟨C, D, h1, pre_get k h2, rfl⟩
  | attrs es => obtain ⟨es', n, rfl, h, z⟩ := h; exact ⟨es', n, rfl, h.mono fun _ _ e => e.mono S k, z⟩
  | rng a b c => exact h
theorem OR.notFreed {ρ : List Addr} {o : O} {x : Obj} (h : OR S ρ o x) : x.isFreed = false := by
  cases o with
  | list xs => obtain ⟨vs, n, rfl, h, z⟩ := h; rfl
  | tup xs => obtain ⟨vs, n, rfl, h, z⟩ := h; rfl
  | dict es => obtain ⟨es', n, kvs, rfl, h1, h2, h3, h4, z⟩ := h; rfl
  | inst c d => obtain ⟨C, D, h1, h2, rfl⟩ := h; rfl
  | attrs es => obtain ⟨es', n, rfl, h, z⟩ := h; rfl
  | rng a b c => obtain ⟨ta, tb, tc, rfl⟩ := h; rfl

abbrev adr (os : List (Addr × Obj)) : List Addr := os.map (·.1)

abbrev Fs := List (Addr × (Str → Option Value))

structure Led (h₀ : Heap) (L : Addr) (m : Str → Option Value) (fs : Fs) (kp os : List (Addr × Obj)) (σ : H) (h : Heap) : Prop where
  fr : Fr h₀ L h m
  news : News h₀ L h (kp ++ os)
  nd : (adr (kp ++ os)).Nodup
  objs : All2 (fun o p => OR S (adr os) o p.2) σ os
  outs : ∀ f ∈ fs, h.Ns f.1 f.2 ∧ f.1 ≠ L ∧ h₀.get? f.1 = none ∧ f.1 ∉ adr (kp ++ os)
  top : ∃ o, h₀.get? mainGlobals = some o
  big : ∀ a ∈ adr (kp ++ os), (a == sysModules) = false
  frz : S.fz <+: os ∧ S.fz.length ≤ S.P.nf

section
variable {S} {h₀ h h' : Heap} {L : Addr} {m : Str → Option Value} {fs : Fs} {kp os : List (Addr × Obj)} {σ : H}
theorem Led.keep (l : Led S h₀ L m fs kp os σ h) (k : ∀ b o, h.get? b = some o → h'.get? b = some o) : Led S h₀ L m fs kp os σ h' :=
  ⟨l.fr.keptAll k, fun p hp => ⟨k _ _ (l.news p hp).1, (l.news p hp).2⟩, l.nd, l.objs, fun f hf => ⟨(l.outs f hf).1.keeps k, (l.outs f hf).2⟩, l.top, l.big, l.frz⟩
theorem Led.at (l : Led S h₀ L m fs kp os σ h) {a : Nat} {o : O} (e : σ.get a = some o) :
    ∃ A x, os[a]? = some (A, x) ∧ (adr os)[a]? = some A ∧ OR S (adr os) o x ∧ h.get? A = some x ∧ A ≠ L ∧ h₀.get? A = none ∧ (A == sysModules) = false := by
  obtain ⟨p, hp, hr⟩ := l.objs.get e
  obtain ⟨A, x⟩ := p
  have := l.news _ (List.mem_append_right _ (List.mem_of_getElem? hp))
  exact ⟨A, x, hp, by simp [adr, hp], hr, this.1, this.2.1, this.2.2, l.big _ (List.mem_map.mpr ⟨_, List.mem_append_right _ (List.mem_of_getElem? hp), rfl⟩)⟩
theorem Led.ref (l : Led S h₀ L m fs kp os σ h) {ρ : List Addr} (k : ρ <+: adr os) {a : Nat} {o : O} {v : Value} (e : σ.get a = some o) (hv : VR ρ (.ref a) v) :
    ∃ A x, v = .ref A ∧ os[a]? = some (A, x) ∧ (adr os)[a]? = some A ∧ OR S (adr os) o x ∧ h.get? A = some x ∧ A ≠ L ∧ h₀.get? A = none ∧ (A == sysModules) = false := by
  obtain ⟨A, x, h1, h2, h3⟩ := l.at e
  obtain ⟨B, hB, rfl⟩ := hv
  have hB := pre_get k hB
  rw [h2] at hB; cases hB
  exact ⟨A, x, rfl, h1, h2, h3⟩
theorem set_self_fst : ∀ {l : List Addr} {a : Nat} {A : Addr}, l[a]? = some A → l.set a A = l
  | [], _, _, e => by simp at e
  | x :: r, 0, _, e => by simp only [List.getElem?_cons_zero, Option.some.injEq] at e; rw [e]; rfl
  | x :: r, a + 1, _, e => by simp only [List.getElem?_cons_succ] at e; rw [List.set_cons_succ, set_self_fst e]
theorem adr_set {os : List (Addr × Obj)} {a : Nat} {A : Addr} {x x' : Obj} (e : os[a]? = some (A, x)) : adr (os.set a (A, x')) = adr os := by
  unfold adr
  rw [List.map_set]
  have : (os.map (·.1))[a]? = some A := by simp [e]
  exact set_self_fst this
theorem mem_set_iff {os : List (Addr × Obj)} {a : Nat} {A : Addr} {x x' : Obj} (nd : (adr os).Nodup) (e : os[a]? = some (A, x)) {p : Addr × Obj} (hp : p ∈ os.set a (A, x')) : p = (A, x') ∨ (p ∈ os ∧ p.1 ≠ A) := by
  obtain ⟨i, hi⟩ := List.getElem?_of_mem hp
  rw [List.getElem?_set] at hi
  split at hi
  · split at hi
    · cases hi; exact .inl rfl
    · cases hi
  · rename_i hne
    refine .inr ⟨List.mem_of_getElem? hi, fun q => hne ?_⟩
    have h1 : (adr os)[a]? = some A := by simp [adr, e]
    have h2 : (adr os)[i]? = some A := by simp [adr, hi, q]
    have ha := (List.getElem?_eq_some_iff.mp h1).1
    exact (List.getElem?_inj ha nd).mp (h1.trans h2.symm)
theorem prefix_set {α : Type} : ∀ {l l' : List α} {a : Nat} {x : α}, l <+: l' → l.length ≤ a → l <+: l'.set a x
  | [], _, _, _, _, _ => List.nil_prefix
  | _ :: _, [], _, _, h, _ => h
  | y :: l, z :: l', 0, _, _, h => by simp at h
  | y :: l, z :: l', a + 1, x, h, h' => by
    rw [List.set_cons_succ]
    rw [List.cons_prefix_cons] at h ⊢
    exact ⟨h.1, prefix_set h.2 (by simpa using h')⟩
theorem notMods {a : Addr} (h : mainGlobals < a) : (a == sysModules) = false := by
  have h1 : mainGlobals = 3 := rfl
  have h2 : sysModules = 1 := rfl
  rw [h1] at h; rw [h2]
  exact beq_eq_false_iff_ne.mpr (fun e => by rw [e] at h; exact absurd h (by decide))
theorem Led.upd (l : Led S h₀ L m fs kp os σ h) {a : Nat} {A : Addr} {x x' : Obj} {o' : O} (hnf : S.P.nf ≤ a) (e : os[a]? = some (A, x)) (hs : Heap.SameBut A h h') (hx : h'.get? A = some x') (hr : OR S (adr os) o' x') :
    Led S h₀ L m fs kp (os.set a (A, x')) (σ.put a o') h' := by
  have hA := l.news (A, x) (List.mem_append_right _ (List.mem_of_getElem? e))
  have ad : adr (os.set a (A, x')) = adr os := adr_set e
  have adk : adr (kp ++ os.set a (A, x')) = adr (kp ++ os) := by
    unfold adr at ad ⊢; rw [List.map_append, List.map_append, ad]
  have ndo : (adr os).Nodup := by have := l.nd; rw [adr, List.map_append] at this; exact (List.nodup_append.mp this).2.1
  have apart : ∀ p ∈ kp, p.1 ≠ A := fun p hp q => by
    have := l.nd
    rw [adr, List.map_append] at this
    exact (List.nodup_append.mp this).2.2 p.1 (List.mem_map_of_mem hp) A (List.mem_map.mpr ⟨_, List.mem_of_getElem? e, rfl⟩) q
  refine ⟨l.fr.change hs hA.2.1 hA.2.2, fun p hp => ?_, by rw [adk]; exact l.nd, by rw [ad]; exact l.objs.set hr a, fun f hf => ?_, l.top, by rw [adk]; exact l.big, prefix_set l.frz.1 (Nat.le_trans l.frz.2 hnf), l.frz.2⟩
  · rcases List.mem_append.mp hp with hp | hp
    · have := l.news p (List.mem_append_left _ hp)
      exact ⟨(hs.2 _ (apart p hp)).trans this.1, this.2⟩
    · rcases mem_set_iff ndo e hp with rfl | ⟨hp, hne⟩
      · exact ⟨hx, hA.2⟩
      · have := l.news p (List.mem_append_right _ hp)
        exact ⟨(hs.2 _ hne).trans this.1, this.2⟩
  · have := l.outs f hf
    have hne : f.1 ≠ A := fun q => this.2.2.2 (q ▸ List.mem_map.mpr ⟨_, List.mem_append_right _ (List.mem_of_getElem? e), rfl⟩)
    exact ⟨this.1.sameBut hs hne, this.2.1, this.2.2.1, by rw [adk]; exact this.2.2.2⟩
theorem adr_new {os : List (Addr × Obj)} {p : Addr × Obj} : adr os <+: adr (os ++ [p]) := by rw [adr, adr, List.map_append]; exact List.prefix_append _ _
theorem Led.free (l : Led S h₀ L m fs kp os σ h) {q : Addr} (hf : h.get? q = none) : q ≠ L ∧ h₀.get? q = none ∧ q ∉ adr (kp ++ os) ∧ ∀ f ∈ fs, f.1 ≠ q := by
  refine ⟨fun e => ?_, ?_, fun hm => ?_, fun f hm e => ?_⟩
  · obtain ⟨oL, _, _, hL, _⟩ := l.fr.ns
    rw [e, hL] at hf; cases hf
  · cases e : h₀.get? q with
    | none => rfl
    | some y => rw [l.fr.keep _ _ e] at hf; cases hf
  · obtain ⟨p, hp, rfl⟩ := List.mem_map.mp hm
    rw [(l.news p hp).1] at hf; cases hf
  · obtain ⟨oL, _, _, hL, _⟩ := (l.outs f hm).1
    rw [e, hf] at hL; cases hL
theorem Led.new (l : Led S h₀ L m fs kp os σ h) {q : Addr} {x : Obj} {o : O} (k : ∀ b o, h.get? b = some o → h'.get? b = some o) (hf : h.get? q = none) (hq : mainGlobals < q) (hx : h'.get? q = some x) (hr : OR S (adr os) o x) :
    Led S h₀ L m fs kp (os ++ [(q, x)]) (σ.push o) h' := by
  have pf : adr os <+: adr (os ++ [(q, x)]) := adr_new
  obtain ⟨q1, q2, q3, q4⟩ := l.free hf
  have adk : adr (kp ++ (os ++ [(q, x)])) = adr (kp ++ os) ++ [q] := by simp [adr]
  refine ⟨l.fr.keptAll k, fun p hp => ?_, ?_, (l.objs.mono fun _ _ e => e.mono S pf).append (.one (hr.mono S pf)), fun f hf => ?_, l.top, ?_, l.frz.1.trans (List.prefix_append _ _), l.frz.2⟩
  · rw [← List.append_assoc] at hp
    rcases List.mem_append.mp hp with hp | hp
    · exact ⟨k _ _ (l.news p hp).1, (l.news p hp).2⟩
    · rw [List.mem_singleton.mp hp]
      exact ⟨hx, q1, q2⟩
  · rw [adk]
    refine List.nodup_append.mpr ⟨l.nd, by simp, fun b hb c hc e => ?_⟩
    rw [List.mem_singleton.mp hc] at e
    exact q3 (e ▸ hb)
  · have := l.outs f hf
    refine ⟨this.1.keeps k, this.2.1, this.2.2.1, ?_⟩
    rw [adk]
    intro hm
    rcases List.mem_append.mp hm with hm | hm
    · exact this.2.2.2 hm
    · exact q4 f hf (List.mem_singleton.mp hm)
  · rw [adk]
    intro b hb
    rcases List.mem_append.mp hb with hb | hb
    · exact l.big b hb
    · rw [List.mem_singleton.mp hb]; exact notMods hq
theorem Led.room (l : Led S h₀ L m fs kp os σ h) : mainGlobals < h.objs.size := let ⟨o, ho⟩ := l.top; Heap.lt_size (l.fr.keep _ _ ho)
theorem Led.len (l : Led S h₀ L m fs kp os σ h) : σ.length = (adr os).length := by simp [adr, l.objs.length]
theorem Led.ref_new (l : Led S h₀ L m fs kp os σ h) {p : Addr × Obj} : VR (adr (os ++ [p])) (.ref σ.length) (.ref p.1) :=
  ⟨p.1, by rw [l.len]; simp [adr], rfl⟩
end

set_option genInjectivity false in
structure Cx where
  A : Around
  env : Env
  h₀ : Heap
  L : Addr
  m : Str → Option Value
  fs : Fs
  kp : List (Addr × Obj)

abbrev Cx.led (c : Cx) (os : List (Addr × Obj)) (σ : H) (h : Heap) : Prop := Led S c.h₀ c.L c.m c.fs c.kp os σ h

noncomputable def Fly (_ : Sig) (c : Cx) (os : List (Addr × Obj)) (e : Value) (k : Nat) (h : Heap) : Prop := False

noncomputable def SM {α β : Type} (c : Cx) (ρ₀ : List Addr) (RV : List Addr → β → α → Prop) (t : Sem α) (x : X β) : Prop :=
  ∀ (os : List (Addr × Obj)) (σ : H) (s : Shared) (r : R β) (σ' : H), ρ₀ <+: adr os → c.led S os σ s.heap → x σ = some (r, σ') →
    ∀ (Q : α → Shared → Prop) (E : Value → Shared → Prop),
      (match r with
        | .ok b => ∀ os' h' tk a, adr os <+: adr os' → c.led S os' σ' h' → RV (adr os') b a → Q a { s with heap := h', toks := tk }
        | .err k => ∀ os' h' tk e, adr os <+: adr os' → c.led S os' σ' h' → Fly S c os' e k h' → E e { s with heap := h', toks := tk }) →
      wpAny (model S.prog S.w) c.A t Q E s

section
variable {S} {α β γ δ : Type} {c : Cx} {ρ : List Addr} {RV : List Addr → β → α → Prop} {RW : List Addr → δ → γ → Prop}
theorem SM.mono {t : Sem α} {x : X β} {ρ' : List Addr} (h : SM S c ρ RV t x) (k : ρ <+: ρ') : SM S c ρ' RV t x :=
  fun os σ s r σ' hp => h os σ s r σ' (k.trans hp)
theorem SM.pure {a : α} {b : β} (h : ∀ ρ', ρ <+: ρ' → RV ρ' b a) : SM S c ρ RV (Pure.pure a) (X.pure b) := by
  intro os σ s r σ' hp hl hx Q E hQ
  cases hx
  exact wpAny_pure (hQ os s.heap s.toks a (List.prefix_rfl) hl (h _ hp))
theorem SM.bind {t : Sem α} {x : X β} {f : α → Sem γ} {g : β → X δ} (h1 : SM S c ρ RV t x) (h2 : ∀ ρ' b a, ρ <+: ρ' → RV ρ' b a → SM S c ρ' RW (f a) (g b)) : SM S c ρ RW (t >>= f) (X.bind x g) := by
  intro os σ s r σ' hp hl hx Q E hQ
  unfold X.bind at hx
  split at hx
  · rename_i b σ₁ hb
    refine wpAny_bind (h1 os σ s _ _ hp hl hb _ _ fun os' h' tk a k l' hr => ?_)
    refine h2 _ b a (hp.trans k) hr os' σ₁ { s with heap := h', toks := tk } r σ' (List.prefix_rfl) l' hx Q E ?_
    cases r with
    | ok d => exact fun os'' h'' tk' a' k' l'' hr' => hQ os'' h'' tk' a' (k.trans k') l'' hr'
    | err e => exact fun os'' h'' tk' a' k' l'' hr' => hQ os'' h'' tk' a' (k.trans k') l'' hr'
  · rename_i k σ₁ hb
    cases hx
    exact wpAny_bind (h1 os σ s _ _ hp hl hb _ _ hQ)
  · cases hx
theorem SM.hold {t : Sem α} {x : X β} {vs : List Value} (h : SM S c ρ RV t x) : SM S c ρ RV (holding vs t) x :=
  fun os σ s r σ' hp hl hx Q E hQ => wpAny_holding (h os σ s r σ' hp hl hx Q E hQ)
theorem SM.stand {t : Sem α} {x : X β} {p : Pos} (h : SM S c ρ RV t x) : SM S c ρ RV (do standAt p; t) x :=
  fun os σ s r σ' hp hl hx Q E hQ => wpAny_bind (wpAny_standAt (h os σ s r σ' hp hl hx Q E hQ))
theorem SM.eq {t t' : Sem α} {x : X β} (h : SM S c ρ RV t x) (e : t' = t) : SM S c ρ RV t' x := e ▸ h
theorem SM.eqx {t : Sem α} {x x' : X β} (h : SM S c ρ RV t x) (e : x' = x) : SM S c ρ RV t x' := e ▸ h
theorem SM.none {t : Sem α} : SM S c ρ RV t (X.none : X β) := fun _ _ _ _ _ _ _ hx => by cases hx
end

end Mine

set_option autoImplicit false
namespace Mine
open PySem PySem.W PySem.Calls PyProof.Rows
variable {S : Sig} {c : Cx} {ρ : List Addr}

theorem get_size (h : Heap) : h.get? h.objs.size = none := by
  cases e : h.get? h.objs.size with
  | none => rfl
  | some o => exact absurd (Heap.lt_size e) (Nat.lt_irrefl _)
theorem Led.pushed {h₀ h : Heap} {L : Addr} {m : Str → Option Value} {fs : Fs} {kp os : List (Addr × Obj)} {σ : H} (l : Led S h₀ L m fs kp os σ h) {x : Obj} {o : O} (hr : OR S (adr os) o x) :
    Led S h₀ L m fs kp (os ++ [(h.objs.size, x)]) (σ.push o) (h.push x) :=
  l.new (fun _ _ e => Heap.get?_push_of_some _ e) (get_size h) l.room (Heap.get?_push_size _ (hr.notFreed S)) hr

theorem getM_inv {P : Prog} {σ : H} {a : Nat} {o : O} (h : σ.getM P a = some o) : σ.get a = some o ∧ P.nf ≤ a := by
  unfold H.getM at h
  split at h
  · rename_i q; exact ⟨h, q⟩
  · cases h
theorem dict_of {h : Heap} {A : Addr} {es' : List DictEntry} {n : Nat} {kvs : List (V × Value)} (h1 : h.get? A = some (dictOf es' n)) (k1 : KeysOf (vKind S.prog S.w) es'.toArray) (k2 : Pairs (vKind S.prog S.w) es' kvs)
    (k3 : (kvs.map (·.1)).Nodup) : h.DictOf (vKind S.prog S.w) A kvs := ⟨_, _, n, h1, ⟨rfl, rfl, rfl⟩, rfl, k1, by simpa using k2, k3⟩
theorem of_dict {h : Heap} {A : Addr} {kvs : List (V × Value)} (x : h.DictOf (vKind S.prog S.w) A kvs) :
    ∃ es' n, h.get? A = some (dictOf es' n) ∧ KeysOf (vKind S.prog S.w) es'.toArray ∧ Pairs (vKind S.prog S.w) es' kvs ∧ (kvs.map (·.1)).Nodup := by
  obtain ⟨⟨oc, od, odt, osl⟩, es, n, h1, ⟨c1, c2, c3⟩, hd, k1, k2, k3⟩ := x
  dsimp only at c1 c2 c3 hd
  subst c1 c2 c3 hd
  exact ⟨es.toList, n, by simpa using h1, by simpa using k1, k2, k3⟩

theorem small_bits {i : Int} (h : small i = true) : i.natAbs < 2 ^ 64 := by simpa [small] using h
theorem okS_len {s : Str} (h : okS s = true) : s.length ≤ lim := of_decide_eq_true (Bool.and_eq_true_iff.mp h).1
theorem okS_ok {s : Str} (h : okS s = true) : PyData.strOk s = true := (Bool.and_eq_true_iff.mp h).2
theorem lim_le : lim ≤ sizeLine := by rw [sizeLine_eq]; decide

theorem VR.ne_none {ρ : List Addr} {v : V} {x : Value} (h : VR ρ v x) : (x == Value.none) = decide (v = V.none) := by
  cases v with
  | none => cases h; rfl
  | bool b => cases h; rfl
  | int i => obtain ⟨t, rfl⟩ := h; rfl
  | str s => obtain ⟨t, rfl, _⟩ := h; rfl
  | ref a => obtain ⟨A, _, rfl⟩ := h; rfl
  | top i => exact h.elim

theorem VRs.mono {ρ ρ' : List Addr} (k : ρ <+: ρ') {xs : List V} {vs : List Value} (h : All2 (VR ρ) xs vs) : All2 (VR ρ') xs vs := h.mono fun _ _ e => e.mono k


theorem log2_small {i : Int} (h : small i = true) : i.natAbs.log2 < 9000 := by
  have h := small_bits h
  by_cases hz' : i.natAbs = 0
  · rw [hz']; decide
  · have := (Nat.log2_lt hz').mpr h
    lia
theorem twoInts_eq {a b : V} {f : Int → Int → Option (R V × H)} {r : R V × H} (h : twoInts a b f = some r) : ∃ x y, a = .int x ∧ b = .int y ∧ f x y = some r := by
  obtain ⟨x, hx, h1⟩ := onInt_eq h
  obtain ⟨y, hy, h2⟩ := onInt_eq h1
  exact ⟨x, y, hx, hy, h2⟩
theorem sm_binop {op : Operator} {x y : V} {a b : Value} (hx : VR ρ x a) (hy : VR ρ y b) : SM S c ρ VR (binaryOp op a b) (binop op x y) := by
  intro os σ s r σ' hp hl he Q E hQ
  cases op with
  | Add =>
    cases x with
    | int x =>
      have hq := onInt_eq (show onInt y _ = some (r, σ') from he)
      clear he
      obtain ⟨y, rfl, he⟩ := hq
      obtain ⟨t, rfl⟩ := hx; obtain ⟨u, rfl⟩ := hy
      cases he
      exact PySem.P.add_int (hQ os _ _ _ List.prefix_rfl hl ⟨_, rfl⟩)
    | _ => cases he
  | Sub =>
    have hq := twoInts_eq (show twoInts x y _ = some (r, σ') from he)
    clear he
    obtain ⟨x, y, rfl, rfl, he⟩ := hq
    obtain ⟨t, rfl⟩ := hx; obtain ⟨u, rfl⟩ := hy
    cases he
    exact PySem.P.sub_int (hQ os _ _ _ List.prefix_rfl hl ⟨_, rfl⟩)
  | FloorDiv =>
    have hq := twoInts_eq (show twoInts x y _ = some (r, σ') from he)
    clear he
    obtain ⟨x, y, rfl, rfl, he⟩ := hq
    obtain ⟨t, rfl⟩ := hx; obtain ⟨u, rfl⟩ := hy
    split at he
    · cases he
    · rename_i hy0
      split at he
      · rename_i hsm
        cases he
        exact floordiv_int hy0 (hQ os _ _ _ List.prefix_rfl hl ⟨_, rfl⟩) (.inl (PyProof.noPylong_of_log2 (log2_small hsm)))
      · cases he
  | Mod =>
    have hq := twoInts_eq (show twoInts x y _ = some (r, σ') from he)
    clear he
    obtain ⟨x, y, rfl, rfl, he⟩ := hq
    obtain ⟨t, rfl⟩ := hx; obtain ⟨u, rfl⟩ := hy
    split at he
    · cases he
    · rename_i hy0
      cases he
      exact mod_int' hy0 (hQ os _ _ _ List.prefix_rfl hl ⟨_, rfl⟩)
  | _ => cases he

abbrev EqR {β : Type} : List Addr → β → β → Prop := fun _ a b => a = b

theorem sm_truth {x : V} {a : Value} (hx : VR ρ x a) : SM S c ρ EqR (truthy a) (truth x) := by
  intro os σ s r σ' hp hl he Q E hQ
  unfold truth at he
  split at he
  · cases hx; cases he
    exact truthy_none (hQ os _ _ _ List.prefix_rfl hl rfl)
  · cases hx; cases he
    exact wpAny_truthy_bool (hQ os _ _ _ List.prefix_rfl hl rfl)
  · obtain ⟨t, rfl⟩ := hx; cases he
    refine PySem.P.truthy_int (hQ os _ _ _ List.prefix_rfl hl ?_)
    show decide _ = _
    rename_i i
    by_cases h : i = 0 <;> simp [h]
  · obtain ⟨t, rfl, hz⟩ := hx; cases he
    have hz' := okS_len hz
    have : lim < 2 ^ 63 := by decide
    refine PySem.P.truthy_str (by lia) (hQ os _ _ _ List.prefix_rfl hl ?_)
    show decide _ = _
    rename_i st
    by_cases h : st.length = 0
    · simp [h]
    · have : ((st.length : Int) != 0) = true := by simp; lia
      rw [this]; simp [h]
  · split at he
    · rename_i xs ha
      obtain ⟨A, o1, rfl, e1, e2, ⟨vs, n, rfl, hvs, hz⟩, h1, _⟩ := hl.ref hp ha hx
      cases he
      have : lim < 2 ^ 63 := by decide
      have hlen := hvs.length
      refine wpAny_truthy_list (PySem.IsL.isList (n := n) h1) (by simp; lia) (hQ os _ _ _ List.prefix_rfl hl ?_)
      show (!_) = _
      cases hvs <;> simp
    · rename_i xs ha
      obtain ⟨A, o1, rfl, e1, e2, ⟨vs, n, rfl, hvs, hz⟩, h1, _⟩ := hl.ref hp ha hx
      cases he
      have : lim < 2 ^ 63 := by decide
      have hlen := hvs.length
      refine truthy_tuple ⟨_, h1, rfl, n, rfl⟩ (by simp; lia) (hQ os _ _ _ List.prefix_rfl hl ?_)
      show (!_) = _
      cases hvs <;> simp
    · rename_i es ha
      obtain ⟨A, o1, rfl, e1, e2, ⟨es', n, kvs, rfl, k1, k2, k3, k4, hz⟩, h1, hL, hn, hb⟩ := hl.ref hp ha hx
      cases he
      have : lim < 2 ^ 63 := by decide
      have hlen := k4.length
      refine wpAny_truthy_dict hb (knd := vKind S.prog S.w) (kvs := kvs) (dict_of h1 k1 k2 k3) (by lia) (hQ os _ _ _ List.prefix_rfl hl ?_)
      show (!_) = _
      cases k4 <;> simp
    · cases he
  · cases he

theorem reads_data {h₀ h : Heap} {L : Addr} {m : Str → Option Value} {fs : Fs} {kp os : List (Addr × Obj)} {σ : H} (l : Led S h₀ L m fs kp os σ h) :
    ∀ (n : Nat) (x : V) (d : PyData) (a : Value), dataOf σ n x = some d → VR (adr os) x a → (∃ as, Reads h a d as) ∧ d.canLay0 = true ∧ d.depth ≤ n := by
  intro n
  induction n with
  | zero => intro x d a e; cases e
  | succ n ih =>
    intro x d a e hv
    have all : ∀ (xs : List V) (ds : List PyData) (vs : List Value), optAll (dataOf σ n) xs = some ds → All2 (VR (adr os)) xs vs → (∃ as, ReadsAll h vs ds as) ∧ PyData.canLayAll0 ds = true ∧ PyData.depthAll ds ≤ n := by
      intro xs
      induction xs with
      | nil => intro ds vs e h2; cases e; cases h2; exact ⟨⟨_, .nil⟩, rfl, Nat.zero_le _⟩
      | cons y ys ihy =>
        intro ds vs e h2
        unfold optAll at e
        split at e
        · rename_i d' ds' e1 e2
          cases e
          cases h2 with
          | cons h1 h2 =>
            obtain ⟨⟨as, r1⟩, c1, p1⟩ := ih _ _ _ e1 h1
            obtain ⟨⟨bs, r2⟩, c2, p2⟩ := ihy _ _ e2 h2
            exact ⟨⟨_, .cons r1 r2⟩, by simp only [PyData.canLayAll0, c1, c2, Bool.and_self], by simp only [PyData.depthAll]; lia⟩
        · cases e
    unfold dataOf at e
    cases x with
    | none => cases hv; cases e; exact ⟨⟨_, .none⟩, rfl, by simp [PyData.depth]⟩
    | bool b => cases hv; cases e; exact ⟨⟨_, .bool b⟩, rfl, by simp [PyData.depth]⟩
    | int i => obtain ⟨t, rfl⟩ := hv; cases e; exact ⟨⟨_, .int i t⟩, rfl, by simp [PyData.depth]⟩
    | str st => obtain ⟨t, rfl, hk⟩ := hv; cases e; exact ⟨⟨_, .str st t⟩, okS_ok hk, by simp [PyData.depth]⟩
    | ref b =>
      dsimp only at e
      split at e
      · rename_i xs ha
        obtain ⟨ds, e1, rfl⟩ := Option.map_eq_some_iff.mp e
        obtain ⟨A, o1, rfl, _, _, ⟨vs, k, rfl, hvs, _⟩, h1, _⟩ := l.ref List.prefix_rfl ha hv
        obtain ⟨⟨as, r⟩, c1, p1⟩ := all _ _ _ e1 hvs
        exact ⟨⟨_, .list h1 rfl rfl (by simpa using r)⟩, c1, by simp only [PyData.depth]; lia⟩
      · rename_i xs ha
        obtain ⟨ds, e1, rfl⟩ := Option.map_eq_some_iff.mp e
        obtain ⟨A, o1, rfl, _, _, ⟨vs, k, rfl, hvs, _⟩, h1, _⟩ := l.ref List.prefix_rfl ha hv
        obtain ⟨⟨as, r⟩, c1, p1⟩ := all _ _ _ e1 hvs
        exact ⟨⟨_, .tuple h1 rfl rfl (by simpa using r)⟩, c1, by simp only [PyData.depth]; lia⟩
      · cases e
    | top i => cases e

noncomputable def Room (c : Cx) : Prop := c.A.units + 100 < cLine

theorem X.bind_inv {α β : Type} {m : X α} {f : α → X β} {σ σ' : H} {r : R β} (h : X.bind m f σ = some (r, σ')) : (∃ a σ₁, m σ = some (.ok a, σ₁) ∧ f a σ₁ = some (r, σ')) ∨ (∃ k, m σ = some (.err k, σ') ∧ r = .err k) := by
  unfold X.bind at h
  split at h
  · rename_i a σ₁ e; exact .inl ⟨a, σ₁, e, h⟩
  · rename_i k σ₁ e; cases h; exact .inr ⟨k, e, rfl⟩
  · cases h

theorem key_is {ρ : List Addr} {x : V} {a : Value} (h : VR ρ x a) (hk : (isKey x || decide (x = .none)) = true) : keyIs x a = true := by
  cases x with
  | none => cases h; rfl
  | int i => obtain ⟨t, rfl⟩ := h; simp [keyIs, Value.isInt]
  | str st => obtain ⟨t, rfl, _⟩ := h; simp [keyIs, Value.isStrOf]
  | _ => simp [isKey] at hk
theorem valueAt_dget {ρ : List Addr} : ∀ {es : List (V × V)} {kvs : List (V × Value)}, All2 (PR ρ) es kvs → ∀ k, (valueAt kvs k = none ∧ dget es k = none) ∨ ∃ v x, dget es k = some v ∧ valueAt kvs k = some x ∧ VR ρ v x
  | _, _, .nil, k => .inl ⟨rfl, rfl⟩
  | _, _, .cons (a := (k1, v1)) (b := (k2, x2)) ⟨h1, h2⟩ hr, k => by
    dsimp only at h1 h2
    subst h1
    by_cases hk : k1 = k
    · exact .inr ⟨v1, x2, by simp [dget, hk], by simp [valueAt, hk], h2⟩
    · rcases valueAt_dget hr k with ⟨e1, e2⟩ | ⟨v, x, e1, e2, e3⟩
      · exact .inl ⟨by simpa [valueAt, List.find?_cons, hk] using e1, by simpa [dget, hk] using e2⟩
      · exact .inr ⟨v, x, by simpa [dget, hk] using e1, by simpa [valueAt, List.find?_cons, hk] using e2, e3⟩

theorem sm_contains (hr : Room c) {x y : V} {a b : Value} (hx : VR ρ x a) (hy : VR ρ y b) {neg : Bool} :
    SM S c ρ VR (compareOp (if neg then .NotIn else .In) a b) (X.bind (contains S.P x y) fun r => X.pure (.bool (neg ^^ r))) := by
  intro os σ s r σ' hp hl he Q E hQ
  have hx' := hx.mono hp
  have hy' := hy.mono hp
  have fin : ∀ b : Bool, contains S.P x y σ = some (.ok b, σ) → ∀ tk, Q (.bool (neg ^^ b)) { s with toks := tk } := fun b e tk => by
    unfold X.bind at he; rw [e] at he; cases he
    exact hQ os _ tk _ List.prefix_rfl hl rfl
  rcases X.bind_inv he with ⟨b', σ₁, e, he'⟩ | ⟨k, e, rfl⟩
  · unfold contains at e fin
    cases y with
    | ref k =>
      dsimp only at e fin
      cases hk : σ.get k with
      | none => rw [hk] at e; cases e
      | some o =>
        rw [hk] at e fin
        cases o with
        | list ys =>
          obtain ⟨A, o1, rfl, _, _, ⟨vs, n, rfl, hvs, _⟩, h1, _⟩ := hl.ref hp hk hy
          dsimp only [inList] at e fin
          cases e1 : dataOf σ 5 x with
          | none => rw [e1] at e; cases e
          | some d =>
            cases e2 : optAll (dataOf σ 4) ys with
            | none => rw [e1, e2] at e; cases e
            | some ds =>
              rw [e1, e2] at fin
              have fin := fun tk => fin _ rfl tk
              obtain ⟨⟨as, r1⟩, c1, p1⟩ := reads_data hl _ _ _ _ e1 hx'
              have ed : dataOf σ 5 (.ref k) = some (.list ds) := by show (match σ.get k with | some (.list xs) => _ | some (.tup xs) => _ | _ => _) = _; rw [hk]; dsimp only; rw [e2]; rfl
              obtain ⟨⟨bs, r2⟩, c2, p2⟩ := reads_data hl _ _ _ _ ed hy'
              have hu : c.A.units + 1 + min (PyData.depthAll ds) d.depth < cLine := by unfold Room at hr; have := Nat.min_le_right (PyData.depthAll ds) d.depth; lia
              cases neg with
              | true => exact SeqAt.notIn_list_reads r2 r1 c2 c1 hu (by simpa using fin s.toks)
              | false => exact SeqAt.in_list_reads r2 r1 c2 c1 hu (by simpa using fin s.toks)
        | tup ys =>
          obtain ⟨A, o1, rfl, _, _, ⟨vs, n, rfl, hvs, _⟩, h1, _⟩ := hl.ref hp hk hy
          dsimp only [inList] at e fin
          cases e1 : dataOf σ 5 x with
          | none => rw [e1] at e; cases e
          | some d =>
            cases e2 : optAll (dataOf σ 4) ys with
            | none => rw [e1, e2] at e; cases e
            | some ds =>
              rw [e1, e2] at fin
              have fin := fun tk => fin _ rfl tk
              obtain ⟨⟨as, r1⟩, c1, p1⟩ := reads_data hl _ _ _ _ e1 hx'
              have ed : dataOf σ 5 (.ref k) = some (.tuple ds) := by show (match σ.get k with | some (.list xs) => _ | some (.tup xs) => _ | _ => _) = _; rw [hk]; dsimp only; rw [e2]; rfl
              obtain ⟨⟨bs, r2⟩, c2, p2⟩ := reads_data hl _ _ _ _ ed hy'
              have hu : c.A.units + 1 + min (PyData.depthAll ds) d.depth < cLine := by unfold Room at hr; have := Nat.min_le_right (PyData.depthAll ds) d.depth; lia
              cases neg with
              | true => exact SeqAt.notIn_tuple_reads r2 r1 c2 c1 hu (by simpa using fin s.toks)
              | false => exact SeqAt.in_tuple_reads r2 r1 c2 c1 hu (by simpa using fin s.toks)
        | dict es =>
          dsimp only at e fin
          split at e
          · rename_i hkey
            rw [if_pos hkey] at fin
            have fin := fun tk => fin _ rfl tk
            obtain ⟨A, o1, rfl, _, _, ⟨es', n, kvs, rfl, k1, k2, k3, k4, hz⟩, h1, hL, hn, hb⟩ := hl.ref hp hk hy
            have hd : s.heap.DictOf (vKind S.prog S.w) A kvs := dict_of h1 k1 k2 k3
            have hq : (valueAt kvs x).isSome = (dget es x).isSome := by rcases valueAt_dget k4 x with ⟨e1, e2⟩ | ⟨v, x, e1, e2, e3⟩ <;> rw [e1, e2] <;> rfl
            cases neg with
            | true => exact wpAny_notIn_of (knd := vKind S.prog S.w) (key_is hx hkey) hb hd.mapOf (by rw [hq]; simpa using fin (s.toks + 1))
            | false => exact wpAny_in_of (knd := vKind S.prog S.w) (key_is hx hkey) hb hd.mapOf (by rw [hq]; simpa using fin (s.toks + 1))
          · cases e
        | _ => cases e
    | top i => exact hy.elim
    | str st => cases x <;> cases e
    | _ => cases e
  · unfold contains at e
    split at e
    · split at e
      · obtain ⟨_, _, e⟩ := Option.map_eq_some_iff.mp e; cases e
      · obtain ⟨_, _, e⟩ := Option.map_eq_some_iff.mp e; cases e
      · split at e <;> cases e
      · cases e
    · exact hy.elim
    · split at e <;> cases e
    · cases e

theorem deq_inv {h₀ h : Heap} {L : Addr} {m : Str → Option Value} {fs : Fs} {kp os : List (Addr × Obj)} {σ : H} (hl : Led S h₀ L m fs kp os σ h) {x y : V} {a b : Value} (hx' : VR (adr os) x a) (hy' : VR (adr os) y b) {q : Bool} (he : deq σ x y = some q) :
    ∃ d d2 as bs, Reads h a d as ∧ Reads h b d2 bs ∧ SeqAt.shaped d = true ∧ SeqAt.shaped d2 = true ∧ q = PyData.eqv d d2 := by
  unfold deq at he
  cases e1 : dataOf σ 5 x with
  | none => rw [e1] at he; cases he
  | some d =>
    cases e2 : dataOf σ 5 y with
    | none => rw [e1, e2] at he; cases he
    | some d2 =>
      rw [e1, e2] at he
      cases he
      obtain ⟨⟨as, r1⟩, c1, p1⟩ := reads_data hl _ _ _ _ e1 hx'
      obtain ⟨⟨bs, r2⟩, c2, p2⟩ := reads_data hl _ _ _ _ e2 hy'
      have s1 : SeqAt.shaped d = true := by simp only [SeqAt.shaped, c1, Bool.true_and, decide_eq_true_eq]; lia
      have s2 : SeqAt.shaped d2 = true := by simp only [SeqAt.shaped, c2, Bool.true_and, decide_eq_true_eq]; lia
      exact ⟨d, d2, as, bs, r1, r2, s1, s2, rfl⟩

theorem sm_cmpop (hr : Room c) {op : CmpOp} {x y : V} {a b : Value} (hx : VR ρ x a) (hy : VR ρ y b) : SM S c ρ VR (compareOp op a b) (cmpop S.P op x y) := by
  have hu : c.A.units + 64 < cLine := by unfold Room at hr; lia
  cases op with
  | In =>
    refine (sm_contains (neg := false) hr hx hy).eqx ?_
    funext σ; show X.bind _ _ σ = X.bind _ _ σ; congr 1
    funext b; simp
  | NotIn =>
    refine (sm_contains (neg := true) hr hx hy).eqx ?_
    funext σ; show X.bind _ _ σ = X.bind _ _ σ; congr 1
    funext b; simp
  | Eq =>
    intro os σ s r σ' hp hl he Q E hQ
    obtain ⟨q, e, he⟩ := Option.map_eq_some_iff.mp (show (deq σ x y).map _ = _ from he)
    cases he
    obtain ⟨d, d2, as, bs, r1, r2, s1, s2, rfl⟩ := deq_inv hl (hx.mono hp) (hy.mono hp) e
    exact eq_dataH r1 r2 s1 s2 hu (hQ os _ _ _ List.prefix_rfl hl rfl)
  | NotEq =>
    intro os σ s r σ' hp hl he Q E hQ
    obtain ⟨q, e, he⟩ := Option.map_eq_some_iff.mp (show (deq σ x y).map _ = _ from he)
    cases he
    obtain ⟨d, d2, as, bs, r1, r2, s1, s2, rfl⟩ := deq_inv hl (hx.mono hp) (hy.mono hp) e
    exact ne_dataH r1 r2 s1 s2 hu (hQ os _ _ _ List.prefix_rfl hl rfl)
  | Lt =>
    intro os σ s r σ' hp hl he Q E hQ
    unfold cmpop at he
    dsimp only at he
    split at he
    · obtain ⟨t, rfl⟩ := hx; obtain ⟨u, rfl⟩ := hy
      cases he
      exact PySem.P.lt_int (hQ os _ _ _ List.prefix_rfl hl rfl)
    · cases he
  | LtE =>
    intro os σ s r σ' hp hl he Q E hQ
    unfold cmpop at he
    dsimp only at he
    split at he
    · obtain ⟨t, rfl⟩ := hx; obtain ⟨u, rfl⟩ := hy
      cases he
      exact PySem.P.le_int (hQ os _ _ _ List.prefix_rfl hl rfl)
    · cases he
  | Gt =>
    intro os σ s r σ' hp hl he Q E hQ
    unfold cmpop at he
    dsimp only at he
    split at he
    · obtain ⟨t, rfl⟩ := hx; obtain ⟨u, rfl⟩ := hy
      cases he
      exact PySem.P.gt_int (hQ os _ _ _ List.prefix_rfl hl rfl)
    · cases he
  | GtE =>
    intro os σ s r σ' hp hl he Q E hQ
    unfold cmpop at he
    dsimp only at he
    split at he
    · obtain ⟨t, rfl⟩ := hx; obtain ⟨u, rfl⟩ := hy
      cases he
      exact PySem.P.ge_int (hQ os _ _ _ List.prefix_rfl hl rfl)
    · cases he
  | Is =>
    intro os σ s r σ' hp hl he Q E hQ
    unfold cmpop at he
    dsimp only at he
    split at he
    · cases hy
      cases he
      refine is_none_gen (hQ os _ _ _ List.prefix_rfl hl ?_)
      rw [hx.ne_none]; rfl
    · cases he
  | IsNot =>
    intro os σ s r σ' hp hl he Q E hQ
    unfold cmpop at he
    dsimp only at he
    split at he
    · cases hy
      cases he
      refine isnot_none_gen (hQ os _ _ _ List.prefix_rfl hl ?_)
      rw [hx.ne_none]
      show Value.bool _ = Value.bool _
      simp
    · cases he

end Mine

set_option autoImplicit false
namespace Mine
open PySem PySem.W PySem.Calls PyProof.Rows
variable {S : Sig} {c : Cx} {ρ : List Addr}

theorem idx_some {i : Int} {n j : Nat} (h : idx i n = some j) : 0 ≤ i ∧ i < n ∧ j = i.toNat := by
  unfold idx at h
  split at h
  · rename_i hc; cases h; exact ⟨hc.1, hc.2, rfl⟩
  · cases h
theorem put_at {prog : Program} {w : World} {A : Around} {E : Value → Shared → Prop} {s : Shared} {a : Addr} {vs : Array Value} {n : Nat} {i : Int} {t : Tok} {v : Value} {Q : Unit → Shared → Prop} (ho : s.heap.get? a = some (listOf vs n)) (h0 : 0 ≤ i) (hb : i < 2 ^ 63) (hi : i < vs.size)
    (hQ : Q () { s with heap := s.heap.update a (Obj.mapSeq (·.setIfInBounds i.toNat v)) }) : wpAny (model prog w) A (PySem.setItem (.ref a) (.int i t) v) Q E s := by
  have ty : s.TypeIs (.ref a) "list" := (PySem.IsL.isList (n := n) ho).typeIs
  have fits := fitsIndex_of h0 hb
  clear hb
  unfold PySem.setItem
  try with_reducible refine wpAny_holding ?_
  first | refine wpAny_bind (wpAny_pure ?_) | skip
  refine wpAny_bind (wpAny_sequenceKey ty (by decide) ?_)
  refine wpAny_bind (wpAny_callSpecial?_slot (name := Str.ofString "__setitem__") ty slot_list_setitem (wpAny_call_entry slot_list_setitem ty entry_list_setitem ?_ (args_list_setitem _ _ _)))
  show wpAny _ _ (Builtin.List.listSubscript? (.int i t) >>= _) _ _ s
  refine wpAny_bind (wpAny_listSubscript_int fits ?_)
  clear fits
  obtain ⟨j, rfl⟩ := Int.eq_ofNat_of_zero_le h0
  have there : vs[j]? = some vs[j] := Array.getElem?_eq_getElem (by lia)
  show wpAny _ _ ((seqItemAt a j >>= fun r => pure (r.map (j, ·))) >>= _) _ _ s
  refine wpAny_bind (wpAny_bind (wpAny_seqItemAt ho rfl (wpAny_pure ?_)))
  rw [there]
  show wpAny _ _ (setSeqItemAt a j v >>= _) _ _ s
  refine wpAny_bind (wpAny_setSeqItemAt ho rfl ?_)
  first
    | exact wpAny_pure ⟨.none, rfl, wpAny_pure hQ⟩
    | exact wpAny_bind (wpAny_pure (wpAny_pure ⟨.none, rfl, wpAny_pure hQ⟩))
theorem lim63 : (lim : Int) < 2 ^ 63 := by decide

theorem sm_getItem {value slice : Expr} {x y : V} {a b : Value} (hx : VR ρ x a) (hy : VR ρ y b)
    (hs : ∀ o i, subscripted slice false o i = operate [o, i] (PySem.getItem o i)) : SM S c ρ VR (subscriptTail value slice a b) (getItem S.P x y) := by
  intro os σ s r σ' hp hl he Q E hQ
  unfold getItem at he
  cases x with
  | ref k =>
    dsimp only at he
    cases hk : σ.get k with
    | none => rw [hk] at he; cases he
    | some o =>
      rw [hk] at he
      cases o with
      | list xs =>
        obtain ⟨A, o1, rfl, _, _, ⟨vs, n, rfl, hvs, hz⟩, h1, _⟩ := hl.ref hp hk hx
        cases y with
        | int i =>
          dsimp only at he
          obtain ⟨v, e, he⟩ := Option.map_eq_some_iff.mp he
          cases he
          obtain ⟨j, e1, e2⟩ := Option.bind_eq_some_iff.mp e
          obtain ⟨i0, i1, rfl⟩ := idx_some e1
          obtain ⟨w, hw, hr⟩ := hvs.get e2
          obtain ⟨t, rfl⟩ := hy
          have hL : s.heap.IsList A vs.toArray := PySem.IsL.isList (n := n) h1
          have := lim63
          exact tail_any hL.typeIs slot_list_getitem.lookup (wpAny_getItem_list hL i0 (by lia) (by simpa using hw) (hQ os _ _ _ List.prefix_rfl hl hr)) (hs _ _)
        | _ => cases he
      | tup xs =>
        obtain ⟨A, o1, rfl, _, _, ⟨vs, n, rfl, hvs, hz⟩, h1, _⟩ := hl.ref hp hk hx
        cases y with
        | int i =>
          dsimp only at he
          obtain ⟨v, e, he⟩ := Option.map_eq_some_iff.mp he
          cases he
          obtain ⟨j, e1, e2⟩ := Option.bind_eq_some_iff.mp e
          obtain ⟨i0, i1, rfl⟩ := idx_some e1
          obtain ⟨w, hw, hr⟩ := hvs.get e2
          obtain ⟨t, rfl⟩ := hy
          have hL : IsTup s.heap A vs.toArray := ⟨_, h1, rfl, n, rfl⟩
          have := lim63
          have hlen := hvs.length
          have hj : seqIndex? i vs.length = some i.toNat := by
            have h0 : ¬ i < 0 := by lia
            unfold seqIndex?
            simp only [h0, if_false]
            rw [if_pos (by simp; lia)]
          exact item_tupleT hL (by lia) (by lia) hj hw (hQ os _ _ _ List.prefix_rfl hl hr) (hs _ _)
        | _ => cases he
      | dict es =>
        obtain ⟨A, o1, rfl, _, _, ⟨es', n, kvs, rfl, k1, k2, k3, k4, hz⟩, h1, hL, hn, hb⟩ := hl.ref hp hk hx
        have he : (if isKey y = true then Option.map (fun v => (R.ok v, σ)) (dget es y) else none) = some (r, σ') := by cases y <;> exact he
        split at he
        · rename_i hkey
          obtain ⟨v, e, he⟩ := Option.map_eq_some_iff.mp he
          cases he
          have hd : s.heap.DictOf (vKind S.prog S.w) A kvs := dict_of h1 k1 k2 k3
          rcases valueAt_dget k4 y with ⟨_, e2⟩ | ⟨v', w, e1, e2, e3⟩
          · rw [e2] at e; cases e
          · rw [e] at e1; cases e1
            have hm := hd.mapOf
            exact tail_any hm.typeIs slot_dict_getitem.lookup (wpAny_getItem_of (knd := vKind S.prog S.w) (key_is hy (by rw [hkey]; rfl)) hm e2 (hQ os _ _ _ List.prefix_rfl hl e3)) (hs _ _)
        · cases he
      | _ => cases y <;> cases he
  | top i => exact hx.elim
  | _ => cases he

theorem dset_stored {ρ : List Addr} {k w : V} {x : Value} (hw : VR ρ w x) : ∀ {es : List (V × V)} {kvs : List (V × Value)}, All2 (PR ρ) es kvs → (kvs.map (·.1)).Nodup → All2 (PR ρ) (dset es k w) (stored kvs k x)
  | _, _, .nil, _ => by
    simp only [dset, stored, List.any_nil, Bool.false_eq_true, if_false, List.nil_append]
    exact .one ⟨rfl, hw⟩
  | _, _, .cons (a := (k1, v1)) (b := (k2, x2)) (as := es) (bs := kvs) ⟨h1, h2⟩ hr, nd => by
    dsimp only at h1 h2
    subst h1
    rw [List.map_cons, List.nodup_cons] at nd
    by_cases hk : k1 = k
    · subst hk
      have e : stored ((k1, x2) :: kvs) k1 x = (k1, x) :: kvs := by
        unfold stored
        rw [if_pos (by simp)]
        simp only [List.map_cons, if_true]
        rw [map_store_of_not_mem _ _ _ nd.1]
      rw [e]; simp only [dset, if_true]
      exact .cons ⟨rfl, hw⟩ hr
    · have ih := dset_stored (k := k) hw hr nd.2
      have e : stored ((k1, x2) :: kvs) k x = (k1, x2) :: stored kvs k x := by
        unfold stored
        simp only [List.any_cons, hk, decide_false, Bool.false_or, List.map_cons, if_false]
        split <;> simp
      rw [e]; simp only [dset, hk, if_false]
      exact .cons ⟨rfl, h2⟩ ih
theorem mapSeq_set {vs : List Value} {n j : Nat} {v : Value} : Obj.mapSeq (·.setIfInBounds j v) (listOf vs.toArray n) = listOf (vs.set j v).toArray n := by
  simp [Obj.mapSeq]

abbrev Any {α β : Type} : List Addr → β → α → Prop := fun _ _ _ => True

theorem sm_setItem {x y w : V} {a b v : Value} (hx : VR ρ x a) (hy : VR ρ y b) (hw : VR ρ w v) : SM S c ρ Any (PySem.setItem a b v) (setItem S.P x y w) := by
  intro os σ s r σ' hp hl he Q E hQ
  unfold setItem at he
  cases x with
  | ref k =>
    dsimp only at he
    cases hk : σ.getM S.P k with
    | none => rw [hk] at he; cases he
    | some o =>
      rw [hk] at he
      obtain ⟨hk', hnf⟩ := getM_inv hk
      cases o with
      | list xs =>
        obtain ⟨A, o1, rfl, eA, _, ⟨vs, n, rfl, hvs, hz⟩, h1, _⟩ := hl.ref hp hk' hx
        cases y with
        | int i =>
          dsimp only at he
          obtain ⟨j, e1, he⟩ := Option.map_eq_some_iff.mp he
          cases he
          obtain ⟨i0, i1, rfl⟩ := idx_some e1
          obtain ⟨t, rfl⟩ := hy
          have := lim63
          have hlen := hvs.length
          refine put_at h1 i0 (by lia) (by simp; lia) (hQ (os.set k (A, listOf (vs.set i.toNat v).toArray n)) _ s.toks () ?_ (hl.upd hnf eA (Heap.SameBut.update ..) ?_ ?_) trivial)
          · rw [adr_set eA]; exact List.prefix_rfl
          · rw [← mapSeq_set]; exact Heap.get?_update_self _ h1 rfl
          · exact ⟨vs.set i.toNat v, n, rfl, hvs.set (hw.mono hp) _, by simpa using hz⟩
        | _ => cases he
      | dict es =>
        obtain ⟨A, o1, rfl, eA, _, ⟨es', n, kvs, rfl, k1, k2, k3, k4, hz⟩, h1, hL, hn, hb⟩ := hl.ref hp hk' hx
        have he : (if isKey y = true then (if okO (.dict (dset es y w)) = true then some (R.ok (), σ.put k (.dict (dset es y w))) else none) else none) = some (r, σ') := by cases y <;> exact he
        split at he
        · rename_i hkey
          split at he
          · rename_i hok
            cases he
            have hok : (dset es y w).length ≤ lim := of_decide_eq_true hok
            have hd : s.heap.DictOf (vKind S.prog S.w) A kvs := dict_of h1 k1 k2 k3
            refine wpAny_setItem_pairs (knd := vKind S.prog S.w) (key_is hy (by rw [hkey]; rfl)) hd (fun h' hd' hs' => ?_) ?_
            · obtain ⟨es'', n', g1, g2, g3, g4⟩ := of_dict hd'
              refine hQ (os.set k (A, dictOf es'' n')) _ _ () ?_ (hl.upd hnf eA hs' g1 ?_) trivial
              · rw [adr_set eA]; exact List.prefix_rfl
              · exact ⟨es'', n', _, rfl, g2, g3, g4, dset_stored (hw.mono hp) k4 k3, hok⟩
            · have := k4.length; exact Nat.le_trans (by lia) lim_le
          · cases he
        · cases he
      | _ => cases y <;> cases he
  | _ => cases he

theorem sm_newList {xs : List V} {vs : List Value} (h : All2 (VR ρ) xs vs) : SM S c ρ VR (newList vs) (alloc (.list xs)) := by
  intro os σ s r σ' hp hl he Q E hQ
  unfold alloc at he
  split at he
  · rename_i hk
    cases he
    have hk : xs.length ≤ lim := of_decide_eq_true hk
    refine wpAny_newObj_type (hQ (os ++ [(_, listOf vs.toArray 0)]) _ s.toks _ adr_new (hl.pushed (o := .list xs) ⟨vs, 0, rfl, VRs.mono hp h, hk⟩) (hl.ref_new (p := (_, _)))) ?_
    show vs.toArray.size ≤ sizeLine
    rw [List.size_toArray, ← h.length]; exact Nat.le_trans hk lim_le
  · cases he
theorem sm_newTuple {xs : List V} {vs : List Value} (h : All2 (VR ρ) xs vs) : SM S c ρ VR (newTuple vs) (alloc (.tup xs)) := by
  intro os σ s r σ' hp hl he Q E hQ
  unfold alloc at he
  split at he
  · rename_i hk
    cases he
    have hk : xs.length ≤ lim := of_decide_eq_true hk
    refine wpAny_newObj_type (hQ (os ++ [(_, tupOf vs.toArray 0)]) _ s.toks _ adr_new (hl.pushed (o := .tup xs) ⟨vs, 0, rfl, VRs.mono hp h, hk⟩) (hl.ref_new (p := (_, _)))) ?_
    show vs.toArray.size ≤ sizeLine
    rw [List.size_toArray, ← h.length]; exact Nat.le_trans hk lim_le
  · cases he
theorem keysOf_nil : KeysOf (vKind S.prog S.w) (#[] : Array DictEntry) := fun e he => by simp at he
theorem sm_newDict : SM S c ρ VR newDict (alloc (.dict [])) := by
  intro os σ s r σ' hp hl he Q E hQ
  cases he
  unfold newDict
  exact wpAny_newObj_type (hQ (os ++ [(_, dictOf [] 0)]) _ s.toks _ adr_new (hl.pushed (o := .dict []) ⟨[], 0, [], rfl, keysOf_nil, .nil, by simp, .nil, by decide⟩) (hl.ref_new (p := (_, _))))

end Mine

set_option autoImplicit false
namespace Mine
open PySem PySem.W PySem.Calls PyProof.Rows
variable {S : Sig} {c : Cx} {ρ : List Addr}

noncomputable def NsObj (o : Obj) (m : Str → Option Value) : Prop := ∃ es ep, o.data = .dict es ep ∧ StrKeys es ∧ ∀ name, nsFind es name = m name
theorem ns_obj {h : Heap} {a : Addr} {m : Str → Option Value} (x : h.Ns a m) : ∃ o, h.get? a = some o ∧ NsObj o m := let ⟨o, es, ep, h1, h2, h3, h4⟩ := x; ⟨o, h1, es, ep, h2, h3, h4⟩
theorem NsObj.ns {h : Heap} {a : Addr} {m : Str → Option Value} {o : Obj} (x : NsObj o m) (e : h.get? a = some o) : h.Ns a m := let ⟨es, ep, h2, h3, h4⟩ := x; ⟨o, es, ep, e, h2, h3, h4⟩

theorem Led.frames {h₀ h : Heap} {L : Addr} {m : Str → Option Value} {fs : Fs} {kp os : List (Addr × Obj)} {σ : H} (l : Led S h₀ L m fs kp os σ h) :
    ∃ F : List (Addr × Obj), (∀ f ∈ fs, ∃ o, (f.1, o) ∈ F ∧ NsObj o f.2) ∧ ∀ p ∈ F, h.get? p.1 = some p.2 ∧ p.1 ≠ L ∧ h₀.get? p.1 = none ∧ p.1 ∉ adr (kp ++ os) := by
  have hO := l.outs
  clear l
  induction fs with
  | nil => exact ⟨[], (fun f hf => (nomatch hf)), (fun p hp => (nomatch hp))⟩
  | cons f fs ih =>
    obtain ⟨F, h1, h2⟩ := ih fun g hg => hO g (.tail _ hg)
    have hf := hO f (.head _)
    obtain ⟨o, ho, hn⟩ := ns_obj hf.1
    refine ⟨(f.1, o) :: F, fun g hg => ?_, fun p hp => ?_⟩
    · rcases List.mem_cons.mp hg with rfl | hg
      · exact ⟨o, .head _, hn⟩
      · obtain ⟨o', h3, h4⟩ := h1 g hg
        exact ⟨o', .tail _ h3, h4⟩
    · rcases List.mem_cons.mp hp with rfl | hp
      · exact ⟨ho, hf.2⟩
      · exact h2 p hp
theorem Led.wide {h₀ h : Heap} {L : Addr} {m : Str → Option Value} {fs : Fs} {kp os : List (Addr × Obj)} {σ : H} (l : Led S h₀ L m fs kp os σ h) :
    ∃ F : List (Addr × Obj), News h₀ L h (kp ++ os ++ F) ∧ (∀ p ∈ F, p.1 ∉ adr (kp ++ os)) ∧ ∀ {h' : Heap} {os' : List (Addr × Obj)} {σ' : H}, Fr h₀ L h' m → News h₀ L h' (kp ++ os' ++ F) → adr os' = adr os → S.fz <+: os' →
      All2 (fun o p => OR S (adr os) o p.2) σ' os' → Led S h₀ L m fs kp os' σ' h' := by
  obtain ⟨F, h1, h2⟩ := l.frames
  refine ⟨F, fun p hp => ?_, fun p hp => (h2 p hp).2.2.2, fun {h'} {os'} {σ'} fr nw ad fz ob => ?_⟩
  · rcases List.mem_append.mp hp with hp | hp
    · exact l.news p hp
    · exact ⟨(h2 p hp).1, (h2 p hp).2.1, (h2 p hp).2.2.1⟩
  · have adk : adr (kp ++ os') = adr (kp ++ os) := by
      have : os'.map (·.1) = os.map (·.1) := ad
      simp only [adr, List.map_append, this]
    refine ⟨fr, fun p hp => nw p (List.mem_append_left _ hp), by rw [adk]; exact l.nd, by rw [ad]; exact ob, fun f hf => ?_, l.top, by rw [adk]; exact l.big, fz, l.frz.2⟩
    obtain ⟨o, h3, h4⟩ := h1 f hf
    have := nw _ (List.mem_append_right _ h3)
    exact ⟨h4.ns this.1, this.2.1, this.2.2, by rw [adk]; exact (l.outs f hf).2.2.2⟩

structure AttrOK (S : Sig) (C : Addr) (nm : Str) : Prop where
  g : plainGet S.K C nm = true
  h : hasDictIn S.K C = true
  f : findIn S.K (.ref C) nm = some none
  s : findIn S.K (.ref C) "__setattr__" = some (some (.builtin "object.__setattr__"))
  p : plainOver S.K C = true
  t : takerIn S.K C nm = some none

structure TabOK (S : Sig) : Prop where
  nodup : S.T.Nodup
  attrs : ∀ n ∈ S.P.attrs, ∃ nm, S.T[n]? = some nm ∧ ∀ k C, S.cls k = some C → AttrOK S C nm

theorem T_inj (TV : TabOK S) {i j : Nat} {nm : Str} (h1 : S.T[i]? = some nm) (h2 : S.T[j]? = some nm) : i = j :=
  (List.getElem?_inj (List.getElem?_eq_some_iff.mp h1).1 TV.nodup).mp (h1.trans h2.symm)

theorem attrs_get (TV : TabOK S) {n : Nat} {nm : Str} (hn : S.T[n]? = some nm) : ∀ {es : List (Nat × V)} {es' : List DictEntry}, All2 (AR S ρ) es es' →
    (aget es n = none ∧ getL nm es' = some none) ∨ ∃ v x, aget es n = some v ∧ getL nm es' = some (some x) ∧ VR ρ v x
  | _, _, .nil => .inl ⟨rfl, rfl⟩
  | _, _, .cons (a := (k, v)) (b := e) (as := es) (bs := es') ⟨h1, nm', t, h2, h3, h4⟩ hr => by
    dsimp only at h1 h2 h4
    have ih := attrs_get TV hn hr
    have hk : e.key.isStr nm = decide (k = n) := by
      rw [h3]
      show (nm' == nm) = _
      by_cases hkn : k = n
      · subst hkn; rw [h2] at hn; cases hn; simp
      · have : nm' ≠ nm := fun q => hkn (T_inj TV h2 (q ▸ hn))
        simp [hkn, this]
    have hrk : e.refKey = false := by unfold DictEntry.refKey; rw [h3]
    by_cases hkn : k = n
    · refine .inr ⟨v, e.val, by simp [aget, hkn], ?_, h4⟩
      simp [getL, hk, hkn]
    · rcases ih with ⟨e1, e2⟩ | ⟨v', x, e1, e2, e3⟩
      · refine .inl ⟨by simpa [aget, hkn] using e1, ?_⟩
        unfold getL at e2 ⊢
        simp only [List.find?_cons, hk, decide_eq_false hkn, List.any_cons, hrk, Bool.false_or]
        exact e2
      · refine .inr ⟨v', x, by simpa [aget, hkn] using e1, ?_, e3⟩
        unfold getL at e2 ⊢
        simp only [List.find?_cons, hk, decide_eq_false hkn, List.any_cons, hrk, Bool.false_or]
        exact e2

theorem attrs_set (TV : TabOK S) {n : Nat} {nm : Str} {hsh : Int} {t : Tok} {w : V} {x : Value} (hn : S.T[n]? = some nm) (hm : n ∈ S.P.attrs) (hw : VR ρ w x) : ∀ {es : List (Nat × V)} {es' : List DictEntry}, All2 (AR S ρ) es es' →
    All2 (AR S ρ) (aset es n w) (putL nm hsh (.str nm t) x es')
  | _, _, .nil => .one ⟨hm, nm, t, hn, rfl, hw⟩
  | _, _, .cons (a := (k, v)) (b := e) (as := es) (bs := es') ⟨h1, nm', t', h2, h3, h4⟩ hr => by
    dsimp only at h1 h2 h4
    have ih := attrs_set TV (hsh := hsh) (t := t) hn hm hw hr
    have hk : e.key.isStr nm = decide (k = n) := by
      rw [h3]
      show (nm' == nm) = _
      by_cases hkn : k = n
      · subst hkn; rw [h2] at hn; cases hn; simp
      · have : nm' ≠ nm := fun q => hkn (T_inj TV h2 (q ▸ hn))
        simp [hkn, this]
    by_cases hkn : k = n
    · subst hkn
      simp only [aset, if_true, putL, hk, decide_true]
      exact .cons ⟨h1, nm', t', h2, h3, hw⟩ hr
    · simp only [aset, if_neg hkn, putL, hk, decide_eq_false hkn, Bool.false_eq_true, if_false]
      exact .cons ⟨h1, nm', t', h2, h3, h4⟩ ih
theorem VR.handed {v : V} {x : Value} (h : VR ρ v x) : handedIn x = true := by
  cases v with
  | none => cases h; rfl
  | bool b => cases h; rfl
  | int i => obtain ⟨t, rfl⟩ := h; rfl
  | str s => obtain ⟨t, rfl, _⟩ := h; rfl
  | ref a => obtain ⟨A, _, rfl⟩ := h; rfl
  | top i => exact h.elim

theorem attrs_mem {n : Nat} {v : V} : ∀ {es : List (Nat × V)} {es' : List DictEntry}, All2 (AR S ρ) es es' → aget es n = some v → n ∈ S.P.attrs
  | _, _, .nil, e => by cases e
  | _, _, .cons (a := (k, w)) h hr, e => by
    simp only [aget] at e
    split at e
    · rename_i q; subst q; exact h.1
    · exact attrs_mem hr e
theorem upd_split {d : Addr} {o o' : Obj} : ∀ {pre post : List (Addr × Obj)}, (∀ p ∈ pre, p.1 ≠ d) → (∀ p ∈ post, p.1 ≠ d) → Upd d o o' (pre ++ (d, o) :: post) (pre ++ (d, o') :: post)
  | [], _, _, h2 => .head h2
  | p :: _, _, h1, h2 => .tail (h1 p (.head _)) (upd_split (fun q hq => h1 q (.tail _ hq)) h2)

noncomputable def TopIn (S : Sig) (c : Cx) : Prop := S.K.In c.h₀

theorem sm_getAttr (TV : TabOK S) (KX : TopIn S c) {x : V} {a : Value} {n : Nat} {nm : Str} {ex : Bool} (hn : S.T[n]? = some nm) (hx : VR ρ x a) : SM S c ρ VR (PySem.getAttr a nm ex) (getAttr x n) := by
  intro os σ s r σ' hp hl he Q E hQ
  unfold getAttr at he
  cases x with
  | ref k =>
    dsimp only at he
    cases hk : σ.get k with
    | none => rw [hk] at he; cases he
    | some o =>
      rw [hk] at he
      cases o with
      | inst cl d =>
        dsimp only at he
        obtain ⟨A, o1, rfl, _, _, ⟨C, D, hC, hD, rfl⟩, h1, _⟩ := hl.ref hp hk hx
        cases hd : σ.get d with
        | none => rw [hd] at he; cases he
        | some od =>
          rw [hd] at he
          cases od with
          | attrs es =>
            dsimp only at he
            obtain ⟨v, e, he⟩ := Option.map_eq_some_iff.mp he
            cases he
            obtain ⟨D', o2, _, eD, ⟨es', n', rfl, hes, hz⟩, h2, _⟩ := hl.at hd
            rw [hD] at eD; cases eD
            have hm : n ∈ S.P.attrs := attrs_mem hes e
            obtain ⟨nm', hn', hA⟩ := TV.attrs n hm
            rw [hn] at hn'; cases hn'
            have ok := hA _ _ hC
            rcases attrs_get TV hn hes with ⟨e1, _⟩ | ⟨v', w, e1, e2, e3⟩
            · rw [e1] at e; cases e
            · rw [e] at e1; cases e1
              have I : InstAt s.heap A ⟨.ref C, some D, .plain, #[]⟩ C (some (dictOf es' n')) := ⟨h1, rfl, rfl, h2⟩
              exact get_own (attr := none) hl.fr KX I ok.g ok.h ok.f rfl e2 e3.handed (hQ os _ _ _ List.prefix_rfl hl e3)
          | _ => cases he
      | _ => cases he
  | _ => cases he

theorem split_at {os : List (Addr × Obj)} {a : Nat} {p : Addr × Obj} (e : os[a]? = some p) : os = os.take a ++ p :: os.drop (a + 1) := by
  have h := (List.getElem?_eq_some_iff.mp e)
  obtain ⟨h1, h2⟩ := h
  rw [← h2, List.getElem_cons_drop, List.take_append_drop]
theorem nodup_split {pre post : List (Addr × Obj)} {D : Addr} {x : Obj} (h : (adr (pre ++ (D, x) :: post)).Nodup) : (∀ p ∈ pre, p.1 ≠ D) ∧ ∀ p ∈ post, p.1 ≠ D := by
  rw [adr, List.map_append, List.map_cons] at h
  obtain ⟨h1, h2, h3⟩ := List.nodup_append.mp h
  refine ⟨fun p hp q => h3 p.1 (List.mem_map_of_mem hp) D (.head _) q, fun p hp q => ?_⟩
  exact (List.nodup_cons.mp h2).1 (List.mem_map.mpr ⟨p, hp, q⟩)
theorem set_split {os : List (Addr × Obj)} {a : Nat} {p q : Addr × Obj} (e : os[a]? = some p) : os.set a q = os.take a ++ q :: os.drop (a + 1) := by
  rw [List.set_eq_take_append_cons_drop, if_pos (List.getElem?_eq_some_iff.mp e).1]

theorem sm_setAttr (TV : TabOK S) (KX : TopIn S c) {x w : V} {a v : Value} {n : Nat} {nm : Str} (hn : S.T[n]? = some nm) (hx : VR ρ x a) (hw : VR ρ w v) : SM S c ρ Any (PySem.setAttr a nm v) (setAttr S.P x n w) := by
  intro os σ s r σ' hp hl he Q E hQ
  unfold setAttr at he
  cases x with
  | ref k =>
    dsimp only at he
    cases hk : σ.get k with
    | none => rw [hk] at he; cases he
    | some o =>
      rw [hk] at he
      cases o with
      | inst cl d =>
        dsimp only at he
        obtain ⟨A, o1, rfl, _, _, ⟨C, D, hC, hD, rfl⟩, h1, _⟩ := hl.ref hp hk hx
        cases hd : σ.getM S.P d with
        | none => rw [hd] at he; cases he
        | some od =>
          rw [hd] at he
          obtain ⟨hd', hnf⟩ := getM_inv hd
          cases od with
          | attrs es =>
            dsimp only at he
            split at he
            · rename_i hmem
              cases he
              have hm : n ∈ S.P.attrs := by simpa using (Bool.and_eq_true_iff.mp hmem).1
              obtain ⟨D', o2, eD', eD, ⟨es', n', rfl, hes, hz⟩, h2, hDL, _⟩ := hl.at hd'
              rw [hD] at eD; cases eD
              obtain ⟨nm', hn', hA⟩ := TV.attrs n hm
              rw [hn] at hn'; cases hn'
              have ok := hA _ _ hC
              have I : InstAt s.heap A ⟨.ref C, some D, .plain, #[]⟩ C (some (dictOf es' n')) := ⟨h1, rfl, rfl, h2⟩
              obtain ⟨F, N, NF, back⟩ := hl.wide
              have hlk : (getL nm es').isSome = true := by rcases attrs_get TV hn hes with ⟨_, e2⟩ | ⟨v', w, _, e2, _⟩ <;> rw [e2] <;> rfl
              have hlen := hes.length
              have hmem' := Bool.and_eq_true_iff.mp hmem
              have hz' : (aset es n w).length ≤ 100 := of_decide_eq_true hmem'.2
              have hset := attrs_set TV (hsh := PyData.keyHash S.w.params nm) (t := s.toks + 1) hn hm (hw.mono hp) hes
              have hlen' := hset.length
              have hsp : ∀ q : Obj, c.kp ++ os.set d (D, q) ++ F = (c.kp ++ os.take d) ++ (D, q) :: (os.drop (d + 1) ++ F) := fun q => by
                rw [set_split eD']; simp
              have hsp0 : c.kp ++ os ++ F = (c.kp ++ os.take d) ++ (D, dictOf es' n') :: (os.drop (d + 1) ++ F) := by
                conv => lhs; rw [split_at eD']
                simp
              have nd := hl.nd
              rw [split_at eD', ← List.append_assoc] at nd
              obtain ⟨nd1, nd2⟩ := nodup_split nd
              have hDm : D ∈ adr (c.kp ++ os) := List.mem_map.mpr ⟨_, List.mem_append_right _ (List.mem_of_getElem? eD'), rfl⟩
              have U : Upd D (dictOf es' n') (dictOf (putL nm (PyData.keyHash S.w.params nm) (.str nm (s.toks + 1)) v es') (putN nm es' n')) (c.kp ++ os ++ F) (c.kp ++ os.set d (D, dictOf (putL nm (PyData.keyHash S.w.params nm) (.str nm (s.toks + 1)) v es') (putN nm es' n')) ++ F) := by
                rw [hsp, hsp0]
                refine upd_split nd1 fun p hp => ?_
                rcases List.mem_append.mp hp with hp | hp
                · exact nd2 p hp
                · exact fun q => NF p hp (q ▸ hDm)
              refine set_dict hl.fr KX N I rfl ok.s ok.p ok.t ok.h hlk rfl U (by lia) fun h' F' N' => ?_
              refine hQ _ _ _ () ?_ (back F' N' (adr_set eD') (prefix_set hl.frz.1 (Nat.le_trans hl.frz.2 hnf)) (hl.objs.set (a := .attrs (aset es n w)) (b := (D, dictOf (putL nm (PyData.keyHash S.w.params nm) (.str nm (s.toks + 1)) v es') (putN nm es' n'))) ⟨_, _, rfl, hset, hz'⟩ d)) trivial
              rw [adr_set eD']; exact List.prefix_rfl
            · cases he
          | _ => cases he
      | _ => cases he
  | _ => cases he

end Mine

set_option autoImplicit false
namespace Mine
open PySem PySem.W PySem.Calls PyProof.Rows
variable {S : Sig} {c : Cx} {ρ : List Addr}

theorem intsAre_of {ρ : List Addr} : ∀ {xs : List V} {vs : List Value} {ns : List Int}, All2 (VR ρ) xs vs → intsOf xs = some ns → IntsAre vs ns
  | _, _, ns, .nil, e => by cases e; exact .nil
  | _, _, ns, .cons (a := x) (b := v) h hr, e => by
    cases x with
    | int i =>
      simp only [intsOf] at e
      obtain ⟨ms, e1, rfl⟩ := Option.map_eq_some_iff.mp e
      obtain ⟨t, rfl⟩ := h
      exact .cons _ _ (intsAre_of hr e1)
    | _ => cases e
theorem vr_ints {ρ : List Addr} : ∀ {vs : List Value} {ns : List Int}, IntsAre vs ns → All2 (VR ρ) (ns.map V.int) vs
  | _, _, .nil => .nil
  | _, _, .cons n t h => .cons ⟨t, rfl⟩ (vr_ints h)
theorem intsOf_length : ∀ {xs : List V} {ns : List Int}, intsOf xs = some ns → ns.length = xs.length
  | [], _, e => by cases e; rfl
  | x :: xs, ns, e => by
    cases x with
    | int i =>
      simp only [intsOf] at e
      obtain ⟨ms, e1, rfl⟩ := Option.map_eq_some_iff.mp e
      simp [intsOf_length e1]
    | _ => cases e

noncomputable def biVal : Bi → Value
  | .len => .builtin "len"
  | .sorted => .builtin "sorted"
  | .list => .type "list"
  | .tuple => .type "tuple"
  | .str => .type "str"
  | .int => .type "int"
  | .range => .type "range"
  | .min => .builtin "min"
  | .max => .builtin "max"
  | .set => .type "set"
  | .zip => .type "zip"

theorem sort_new {A : Around} {E : Value → Shared → Prop} {s : Shared} {vs : List Value} {ns : List Int} {Q : Value → Shared → Prop} (hI : IntsAre vs ns) (h64 : vs.length < 64)
    (h : ∀ h' (out : List Value) n, (∀ b o, s.heap.get? b = some o → h'.get? b = some o) → h'.get? s.heap.objs.size = some (W.listOf out.toArray n) → IntsAre out (sortI ns) → Q (.ref s.heap.objs.size) { s with heap := h' }) :
    wpAny (model S.prog S.w) A (call (.builtin "list.sort") [.ref s.heap.objs.size]) (fun _ s' => Q (.ref s.heap.objs.size) s') E { s with heap := s.heap.push (W.listOf vs.toArray 0) } := by
  have hoL : (s.heap.push (W.listOf vs.toArray 0)).get? s.heap.objs.size = some (seqObj "list" vs.toArray 0) := Heap.get?_push_size _ rfl
  refine wpAny_call_entry slot_list_sort ⟨_, hoL, rfl⟩ entry_list_sort (list_sort_tree hoL hI h64 fun out ns' a1 a2 a3 => ⟨_, rfl, ?_⟩) (args_list_sort _)
  have e : ns' = sortI ns := sorted_unique (a2.trans (sortI_perm ns).symm) a3 (sortI_sorted ns)
  subst e
  obtain ⟨n, hn⟩ := sortedHeap_at (h := s.heap.push (W.listOf vs.toArray 0)) (out := out) hoL
  refine h _ out.toList n (fun b o hb => ?_) (by simpa using hn) a1
  have hlt := Heap.lt_size hb
  rw [sortedHeap_old (Nat.ne_of_lt hlt) (by rw [Heap.size_push]; exact Nat.lt_succ_of_lt hlt)]
  exact Heap.get?_push_of_some _ hb

theorem dict_hint {prog : Program} {w : World} {A : Around} {E : Value → Shared → Prop} {s : Shared} {d : Addr} {Q : Bool → Shared → Prop} (ty : s.TypeIs (.ref d) "dict") (h : Q false s) : wpAny (model prog w) A (Builtin.List.listLengthHint (.ref d)) Q E s := by
  unfold Builtin.List.listLengthHint
  refine wpAny_bind (wpAny_specialOf ty PySem.F.slot_dict_len.lookup ?_)
  generalize hid : ("dict.__len__" : String) = id0
  wp_delta
  rw [show splitId id0 = some ("dict", "__len__") from by subst hid; decide +kernel]
  subst hid
  refine wpAny_bind (wpAny_isInstance (T := "dict") (b := true) ty (by rw [isSubtype_type]; kernel_rfl) ?_)
  refine wpAny_ite_split (fun q => absurd q (by decide)) fun _ => ?_
  refine wpAny_ite_split (fun _ => wpAny_bind (wpAny_typeOf ty (wpAny_pure h))) fun q => absurd (by decide +kernel) q
theorem gather_dict {prog : Program} {w : World} {K : Type} [DecidableEq K] {knd : KeyKind prog w K} {A : Around} {E : Value → Shared → Prop} {s : Shared} {d : Addr} {kvs : List (K × Value)} {ep : Nat} {R : List Value → Shared → Prop} (lo : (d == sysModules) = false) (hh : A.handled = none) (hat : s.heap.DictAt knd d kvs ep) (hn : kvs.length ≤ sizeLine)
    (h : ∀ (h' : Heap) (tk : Nat) (acc : Array Value), (∀ b o, s.heap.get? b = some o → h'.get? b = some o) → ItemsOf (fun i v => ∃ k x, kvs[i]? = some (k, x) ∧ knd.is k v = true) acc kvs.length → R acc.toList { s with heap := h', toks := tk }) :
    wpAny (model prog w) A (collect (.ref d)) R E s := by
  have old : d < s.heap.objs.size := hat.lt_size
  unfold collect
  refine wpAny_bind (wpAny_runValue (codeAny_builtin entry_proto_collect' ?_))
  rw [Around.under_plainId PySem.F.plain_proto_collect _]
  show wpAny _ A.in1 (newList [] >>= fun l => again (.builtin "list.__iadd__" ⟨[l, .ref d], []⟩)) _ _ s
  refine wpAny_bind (wpAny_newObj_type ?_)
  refine wpAny_pure ⟨plainId_quiet PySem.F.plain_list_iadd _, codeAny_builtin entry_list_iadd' ?_⟩
  rw [Around.under_plainId PySem.F.plain_list_iadd _]
  generalize hN : s.heap.objs.size = N
  have hN1 : (s.heap.push { cls := .type "list", data := .seq ([] : List Value).toArray }).get? N = some { cls := .type "list", data := .seq #[] } := by rw [← hN]; exact Heap.get?_push_size _ rfl
  have keep1 : ∀ b o, s.heap.get? b = some o → (s.heap.push { cls := .type "list", data := .seq ([] : List Value).toArray }).get? b = some o := fun b o e => Heap.get?_push_of_some _ e
  have hat1 := hat.push { cls := .type "list", data := .seq ([] : List Value).toArray }
  generalize s.heap.push { cls := .type "list", data := .seq ([] : List Value).toArray } = g1 at *
  show wpAny _ A.in1 (Builtin.List.listExtendWith (.ref N) (.ref d) (.ref N)) _ _ _
  have hdN : N ≠ d := hN ▸ Nat.ne_of_gt old
  unfold Builtin.List.listExtendWith
  refine wpAny_bind (wpAny_typeOf (T := "dict") (s := { s with heap := g1 }) hat1.dictOf.typeIs ?_)
  have h1 : Builtin.List.listSameRef (.ref N) (.ref d) = false := by simp [Builtin.List.listSameRef, hdN]
  have n1 : (Value.type "dict" == Value.type "list") = false := by decide
  have n2 : (Value.type "dict" == Value.type "tuple") = false := by decide
  simp only [h1, n1, n2, Bool.or_false, Bool.false_eq_true, if_false]
  refine wpAny_bind (wpAny_pyIter_dict (s := { s with heap := g1 }) lo hat1 ?_)
  generalize hI : g1.objs.size = I
  have hIN : N ≠ I := hI ▸ Nat.ne_of_lt (Heap.lt_size hN1)
  have hId : d ≠ I := hI ▸ Nat.ne_of_lt hat1.lt_size
  have W := Walks.dictKeys (prog := prog) (w := w) (A := A.in1) (knd := knd) hh I d hId kvs ep
  have hN2 := Heap.get?_push_of_some { cls := .type "dict_keyiterator", data := .fields #[.ref d, .int 0 0, .int kvs.length 0, .int ep 0] } hN1
  have hat2 := hat1.push { cls := .type "dict_keyiterator", data := .fields #[.ref d, .int 0 0, .int kvs.length 0, .int ep 0] }
  have st2 : (g1.push { cls := .type "dict_keyiterator", data := .fields #[.ref d, .int 0 0, .int kvs.length 0, .int ep 0] }).IsKeyIter I d 0 kvs.length ep := ⟨_, by rw [← hI]; exact Heap.get?_push_size _ rfl, rfl, rfl⟩
  have keep2 : ∀ b o, g1.get? b = some o → (g1.push { cls := .type "dict_keyiterator", data := .fields #[.ref d, .int 0 0, .int kvs.length 0, .int ep 0] }).get? b = some o := fun b o e => Heap.get?_push_of_some _ e
  generalize g1.push { cls := .type "dict_keyiterator", data := .fields #[.ref d, .int 0 0, .int kvs.length 0, .int ep 0] } = g2 at *
  have hNf : N ∉ [I, d] := by simp only [List.mem_cons, List.not_mem_nil, or_false, not_or]; exact ⟨hIN, hdN⟩
  have loop : ∀ (R' : Result → Shared → Prop) (g : Heap) (c₁ tk : Nat), (∀ (h' : Heap) (tk : Nat) (acc : Array Value) (c' : Nat), (∀ b o, s.heap.get? b = some o → h'.get? b = some o) → h'.get? N = some { cls := .type "list", dict := none, data := .seq acc c', slots := #[] } → ItemsOf (fun i v => ∃ k x, kvs[i]? = some (k, x) ∧ knd.is k v = true) acc kvs.length → R' (.ok (.ret (.ref N))) { s with heap := h', toks := tk }) →
      g.IsKeyIter I d 0 kvs.length ep → g.DictAt knd d kvs ep → (∀ b o, b ≠ N → g2.get? b = some o → g.get? b = some o) → g.get? N = some { cls := .type "list", data := .seq #[] c₁ } →
      codeAny (model prog w) A (.builtin "list.extend.loop" ⟨[.ref N, .ref I, .ref N], []⟩) R' { s with heap := g, toks := tk } := by
    intro R' g c₁ tk hR i1 i2 kg gN
    refine codeAny_extend_loopS W.toS hn N hNf (.ref N) kvs.length 0 _ #[] c₁ rfl (Nat.zero_le _) ⟨i1, i2⟩ gN (ItemsOf.nil _) fun s' acc c' hm hS' hacc => ?_
    rw [Moved.eq_with hm]
    refine hR s'.heap s'.toks acc c' (fun b o e => hm.heap b o (fun hmem => ?_) (kg b o (fun q => ?_) (keep2 b o (keep1 b o e)))) hS' hacc
    · rcases List.mem_cons.mp hmem with q | hmem
      · exact absurd (Heap.lt_size e) (by rw [hN, q]; exact Nat.lt_irrefl _)
      · exact absurd (Heap.lt_size (keep1 b o e)) (by rw [hI, List.mem_singleton.mp hmem]; exact Nat.lt_irrefl _)
    · exact absurd (Heap.lt_size e) (by rw [hN, q]; exact Nat.lt_irrefl _)
  refine wpAny_bind (wpAny_holding (dict_hint (s := { s with heap := g2 }) hat2.dictOf.typeIs ?_))
  refine wpAny_ite_split (fun _ => ?_) fun _ => wpAny_pure ⟨plainId_quiet PySem.F.plain_extend_loop _, loop _ g2 0 s.toks (fun h' tk acc c' hk hS' hacc => ?_) st2 hat2 (fun _ _ _ e => e) hN2⟩
  · refine wpAny_bind (wpAny_rule (wpAny_bind ?_))
    show wpAny _ _ (updateSeq N (·.push .none) >>= fun _ => updateSeq N (·.pop)) _ _ _
    refine wpAny_bind (wpAny_updateSeq hN2 rfl ?_)
    have hN3 := Heap.get?_update_self (Obj.mapSeq (·.push Value.none)) hN2 rfl
    refine wpAny_updateSeq (hz := by seq_fits) hN3 rfl ?_
    have hN4 := Heap.get?_update_self (Obj.mapSeq (·.pop)) hN3 rfl
    have kp4 : ∀ b o, b ≠ N → g2.get? b = some o → ((g2.update N (Obj.mapSeq (·.push Value.none))).update N (Obj.mapSeq (·.pop))).get? b = some o := fun b o hb e => (Heap.get?_update_other _ _ (Ne.symm hb)).trans ((Heap.get?_update_other _ _ (Ne.symm hb)).trans e)
    refine wpAny_pure ⟨plainId_quiet PySem.F.plain_extend_loop _, loop _ _ _ s.toks (fun h' tk acc c' hk hS' hacc => ?_) ?_ ?_ kp4 hN4⟩
    · show wpAny _ A (load N >>= _) _ _ _
      exact wpAny_bind (wpAny_load hS' (wpAny_pure (h h' tk acc hk hacc)))
    · exact st2.at fun o e => kp4 I o (Ne.symm hIN) e
    · exact hat2.at' fun o e => kp4 d o (Ne.symm hdN) e
  · show wpAny _ A (load N >>= _) _ _ _
    exact wpAny_bind (wpAny_load hS' (wpAny_pure (h h' tk acc hk hacc)))
theorem sorted_by {A : Around} {E : Value → Shared → Prop} {s : Shared} {r : Addr} {Q : Value → Shared → Prop}
    (hc : ∀ R : List Value → Shared → Prop, (∀ h' tk vs, (∀ b o, s.heap.get? b = some o → h'.get? b = some o) → (∃ ns, IntsAre vs ns ∧ vs.length < 64 ∧ ∀ h'' out n, (∀ b o, h'.get? b = some o → h''.get? b = some o) → h''.get? h'.objs.size = some (W.listOf (List.toArray out) n) → IntsAre out (sortI ns) → Q (.ref h'.objs.size) { s with heap := h'', toks := tk }) → R vs { s with heap := h', toks := tk }) → wpAny (model S.prog S.w) A.in1 (collect (.ref r)) R (fun e s' => E e s') s) :
    wpAny (model S.prog S.w) A (call (.builtin "sorted") [.ref r]) Q E s := by
  refine call_function_entry kind_sorted plain_sorted entry_sorted (args_sorted1 _) ?_
  unfold Builtin.«sorted»
  refine wpAny_bind (m := checkCount "sorted" 1 1 _) (wpAny_pure ?_)
  refine wpAny_bind (hc _ fun h' tk vs hk hv => ?_)
  obtain ⟨ns, hI, h64, hq⟩ := hv
  refine wpAny_bind (wpAny_newList ?_ (by rw [sizeLine_eq]; lia))
  refine wpAny_bind (wpAny_holding (wpAny_mono (sort_new (s := { s with heap := h', toks := tk }) (Q := Q) hI h64 fun h'' out n k1 k2 k3 => hq h'' out n k1 k2 k3) (fun _ s' x => ?_) fun _ _ e => e))
  exact wpAny_pure ⟨_, rfl, x⟩

theorem All2.inv1 {α β : Type} {R : α → β → Prop} {a : α} {bs : List β} (h : All2 R [a] bs) : ∃ b, bs = [b] ∧ R a b := by
  cases h with
  | cons h1 h2 => cases h2; exact ⟨_, rfl, h1⟩
theorem All2.inv2 {α β : Type} {R : α → β → Prop} {a a' : α} {bs : List β} (h : All2 R [a, a'] bs) : ∃ b b', bs = [b, b'] ∧ R a b ∧ R a' b' := by
  cases h with
  | cons h1 h2 => obtain ⟨b', rfl, h3⟩ := h2.inv1; exact ⟨_, _, rfl, h1, h3⟩
theorem sortI_length (l : List Int) : (sortI l).length = l.length := (sortI_perm l).length_eq
theorem Led.keepNew {h₀ h h' h'' : Heap} {L : Addr} {m : Str → Option Value} {fs : Fs} {kp os : List (Addr × Obj)} {σ : H} (l : Led S h₀ L m fs kp os σ h) {x : Obj} {o : O} (k1 : ∀ b o, h.get? b = some o → h'.get? b = some o)
    (k2 : ∀ b o, h'.get? b = some o → h''.get? b = some o) (hx : h''.get? h'.objs.size = some x) (hr : OR S (adr os) o x) : Led S h₀ L m fs kp (os ++ [(h'.objs.size, x)]) (σ.push o) h'' :=
  (l.keep k1).new k2 (get_size h') (l.keep k1).room hx hr

theorem keys_ints {ρ : List Addr} : ∀ {es : List (V × V)} {kvs : List (V × Value)}, All2 (PR ρ) es kvs → ∀ {vs : List Value} {ns : List Int}, vs.length = kvs.length → (∀ (j : Nat) v, vs[j]? = some v → ∃ k x, kvs[j]? = some (k, x) ∧ keyIs k v = true) →
    intsOf (es.map (·.1)) = some ns → IntsAre vs ns
  | _, _, .nil, vs, ns, hl, _, e => by cases e; cases vs with | nil => exact .nil | cons _ _ => simp at hl
  | _, _, .cons (a := (k1, v1)) (b := (k2, x2)) (as := es) (bs := kvs) ⟨h1, _⟩ hr, vs, ns, hl, hk, e => by
    dsimp only at h1
    subst h1
    cases vs with
    | nil => simp at hl
    | cons v vs =>
      simp only [List.map_cons] at e
      cases k1 with
      | int i =>
        simp only [intsOf] at e
        obtain ⟨ms, e1, rfl⟩ := Option.map_eq_some_iff.mp e
        obtain ⟨k, x, h2, h3⟩ := hk 0 v rfl
        simp only [List.getElem?_cons_zero, Option.some.injEq, Prod.mk.injEq] at h2
        obtain ⟨rfl, rfl⟩ := h2
        obtain ⟨t, rfl⟩ := keyIs_int h3
        exact .cons _ _ (keys_ints hr (by simpa using hl) (fun j w hw => hk (j + 1) w (by simpa using hw)) e1)
      | _ => cases e

theorem sortedI_eq {o : Option (List Int)} {h : H} {r : R V × H} (e : sortedI o h = some r) : ∃ ns, o = some ns ∧ ns.length < 64 ∧ r = (.ok (.ref h.length), h.push (.list ((sortI ns).map .int))) := by
  cases o with
  | none => cases e
  | some ns =>
    have e : (if ns.length < 64 then some (R.ok (V.ref h.length), h.push (.list ((sortI ns).map .int))) else none) = some r := e
    split at e
    · rename_i h64; cases e; exact ⟨ns, rfl, h64, rfl⟩
    · cases e
theorem sm_sorted (hh : c.A.handled = none) {x : V} {v : Value} (hv : VR ρ x v) : SM S c ρ VR (call (.builtin "sorted") [v]) (biSorted x) := by
  intro os σ s r σ' hp hl he Q E hQ
  have hq := onRef_eq he
  clear he
  obtain ⟨a, rfl, he⟩ := hq
  split at he
  · rename_i xs' ha
    obtain ⟨A, o1, rfl, _, _, ⟨vs, n, rfl, hvs, hz⟩, h1, _⟩ := hl.ref hp ha hv
    obtain ⟨ns, hns, h64, e⟩ := sortedI_eq he
    cases e
    have hI := intsAre_of hvs hns
    have hlen := hvs.length
    have hlen2 := intsOf_length hns
    refine sorted_by fun R hR => collect_list (PySem.IsL.isList (n := n) h1) (hR _ s.toks vs (fun b o hb => ?_) ⟨ns, hI, by lia, fun h'' out n' k1 k2 k3 => ?_⟩) (by rw [sizeLine_eq]; lia)
    · exact (Heap.get?_update_ne _ _ _ _ (Nat.ne_of_lt (Heap.lt_size hb))).trans (Heap.get?_push_of_some _ hb)
    · refine hQ (os ++ [(_, _)]) _ _ _ adr_new (hl.keepNew (o := .list ((sortI ns).map .int)) (fun b o hb => ?_) k1 k2 ⟨out, n', rfl, vr_ints k3, by rw [List.length_map, sortI_length]; unfold lim; lia⟩) (hl.ref_new (p := (_, _)))
      exact (Heap.get?_update_ne _ _ _ _ (Nat.ne_of_lt (Heap.lt_size hb))).trans (Heap.get?_push_of_some _ hb)
  · rename_i es ha
    obtain ⟨A, o1, rfl, _, _, ⟨es', n, kvs, rfl, k1, k2, k3, k4, hz⟩, h1, hL, hn, hb⟩ := hl.ref hp ha hv
    obtain ⟨ns, hns, h64, e⟩ := sortedI_eq he
    cases e
    have hlen := k4.length
    have hlen2 := intsOf_length hns
    rw [List.length_map] at hlen2
    have hat : s.heap.DictAt (vKind S.prog S.w) A kvs n := ⟨_, _, h1, ⟨rfl, rfl, rfl⟩, rfl, k1, by simpa using k2, k3⟩
    refine sorted_by fun R hR => gather_dict (knd := vKind S.prog S.w) (kvs := kvs) (ep := n) hb hh hat (by rw [sizeLine_eq]; lia) fun h' tk acc hk hacc => hR h' tk acc.toList hk ⟨ns, ?_, ?_, fun h'' out n' k1 k2 k3 => ?_⟩
    · exact keys_ints k4 (by rw [Array.length_toList]; exact hacc.1) (fun j v e => hacc.2 j v (by rw [← Array.getElem?_toList]; exact e)) hns
    · have := hacc.1; rw [Array.length_toList]; lia
    · exact hQ (os ++ [(_, _)]) _ _ _ adr_new (hl.keepNew (o := .list ((sortI ns).map .int)) hk k1 k2 ⟨out, n', rfl, vr_ints k3, by rw [List.length_map, sortI_length]; unfold lim; lia⟩) (hl.ref_new (p := (_, _)))
  · cases he
theorem sm_biLen {x : V} {v : Value} (hv : VR ρ x v) : SM S c ρ VR (call (.builtin "len") [v]) (biLen x) := by
  intro os σ s r σ' hp hl he Q E hQ
  have h63 := lim63
  cases x with
  | ref a =>
    unfold biLen at he
    dsimp only at he
    split at he
    · rename_i xs' ha
      obtain ⟨A, o1, rfl, _, _, ⟨vs, n, rfl, hvs, hz⟩, h1, _⟩ := hl.ref hp ha hv
      cases he
      have hlen := hvs.length
      exact call_len_list (PySem.IsL.isList (n := n) h1) (by simp; lia) (hQ os _ _ _ List.prefix_rfl hl ⟨s.toks + 1, by rw [List.size_toArray, ← hlen]⟩)
    · rename_i es ha
      obtain ⟨A, o1, rfl, _, _, ⟨es', n, kvs, rfl, k1, k2, k3, k4, hz⟩, h1, hL, hn, hb⟩ := hl.ref hp ha hv
      cases he
      have hlen := k4.length
      exact call_len_dict (knd := vKind S.prog S.w) hb (dict_of h1 k1 k2 k3) (by lia) (hQ os _ _ _ List.prefix_rfl hl ⟨s.toks + 1, by rw [hlen]⟩)
    · cases he
  | _ => cases he
theorem sm_biList {x : V} {v : Value} (hv : VR ρ x v) : SM S c ρ VR (call (.type "list") [v]) (biList x) := by
  intro os σ s r σ' hp hl he Q E hQ
  have hq := onRef_eq he
  clear he
  obtain ⟨a, rfl, he⟩ := hq
  split at he
  · rename_i xs' ha
    obtain ⟨A, o1, rfl, _, _, ⟨vs, n, rfl, hvs, hz⟩, h1, _⟩ := hl.ref hp ha hv
    unfold alloc at he
    split at he
    · rename_i hk
      cases he
      have hlen := hvs.length
      exact call_list_seq A (.inl rfl) h1 rfl rfl (fun h' c' k1 k2 => hQ (os ++ [(_, _)]) _ _ _ adr_new (hl.keepNew (o := .list xs') (fun _ _ e => e) k1 k2 ⟨vs, c', rfl, hvs, hz⟩) (hl.ref_new (p := (_, _)))) (by rw [List.size_toArray, ← hlen]; exact Nat.le_trans hz lim_le)
    · cases he
  · cases he
theorem sm_biRange {xs : List V} {vs : List Value} (h : All2 (VR ρ) xs vs) : SM S c ρ VR (call (.type "range") vs) (biRange xs) := by
  intro os σ s r σ' hp hl he Q E hQ
  match xs, h, he with
  | [x], h, he =>
    have hq := onInt_eq (show onInt x _ = some (r, σ') from he)
    clear he
    obtain ⟨n, rfl, he⟩ := hq
    obtain ⟨v, rfl, t, rfl⟩ := h.inv1
    cases he
    exact call_range_1 (hQ (os ++ [(_, _)]) _ _ _ adr_new (hl.pushed (o := .rng 0 _ 1) ⟨_, _, _, rfl⟩) (hl.ref_new (p := (_, _))))
  | [], _, he => cases he
  | _ :: _ :: _ :: _ :: _, _, he => cases he
theorem sm_one {xs : List V} {vs : List Value} {f : Value} {g : V → X V} (h : All2 (VR ρ) xs vs) (hg : ∀ x v, VR ρ x v → SM S c ρ VR (call f [v]) (g x)) : SM S c ρ VR (call f vs) (fun σ => on1 xs fun x => g x σ) := by
  intro os σ s r σ' hp hl he Q E hQ
  have hq := on1_eq he
  clear he
  obtain ⟨x, rfl, he⟩ := hq
  obtain ⟨v, rfl, hv⟩ := h.inv1
  exact hg x v hv os σ s r σ' hp hl he Q E hQ
theorem sm_builtin (hh : c.A.handled = none) {b : Bi} {xs : List V} {vs : List Value} (h : All2 (VR ρ) xs vs) : SM S c ρ VR (call (biVal b) vs) (builtin b xs) := by
  cases b with
  | len => exact sm_one h fun x v hv => sm_biLen hv
  | sorted => exact sm_one h fun x v hv => sm_sorted hh hv
  | list => exact sm_one h fun x v hv => sm_biList hv
  | range => exact sm_biRange h
  | min =>
    intro os σ s r σ' hp hl he Q E hQ
    have hq := on2_eq he
    clear he
    obtain ⟨x, y, rfl, he⟩ := hq
    have hq := twoInts_eq he
    clear he
    obtain ⟨m, n, rfl, rfl, he⟩ := hq
    obtain ⟨v, v', rfl, ⟨t, rfl⟩, ⟨t', rfl⟩⟩ := h.inv2
    cases he
    refine min_two_ints hh fun h' tk hk => hQ os _ _ _ List.prefix_rfl (hl.keep hk) ?_
    split <;> exact ⟨_, rfl⟩
  | _ => exact SM.none

end Mine

set_option autoImplicit false
namespace Mine
open PySem

noncomputable def Ris (xs : Array Nat) : Prop := xs.toList.Pairwise (· < ·)

theorem below_go {xs : Array Nat} {j : Nat} : ∀ (fuel lo hi : Nat), hi - lo ≤ fuel → lo ≤ hi → hi ≤ xs.size → (∀ i y, i < lo → xs.toList[i]? = some y → y < j) → (∀ i y, hi ≤ i → xs.toList[i]? = some y → j ≤ y) → Ris xs →
    SetTable.below.go xs j fuel lo hi ≤ xs.size ∧ (∀ i y, i < SetTable.below.go xs j fuel lo hi → xs.toList[i]? = some y → y < j) ∧ (∀ i y, SetTable.below.go xs j fuel lo hi ≤ i → xs.toList[i]? = some y → j ≤ y)
  | 0, lo, hi, hf, hle, hsz, h1, h2, _ => by
    have : lo = hi := by omega
    subst this
    unfold SetTable.below.go
    exact ⟨hsz, h1, h2⟩
  | fuel + 1, lo, hi, hf, hle, hsz, h1, h2, hr => by
    unfold SetTable.below.go
    by_cases hlt : lo < hi
    · rw [if_pos hlt]
      have hm : (lo + hi) / 2 < xs.size := by omega
      have hg : xs.toList[(lo + hi) / 2]? = some (xs.getD ((lo + hi) / 2) j) := by simp [Array.getD, hm]
      dsimp only
      by_cases hc : xs.getD ((lo + hi) / 2) j < j
      · rw [if_pos hc]
        refine below_go fuel _ hi (by omega) (by omega) hsz (fun i y hi' e => ?_) h2 hr
        by_cases hi2 : i = (lo + hi) / 2
        · subst hi2; rw [hg] at e; cases e; exact hc
        · have hlt2 : i < (lo + hi) / 2 := by omega
          have := List.pairwise_iff_getElem.mp hr i ((lo + hi) / 2) (List.getElem?_eq_some_iff.mp e).1 (by simpa using hm) hlt2
          rw [(List.getElem?_eq_some_iff.mp e).2, (List.getElem?_eq_some_iff.mp hg).2] at this
          omega
      · rw [if_neg hc]
        refine below_go fuel lo _ (by omega) (by omega) (by omega) h1 (fun i y hi' e => ?_) hr
        by_cases hi2 : i = (lo + hi) / 2
        · subst hi2; rw [hg] at e; cases e; omega
        · have hlt2 : (lo + hi) / 2 < i := by omega
          have := List.pairwise_iff_getElem.mp hr ((lo + hi) / 2) i (by simpa using hm) (List.getElem?_eq_some_iff.mp e).1 hlt2
          rw [(List.getElem?_eq_some_iff.mp e).2, (List.getElem?_eq_some_iff.mp hg).2] at this
          omega
    · rw [if_neg hlt]
      have : lo = hi := by omega
      subst this
      exact ⟨hsz, h1, h2⟩
theorem below_ok {xs : Array Nat} {j : Nat} (hr : Ris xs) : SetTable.below xs j ≤ xs.size ∧ (∀ i y, i < SetTable.below xs j → xs.toList[i]? = some y → y < j) ∧ (∀ i y, SetTable.below xs j ≤ i → xs.toList[i]? = some y → j ≤ y) :=
  below_go xs.size 0 xs.size (Nat.le_refl _) (Nat.zero_le _) (Nat.le_refl _) (fun i y h => absurd h (Nat.not_lt_zero _)) (fun i y h e => absurd (List.getElem?_eq_some_iff.mp e).1 (by simpa using h)) hr
theorem below_is {xs : Array Nat} {j p : Nat} (hr : Ris xs) (hp : p ≤ xs.size) (h1 : ∀ i y, i < p → xs.toList[i]? = some y → y < j) (h2 : ∀ i y, p ≤ i → xs.toList[i]? = some y → j ≤ y) : SetTable.below xs j = p := by
  obtain ⟨a, b, c⟩ := below_ok (j := j) hr
  have ex : ∀ {k : Nat}, k < xs.size → ∃ y, xs.toList[k]? = some y := fun {k} hk => ⟨xs[k], by simp [hk]⟩
  rcases Nat.lt_trichotomy (SetTable.below xs j) p with h | h | h
  · obtain ⟨y, hy⟩ := ex (k := SetTable.below xs j) (by omega)
    have := h1 _ y h hy; have := c _ y (Nat.le_refl _) hy; omega
  · exact h
  · obtain ⟨y, hy⟩ := ex (k := p) (by omega)
    have := h2 _ y (Nat.le_refl _) hy; have := b _ y h hy; omega
theorem ris_insert {xs : Array Nat} {j : Nat} (hr : Ris xs) (hj : j ∉ xs.toList) : Ris (SetTable.insertAt xs (SetTable.below xs j) j) := by
  obtain ⟨a, b, c⟩ := below_ok (j := j) hr
  unfold Ris
  rw [SetTable.toList_insertAt]
  have tk : ∀ y ∈ xs.toList.take (SetTable.below xs j), y < j := fun y hy => by
    obtain ⟨i, hi⟩ := List.getElem?_of_mem hy
    rw [List.getElem?_take] at hi
    split at hi
    · rename_i hlt; exact b i y hlt hi
    · cases hi
  have dr : ∀ y ∈ xs.toList.drop (SetTable.below xs j), j < y := fun y hy => by
    obtain ⟨i, hi⟩ := List.getElem?_of_mem hy
    rw [List.getElem?_drop] at hi
    have h1 := c _ y (Nat.le_add_right _ _) hi
    have h2 : y ≠ j := fun e => hj (e ▸ List.mem_of_mem_drop hy)
    omega
  refine List.pairwise_append.mpr ⟨hr.sublist (List.take_sublist _ _), List.pairwise_cons.mpr ⟨dr, hr.sublist (List.drop_sublist _ _)⟩, fun y hy z hz => ?_⟩
  have h1 := tk y hy
  rcases List.mem_cons.mp hz with rfl | hz
  · exact h1
  · have := dr z hz; omega
theorem not_in_place {t : SetTable} {j : Nat} (hr : Ris t.place) (h : t.slot j = .empty) : j ∉ t.place.toList := fun hm => by
  obtain ⟨a, b, c⟩ := below_ok (j := j) hr
  obtain ⟨i, hi⟩ := List.getElem?_of_mem hm
  have hp : SetTable.below t.place j = i := by
    refine below_is hr (Nat.le_of_lt (by simpa using (List.getElem?_eq_some_iff.mp hi).1)) (fun k y hk e => ?_) fun k y hk e => ?_
    · have := List.pairwise_iff_getElem.mp hr k i (List.getElem?_eq_some_iff.mp e).1 (List.getElem?_eq_some_iff.mp hi).1 hk
      rw [(List.getElem?_eq_some_iff.mp e).2, (List.getElem?_eq_some_iff.mp hi).2] at this
      exact this
    · by_cases hk2 : k = i
      · subst hk2; rw [hi] at e; cases e; exact Nat.le_refl _
      · have := List.pairwise_iff_getElem.mp hr i k (List.getElem?_eq_some_iff.mp hi).1 (List.getElem?_eq_some_iff.mp e).1 (by omega)
        rw [(List.getElem?_eq_some_iff.mp e).2, (List.getElem?_eq_some_iff.mp hi).2] at this
        omega
  unfold SetTable.slot at h
  rw [hp] at h
  have hi' : t.place[i]? = some j := by rw [← hi]; simp
  dsimp only at h
  rw [hi'] at h
  simp at h
theorem probe_empty {t : SetTable} {hA : Nat → Int} {h : Int} (hd : t.dummies = #[]) : ∀ (fuel : Nat) (p : SetTable.Probe) (j : Nat) (d : Option Nat), p.dummy = none → SetTable.probe.go t hA h fuel p = some (.empty j d) → t.slot j = .empty ∧ d = none
  | 0, p, j, d, _, e => by unfold SetTable.probe.go at e; cases e
  | fuel + 1, p, j, d, hp, e => by
    unfold SetTable.probe.go at e
    split at e
    · rename_i hs; cases e; exact ⟨hs, hp⟩
    · rename_i hs
      unfold SetTable.slot at hs
      dsimp only at hs
      split at hs
      · cases hs
      · split at hs
        · rename_i hh; rw [hd] at hh; unfold SetTable.has at hh; simp at hh
        · cases hs
    · rename_i i hs
      have ha : (t.advance p).dummy = none := by unfold SetTable.advance; split <;> exact hp
      split at e
      · cases e
      · exact probe_empty hd fuel _ j d ha e
structure Tb (L : Bool) (t : SetTable) : Prop where
  led : t.led = L
  ris : Ris t.place
  dum : t.dummies = #[]
theorem tb_fresh {f m : Nat} {L : Bool} : Tb L (.fresh f m L) := ⟨rfl, List.Pairwise.nil, rfl⟩
theorem tb_standIn {L : Bool} {t : SetTable} (h : Tb L t) (n : Nat) : Tb L (t.standIn n) := ⟨h.led, by show ((Array.range n).toList).Pairwise _; rw [Array.toList_range]; exact List.pairwise_lt_range, rfl⟩
theorem tb_orStandIn {L : Bool} {t : SetTable} (h : Tb L t) (n : Nat) : Tb L (t.orStandIn n) := by unfold SetTable.orStandIn; split; exact h; exact tb_standIn h n
theorem tb_put {L : Bool} {t : SetTable} {j : Nat} (h : Tb L t) (hj : j ∉ t.place.toList) : Tb L (t.put j).1 := by
  refine ⟨h.led, ris_insert h.ris hj, ?_⟩
  show (if SetTable.has t.dummies j = true then _ else t.dummies) = #[]
  rw [h.dum]; simp [SetTable.has]
theorem tb_layNew {L : Bool} {t : SetTable} (h : Tb L t) (es : Array (Int × Value)) (k : Int) (x : Value) : Tb L (layNew t es k x).2.1 := by
  unfold layNew
  split
  · rename_i slot wd hf
    dsimp only
    refine tb_orStandIn (tb_put h ?_) _
    unfold SetTable.freeSlot at hf
    split at hf
    · rename_i j d hp
      have := probe_empty h.dum _ _ _ _ rfl hp
      rw [this.2] at hf
      cases hf
      exact not_in_place h.ris this.1
    · cases hf
  · exact tb_standIn h _
theorem filterMap_rise {f : Nat → Option (Nat × Nat)} (hf : ∀ j p, f j = some p → p.1 = j) : ∀ l : List Nat, l.Pairwise (· < ·) → ((l.filterMap f).map (·.1)).Pairwise (· < ·) ∧ ∀ y ∈ (l.filterMap f).map (·.1), y ∈ l
  | [], _ => ⟨.nil, fun _ h => by cases h⟩
  | a :: l, h => by
    obtain ⟨h1, h2⟩ := List.pairwise_cons.mp h
    obtain ⟨g1, g2⟩ := filterMap_rise hf l h2
    rw [List.filterMap_cons]
    split
    · exact ⟨g1, fun y hy => .tail _ (g2 y hy)⟩
    · rename_i p e
      have := hf a p e
      refine ⟨List.pairwise_cons.mpr ⟨fun y hy => ?_, g1⟩, fun y hy => ?_⟩
      · show p.1 < y; rw [this]; exact h1 y (g2 y hy)
      · rcases List.mem_cons.mp hy with rfl | hy
        · show p.1 ∈ _; rw [this]; exact .head _
        · exact .tail _ (g2 y hy)
theorem tb_relay {L : Bool} {t : SetTable} (h : Tb L t) (es : Array (Int × Value)) (w : Nat) : Tb L (relayAll t es w).2.1 := by
  unfold relayAll
  split
  · rename_i t' order hr
    dsimp only
    split
    · unfold SetTable.relaid SetTable.laid at hr
      simp only [Option.bind_eq_bind, Option.bind_eq_some_iff, pure, Option.some.injEq, Prod.mk.injEq] at hr
      obtain ⟨owner, _, rfl, _⟩ := hr
      refine ⟨h.led, ?_, rfl⟩
      exact (filterMap_rise (fun j p e => by obtain ⟨k, _, rfl⟩ := Option.map_eq_some_iff.mp e; rfl) _ List.pairwise_lt_range).1
    · exact tb_standIn h _
  · exact tb_standIn h _
end Mine

set_option autoImplicit false
set_option maxRecDepth 100000
namespace Mine
open PySem

noncomputable def adv (m : Nat) (p : SetTable.Probe) : SetTable.Probe := if p.more > 0 then { p with j := p.j + 1, more := p.more - 1 } else
  { p with j := (SetTable.leap m p.i p.perturb).1, more := SetTable.runEnd m (SetTable.leap m p.i p.perturb).1 - (SetTable.leap m p.i p.perturb).1, i := (SetTable.leap m p.i p.perturb).1, perturb := (SetTable.leap m p.i p.perturb).2 }
theorem adv_eq {t : SetTable} {p : SetTable.Probe} : t.advance p = adv t.mask p := rfl
noncomputable def visits (m : Nat) : Nat → SetTable.Probe → List Nat
  | 0, _ => []
  | f + 1, p => p.j :: visits m f (adv m p)
theorem slot_cases {t : SetTable} {j : Nat} (hr : Ris t.place) (hd : t.dummies = #[]) : (t.slot j = .empty ∧ j ∉ t.place.toList) ∨ ∃ i, t.slot j = .live i := by
  by_cases h : t.place[SetTable.below t.place j]? == some j
  · exact .inr ⟨SetTable.below t.place j, by unfold SetTable.slot; dsimp only; rw [if_pos h]⟩
  · have e : t.slot j = .empty := by
      unfold SetTable.slot; dsimp only; rw [if_neg h, hd]
      have : SetTable.has (#[] : Array Nat) j = false := by unfold SetTable.has; simp
      rw [this]; rfl
    exact .inl ⟨e, not_in_place hr e⟩
theorem probe_some {t : SetTable} {h : Int} (hr : Ris t.place) (hd : t.dummies = #[]) : ∀ (f : Nat) (p : SetTable.Probe), p.dummy = none → (∃ j ∈ visits t.mask f p, j ∉ t.place.toList) → ∃ j, SetTable.probe.go t (fun _ => h + 1) h f p = some (.empty j none)
  | 0, p, _, ⟨j, hj, _⟩ => by cases hj
  | f + 1, p, hp, ⟨j, hj, hn⟩ => by
    unfold SetTable.probe.go
    rcases slot_cases (j := p.j) hr hd with ⟨e, _⟩ | ⟨i, e⟩
    · rw [e]; exact ⟨p.j, by rw [hp]⟩
    · rw [e]
      dsimp only
      have ne : (h + 1 == h) = false := beq_eq_false_iff_ne.mpr (by omega)
      rw [ne]
      simp only [Bool.false_eq_true, if_false]
      refine probe_some hr hd f _ (by unfold SetTable.advance; split <;> exact hp) ?_
      rcases List.mem_cons.mp hj with rfl | hj
      · exfalso
        have hi := below_ok (j := p.j) hr
        unfold SetTable.slot at e
        dsimp only at e
        split at e
        · rename_i q
          have q := eq_of_beq q
          exact hn (Array.mem_toList_iff.mpr (Array.mem_of_getElem? q))
        · split at e <;> cases e
      · exact ⟨j, by rw [adv_eq]; exact hj, hn⟩
noncomputable def starts (m : Nat) (h : Nat) : SetTable.Probe := { j := h % (m + 1), more := SetTable.runEnd m (h % (m + 1)) - h % (m + 1), i := h % (m + 1), perturb := h, dummy := none }
theorem covers7 : ((List.range 64).all fun h => (List.range 8).all fun j => (visits 7 220 (starts 7 h)).contains j) = true := by decide +kernel
theorem covers31 : ((List.range 64).all fun h => (List.range 32).all fun j => (visits 31 460 (starts 31 h)).contains j) = true := by decide +kernel

theorem sub_len : ∀ {l l' : List Nat}, l.Nodup → (∀ x ∈ l, x ∈ l') → l.length ≤ l'.length
  | [], _, _, _ => Nat.zero_le _
  | a :: l, l', nd, h => by
    obtain ⟨n1, n2⟩ := List.nodup_cons.mp nd
    have ha := h a (.head _)
    have ih := sub_len (l' := l'.erase a) n2 fun x hx => (List.mem_erase_of_ne (fun (e : x = a) => n1 (e ▸ hx))).mpr (h x (.tail _ hx))
    rw [List.length_erase_of_mem ha] at ih
    have := List.length_pos_of_mem ha
    simp only [List.length_cons]
    omega
noncomputable def Tm (m n : Nat) : Prop := (m = 7 ∧ n ≤ 4) ∨ (m = 31 ∧ n ≤ 18)
theorem free_slot {t : SetTable} {k n : Nat} (hr : Ris t.place) (hd : t.dummies = #[]) (hm : Tm t.mask n) (hn : t.place.size = n) (hk : k < 64) : ∃ j, t.freeSlot (k : Int) = some (j, false) ∧ j ∉ t.place.toList := by
  have hb : SetTable.bits (k : Int) = k := by unfold SetTable.bits; omega
  have hs : t.probeStart (k : Int) = starts t.mask k := by unfold SetTable.probeStart starts; rw [hb]
  have room : ∃ j, j ∈ List.range (t.mask + 1) ∧ j ∉ t.place.toList := by
    refine Classical.byContradiction fun hc => ?_
    have := sub_len (l := List.range (t.mask + 1)) (l' := t.place.toList) List.nodup_range fun x hx => Classical.byContradiction fun q => hc ⟨x, hx, q⟩
    rw [List.length_range, Array.length_toList, hn] at this
    rcases hm with ⟨h1, h2⟩ | ⟨h1, h2⟩ <;> omega
  obtain ⟨j, hj, hjn⟩ := room
  have cov : j ∈ visits t.mask (10 * SetTable.turns t.mask) (starts t.mask k) := by
    rcases hm with ⟨h1, _⟩ | ⟨h1, _⟩
    · rw [h1] at hj ⊢
      exact List.contains_iff_mem.mp (List.all_eq_true.mp (List.all_eq_true.mp covers7 k (List.mem_range.mpr hk)) j hj)
    · rw [h1] at hj ⊢
      exact List.contains_iff_mem.mp (List.all_eq_true.mp (List.all_eq_true.mp covers31 k (List.mem_range.mpr hk)) j hj)
  obtain ⟨j', e⟩ := probe_some (h := (k : Int)) hr hd _ _ rfl ⟨j, cov, hjn⟩
  have e' : t.probe (fun _ => (k : Int) + 1) (k : Int) (t.probeStart (k : Int)) = some (.empty j' none) := by unfold SetTable.probe; rw [hs]; exact e
  refine ⟨j', by unfold SetTable.freeSlot; rw [e']; rfl, not_in_place hr (probe_empty hd _ _ _ _ rfl e).1⟩
theorem layNew_plain {L : Bool} {t : SetTable} {es : Array (Int × Value)} {k : Nat} {x : Value} (h : Tb L t) (hp : t.plain = true) (hm : Tm t.mask es.size) (hn : t.place.size = es.size) (hk : k < 64) :
    (layNew t es (k : Int) x).2.1.plain = true ∧ (layNew t es (k : Int) x).2.1.mask = t.mask ∧ (layNew t es (k : Int) x).2.1.place.size = es.size + 1 ∧ (layNew t es (k : Int) x).2.2.1 = false := by
  obtain ⟨j, e, hj⟩ := free_slot h.ris h.dum hm hn hk
  have sz : (t.put j).1.place.size = es.size + 1 := by
    show (SetTable.insertAt t.place _ j).size = _
    rw [← Array.length_toList, (SetTable.insertAt_perm _ _ _).length_eq]
    simp [hn]
  have ez : (SetTable.insertAt es (t.put j).2 ((k : Int), x)).size = es.size + 1 := by rw [← Array.length_toList, (SetTable.insertAt_perm _ _ _).length_eq]; simp
  have fit : (t.put j).1.fits (es.size + 1) = true := by
    unfold SetTable.fits SetTable.fill
    have dm := (tb_put h hj).dum
    rw [sz, dm]
    have mk : (t.put j).1.mask = t.mask := rfl
    rw [mk]
    simp only [BEq.rfl, Bool.true_and, decide_eq_true_eq, Array.size_empty, Nat.add_zero]
    rcases hm with ⟨h1, h2⟩ | ⟨h1, h2⟩ <;> omega
  have el : layNew t es (k : Int) x = (SetTable.insertAt es (t.put j).2 ((k : Int), x), (t.put j).1, false, false) := by
    unfold layNew
    rw [e]
    dsimp only
    unfold SetTable.orStandIn
    rw [ez, fit]; rfl
  rw [el]
  exact ⟨hp, rfl, sz, rfl⟩

noncomputable def fv (m : Nat) : Nat → Nat → Nat → List Nat
  | 0, _, _ => []
  | f + 1, i, p => ((List.range (SetTable.runEnd m i + 1 - i)).map (i + ·)) ++ fv m f (SetTable.leap m i p).1 (SetTable.leap m i p).2
theorem coversF : ((List.range 64).all fun h => (List.range 32).all fun j => (fv 31 46 (h % 32) h).contains j) = true := by decide +kernel
abbrev Fr0 (owner : Array (Option Nat)) (j : Nat) : Prop := (owner.getD j (some 0)).isNone = true
theorem free_some {m : Nat} {owner : Array (Option Nat)} : ∀ (f i p : Nat), (∃ j ∈ fv m f i p, Fr0 owner j) → ∃ j, SetTable.layClean.free m owner f i p = some j ∧ Fr0 owner j
  | 0, i, p, ⟨j, hj, _⟩ => by cases hj
  | f + 1, i, p, ⟨j, hj, hn⟩ => by
    unfold SetTable.layClean.free
    cases hf : (List.range (SetTable.runEnd m i + 1 - i)).find? (fun k => (owner.getD (i + k) (some 0)).isNone) with
    | some k => exact ⟨i + k, rfl, by have := List.find?_some hf; exact this⟩
    | none =>
      dsimp only
      refine free_some f _ _ ?_
      rcases List.mem_append.mp hj with hj | hj
      · obtain ⟨k, hk, rfl⟩ := List.mem_map.mp hj
        have := List.find?_eq_none.mp hf k hk
        exact absurd hn this
      · exact ⟨j, hj, hn⟩
abbrev ow (owner : Array (Option Nat)) (j : Nat) : Option Nat := owner.getD j none
structure Ow1 (owner : Array (Option Nat)) (k : Nat) : Prop where
  sz : owner.size = 32
  pm : ((List.range 32).filterMap (ow owner)).Perm (List.range k)
theorem fm_congr {f g : Nat → Option Nat} : ∀ {l : List Nat}, (∀ i ∈ l, g i = f i) → l.filterMap g = l.filterMap f
  | [], _ => rfl
  | a :: l, h => by rw [List.filterMap_cons, List.filterMap_cons, h a (.head _), fm_congr fun i hi => h i (.tail _ hi)]
theorem fm_upd {f g : Nat → Option Nat} {j v : Nat} : ∀ {l : List Nat}, l.Nodup → j ∈ l → f j = none → g j = some v → (∀ i, i ≠ j → g i = f i) → (l.filterMap g).Perm (v :: l.filterMap f)
  | [], _, h, _, _, _ => by cases h
  | a :: l, nd, hj, hf, hg, ho => by
    obtain ⟨n1, n2⟩ := List.nodup_cons.mp nd
    by_cases e : a = j
    · subst e
      rw [List.filterMap_cons, hg, List.filterMap_cons, hf]
      have : l.filterMap g = l.filterMap f := fm_congr fun i hi => ho i fun q => n1 (q ▸ hi)
      rw [this]
    · have hj' : j ∈ l := by
        rcases List.mem_cons.mp hj with q | q
        · exact absurd q.symm e
        · exact q
      have ih := fm_upd n2 hj' hf hg ho
      rw [List.filterMap_cons, List.filterMap_cons, ho a e]
      cases f a with
      | none => exact ih
      | some b => exact (ih.cons b).trans (List.Perm.swap _ _ _)
theorem fm_full {f : Nat → Option Nat} : ∀ {l : List Nat}, (∀ i ∈ l, (f i).isSome = true) → (l.filterMap f).length = l.length
  | [], _ => rfl
  | a :: l, h => by
    obtain ⟨b, hb⟩ := Option.isSome_iff_exists.mp (h a (.head _))
    rw [List.filterMap_cons, hb]
    simp [fm_full fun i hi => h i (.tail _ hi)]
theorem fr0_of {owner : Array (Option Nat)} {j : Nat} (hj : j < owner.size) : Fr0 owner j ↔ ow owner j = none := by
  unfold Fr0 ow
  simp only [Array.getD, hj, dite_true]
  exact Option.isNone_iff_eq_none
theorem fr0_lt {owner : Array (Option Nat)} {j : Nat} (h : Fr0 owner j) : j < owner.size := by
  refine Classical.byContradiction fun q => ?_
  unfold Fr0 at h
  simp only [Array.getD, q, dite_false] at h
  cases h
theorem lay_step {owner : Array (Option Nat)} {k h : Nat} (O : Ow1 owner k) (hk : k < 32) (hh : h < 64) : ∃ j, SetTable.layClean.free 31 owner (SetTable.turns 31) (SetTable.bits (h : Int) % (31 + 1)) (SetTable.bits (h : Int)) = some j ∧ Ow1 (owner.setIfInBounds j (some k)) (k + 1) := by
  have hb : SetTable.bits (h : Int) = h := by unfold SetTable.bits; omega
  rw [hb]
  have room : ∃ j, j ∈ List.range 32 ∧ ow owner j = none := by
    refine Classical.byContradiction fun hc => ?_
    have := fm_full (f := ow owner) (l := List.range 32) fun i hi => by
      cases e : ow owner i with
      | none => exact absurd ⟨i, hi, e⟩ hc
      | some _ => rfl
    rw [O.pm.length_eq, List.length_range, List.length_range] at this
    omega
  obtain ⟨j, hj, hn⟩ := room
  have cov : j ∈ fv 31 46 (h % 32) h := List.contains_iff_mem.mp (List.all_eq_true.mp (List.all_eq_true.mp coversF h (List.mem_range.mpr hh)) j hj)
  have hj32 : j < owner.size := by rw [O.sz]; exact List.mem_range.mp hj
  obtain ⟨j', e, hf⟩ := free_some (m := 31) 46 (h % 32) h ⟨j, cov, (fr0_of hj32).mpr hn⟩
  have hlt := fr0_lt hf
  refine ⟨j', e, by rw [Array.size_setIfInBounds]; exact O.sz, ?_⟩
  have hu := fm_upd (f := ow owner) (g := ow (owner.setIfInBounds j' (some k))) (v := k) (l := List.range 32) List.nodup_range (List.mem_range.mpr (by rw [← O.sz]; exact hlt)) ((fr0_of hlt).mp hf) ?_ ?_
  · refine hu.trans ((O.pm.cons k).trans ?_)
    rw [List.range_succ]
    exact (List.perm_append_comm (l₁ := List.range k) (l₂ := [k])).symm
  · simp [ow, Array.getD, hlt]
  · intro i hi
    by_cases q : i < owner.size
    · simp [ow, Array.getD, q, Ne.symm hi]
    · simp [ow, Array.getD, q]
theorem lay_all : ∀ (hs : List Int) (owner : Array (Option Nat)) (k : Nat), Ow1 owner k → k + hs.length ≤ 32 → (∀ h ∈ hs, ∃ n : Nat, h = (n : Int) ∧ n < 64) →
    ∃ owner', hs.foldl (fun acc h => do
      let (owner, k) ← acc
      let j ← SetTable.layClean.free 31 owner (SetTable.turns 31) (SetTable.bits h % (31 + 1)) (SetTable.bits h)
      pure (owner.setIfInBounds j (some k), k + 1)) (some (owner, k)) = some (owner', k + hs.length) ∧ Ow1 owner' (k + hs.length)
  | [], owner, k, O, _, _ => ⟨owner, rfl, O⟩
  | h :: hs, owner, k, O, hk, hh => by
    obtain ⟨n, rfl, hn⟩ := hh h (.head _)
    simp only [List.length_cons] at hk
    obtain ⟨j, e, O'⟩ := lay_step O (by omega) hn
    obtain ⟨ow', e2, O2⟩ := lay_all hs _ (k + 1) O' (by omega) fun x hx => hh x (.tail _ hx)
    have a : k + 1 + hs.length = k + (hs.length + 1) := by omega
    rw [a] at e2 O2
    refine ⟨ow', ?_, O2⟩
    rw [List.foldl_cons]
    simp only [Option.bind_eq_bind, Option.bind_some, e]
    exact e2
theorem ow_init : Ow1 (Array.replicate 32 none) 0 := by
  refine ⟨by simp, ?_⟩
  have : (List.range 32).filterMap (ow (Array.replicate 32 none)) = [] := by decide
  rw [this]; exact List.Perm.refl _

theorem fm_fullA {α : Type} {f : Nat → Option α} : ∀ {l : List Nat}, (∀ i ∈ l, (f i).isSome = true) → (l.filterMap f).length = l.length
  | [], _ => rfl
  | a :: l, h => by
    obtain ⟨b, hb⟩ := Option.isSome_iff_exists.mp (h a (.head _))
    rw [List.filterMap_cons, hb]
    simp [fm_fullA fun i hi => h i (.tail _ hi)]
theorem fm_snd {f : Nat → Option Nat} : ∀ {l : List Nat}, (l.filterMap fun j => (f j).map (j, ·)).map (·.2) = l.filterMap f
  | [] => rfl
  | a :: l => by
    rw [List.filterMap_cons, List.filterMap_cons]
    cases f a with
    | none => exact fm_snd
    | some b => simp [fm_snd (f := f) (l := l)]
theorem lay_clean {hs : Array Int} (hn : hs.size ≤ 32) (hh : ∀ h ∈ hs.toList, ∃ n : Nat, h = (n : Int) ∧ n < 64) : ∃ owner, SetTable.layClean 31 hs = some owner ∧ Ow1 owner hs.size := by
  obtain ⟨ow', e, O⟩ := lay_all hs.toList (Array.replicate 32 none) 0 ow_init (by simpa using hn) hh
  refine ⟨ow', ?_, by simpa using O⟩
  unfold SetTable.layClean
  rw [← Array.foldl_toList, e]
  rfl
theorem relay_plain {t : SetTable} {es : Array (Int × Value)} {wd : Nat} (hw : SetTable.sizeAbove wd - 1 = 31) (hn : es.size ≤ 18) (hh : ∀ e ∈ es.toList, ∃ n : Nat, e.1 = (n : Int) ∧ n < 64) :
    (relayAll t es wd).2.1.plain = t.plain ∧ (relayAll t es wd).2.1.mask = 31 ∧ (relayAll t es wd).2.1.place.size = es.size := by
  obtain ⟨owner, e, O⟩ := lay_clean (hs := es.map (·.1)) (by rw [Array.size_map]; omega) fun h hm => by
    rw [Array.toList_map] at hm
    obtain ⟨x, hx, rfl⟩ := List.mem_map.mp hm
    exact hh x hx
  rw [Array.size_map] at O
  have el : t.relaid (es.map (·.1)) wd = some ({ mask := 31, place := (((List.range 32).filterMap fun j => (ow owner j).map (j, ·)).map (·.1)).toArray, dummies := #[], finger := t.finger, led := t.led, moves := t.movedTo 31, plain := t.plain }, ((List.range 32).filterMap (ow owner)).toArray) := by
    unfold SetTable.relaid SetTable.laid
    rw [hw, e]
    simp only [Option.bind_eq_bind, Option.bind_some]
    rw [← fm_snd (f := ow owner)]
    rfl
  have cov : coversAll ((List.range 32).filterMap (ow owner)).toArray es.size = true := by
    unfold coversAll
    exact List.isPerm_iff.mpr O.pm
  have ez : ((((List.range 32).filterMap (ow owner)).toArray).filterMap (es[·]?)).size = es.size := by
    rw [← Array.length_toList, Array.toList_filterMap]
    rw [fm_fullA fun i hi => ?_, O.pm.length_eq, List.length_range]
    have := List.mem_range.mp (O.pm.mem_iff.mp hi)
    simp [this]
  have pz : (((List.range 32).filterMap fun j => (ow owner j).map (j, ·)).map (·.1)).length = es.size := by
    rw [List.length_map, ← List.length_map (f := fun x : Nat × Nat => x.2), fm_snd, O.pm.length_eq, List.length_range]
  have er : relayAll t es wd = ((((List.range 32).filterMap (ow owner)).toArray).filterMap (es[·]?), { mask := 31, place := (((List.range 32).filterMap fun j => (ow owner j).map (j, ·)).map (·.1)).toArray, dummies := #[], finger := t.finger, led := t.led, moves := t.movedTo 31, plain := t.plain }, false) := by
    unfold relayAll
    rw [el]
    dsimp only
    rw [cov, ez, if_pos ?_]
    unfold SetTable.fits SetTable.fill
    simp only [List.size_toArray, pz, BEq.rfl, Bool.true_and, List.length_nil, Nat.add_zero, decide_eq_true_eq]
    omega
  rw [er]
  exact ⟨rfl, rfl, by simp only [List.size_toArray]; exact pz⟩
end Mine

set_option autoImplicit false
namespace Mine
open PySem PySem.Calls PyProof.Rows

noncomputable def setObj (es : Array (Int × Value)) (ep : Nat) (t : SetTable) : Obj := { cls := .type "set", dict := none, data := .set es ep t }
noncomputable def kOf (e : Int × Value) : Int := match e.2 with
  | .int k _ => k
  | _ => 0
structure Els (es : Array (Int × Value)) (ks : List Int) : Prop where
  el : ∀ e ∈ es.toList, ∃ t, e.2 = .int (kOf e) t ∧ e.1 = hashInt (kOf e)
  sm : ∀ e ∈ es.toList, ∃ n : Nat, e.1 = (n : Int) ∧ n < 64
  pm : (es.toList.map kOf).Perm ks
  nd : ks.Nodup
structure Tq (t : SetTable) (n : Nat) : Prop where
  pl : t.plain = true
  tm : Tm t.mask n
  sz : t.place.size = n
noncomputable def SI (h : Heap) (a : Addr) (L : Bool) (ks : List Int) : Prop := ∃ es ep t, h.get? a = some (setObj es ep t) ∧ Els es ks ∧ t.fits es.size = true ∧ Tb L t ∧ Tq t es.size

section
variable {prog : Program} {w : World} {A : Around} {E : Value → Shared → Prop} {s : Shared} {a : Addr} {L : Bool} {ks : List Int}
theorem els_kind {es : Array (Int × Value)} (h : Els es ks) : ElemsOf (intKind prog w) es.toList := fun e he => by
  obtain ⟨t, h1, h2⟩ := h.el e he
  refine ⟨⟨kOf e, ?_, h2⟩, ?_⟩
  · rw [h1]; exact intKind_is _ _ _ _
  · rw [h1]; rfl
theorem els_size {es : Array (Int × Value)} (h : Els es ks) : es.size = ks.length := by rw [← h.pm.length_eq]; simp
theorem els_perm {es es' : Array (Int × Value)} (h : Els es ks) (p : es'.toList.Perm es.toList) : Els es' ks := ⟨fun e he => h.el e (p.mem_iff.mp he), fun e he => h.sm e (p.mem_iff.mp he), (p.map _).trans h.pm, h.nd⟩
theorem els_push {es : Array (Int × Value)} {k : Int} {t : Tok} (h : Els es ks) (hk : k ∉ ks) (hs : ∃ n : Nat, hashInt k = (n : Int) ∧ n < 64) : Els (es.push (hashInt k, .int k t)) (ks ++ [k]) := by
  refine ⟨fun e he => ?_, fun e he => ?_, ?_, ?_⟩
  · rw [Array.toList_push] at he
    rcases List.mem_append.mp he with he | he
    · exact h.el e he
    · rw [List.mem_singleton.mp he]; exact ⟨t, rfl, rfl⟩
  · rw [Array.toList_push] at he
    rcases List.mem_append.mp he with he | he
    · exact h.sm e he
    · rw [List.mem_singleton.mp he]; exact hs
  · rw [Array.toList_push, List.map_append]
    exact h.pm.append (List.Perm.refl _)
  · rw [List.nodup_append]
    exact ⟨h.nd, by simp, fun x hx y hy e => hk (by rw [List.mem_singleton.mp hy] at e; exact e ▸ hx)⟩
theorem stored {h : Heap} {es es' : Array (Int × Value)} {ep : Nat} {t t' : SetTable} (ho : h.get? a = some (setObj es ep t)) : (h.update a (Obj.putSet es' t')).get? a = some (setObj es' (ep + 1) t') := Heap.get?_update_self (Obj.putSet es' t') ho rfl
theorem add_tail {g : Bool → Sem Unit} (hg : ∀ (b : Bool) (s₁ : Shared) (Q' : Unit → Shared → Prop), Q' () s₁ → wpAny (model prog w) A (g b) Q' E s₁) {es es1 : Array (Int × Value)} {ep : Nat} {t t2 : SetTable} (ho : s.heap.get? a = some (setObj es ep t))
    (e1 : Els es1 ks) (f1 : t2.fits es1.size = true) (t1 : Tb L t2) (z1 : es1.size < scanBound) (q1 : t2.plain = true) (q2 : (t2.mask = 7 ∧ es1.size ≤ 5) ∨ (t2.mask = 31 ∧ es1.size ≤ 18)) (q3 : t2.place.size = es1.size) {wd : Bool} (hwd : wd = false) {R : Option Bool → Shared → Prop} (h : ∀ h', Heap.SameBut a s.heap h' → SI h' a L ks → R (some true) { s with heap := h' }) :
    wpAny (model prog w) A (do
        storeSet a es1 t2
        if (!wd && t2.tooFull) = true then do
            g (relayAll t2 es1 (SetTable.grown es1.size)).2.2
            storeSet a (relayAll t2 es1 (SetTable.grown es1.size)).1 (relayAll t2 es1 (SetTable.grown es1.size)).2.1
            pure (some true)
          else pure (some true)) R E s := by
  have o1 := stored (es' := es1) (t' := t2) ho
  have b1 := Heap.SameBut.update s.heap a (Obj.putSet es1 t2)
  refine wpAny_bind (wpAny_storeSet_of ho rfl ?_ (fits_of_scanBound z1))
  have fl : t2.fill = es1.size := by unfold SetTable.fill; rw [t1.dum, q3]; rfl
  subst hwd
  by_cases hc : (!false && t2.tooFull) = true
  · rw [if_pos hc]
    have hc' : t2.tooFull = true := hc
    unfold SetTable.tooFull at hc'
    rw [fl] at hc'
    have hc' := of_decide_eq_true hc'
    have five : es1.size = 5 := by rcases q2 with ⟨h1, h2⟩ | ⟨h1, h2⟩ <;> rw [h1] at hc' <;> omega
    have rp := relay_plain (t := t2) (es := es1) (wd := SetTable.grown es1.size) (by rw [five]; decide) (by omega) e1.sm
    have e2 : Els (relayAll t2 es1 (SetTable.grown es1.size)).1 ks := els_perm e1 (relayAll_perm _ _ _)
    have z2 : (relayAll t2 es1 (SetTable.grown es1.size)).1.size < scanBound := by rw [els_size e2, ← els_size e1]; exact z1
    refine wpAny_bind (hg _ _ _ (wpAny_bind (wpAny_storeSet_of o1 rfl ?_ (fits_of_scanBound z2))))
    exact wpAny_pure (h _ (b1.trans (Heap.SameBut.update _ a _)) ⟨_, _, _, stored o1, e2, relayAll_fits _ _ _, tb_relay t1 _ _, rp.1.trans q1, .inr ⟨rp.2.1, by rw [els_size e2, ← els_size e1]; omega⟩, by rw [rp.2.2, els_size e2, ← els_size e1]⟩)
  · rw [if_neg hc]
    have hc' : ¬ (t2.fill * 5 ≥ t2.mask * 3) := fun q => hc (show t2.tooFull = true from decide_eq_true q)
    rw [fl] at hc'
    have tm : Tm t2.mask es1.size := by
      rcases q2 with ⟨h1, h2⟩ | ⟨h1, h2⟩
      · rw [h1] at hc'; exact .inl ⟨h1, by omega⟩
      · exact .inr ⟨h1, h2⟩
    exact wpAny_pure (h _ b1 ⟨_, _, _, o1, e1, f1, t1, q1, tm, q3⟩)
theorem add_int {k : Int} {tk : Tok} {Q : Bool → Shared → Prop} (hS : SI s.heap a L ks) (hroom : ks.length + 1 ≤ 18) (hk64 : ∃ n : Nat, hashInt k = (n : Int) ∧ n < 64)
    (h : ∀ b h', Heap.SameBut a s.heap h' → SI h' a L (if k ∈ ks then ks else ks ++ [k]) → Q b { s with heap := h' }) : wpAny (model prog w) A (setAddHashed a (.int k tk) (hashInt k)) Q E s := by
  obtain ⟨es, ep, t, ho, he, hf, ht, tq⟩ := hS
  have hscan : scanBound = 4096 := rfl
  have hsz := els_size he
  have hel := els_kind (prog := prog) (w := w) he
  unfold setAddHashed setAddHashedIn
  refine wpAny_holding (wpAny_bind (wpAny_setState_of ho rfl hf ?_))
  dsimp only
  rw [byScan_of (knd := intKind prog w) (show (Value.int k tk).scannable = true from rfl) (by rw [hsz]; omega) hel]
  simp only [↓reduceIte]
  unfold setAddByScan
  refine wpAny_bind (wpAny_bind (wpAny_rule (wpAny_bind (wpAny_setScan_of (knd := intKind prog w) (k := k) (intKind_is _ _ _ _) ho rfl hf hel ?_))))
  cases hr : List.findIdx? (fun e => (intKind prog w).is k e.2) es.toList with
  | some j =>
    dsimp only
    obtain ⟨hj, hpj, _⟩ := List.findIdx?_eq_some_iff_getElem.mp hr
    have hk : k ∈ ks := by
      refine he.pm.mem_iff.mp (List.mem_map.mpr ⟨es.toList[j], List.getElem_mem hj, ?_⟩)
      obtain ⟨t', g1, _⟩ := he.el _ (List.getElem_mem hj)
      rw [g1] at hpj
      exact (intKind prog w).inj _ _ _ (intKind_is _ _ _ _) hpj
    rw [if_pos hk] at h
    exact wpAny_pure (wpAny_pure (h _ s.heap (Heap.SameBut.refl _ _) ⟨es, ep, t, ho, he, hf, ht, tq⟩))
  | none =>
    dsimp only
    have hk : k ∉ ks := fun hk => by
      obtain ⟨e, h1, h2⟩ := List.mem_map.mp (he.pm.mem_iff.mpr hk)
      have := List.findIdx?_eq_none_iff.mp hr e h1
      obtain ⟨t', g1, _⟩ := he.el e h1
      rw [g1, h2, intKind_is] at this
      cases this
    rw [if_neg hk] at h
    have gw : ∀ (b : Bool) (s₁ : Shared) (Q' : Unit → Shared → Prop), Q' () s₁ → wpAny (model prog w) A (match b with | true => rule "set.scan.the-table-gave-way" | false => pure ()) Q' E s₁ := fun b s₁ Q' hq => by cases b <;> first | exact wpAny_pure hq | exact wpAny_rule hq
    have e1 : Els (layNew t es (hashInt k) (.int k tk)).1 (ks ++ [k]) := els_perm (els_push he hk hk64) (layNew_perm _ _ _ _)
    have f1 := layNew_fits t es (hashInt k) (.int k tk)
    have t1 := tb_layNew ht es (hashInt k) (.int k tk)
    have z1 := els_size e1
    rw [List.length_append, List.length_singleton] at z1
    obtain ⟨kn, hkn, hlt⟩ := hk64
    have lp := layNew_plain (k := kn) (x := .int k tk) ht tq.pl tq.tm tq.sz hlt
    rw [← hkn] at lp
    generalize hL : layNew t es (hashInt k) (.int k tk) = N at *
    obtain ⟨es1, t1', wd, gave⟩ := N
    dsimp only at e1 f1 t1 z1 lp ⊢
    obtain ⟨lp1, lp2, lp3, lp4⟩ := lp
    have q2 : (t1'.mask = 7 ∧ es1.size ≤ 5) ∨ (t1'.mask = 31 ∧ es1.size ≤ 18) := by
      rw [lp2]
      rcases tq.tm with ⟨h1, h2⟩ | ⟨h1, h2⟩
      · exact .inl ⟨h1, by omega⟩
      · exact .inr ⟨h1, by omega⟩
    have q3 : t1'.place.size = es1.size := by omega
    refine wpAny_bind (gw _ _ _ ?_)
    have z2 : es1.size < scanBound := by omega
    rw [if_pos lp1]
    refine wpAny_bind ?_
    rw [hashByValue_scannable 8 (show (Value.int k tk).scannable = true from rfl)]
    refine wpAny_pure ?_
    have pk : plainKind (Value.int k tk) = true := rfl
    rw [pk]
    simp only [↓reduceIte]
    exact add_tail (L := L) (ks := ks ++ [k]) gw ho e1 f1 t1 z2 lp1 q2 q3 lp4 fun h' hb hs => wpAny_pure (h _ h' hb hs)
end
end Mine

set_option autoImplicit false
set_option maxRecDepth 100000
namespace Mine
open PySem PySem.Calls PyProof.Rows

section
variable {prog : Program} {w : World} {A : Around} {I : Addr} {fp wr : List Addr} {G : Array GenState → Array GenState → Prop} {n : Nat} {P : Nat → Value → Prop} {St : Nat → Shared → Prop} {R : Result → Shared → Prop} {L : Bool}
theorem SI.moved {s s' : Shared} {S : Addr} {ks : List Int} {ws : List Addr} (h : SI s.heap S L ks) (hm : Moved ws G s s') (hS : S ∉ ws) : SI s'.heap S L ks := by
  obtain ⟨es, ep, t, ho, r⟩ := h
  exact ⟨es, ep, t, hm.heap S _ hS ho, r⟩
theorem met_succ {val : Nat → Int} {i : Nat} : firstMet val (i + 1) = if val i ∈ firstMet val i then firstMet val i else firstMet val i ++ [val i] := by
  rw [firstMet_succ]
  unfold step_dedup
  by_cases h : val i ∈ firstMet val i
  · rw [if_pos h, if_pos (List.any_eq_true.mpr ⟨_, h, by simp⟩)]
  · rw [if_neg h, if_neg (fun q => by obtain ⟨x, h1, h2⟩ := List.any_eq_true.mp q; rw [beq_iff_eq] at h2; exact h (h2 ▸ h1))]
theorem upd_loop (W : WalksS prog w A.in1 I fp wr G n P St) {S : Addr} (hSf : S ∉ fp) {val : Nat → Int} (hval : ∀ i v, P i v → ∃ t, v = .int (val i) t) (hb : n ≤ 18) (hsm : ∀ i, i < n → ∃ m : Nat, hashInt (val i) = (m : Int) ∧ m < 64) :
    ∀ (k i : Nat) (s : Shared), n - i = k → i ≤ n → St i s → SI s.heap S L (firstMet val i) → (∀ s', Moved (S :: wr) G s s' → SI s'.heap S L (firstMet val n) → R (.ok (.ret .none)) s') →
      codeAny (model prog w) A (.builtin "set.update.loop" ⟨[.ref S, .ref I], []⟩) R s := by
  have hSw : S ∉ wr := fun h => hSf (W.sub _ h)
  have hsub : ∀ b ∈ wr, b ∈ S :: wr := fun b hb => List.mem_cons_of_mem _ hb
  intro k
  induction k with
  | zero =>
    intro i s hk hi hst hS hR
    obtain rfl : i = n := by omega
    refine codeAny_builtin F.entry_set_update_loop ?_
    rw [Around.under_plainId F.plain_set_update_loop _]
    show wpAny _ A.in1 (pyNext (.ref I) >>= _) _ _ s
    refine wpAny_bind (W.done s _ _ hst fun s' hm => ?_)
    exact wpAny_pure (hR s' (hm.mono hsub) (hS.moved hm hSw))
  | succ k ih =>
    intro i s hk hi hst hS hR
    have hlt : i < n := by omega
    refine codeAny_builtin F.entry_set_update_loop ?_
    rw [Around.under_plainId F.plain_set_update_loop _]
    show wpAny _ A.in1 (pyNext (.ref I) >>= _) _ _ s
    refine wpAny_bind (W.item i s _ _ hlt hst fun v s' hP hst' hm => ?_)
    obtain ⟨t, rfl⟩ := hval i v hP
    have hS' := hS.moved hm hSw
    show wpAny _ A.in1 (holding [Value.int (val i) t] (setAdd S (.int (val i) t)) >>= _) _ _ s'
    refine wpAny_bind (wpAny_holding ?_)
    unfold setAdd
    refine wpAny_holding (wpAny_bind ((intKind prog w).pyHash (k := val i) (intKind_is _ _ _ _) ?_))
    have hroom : (firstMet val i).length + 1 ≤ 18 := by have := firstMet_length_le val i; omega
    refine add_int (s := { s' with toks := s'.toks + 1 }) hS' hroom (hsm i hlt) fun b h' hsb hS2 => ?_
    rw [← met_succ] at hS2
    refine wpAny_pure ⟨plainId_quiet F.plain_set_update_loop _, ih (i + 1) _ (by omega) hlt (W.frame _ s' _ _ hst' (Nat.le_succ _) fun b hb o e => ?_) hS2 fun s'' hm'' hS'' => ?_⟩
    · rw [hsb.2 b (fun h : b = S => hSf (by rw [← h]; exact hb))]; exact e
    · refine hR s'' (Moved.trans W.gtrans ((hm.mono hsub).then_heap (Nat.le_succ _) fun b o hb e => ?_) hm'') hS''
      rw [hsb.2 b (fun h : b = S => hb (by rw [h]; exact List.mem_cons_self))]; exact e
end

section
variable {prog : Program} {w : World} {A : Around} {E : Value → Shared → Prop} {s : Shared}
noncomputable def ledOf (w : World) : Bool := !w.params.followText "set-order"
theorem set_new (a : Value) {Q₁ : Value → Shared → Prop} (h : Q₁ (.ref s.heap.objs.size) { s with heap := s.heap.push (setObj #[] 0 (.fresh 0 0 (ledOf w))) }) :
    codeAny (model prog w) A (.call (.builtin "set.__new__") ⟨[.type "set", a], []⟩) (wants Q₁ E) s := by
  refine codeAny_of_tree ?_
  show wpAny _ A.in1 (do checkBuiltinCall "set.__new__" ⟨[.type "set", a], []⟩; again (.builtin "set.__new__" ⟨[.type "set", a], []⟩)) _ _ s
  refine wpAny_bind (wpAny_of_eq (PySem.F.newCall_set_1 a) (wpAny_pure ⟨plainId_quiet PySem.F.plain_set_new _, codeAny_builtin PySem.F.entry_set_new ?_⟩))
  rw [Around.under_plainId PySem.F.plain_set_new _]
  unfold Builtin.«set.__new__» Builtin.Frozenset.newClass
  have hsub := sub_set_self
  obtain ⟨hp, g, d, tk, os⟩ := s
  dsimp only
  wp_walk
  refine wpAny_askSetting (wpAny_pure ?_)
  dsimp only
  simp only [newObj]
  refine wpAny_bind (wpAny_alloc (wpAny_pure ?_))
  exact wpAny_pure h
end
end Mine

set_option autoImplicit false
set_option maxRecDepth 100000
namespace Mine
open PySem PySem.Calls PyProof.Rows

section
variable {prog : Program} {w : World} {A : Around} {E : Value → Shared → Prop} {s : Shared}
theorem si_fresh {h : Heap} {a : Addr} {L : Bool} (ho : h.get? a = some (setObj #[] 0 (.fresh 0 0 L))) : SI h a L [] := ⟨#[], 0, _, ho, ⟨fun e he => by simp at he, fun e he => by simp at he, List.Perm.refl _, List.nodup_nil⟩, rfl, tb_fresh, rfl, .inl ⟨rfl, by decide⟩, rfl⟩
set_option maxHeartbeats 3200000 in
theorem set_call {l : Addr} {items : Array Value} {ns : List Int} {Q : Value → Shared → Prop} (hh : A.handled = none) (hl : s.heap.IsList l items) (hi : IntsAre items.toList ns) (hb : items.size ≤ 18) (hsm : ∀ i, i < items.size → ∃ m : Nat, hashInt (ns.getD i 0) = (m : Int) ∧ m < 64)
    (h : ∀ (h' : Heap) (tk : Nat), SI h' s.heap.objs.size (ledOf w) (firstMet (fun i => ns.getD i 0) items.size) → (∀ b o, b < s.heap.objs.size → s.heap.get? b = some o → h'.get? b = some o) → Q (.ref s.heap.objs.size) { s with heap := h', toks := tk }) :
    wpAny (model prog w) A (call (.type "set") [.ref l]) Q E s := by
  obtain ⟨c, tl, hmro⟩ := PySem.F.called_set.mro
  have hmade := PySem.F.called_set.made
  have hsub := PySem.F.called_set.sub
  refine wpAny_call (codeAny_of_tree ?_)
  show wpAny _ _ (callAny (.type "set") _) _ _ _
  refine wpAny_pure ⟨Code.quiet_builtin _ (by decide +kernel), codeAny_builtin PySem.F.entry_type_call ?_⟩
  rw [Around.under_plain (weight_type_call_type "set" [.ref l] []) rfl]
  have h1 := PySem.F.called_set.notType
  have h2 := PySem.F.called_set.canCreate
  have hct := PySem.F.typeCall_set_1 (.ref l)
  repeat (any_goals (first | assumption | wp_step))
  refine codeAny_mono (set_new (.ref l) (E := E) (Q₁ := fun obj s₁ => obj = .ref s.heap.objs.size ∧ s₁ = { s with heap := s.heap.push (setObj #[] 0 (.fresh 0 0 (ledOf w))) }) ⟨rfl, rfl⟩) fun r s₁ hr => ?_
  cases r with
  | error e => exact hr
  | ok fl =>
    cases fl with
    | ret obj =>
      obtain ⟨rfl, rfl⟩ := hr
      have hS : (s.heap.push (setObj #[] 0 (.fresh 0 0 (ledOf w)))).get? s.heap.objs.size = some (setObj #[] 0 (.fresh 0 0 (ledOf w))) := Heap.get?_push_size _ rfl
      have hT : Shared.TypeIs { s with heap := s.heap.push (setObj #[] 0 (.fresh 0 0 (ledOf w))) } (.ref s.heap.objs.size) "set" := ⟨_, hS, rfl⟩
      have hli := PySem.F.called_set.init.lookup
      have hbi := PySem.F.called_set.init.bind (.ref s.heap.objs.size)
      repeat (any_goals (first | assumption | wp_step))
      refine codeAny_mono (codeAny_call_builtin (R := wants (fun r s₂ => r = .none ∧ ∃ h' tk, s₂ = { s with heap := h', toks := tk } ∧ SI h' s.heap.objs.size (ledOf w) (firstMet (fun i => ns.getD i 0) items.size) ∧
          (∀ b o, b < s.heap.objs.size → s.heap.get? b = some o → h'.get? b = some o)) E) PySem.F.called_set.init.plain PySem.F.entry_set_init (check_set_init_1 hT ?_)) fun r₂ s₂ hr₂ => ?_
      · obtain ⟨ol, hol, hcl, nl, hdl⟩ := hl
        obtain ⟨ocls, odict, odata, oslots⟩ := ol
        simp only at hcl hdl
        subst hcl; subst hdl
        have hol' : (s.heap.push (setObj #[] 0 (.fresh 0 0 (ledOf w)))).get? l = some { cls := .type "list", dict := odict, data := .seq items nl, slots := oslots } := Heap.get?_push_of_some _ hol
        have hsls := PySem.F.sub_list_set
        have hslf := PySem.F.sub_list_frozenset
        have hne : (Value.type "list" == Value.type "dict") = false := by decide
        have hl1 : (s.heap.push (setObj #[] 0 (.fresh 0 0 (ledOf w)))).IsList l items := ⟨_, hol', rfl, nl, rfl⟩
        unfold Builtin.«set.__init__» noKeywords Builtin.Frozenset.updateFrom
        generalize hPI : pyIter = PI
        wp_walk
        subst hPI
        refine wpAny_pyIter_list hl1 (wpAny_bind (wpAny_runValue ?_))
        have hlS : l < s.heap.objs.size := Heap.lt_size hol
        have hh3 : A.in1.in1.in1.handled = none := by simp [hh]
        have hz : (s.heap.push (setObj #[] 0 (.fresh 0 0 (ledOf w)))).objs.size = s.heap.objs.size + 1 := Heap.size_push ..
        have hval : ∀ (i : Nat) (v : Value), items[i]? = some v → ∃ t, v = .int ((fun i => ns.getD i 0) i) t := fun i v hv => IntsAre.int_at hi i v (by rw [Array.getElem?_toList]; exact hv)
        refine upd_loop ((Walks.list hh3 _ l (by rw [hz]; exact Nat.ne_of_lt (Nat.lt_succ_of_lt hlS)) items).toS) (L := ledOf w) (S := s.heap.objs.size) (val := fun i => ns.getD i 0) (by rw [hz]; simp only [List.mem_cons, List.not_mem_nil, or_false, not_or]; exact ⟨Nat.ne_of_lt (Nat.lt_succ_self _), Nat.ne_of_gt hlS⟩) hval hb hsm (items.size - 0) 0 _ (by omega) (Nat.zero_le _)
          ⟨⟨_, Heap.get?_push_size _ rfl, rfl, rfl⟩, (hl1.push _)⟩ (si_fresh (Heap.get?_push_of_some _ hS)) fun s' hm hS' => ?_
        obtain ⟨h', g', d', tk', os'⟩ := s'
        have eg : g' = s.gens := hm.gens
        have ed : d' = s.drawn := hm.drawn
        have eo : os' = s.os := hm.os
        subst eg; subst ed; subst eo
        show wpAny _ _ _ _ _ _
        refine wpAny_pure ?_
        show wpAny _ _ (ret Value.none) _ _ _
        refine wpAny_pure ⟨rfl, h', tk', rfl, hS', fun b o hb e => ?_⟩
        exact hm.heap b o (by rw [hz]; simp only [List.mem_cons, List.not_mem_nil, or_false, not_or]; exact ⟨Nat.ne_of_lt hb, Nat.ne_of_lt (Nat.lt_succ_of_lt hb)⟩) (Heap.get?_push_of_some _ (Heap.get?_push_of_some _ e))
      · cases r₂ with
        | error e => exact hr₂
        | ok fl₂ =>
          cases fl₂ with
          | ret r =>
            obtain ⟨rfl, h', tk, rfl, hS', hk'⟩ := hr₂
            repeat (any_goals (first | assumption | wp_step))
            exact h _ _ hS' hk'
          | _ => exact hr₂.elim
    | _ => exact hr.elim
end
end Mine

set_option autoImplicit false
set_option maxRecDepth 100000
namespace Mine
open PySem PySem.Calls PyProof.Rows
theorem entry_set_iter : entryFor table "set.__iter__" = some Builtin.«frozenset.__iter__» := entryFor_alias (id' := "frozenset.__iter__") (by kernel_rfl) rfl (by decide +kernel) (by kernel_rfl)
theorem slot_si_next : Slot "set_iterator" "__next__" "set_iterator.__next__" :=
  .of (owner := "set_iterator") (n := "__next__") (by rw [typeLookup_type, builtinLookup_eq_fast]; kernel_rfl) (by decide +kernel) (by decide +kernel) (by decide +kernel)
    (by first | exact .inl (by decide +kernel) | exact .inr (by decide +kernel)) (by rw [isSubtype_type]; kernel_rfl)
theorem entry_si_next : entryFor table "set_iterator.__next__" = some Builtin.«set_iterator.__next__» := entryFor_of_tree (by kernel_rfl)
theorem args_si_next (a : Value) : argsOk "set_iterator.__next__" ⟨[a], []⟩ := by unfold argsOk; kernel_rfl

section
variable {prog : Program} {w : World} {A : Around} {E : Value → Shared → Prop} {s : Shared} {a : Addr} {L : Bool} {ks : List Int}
noncomputable def itObj (first : Value) (i : Nat) (S : Addr) (n ep : Nat) : Obj := { cls := .type "set_iterator", data := .fields #[first, rawInt i, .ref S, rawInt n, rawInt ep] }
theorem drawn_is {es : Array (Int × Value)} {ep : Nat} {t : SetTable} {Q : Bool → Shared → Prop} (ho : s.heap.get? a = some (setObj es ep t)) (hf : t.fits es.size = true) (h : Q (!w.params.followText "set-order" && (!t.plain && decide (es.size > 1))) s) : wpAny (model prog w) A (setDrawn a) Q E s := by
  unfold setDrawn
  refine wpAny_bind (wpAny_setState_of ho rfl hf ?_)
  unfold setsByText
  exact wpAny_bind (wpAny_bind (wpAny_askSetting (wpAny_pure (wpAny_pure h))))
theorem iter_set {es : Array (Int × Value)} {ep : Nat} {t : SetTable} {Q : Value → Shared → Prop} (ho : s.heap.get? a = some (setObj es ep t)) (hf : t.fits es.size = true) (hn : (w.params.followText "set-order" = true) ∨ t.plain = true ∨ es.size ≤ 1)
    (h : Q (.ref s.heap.objs.size) { s with heap := s.heap.push (itObj (rawInt 0) 0 a es.size ep) }) : wpAny (model prog w) A (pyIter (.ref a)) Q E s := by
  have hT : s.TypeIs (.ref a) "set" := ⟨_, ho, rfl⟩
  refine wpAny_pyIter_slot hT PySem.F.slot_set_iter (wpAny_call_entry PySem.F.slot_set_iter hT entry_set_iter ?_ (PySem.F.args_set_iter_1 _))
  unfold Builtin.«frozenset.__iter__» Builtin.Frozenset.slot0 slotArgs
  simp only [List.isEmpty_nil, Bool.not_true, Bool.false_eq_true, ↓reduceIte, bind_assoc, List.length_nil, bne_self_eq_false]
  unfold Builtin.Frozenset.addrOf Builtin.Frozenset.sizeOf
  refine wpAny_bind (wpAny_pure ?_)
  try dsimp only
  refine wpAny_bind (wpAny_pure ?_)
  refine wpAny_bind (wpAny_bind (wpAny_setEntries_of ho rfl hf (wpAny_pure ?_)))
  refine wpAny_bind (drawn_is ho hf ?_)
  have hb : (!w.params.followText "set-order" && (!t.plain && decide (es.size > 1))) = false := by
    rcases hn with h | h | h
    · rw [h]; rfl
    · rw [h]; simp
    · have : decide (es.size > 1) = false := decide_eq_false (by omega)
      rw [this]; simp
  rw [hb]
  simp only [Bool.false_eq_true, ↓reduceIte]
  refine wpAny_bind (wpAny_pure ?_)
  unfold setEpoch
  refine wpAny_bind (wpAny_bind (wpAny_setState_of ho rfl hf (wpAny_pure ?_)))
  unfold newFields
  refine wpAny_bind (wpAny_newObj_type ?_ (by size_fits))
  exact wpAny_pure ⟨_, rfl, "set_iterator", _, ⟨_, Heap.get?_push_size _ rfl, rfl⟩, slot_si_next.lookup, h⟩
end
end Mine

set_option autoImplicit false
set_option maxRecDepth 100000
namespace Mine
open PySem PySem.Calls PyProof.Rows
section
variable {prog : Program} {w : World} {A : Around} {E : Value → Shared → Prop} {s : Shared} {a I : Addr}
theorem next_item {first : Nat} {i n ep : Nat} {es : Array (Int × Value)} {t : SetTable} {x : Value} {nx : Nat} {Q : Option Value → Shared → Prop} (hI : s.heap.get? I = some (itObj (rawInt first) i a n ep)) (ho : s.heap.get? a = some (setObj es ep t)) (hf : t.fits es.size = true) (hn : es.size = n)
    (hx : ∀ (Q' : Option (Value × Nat) → Shared → Prop) (A' : Around) (E' : Value → Shared → Prop), Q' (some (x, nx)) s → wpAny (model prog w) A' (setNext a first i ep) Q' E' s)
    (hQ : ∀ h', Heap.SameBut I s.heap h' → h'.get? I = some (itObj (rawInt nx) (i + 1) a n ep) → Q (some x) { s with heap := h' }) : wpAny (model prog w) A (pyNext (.ref I)) Q E s := by
  have hT : s.TypeIs (.ref I) "set_iterator" := ⟨_, hI, rfl⟩
  unfold pyNext
  refine wpAny_bind (wpAny_attempt (wpAny_callSpecial?_slot (name := Str.ofString "__next__") hT slot_si_next (wpAny_call_entry slot_si_next hT entry_si_next ?_ (args_si_next _))))
  unfold Builtin.«set_iterator.__next__»
  refine wpAny_bind (wpAny_pure ?_)
  refine wpAny_bind (wpAny_fieldsOf hI rfl ?_)
  show wpAny _ _ (setEntries a >>= _) _ _ s
  refine wpAny_bind (wpAny_setEntries_of ho rfl hf ?_)
  have hne : ((es.size : Int) != (n : Int)) = false := by rw [hn]; simp
  simp only [hne, Bool.false_eq_true, if_false]
  show wpAny _ _ (setNext a first i ep >>= _) _ _ s
  refine wpAny_bind (hx _ _ _ ?_)
  show wpAny _ _ (setField (.ref I) 0 (rawInt nx) >>= _) _ _ s
  refine wpAny_bind (wpAny_setField hI rfl (by simp) ?_)
  have g1 : (s.heap.update I (Obj.mapFields (·.setIfInBounds 0 (rawInt nx)))).get? I = some (itObj (rawInt nx) i a n ep) := Heap.get?_update_self _ hI rfl
  show wpAny _ _ (setField (.ref I) 1 (rawInt ((i : Int) + 1)) >>= _) _ _ _
  refine wpAny_bind (wpAny_setField (s := { s with heap := s.heap.update I (Obj.mapFields (·.setIfInBounds 0 (rawInt nx))) }) g1 rfl (by simp) ?_)
  have g2 : ((s.heap.update I (Obj.mapFields (·.setIfInBounds 0 (rawInt nx)))).update I (Obj.mapFields (·.setIfInBounds 1 (rawInt ((i : Int) + 1))))).get? I = some (itObj (rawInt nx) (i + 1) a n ep) := Heap.get?_update_self _ g1 rfl
  exact wpAny_pure ⟨_, rfl, wpAny_pure (hQ _ ((Heap.SameBut.update ..).trans (Heap.SameBut.update ..)) g2)⟩
theorem next_end {first : Nat} {i n ep : Nat} {es : Array (Int × Value)} {t : SetTable} {Q : Option Value → Shared → Prop} (hh : A.handled = none) (hI : s.heap.get? I = some (itObj (rawInt first) i a n ep)) (ho : s.heap.get? a = some (setObj es ep t)) (hf : t.fits es.size = true) (hn : es.size = n)
    (hx : ∀ (Q' : Option (Value × Nat) → Shared → Prop) (A' : Around) (E' : Value → Shared → Prop), Q' none s → wpAny (model prog w) A' (setNext a first i ep) Q' E' s)
    (hQ : ∀ h', Heap.ExtBut I s.heap h' → Q none { s with heap := h' }) : wpAny (model prog w) A (pyNext (.ref I)) Q E s := by
  have hT : s.TypeIs (.ref I) "set_iterator" := ⟨_, hI, rfl⟩
  unfold pyNext
  refine wpAny_bind (wpAny_attempt (wpAny_callSpecial?_slot (name := Str.ofString "__next__") hT slot_si_next (wpAny_call_entry slot_si_next hT entry_si_next ?_ (args_si_next _))))
  unfold Builtin.«set_iterator.__next__»
  refine wpAny_bind (wpAny_pure ?_)
  refine wpAny_bind (wpAny_fieldsOf hI rfl ?_)
  show wpAny _ _ (setEntries a >>= _) _ _ s
  refine wpAny_bind (wpAny_setEntries_of ho rfl hf ?_)
  have hne : ((es.size : Int) != (n : Int)) = false := by rw [hn]; simp
  simp only [hne, Bool.false_eq_true, if_false]
  show wpAny _ _ (setNext a first i ep >>= _) _ _ s
  refine wpAny_bind (hx _ _ _ ?_)
  show wpAny _ _ (setField (.ref I) 2 .none >>= _) _ _ s
  refine wpAny_bind (wpAny_setField hI rfl (by simp) ?_)
  show wpAny _ _ (newExc (.type "StopIteration") [] >>= _) _ _ _
  refine wpAny_bind ?_
  simp only [newExc, newTuple]
  refine wpAny_bind (wpAny_newObj_type ?_ (by size_fits))
  refine wpAny_bind (m := firstArgMember _ _) (wpAny_of_eq (a := Value.none) (by first | rfl | (simp only [firstArgMember]; rfl)) ?_)
  refine wpAny_newObj_type ?_ (by size_fits)
  simp only [raiseNew]
  refine wpAny_bind (wpAny_handled ?_)
  rw [show A.in1.handled = none from hh]
  refine wpAny_bind (wpAny_pure (wpAny_throw ?_))
  refine wpAny_bind (wpAny_isInstance (T := "StopIteration") (b := true) ⟨_, Heap.get?_push_size _ rfl, rfl⟩ isSubtype_stop ?_)
  exact wpAny_pure (hQ _ (((Heap.SameBut.update ..).extBut.push _).push _))
theorem setNext_slot {es : Array (Int × Value)} {ep slot i : Nat} {t : SetTable} {L : Bool} {Q : Option (Value × Nat) → Shared → Prop} (ho : s.heap.get? a = some (setObj es ep t)) (hf : t.fits es.size = true) (hw : w.params.followText "set-order" = false) (ht : Tb L t) (hL : L = true) (hp : t.plain = true) (hb : SetTable.below t.place slot = i)
    (h : Q (match es[i]?, t.place[i]? with | some (_, x), some j => some (x, j + 1) | _, _ => none) s) {g : Nat} : wpAny (model prog w) A (setNext a slot g ep) Q E s := by
  unfold setNext
  refine wpAny_bind (wpAny_setState_of ho rfl hf ?_)
  unfold setsByText
  refine wpAny_bind (wpAny_bind (wpAny_askSetting (wpAny_pure ?_)))
  dsimp only
  have hw' : (model prog w).w.params.followText "set-order" = false := hw
  rw [hw']
  simp only [Bool.false_eq_true, if_false]
  split
  · rename_i q
    have q : (!t.plain && decide (es.size > 1)) = true := q
    rw [hp] at q; cases q
  · refine wpAny_bind ?_
    show wpAny _ _ (if (!t.led && !es.isEmpty) = true then unsupported "set:maker-not-led" else pure ()) _ _ s
    have hl : (!t.led && !es.isEmpty) = false := by rw [ht.led, hL]; rfl
    rw [hl, if_neg Bool.false_ne_true]
    rw [hb]
    exact wpAny_pure (wpAny_pure h)
noncomputable def slotAt (t : SetTable) (i : Nat) : Nat := if i = 0 then 0 else t.place.getD (i - 1) 0 + 1
theorem below_slot {t : SetTable} (hr : Ris t.place) {i : Nat} (hi : i ≤ t.place.size) : SetTable.below t.place (slotAt t i) = i := by
  have inc : ∀ {p q x y : Nat}, p < q → t.place.toList[p]? = some x → t.place.toList[q]? = some y → x < y := fun {p q x y} hpq hx hy => by
    have := List.pairwise_iff_getElem.mp hr p q (List.getElem?_eq_some_iff.mp hx).1 (List.getElem?_eq_some_iff.mp hy).1 hpq
    rw [(List.getElem?_eq_some_iff.mp hx).2, (List.getElem?_eq_some_iff.mp hy).2] at this
    exact this
  refine below_is hr hi (fun k y hk e => ?_) fun k y hk e => ?_
  · unfold slotAt
    rw [if_neg (by omega)]
    have hlt : i - 1 < t.place.size := by omega
    have hg : t.place.toList[i - 1]? = some (t.place.getD (i - 1) 0) := by simp [Array.getD, hlt]
    by_cases q : k = i - 1
    · subst q; rw [hg] at e; cases e; omega
    · have := inc (show k < i - 1 by omega) e hg; omega
  · unfold slotAt
    split
    · omega
    · have hlt : i - 1 < t.place.size := by omega
      have hg : t.place.toList[i - 1]? = some (t.place.getD (i - 1) 0) := by simp [Array.getD, hlt]
      have := inc (show i - 1 < k by omega) hg e; omega
end
end Mine

set_option autoImplicit false
set_option maxRecDepth 100000
namespace Mine
open PySem PySem.Calls PyProof.Rows
theorem erase_perm {α : Type} : ∀ {l : List α} {n : Nat} {x : α}, l[n]? = some x → (x :: l.eraseIdx n).Perm l
  | [], n, x, h => by simp at h
  | a :: l, 0, x, h => by simp at h; subst h; exact List.Perm.refl _
  | a :: l, n + 1, x, h => by
    simp only [List.getElem?_cons_succ] at h
    exact (List.Perm.swap _ _ _).trans ((erase_perm h).cons a)
theorem pick_go {α : Type} (next : Nat → Nat) : ∀ (fuel k : Nat) (left : List α) (out : Array α), left.length ≤ fuel → (pickOrder.go next fuel k left out).toList.Perm (out.toList ++ left)
  | 0, k, left, out, h => by
    have : left = [] := List.length_eq_zero_iff.mp (Nat.le_zero.mp h)
    subst this; unfold pickOrder.go; rw [List.append_nil]
  | fuel + 1, k, left, out, h => by
    unfold pickOrder.go
    cases hx : left[next k % left.length]? with
    | none =>
      have hl : left.length ≤ next k % left.length := List.getElem?_eq_none_iff.mp hx
      have : left = [] := by
        cases left with
        | nil => rfl
        | cons a l => have := Nat.mod_lt (next k) (show 0 < (a :: l).length by simp); omega
      subst this; dsimp only; rw [List.append_nil]
    | some x =>
      obtain ⟨hlt, he⟩ := List.getElem?_eq_some_iff.mp hx
      have ih := pick_go next fuel (k + 1) (left.eraseIdx (next k % left.length)) (out.push x) (by rw [List.length_eraseIdx_of_lt hlt]; omega)
      refine ih.trans ?_
      rw [Array.toList_push, List.append_assoc]
      refine List.Perm.append_left _ ?_
      exact erase_perm hx
theorem pick_perm {α : Type} (next : Nat → Nat) (xs : Array α) : (pickOrder next xs).toList.Perm xs.toList := by
  have := pick_go next xs.size 0 xs.toList #[] (by simp)
  simpa [pickOrder] using this
section
variable {prog : Program} {w : World} {A : Around} {E : Value → Shared → Prop} {s : Shared} {a I : Addr}
theorem setNext_text {es : Array (Int × Value)} {ep slot g : Nat} {t : SetTable} {Q : Option (Value × Nat) → Shared → Prop} (ho : s.heap.get? a = some (setObj es ep t)) (hf : t.fits es.size = true) (hw : w.params.followText "set-order" = true)
    (h : Q (((pickOrder (w.params.setOrder a ep) es)[g]?).map fun e => (e.2, slot)) s) : wpAny (model prog w) A (setNext a slot g ep) Q E s := by
  unfold setNext
  refine wpAny_bind (wpAny_setState_of ho rfl hf ?_)
  have hw' : (model prog w).w.params.followText "set-order" = true := hw
  have by1 : ∀ {A' : Around} {Q' : Bool → Shared → Prop}, Q' true s → wpAny (model prog w) A' setsByText Q' E s := fun {A' Q'} hq => by
    unfold setsByText
    refine wpAny_bind (wpAny_askSetting (wpAny_pure ?_))
    show Q' ((model prog w).w.params.followText "set-order") s
    rw [hw']; exact hq
  refine wpAny_bind (by1 ?_)
  dsimp only
  rw [if_pos rfl]
  have he : (ep != ep) = false := by simp
  simp only [he, Bool.false_eq_true, if_false]
  unfold setWalk
  refine wpAny_bind (wpAny_bind (wpAny_setState_of ho rfl hf ?_))
  refine wpAny_bind (by1 ?_)
  rw [if_pos rfl]
  exact wpAny_bind (wpAny_askSetting (wpAny_pure (wpAny_pure h)))
end
end Mine

set_option autoImplicit false
set_option maxRecDepth 100000
namespace Mine
open PySem PySem.Calls PyProof.Rows
section
variable {prog : Program} {w : World} {A : Around} {E : Value → Shared → Prop} {s : Shared} {a I : Addr}
noncomputable def ordOf (w : World) (a : Addr) (ep : Nat) (es : Array (Int × Value)) : List (Int × Value) := if w.params.followText "set-order" then (pickOrder (w.params.setOrder a ep) es).toList else es.toList
theorem ord_perm {ep : Nat} {es : Array (Int × Value)} : (ordOf w a ep es).Perm es.toList := by
  unfold ordOf
  split
  · exact pick_perm _ _
  · exact List.Perm.refl _
noncomputable def firstOf (w : World) (t : SetTable) (i : Nat) : Nat := if w.params.followText "set-order" then 0 else slotAt t i
theorem next_at {es : Array (Int × Value)} {ep i : Nat} {t : SetTable} (ho : s.heap.get? a = some (setObj es ep t)) (hf : t.fits es.size = true) (ht : Tb (ledOf w) t) (tq : Tq t es.size) (hi : i ≤ es.size) {Q : Option (Value × Nat) → Shared → Prop}
    (h : Q (((ordOf w a ep es)[i]?).map fun e => (e.2, firstOf w t (i + 1))) s) : wpAny (model prog w) A (setNext a (firstOf w t i) i ep) Q E s := by
  cases hw : w.params.followText "set-order" with
  | true =>
    refine setNext_text ho hf hw ?_
    unfold ordOf firstOf at h
    unfold firstOf
    rw [hw] at h ⊢
    simpa using h
  | false =>
    have hL : ledOf w = true := by unfold ledOf; rw [hw]; rfl
    have e1 : firstOf w t i = slotAt t i := by unfold firstOf; rw [hw]; rfl
    have e2 : firstOf w t (i + 1) = slotAt t (i + 1) := by unfold firstOf; rw [hw]; rfl
    rw [e1]
    refine setNext_slot ho hf hw ht hL tq.pl (below_slot ht.ris (by rw [tq.sz]; exact hi)) ?_
    rw [e2] at h
    unfold ordOf at h
    rw [hw] at h
    simp only [Bool.false_eq_true, if_false, Array.getElem?_toList] at h
    by_cases hlt : i < es.size
    · have hp : i < t.place.size := by rw [tq.sz]; exact hlt
      rw [Array.getElem?_eq_getElem hlt] at h ⊢
      rw [Array.getElem?_eq_getElem hp]
      have es' : slotAt t (i + 1) = t.place[i] + 1 := by unfold slotAt; simp [Array.getD, hp]
      rw [es'] at h
      exact h
    · rw [Array.getElem?_eq_none (by omega)] at h ⊢
      exact h
end
end Mine

set_option autoImplicit false
set_option maxRecDepth 100000
namespace Mine
open PySem PySem.Calls PyProof.Rows
theorem entry_si_iter : entryFor table "set_iterator.__iter__" = some Builtin.«dict_keyiterator.__iter__» := entryFor_alias (id' := "dict_keyiterator.__iter__") (by kernel_rfl) rfl (by decide +kernel) (by kernel_rfl)
theorem slot_si_iter : Slot "set_iterator" "__iter__" "set_iterator.__iter__" :=
  .of (owner := "set_iterator") (n := "__iter__") (by rw [typeLookup_type, builtinLookup_eq_fast]; kernel_rfl) (by decide +kernel) (by decide +kernel) (by decide +kernel)
    (by first | exact .inl (by decide +kernel) | exact .inr (by decide +kernel)) (by rw [isSubtype_type]; kernel_rfl)
theorem args_si_iter (a : Value) : argsOk "set_iterator.__iter__" ⟨[a], []⟩ := by unfold argsOk; kernel_rfl
section
variable {prog : Program} {w : World} {A : Around}
theorem set_walks (hh : A.handled = none) (I a : Addr) (hne : a ≠ I) {es : Array (Int × Value)} {ep : Nat} {t : SetTable} (hf : t.fits es.size = true) (ht : Tb (ledOf w) t) (tq : Tq t es.size) :
    Walks prog w A I [I, a] [I] es.size (fun i v => ∃ e, (ordOf w a ep es)[i]? = some e ∧ v = e.2) (fun i h => h.get? I = some (itObj (rawInt (firstOf w t i)) i a es.size ep) ∧ h.get? a = some (setObj es ep t)) where
  sub := fun b hb => by simp at hb; simp [hb]
  frame := fun _ _ _ st hk => ⟨hk I (by simp) _ st.1, hk a (by simp) _ st.2⟩
  item := fun i s Q E hi st hQ => by
    have hlen : (ordOf w a ep es).length = es.size := by rw [ord_perm.length_eq]; simp
    obtain ⟨e, he⟩ : ∃ e, (ordOf w a ep es)[i]? = some e := ⟨(ordOf w a ep es)[i]'(by omega), by simp [hlen, hi]⟩
    refine next_item (x := e.2) (nx := firstOf w t (i + 1)) st.1 st.2 hf rfl (fun Q' A' E' hq => next_at st.2 hf ht tq (Nat.le_of_lt hi) (by rw [he]; exact hq)) fun h' hs g => ?_
    exact hQ e.2 h' s.toks ⟨e, he, rfl⟩ ⟨g, by rw [hs.2 a hne]; exact st.2⟩ fun b o hb q => by rw [hs.2 b (fun z => hb (by simp [z]))]; exact q
  done := fun s Q E st hQ => by
    have hlen : (ordOf w a ep es).length = es.size := by rw [ord_perm.length_eq]; simp
    refine next_end hh st.1 st.2 hf rfl (fun Q' A' E' hq => next_at st.2 hf ht tq (Nat.le_refl _) (by rw [List.getElem?_eq_none (by omega)]; exact hq)) fun h' hs => ?_
    exact hQ h' s.toks fun b o hb q => hs b o (fun z => hb (by simp [z])) q
  self := fun i s Q E st hQ => by
    have hT : s.TypeIs (.ref I) "set_iterator" := ⟨_, st.1, rfl⟩
    refine wpAny_pyIter_slot hT slot_si_iter (wpAny_call_entry slot_si_iter hT entry_si_iter ?_ (args_si_iter _))
    show wpAny _ _ (ret (.ref I)) _ _ s
    exact wpAny_pure ⟨_, rfl, "set_iterator", _, hT, slot_si_next.lookup, hQ⟩
end
end Mine

set_option autoImplicit false
set_option maxRecDepth 100000
namespace Mine
open PySem PySem.Calls PyProof.Rows
section
variable {prog : Program} {w : World} {A : Around} {E : Value → Shared → Prop} {s : Shared}
theorem set_hint {d : Addr} {Q : Bool → Shared → Prop} (ty : s.TypeIs (.ref d) "set") (h : Q false s) : wpAny (model prog w) A (Builtin.List.listLengthHint (.ref d)) Q E s := by
  unfold Builtin.List.listLengthHint
  refine wpAny_bind (wpAny_specialOf ty PySem.F.slot_set_len.lookup ?_)
  generalize hid : ("set.__len__" : String) = id0
  wp_delta
  rw [show splitId id0 = some ("set", "__len__") from by subst hid; decide +kernel]
  subst hid
  refine wpAny_bind (wpAny_isInstance (T := "set") (b := true) ty (by rw [isSubtype_type]; kernel_rfl) ?_)
  refine wpAny_ite_split (fun q => absurd q (by decide)) fun _ => ?_
  refine wpAny_ite_split (fun _ => wpAny_bind (wpAny_typeOf ty (wpAny_pure h))) fun q => absurd (by decide +kernel) q
theorem gather_set {d : Addr} {es : Array (Int × Value)} {ep : Nat} {t : SetTable} {R : List Value → Shared → Prop} (hh : A.handled = none) (ho : s.heap.get? d = some (setObj es ep t)) (hf : t.fits es.size = true) (ht : Tb (ledOf w) t) (tq : Tq t es.size) (hn : es.size ≤ sizeLine)
    (h : ∀ (h' : Heap) (tk : Nat) (acc : Array Value), (∀ b o, s.heap.get? b = some o → h'.get? b = some o) → ItemsOf (fun i v => ∃ e, (ordOf w d ep es)[i]? = some e ∧ v = e.2) acc es.size → R acc.toList { s with heap := h', toks := tk }) :
    wpAny (model prog w) A (collect (.ref d)) R E s := by
  have old : d < s.heap.objs.size := Heap.lt_size ho
  unfold collect
  refine wpAny_bind (wpAny_runValue (codeAny_builtin entry_proto_collect' ?_))
  rw [Around.under_plainId PySem.F.plain_proto_collect _]
  show wpAny _ A.in1 (newList [] >>= fun l => again (.builtin "list.__iadd__" ⟨[l, .ref d], []⟩)) _ _ s
  refine wpAny_bind (wpAny_newObj_type ?_)
  refine wpAny_pure ⟨plainId_quiet PySem.F.plain_list_iadd _, codeAny_builtin entry_list_iadd' ?_⟩
  rw [Around.under_plainId PySem.F.plain_list_iadd _]
  generalize hN : s.heap.objs.size = N
  have hN1 : (s.heap.push { cls := .type "list", data := .seq ([] : List Value).toArray }).get? N = some { cls := .type "list", data := .seq #[] } := by rw [← hN]; exact Heap.get?_push_size _ rfl
  have keep1 : ∀ b o, s.heap.get? b = some o → (s.heap.push { cls := .type "list", data := .seq ([] : List Value).toArray }).get? b = some o := fun b o e => Heap.get?_push_of_some _ e
  generalize s.heap.push { cls := .type "list", data := .seq ([] : List Value).toArray } = g1 at *
  have ho1 := keep1 _ _ ho
  show wpAny _ A.in1 (Builtin.List.listExtendWith (.ref N) (.ref d) (.ref N)) _ _ _
  have hdN : N ≠ d := hN ▸ Nat.ne_of_gt old
  have ty1 : Shared.TypeIs { s with heap := g1 } (.ref d) "set" := ⟨_, ho1, rfl⟩
  unfold Builtin.List.listExtendWith
  refine wpAny_bind (wpAny_typeOf (T := "set") (s := { s with heap := g1 }) ty1 ?_)
  have h1 : Builtin.List.listSameRef (.ref N) (.ref d) = false := by simp [Builtin.List.listSameRef, hdN]
  have n1 : (Value.type "set" == Value.type "list") = false := by decide
  have n2 : (Value.type "set" == Value.type "tuple") = false := by decide
  simp only [h1, n1, n2, Bool.or_false, Bool.false_eq_true, if_false]
  refine wpAny_bind (iter_set (s := { s with heap := g1 }) ho1 hf (.inr (.inl tq.pl)) ?_)
  generalize hI : g1.objs.size = I
  have hIN : N ≠ I := hI ▸ Nat.ne_of_lt (Heap.lt_size hN1)
  have hId : d ≠ I := hI ▸ Nat.ne_of_lt (Heap.lt_size ho1)
  have W := set_walks (prog := prog) (w := w) (A := A.in1) hh I d hId (ep := ep) hf ht tq
  have z0 : firstOf w t 0 = 0 := by unfold firstOf slotAt; split <;> rfl
  have hN2 := Heap.get?_push_of_some (itObj (rawInt 0) 0 d es.size ep) hN1
  have ho2 := Heap.get?_push_of_some (itObj (rawInt 0) 0 d es.size ep) ho1
  have st2 : (g1.push (itObj (rawInt 0) 0 d es.size ep)).get? I = some (itObj (rawInt (firstOf w t 0)) 0 d es.size ep) := by rw [← hI, z0]; exact Heap.get?_push_size _ rfl
  have keep2 : ∀ b o, g1.get? b = some o → (g1.push (itObj (rawInt 0) 0 d es.size ep)).get? b = some o := fun b o e => Heap.get?_push_of_some _ e
  generalize g1.push (itObj (rawInt 0) 0 d es.size ep) = g2 at *
  have hNf : N ∉ [I, d] := by simp only [List.mem_cons, List.not_mem_nil, or_false, not_or]; exact ⟨hIN, hdN⟩
  have loop : ∀ (R' : Result → Shared → Prop) (g : Heap) (c₁ tk : Nat), (∀ (h' : Heap) (tk : Nat) (acc : Array Value) (c' : Nat), (∀ b o, s.heap.get? b = some o → h'.get? b = some o) → h'.get? N = some { cls := .type "list", dict := none, data := .seq acc c', slots := #[] } → ItemsOf (fun i v => ∃ e, (ordOf w d ep es)[i]? = some e ∧ v = e.2) acc es.size → R' (.ok (.ret (.ref N))) { s with heap := h', toks := tk }) →
      g.get? I = some (itObj (rawInt (firstOf w t 0)) 0 d es.size ep) → g.get? d = some (setObj es ep t) → (∀ b o, b ≠ N → g2.get? b = some o → g.get? b = some o) → g.get? N = some { cls := .type "list", data := .seq #[] c₁ } →
      codeAny (model prog w) A (.builtin "list.extend.loop" ⟨[.ref N, .ref I, .ref N], []⟩) R' { s with heap := g, toks := tk } := by
    intro R' g c₁ tk hR i1 i2 kg gN
    refine codeAny_extend_loopS W.toS hn N hNf (.ref N) es.size 0 _ #[] c₁ rfl (Nat.zero_le _) ⟨i1, i2⟩ gN (ItemsOf.nil _) fun s' acc c' hm hS' hacc => ?_
    rw [Moved.eq_with hm]
    refine hR s'.heap s'.toks acc c' (fun b o e => hm.heap b o (fun hmem => ?_) (kg b o (fun q => ?_) (keep2 b o (keep1 b o e)))) hS' hacc
    · rcases List.mem_cons.mp hmem with q | hmem
      · exact absurd (Heap.lt_size e) (by rw [hN, q]; exact Nat.lt_irrefl _)
      · exact absurd (Heap.lt_size (keep1 b o e)) (by rw [hI, List.mem_singleton.mp hmem]; exact Nat.lt_irrefl _)
    · exact absurd (Heap.lt_size e) (by rw [hN, q]; exact Nat.lt_irrefl _)
  refine wpAny_bind (wpAny_holding (set_hint (s := { s with heap := g2 }) ⟨_, ho2, rfl⟩ ?_))
  refine wpAny_ite_split (fun _ => ?_) fun _ => wpAny_pure ⟨plainId_quiet PySem.F.plain_extend_loop _, loop _ g2 0 s.toks (fun h' tk acc c' hk hS' hacc => ?_) st2 ho2 (fun _ _ _ e => e) hN2⟩
  · refine wpAny_bind (wpAny_rule (wpAny_bind ?_))
    show wpAny _ _ (updateSeq N (·.push .none) >>= fun _ => updateSeq N (·.pop)) _ _ _
    refine wpAny_bind (wpAny_updateSeq hN2 rfl ?_)
    have hN3 := Heap.get?_update_self (Obj.mapSeq (·.push Value.none)) hN2 rfl
    refine wpAny_updateSeq (hz := by seq_fits) hN3 rfl ?_
    have hN4 := Heap.get?_update_self (Obj.mapSeq (·.pop)) hN3 rfl
    have kp4 : ∀ b o, b ≠ N → g2.get? b = some o → ((g2.update N (Obj.mapSeq (·.push Value.none))).update N (Obj.mapSeq (·.pop))).get? b = some o := fun b o hb e => (Heap.get?_update_other _ _ (Ne.symm hb)).trans ((Heap.get?_update_other _ _ (Ne.symm hb)).trans e)
    refine wpAny_pure ⟨plainId_quiet PySem.F.plain_extend_loop _, loop _ _ _ s.toks (fun h' tk acc c' hk hS' hacc => ?_) (kp4 I _ (Ne.symm hIN) st2) (kp4 d _ (Ne.symm hdN) ho2) kp4 hN4⟩
    show wpAny _ A (load N >>= _) _ _ _
    exact wpAny_bind (wpAny_load hS' (wpAny_pure (h h' tk acc hk hacc)))
  · show wpAny _ A (load N >>= _) _ _ _
    exact wpAny_bind (wpAny_load hS' (wpAny_pure (h h' tk acc hk hacc)))
end
end Mine

set_option autoImplicit false
set_option maxRecDepth 100000
namespace Mine
open PySem PySem.Calls PyProof.Rows
theorem ints_els : ∀ (l : List (Int × Value)), (∀ e ∈ l, ∃ t, e.2 = .int (kOf e) t) → IntsAre (l.map (·.2)) (l.map kOf)
  | [], _ => .nil
  | e :: l, h => by
    obtain ⟨t, ht⟩ := h e (.head _)
    rw [List.map_cons, List.map_cons, ht]
    exact .cons _ _ (ints_els l fun x hx => h x (.tail _ hx))
section
variable {S : Sig} {A : Around} {E : Value → Shared → Prop} {s : Shared}
theorem sorted_set {d : Addr} {ks : List Int} {Q : Value → Shared → Prop} (hh : A.handled = none) (hS : SI s.heap d (ledOf S.w) ks) (hk : ks.length ≤ 18)
    (h : ∀ (h' : Heap) (tk : Nat) (ns : List Int) (out : List Value) (n : Nat), ns.Perm ks → (∀ b o, s.heap.get? b = some o → h'.get? b = some o) → ∀ h'' : Heap, (∀ b o, h'.get? b = some o → h''.get? b = some o) → h''.get? h'.objs.size = some (W.listOf (List.toArray out) n) → IntsAre out (sortI ns) → Q (.ref h'.objs.size) { s with heap := h'', toks := tk }) :
    wpAny (model S.prog S.w) A (call (.builtin "sorted") [.ref d]) Q E s := by
  obtain ⟨es, ep, t, ho, he, hf, ht, tq⟩ := hS
  have hsz := els_size he
  have hlen : (ordOf S.w d ep es).length = es.size := by rw [ord_perm.length_eq]; simp
  refine sorted_by (S := S) fun R hR => gather_set hh ho hf ht tq (by rw [sizeLine_eq]; omega) fun h' tk acc hkp hacc => hR h' tk acc.toList hkp ⟨(ordOf S.w d ep es).map kOf, ?_, ?_, fun h'' out n k1 k2 k3 => ?_⟩
  · have e : acc.toList = (ordOf S.w d ep es).map (·.2) := by
      apply List.ext_getElem?
      intro i
      by_cases hi : i < es.size
      · obtain ⟨v, hv⟩ : ∃ v, acc[i]? = some v := ⟨acc[i]'(by rw [hacc.1]; exact hi), by simp [hacc.1, hi]⟩
        obtain ⟨e, g1, g2⟩ := hacc.2 i v hv
        rw [Array.getElem?_toList, hv, List.getElem?_map, g1, g2]; rfl
      · rw [List.getElem?_eq_none (by rw [Array.length_toList, hacc.1]; omega), List.getElem?_eq_none (by rw [List.length_map, hlen]; omega)]
    rw [e]
    exact ints_els _ fun x hx => let ⟨t, h1, _⟩ := he.el x (ord_perm.mem_iff.mp hx); ⟨t, h1⟩
  · rw [Array.length_toList, hacc.1]; omega
  · exact h h' tk _ out n ((ord_perm.map kOf).trans he.pm) hkp h'' k1 k2 k3
end
end Mine

set_option autoImplicit false
namespace Mine
open PySem PySem.W PySem.Calls PyProof.Rows
variable {S : Sig} {c : Cx} {ρ : List Addr}

noncomputable def clsName : Nat → String
  | 0 => "int"
  | 1 => "bool"
  | 2 => "list"
  | 3 => "tuple"
  | _ => "str"

theorem le4 {k : Nat} (h : k ≤ 4) : k = 0 ∨ k = 1 ∨ k = 2 ∨ k = 3 ∨ k = 4 := by lia
theorem sm_isi {k : Nat} {x : V} {v : Value} (hv : VR ρ x v) (hk : k ≤ 4) : SM S c ρ VR (call (.builtin "isinstance") [v, .type (clsName k)]) (X.bind (isinsts S.P x [k]) fun b => X.pure (.bool b)) := by
  intro os σ s r σ' hp hl he Q E hQ
  have hi : isinsts S.P x [k] = isinst S.P x k := by show (if k ≤ 4 then _ else _) = _; rw [if_pos hk]
  rw [hi] at he
  have fin : ∀ b : Bool, isinst S.P x k σ = some (.ok b, σ) → ∀ tk, Q (.bool b) { s with toks := tk } := fun b e tk => by
    unfold X.bind at he; rw [e] at he; cases he
    exact hQ os _ tk _ List.prefix_rfl hl rfl
  have he' : ∃ b, isinst S.P x k σ = some (.ok b, σ) := by
    rcases X.bind_inv he with ⟨b', σ₁, e, _⟩ | ⟨k', e, _⟩
    · unfold isinst at e ⊢
      split at e
      · exact ⟨_, rfl⟩
      · exact ⟨_, rfl⟩
      · exact ⟨_, rfl⟩
      · exact ⟨_, rfl⟩
      · split at e
        · exact ⟨_, rfl⟩
        · exact ⟨_, rfl⟩
        · cases e
      · cases e
    · unfold isinst at e
      split at e
      · cases e
      · cases e
      · cases e
      · cases e
      · split at e <;> cases e
      · cases e
  clear he hQ
  obtain ⟨b, he⟩ := he'
  cases x with
  | none =>
    cases hv
    rcases le4 hk with rfl | rfl | rfl | rfl | rfl
    · exact IsiPair.NoneType_int (fin _ rfl _)
    · exact IsiPair.NoneType_bool (fin _ rfl _)
    · exact IsiPair.NoneType_list (fin _ rfl _)
    · exact IsiPair.NoneType_tuple (fin _ rfl _)
    · exact IsiPair.NoneType_str (fin _ rfl _)
  | bool b =>
    cases hv
    rcases le4 hk with rfl | rfl | rfl | rfl | rfl
    · exact IsiPair.bool_int (fin _ rfl _)
    · exact IsiPair.bool_bool (fin _ rfl _)
    · exact IsiPair.bool_list (fin _ rfl _)
    · exact IsiPair.bool_tuple (fin _ rfl _)
    · exact IsiPair.bool_str (fin _ rfl _)
  | int i =>
    obtain ⟨t, rfl⟩ := hv
    rcases le4 hk with rfl | rfl | rfl | rfl | rfl
    · exact IsiPair.int_int (fin _ rfl _)
    · exact IsiPair.int_bool (fin _ rfl _)
    · exact IsiPair.int_list (fin _ rfl _)
    · exact IsiPair.int_tuple (fin _ rfl _)
    · exact IsiPair.int_str (fin _ rfl _)
  | str st =>
    obtain ⟨t, rfl, _⟩ := hv
    rcases le4 hk with rfl | rfl | rfl | rfl | rfl
    · exact IsiPair.str_int (fin _ rfl _)
    · exact IsiPair.str_bool (fin _ rfl _)
    · exact IsiPair.str_list (fin _ rfl _)
    · exact IsiPair.str_tuple (fin _ rfl _)
    · exact IsiPair.str_str (fin _ rfl _)
  | ref a =>
    unfold isinst at he fin
    dsimp only at he fin
    cases ha : σ.get a with
    | none => rw [ha] at he; cases he
    | some o =>
      rw [ha] at he fin
      cases o with
      | list xs =>
        obtain ⟨A, o1, rfl, _, _, ⟨vs, n, rfl, hvs, hz⟩, h1, _⟩ := hl.ref hp ha hv
        rcases le4 hk with rfl | rfl | rfl | rfl | rfl
        · exact IsiPair.list_int h1 rfl (fin _ rfl _)
        · exact IsiPair.list_bool h1 rfl (fin _ rfl _)
        · exact IsiPair.list_list h1 rfl (fin _ rfl _)
        · exact IsiPair.list_tuple h1 rfl (fin _ rfl _)
        · exact IsiPair.list_str h1 rfl (fin _ rfl _)
      | tup xs =>
        obtain ⟨A, o1, rfl, _, _, ⟨vs, n, rfl, hvs, hz⟩, h1, _⟩ := hl.ref hp ha hv
        rcases le4 hk with rfl | rfl | rfl | rfl | rfl
        · exact IsiPair.tuple_int h1 rfl (fin _ rfl _)
        · exact IsiPair.tuple_bool h1 rfl (fin _ rfl _)
        · exact IsiPair.tuple_list h1 rfl (fin _ rfl _)
        · exact IsiPair.tuple_tuple h1 rfl (fin _ rfl _)
        · exact IsiPair.tuple_str h1 rfl (fin _ rfl _)
      | _ => cases he
  | top i => exact hv.elim

theorem cut_eq {α : Type} (l : List α) (a b : Nat) : cut l a b = (l.drop a).take (b - a) := by
  unfold cut; rw [List.drop_take]
theorem part_of {ρ : List Addr} {v : V} {x : Value} {n d a : Nat} (h : VR ρ v x) (e : clip v n d = some a) : ∃ p, IsPart x p ∧ (p = none ∧ a = d ∨ ∃ i : Int, p = some i ∧ a = if 0 ≤ i then min i.toNat n else (i + n).toNat) := by
  cases v with
  | none => cases h; cases e; exact ⟨_, .none, .inl ⟨rfl, rfl⟩⟩
  | int i => obtain ⟨t, rfl⟩ := h; cases e; exact ⟨_, .int i t, .inr ⟨i, rfl, rfl⟩⟩
  | _ => cases e
theorem pick_cut {vs : List Value} {lo hi : Option Int} {a b : Nat} (ha : lo = none ∧ a = 0 ∨ ∃ i : Int, lo = some i ∧ a = if 0 ≤ i then min i.toNat vs.length else (i + vs.length).toNat)
    (hb : hi = none ∧ b = vs.length ∨ ∃ i : Int, hi = some i ∧ b = if 0 ≤ i then min i.toNat vs.length else (i + vs.length).toNat) : slicePick vs.toArray lo hi none = (cut vs a b).toArray := by
  have e : sliceBounds lo hi none vs.toArray.size = ((a : Int), (b : Int), 1) := by
    simp only [sliceBounds, Option.getD_none, show (1 : Int) > 0 by decide, if_true, List.size_toArray]
    rcases ha with ⟨rfl, rfl⟩ | ⟨i, rfl, rfl⟩ <;> rcases hb with ⟨rfl, rfl⟩ | ⟨j, rfl, rfl⟩ <;> dsimp only
    · rfl
    · congr 2
      split <;> split <;> lia
    · congr 1
      split <;> split <;> lia
    · congr 1
      · split <;> split <;> lia
      · congr 1
        split <;> split <;> lia
  rw [cut_eq]
  unfold slicePick
  rw [e]
  simp only [sliceRange_one, pick_run]

theorem cut_le {α : Type} {xs : List α} {p q : Nat} : (cut xs p q).length ≤ xs.length := by
  unfold cut
  rw [List.length_drop]
  exact Nat.le_trans (Nat.sub_le _ _) (by rw [List.length_take]; exact Nat.min_le_right _ _)
theorem sm_slice {value slice : Expr} {x lo hi : V} {a l u : Value} (hx : VR ρ x a) (hlo : VR ρ lo l) (hhi : VR ρ hi u)
    (hs : ∀ o i, subscripted slice false o i = operate [i, o] (PySem.getItem o i)) {os : List (Addr × Obj)} {σ σ' : H} {s : Shared} {r : R V} (hp : ρ <+: adr os) (hl : c.led S os σ s.heap) (he : getSlice x lo hi σ = some (r, σ')) {Q : Value → Shared → Prop} {E : Value → Shared → Prop}
    (hQ : ∀ b, r = .ok b → ∀ os' h' tk a, adr os <+: adr os' → c.led S os' σ' h' → VR (adr os') b a → Q a { s with heap := h', toks := tk }) :
    wpAny (model S.prog S.w) c.A (newFields "slice" [l, u, .none]) (fun i s' => wpAny (model S.prog S.w) c.A (subscriptTail value slice a i) Q E s') E s := by
  unfold getSlice at he
  cases x with
  | ref k =>
    dsimp only at he
    cases hk : σ.get k with
    | none => rw [hk] at he; cases he
    | some o =>
      rw [hk] at he
      cases o with
      | list xs =>
        dsimp only at he
        obtain ⟨A, o1, rfl, _, _, ⟨vs, n, rfl, hvs, hz⟩, h1, _⟩ := hl.ref hp hk hx
        split at he
        · rename_i p q e1 e2
          cases he
          obtain ⟨p1, pp, hp1⟩ := part_of hlo e1
          obtain ⟨q1, qq, hq1⟩ := part_of hhi e2
          have hlen := hvs.length
          rw [hlen] at hp1 hq1
          refine wpAny_newObj_type ?_
          have k1 : ∀ b o, s.heap.get? b = some o → (s.heap.push { cls := .type "slice", data := .fields #[l, u, .none] }).get? b = some o := fun b o e => Heap.get?_push_of_some _ e
          have hL : (s.heap.push { cls := .type "slice", data := .fields #[l, u, .none] }).IsList A vs.toArray := PySem.IsL.isList (n := n) (k1 _ _ h1)
          have hL' : Shared.TypeIs { s with heap := s.heap.push { cls := .type "slice", data := .fields #[l, u, .none] } } (.ref A) "list" := ⟨_, k1 _ _ h1, rfl⟩
          refine tail_any hL' slot_list_getitem.lookup (wpAny_getItem_list_slice hL (Heap.IsSliceOf.new ..) pp qq .none (by simp) ?_ (by rw [List.size_toArray, ← hlen]; exact Nat.le_trans hz lim_le)) (hs _ _)
          rw [pick_cut hp1 hq1]
          refine hQ _ rfl (os ++ [(_, _)]) _ _ _ adr_new ((hl.keep k1).pushed (o := .list (cut xs p q)) ⟨cut vs p q, 0, rfl, (hvs.take _).drop _, ?_⟩) (hl.ref_new (p := (_, _)))
          exact Nat.le_trans cut_le hz
        · cases he
      | _ => cases he
  | _ => cases he

end Mine

set_option autoImplicit false
namespace Mine
open PySem PySem.W PySem.Calls PyProof.Rows
variable {S : Sig} {c : Cx} {ρ : List Addr}

abbrev VRs : List Addr → List V → List Value → Prop := fun ρ => All2 (VR ρ)

theorem sm_append {x : V} {a : Value} {xs : List V} {vs : List Value} (hx : VR ρ x a) (hs : All2 (VR ρ) xs vs) : SM S c ρ VR (call (.builtin "list.append") (a :: vs)) (listMeth S.P x idAppend xs) := by
  intro os σ s r σ' hp hl he Q E hQ
  unfold listMeth at he
  split at he
  · rename_i k
    split at he
    · rename_i ys hk
      obtain ⟨hk, hnf⟩ := getM_inv hk
      rw [if_pos rfl] at he
      split at he
      · obtain ⟨v, rfl, hv⟩ := hs.inv1
        obtain ⟨A, o1, rfl, eA, _, ⟨ws, n, rfl, hws, hz⟩, h1, _⟩ := hl.ref hp hk hx
        unfold grow at he
        split at he
        · rename_i hok
          cases he
          have hok : (ys ++ [_]).length ≤ lim := of_decide_eq_true hok
          have hlen := hws.length
          refine append_at h1 (fun h' hs' ho' => hQ (os.set k (A, _)) _ _ _ ?_ (hl.upd hnf eA hs' ho' ?_) rfl) (by rw [List.size_toArray, ← hlen]; exact Nat.le_trans hz lim_le)
          · rw [adr_set eA]; exact List.prefix_rfl
          · exact ⟨ws ++ [v], n + 1, by simp, hws.append (.one (hv.mono hp)), hok⟩
        · cases he
      · cases he
    · cases he
  · cases he

theorem sm_pop {x : V} {a : Value} {xs : List V} {vs : List Value} (hx : VR ρ x a) (hs : All2 (VR ρ) xs vs) : SM S c ρ VR (call (.builtin "list.pop") (a :: vs)) (listMeth S.P x idPop xs) := by
  intro os σ s r σ' hp hl he Q E hQ
  unfold listMeth at he
  split at he
  · split at he <;> cases he
  · cases he
theorem sm_clear {x : V} {a : Value} {xs : List V} {vs : List Value} (hx : VR ρ x a) (hs : All2 (VR ρ) xs vs) : SM S c ρ VR (call (.builtin "list.clear") (a :: vs)) (listMeth S.P x idClear xs) := by
  intro os σ s r σ' hp hl he Q E hQ
  unfold listMeth at he
  split at he
  · split at he <;> cases he
  · cases he
theorem ddel_without {ρ : List Addr} {k : V} : ∀ {es : List (V × V)} {kvs : List (V × Value)}, All2 (PR ρ) es kvs → (kvs.map (·.1)).Nodup → All2 (PR ρ) (ddel es k) (without kvs k)
  | _, _, .nil, _ => .nil
  | _, _, .cons (a := (k1, v1)) (b := (k2, x2)) (as := es) (bs := kvs) ⟨h1, h2⟩ hr, nd => by
    dsimp only at h1 h2
    subst h1
    rw [List.map_cons, List.nodup_cons] at nd
    by_cases hk : k1 = k
    · subst hk
      have : without ((k1, x2) :: kvs) k1 = kvs := by
        simp only [without, List.filter_cons, ne_eq, not_true_eq_false, decide_false, Bool.false_eq_true, if_false]
        exact without_of_not_mem kvs _ nd.1
      rw [this]; simp only [ddel, if_true]; exact hr
    · have : without ((k1, x2) :: kvs) k = (k1, x2) :: without kvs k := by simp only [without, List.filter_cons, ne_eq, hk, not_false_eq_true, decide_true, if_true]
      rw [this]; simp only [ddel, hk, if_false]
      exact .cons ⟨rfl, h2⟩ (ddel_without hr nd.2)
theorem ddel_length (es : List (V × V)) (k : V) : (ddel es k).length ≤ es.length := by
  induction es with
  | nil => simp [ddel]
  | cons p r ih => obtain ⟨a, b⟩ := p; simp only [ddel]; split <;> simp; exact ih
theorem keyPart_key {k : V} {v : Value} (h : keyIs k v = true) : (keyPart v).isSome = true := by
  rcases keyIs_shape h with ⟨i, t, rfl, rfl⟩ | ⟨x, t, rfl, rfl⟩ | ⟨rfl, rfl⟩ <;> rfl

theorem sm_dpop {x : V} {a : Value} {xs : List V} {vs : List Value} (hx : VR ρ x a) (hs : All2 (VR ρ) xs vs) : SM S c ρ VR (call (.builtin "dict.pop") (a :: vs)) (dictMeth S.P x idPop xs) := by
  intro os σ s r σ' hp hl he Q E hQ
  unfold dictMeth at he
  split at he
  · rename_i k
    split at he
    · rename_i es hk
      obtain ⟨hk, hnf⟩ := getM_inv hk
      rw [if_pos rfl] at he
      obtain ⟨A, o1, rfl, eA, _, ⟨es', n, kvs, rfl, k1, k2, k3, k4, hz⟩, h1, hL, hn, hb⟩ := hl.ref hp hk hx
      have hd : s.heap.DictOf (vKind S.prog S.w) A kvs := dict_of h1 k1 k2 k3
      have hlen := k4.length
      have hsz : kvs.length ≤ sizeLine := by rw [← hlen]; exact Nat.le_trans hz lim_le
      have there : ∀ {y : V} {key : Value} {w : V} {rest : List Value}, VR ρ y key → isKey y = true → dget es y = some w → (rest = [] ∨ ∃ d, rest = [d]) → argsOk "dict.pop" ⟨.ref A :: key :: rest, []⟩ →
          (∀ os' h' tk a, adr os <+: adr os' → c.led S os' (σ.put k (.dict (ddel es y))) h' → VR (adr os') w a → Q a { s with heap := h', toks := tk }) → wpAny (model S.prog S.w) c.A (call (.builtin "dict.pop") (.ref A :: key :: rest)) Q E s := by
        intro y key w rest hy hkey hw hrest hargs hq
        have hki := key_is hy (by rw [hkey]; rfl)
        rcases valueAt_dget k4 y with ⟨_, e2⟩ | ⟨v', x', e1, e2, e3⟩
        · rw [e2] at hw; cases hw
        · rw [hw] at e1; cases e1
          refine call_meetsIn F.slot_dict_pop hd.typeIs F.entry_dict_pop hargs (meets_dict_pop_there (vKind S.prog S.w) A hki rest hrest (keyPart_key hki)) ⟨kvs, x', hd, hsz, e2, fun h' hd' hs' => ?_⟩
          obtain ⟨es'', n', g1, g2, g3, g4⟩ := of_dict hd'
          refine hq (os.set k (A, dictOf es'' n')) _ _ _ ?_ (hl.upd hnf eA hs' g1 ?_) ?_
          · rw [adr_set eA]; exact List.prefix_rfl
          · exact ⟨es'', n', _, rfl, g2, g3, g4, ddel_without k4 k3, Nat.le_trans (ddel_length ..) hz⟩
          · rw [adr_set eA]; exact e3
      split at he
      · obtain ⟨key, rfl, hkey⟩ := hs.inv1
        split at he
        · rename_i hik
          split at he
          · rename_i w hw
            cases he
            exact there hkey hik hw (.inl rfl) (F.args_dict_pop_2 _ _) hQ
          · cases he
        · cases he
      · obtain ⟨key, dv, rfl, hkey, hdv⟩ := hs.inv2
        split at he
        · rename_i hik
          split at he
          · rename_i w hw
            cases he
            exact there hkey hik hw (.inr ⟨_, rfl⟩) (F.args_dict_pop_3 _ _ _) hQ
          · rename_i hw
            cases he
            have hki := key_is hkey (by rw [hik]; rfl)
            rcases valueAt_dget k4 _ with ⟨e1, _⟩ | ⟨v', x', e1, _, _⟩
            · exact call_meetsIn F.slot_dict_pop hd.typeIs F.entry_dict_pop (F.args_dict_pop_3 _ _ _) (meets_dict_pop_default (vKind S.prog S.w) A hki hb (keyPart_key hki) dv) ⟨kvs, hd, e1, hQ os _ _ _ List.prefix_rfl hl (hdv.mono hp)⟩
            · rw [hw] at e1; cases e1
        · cases he
      · cases he
    · cases he
  · cases he

end Mine

set_option autoImplicit false
namespace Mine
open PySem PySem.W PySem.Calls PyProof.Rows
variable {S : Sig} {c : Cx} {ρ : List Addr}

set_option genInjectivity false in
structure Nam where
  T : List Str
  fn : Nat → Option Addr
  me : Nat → Option Addr
  cls : Nat → Option Addr
  ex : Nat → Option Addr

noncomputable def Sig.nam (S : Sig) : Nam := ⟨S.T, S.fn, S.me, S.cls, S.ex⟩

noncomputable def biName : Bi → Str
  | .len => "len" | .sorted => "sorted" | .list => "list" | .tuple => "tuple" | .str => "str" | .int => "int" | .range => "range" | .min => "min" | .max => "max" | .set => "set" | .zip => "zip"

noncomputable def isGlob (sc : Scope) (nm : Str) : Bool := decide (sc.names.lookup nm = some .globalImplicit) && !(nm == ("__debug__" : Str))
noncomputable def nameIs (N : Nam) (i : Nat) (nm : Str) : Bool := decide (N.T[i]? = some nm)
noncomputable def plainBase : Expr → Bool
  | .Call (.Name _ _) [] [] _ => false
  | _ => true
noncomputable def isSet : Expr → Bool
  | .Set _ _ _ => true
  | _ => false
noncomputable def isSlice : Expr → Bool
  | .Slice _ _ _ _ => true
  | _ => false
noncomputable def isNone : Ex → Bool
  | .cnone => true
  | _ => false
noncomputable def inScope (sc : Scope) (nm : Str) : Bool := match sc.names.lookup nm with
  | some .local => true
  | some .cell => true
  | some .free => true
  | _ => false
noncomputable def isCell (sc : Scope) (nm : Str) : Bool := match sc.names.lookup nm with
  | some .cell => true
  | some .free => true
  | _ => false
noncomputable def compScope (N : Nam) (sc sc' : Scope) (nms : List Str) : Bool :=
  decide (sc'.kind = .function) && sc'.names.all (fun x => decide (x.2 ≠ .cell) && (!decide (x.2 = .local) || (decide (sc'.names.lookup x.1 = some .local) && (decide (x.1 ∈ nms) || !N.T.contains x.1))) && (!decide (x.2 = .free) || isCell sc x.1)) && nms.all (fun nm => decide (sc'.names.lookup nm = some .local))

/- parts of expressions -/
noncomputable def tagE : Expr → Nat
  | .BoolOp .. => 0 | .NamedExpr .. => 1 | .BinOp .. => 2 | .UnaryOp .. => 3 | .Lambda .. => 4 | .IfExp .. => 5 | .Dict .. => 6 | .Set .. => 7 | .ListComp .. => 8 | .SetComp .. => 9 | .DictComp .. => 10 | .GeneratorExp .. => 11 | .Await .. => 12 | .Yield .. => 13
  | .YieldFrom .. => 14 | .Compare .. => 15 | .Call .. => 16 | .FormattedValue .. => 17 | .JoinedStr .. => 18 | .Constant .. => 19 | .Attribute .. => 20 | .Subscript .. => 21 | .Starred .. => 22 | .Name .. => 23 | .List .. => 24 | .Tuple .. => 25 | .Slice .. => 26
set_option genInjectivity false in
structure Pt where
  x : Expr
  y : Expr
  xs : List Expr
  pos : Pos
  nm : Str
  k : Nat
  bop : PySem.Operator := .Add
  uop : UnaryOp := .Not
  lop : BoolOp := .And
  cops : List CmpOp := []
  cst : Const := .none
  ds : List (Option Expr) := []
  kws : List Keyword := []
  gs : List Comprehension := []
  sc : Scope := ⟨.function, [], false, false, []⟩
  lo : Option Expr := none
  hi : Option Expr := none
  st : Option Expr := none
noncomputable def noPos : Pos := ⟨0, 0, 0, 0⟩
noncomputable def ptE (e : Expr) : Pt := match e with
  | .BoolOp o xs p => { x := e, y := e, xs := xs, pos := p, nm := "", k := 0, lop := o }
  | .BinOp l o r p => { x := l, y := r, xs := [], pos := p, nm := "", k := 0, bop := o }
  | .UnaryOp o x p => { x := x, y := x, xs := [], pos := p, nm := "", k := 0, uop := o }
  | .Dict ks vs p => { x := e, y := e, xs := vs, pos := p, nm := "", k := 0, ds := ks }
  | .ListComp x gs sc p => { x := x, y := x, xs := [], pos := p, nm := "", k := 0, gs := gs, sc := sc }
  | .Compare l os rs p => { x := l, y := l, xs := rs, pos := p, nm := "", k := 0, cops := os }
  | .Call f xs ks p => { x := f, y := f, xs := xs, pos := p, nm := "", k := 0, kws := ks }
  | .Constant v k p => { x := e, y := e, xs := [], pos := p, nm := "", k := k, cst := v }
  | .Attribute x nm p => { x := x, y := x, xs := [], pos := p, nm := nm, k := 0 }
  | .Subscript x y p => { x := x, y := y, xs := [], pos := p, nm := "", k := 0 }
  | .Name nm p => { x := e, y := e, xs := [], pos := p, nm := nm, k := 0 }
  | .List xs p => { x := e, y := e, xs := xs, pos := p, nm := "", k := 0 }
  | .Tuple xs k p => { x := e, y := e, xs := xs, pos := p, nm := "", k := k }
  | .Slice l u s p => { x := e, y := e, xs := [], pos := p, nm := "", k := 0, lo := l, hi := u, st := s }
  | _ => { x := e, y := e, xs := [], pos := noPos, nm := "", k := 0 }
noncomputable def isC (v w : Const) : Bool := match v, w with
  | .none, .none => true
  | .bool b, .bool b' => b == b'
  | .int i, .int j => decide (i = j)
  | .str s, .str s' => decide (s = s') && okS s
  | _, _ => false
noncomputable def onO {α : Type} (o : Option α) (f : α → Bool) : Bool := match o with
  | some a => f a
  | none => false
theorem onO_eq {α : Type} {o : Option α} {f : α → Bool} (h : onO o f = true) : ∃ a, o = some a ∧ f a = true := by
  cases o with
  | none => exact nomatch (show false = true from h)
  | some a => exact ⟨a, rfl, h⟩
noncomputable def one {α : Type} : List α → Option α
  | [a] => some a
  | _ => none
noncomputable def two {α : Type} : List α → Option (α × α)
  | [a, b] => some (a, b)
  | _ => none
noncomputable def nil? {α : Type} : List α → Bool
  | [] => true
  | _ => false
noncomputable def exsNil : Exs → Bool
  | .nil => true
  | _ => false
noncomputable def isT (e : Expr) (n : Nat) : Bool := decide (tagE e = n)
noncomputable def isCallN (e : Expr) : Bool := isT e 16 && (nil? (ptE e).kws && isT (ptE e).x 23)
noncomputable def cN (e : Expr) : Str := (ptE (ptE e).x).nm
noncomputable def cA (e : Expr) : List Expr := (ptE e).xs

noncomputable def ckTg (N : Nam) (tg : List Nat) (tup : Bool) (e : Expr) : Bool := match tup with
  | false => onO (one tg) fun i => isT e 23 && nameIs N i (ptE e).nm
  | true => onO (two tg) fun is => onO (two (ptE e).xs) fun xs => isT e 25 && (isT xs.1 23 && (isT xs.2 23 && (nameIs N is.1 (ptE xs.1).nm && (nameIs N is.2 (ptE xs.2).nm && decide ((ptE xs.1).nm ≠ (ptE xs.2).nm)))))
noncomputable def tgNms (tup : Bool) (e : Expr) : List Str := bif tup then (ptE e).xs.map fun x => (ptE x).nm else [(ptE e).nm]

mutual
noncomputable def ckE (N : Nam) : Scope → Ex → Expr → Bool
  | _, .cnone, e => isT e 19 && isC .none (ptE e).cst
  | _, .cbool b, e => isT e 19 && isC (.bool b) (ptE e).cst
  | _, .cint i, e => isT e 19 && isC (.int i) (ptE e).cst
  | _, .cstr s, e => isT e 19 && isC (.str s) (ptE e).cst
  | sc, .loc i, e => isT e 23 && (nameIs N i (ptE e).nm && (inScope sc (ptE e).nm && (!((ptE e).nm == ("__debug__" : Str)) && !((ptE e).nm == ("__classdict__" : Str)))))
  | sc, .glo i, e => isT e 23 && (nameIs N i (ptE e).nm && isGlob sc (ptE e).nm)
  | sc, .bin op a b, e => isT e 2 && (decide (op = (ptE e).bop) && (ckE N sc a (ptE e).x && ckE N sc b (ptE e).y))
  | sc, .neg a, e => isT e 3 && (decide ((ptE e).uop = .USub) && ckE N sc a (ptE e).x)
  | sc, .not a, e => isT e 3 && (decide ((ptE e).uop = .Not) && ckE N sc a (ptE e).x)
  | sc, .band es, e => isT e 0 && (decide ((ptE e).lop = .And) && ckEs N sc es (ptE e).xs)
  | sc, .bor es, e => isT e 0 && (decide ((ptE e).lop = .Or) && ckEs N sc es (ptE e).xs)
  | sc, .cmp op a b, e => isT e 15 && onO (one (ptE e).cops) fun o => onO (one (ptE e).xs) fun r => decide (op = o) && (!behindInMarks o r && (ckE N sc a (ptE e).x && ckE N sc b r))
  | sc, .cmp2 o1 o2 a b d, e => isT e 15 && onO (two (ptE e).cops) fun o => onO (two (ptE e).xs) fun r => decide (o1 = o.1) && (decide (o2 = o.2) && (!behindInMarks o.2 r.2 && (ckE N sc a (ptE e).x && (ckE N sc b r.1 && ckE N sc d r.2))))
  | sc, .list es, e => isT e 24 && ckEs N sc es (ptE e).xs
  | sc, .tup es, e => isT e 25 && ckEs N sc es (ptE e).xs
  | _, .dict ks vs, e => isT e 6 && (exsNil ks && (exsNil vs && (nil? (ptE e).ds && nil? (ptE e).xs)))
  | sc, .attr a n, e => isT e 20 && (nameIs N n (ptE e).nm && (plainBase (ptE e).x && ckE N sc a (ptE e).x))
  | sc, .sub a i, e => isT e 21 && (!isSlice (ptE e).y && (ckE N sc a (ptE e).x && ckE N sc i (ptE e).y))
  | sc, .slice a lo hi, e => isT e 21 && (isT (ptE e).y 26 && ((ptE (ptE e).y).st.isNone && (ckE N sc a (ptE e).x && ((match (ptE (ptE e).y).lo with | none => isNone lo | some y => ckE N sc lo y) && (match (ptE (ptE e).y).hi with | none => isNone hi | some y => ckE N sc hi y)))))
  | sc, .call f args, e => isCallN e && (nameIs N f (cN e) && (isGlob sc (cN e) && ((N.fn f).isSome && ckEs N sc args (cA e))))
  | sc, .new k, e => isCallN e && (nil? (cA e) && (nameIs N k (cN e) && (isGlob sc (cN e) && (N.cls k).isSome)))
  | sc, .meth o n args, e => isT e 16 && (nil? (ptE e).kws && (isT (ptE e).x 20 && (nameIs N n (ptE (ptE e).x).nm && (plainBase (ptE (ptE e).x).x && (((ptE (ptE e).x).pos.endLine == (ptE e).pos.line) && (decide ((cA e).length < 30) && ((decide (n ≤ 12) || (N.me n).isSome) && (ckE N sc o (ptE (ptE e).x).x && ckEs N sc args (cA e)))))))))
  | sc, .bi b args, e => isCallN e && (decide (cN e = biName b) && (isGlob sc (cN e) && ckEs N sc args (cA e)))
  | sc, .isi a ks, e => isCallN e && onO (one ks) fun k => onO (two (cA e)) fun xs => isT xs.2 23 && (decide (cN e = "isinstance") && (isGlob sc (cN e) && (isGlob sc (ptE xs.2).nm && (decide (k ≤ 4) && (decide ((ptE xs.2).nm = (clsName k : Str)) && ckE N sc a xs.1)))))
  | sc, .comp elt tg tup it conds, e => isT e 8 && onO (one (ptE e).gs) fun g => decide (g.is_async = 0) && (ckTg N tg tup g.target && (compScope N sc (ptE e).sc (tgNms tup g.target) && (!isSet g.iter && (ckE N sc it g.iter && (ckE N (ptE e).sc elt (ptE e).x && ckEs N (ptE e).sc conds g.ifs)))))
  | sc, .sset a, e => isCallN e && (decide (cN e = "sorted") && (isGlob sc (cN e) && onO (one (cA e)) fun y => isCallN y && (decide (cN y = "set") && (isGlob sc (cN y) && onO (one (cA y)) fun z => ckE N sc a z))))
termination_by structural _ x => x
noncomputable def ckEs (N : Nam) : Scope → Exs → List Expr → Bool
  | _, .nil, xs => nil? xs
  | sc, .cons e es, xs => match xs with
    | x :: xs => ckE N sc e x && ckEs N sc es xs
    | [] => false
termination_by structural _ x => x
end

theorem and_t {a b : Bool} (h : (a && b) = true) : a = true ∧ b = true := (Bool.and_eq_true a b).mp h
theorem not_t {a : Bool} (h : (!a) = true) : a = false := (Bool.not_eq_true' a).mp h
theorem dec_t {p : Prop} [Decidable p] (h : decide p = true) : p := of_decide_eq_true h
theorem one_eq {α : Type} {l : List α} {a : α} (h : one l = some a) : l = [a] := by
  match l, h with
  | [b], h => cases h; rfl
theorem two_eq {α : Type} {l : List α} {a b : α} (h : two l = some (a, b)) : l = [a, b] := by
  match l, h with
  | [c, d], h => cases h; rfl
theorem nil_eq {α : Type} {l : List α} (h : nil? l = true) : l = [] := by
  cases l with
  | nil => rfl
  | cons _ _ => cases h
theorem exsNil_eq {l : Exs} (h : exsNil l = true) : l = .nil := by
  cases l with
  | nil => rfl
  | cons _ _ => cases h
noncomputable def rebE (n : Nat) (e : Expr) : Expr := match n with
  | 19 => .Constant (ptE e).cst (ptE e).k (ptE e).pos
  | 23 => .Name (ptE e).nm (ptE e).pos
  | 2 => .BinOp (ptE e).x (ptE e).bop (ptE e).y (ptE e).pos
  | 3 => .UnaryOp (ptE e).uop (ptE e).x (ptE e).pos
  | 0 => .BoolOp (ptE e).lop (ptE e).xs (ptE e).pos
  | 15 => .Compare (ptE e).x (ptE e).cops (ptE e).xs (ptE e).pos
  | 24 => .List (ptE e).xs (ptE e).pos
  | 25 => .Tuple (ptE e).xs (ptE e).k (ptE e).pos
  | 6 => .Dict (ptE e).ds (ptE e).xs (ptE e).pos
  | 20 => .Attribute (ptE e).x (ptE e).nm (ptE e).pos
  | 21 => .Subscript (ptE e).x (ptE e).y (ptE e).pos
  | 26 => .Slice (ptE e).lo (ptE e).hi (ptE e).st (ptE e).pos
  | 16 => .Call (ptE e).x (ptE e).xs (ptE e).kws (ptE e).pos
  | 8 => .ListComp (ptE e).x (ptE e).gs (ptE e).sc (ptE e).pos
  | _ => e
theorem exp_all (e : Expr) : e = rebE (tagE e) e := by cases e <;> rfl
theorem exp_of {e : Expr} {n : Nat} (h : isT e n = true) : e = rebE n e := by
  have h2 := exp_all e
  rw [dec_t h] at h2
  exact h2
theorem t_const {e : Expr} (h : isT e 19 = true) : e = .Constant (ptE e).cst (ptE e).k (ptE e).pos := exp_of h
theorem t_name {e : Expr} (h : isT e 23 = true) : e = .Name (ptE e).nm (ptE e).pos := exp_of h
theorem t_bin {e : Expr} (h : isT e 2 = true) : e = .BinOp (ptE e).x (ptE e).bop (ptE e).y (ptE e).pos := exp_of h
theorem t_un {e : Expr} (h : isT e 3 = true) : e = .UnaryOp (ptE e).uop (ptE e).x (ptE e).pos := exp_of h
theorem t_bool {e : Expr} (h : isT e 0 = true) : e = .BoolOp (ptE e).lop (ptE e).xs (ptE e).pos := exp_of h
theorem t_cmp {e : Expr} (h : isT e 15 = true) : e = .Compare (ptE e).x (ptE e).cops (ptE e).xs (ptE e).pos := exp_of h
theorem t_list {e : Expr} (h : isT e 24 = true) : e = .List (ptE e).xs (ptE e).pos := exp_of h
theorem t_tup {e : Expr} (h : isT e 25 = true) : e = .Tuple (ptE e).xs (ptE e).k (ptE e).pos := exp_of h
theorem t_dict {e : Expr} (h : isT e 6 = true) : e = .Dict (ptE e).ds (ptE e).xs (ptE e).pos := exp_of h
theorem t_attr {e : Expr} (h : isT e 20 = true) : e = .Attribute (ptE e).x (ptE e).nm (ptE e).pos := exp_of h
theorem t_sub {e : Expr} (h : isT e 21 = true) : e = .Subscript (ptE e).x (ptE e).y (ptE e).pos := exp_of h
theorem t_slice {e : Expr} (h : isT e 26 = true) : e = .Slice (ptE e).lo (ptE e).hi (ptE e).st (ptE e).pos := exp_of h
theorem t_call {e : Expr} (h : isT e 16 = true) : e = .Call (ptE e).x (ptE e).xs (ptE e).kws (ptE e).pos := exp_of h
theorem t_comp {e : Expr} (h : isT e 8 = true) : e = .ListComp (ptE e).x (ptE e).gs (ptE e).sc (ptE e).pos := exp_of h
end Mine

set_option autoImplicit false
namespace Mine
open PySem PySem.W PySem.Calls PyProof.Rows
variable {S : Sig} {c : Cx} {ρ : List Addr}

structure CtxOK (S : Sig) (n : Nat) (c : Cx) : Prop where
  hand : c.A.handled = none
  units : c.A.units + 2 * n + 200 < cLine
  depth : c.A.depth + n < recursionLimit
  kin : S.K.In c.h₀
  top : ∃ mg mb, c.h₀.Ns mainGlobals mg ∧ c.h₀.Ns builtinsNs mb ∧ ∀ x : Str, x ≠ "__name__" → mb x = bootBuiltins x
  lim : c.h₀.NoLimit
  kind : c.env.scope.kind = .function
  glob : c.env.globals = mainGlobals
  blt : c.env.builtins = builtinsNs
  locs : c.env.locals = c.L
  frs : ∃ l, c.A.frames = some l ∧ ∀ e ∈ l, e.scope.kind ≠ .module ∧ ∃ b, e.frame = some b ∧ b ∈ c.L :: c.fs.map (·.1)

theorem CtxOK.le {n k : Nat} (h : CtxOK S n c) (e : k ≤ n) : CtxOK S k c :=
  ⟨h.hand, by have := h.units; lia, by have := h.depth; lia, h.kin, h.top, h.lim, h.kind, h.glob, h.blt, h.locs, h.frs⟩
theorem CtxOK.room {n : Nat} (h : CtxOK S n c) : Room c := by unfold Room; have := h.units; lia

noncomputable def VarAt (c : Cx) (nm : Str) (x : Value) : Prop :=
  (c.env.kindOf nm = some .local ∧ c.m nm = some x) ∨
  ((c.env.kindOf nm = some .cell ∨ c.env.kindOf nm = some .free) ∧ ∃ a o, c.env.cells.lookup nm = some a ∧ (a, o) ∈ c.kp ∧ o.data = .cell (some x))
noncomputable def VarsOK (S : Sig) (c : Cx) (sc : Scope) (ρ : List Addr) (loc : Loc) : Prop := ∀ i v nm, loc i = some v → S.T[i]? = some nm → inScope sc nm = true → ∃ x, VarAt c nm x ∧ VR ρ v x
theorem VarsOK.mono {sc : Scope} {loc : Loc} {ρ' : List Addr} (h : VarsOK S c sc ρ loc) (k : ρ <+: ρ') : VarsOK S c sc ρ' loc := fun i v nm e h1 h2 =>
  let ⟨x, h3, h4⟩ := h i v nm e h1 h2; ⟨x, h3, h4.mono k⟩

structure ScOK (sc : Scope) (env : Env) : Prop where
  glob : ∀ nm, sc.names.lookup nm = some .globalImplicit → env.kindOf nm = some .globalImplicit
  loc : ∀ nm, sc.names.lookup nm = some .local → env.kindOf nm = some .local
  cell : ∀ nm, isCell sc nm = true → (env.kindOf nm = some .cell ∨ env.kindOf nm = some .free) ∧ ∃ a, env.cells.lookup nm = some a

section
variable {α β : Type} {RV : List Addr → β → α → Prop}
theorem SM.operate {t : Sem Value} {x : X V} {vs : List Value} {RV : List Addr → V → Value → Prop} (h : SM S c ρ RV t x) : SM S c ρ RV (operate vs t) x :=
  fun os σ s r σ' hp hl hx Q E hQ => wpAny_operate' (h os σ s r σ' hp hl hx Q E hQ)
theorem SM.release {t : Sem α} {x : X β} {vs ws : List Value} (h : SM S c ρ RV t x) : SM S c ρ RV (do release vs ws; t) x :=
  fun os σ s r σ' hp hl hx Q E hQ => wpAny_bind (wpAny_release' (h os σ s r σ' hp hl hx Q E hQ))
theorem SM.via {t t' : Sem α} {x : X β} (h : SM S c ρ RV t x) (k : ∀ Q E s, wpAny (model S.prog S.w) c.A t Q E s → wpAny (model S.prog S.w) c.A t' Q E s) : SM S c ρ RV t' x :=
  fun os σ s r σ' hp hl hx Q E hQ => k _ _ _ (h os σ s r σ' hp hl hx Q E hQ)
end

theorem T_eq {i : Nat} {nm : Str} (h : nameIs S.nam i nm = true) : S.T[i]? = some nm := of_decide_eq_true h

theorem sm_local {n : Nat} (K : CtxOK S n c) {loc : Loc} {sc : Scope} (V : VarsOK S c sc ρ loc) {i : Nat} {nm : Str} {pos : Pos} (hn : S.T[i]? = some nm) (hsc : inScope sc nm = true) (hd : (nm == ("__debug__" : Str)) = false) (hc : (nm == ("__classdict__" : Str)) = false) :
    SM S c ρ VR (eval (.Name nm pos) c.env) (X.lift (loc i)) := by
  intro os σ s r σ' hp hl he Q E hQ
  unfold X.lift at he
  split at he
  · rename_i v hv
    cases he
    obtain ⟨x, h2, h3⟩ := V i v nm hv hn hsc
    have fin := hQ os s.heap s.toks x List.prefix_rfl hl (h3.mono hp)
    refine wpAny_Name ?_ hd
    rcases h2 with ⟨k1, k2⟩ | ⟨k1 | k1, a, o, k2, k3, k4⟩
    · exact wpAny_loadName_local K.kind k1 (K.locs ▸ hl.fr.ns) k2 fin
    · exact wpAny_loadName_cell K.kind k1 k2 ⟨o, (hl.news _ (List.mem_append_left _ k3)).1, k4⟩ fin
    · exact wpAny_loadName_free K.kind k1 k2 ⟨o, (hl.news _ (List.mem_append_left _ k3)).1, k4⟩ fin hc
  · cases he

theorem sm_top {n : Nat} (K : CtxOK S n c) {nm : Str} {pos : Pos} {v : Value} {x : V} {RV : List Addr → V → Value → Prop} (hk : c.env.kindOf nm = some .globalImplicit) (hd : (nm == ("__debug__" : Str)) = false) (e : nsIn S.K mainGlobals nm = some (some v)) (h : ∀ ρ, RV ρ x v) :
    SM S c ρ RV (eval (.Name nm pos) c.env) (X.pure x) := by
  intro os σ s r σ' hp hl he Q E hQ
  cases he
  obtain ⟨mg, mb, h1, h2, h3⟩ := K.top
  exact Name_function_global K.kind hk (loadGlobal_global (K.glob ▸ h1.keeps hl.fr.keep) (mg_of K.kin h1 e) (hQ os s.heap s.toks v List.prefix_rfl hl (h _))) hd
theorem sm_boot {n : Nat} (K : CtxOK S n c) {nm : Str} {pos : Pos} {v : Value} {x : V} {RV : List Addr → V → Value → Prop} (hk : c.env.kindOf nm = some .globalImplicit) (hd : (nm == ("__debug__" : Str)) = false) (e : nsIn S.K mainGlobals nm = some none)
    (hv : bootBuiltins nm = some v) (hn : nm ≠ "__name__") (h : ∀ ρ, RV ρ x v) : SM S c ρ RV (eval (.Name nm pos) c.env) (X.pure x) := by
  intro os σ s r σ' hp hl he Q E hQ
  cases he
  obtain ⟨mg, mb, h1, h2, h3⟩ := K.top
  exact Name_function_global K.kind hk (loadGlobal_builtin (K.glob ▸ h1.keeps hl.fr.keep) (mg_none_of K.kin h1 e) (K.blt ▸ h2.keeps hl.fr.keep) ((h3 nm hn).trans hv) (hQ os s.heap s.toks v List.prefix_rfl hl (h _))) hd

theorem X.pure_bind {α β : Type} (a : α) (f : α → X β) : X.bind (X.pure a) f = f a := by funext σ; rfl
theorem X.bind_assoc {α β γ : Type} (m : X α) (f : α → X β) (g : β → X γ) : X.bind (X.bind m f) g = X.bind m fun a => X.bind (f a) g := by
  funext σ
  unfold X.bind
  cases m σ with
  | none => rfl
  | some p => obtain ⟨r, σ'⟩ := p; cases r <;> rfl

theorem sm_bin {op : Operator} {l r : Expr} {pos : Pos} {x y : X V} (hx : SM S c ρ VR (eval l c.env) x) (hy : SM S c ρ VR (eval r c.env) y) :
    SM S c ρ VR (eval (.BinOp l op r pos) c.env) (X.bind x fun a => X.bind y fun b => binop op a b) := by
  rw [arm_eval_BinOp]
  exact hx.bind fun ρ' a v k ha => (SM.hold (hy.mono k)).bind fun ρ'' b w k' hb => (SM.operate (sm_binop (ha.mono k') hb)).stand

theorem sm_neg {e : Expr} {pos : Pos} {x : X V} (hx : SM S c ρ VR (eval e c.env) x) : SM S c ρ VR (eval (.UnaryOp .USub e pos) c.env) (X.bind x fun a => match a with | .int i => X.pure (.int (-i)) | _ => X.none) := by
  rw [arm_eval_UnaryOp]
  refine hx.bind fun ρ' a v k ha => SM.stand (SM.hold ?_)
  cases a with
  | int i =>
    obtain ⟨t, rfl⟩ := ha
    intro os σ s r σ' hp hl he Q E hQ
    cases he
    exact PySem.P.neg_int (hQ os _ _ _ List.prefix_rfl hl ⟨_, rfl⟩)
  | _ => exact SM.none
theorem sm_not {e : Expr} {pos : Pos} {x : X V} (hx : SM S c ρ VR (eval e c.env) x) : SM S c ρ VR (eval (.UnaryOp .Not e pos) c.env) (X.bind x fun a => X.bind (truth a) fun t => X.pure (.bool (!t))) := by
  rw [arm_eval_UnaryOp]
  refine hx.bind fun ρ' a v k ha => SM.stand (SM.hold ?_)
  refine SM.via (t := truthy v >>= fun b => Pure.pure (.bool (!b))) ((sm_truth ha).bind fun ρ'' b b' k' hb => ?_) fun Q E s h => ?_
  · subst hb; exact SM.pure fun _ _ => rfl
  · unfold unaryOp
    exact wpAny_holding h
theorem sm_cmp (hr : Room c) {op : CmpOp} {l r : Expr} {pos : Pos} {x y : X V} (hm : behindInMarks op r = false) (hx : SM S c ρ VR (eval l c.env) x) (hy : SM S c ρ VR (eval r c.env) y) :
    SM S c ρ VR (eval (.Compare l [op] [r] pos) c.env) (X.bind x fun a => X.bind y fun b => cmpop S.P op a b) := by
  rw [arm_eval_Compare]
  refine hx.bind fun ρ' a v k ha => ?_
  have e : markedEach [op] [r] (evalEach [r] c.env) = [eval r c.env] := by simp only [arm_evalEach_cons, arm_evalEach_nil, markedEach, markedBehindIn_of_false hm]
  rw [e]
  exact (SM.hold (hy.mono k)).bind fun ρ'' b w k' hb => (SM.operate (sm_cmpop hr (ha.mono k') hb)).stand
theorem sm_cmp_test (hr : Room c) {op : CmpOp} {l r : Expr} {pos : Pos} {x y : X V} {whole : Sem Value} (hm : behindInMarks op r = false) (hx : SM S c ρ VR (eval l c.env) x) (hy : SM S c ρ VR (eval r c.env) y) :
    SM S c ρ EqR (isTrue (.Compare l [op] [r] pos) c.env whole) (X.bind (X.bind x fun a => X.bind y fun b => cmpop S.P op a b) truth) := by
  rw [arm_isTrue_Compare, X.bind_assoc]
  refine hx.bind fun ρ' a v k ha => ?_
  have e : markedEach [op] [r] (evalEach [r] c.env) = [eval r c.env] := by simp only [arm_evalEach_cons, arm_evalEach_nil, markedEach, markedBehindIn_of_false hm]
  rw [e, X.bind_assoc]
  exact (SM.hold (hy.mono k)).bind fun ρ'' b w k' hb => SM.stand ((SM.operate (sm_cmpop hr (ha.mono k') hb)).bind fun _ _ _ _ h => SM.hold (sm_truth h))
theorem marked2 {o1 o2 : CmpOp} {r1 r2 : Expr} {env : Env} (hm : behindInMarks o2 r2 = false) : markedEach [o1, o2] [r1, r2] (evalEach [r1, r2] env) = [eval r1 env, eval r2 env] := by
  simp only [arm_evalEach_cons, arm_evalEach_nil, markedEach, markedBehindIn_of_false hm]
theorem sm_cmp2 (hr : Room c) {o1 o2 : CmpOp} {l r1 r2 : Expr} {pos : Pos} {x y z : X V} (hm : behindInMarks o2 r2 = false) (hx : SM S c ρ VR (eval l c.env) x) (hy : SM S c ρ VR (eval r1 c.env) y) (hz : SM S c ρ VR (eval r2 c.env) z) :
    SM S c ρ VR (eval (.Compare l [o1, o2] [r1, r2] pos) c.env) (X.bind x fun a => X.bind y fun b => X.bind (cmpop S.P o1 a b) fun r => X.bind (truth r) fun t => if t then X.bind z fun d => cmpop S.P o2 b d else X.pure r) := by
  rw [arm_eval_Compare]
  refine hx.bind fun ρ' a v k ha => ?_
  rw [marked2 hm]
  show SM S c ρ' VR (do
    let rv ← holding [v] (eval r1 c.env)
    standAt pos
    let cv ← holding [v, rv] (compareOp o1 v rv)
    release [v, rv] [cv]
    if ← holding [cv, rv] (truthy cv) then compareChain pos rv [o2] [eval r2 c.env] else pure cv) _
  refine (SM.hold (hy.mono k)).bind fun ρ'' b w k' hb => SM.stand ((SM.hold (sm_cmpop hr (ha.mono k') hb)).bind fun ρ₃ q qv k₃ hq => SM.release ((SM.hold (sm_truth hq)).bind fun ρ₄ t t' k₄ ht => ?_))
  subst ht
  cases t
  · exact SM.pure fun ρ₅ k₅ => (hq.mono k₄).mono k₅
  · exact (SM.hold (hz.mono (k.trans (k'.trans (k₃.trans k₄))))).bind fun ρ₅ d dv k₅ hd => (SM.operate (sm_cmpop hr (hb.mono (k₃.trans (k₄.trans k₅))) hd)).stand
theorem cmpop_bool {P : Prog} {op : CmpOp} {a b v : V} {σ σ' : H} (h : cmpop P op a b σ = some (.ok v, σ')) : ∃ q, v = .bool q := by
  unfold cmpop at h
  cases op <;> dsimp only at h
  · obtain ⟨q, _, e⟩ := Option.map_eq_some_iff.mp h; cases e; exact ⟨_, rfl⟩
  · obtain ⟨q, _, e⟩ := Option.map_eq_some_iff.mp h; cases e; exact ⟨_, rfl⟩
  all_goals try (split at h <;> cases h <;> exact ⟨_, rfl⟩)
  all_goals
    rcases X.bind_inv h with ⟨q, σ₁, _, e⟩ | ⟨k, _, e⟩
    · cases e; exact ⟨_, rfl⟩
    · cases e
theorem sm_cmp2_test (hr : Room c) {o1 o2 : CmpOp} {l r1 r2 : Expr} {pos : Pos} {x y z : X V} {whole : Sem Value} (hm : behindInMarks o2 r2 = false) (hx : SM S c ρ VR (eval l c.env) x) (hy : SM S c ρ VR (eval r1 c.env) y) (hz : SM S c ρ VR (eval r2 c.env) z) :
    SM S c ρ EqR (isTrue (.Compare l [o1, o2] [r1, r2] pos) c.env whole) (X.bind (X.bind x fun a => X.bind y fun b => X.bind (cmpop S.P o1 a b) fun r => X.bind (truth r) fun t => if t then X.bind z fun d => cmpop S.P o2 b d else X.pure r) truth) := by
  rw [arm_isTrue_Compare, X.bind_assoc]
  refine hx.bind fun ρ' a v k ha => ?_
  rw [marked2 hm, X.bind_assoc]
  show SM S c ρ' EqR (do
    let rv ← holding [v] (eval r1 c.env)
    standAt pos
    let cv ← holding [v, rv] (compareOp o1 v rv)
    release [v, rv] [cv]
    if ← holding [cv, rv] (truthy cv) then testChain pos rv [o2] [eval r2 c.env] else pure false) _
  refine (SM.hold (hy.mono k)).bind fun ρ'' b w k' hb => SM.stand ?_
  have e : (X.bind (X.bind (cmpop S.P o1 a b) fun r => X.bind (truth r) fun t => if t then X.bind z fun d => cmpop S.P o2 b d else X.pure r) truth) =
      (X.bind (cmpop S.P o1 a b) fun r => X.bind (truth r) fun t => if t then X.bind (X.bind z fun d => cmpop S.P o2 b d) truth else X.pure false) := by
    funext σ
    rw [X.bind_assoc]
    unfold X.bind
    cases hq : cmpop S.P o1 a b σ with
    | none => rfl
    | some p =>
      obtain ⟨q, σ₁⟩ := p
      cases q with
      | err k => rfl
      | ok q =>
        obtain ⟨t, rfl⟩ := cmpop_bool hq
        cases t <;> rfl
  rw [e]
  refine (SM.hold (sm_cmpop hr (ha.mono k') hb)).bind fun ρ₃ q qv k₃ hq => SM.release ((SM.hold (sm_truth hq)).bind fun ρ₄ t t' k₄ ht => ?_)
  subst ht
  cases t
  · exact SM.pure fun ρ₅ k₅ => rfl
  · show SM S c ρ₄ EqR (testChain pos w [o2] [eval r2 c.env]) (X.bind (X.bind z fun d => cmpop S.P o2 b d) truth)
    rw [X.bind_assoc]
    exact (SM.hold (hz.mono (k.trans (k'.trans (k₃.trans k₄))))).bind fun ρ₅ d dv k₅ hd => SM.stand ((SM.operate (sm_cmpop hr (hb.mono (k₃.trans (k₄.trans k₅))) hd)).bind fun _ _ _ _ h => SM.hold (sm_truth h))

theorem sm_list {xs : List Expr} {pos : Pos} {x : X (List V)} (h : SM S c ρ VRs (spliced (backTo pos (starEach xs c.env))) x) : SM S c ρ VR (eval (.List xs pos) c.env) (X.bind x fun vs => alloc (.list vs)) := by
  rw [arm_eval_List]
  exact SM.stand (h.bind fun ρ' vs ws k hw => sm_newList hw)
theorem sm_tup {xs : List Expr} {pos : Pos} {k : Nat} {x : X (List V)} (h : SM S c ρ VRs (spliced (backTo pos (starEach xs c.env))) x) : SM S c ρ VR (eval (.Tuple xs k pos) c.env) (X.bind x fun vs => alloc (.tup vs)) := by
  rw [arm_eval_Tuple]
  exact SM.stand (h.bind fun ρ' vs ws k hw => sm_newTuple hw)
theorem sm_dict0 {pos : Pos} : SM S c ρ VR (eval (.Dict [] [] pos) c.env) (alloc (.dict [])) := by
  refine (sm_newDict (S := S) (c := c) (ρ := ρ)).via fun Q E s h => ?_
  rw [arm_eval_Dict]
  exact wpAny_bind (wpAny_standAt h)
theorem base_of {o : Expr} (h : plainBase o = true) (attr : Str) (env : Env) (whole : Sem Value) : attributeBase o attr env whole = whole := by
  unfold attributeBase
  split
  · cases h
  · rfl
theorem sm_attr (TV : TabOK S) {n : Nat} (K : CtxOK S n c) {e : Expr} {nm : Str} {i : Nat} {pos : Pos} {x : X V} (hn : S.T[i]? = some nm) (hb : plainBase e = true) (hx : SM S c ρ VR (eval e c.env) x) :
    SM S c ρ VR (eval (.Attribute e nm pos) c.env) (X.bind x fun o => getAttr o i) := by
  rw [arm_eval_Attribute, base_of hb]
  refine hx.bind fun ρ' a v k ha => SM.stand ?_
  refine (SM.hold (vs := [v]) (sm_getAttr (ex := true) TV K.kin hn ha)).via fun Q E s h => ?_
  exact wpAny_bind (wpAny_mono h (fun r s' hr => wpAny_bind (wpAny_letTemporaryGo (wpAny_pure hr))) fun _ _ h => h)
theorem sm_sub {e i : Expr} {pos : Pos} {x y : X V} (hi : isSlice i = false) (hx : SM S c ρ VR (eval e c.env) x) (hy : SM S c ρ VR (eval i c.env) y) : SM S c ρ VR (eval (.Subscript e i pos) c.env) (X.bind x fun o => X.bind y fun k => getItem S.P o k) := by
  rw [arm_eval_Subscript]
  refine hx.bind fun ρ' a v k ha => (SM.hold (hy.mono k)).bind fun ρ'' b w k' hb => SM.stand ?_
  refine sm_getItem (value := e) (slice := i) (ha.mono k') hb fun o j => ?_
  cases i <;> first | rfl | cases hi
end Mine

set_option autoImplicit false
namespace Mine
open PySem PySem.W PySem.Calls PyProof.Rows
variable {S : Sig} {c : Cx} {ρ : List Addr}

noncomputable def SC (S : Sig) (c : Cx) (ρ₀ : List Addr) (f : Value) (vs : List Value) (x : X V) : Prop :=
  ∀ (os : List (Addr × Obj)) (σ : H) (s : Shared) (r : R V) (σ' : H), ρ₀ <+: adr os → c.led S os σ s.heap → x σ = some (r, σ') →
    ∀ (R : Result → Shared → Prop),
      (match r with
        | .ok b => ∀ os' h' tk a, adr os <+: adr os' → c.led S os' σ' h' → VR (adr os') b a → R (.ok (.ret a)) { s with heap := h', toks := tk }
        | .err k => ∀ os' h' tk e, adr os <+: adr os' → c.led S os' σ' h' → Fly S c os' e k h' → R (.error e) { s with heap := h', toks := tk }) →
      codeAny (model S.prog S.w) c.A (.call f ⟨vs, []⟩) R s
theorem SC.sm {f : Value} {vs : List Value} {x : X V} (h : SC S c ρ f vs x) : SM S c ρ VR (call f vs) x := by
  intro os σ s r σ' hp hl hx Q E hQ
  refine wpAny_call (h os σ s r σ' hp hl hx _ ?_)
  cases r with
  | ok b => exact hQ
  | err k => exact hQ

structure CallsOK (S : Sig) (C : Calls) (n : Nat) : Prop where
  fn : ∀ {c : Cx} {ρ : List Addr} {f : Nat} {A : Addr} {xs : List V} {vs : List Value}, CtxOK S n c → S.fn f = some A → All2 (VR ρ) xs vs → SC S c ρ (.ref A) vs (C false f xs)
  me : ∀ {c : Cx} {ρ : List Addr} {f : Nat} {A : Addr} {xs : List V} {vs : List Value}, CtxOK S n c → S.me f = some A → All2 (VR ρ) xs vs → SC S c ρ (.ref A) vs (C true f xs)

noncomputable def Kept (S : Sig) (f : Value) : Prop := ∀ h, S.K.In h → ∃ k, (k = Keeper.frame ∨ k = Keeper.machine ∨ k = Keeper.boundFrame) ∧ Looks (model S.prog S.w) h (keeperOf f) k
theorem kept_builtin (id : String) : Kept S (.builtin id) := fun _ _ => ⟨.machine, .inr (.inl rfl), Looks.of_pure rfl⟩
theorem kept_type (id : String) : Kept S (.type id) := fun _ _ => ⟨.machine, .inr (.inl rfl), Looks.of_pure rfl⟩
theorem kept_K {f : Value} (h : keepIn S.K f = true) : Kept S f := fun h' X => keeps_K h h' X

noncomputable def NoStar (xs : List Expr) (env : Env) : Prop := (starEach xs env).all (fun x => !x.1) = true
theorem back_noStar {xs : List Expr} {env : Env} {pos : Pos} (h : NoStar xs env) : (backTo pos (starEach xs env)).any (·.1) = false ∧ (backTo pos (starEach xs env)).all (fun x => !x.1) = true := by
  unfold NoStar at h
  have : ∀ l : List (Bool × Sem Value), l.all (fun x => !x.1) = true → (backTo pos l).any (·.1) = false ∧ (backTo pos l).all (fun x => !x.1) = true := by
    intro l
    induction l with
    | nil => intro _; exact ⟨rfl, rfl⟩
    | cons p r ih =>
      intro h
      obtain ⟨b, t⟩ := p
      simp only [List.all_cons, Bool.and_eq_true] at h
      obtain ⟨i1, i2⟩ := ih h.2
      have hb : b = false := by simpa using h.1
      subst hb
      exact ⟨by show (false || _) = false; rw [Bool.false_or]; exact i1, by show (true && _) = true; rw [Bool.true_and]; exact i2⟩
  exact this _ h

theorem sm_callWith {n : Nat} (K : CtxOK S n c) {xs : List Expr} {pos : Pos} {f : Value} {first : List Value} {β : Type} {RA : List Addr → β → List Value → Prop} {ax : X β} {g : β → X V} (hf : Kept S f) (hs : NoStar xs c.env)
    (ha : SM S c ρ RA (spliced (backTo pos (starEach xs c.env))) ax) (hg : ∀ ρ' vs ws, ρ <+: ρ' → RA ρ' vs ws → SM S c ρ' VR (call f (first ++ ws)) (g vs)) :
    SM S c ρ VR (callWith pos f first (backTo pos (starEach xs c.env)) []) (X.bind ax g) := by
  have hb := back_noStar (pos := pos) hs
  have key : SM S c ρ VR (spliced (backTo pos (starEach xs c.env)) >>= fun vs => call f (first ++ vs)) (X.bind ax g) := ha.bind fun ρ' vs ws k h => hg ρ' vs ws k h
  intro os σ s r σ' hp hl hx Q E hQ
  refine callWith_of (P := S.K.In) (by rw [hb.1]; rfl) hf ?_
  have inner : wpAny (model S.prog S.w) c.A (spliced (backTo pos (starEach xs c.env))) (fun ws s' => S.K.In s'.heap ∧ wpAny (model S.prog S.w) c.A (call f (first ++ ws)) Q E s') E s := by
    rcases X.bind_inv hx with ⟨vs, σ₁, e1, e2⟩ | ⟨k, e1, rfl⟩
    · refine ha os σ s _ _ hp hl e1 _ _ fun os' h' tk ws k l' hr => ⟨K.kin.keeps l'.fr.keep, ?_⟩
      refine hg _ vs ws (hp.trans k) hr os' σ₁ { s with heap := h', toks := tk } r σ' List.prefix_rfl l' e2 Q E ?_
      cases r with
      | ok d => exact fun os'' h'' tk' a' k' l'' hr' => hQ os'' h'' tk' a' (k.trans k') l'' hr'
      | err e => exact fun os'' h'' tk' a' k' l'' hr' => hQ os'' h'' tk' a' (k.trans k') l'' hr'
    · exact ha os σ s _ _ hp hl e1 _ _ hQ
  cases hq : backTo pos (starEach xs c.env) with
  | nil =>
    rw [hq] at inner
    unfold evalArgs
    show wpAny _ _ (spliced [] >>= _) _ _ _
    refine wpAny_bind (wpAny_mono inner (fun vs s' h' => ?_) fun _ _ h => h)
    refine wpAny_bind (wpAny_pure (wpAny_holding ?_))
    exact wpAny_bind (wpAny_pure (wpAny_bind (wpAny_pure (wpAny_pure h'))))
  | cons p rest =>
    obtain ⟨b, t⟩ := p
    have hb' : b = false := by
      have := hb.1; rw [hq, List.any_cons] at this
      exact (Bool.or_eq_false_iff.mp this).1
    subst hb'
    rw [hq] at inner
    exact evalArgs_plain inner

theorem sm_splice {β γ : Type} {x : Sem Value} {rest : List (Bool × Sem Value)} {R1 : List Addr → β → Value → Prop} {R2 : List Addr → γ → List Value → Prop} {ax : X β} {bx : β → X γ} (h1 : SM S c ρ R1 x ax)
    (h2 : ∀ ρ' b v, ρ <+: ρ' → R1 ρ' b v → SM S c ρ' (fun ρ'' g ws => R2 ρ'' g (v :: ws)) (spliced rest) (bx b)) : SM S c ρ R2 (spliced ((false, x) :: rest)) (X.bind ax bx) := by
  intro os σ s r σ' hp hl hx Q E hQ
  refine spliced_cons ?_
  rcases X.bind_inv hx with ⟨b, σ₁, e1, e2⟩ | ⟨k, e1, rfl⟩
  · refine h1 os σ s _ _ hp hl e1 _ _ fun os' h' tk v k l' hr => ?_
    refine h2 _ b v (hp.trans k) hr os' σ₁ { s with heap := h', toks := tk } r σ' List.prefix_rfl l' e2 _ E ?_
    cases r with
    | ok d => exact fun os'' h'' tk' a' k' l'' hr' => hQ os'' h'' tk' (v :: a') (k.trans k') l'' hr'
    | err e => exact fun os'' h'' tk' a' k' l'' hr' => hQ os'' h'' tk' a' (k.trans k') l'' hr'
  · exact h1 os σ s _ _ hp hl e1 _ _ hQ


structure SigOK (S : Sig) : Prop where
  tab : TabOK S
  globs : ∀ i v, S.P.globs.lookup i = some v → ∃ nm x, S.T[i]? = some nm ∧ nsIn S.K mainGlobals nm = some (some x) ∧ ∀ ρ, VR ρ v x
  tabs : S.P.tabs = []
  fns : ∀ i A, S.fn i = some A → ∃ nm, S.T[i]? = some nm ∧ nsIn S.K mainGlobals nm = some (some (.ref A)) ∧ keepIn S.K (.ref A) = true
  bis : ∀ b, nsIn S.K mainGlobals (biName b) = some none
  isi : nsIn S.K mainGlobals "isinstance" = some none
  kls : ∀ k ≤ 4, nsIn S.K mainGlobals (clsName k) = some none
  mes : ∀ i A, S.me i = some A → ∃ nm, S.T[i]? = some nm ∧ i ∉ S.P.attrs ∧ keepIn S.K (.ref A) = true ∧ isFn S.K (.ref A) = true ∧ ∀ k C, S.cls k = some C → plainGet S.K C nm = true ∧ findIn S.K (.ref C) nm = some (some (.ref A))
  cls : ∀ i C, S.cls i = some C → ∃ nm, S.T[i]? = some nm ∧ nsIn S.K mainGlobals nm = some (some (.ref C)) ∧ keepIn S.K (.ref C) = true ∧ makesIn S.K C = true
  init : ∃ fI, S.me S.P.init = some fI ∧ ∀ i C, S.cls i = some C → findIn S.K (.ref C) "__init__" = some (some (.ref fI)) ∧ typeIn S.K (.ref fI) = some (.type "function")
  nApp : S.T[idAppend]? = some ("append" : Str)
  nPop : S.T[idPop]? = some ("pop" : Str)
  nClr : S.T[idClear]? = some ("clear" : Str)

theorem bi_boot (b : Bi) : bootBuiltins (biName b) = some (biVal b) := by cases b <;> decide +kernel
theorem cls_boot {k : Nat} (h : k ≤ 4) : bootBuiltins (clsName k) = some (.type (clsName k)) := by
  match k, h with
  | 0, _ => decide +kernel
  | 1, _ => decide +kernel
  | 2, _ => decide +kernel
  | 3, _ => decide +kernel
  | 4, _ => decide +kernel
theorem isi_boot : bootBuiltins "isinstance" = some (.builtin "isinstance") := by decide +kernel
theorem bi_ne (b : Bi) : biName b ≠ "__name__" := by cases b <;> decide +kernel
theorem cls_ne {k : Nat} (h : k ≤ 4) : (clsName k : Str) ≠ "__name__" := by
  match k, h with
  | 0, _ => decide +kernel
  | 1, _ => decide +kernel
  | 2, _ => decide +kernel
  | 3, _ => decide +kernel
  | 4, _ => decide +kernel
theorem kept_bi (b : Bi) : Kept S (biVal b) := by cases b <;> first | exact kept_builtin _ | exact kept_type _

theorem sm_Call {xs : List Expr} {nm : Str} {p pos : Pos} {f : Value} {x : X V} (hn : SM S c ρ (fun _ _ v => v = f) (eval (.Name nm p) c.env) (X.pure V.none))
    (hc : SM S c ρ VR (callWith pos f [] (backTo pos (starEach xs c.env)) []) x) : SM S c ρ VR (eval (.Call (.Name nm p) xs [] pos) c.env) x := by
  have key : SM S c ρ VR (eval (.Name nm p) c.env >>= fun f => callWith pos f [] (backTo pos (starEach xs c.env)) []) (X.bind (X.pure V.none) fun _ => x) :=
    hn.bind fun ρ' _ v k h => by subst h; exact hc.mono k
  rw [X.pure_bind] at key
  exact key.eq (by rw [arm_eval_Call_Name']; rfl)

theorem sm_call {n : Nat} (K : CtxOK S (n + 2) c) (OK : SigOK S) {sc : Scope} (SO : ScOK sc c.env) {C : Calls} (HC : CallsOK S C n) {xs : List Expr} {nm : Str} {p pos : Pos} {f : Nat} {ax : X (List V)} (hn : S.T[f]? = some nm) (hg : isGlob sc nm = true) (hf : (S.fn f).isSome = true)
    (hs : NoStar xs c.env) (ha : SM S c ρ VRs (spliced (backTo pos (starEach xs c.env))) ax) : SM S c ρ VR (eval (.Call (.Name nm p) xs [] pos) c.env) (X.bind ax fun vs => C false f vs) := by
  obtain ⟨A, hA⟩ := Option.isSome_iff_exists.mp hf
  obtain ⟨nm', h1, h2, h3⟩ := OK.fns f A hA
  rw [hn] at h1; cases h1
  have hg' := Bool.and_eq_true_iff.mp hg
  refine sm_Call (f := .ref A) (sm_top K (SO.glob _ (of_decide_eq_true hg'.1)) (by simpa using hg'.2) h2 fun _ => rfl) ?_
  exact sm_callWith K (kept_K h3) hs ha fun ρ' vs ws k h => (HC.fn (K.le (Nat.le_add_right _ _)) hA h).sm
theorem sm_bi {n : Nat} (K : CtxOK S n c) (OK : SigOK S) {sc : Scope} (SO : ScOK sc c.env) {xs : List Expr} {nm : Str} {p pos : Pos} {b : Bi} {ax : X (List V)} (hn : nm = biName b) (hg : isGlob sc nm = true)
    (hs : NoStar xs c.env) (ha : SM S c ρ VRs (spliced (backTo pos (starEach xs c.env))) ax) : SM S c ρ VR (eval (.Call (.Name nm p) xs [] pos) c.env) (X.bind ax fun vs => builtin b vs) := by
  subst hn
  have hg' := Bool.and_eq_true_iff.mp hg
  refine sm_Call (f := biVal b) (sm_boot K (SO.glob _ (of_decide_eq_true hg'.1)) (by simpa using hg'.2) (OK.bis b) (bi_boot b) (bi_ne b) fun _ => rfl) ?_
  exact sm_callWith K (kept_bi b) hs ha fun ρ' vs ws k h => sm_builtin K.hand h
theorem sm_isinst {n : Nat} (K : CtxOK S n c) (OK : SigOK S) {sc : Scope} (SO : ScOK sc c.env) {e : Expr} {cn : Str} {p q pos : Pos} {k : Nat} {x : X V} (hg : isGlob sc "isinstance" = true) (hcg : isGlob sc cn = true) (hk : k ≤ 4) (hcn : cn = (clsName k : Str))
    (hs : NoStar [e, .Name cn q] c.env) (he : starEach [e, .Name cn q] c.env = [(false, eval e c.env), (false, eval (.Name cn q) c.env)]) (hx : SM S c ρ VR (eval e c.env) x) :
    SM S c ρ VR (eval (.Call (.Name "isinstance" p) [e, .Name cn q] [] pos) c.env) (X.bind x fun v => X.bind (isinsts S.P v [k]) fun b => X.pure (.bool b)) := by
  subst hcn
  have hg' := Bool.and_eq_true_iff.mp hg
  have hcg' := Bool.and_eq_true_iff.mp hcg
  refine sm_Call (f := .builtin "isinstance") (sm_boot K (SO.glob _ (of_decide_eq_true hg'.1)) (by simpa using hg'.2) OK.isi isi_boot (by decide +kernel) fun _ => rfl) ?_
  have key : SM S c ρ (fun ρ' v ws => ∃ w, ws = [w, .type (clsName k)] ∧ VR ρ' v w) (spliced (backTo pos (starEach [e, .Name (clsName k) q] c.env))) (X.bind x fun v => X.bind (X.pure V.none) fun _ => X.pure v) := by
    rw [he]
    refine sm_splice hx fun ρ' v w k' hv => ?_
    refine sm_splice (sm_boot (x := V.none) (RV := fun _ _ u => u = .type (clsName k)) K (SO.glob _ (of_decide_eq_true hcg'.1)) (by simpa using hcg'.2) (OK.kls k hk) (cls_boot hk) (cls_ne hk) fun _ => rfl) fun ρ'' _ u k'' hu => ?_
    subst hu
    exact SM.pure fun ρ₃ k₃ => ⟨w, rfl, (hv.mono k'').mono k₃⟩
  refine (sm_callWith (RA := fun ρ' v ws => ∃ w, ws = [w, .type (clsName k)] ∧ VR ρ' v w) (g := fun v => X.bind (isinsts S.P v [k]) fun b => X.pure (.bool b)) K (kept_builtin "isinstance") hs key fun ρ' v ws k' h => ?_).eqx ?_
  · obtain ⟨w, rfl, hw⟩ := h
    exact sm_isi hw hk
  · rw [X.bind_assoc]; rfl
end Mine

set_option autoImplicit false
namespace Mine
open PySem PySem.W PySem.Calls PyProof.Rows
variable {S : Sig} {c : Cx} {ρ : List Addr}

theorem methodCall_of {α : Type} {o : Expr} {name : Str} {apos pos : Pos} {env : Env} {ov : Value} {n : Nat} {args : List (Bool × Sem Value)} {M : Model} {A : Around} {E : Value → Shared → Prop} {s : Shared} {Q : Value → Shared → Prop} {f : Value} {first : List Value}
    (_ : α) (hform : methodCallForm n args [] = true) (hline : (apos.endLine == pos.line) = true)
    (hm : ∀ Q' : Value × List Value → Shared → Prop, Q' (f, first) s → wpAny M A (getMethod ov name (do return (← importBound o env).getD true)) Q' E s)
    (h : wpAny M A (callWith pos f first args []) Q E s) : wpAny M A (methodCall o name apos pos env ov n args []) Q E s := by
  unfold methodCall
  have hpos : methodCallPos true o env apos pos = pure pos := by unfold methodCallPos; simp [hline]
  rw [hform]
  refine wpAny_bind (wpAny_holding ?_)
  show wpAny M A (getMethod ov name _) _ E s
  exact hm _ (wpAny_bind (wpAny_of_eq hpos h))

theorem kdOf_list {v : V} {σ : H} (h : kdOf v σ = .list) : ∃ k xs, v = .ref k ∧ σ.get k = some (.list xs) := by
  unfold kdOf at h
  split at h
  · split at h
    · split at h <;> cases h
    · rename_i e; exact ⟨_, _, rfl, e⟩
    · cases h
    · cases h
  · cases h
  · cases h
theorem kdOf_dict {v : V} {σ : H} (h : kdOf v σ = .dict) : ∃ k xs, v = .ref k ∧ σ.get k = some (.dict xs) := by
  unfold kdOf at h
  split at h
  · split at h
    · split at h <;> cases h
    · cases h
    · rename_i e; exact ⟨_, _, rfl, e⟩
    · cases h
  · cases h
  · cases h
theorem kdOf_inst {v : V} {σ : H} (h : kdOf v σ = .inst) : ∃ k q d es, v = .ref k ∧ σ.get k = some (.inst q d) ∧ σ.get d = some (.attrs es) := by
  unfold kdOf at h
  split at h
  · split at h
    · rename_i e
      split at h
      · rename_i e2; exact ⟨_, _, _, _, rfl, e, e2⟩
      · cases h
    · cases h
    · cases h
    · cases h
  · cases h
  · cases h

theorem sm_meth {n : Nat} (K : CtxOK S (n + 2) c) (OK : SigOK S) {C : Calls} (HC : CallsOK S C n) {o : Expr} {xs : List Expr} {nm : Str} {i : Nat} {apos pos : Pos} {x : X V} {ax : X (List V)} (hn : S.T[i]? = some nm) (hb : plainBase o = true) (hline : (apos.endLine == pos.line) = true)
    (hlen : xs.length < 30) (hi : i ≤ 12 ∨ (S.me i).isSome = true) (hs : NoStar xs c.env) (hx : SM S c ρ VR (eval o c.env) x) (ha : SM S c ρ VRs (spliced (backTo pos (starEach xs c.env))) ax) :
    SM S c ρ VR (eval (.Call (.Attribute o nm apos) xs [] pos) c.env) (X.bind x fun ov => fun h => match kdOf ov h with
      | .inst => if i ≤ 12 then none else X.bind ax (fun vs => C true i (ov :: vs)) h
      | .list => if i = idAppend ∨ i = idPop ∨ i = idClear then X.bind ax (fun vs => listMeth S.P ov i vs) h else none
      | .dict => if i = idPop then X.bind ax (fun vs => dictMeth S.P ov i vs) h else none
      | _ => none) := by
  rw [arm_eval_Call, base_of hb]
  refine hx.bind fun ρ' a v k hv => SM.stand ?_
  show SM S c ρ' VR (methodCall o nm apos pos c.env v (xs.length + 0) (backTo pos (starEach xs c.env)) []) _
  have hform : methodCallForm (xs.length + 0) (backTo pos (starEach xs c.env)) [] = true := by
    unfold methodCallForm
    rw [(back_noStar hs).2]
    simp [hlen]
  have ha' := ha.mono k
  intro os σ s r σ' hp hl he Q E hQ
  cases hk : kdOf a σ with
  | inst =>
    dsimp only at he
    rw [hk] at he
    dsimp only at he
    split at he
    · cases he
    · rename_i hi'
      obtain ⟨A, hA⟩ := Option.isSome_iff_exists.mp (hi.resolve_left hi')
      obtain ⟨nm', h1, h2, h3, h4, h5⟩ := OK.mes i A hA
      rw [hn] at h1; cases h1
      obtain ⟨q, cl, d, es, rfl, e1, e2⟩ := kdOf_inst hk
      obtain ⟨B, o1, rfl, _, _, ⟨Cl, D, hC, hD, rfl⟩, g1, _⟩ := hl.ref hp e1 hv
      obtain ⟨D', o2, _, eD, ⟨es', n', rfl, hes, hz⟩, g2, _⟩ := hl.at e2
      rw [hD] at eD; cases eD
      have I : InstAt s.heap B ⟨.ref Cl, some D, .plain, #[]⟩ Cl (some (dictOf es' n')) := ⟨g1, rfl, rfl, g2⟩
      have hg : getL nm es' = some none := by
        rcases attrs_get OK.tab hn hes with ⟨_, e⟩ | ⟨v', w, e, _, _⟩
        · exact e
        · exact absurd (attrs_mem hes e) h2
      refine methodCall_of () hform hline (fun Q' q' => method_inst hl.fr K.kin I (h5 _ _ hC).1 (h5 _ _ hC).2 h4 hg q') ?_
      exact sm_callWith K (kept_K h3) hs ha' (fun ρ'' vs ws k' h => (HC.me (K.le (Nat.le_add_right _ _)) hA (.cons (hv.mono k') h)).sm) os σ s r σ' hp hl he Q E hQ
  | list =>
    dsimp only at he
    rw [hk] at he
    dsimp only at he
    split at he
    · rename_i hi'
      obtain ⟨q, ys, rfl, e1⟩ := kdOf_list hk
      obtain ⟨B, o1, rfl, _, _, ⟨vs, m, rfl, hvs, _⟩, g1, _⟩ := hl.ref hp e1 hv
      have hT : s.TypeIs (.ref B) "list" := ⟨_, g1, rfl⟩
      have hd : ∀ a, Value.ref B = .ref a → ∃ ob, s.heap.get? a = some ob ∧ ob.dict = none := fun a e => by cases e; exact ⟨_, g1, rfl⟩
      rcases hi' with rfl | rfl | rfl
      · rw [OK.nApp] at hn; cases hn
        refine methodCall_of () hform hline (fun Q' q' => getMethod_builtin hT PySem.F.plainAttrs_list PySem.F.slot_list_append PySem.F.type_list_append hd q') ?_
        exact sm_callWith K (kept_builtin _) hs ha' (fun ρ'' vs ws k' h => sm_append (hv.mono k') h) os σ s r σ' hp hl he Q E hQ
      · rw [OK.nPop] at hn; cases hn
        refine methodCall_of () hform hline (fun Q' q' => getMethod_builtin hT PySem.F.plainAttrs_list PySem.F.slot_list_pop PySem.F.type_list_pop hd q') ?_
        exact sm_callWith K (kept_builtin _) hs ha' (fun ρ'' vs ws k' h => sm_pop (hv.mono k') h) os σ s r σ' hp hl he Q E hQ
      · rw [OK.nClr] at hn; cases hn
        refine methodCall_of () hform hline (fun Q' q' => getMethod_builtin hT PySem.F.plainAttrs_list PySem.F.slot_list_clear PySem.F.type_list_clear hd q') ?_
        exact sm_callWith K (kept_builtin _) hs ha' (fun ρ'' vs ws k' h => sm_clear (hv.mono k') h) os σ s r σ' hp hl he Q E hQ
    · cases he
  | dict =>
    dsimp only at he
    rw [hk] at he
    dsimp only at he
    split at he
    · rename_i hi'
      subst hi'
      obtain ⟨q, ys, rfl, e1⟩ := kdOf_dict hk
      obtain ⟨B, o1, rfl, _, _, ⟨es', m, kvs, rfl, k1, k2, k3, k4, hz⟩, g1, _⟩ := hl.ref hp e1 hv
      have hT : s.TypeIs (.ref B) "dict" := ⟨_, g1, rfl⟩
      have hd : ∀ a, Value.ref B = .ref a → ∃ ob, s.heap.get? a = some ob ∧ ob.dict = none := fun a e => by cases e; exact ⟨_, g1, rfl⟩
      rw [OK.nPop] at hn; cases hn
      refine methodCall_of () hform hline (fun Q' q' => getMethod_builtin hT PySem.F.plainAttrs_dict PySem.F.slot_dict_pop PySem.F.type_dict_pop hd q') ?_
      exact sm_callWith K (kept_builtin _) hs ha' (fun ρ'' vs ws k' h => sm_dpop (hv.mono k') h) os σ s r σ' hp hl he Q E hQ
    · cases he
  | str => dsimp only at he; rw [hk] at he; cases he
  | other => dsimp only at he; rw [hk] at he; cases he

theorem emptyDict_attrs : OR S ρ (.attrs []) emptyDict := ⟨[], 0, rfl, .nil, by decide⟩

theorem CtxOK.under {n : Nat} (K : CtxOK S (n + 2) c) {cd : Code} (hw : cd.weight ≤ 2) (hu : cd.cUnits ≤ 4) (hv : cd.envs = []) : CtxOK S n { c with A := c.A.under cd } := by
  refine ⟨K.hand, ?_, ?_, K.kin, K.top, K.lim, K.kind, K.glob, K.blt, K.locs, by show ∃ l, pushEnvs cd.envs c.A.frames = some l ∧ _; rw [hv]; exact K.frs⟩
  · have := K.units; show c.A.units + cd.cUnits + _ + _ < _; lia
  · have := K.depth; show c.A.depth + cd.weight + _ < _; lia

theorem sm_new {n : Nat} (K : CtxOK S (n + 2) c) (OK : SigOK S) {sc : Scope} (SO : ScOK sc c.env) {C : Calls} (HC : CallsOK S C n) {nm : Str} {p pos : Pos} {f : Nat} (hn : S.T[f]? = some nm) (hg : isGlob sc nm = true) (hf : (S.cls f).isSome = true) :
    SM S c ρ VR (eval (.Call (.Name nm p) [] [] pos) c.env) (X.bind (alloc (.attrs [])) fun d => match d with
    | .ref k => X.bind (alloc (.inst f k)) fun o => X.bind (C true S.P.init [o]) fun r => match r with | .none => X.pure o | _ => X.none
    | _ => X.none) := by
  obtain ⟨Cl, hCl⟩ := Option.isSome_iff_exists.mp hf
  obtain ⟨nm', h1, h2, h3, h4⟩ := OK.cls f Cl hCl
  rw [hn] at h1; cases h1
  obtain ⟨fI, hI, hI'⟩ := OK.init
  have hg' := Bool.and_eq_true_iff.mp hg
  refine sm_Call (f := .ref Cl) (sm_top K (SO.glob _ (of_decide_eq_true hg'.1)) (by simpa using hg'.2) h2 fun _ => rfl) ?_
  generalize hy : (X.bind (alloc (.attrs [])) fun d => match d with
    | .ref k => X.bind (alloc (.inst f k)) fun o => X.bind (C true S.P.init [o]) fun r => match r with | .none => X.pure o | _ => X.none
    | _ => X.none) = y
  refine (sm_callWith (xs := []) (ax := X.pure ()) (RA := fun _ _ ws => ws = []) (g := fun _ => y) K (kept_K h3) (by unfold NoStar; rfl) (SM.pure fun _ _ => rfl) fun ρ' _ ws k hw => ?_).eqx (X.pure_bind () (fun _ => y)).symm
  subst hw hy
  show SM S c ρ' VR (call (.ref Cl) []) _
  intro os σ s r σ' hp hl he Q E hQ
  refine wpAny_call ?_
  obtain ⟨hh, g, d, t, oss⟩ := s
  have KX := K.kin.keeps hl.fr.keep
  refine make_core (makes_of KX h4) (looks_findIn KX (hI' f Cl hCl).1) (fun self => bind_fn KX self (hI' f Cl hCl).2) (.inl rfl) ?_
  have l1 := hl.pushed (o := .attrs []) emptyDict_attrs
  have eD : (adr (os ++ [(hh.objs.size, emptyDict)]))[σ.length]? = some hh.objs.size := by rw [hl.len]; simp [adr]
  have l2 := l1.pushed (x := instObj Cl hh.objs.size) (o := .inst f σ.length) ⟨Cl, hh.objs.size, hCl, eD, rfl⟩
  have hx : (hh.push emptyDict).objs.size = hh.objs.size + 1 := Heap.size_push ..
  have v2 := l1.ref_new (p := ((hh.push emptyDict).objs.size, instObj Cl hh.objs.size))
  have len1 : (σ.push (.attrs [])).length = σ.length + 1 := by simp [H.push]
  have he : X.bind (C true S.P.init [.ref (σ.length + 1)]) (fun r => match r with | .none => X.pure (.ref (σ.length + 1)) | _ => X.none) ((σ.push (.attrs [])).push (.inst f σ.length)) = some (r, σ') := by
    rw [← len1]; exact he
  rw [len1, hx] at v2
  rw [hx] at l2
  have K' : CtxOK S n { c with A := c.A.under (.builtin "type.__call__" ⟨[.ref Cl], []⟩) } := K.under (Nat.le_of_ble_eq_true rfl) (Nat.le_of_ble_eq_true rfl) rfl
  have call := HC.me (c := { c with A := c.A.under (.builtin "type.__call__" ⟨[.ref Cl], []⟩) }) K' hI (All2.one (R := VR (adr (os ++ [(hh.objs.size, emptyDict)] ++ [(hh.objs.size + 1, instObj Cl hh.objs.size)]))) v2)
  rcases X.bind_inv he with ⟨rv, σ₁, e1, e2⟩ | ⟨q, e1, rfl⟩
  · refine call _ _ ⟨(hh.push emptyDict).push (instObj Cl hh.objs.size), g, d, t, oss⟩ _ _ List.prefix_rfl l2 e1 _ fun os' h' tk a k' l' hr => ?_
    cases rv with
    | none =>
      cases e2
      refine ⟨hr, hQ os' h' tk _ ((adr_new.trans adr_new).trans k') l' (v2.mono k')⟩
    | _ => cases e2
  · exact call _ _ ⟨(hh.push emptyDict).push (instObj Cl hh.objs.size), g, d, t, oss⟩ _ _ List.prefix_rfl l2 e1 _ fun os' h' tk e k' l' hr => hQ os' h' tk e ((adr_new.trans adr_new).trans k') l' hr
end Mine

set_option autoImplicit false
namespace Mine
open PySem PySem.W PySem.Calls PyProof.Rows
variable {S : Sig} {c : Cx} {ρ : List Addr}

section
variable {h₀ h h' : Heap} {L : Addr} {m : Str → Option Value} {fs : Fs} {k1 k2 kp os : List (Addr × Obj)} {σ : H} {a I : Addr} {x x' : Obj}

theorem mem_mid {p : Addr × Obj} (hp : p ∈ k1 ++ k2 ++ os) : p ∈ (k1 ++ (a, x) :: k2) ++ os := by
  simp only [List.mem_append, List.mem_cons] at hp ⊢
  rcases hp with (q | q) | q
  · exact .inl (.inl q)
  · exact .inl (.inr (.inr q))
  · exact .inr q
theorem mid_mem {p : Addr × Obj} (hp : p ∈ (k1 ++ (a, x) :: k2) ++ os) : p = (a, x) ∨ p ∈ k1 ++ k2 ++ os := by
  simp only [List.mem_append, List.mem_cons] at hp ⊢
  rcases hp with (q | q | q) | q
  · exact .inr (.inl (.inl q))
  · exact .inl q
  · exact .inr (.inl (.inr q))
  · exact .inr (.inr q)
theorem adr_mid : adr (k1 ++ (a, x) :: k2 ++ os) = adr k1 ++ a :: (adr k2 ++ adr os) := by simp [adr]
theorem Led.kmid (l : Led S h₀ L m fs (k1 ++ (a, x) :: k2) os σ h) : h.get? a = some x ∧ a ≠ L ∧ h₀.get? a = none ∧ (∀ f ∈ fs, f.1 ≠ a) ∧ (∀ p ∈ k1 ++ k2 ++ os, p.1 ≠ a) := by
  have hm : (a, x) ∈ (k1 ++ (a, x) :: k2) ++ os := by simp
  refine ⟨(l.news _ hm).1, (l.news _ hm).2.1, (l.news _ hm).2.2, fun f hf e => (l.outs f hf).2.2.2 (by rw [e]; exact List.mem_map.mpr ⟨_, hm, rfl⟩), fun p hp e => ?_⟩
  have nd := l.nd
  rw [adr_mid] at nd
  obtain ⟨_, n2, n3⟩ := List.nodup_append.mp nd
  rcases List.mem_append.mp hp with hp | hp
  · rcases List.mem_append.mp hp with hp | hp
    · exact n3 p.1 (List.mem_map_of_mem hp) a (.head _) e
    · exact (List.nodup_cons.mp n2).1 (e ▸ List.mem_append_left _ (List.mem_map_of_mem hp))
  · exact (List.nodup_cons.mp n2).1 (e ▸ List.mem_append_right _ (List.mem_map_of_mem hp))
theorem Led.kset (l : Led S h₀ L m fs (k1 ++ (a, x) :: k2) os σ h) (hs : Heap.SameBut a h h') (hx : h'.get? a = some x') : Led S h₀ L m fs (k1 ++ (a, x') :: k2) os σ h' := by
  obtain ⟨g1, g2, g3, g4, g5⟩ := l.kmid
  refine ⟨l.fr.change hs g2 g3, fun p hp => ?_, by have := l.nd; rw [adr_mid] at this ⊢; exact this, l.objs, fun f hf => ?_, l.top, by have := l.big; rw [adr_mid] at this ⊢; exact this, l.frz⟩
  · rcases mid_mem hp with rfl | hp'
    · exact ⟨hx, g2, g3⟩
    · have := l.news p (mem_mid hp')
      exact ⟨(hs.2 _ (g5 p hp')).trans this.1, this.2⟩
  · have := l.outs f hf
    exact ⟨this.1.sameBut hs (g4 f hf), this.2.1, this.2.2.1, by have t := this.2.2.2; rw [adr_mid] at t ⊢; exact t⟩
theorem Led.kdrop (l : Led S h₀ L m fs (k1 ++ (a, x) :: k2) os σ h) : Led S h₀ L m fs (k1 ++ k2) os σ h := by
  have sub : ∀ p, p ∈ k1 ++ k2 ++ os → p ∈ (k1 ++ (a, x) :: k2) ++ os := fun p hp => mem_mid hp
  have suba : ∀ b, b ∈ adr (k1 ++ k2 ++ os) → b ∈ adr ((k1 ++ (a, x) :: k2) ++ os) := fun b hb => by
    obtain ⟨p, hp, rfl⟩ := List.mem_map.mp hb; exact List.mem_map_of_mem (sub p hp)
  refine ⟨l.fr, fun p hp => l.news p (sub p hp), ?_, l.objs, fun f hf => ⟨(l.outs f hf).1, (l.outs f hf).2.1, (l.outs f hf).2.2.1, fun q => (l.outs f hf).2.2.2 (suba _ q)⟩, l.top, fun b hb => l.big b (suba b hb), l.frz⟩
  have nd := l.nd
  refine List.Nodup.sublist ?_ nd
  unfold adr
  refine List.Sublist.map _ ?_
  refine List.Sublist.append_right ?_ _
  exact List.Sublist.append_left (List.sublist_cons_self _ _) _
theorem Led.extBut (l : Led S h₀ L m fs (k1 ++ (a, x) :: k2) os σ h) (hs : Heap.ExtBut a h h') : Led S h₀ L m fs (k1 ++ k2) os σ h' := by
  obtain ⟨g1, g2, g3, g4, g5⟩ := l.kmid
  have l' := l.kdrop
  refine ⟨⟨l'.fr.ns.at' fun o e => hs _ o (Ne.symm g2) e, fun b o e => hs b o (fun q => by rw [q, g3] at e; cases e) (l'.fr.keep b o e), l'.fr.above⟩, fun p hp => ⟨hs _ _ (g5 p hp) (l'.news p hp).1, (l'.news p hp).2⟩, l'.nd, l'.objs,
    fun f hf => ⟨(l'.outs f hf).1.at' fun o e => hs _ o (g4 f hf) e, (l'.outs f hf).2⟩, l'.top, l'.big, l'.frz⟩
theorem Led.knew (l : Led S h₀ L m fs kp os σ h) {q : Addr} (k : ∀ b o, h.get? b = some o → h'.get? b = some o) (hf : h.get? q = none) (hq : mainGlobals < q) (hx : h'.get? q = some x) : Led S h₀ L m fs (kp ++ (q, x) :: []) os σ h' := by
  obtain ⟨q1, q2, q3, q4⟩ := l.free hf
  have l' := l.keep k
  have mem : ∀ p, p ∈ (kp ++ (q, x) :: []) ++ os → p = (q, x) ∨ p ∈ kp ++ os := fun p hp => by
    have := mid_mem hp
    rwa [List.append_nil] at this
  refine ⟨l'.fr, fun p hp => ?_, ?_, l'.objs, fun f hf => ⟨(l'.outs f hf).1, (l'.outs f hf).2.1, (l'.outs f hf).2.2.1, fun hm => ?_⟩, l'.top, fun b hb => ?_, l'.frz⟩
  · rcases mem p hp with rfl | hp
    · exact ⟨hx, q1, q2⟩
    · exact l'.news p hp
  · have nd := l.nd
    unfold adr at nd q3 ⊢
    rw [List.map_append] at nd q3
    obtain ⟨n1, n2, n3⟩ := List.nodup_append.mp nd
    rw [List.append_assoc, List.map_append, List.cons_append, List.nil_append, List.map_cons]
    refine List.nodup_append.mpr ⟨n1, List.nodup_cons.mpr ⟨fun e => q3 (List.mem_append_right _ e), n2⟩, fun b hb d hd e => ?_⟩
    rcases List.mem_cons.mp hd with rfl | hd
    · exact q3 (List.mem_append_left _ (e ▸ hb))
    · exact n3 b hb d hd e
  · obtain ⟨p, hp, e⟩ := List.mem_map.mp hm
    rcases mem p hp with rfl | hp
    · exact q4 f hf e.symm
    · exact (l'.outs f hf).2.2.2 (e ▸ List.mem_map_of_mem hp)
  · obtain ⟨p, hp, rfl⟩ := List.mem_map.mp hb
    rcases mem p hp with rfl | hp
    · exact notMods hq
    · exact l.big _ (List.mem_map_of_mem hp)
theorem Led.kpush (l : Led S h₀ L m fs kp os σ h) (hx : x.isFreed = false) : Led S h₀ L m fs (kp ++ (h.objs.size, x) :: []) os σ (h.push x) :=
  l.knew (fun _ _ e => Heap.get?_push_of_some _ e) (get_size h) l.room (Heap.get?_push_size _ hx)
end

noncomputable def ItAt (h : Heap) (I : Addr) (ρ : List Addr) (v : V) (σ : H) (i : Nat) : Prop := match v with
  | .ref a => ∃ A, ρ[a]? = some A ∧ (match σ.get a with
    | some (.list _) => h.IsListIter I A i
    | some (.tup _) => h.IsTupleIter I A i
    | some (.rng x y z) => IsRangeIter h I (x + (i : Int) * z) (((rangeList x y z).length : Int) - (i : Int)) z
    | _ => False)
  | _ => False
theorem ItAt.at {h h' : Heap} {I : Addr} {ρ ρ' : List Addr} {v : V} {σ σ' : H} {i : Nat} (t : ItAt h I ρ v σ i) (k : ∀ o, h.get? I = some o → h'.get? I = some o) (kρ : ρ <+: ρ') (st : still v σ σ' = true) : ItAt h' I ρ' v σ' i := by
  unfold ItAt at t ⊢
  cases v with
  | ref a =>
    obtain ⟨A, hA, t⟩ := t
    have e : σ'.get a = σ.get a := of_decide_eq_true st
    refine ⟨A, pre_get kρ hA, ?_⟩
    rw [e]
    cases hq : σ.get a with
    | none => rw [hq] at t; exact t
    | some o =>
      rw [hq] at t
      cases o with
      | list xs => obtain ⟨o, q, r⟩ := t; exact ⟨o, k o q, r⟩
      | tup xs => obtain ⟨o, q, r⟩ := t; exact ⟨o, k o q, r⟩
      | rng x y z => exact k _ t
      | _ => exact t
  | _ => exact t

theorem range_len {a b z : Int} (hz : 0 < z) : Builtin.Range.rangeSize a b z = ((rangeList a b z).length : Int) := by
  unfold Builtin.Range.rangeSize rangeList
  rw [if_pos hz, if_pos (show z > 0 from hz), List.length_map, List.length_range]
  split
  · have : 0 ≤ (b - a - 1) / z := Int.ediv_nonneg (by lia) (Int.le_of_lt hz)
    rw [Int.toNat_of_nonneg (by lia)]
  · rfl
theorem range_at {a b z : Int} {i : Nat} {v : V} (hz : 0 < z) (h : ((rangeList a b z).map V.int)[i]? = some v) : v = .int (a + (i : Int) * z) ∧ i < (rangeList a b z).length := by
  unfold rangeList at h ⊢
  rw [if_pos hz] at h ⊢
  simp only [List.map_map, List.getElem?_map] at h
  obtain ⟨k, hk, rfl⟩ := Option.map_eq_some_iff.mp h
  obtain ⟨h1, h2⟩ := List.getElem?_eq_some_iff.mp hk
  simp only [List.getElem_range] at h2
  subst h2
  exact ⟨rfl, by simpa using h1⟩
theorem range_fits {a b z : Int} (ha : small' a = true) (hb : small' b = true) (hc : small' z = true) (hz : 0 < z) : Builtin.Range.small a b z = true := by
  unfold small' at ha hb hc
  simp only [decide_eq_true_eq] at ha hb hc
  have hn : Builtin.Range.rangeFitsLong (Builtin.Range.rangeSize a b z) = true := by
    unfold Builtin.Range.rangeSize Builtin.Range.rangeFitsLong
    rw [if_pos (show z > 0 from hz)]
    split
    · have h1 : 0 ≤ (b - a - 1) / z := Int.ediv_nonneg (by lia) (Int.le_of_lt hz)
      have h2 : (b - a - 1) / z ≤ b - a - 1 := Int.ediv_le_self _ (by lia)
      simp only [Bool.and_eq_true, decide_eq_true_eq]
      lia
    · decide
  unfold Builtin.Range.small
  rw [hn]
  unfold Builtin.Range.rangeFitsLong
  simp only [Bool.and_eq_true, Bool.or_eq_true, decide_eq_true_eq, show z > 0 from hz, if_true]
  refine ⟨⟨⟨⟨⟨?_, ?_⟩, ?_, ?_⟩, ?_, ?_⟩, trivial⟩, .inr ⟨?_, ?_⟩⟩ <;> lia

section
variable {A : Around} {E : Value → Shared → Prop} {s : Shared} {h₀ : Heap} {L : Addr} {m : Str → Option Value} {fs : Fs} {kp k1 k2 os : List (Addr × Obj)} {σ : H}
theorem iter_len (l : Led S h₀ L m fs kp os σ s.heap) {v : V} {vs : List V} (e : iterOf v σ = some vs) : vs.length ≤ lim := by
  unfold iterOf at e
  cases v with
  | ref a =>
    dsimp only at e
    cases hk : σ.get a with
    | none => rw [hk] at e; cases e
    | some o =>
      rw [hk] at e
      obtain ⟨B, o1, _, _, hor, _⟩ := l.at hk
      cases o with
      | list xs => cases e; obtain ⟨_, _, _, _, hz⟩ := hor; exact hz
      | tup xs => cases e; obtain ⟨_, _, _, _, hz⟩ := hor; exact hz
      | rng p q z =>
        dsimp only at e
        split at e
        · rename_i hc
          simp only [Bool.and_eq_true, decide_eq_true_eq] at hc
          cases e
          rw [List.length_map]
          have h1 := range_len (a := p) (b := q) hc.2
          unfold Builtin.Range.rangeSize at h1
          rw [if_pos (show z > 0 from hc.2)] at h1
          split at h1
          · have h2 : (q - p - 1) / z ≤ q - p - 1 := Int.ediv_le_self _ (by lia)
            have := hc.1.2
            lia
          · lia
        · cases e
      | _ => cases e
  | _ => cases e
theorem it_new (l : Led S h₀ L m fs kp os σ s.heap) (hp : ρ <+: adr os) {v : V} {x : Value} {vs : List V} (hx : VR ρ v x) (e : iterOf v σ = some vs) {Q : Value → Shared → Prop}
    (hQ : ∀ I o h', Led S h₀ L m fs (kp ++ (I, o) :: []) os σ h' → ItAt h' I (adr os) v σ 0 → Q (.ref I) { s with heap := h' }) : wpAny (model S.prog S.w) A (pyIter x) Q E s := by
  unfold iterOf at e
  cases v with
  | ref a =>
    dsimp only at e
    cases hk : σ.get a with
    | none => rw [hk] at e; cases e
    | some o =>
      rw [hk] at e
      cases o with
      | list xs =>
        obtain ⟨B, o1, rfl, _, eB, ⟨ws, n, rfl, hws, hz⟩, h1, _⟩ := l.ref hp hk hx
        refine wpAny_pyIter_list (PySem.IsL.isList (n := n) h1) (hQ _ _ _ (l.kpush rfl) ⟨B, eB, ?_⟩)
        rw [hk]
        exact ⟨_, Heap.get?_push_size _ rfl, rfl, rfl⟩
      | tup xs =>
        obtain ⟨B, o1, rfl, _, eB, ⟨ws, n, rfl, hws, hz⟩, h1, _⟩ := l.ref hp hk hx
        refine wpAny_pyIter_tuple ⟨_, h1, rfl, n, rfl⟩ (hQ _ _ _ (l.kpush rfl) ⟨B, eB, ?_⟩)
        rw [hk]
        exact ⟨_, Heap.get?_push_size _ rfl, rfl, rfl⟩
      | rng p q z =>
        obtain ⟨B, o1, rfl, _, eB, ⟨t1, t2, t3, rfl⟩, h1, _⟩ := l.ref hp hk hx
        dsimp only at e
        split at e
        · rename_i hc
          simp only [Bool.and_eq_true, decide_eq_true_eq] at hc
          refine wpAny_pyIter_range h1 (range_fits hc.1.1.1.1 hc.1.1.1.2 hc.1.1.2 hc.2) (hQ _ _ _ (l.kpush rfl) ⟨B, eB, ?_⟩)
          rw [hk]
          dsimp only
          rw [← range_len hc.2]
          have : IsRangeIter (s.heap.push { cls := .type "range_iterator", data := .fields #[rawInt p, rawInt (Builtin.Range.rangeSize p q z), rawInt z] }) s.heap.objs.size p (Builtin.Range.rangeSize p q z) z := Heap.get?_push_size _ rfl
          simpa using this
        · cases e
      | _ => cases e
  | _ => cases e
variable {I : Addr} {o : Obj}
theorem it_next (l : Led S h₀ L m fs (k1 ++ (I, o) :: k2) os σ s.heap) {v : V} {vs : List V} {i : Nat} {y : V} (t : ItAt s.heap I (adr os) v σ i) (e : iterOf v σ = some vs) (hy : vs[i]? = some y) {Q : Option Value → Shared → Prop}
    (hQ : ∀ o' h' tk x, Led S h₀ L m fs (k1 ++ (I, o') :: k2) os σ h' → ItAt h' I (adr os) v σ (i + 1) → VR (adr os) y x → Q (some x) { s with heap := h', toks := tk }) : wpAny (model S.prog S.w) A (pyNext (.ref I)) Q E s := by
  unfold ItAt at t
  unfold iterOf at e
  cases v with
  | ref a =>
    obtain ⟨B, hB, t⟩ := t
    dsimp only at e
    cases hk : σ.get a with
    | none => rw [hk] at e; cases e
    | some ob =>
      rw [hk] at e t
      obtain ⟨B', o1, _, eB, hor, h1, _⟩ := l.at hk
      rw [hB] at eB; cases eB
      cases ob with
      | list xs =>
        cases e
        obtain ⟨ws, n, rfl, hws, hz⟩ := hor
        obtain ⟨x, hx, hr⟩ := hws.get hy
        refine wpAny_pyNext_list_item t (PySem.IsL.isList (n := n) h1) (x := x) (by simpa using hx) fun h' t' hs => ?_
        obtain ⟨o', g1, g2⟩ := id t'
        exact hQ o' h' s.toks x (l.kset hs g1) ⟨B, hB, by rw [hk]; exact t'⟩ hr
      | tup xs =>
        cases e
        obtain ⟨ws, n, rfl, hws, hz⟩ := hor
        obtain ⟨x, hx, hr⟩ := hws.get hy
        refine wpAny_pyNext_tuple_item t ⟨_, h1, rfl, n, rfl⟩ (x := x) (by simpa using hx) fun h' t' hs => ?_
        obtain ⟨o', g1, g2⟩ := id t'
        exact hQ o' h' s.toks x (l.kset hs g1) ⟨B, hB, by rw [hk]; exact t'⟩ hr
      | rng p q z =>
        dsimp only at e
        split at e
        · rename_i hc
          simp only [Bool.and_eq_true, decide_eq_true_eq] at hc
          cases e
          obtain ⟨rfl, hi⟩ := range_at hc.2 hy
          refine wpAny_pyNext_range_item t (by lia) fun h' t' hs => ?_
          refine hQ _ h' _ _ (l.kset hs t') ⟨B, hB, ?_⟩ ⟨_, rfl⟩
          rw [hk]
          dsimp only
          have e1 : p + ((i + 1 : Nat) : Int) * z = p + (i : Int) * z + z := by rw [Int.natCast_add, Int.add_mul]; simp [Int.add_assoc]
          have e2 : ((rangeList p q z).length : Int) - ((i + 1 : Nat) : Int) = ((rangeList p q z).length : Int) - (i : Int) - 1 := by lia
          rw [e1, e2]; exact t'
        · cases e
      | _ => cases e
  | _ => cases e
theorem it_done (hh : A.handled = none) (l : Led S h₀ L m fs (k1 ++ (I, o) :: k2) os σ s.heap) {v : V} {vs : List V} {i : Nat} (t : ItAt s.heap I (adr os) v σ i) (e : iterOf v σ = some vs) (hy : vs[i]? = none) {Q : Option Value → Shared → Prop}
    (hQ : ∀ h', Led S h₀ L m fs (k1 ++ k2) os σ h' → Q none { s with heap := h' }) : wpAny (model S.prog S.w) A (pyNext (.ref I)) Q E s := by
  unfold ItAt at t
  unfold iterOf at e
  cases v with
  | ref a =>
    obtain ⟨B, hB, t⟩ := t
    dsimp only at e
    cases hk : σ.get a with
    | none => rw [hk] at e; cases e
    | some ob =>
      rw [hk] at e t
      obtain ⟨B', o1, _, eB, hor, h1, _⟩ := l.at hk
      rw [hB] at eB; cases eB
      cases ob with
      | list xs =>
        cases e
        obtain ⟨ws, n, rfl, hws, hz⟩ := hor
        refine wpAny_pyNext_list_end hh t (PySem.IsL.isList (n := n) h1) ?_ fun h' hs => hQ h' (l.extBut hs)
        have := hws.length
        rw [List.getElem?_eq_none_iff] at hy
        simp; lia
      | tup xs =>
        cases e
        obtain ⟨ws, n, rfl, hws, hz⟩ := hor
        refine wpAny_pyNext_tuple_end hh t ⟨_, h1, rfl, n, rfl⟩ ?_ fun h' hs => hQ h' (l.extBut hs)
        have := hws.length
        rw [List.getElem?_eq_none_iff] at hy
        simp; lia
      | rng p q z =>
        dsimp only at e
        split at e
        · rename_i hc
          cases e
          rw [List.getElem?_eq_none_iff, List.length_map] at hy
          exact wpAny_pyNext_range_end hh t (by lia) fun h' hs => hQ h' (l.extBut hs)
        · cases e
      | _ => cases e
  | _ => cases e
end
end Mine

set_option autoImplicit false
namespace Mine
open PySem PySem.W PySem.Calls PyProof.Rows
variable {S : Sig} {c : Cx} {ρ : List Addr}

section
variable {h₀ h h' : Heap} {L C : Addr} {m mC : Str → Option Value} {fs : Fs} {kp os : List (Addr × Obj)} {σ : H}
theorem none_above (l : Fr h₀ L h m) : h₀.get? L = none := by
  cases e : h₀.get? L with
  | none => rfl
  | some o => exact absurd (Heap.lt_size e) (Nat.not_lt.mpr l.above)
theorem Led.enter (l : Led S h₀ L m fs kp os σ h) (ns : h'.Ns C mC) (k : ∀ b o, h.get? b = some o → h'.get? b = some o) (hC : h.get? C = none) (hle : h.objs.size ≤ C) : Led S h₀ C mC ((L, m) :: fs) kp os σ h' := by
  have l' := l.keep k
  have ne : ∀ {b : Addr} {o : Obj}, h.get? b = some o → b ≠ C := fun e q => by rw [q, hC] at e; cases e
  obtain ⟨oL, es, ep, hL, _⟩ := id l.fr.ns
  have above : h₀.objs.size ≤ C := Nat.le_trans l.fr.above (Nat.le_trans (Nat.le_of_lt (Heap.lt_size hL)) hle)
  refine ⟨⟨ns, l'.fr.keep, above⟩, fun p hp => ⟨(l'.news p hp).1, ne (l.news p hp).1, (l'.news p hp).2.2⟩, l'.nd, l'.objs, fun f hf => ?_, l'.top, l'.big, l'.frz⟩
  rcases List.mem_cons.mp hf with rfl | hf
  · refine ⟨l'.fr.ns, ne hL, none_above l.fr, fun q => ?_⟩
    obtain ⟨p, hp, e⟩ := List.mem_map.mp q
    exact (l.news p hp).2.1 e
  · obtain ⟨of, _, _, hf', _⟩ := (l.outs f hf).1
    exact ⟨(l'.outs f hf).1, ne hf', (l'.outs f hf).2.2⟩
theorem Led.leave (l : Led S h₀ C mC ((L, m) :: fs) kp os σ h) (ab : h₀.objs.size ≤ L) (ne : ∀ f ∈ fs, f.1 ≠ L) (hs : ∀ b o, b ≠ C → h.get? b = some o → h'.get? b = some o) : Led S h₀ L m fs kp os σ h' := by
  have hL := l.outs _ (.head _)
  have nC := none_above l.fr
  refine ⟨⟨hL.1.at' fun o e => hs _ o hL.2.1 e, fun b o e => hs b o (fun q => by rw [q, nC] at e; cases e) (l.fr.keep b o e), ab⟩,
    fun p hp => ⟨hs _ _ (l.news p hp).2.1 (l.news p hp).1, fun q => hL.2.2.2 (List.mem_map.mpr ⟨p, hp, q⟩), (l.news p hp).2.2⟩, l.nd, l.objs, fun f hf => ?_, l.top, l.big, l.frz⟩
  have hF := l.outs f (.tail _ hf)
  exact ⟨hF.1.at' fun o e => hs _ o hF.2.1 e, ne f hf, hF.2.2⟩
theorem Led.lset (l : Led S h₀ L m fs kp os σ h) (hn : h'.Ns L mC) (hs : Heap.SameBut L h h') : Led S h₀ L mC fs kp os σ h' :=
  ⟨l.fr.set hn hs, fun p hp => ⟨(hs.2 _ (l.news p hp).2.1).trans (l.news p hp).1, (l.news p hp).2⟩, l.nd, l.objs, fun f hf => ⟨(l.outs f hf).1.sameBut hs (l.outs f hf).2.1, (l.outs f hf).2⟩, l.top, l.big, l.frz⟩
theorem Led.kmove {D : Addr} {x : Obj} {o : O} (l : Led S h₀ L m fs (kp ++ (D, x) :: []) os σ h) (hr : OR S (adr os) o x) : Led S h₀ L m fs kp (os ++ [(D, x)]) (σ.push o) h := by
  have hk := l.kmid
  rw [List.append_nil] at hk
  have l' := l.kdrop
  rw [List.append_nil] at l'
  have pf : adr os <+: adr (os ++ [(D, x)]) := adr_new
  have adk : adr (kp ++ (os ++ [(D, x)])) = adr (kp ++ os) ++ [D] := by simp [adr]
  refine ⟨l.fr, fun p hp => ?_, ?_, (l.objs.mono fun _ _ e => e.mono S pf).append (.one (hr.mono S pf)), fun f hf => ⟨(l'.outs f hf).1, (l'.outs f hf).2.1, (l'.outs f hf).2.2.1, ?_⟩, l.top, ?_, l.frz.1.trans (List.prefix_append _ _), l.frz.2⟩
  · rw [← List.append_assoc] at hp
    rcases List.mem_append.mp hp with hp | hp
    · exact l'.news p hp
    · rw [List.mem_singleton.mp hp]; exact ⟨hk.1, hk.2.1, hk.2.2.1⟩
  · rw [adk]
    refine List.nodup_append.mpr ⟨l'.nd, by simp, fun b hb d hd e => ?_⟩
    rw [List.mem_singleton.mp hd] at e
    obtain ⟨p, hp, rfl⟩ := List.mem_map.mp hb
    exact hk.2.2.2.2 p hp e
  · rw [adk]
    intro hm
    rcases List.mem_append.mp hm with hm | hm
    · exact (l'.outs f hf).2.2.2 hm
    · exact hk.2.2.2.1 f hf (List.mem_singleton.mp hm)
  · rw [adk]
    intro b hb
    rcases List.mem_append.mp hb with hb | hb
    · exact l'.big b hb
    · rw [List.mem_singleton.mp hb]
      exact l.big D (List.mem_map.mpr ⟨(D, x), by simp, rfl⟩)
end

theorem lookup_relabel {env : Env} : ∀ {names : List (Str × NameKind)} {x : Str},
    (names.map fun (n, k) => if (k == NameKind.free && env.scope.kind == .function && env.kindOf n == some .cell) then (n, NameKind.cell) else (n, k)).lookup x = (names.lookup x).map fun k => if (k == NameKind.free && env.scope.kind == .function && env.kindOf x == some .cell) then NameKind.cell else k
  | [], _ => rfl
  | (n, k) :: r, x => by
    have ih := @lookup_relabel env r x
    show List.lookup x ((if (k == NameKind.free && env.scope.kind == .function && env.kindOf n == some .cell) = true then (n, NameKind.cell) else (n, k)) :: _) = _
    cases hx : x == n with
    | true =>
      have hxn : x = n := beq_iff_eq.mp hx
      subst hxn
      split <;> simp_all [List.lookup_cons]
    | false =>
      split <;> simp only [List.lookup_cons, hx] <;> exact ih

theorem closure_of {env : Env} {sc' : Scope} (h : ∀ x ∈ sc'.names, x.2 = .free → ∃ a, env.cells.lookup x.1 = some a) :
    ∃ cl, closureFor sc' env = pure cl ∧ ∀ nm, sc'.names.lookup nm = some .free → cl.lookup nm = env.cells.lookup nm := by
  have key : ∀ (l : List (Str × NameKind)) (cs : List (Str × Addr)), (∀ x ∈ l, x.2 = .free → ∃ a, env.cells.lookup x.1 = some a) → (∀ p ∈ cs, env.cells.lookup p.1 = some p.2) →
      ∃ cl, (forIn l cs fun x r => (do
        let (name, kind) := x
        if kind == .free then do
          let y ← cellOf env name
          pure (ForInStep.yield ((name, y) :: r))
        else pure (ForInStep.yield r) : Sem (ForInStep (List (Str × Addr))))) = pure cl ∧ (∀ p ∈ cl, env.cells.lookup p.1 = some p.2) ∧ (∀ p ∈ cs, p ∈ cl) ∧ ∀ x ∈ l, x.2 = .free → ∃ a, (x.1, a) ∈ cl := by
    intro l
    induction l with
    | nil => intro cs _ h2; exact ⟨cs, rfl, h2, fun p hp => hp, fun x hx => nomatch hx⟩
    | cons y r ih =>
      intro cs h1 h2
      obtain ⟨n, k⟩ := y
      rw [List.forIn_cons]
      by_cases hk : k = .free
      · subst hk
        obtain ⟨a, ha⟩ := h1 _ (.head _) rfl
        dsimp only at ha
        obtain ⟨cl, e1, e2, e3, e4⟩ := ih ((n, a) :: cs) (fun x hx => h1 x (.tail _ hx)) (fun p hp => by
          rcases List.mem_cons.mp hp with rfl | hp
          · exact ha
          · exact h2 p hp)
        refine ⟨cl, ?_, e2, fun p hp => e3 p (.tail _ hp), fun x hx hf => ?_⟩
        · have : cellOf env n = pure a := by unfold cellOf; rw [ha]
          simp only [beq_self_eq_true, if_true, this]
          exact e1
        · rcases List.mem_cons.mp hx with rfl | hx
          · exact ⟨a, e3 _ (.head _)⟩
          · exact e4 x hx hf
      · obtain ⟨cl, e1, e2, e3, e4⟩ := ih cs (fun x hx => h1 x (.tail _ hx)) h2
        refine ⟨cl, ?_, e2, e3, fun x hx hf => ?_⟩
        · have : (k == NameKind.free) = false := by simpa using hk
          simp only [this, Bool.false_eq_true, if_false]
          exact e1
        · rcases List.mem_cons.mp hx with rfl | hx
          · exact absurd hf hk
          · exact e4 x hx hf
  obtain ⟨cl, e1, e2, _, e4⟩ := key sc'.names [] h (fun p hp => nomatch hp)
  refine ⟨cl, ?_, fun nm hn => ?_⟩
  · unfold closureFor
    refine Eq.trans (congrArg (fun t => t >>= fun r => pure r) (?_ : _ = forIn sc'.names ([] : List (Str × Addr)) _)) (by rw [e1]; rfl)
    congr 1
  · obtain ⟨a, ha⟩ := e4 (nm, .free) (PySem.mem_of_lookup hn) rfl
    cases hq : cl.lookup nm with
    | none =>
      rw [List.lookup_eq_none_iff] at hq
      have := hq _ ha
      simp at this
    | some b => rw [e2 (nm, b) (PySem.mem_of_lookup hq)]
end Mine

set_option autoImplicit false
namespace Mine
open PySem PySem.W PySem.Calls PyProof.Rows
variable {S : Sig} {c : Cx} {ρ : List Addr}

abbrev condTree (ifs : List Expr) (env : Env) : Sem Bool := forIn ifs true fun c r => if r = true then do let ok ← isTrue c env (eval c env); pure (ForInStep.yield ok) else pure (ForInStep.yield r)

theorem it_self {A : Around} {E : Value → Shared → Prop} {s : Shared} {I : Addr} {v : V} {σ : H} {i : Nat} {Q : Value → Shared → Prop} (t : ItAt s.heap I ρ v σ i) (h : Q (.ref I) s) : wpAny (model S.prog S.w) A (pyIter (.ref I)) Q E s := by
  unfold ItAt at t
  cases v with
  | ref a =>
    obtain ⟨B, _, t⟩ := t
    cases hk : σ.get a with
    | none => rw [hk] at t; exact t.elim
    | some o =>
      rw [hk] at t
      cases o with
      | list xs => exact wpAny_pyIter_listiter t h
      | tup xs => exact wpAny_pyIter_tupleiter t h
      | rng a b z => exact wpAny_pyIter_rangeiter t h
      | _ => exact t.elim
  | _ => exact t.elim

theorem still_iter {v : V} {σ σ' : H} (h : still v σ σ' = true) : iterOf v σ' = iterOf v σ := by
  unfold iterOf
  cases v with
  | ref a => have e : σ'.get a = σ.get a := of_decide_eq_true h; dsimp only; rw [e]
  | _ => rfl
theorem still_refl (v : V) (σ : H) : still v σ σ = true := by cases v <;> simp [still]
theorem still_sym {v : V} {σ σ' : H} (h : still v σ σ' = true) : still v σ' σ = true := by cases v <;> simp_all [still]
theorem still_trans {v : V} {σ σ' σ'' : H} (h : still v σ σ' = true) (h' : still v σ' σ'' = true) : still v σ σ'' = true := by cases v <;> simp_all [still]

noncomputable def rpre (l : List V) : R (List V) → R (List V)
  | .ok ws => .ok (l ++ ws)
  | .err k => .err k

structure CompOK (S : Sig) (sc sc' : Scope) (env : Env) (nms : List Str) : Prop where
  kind : sc'.kind = .function
  cells : ∀ x ∈ sc'.names, x.2 ≠ .cell
  locs : ∀ x ∈ sc'.names, x.2 = .local → sc'.names.lookup x.1 = some .local
  only : ∀ x ∈ sc'.names, x.2 = .local → x.1 ∈ nms ∨ x.1 ∉ S.T
  free : ∀ x ∈ sc'.names, x.2 = .free → isCell sc x.1 = true
  own : ∀ nm ∈ nms, sc'.names.lookup nm = some .local
theorem compOK {sc sc' : Scope} {env : Env} {nms : List Str} (h : compScope S.nam sc sc' nms = true) : CompOK S sc sc' env nms := by
  unfold compScope at h
  simp only [Bool.and_eq_true, decide_eq_true_eq, List.all_eq_true, Bool.or_eq_true, Bool.not_eq_true', decide_eq_false_iff_not] at h
  obtain ⟨⟨h1, h2⟩, h3⟩ := h
  refine ⟨h1, fun x hx => (h2 x hx).1.1, fun x hx e => ?_, fun x hx e => ?_, fun x hx e => ?_, h3⟩
  · rcases (h2 x hx).1.2 with q | q
    · exact absurd e q
    · exact q.1
  · rcases (h2 x hx).1.2 with q | q
    · exact absurd e q
    · rcases q.2 with q | q
      · exact .inl q
      · refine .inr fun hm => ?_
        have : S.nam.T.contains x.1 = true := List.contains_iff_mem.mpr hm
        rw [this] at q; cases q
  · rcases (h2 x hx).2 with q | q
    · exact absurd e q
    · exact q

theorem isCell_in {sc : Scope} {nm : Str} (h : isCell sc nm = true) : inScope sc nm = true := by
  unfold isCell at h
  unfold inScope
  split at h <;> first | rename_i e; rw [e] | cases h

section
variable {n : Nat} {sc sc' : Scope} {nms : List Str} {cl : List (Str × Addr)} {C : Addr} {m' : Str → Option Value} {kp' : List (Addr × Obj)}
abbrev compCx (c : Cx) (sc' : Scope) (cl : List (Str × Addr)) (C : Addr) (m' : Str → Option Value) (kp' : List (Addr × Obj)) : Cx := ⟨c.A, compEnvC sc' cl C c.env, c.h₀, C, m', (c.L, c.m) :: c.fs, kp'⟩
theorem comp_ctx (K : CtxOK S n c) (O : CompOK S sc sc' c.env nms) : CtxOK S n (compCx c sc' cl C m' kp') :=
  ⟨K.hand, K.units, K.depth, K.kin, K.top, K.lim, O.kind, K.glob, K.blt, rfl, let ⟨l, h1, h2⟩ := K.frs; ⟨l, h1, fun e he => let ⟨g1, b, g2, g3⟩ := h2 e he; ⟨g1, b, g2, .tail _ g3⟩⟩⟩
theorem comp_sc (SO : ScOK sc c.env) (O : CompOK S sc sc' c.env nms) (hcl : ∀ nm, sc'.names.lookup nm = some .free → cl.lookup nm = c.env.cells.lookup nm) : ScOK sc' (compEnvC sc' cl C c.env) := by
  have look : ∀ x, (compEnvC sc' cl C c.env).kindOf x = (sc'.names.lookup x).map fun k => if (k == NameKind.free && c.env.scope.kind == .function && c.env.kindOf x == some .cell) then NameKind.cell else k := fun x => lookup_relabel
  refine ⟨fun x h => ?_, fun x h => ?_, fun x h => ?_⟩
  · rw [look, h]; rfl
  · rw [look, h]; rfl
  · unfold isCell at h
    split at h
    · rename_i e; exact absurd rfl (O.cells _ (PySem.mem_of_lookup e))
    · rename_i e
      refine ⟨?_, ?_⟩
      · rw [look, e]
        simp only [Option.map_some]
        split
        · exact .inl rfl
        · exact .inr rfl
      · show ∃ a, cl.lookup x = some a
        rw [hcl x e]
        exact (SO.cell x (O.free _ (PySem.mem_of_lookup e) rfl)).2
    · cases h
theorem comp_vars (SO : ScOK sc c.env) (O : CompOK S sc sc' c.env nms) (hcl : ∀ nm, sc'.names.lookup nm = some .free → cl.lookup nm = c.env.cells.lookup nm) {loc l' : Loc} (Vs : VarsOK S c sc ρ loc)
    {ρ' : List Addr} (k : ρ <+: ρ') (hv : ∀ j w nmj, l' j = some w → S.T[j]? = some nmj → nmj ∈ nms → ∃ x, m' nmj = some x ∧ VR ρ' w x) (hm : ∀ j nmj, S.T[j]? = some nmj → nmj ∉ nms → l' j = loc j) (hk : ∀ p ∈ c.kp, p ∈ kp') : VarsOK S (compCx c sc' cl C m' kp') sc' ρ' l' := by
  intro j w nmj hj hT hin
  have SO' := comp_sc (C := C) SO O hcl
  unfold inScope at hin
  split at hin
  · rename_i e
    have hmem := PySem.mem_of_lookup e
    rcases O.only _ hmem rfl with q | q
    · obtain ⟨x, hx, hv⟩ := hv j w nmj hj hT q
      exact ⟨x, .inl ⟨SO'.loc _ e, hx⟩, hv⟩
    · exact absurd (List.mem_of_getElem? hT) q
  · rename_i e; exact absurd rfl (O.cells _ (PySem.mem_of_lookup e))
  · rename_i e
    rw [hm j nmj hT fun q => by rw [O.own _ q] at e; cases e] at hj
    have hc := O.free _ (PySem.mem_of_lookup e) rfl
    obtain ⟨y, h1, h2⟩ := Vs j w nmj hj hT (isCell_in hc)
    have hk' := (SO.cell nmj hc).1
    rcases h1 with ⟨q, _⟩ | ⟨_, a, o, q1, q2, q3⟩
    · rw [q] at hk'; rcases hk' with q | q <;> cases q
    · exact ⟨y, .inr ⟨(SO'.cell nmj (by unfold isCell; rw [e])).1, a, o, by show cl.lookup nmj = some a; rw [hcl nmj e]; exact q1, hk _ q2, q3⟩, h2.mono k⟩
  · cases hin
end

theorem compLoop_go {prog : Program} {w : World} {A : Around} {s : Shared} {R : Result → Shared → Prop} {elt target iter : Expr} {ifs : List Expr} {scope : Scope} {pos : Pos} {it acc : Value} {env : Env} (I : Nat → Shared → Prop)
    (turn : ∀ n s, I n s → wpAny (model prog w) A (pyNext it) (fun r s₁ => match r with
      | none => R (.ok .next) s₁
      | some v => wpAny (model prog w) A (letOwnedTupleGo target it v) (fun _ s₀ => wpAny (model prog w) A (assign target env v) (fun _ s₂ =>
          wpAny (model prog w) A (condTree ifs env) (fun ok s₃ =>
            if ok = true then wpAny (model prog w) A (eval elt env) (fun x s₄ =>
              wpAny (model prog w) A (call (.builtin "list.append") [acc, x]) (fun _ s₅ => ∃ m, m < n ∧ I m s₅) (notedBy (model prog w) A env fun e s' => R (.error e) s') s₄) (notedBy (model prog w) A env fun e s' => R (.error e) s') s₃
            else ∃ m, m < n ∧ I m s₃) (notedBy (model prog w) A env fun e s' => R (.error e) s') s₂) (notedBy (model prog w) A env fun e s' => R (.error e) s') s₀) (notedBy (model prog w) A env fun e s' => R (.error e) s') s₁) (notedBy (model prog w) A env fun e s' => R (.error e) s') s)
    (n : Nat) (h : I n s) :
    codeAny (model prog w) A (.compLoop (.ListComp elt [⟨target, iter, ifs, 0⟩] scope pos) 0 it acc env) R s := by
  refine codeAny_loop rfl I (fun n s hI => ?_) n h
  show wpAny _ A ((compTurn (.ListComp elt [⟨target, iter, ifs, 0⟩] scope pos) 0 it acc env).onRaise (fun x => do noteFrame x env; theTreesLotGoes x)) _ _ s
  refine wpAny_noted ?_
  rw [compTurn_list]
  refine wpAny_bind (wpAny_standAt (wpAny_bind (wpAny_mono (turn n s hI) (fun r s₁ h₁ => ?_) fun _ _ h' => h')))
  cases r with
  | none => exact wpAny_pure h₁
  | some v =>
    refine wpAny_bind (wpAny_mono h₁ (fun _ s₀ h₀ => ?_) fun _ _ h' => h')
    refine wpAny_bind (wpAny_mono h₀ (fun _ s₂ h₂ => wpAny_bind (wpAny_mono h₂ (fun ok s₃ h₃ => ?_) fun _ _ h' => h')) fun _ _ h' => h')
    cases ok with
    | false => exact wpAny_pure ⟨rfl, h₃⟩
    | true => exact wpAny_bind (wpAny_bind (wpAny_mono h₃ (fun x s₄ h₄ => wpAny_bind (wpAny_mono h₄ (fun _ s₅ h₅ => wpAny_pure (wpAny_pure ⟨rfl, h₅⟩)) fun _ _ h' => h')) fun _ _ h' => h'))

theorem go_it {A : Around} {E : Value → Shared → Prop} {s : Shared} {I : Addr} {v : V} {σ : H} {i : Nat} {Q : Unit → Shared → Prop} {target : Expr} {x : Value} (t : ItAt s.heap I ρ v σ i) (h : Q () s) : wpAny (model S.prog S.w) A (letOwnedTupleGo target (.ref I) x) Q E s := by
  unfold ItAt at t
  cases v with
  | ref a =>
    obtain ⟨B, _, t⟩ := t
    cases hk : σ.get a with
    | none => rw [hk] at t; exact t.elim
    | some o =>
      rw [hk] at t
      cases o with
      | list xs => exact letGo_listiter t h
      | tup xs => exact letGo_tupleiter t h
      | rng a b z =>
        unfold letOwnedTupleGo
        cases target <;> first
          | exact wpAny_pure h
          | (cases x <;> first
              | exact wpAny_pure h
              | (refine wpAny_bind (wpAny_load t ?_)
                 exact wpAny_pure h))
      | _ => exact t.elim
  | _ => exact t.elim

theorem upd_self {l : Loc} {i : Nat} {v : V} : l.upd i v i = some v := by simp [Loc.upd]
theorem upd_other {l : Loc} {i j : Nat} {v : V} (h : j ≠ i) : l.upd i v j = l j := by unfold Loc.upd; rw [beq_eq_false_iff_ne.mpr h]; rfl
theorem bind_two {i j : Nat} {y : V} {loc l' : Loc} {σ : H} (h : bindTg [i, j] true y loc σ = some l') : ∃ a u v, y = .ref a ∧ σ.get a = some (.tup [u, v]) ∧ l' = (loc.upd i u).upd j v := by
  unfold bindTg at h
  cases y with
  | ref a =>
    refine ⟨a, ?_⟩
    dsimp only at h
    cases hq : σ.get a with
    | none => rw [hq] at h; cases h
    | some o =>
      rw [hq] at h
      cases o with
      | tup xs =>
        match xs, h with
        | [u, v], h => cases h; exact ⟨u, v, rfl, rfl, rfl⟩
        | [], h => cases h
        | [_], h => cases h
        | _ :: _ :: _ :: r, h =>
          have h : (if r.length + 3 = 2 then _ else none) = some l' := h
          rw [if_neg (by lia)] at h; cases h
      | _ => cases h
  | _ => cases h
theorem tg_assign {A : Around} {E : Value → Shared → Prop} {s : Shared} {sc sc' : Scope} (nd : S.T.Nodup) (hh : A.handled = none) {tg : List Nat} {tup : Bool} {tgt : Expr} (hck : ckTg S.nam tg tup tgt = true) {env : Env} (O : CompOK S sc sc' env (tgNms tup tgt))
    {cl : List (Str × Addr)} {C : Addr} {h₀ : Heap} {mC : Str → Option Value} {fs : Fs} {kp os : List (Addr × Obj)} {σ : H} (hl : Led S h₀ C mC fs kp os σ s.heap) {y : V} {x : Value} (hx : VR (adr os) y x) {loc l' : Loc} (hb : bindTg tg tup y loc σ = some l') {Q : Unit → Shared → Prop}
    (h : ∀ h₅ m₅ tk₅, Led S h₀ C m₅ fs kp os σ h₅ → (∀ j w nmj, l' j = some w → S.T[j]? = some nmj → nmj ∈ tgNms tup tgt → ∃ x, m₅ nmj = some x ∧ VR (adr os) w x) → (∀ j nmj, S.T[j]? = some nmj → nmj ∉ tgNms tup tgt → l' j = loc j) → Q () { s with heap := h₅, toks := tk₅ }) :
    wpAny (model S.prog S.w) A (assign tgt (compEnvC sc' cl C env) x) Q E s := by
  have nk : ((compEnvC sc' cl C env).scope.kind == .class || ((compEnvC sc' cl C env).scope.kind == .module && (compEnvC sc' cl C env).locals != (compEnvC sc' cl C env).globals)) = false := by show (sc'.kind == .class || (sc'.kind == .module && _)) = false; rw [O.kind]; rfl
  have inj : ∀ {i j : Nat} {nm : Str}, S.T[i]? = some nm → S.T[j]? = some nm → j = i := fun h1 h2 => (List.getElem?_inj (List.getElem?_eq_some_iff.mp h2).1 nd).mp (h2.trans h1.symm)
  cases tup with
  | false =>
    obtain ⟨i, hi, hck⟩ := onO_eq (show onO (one tg) _ = true from hck)
    obtain ⟨h1, h2⟩ := (Bool.and_eq_true _ _).mp hck
    have hn : S.T[i]? = some (ptE tgt).nm := of_decide_eq_true h2
    obtain ⟨p, hp⟩ : ∃ p, tgt = .Name (ptE tgt).nm p := ⟨_, t_name h1⟩
    have ow := O.own _ (List.mem_singleton.mpr rfl)
    rw [one_eq hi] at hb
    cases hb
    generalize hnm : (ptE tgt).nm = nm at *
    have e1 : tgNms false tgt = [nm] := by unfold tgNms; rw [hnm]; rfl
    rw [hp]
    refine wpAny_assign_Name (wpAny_storeName_local (env := compEnvC sc' cl C env) (lookup_relabel_local ow) hl.fr.ns (fun h₅ hn₅ hs₅ => h _ _ _ (hl.lset hn₅ hs₅) (fun j w nmj hj hT hm => ?_) fun j nmj hT hm => ?_) nk)
    · rw [e1] at hm
      obtain rfl := List.mem_singleton.mp hm
      obtain rfl := inj hn hT
      rw [upd_self] at hj
      cases hj
      exact ⟨x, by simp, hx⟩
    · rw [e1] at hm
      exact upd_other fun q => hm (by subst q; rw [hn] at hT; cases hT; exact List.mem_singleton.mpr rfl)
  | true =>
    obtain ⟨⟨i, j⟩, hi, hck⟩ := onO_eq (show onO (two tg) _ = true from hck)
    obtain ⟨⟨a, b⟩, ha, hck⟩ := onO_eq hck
    obtain ⟨h1, hck⟩ := (Bool.and_eq_true _ _).mp hck
    obtain ⟨h2, hck⟩ := (Bool.and_eq_true _ _).mp hck
    obtain ⟨h3, hck⟩ := (Bool.and_eq_true _ _).mp hck
    obtain ⟨h4, hck⟩ := (Bool.and_eq_true _ _).mp hck
    obtain ⟨h5, h6⟩ := (Bool.and_eq_true _ _).mp hck
    have n1 : S.T[i]? = some (ptE a).nm := of_decide_eq_true h4
    have n2 : S.T[j]? = some (ptE b).nm := of_decide_eq_true h5
    have ne : (ptE a).nm ≠ (ptE b).nm := of_decide_eq_true h6
    obtain ⟨k, p, hp⟩ : ∃ k p, tgt = .Tuple (ptE tgt).xs k p := ⟨_, _, t_tup h1⟩
    obtain ⟨pa, hpa⟩ : ∃ p, a = .Name (ptE a).nm p := ⟨_, t_name h2⟩
    obtain ⟨pb, hpb⟩ : ∃ p, b = .Name (ptE b).nm p := ⟨_, t_name h3⟩
    have e1 : tgNms true tgt = [(ptE a).nm, (ptE b).nm] := by unfold tgNms; rw [two_eq ha]; rfl
    have o1 := O.own (ptE a).nm (by rw [e1]; simp)
    have o2 := O.own (ptE b).nm (by rw [e1]; simp)
    rw [e1] at h
    rw [two_eq hi] at hb
    rw [two_eq ha] at hp
    generalize (ptE a).nm = na at *
    generalize (ptE b).nm = nb at *
    obtain ⟨q, u, v, rfl, hq, rfl⟩ := bind_two hb
    obtain ⟨T, ob, rfl, _, _, ⟨vs, m, rfl, hvs, _⟩, hT, _⟩ := hl.ref List.prefix_rfl hq hx
    obtain ⟨x1, x2, rfl, hu, hv⟩ := hvs.inv2
    rw [hp, hpa, hpb]
    refine wpAny_assign_Tuple hh (items := #[x1, x2]) ⟨_, hT, rfl, m, rfl⟩ rfl rfl fun h₃ hx₃ => ?_
    have l₃ := hl.keep (h' := h₃) fun b o e => hx₃ b o (Nat.ne_of_lt (Heap.lt_size e)) e
    show wpAny _ A (do holding [x2] (assign (.Name na pa) (compEnvC sc' cl C env) x1); do holding [] (assign (.Name nb pb) (compEnvC sc' cl C env) x2); pure ()) _ _ _
    refine wpAny_bind (wpAny_holding (wpAny_assign_Name (wpAny_storeName_local (env := compEnvC sc' cl C env) (lookup_relabel_local o1) l₃.fr.ns (fun h₄ hn₄ hs₄ => ?_) nk)))
    have l₄ := l₃.lset hn₄ hs₄
    refine wpAny_bind (wpAny_holding (wpAny_assign_Name (wpAny_storeName_local (env := compEnvC sc' cl C env) (lookup_relabel_local o2) l₄.fr.ns (fun h₅ hn₅ hs₅ => wpAny_pure ?_) nk)))
    have ij : i ≠ j := fun e => ne (by rw [e, n2] at n1; exact (Option.some.inj n1).symm)
    refine h _ _ _ (l₄.lset hn₅ hs₅) (fun j' w nmj hj hT hm => ?_) fun j' nmj hT hm => ?_
    · replace hj : ((loc.upd i u).upd j v) j' = some w := hj
      rcases List.mem_cons.mp hm with rfl | hm
      · obtain rfl := inj n1 hT
        rw [upd_other ij, upd_self] at hj
        cases hj
        exact ⟨x1, by simp [ne], hu⟩
      · obtain rfl := List.mem_singleton.mp hm
        obtain rfl := inj n2 hT
        rw [upd_self] at hj
        cases hj
        exact ⟨x2, by simp, hv⟩
    · show ((loc.upd i u).upd j v) j' = loc j'
      rw [upd_other fun e => hm (by subst e; rw [n2] at hT; cases hT; simp), upd_other fun e => hm (by subst e; rw [n1] at hT; cases hT; simp)]

theorem comp_core {n : Nat} (K : CtxOK S n c) {sc sc' : Scope} (SO : ScOK sc c.env) {loc : Loc} (Vs : VarsOK S c sc ρ loc) (nd : S.T.Nodup) {tg : List Nat} {tup : Bool} {tgt : Expr} {pos : Pos} {ite elt : Expr} {ifs : List Expr}
    (hck : ckTg S.nam tg tup tgt = true) (O : CompOK S sc sc' c.env (tgNms tup tgt)) {cl : List (Str × Addr)} (hcl : ∀ nm, sc'.names.lookup nm = some .free → cl.lookup nm = c.env.cells.lookup nm) {t : Loc → X Bool} {e : Loc → X V}
    (ht : ∀ (c' : Cx) (ρ' : List Addr) (loc' : Loc), CtxOK S n c' → ScOK sc' c'.env → VarsOK S c' sc' ρ' loc' → SM S c' ρ' EqR (condTree ifs c'.env) (t loc'))
    (he : ∀ (c' : Cx) (ρ' : List Addr) (loc' : Loc), CtxOK S n c' → ScOK sc' c'.env → VarsOK S c' sc' ρ' loc' → SM S c' ρ' VR (eval elt c'.env) (e loc'))
    {os : List (Addr × Obj)} {σ σ' : H} {s : Shared} {v : V} {x : Value} {vs : List V} {r : R (List V)} (hp : ρ <+: adr os) (hl : c.led S os σ s.heap) (hv : VR (adr os) v x) (hi : iterOf v σ = some vs)
    (hL : compL v tg tup t e loc σ vs σ = some (r, σ')) {use : Option (Value → Sem Unit)} {Q : Value → Shared → Prop} {E : Value → Shared → Prop}
    (fin : ∀ ws, r = .ok ws → ∀ (os' : List (Addr × Obj)) (h' : Heap) (tk : Nat) (C : Addr) (mC : Str → Option Value) (D : Addr) (ys : List Value) (k : Nat), adr os <+: adr os' → Led S c.h₀ C mC ((c.L, c.m) :: c.fs) (c.kp ++ (D, W.listOf (List.toArray ys) k) :: []) os' σ' h' →
      All2 (VR (adr os')) ws ys → compPost (model S.prog S.w) c.A E use Q (.ref D) C (.ok .next) { s with heap := h', toks := tk }) :
    wpAny (model S.prog S.w) c.A (pyIter x) (fun it s₂ => wpAny (model S.prog S.w) c.A (newList []) (fun acc s₃ => wpAny (model S.prog S.w) c.A (newFunctionEnv sc' c.env.globals cl [] c.env.qual none .none (some c.env)) (fun cenv s₄ =>
      codeAny (model S.prog S.w) c.A (.compStart (.ListComp elt [⟨tgt, ite, ifs, 0⟩] sc' pos) 0 it acc { cenv with scope := relabel sc' c.env }) (compPost (model S.prog S.w) c.A E use Q acc cenv.locals) s₄) E s₃) E s₂) E s := by
  refine it_new hl List.prefix_rfl hv hi fun I o₀ h₁ l₁ it₁ => ?_
  refine wpAny_newObj_type (wpAny_newFunctionEnv O.cells (by intro y hy; simp at hy) (fun h₂ hns hsb => ?_) O.kind)
  dsimp only at hns hsb ⊢
  have l₂ := l₁.kpush (x := { cls := .type "list", dict := none, data := .seq ([] : List Value).toArray }) rfl
  generalize hH2 : h₁.push { cls := .type "list", dict := none, data := .seq ([] : List Value).toArray } = H2 at hns hsb l₂ ⊢
  have hold : ∀ b ob, H2.get? b = some ob → h₂.get? b = some ob := fun b ob q => hsb.extBut b ob (Nat.ne_of_lt (Heap.lt_size q)) (Heap.get?_push_of_some _ q)
  have l₃ := l₂.enter hns hold (get_size H2) (Nat.le_refl _)
  have it₃ : ItAt h₂ I (adr os) v σ 0 := it₁.at (fun ob q => hold _ _ (hH2 ▸ Heap.get?_push_of_some _ q)) List.prefix_rfl (still_refl v σ)
  generalize hC : H2.objs.size = C at hns hsb l₃ ⊢
  generalize hD : h₁.objs.size = D at l₃ ⊢
  have hle : c.h₀.objs.size ≤ C := l₃.fr.above
  let cenv := compEnvC sc' cl C c.env
  have loop : ∀ s₃ : Shared, s₃ = { s with heap := h₂, toks := s.toks + ([] : List (Str × Value)).length } →
      codeAny (model S.prog S.w) c.A (.compLoop (.ListComp elt [⟨tgt, ite, ifs, 0⟩] sc' pos) 0 (.ref I) (.ref D) cenv) (compPost (model S.prog S.w) c.A E use Q (.ref D) C) s₃ := by
    rintro s₃ rfl
    refine compLoop_go (fun k s' => ∃ h' tk os' σ₁ mC o ys kk done j r', s' = { s with heap := h', toks := tk } ∧ adr os <+: adr os' ∧
        Led S c.h₀ C mC ((c.L, c.m) :: c.fs) (c.kp ++ (I, o) :: (D, W.listOf (List.toArray ys) kk) :: []) os' σ₁ h' ∧ ItAt h' I (adr os') v σ₁ j ∧ still v σ σ₁ = true ∧ All2 (VR (adr os')) done ys ∧
        compL v tg tup t e loc σ (vs.drop j) σ₁ = some (r', σ') ∧ r = rpre done r' ∧ done.length ≤ j ∧ j ≤ vs.length ∧ k = vs.length + 1 - j) ?_ (vs.length + 1)
      ⟨h₂, s.toks, os, σ, _, o₀, [], 0, [], 0, r, rfl, List.prefix_rfl, by simpa using l₃, it₃, still_refl v σ, .nil, by simpa using hL, by cases r <;> rfl, Nat.zero_le _, Nat.zero_le _, rfl⟩
    rintro k s' ⟨h', tk, os', σ₁, mC, o, ys, kk, done, j, r', rfl, kp', l', it', st, hdone, hL', hr, hdl, hj, rfl⟩
    have hi' : iterOf v σ₁ = some vs := (still_iter st).trans hi
    cases hvj : vs[j]? with
    | none =>
      have hjv : vs.length ≤ j := List.getElem?_eq_none_iff.mp hvj
      rw [List.drop_eq_nil_of_le hjv] at hL'
      cases hL'
      refine it_done K.hand l' it' hi' hvj fun h₄ l₄ => ?_
      have hr' : r = .ok done := by rw [hr]; simp [rpre]
      exact fin done hr' os' h₄ tk C mC D ys kk kp' l₄ hdone
    | some y =>
      obtain ⟨hjl, hjy⟩ := List.getElem?_eq_some_iff.mp hvj
      rw [List.drop_eq_getElem_cons hjl, hjy] at hL'
      unfold compL at hL'
      cases hb : bindTg tg tup y loc σ₁ with
      | none => rw [hb] at hL'; cases hL'
      | some ly =>
      rw [hb] at hL'
      dsimp only at hL'
      refine it_next l' it' hi' hvj fun o' h₄ tk₄ xv l₄ it₄ hxv => go_it (s := { s with heap := h₄, toks := _ }) it₄ ?_
      refine tg_assign (s := { s with heap := h₄, toks := _ }) nd K.hand hck O (cl := cl) l₄ hxv hb fun h₅ m₅ tk₅ l₅ hm₅ hm₅' => ?_
      have it₅ : ItAt h₅ I (adr os') v σ₁ (j + 1) := it₄.at (fun ob q => by rw [(l₄.news (I, o') (by simp)).1] at q; cases q; exact (l₅.news (I, o') (by simp)).1) List.prefix_rfl (still_refl v σ₁)
      let c' := compCx c sc' cl C m₅ (c.kp ++ (I, o') :: (D, W.listOf (List.toArray ys) kk) :: [])
      have K' : CtxOK S n c' := comp_ctx K O
      have S' : ScOK sc' c'.env := comp_sc SO O hcl
      have V' : VarsOK S c' sc' (adr os') ly := comp_vars SO O hcl Vs (hp.trans kp') hm₅ hm₅' (fun p hp => List.mem_append_left _ hp)
      have T' := ht c' (adr os') ly K' S' V'
      have E' := he c' (adr os') ly K' S' V'
      cases hq : t ly σ₁ with
      | none => rw [hq] at hL'; cases hL'
      | some p =>
        obtain ⟨tr, σ₂⟩ := p
        rw [hq] at hL'
        cases tr with
        | err q => cases hL'
        | ok b =>
          refine T' os' σ₁ { s with heap := h₅, toks := tk₅ } _ _ List.prefix_rfl l₅ hq _ _ fun os₆ h₆ tk₆ b' k₆ l₆ hb' => ?_
          subst hb'
          have memI : ∀ {hh : Heap} {oo : List (Addr × Obj)} {ss : H}, Cx.led S c' oo ss hh → hh.get? I = some o' := fun l => (l.news (I, o') (by simp [c'])).1
          cases b with
          | false =>
            dsimp only at hL'
            simp only [Bool.false_eq_true, if_false]
            split at hL'
            · rename_i hst
              refine ⟨vs.length + 1 - (j + 1), by lia, h₆, tk₆, os₆, σ₂, _, o', ys, kk, done, j + 1, r', rfl, kp'.trans k₆, l₆, it₅.at (fun ob q => ?_) k₆ (still_trans (still_sym st) hst), hst, VRs.mono k₆ hdone, hL', hr, by lia, hjl, rfl⟩
              rw [memI l₅] at q; cases q; exact memI l₆
            · cases hL'
          | true =>
            dsimp only at hL'
            simp only [if_true]
            cases hq₂ : e ly σ₂ with
            | none => rw [hq₂] at hL'; cases hL'
            | some p₂ =>
              obtain ⟨er, σ₃⟩ := p₂
              rw [hq₂] at hL'
              cases er with
              | err q => cases hL'
              | ok w =>
                refine E' os₆ σ₂ { s with heap := h₆, toks := tk₆ } _ _ k₆ l₆ hq₂ _ _ fun os₇ h₇ tk₇ wv k₇ l₇ hwv => ?_
                dsimp only at hL'
                split at hL'
                · rename_i hst
                  have hrest : ∃ r'', compL v tg tup t e loc σ (vs.drop (j + 1)) σ₃ = some (r'', σ') ∧ r' = rpre [w] r'' := by
                    split at hL'
                    · cases hL'
                    · cases hL'
                    · rename_i ws σ₄ hq₃; cases hL'; exact ⟨.ok ws, hq₃, rfl⟩
                  obtain ⟨r'', hL'', hr''⟩ := hrest
                  have hD' : h₇.get? D = some (W.listOf (List.toArray ys) kk) := (l₇.news (D, W.listOf (List.toArray ys) kk) (by simp [c'])).1
                  have hlen : ys.length ≤ lim := by
                    have h1 := hdone.length
                    have h2 := iter_len (s := { s with heap := h' }) l' hi'
                    lia
                  refine append_at hD' (fun h₈ hs₈ hx₈ => ?_) (by rw [List.size_toArray]; exact Nat.le_trans hlen lim_le)
                  have l₇' : Led S c.h₀ C m₅ ((c.L, c.m) :: c.fs) ((c.kp ++ (I, o') :: []) ++ (D, W.listOf (List.toArray ys) kk) :: []) os₇ σ₃ h₇ := by simpa using l₇
                  have l₈ := l₇'.kset hs₈ hx₈
                  have hID : I ≠ D := by
                    have := l₇'.kmid.2.2.2.2 (I, o') (by simp)
                    exact this
                  refine ⟨vs.length + 1 - (j + 1), by lia, h₈, tk₇, os₇, σ₃, _, o', ys ++ [wv], kk + 1, done ++ [w], j + 1, r'', rfl, kp'.trans (k₆.trans k₇), by simpa using l₈, it₅.at (fun ob q => ?_) (k₆.trans k₇) (still_trans (still_sym st) hst), hst,
                    (VRs.mono (k₆.trans k₇) hdone).append (.one hwv), hL'', ?_, by simp; exact hdl, hjl, rfl⟩
                  · rw [memI l₅] at q; cases q; exact (hs₈.2 _ hID).trans (memI l₇)
                  · rw [hr, hr'']; cases r'' <;> simp [rpre]
                · cases hL'
  exact codeAny_compStart_list (loop _ rfl) (it_self (S := S) it₃ (loop _ rfl))
end Mine

set_option autoImplicit false
namespace Mine
open PySem PySem.W PySem.Calls PyProof.Rows
variable {S : Sig} {c : Cx} {ρ : List Addr}

theorem not_set {e : Expr} (h : isSet e = false) (env : Env) (x : Value) : foldedSetIterable e env x = pure x := by
  cases e <;> first | rfl | cases h

section
variable {n : Nat} {sc sc' : Scope} {loc : Loc} {tg : List Nat} {tup : Bool} {tgt : Expr} {pos : Pos} {ite elt : Expr} {ifs : List Expr} {t : Loc → X Bool} {e : Loc → X V}

theorem comp_run (K : CtxOK S n c) (SO : ScOK sc c.env) (Vs : VarsOK S c sc ρ loc) (nd : S.T.Nodup) (hn : ckTg S.nam tg tup tgt = true) (hsc : compScope S.nam sc sc' (tgNms tup tgt) = true) (hset : isSet ite = false) {xi : X V} (hit : SM S c ρ VR (eval ite c.env) xi)
    (ht : ∀ (c' : Cx) (ρ' : List Addr) (loc' : Loc), CtxOK S n c' → ScOK sc' c'.env → VarsOK S c' sc' ρ' loc' → SM S c' ρ' EqR (condTree ifs c'.env) (t loc'))
    (he : ∀ (c' : Cx) (ρ' : List Addr) (loc' : Loc), CtxOK S n c' → ScOK sc' c'.env → VarsOK S c' sc' ρ' loc' → SM S c' ρ' VR (eval elt c'.env) (e loc'))
    {os : List (Addr × Obj)} {σ σ' : H} {s : Shared} {r : R V} (hp : ρ <+: adr os) (hl : c.led S os σ s.heap)
    (hx : X.bind xi (fun v => fun h => match iterOf v h with | none => none | some vs => X.bind (compL v tg tup t e loc h vs) (fun ws => alloc (.list ws)) h) σ = some (r, σ'))
    {use : Option (Value → Sem Unit)} {Q : Value → Shared → Prop} {E : Value → Shared → Prop}
    (fin : ∀ b, r = .ok b → ∀ (os' : List (Addr × Obj)) (h' : Heap) (tk : Nat) (C : Addr) (mC : Str → Option Value) (D : Addr), adr os <+: adr os' → Led S c.h₀ C mC ((c.L, c.m) :: c.fs) c.kp os' σ' h' → VR (adr os') b (.ref D) →
      compPost (model S.prog S.w) c.A E use Q (.ref D) C (.ok .next) { s with heap := h', toks := tk })
    (finE : ∀ k, r = .err k → ∀ (os' : List (Addr × Obj)) (h' : Heap) (tk : Nat) (e : Value), adr os <+: adr os' → c.led S os' σ' h' → Fly S c os' e k h' → E e { s with heap := h', toks := tk }) :
    wpAny (model S.prog S.w) c.A (comprehension (.ListComp elt [⟨tgt, ite, ifs, 0⟩] sc' pos) sc' c.env (firstIterPos [⟨tgt, ite, ifs, 0⟩] pos) (newList []) false (eval ite c.env) use) Q E s := by
  have O : CompOK S sc sc' c.env (tgNms tup tgt) := compOK hsc
  obtain ⟨cl, hclos, hcl⟩ := closure_of (env := c.env) (sc' := sc') fun x hx hf => (SO.cell x.1 (O.free x hx hf)).2
  refine wpAny_comprehension_free (use := use) rfl (not_set hset c.env) hclos O.kind O.locs ?_
  rcases X.bind_inv hx with ⟨v, σ₁, e1, e2⟩ | ⟨k, e1, rfl⟩
  · refine hit os σ s _ _ hp hl e1 _ _ fun os₁ h₁ tk₁ xv k₁ l₁ hv => ?_
    cases hi : iterOf v σ₁ with
    | none => rw [hi] at e2; cases e2
    | some vs =>
      rw [hi] at e2
      dsimp only at e2
      rcases X.bind_inv e2 with ⟨ws, σ₂, e3, e4⟩ | ⟨k, e3, rfl⟩
      · refine comp_core K SO (Vs.mono (hp.trans k₁)) nd hn O hcl ht he (s := { s with heap := h₁, toks := tk₁ }) List.prefix_rfl l₁ hv hi e3 fun ws' hw os' h' tk C mC D ys kk k' l' hys => ?_
        cases hw
        unfold alloc at e4
        split at e4
        · rename_i hok
          cases e4
          have hok : ws.length ≤ lim := of_decide_eq_true hok
          have l'' := l'.kmove (o := .list ws) ⟨ys, kk, rfl, hys, hok⟩
          have hv' : VR (adr (os' ++ [(D, W.listOf (List.toArray ys) kk)])) (.ref σ₂.length) (.ref D) := by
            refine ⟨D, ?_, rfl⟩
            rw [l'.len]; simp [adr]
          exact fin _ rfl _ _ _ _ _ _ (k₁.trans (k'.trans adr_new)) l'' hv'
        · cases e4
      · exact comp_core K SO (Vs.mono (hp.trans k₁)) nd hn O hcl ht he (s := { s with heap := h₁, toks := tk₁ }) List.prefix_rfl l₁ hv hi e3 fun ws' hw => by cases hw
  · exact hit os σ s _ _ hp hl e1 _ _ fun os' h' tk e k' l' f => finE k rfl os' h' tk e k' l' f

theorem sm_comp (K : CtxOK S n c) (SO : ScOK sc c.env) (Vs : VarsOK S c sc ρ loc) (nd : S.T.Nodup) (hn : ckTg S.nam tg tup tgt = true) (hsc : compScope S.nam sc sc' (tgNms tup tgt) = true) (hset : isSet ite = false) {xi : X V} (hit : SM S c ρ VR (eval ite c.env) xi)
    (ht : ∀ (c' : Cx) (ρ' : List Addr) (loc' : Loc), CtxOK S n c' → ScOK sc' c'.env → VarsOK S c' sc' ρ' loc' → SM S c' ρ' EqR (condTree ifs c'.env) (t loc'))
    (he : ∀ (c' : Cx) (ρ' : List Addr) (loc' : Loc), CtxOK S n c' → ScOK sc' c'.env → VarsOK S c' sc' ρ' loc' → SM S c' ρ' VR (eval elt c'.env) (e loc')) :
    SM S c ρ VR (eval (.ListComp elt [⟨tgt, ite, ifs, 0⟩] sc' pos) c.env)
      (X.bind xi fun v => fun h => match iterOf v h with | none => none | some vs => X.bind (compL v tg tup t e loc h vs) (fun ws => alloc (.list ws)) h) := by
  intro os σ s r σ' hp hl hx Q E hQ
  rw [arm_eval_ListComp]
  refine comp_run K SO Vs nd hn hsc hset hit ht he hp hl hx (use := none) (fun b hb os' h' tk C mC D k l hv => ?_) fun k hk => by subst hk; exact hQ
  subst hb
  refine ⟨mC, l.fr.ns, fun h'' hs => ?_⟩
  exact hQ os' h'' tk _ k (l.leave hl.fr.above (fun f hf => (hl.outs f hf).2.1) hs.extBut) hv
end

theorem star_cons {N : Nam} {sc : Scope} {x : Ex} {e : Expr} (h : ckE N sc x e = true) (rest : List Expr) (env : Env) : starEach (e :: rest) env = (false, eval e env) :: starEach rest env := by
  cases e <;> first | rfl | (cases x <;> exact nomatch (show false = true from h))
theorem noStar_of {N : Nam} {sc : Scope} {env : Env} : ∀ {es : Exs} {xs : List Expr}, ckEs N sc es xs = true → NoStar xs env
  | .nil, [], _ => rfl
  | .cons e es, x :: xs, h => by
    have h := (Bool.and_eq_true _ _).mp (show (ckE N sc e x && ckEs N sc es xs) = true from h)
    unfold NoStar
    rw [star_cons h.1, List.all_cons]
    have := noStar_of (env := env) h.2
    unfold NoStar at this
    rw [this]; rfl
  | .nil, _ :: _, h => nomatch (show false = true from h)
  | .cons _ _, [], h => nomatch (show false = true from h)

theorem sm_slice' {e : Expr} {l u : Option Expr} {p pos : Pos} {x lo hi : X V} (hx : SM S c ρ VR (eval e c.env) x) (hlo : SM S c ρ VR (valueOrNone (evalOpt l c.env)) lo) (hhi : SM S c ρ VR (valueOrNone (evalOpt u c.env)) hi) :
    SM S c ρ VR (eval (.Subscript e (.Slice l u none p) pos) c.env) (X.bind x fun o => X.bind lo fun a => X.bind hi fun b => getSlice o a b) := by
  rw [arm_eval_Subscript]
  refine hx.bind fun ρ' a v k ha => ?_
  have hlo' := hlo.mono k
  have hhi' := hhi.mono k
  intro os σ s r σ' hp hl he Q E hQ
  rw [arm_eval_Slice]
  refine wpAny_bind (wpAny_holding (wpAny_bind ?_))
  rcases X.bind_inv he with ⟨la, σ₁, e1, e2⟩ | ⟨q, e1, rfl⟩
  · refine hlo' os σ s _ _ hp hl e1 _ _ fun os₁ h₁ tk₁ lv k₁ l₁ hlv => wpAny_bind (wpAny_holding ?_)
    rcases X.bind_inv e2 with ⟨ua, σ₂, e3, e4⟩ | ⟨q, e3, rfl⟩
    · refine hhi' os₁ σ₁ { s with heap := h₁, toks := tk₁ } _ _ (hp.trans k₁) l₁ e3 _ _ fun os₂ h₂ tk₂ uv k₂ l₂ huv => wpAny_bind (wpAny_holding (wpAny_pure ?_))
      refine wpAny_mono (sm_slice (value := e) (slice := .Slice l u none p) (ρ := adr os₂) (ha.mono (hp.trans (k₁.trans k₂))) (hlv.mono k₂) huv (fun o i => rfl) (s := { s with heap := h₂, toks := tk₂ }) List.prefix_rfl l₂ e4
        (Q := Q) (E := E) fun b hb os₃ h₃ tk₃ av k₃ l₃ hav => ?_) (fun i s' h => wpAny_bind (wpAny_standAt h)) fun _ _ h => h
      subst hb
      exact hQ os₃ h₃ tk₃ av (k₁.trans (k₂.trans k₃)) l₃ hav
    · exact hhi' os₁ σ₁ { s with heap := h₁, toks := tk₁ } _ _ (hp.trans k₁) l₁ e3 _ _ fun os₂ h₂ tk₂ e k₂ l₂ f => hQ os₂ h₂ tk₂ e (k₁.trans k₂) l₂ f
  · exact hlo' os σ s _ _ hp hl e1 _ _ hQ
end Mine

set_option autoImplicit false
namespace Mine
open PySem PySem.W PySem.Calls PyProof.Rows
variable {N : Nam} {sc : Scope}
theorem callN_eq {e : Expr} (h : isCallN e = true) : ∃ q p, e = .Call (.Name (cN e) q) (cA e) [] p := by
  obtain ⟨h1, h2⟩ := and_t h
  obtain ⟨h2, h3⟩ := and_t h2
  refine ⟨(ptE (ptE e).x).pos, (ptE e).pos, ?_⟩
  have e1 := t_call h1
  rw [nil_eq h2, t_name h3] at e1
  exact e1
theorem isC_none {v : Const} (h : isC .none v = true) : v = .none := by cases v <;> first | rfl | cases h
theorem isC_bool {b : Bool} {v : Const} (h : isC (.bool b) v = true) : v = .bool b := by
  cases v <;> first | (rw [eq_of_beq (show (b == _) = true from h)]) | cases h
theorem isC_int {b : Int} {v : Const} (h : isC (.int b) v = true) : v = .int b := by
  cases v <;> first | (rw [dec_t (show decide (b = _) = true from h)]) | cases h
theorem isC_str {b : Str} {v : Const} (h : isC (.str b) v = true) : v = .str b ∧ okS b = true := by
  cases v <;> first | (obtain ⟨h1, h2⟩ := and_t (show (decide (b = _) && okS b) = true from h); obtain rfl := dec_t h1; exact ⟨rfl, h2⟩) | cases h
theorem ck_cnone  {e : Expr} (h : ckE N sc (.cnone) e = true) : ∃ k p, e = .Constant .none k p := by
  obtain ⟨h1, h2⟩ := and_t (show (_ && _) = true from h)
  exact ⟨_, _, by rw [← isC_none h2] <;> exact t_const h1⟩
theorem ck_cbool {b : Bool} {e : Expr} (h : ckE N sc (.cbool b) e = true) : ∃ k p, e = .Constant (.bool b) k p := by
  obtain ⟨h1, h2⟩ := and_t (show (_ && _) = true from h)
  exact ⟨_, _, by rw [← isC_bool h2] <;> exact t_const h1⟩
theorem ck_cint {i : Int} {e : Expr} (h : ckE N sc (.cint i) e = true) : ∃ k p, e = .Constant (.int i) k p := by
  obtain ⟨h1, h2⟩ := and_t (show (_ && _) = true from h)
  exact ⟨_, _, by rw [← isC_int h2] <;> exact t_const h1⟩
theorem ck_cstr {s : Str} {e : Expr} (h : ckE N sc (.cstr s) e = true) : ∃ k p, e = .Constant (.str s) k p ∧ okS s = true := by
  obtain ⟨h1, h2⟩ := and_t (show (_ && _) = true from h)
  exact ⟨_, _, by rw [← (isC_str h2).1] <;> exact t_const h1, (isC_str h2).2⟩
theorem ck_loc {i : Nat} {e : Expr} (h : ckE N sc (.loc i) e = true) : ∃ nm p, e = .Name nm p ∧ nameIs N i nm = true ∧ inScope sc nm = true ∧ (nm == ("__debug__" : Str)) = false ∧ (nm == ("__classdict__" : Str)) = false := by
  obtain ⟨h1, h2⟩ := and_t (show (_ && _) = true from h)
  obtain ⟨g1, r1⟩ := and_t h2
  obtain ⟨g2, r2⟩ := and_t r1
  obtain ⟨g3, g4⟩ := and_t r2
  exact ⟨_, _, t_name h1, g1, g2, not_t g3, not_t g4⟩
theorem ck_glo {i : Nat} {e : Expr} (h : ckE N sc (.glo i) e = true) : ∃ nm p, e = .Name nm p ∧ nameIs N i nm = true ∧ isGlob sc nm = true := by
  obtain ⟨h1, h2⟩ := and_t (show (_ && _) = true from h)
  obtain ⟨g1, g2⟩ := and_t h2
  exact ⟨_, _, t_name h1, g1, g2⟩
theorem ck_bin {op : PySem.Operator} {a b : Ex} {e : Expr} (h : ckE N sc (.bin op a b) e = true) : ∃ l r p, e = .BinOp l op r p ∧ ckE N sc a l = true ∧ ckE N sc b r = true := by
  obtain ⟨h1, h2⟩ := and_t (show (_ && _) = true from h)
  obtain ⟨g1, r1⟩ := and_t h2
  obtain ⟨g2, g3⟩ := and_t r1
  exact ⟨_, _, _, by rw [dec_t g1] <;> exact t_bin h1, g2, g3⟩
theorem ck_neg {a : Ex} {e : Expr} (h : ckE N sc (.neg a) e = true) : ∃ l p, e = .UnaryOp .USub l p ∧ ckE N sc a l = true := by
  obtain ⟨h1, h2⟩ := and_t (show (_ && _) = true from h)
  obtain ⟨g1, g2⟩ := and_t h2
  exact ⟨_, _, by rw [← dec_t g1] <;> exact t_un h1, g2⟩
theorem ck_not {a : Ex} {e : Expr} (h : ckE N sc (.not a) e = true) : ∃ l p, e = .UnaryOp .Not l p ∧ ckE N sc a l = true := by
  obtain ⟨h1, h2⟩ := and_t (show (_ && _) = true from h)
  obtain ⟨g1, g2⟩ := and_t h2
  exact ⟨_, _, by rw [← dec_t g1] <;> exact t_un h1, g2⟩
theorem ck_band {es : Exs} {e : Expr} (h : ckE N sc (.band es) e = true) : ∃ l p, e = .BoolOp .And l p ∧ ckEs N sc es l = true := by
  obtain ⟨h1, h2⟩ := and_t (show (_ && _) = true from h)
  obtain ⟨g1, g2⟩ := and_t h2
  exact ⟨_, _, by rw [← dec_t g1] <;> exact t_bool h1, g2⟩
theorem ck_bor {es : Exs} {e : Expr} (h : ckE N sc (.bor es) e = true) : ∃ l p, e = .BoolOp .Or l p ∧ ckEs N sc es l = true := by
  obtain ⟨h1, h2⟩ := and_t (show (_ && _) = true from h)
  obtain ⟨g1, g2⟩ := and_t h2
  exact ⟨_, _, by rw [← dec_t g1] <;> exact t_bool h1, g2⟩
theorem ck_cmp {op : CmpOp} {a b : Ex} {e : Expr} (h : ckE N sc (.cmp op a b) e = true) : ∃ l r p, e = .Compare l [op] [r] p ∧ behindInMarks op r = false ∧ ckE N sc a l = true ∧ ckE N sc b r = true := by
  obtain ⟨h1, h2⟩ := and_t (show (_ && _) = true from h)
  obtain ⟨o, h3, h2⟩ := onO_eq h2
  obtain ⟨r, h4, h2⟩ := onO_eq h2
  obtain ⟨g1, r1⟩ := and_t h2
  obtain ⟨g2, r2⟩ := and_t r1
  obtain ⟨g3, g4⟩ := and_t r2
  obtain rfl := dec_t g1
  exact ⟨_, _, _, by rw [← one_eq h3, ← one_eq h4] <;> exact t_cmp h1, not_t g2, g3, g4⟩
theorem ck_cmp2 {o1 o2 : CmpOp} {a b d : Ex} {e : Expr} (h : ckE N sc (.cmp2 o1 o2 a b d) e = true) : ∃ l r1 r2 p, e = .Compare l [o1, o2] [r1, r2] p ∧ behindInMarks o2 r2 = false ∧ ckE N sc a l = true ∧ ckE N sc b r1 = true ∧ ckE N sc d r2 = true := by
  obtain ⟨h1, h2⟩ := and_t (show (_ && _) = true from h)
  obtain ⟨⟨p1, p2⟩, h3, h2⟩ := onO_eq h2
  obtain ⟨⟨r1, r2⟩, h4, h2⟩ := onO_eq h2
  obtain ⟨g1, r1⟩ := and_t h2
  obtain ⟨g2, r2⟩ := and_t r1
  obtain ⟨g3, r3⟩ := and_t r2
  obtain ⟨g4, r4⟩ := and_t r3
  obtain ⟨g5, g6⟩ := and_t r4
  obtain rfl := dec_t g1
  obtain rfl := dec_t g2
  exact ⟨_, _, _, _, by rw [← two_eq h3, ← two_eq h4] <;> exact t_cmp h1, not_t g3, g4, g5, g6⟩
theorem ck_list {es : Exs} {e : Expr} (h : ckE N sc (.list es) e = true) : ∃ l p, e = .List l p ∧ ckEs N sc es l = true := by
  obtain ⟨h1, h2⟩ := and_t (show (_ && _) = true from h)
  exact ⟨_, _, t_list h1, h2⟩
theorem ck_tup {es : Exs} {e : Expr} (h : ckE N sc (.tup es) e = true) : ∃ l k p, e = .Tuple l k p ∧ ckEs N sc es l = true := by
  obtain ⟨h1, h2⟩ := and_t (show (_ && _) = true from h)
  exact ⟨_, _, _, t_tup h1, h2⟩
theorem ck_dict {ks vs : Exs} {e : Expr} (h : ckE N sc (.dict ks vs) e = true) : ∃ p, e = .Dict [] [] p ∧ ks = .nil ∧ vs = .nil := by
  obtain ⟨h1, h2⟩ := and_t (show (_ && _) = true from h)
  obtain ⟨g1, r1⟩ := and_t h2
  obtain ⟨g2, r2⟩ := and_t r1
  obtain ⟨g3, g4⟩ := and_t r2
  exact ⟨_, by rw [← nil_eq g3, ← nil_eq g4] <;> exact t_dict h1, exsNil_eq g1, exsNil_eq g2⟩
theorem ck_attr {a : Ex} {n : Nat} {e : Expr} (h : ckE N sc (.attr a n) e = true) : ∃ l nm p, e = .Attribute l nm p ∧ nameIs N n nm = true ∧ plainBase l = true ∧ ckE N sc a l = true := by
  obtain ⟨h1, h2⟩ := and_t (show (_ && _) = true from h)
  obtain ⟨g1, r1⟩ := and_t h2
  obtain ⟨g2, g3⟩ := and_t r1
  exact ⟨_, _, _, t_attr h1, g1, g2, g3⟩
theorem ck_sub {a i : Ex} {e : Expr} (h : ckE N sc (.sub a i) e = true) : ∃ l r p, e = .Subscript l r p ∧ isSlice r = false ∧ ckE N sc a l = true ∧ ckE N sc i r = true := by
  obtain ⟨h1, h2⟩ := and_t (show (_ && _) = true from h)
  obtain ⟨g1, r1⟩ := and_t h2
  obtain ⟨g2, g3⟩ := and_t r1
  exact ⟨_, _, _, t_sub h1, not_t g1, g2, g3⟩
theorem ck_slice {a lo hi : Ex} {e : Expr} (h : ckE N sc (.slice a lo hi) e = true) : ∃ l x y q p, e = .Subscript l (.Slice x y none q) p ∧ ckE N sc a l = true ∧ (match x with | none => isNone lo | some y => ckE N sc lo y) = true ∧ (match y with | none => isNone hi | some y => ckE N sc hi y) = true := by
  obtain ⟨h1, h2⟩ := and_t (show (_ && _) = true from h)
  obtain ⟨g1, r1⟩ := and_t h2
  obtain ⟨g2, r2⟩ := and_t r1
  obtain ⟨g3, r3⟩ := and_t r2
  obtain ⟨g4, g5⟩ := and_t r3
  exact ⟨_, _, _, _, _, by rw [← Option.isNone_iff_eq_none.mp g2, ← t_slice g1] <;> exact t_sub h1, g3, g4, g5⟩
theorem ck_call {f : Nat} {args : Exs} {e : Expr} (h : ckE N sc (.call f args) e = true) : ∃ nm q l p, e = .Call (.Name nm q) l [] p ∧ nameIs N f nm = true ∧ isGlob sc nm = true ∧ (N.fn f).isSome = true ∧ ckEs N sc args l = true := by
  obtain ⟨h1, h2⟩ := and_t (show (_ && _) = true from h)
  obtain ⟨g1, r1⟩ := and_t h2
  obtain ⟨g2, r2⟩ := and_t r1
  obtain ⟨g3, g4⟩ := and_t r2
  obtain ⟨q, p, he⟩ := callN_eq h1
  exact ⟨_, _, _, _, he, g1, g2, g3, g4⟩
theorem ck_new {k : Nat} {e : Expr} (h : ckE N sc (.new k) e = true) : ∃ nm q p, e = .Call (.Name nm q) [] [] p ∧ nameIs N k nm = true ∧ isGlob sc nm = true ∧ (N.cls k).isSome = true := by
  obtain ⟨h1, h2⟩ := and_t (show (_ && _) = true from h)
  obtain ⟨g1, r1⟩ := and_t h2
  obtain ⟨g2, r2⟩ := and_t r1
  obtain ⟨g3, g4⟩ := and_t r2
  obtain ⟨q, p, he⟩ := callN_eq h1
  exact ⟨_, _, _, by rw [nil_eq g1] at he <;> exact he, g2, g3, g4⟩
theorem ck_meth {o : Ex} {n : Nat} {args : Exs} {e : Expr} (h : ckE N sc (.meth o n args) e = true) : ∃ l nm q xs p, e = .Call (.Attribute l nm q) xs [] p ∧ nameIs N n nm = true ∧ plainBase l = true ∧ (q.endLine == p.line) = true ∧ xs.length < 30 ∧ (n ≤ 12 ∨ (N.me n).isSome = true) ∧ ckE N sc o l = true ∧ ckEs N sc args xs = true := by
  obtain ⟨h1, h2⟩ := and_t (show (_ && _) = true from h)
  obtain ⟨g1, r1⟩ := and_t h2
  obtain ⟨g2, r2⟩ := and_t r1
  obtain ⟨g3, r3⟩ := and_t r2
  obtain ⟨g4, r4⟩ := and_t r3
  obtain ⟨g5, r5⟩ := and_t r4
  obtain ⟨g6, r6⟩ := and_t r5
  obtain ⟨g7, r7⟩ := and_t r6
  obtain ⟨g8, g9⟩ := and_t r7
  exact ⟨_, _, _, _, _, by rw [← nil_eq g1, ← t_attr g2] <;> exact t_call h1, g3, g4, g5, dec_t g6, ((Bool.or_eq_true _ _).mp g7).imp dec_t id, g8, g9⟩
theorem ck_bi {b : Bi} {args : Exs} {e : Expr} (h : ckE N sc (.bi b args) e = true) : ∃ nm q l p, e = .Call (.Name nm q) l [] p ∧ nm = biName b ∧ isGlob sc nm = true ∧ ckEs N sc args l = true := by
  obtain ⟨h1, h2⟩ := and_t (show (_ && _) = true from h)
  obtain ⟨g1, r1⟩ := and_t h2
  obtain ⟨g2, g3⟩ := and_t r1
  obtain ⟨q, p, he⟩ := callN_eq h1
  exact ⟨_, _, _, _, he, dec_t g1, g2, g3⟩
theorem ck_isi {a : Ex} {ks : List Nat} {e : Expr} (h : ckE N sc (.isi a ks) e = true) : ∃ k q l cn q' p, ks = [k] ∧ e = .Call (.Name "isinstance" q) [l, .Name cn q'] [] p ∧ isGlob sc "isinstance" = true ∧ isGlob sc cn = true ∧ k ≤ 4 ∧ cn = (clsName k : Str) ∧ ckE N sc a l = true := by
  obtain ⟨h1, h2⟩ := and_t (show (_ && _) = true from h)
  obtain ⟨k, h3, h2⟩ := onO_eq h2
  obtain ⟨⟨y, z⟩, h4, h2⟩ := onO_eq h2
  obtain ⟨g1, r1⟩ := and_t h2
  obtain ⟨g2, r2⟩ := and_t r1
  obtain ⟨g3, r3⟩ := and_t r2
  obtain ⟨g4, r4⟩ := and_t r3
  obtain ⟨g5, r5⟩ := and_t r4
  obtain ⟨g6, g7⟩ := and_t r5
  obtain ⟨q, p, he⟩ := callN_eq h1
  rw [two_eq h4, dec_t g2] at he
  rw [dec_t g2] at g3
  exact ⟨k, q, y, _, _, p, one_eq h3, by rw [he, ← t_name g1], g3, g4, dec_t g5, dec_t g6, g7⟩
theorem ck_comp {elt : Ex} {tg : List Nat} {tup : Bool} {it : Ex} {conds : Exs} {e : Expr} (h : ckE N sc (.comp elt tg tup it conds) e = true) : ∃ l tgt ite ifs sc' p, e = .ListComp l [⟨tgt, ite, ifs, 0⟩] sc' p ∧ ckTg N tg tup tgt = true ∧ compScope N sc sc' (tgNms tup tgt) = true ∧ isSet ite = false ∧ ckE N sc it ite = true ∧ ckE N sc' elt l = true ∧ ckEs N sc' conds ifs = true := by
  obtain ⟨h1, h2⟩ := and_t (show (_ && _) = true from h)
  obtain ⟨⟨tgt, ite, ifs, as⟩, h4, h2⟩ := onO_eq h2
  obtain ⟨g3, r3⟩ := and_t h2
  obtain ⟨g4, r4⟩ := and_t r3
  obtain ⟨g5, r5⟩ := and_t r4
  obtain ⟨g6, r6⟩ := and_t r5
  obtain ⟨g7, r7⟩ := and_t r6
  obtain ⟨g8, g9⟩ := and_t r7
  obtain rfl : as = 0 := dec_t g3
  exact ⟨_, tgt, ite, ifs, _, _, by rw [← one_eq h4] <;> exact t_comp h1, g4, g5, not_t g6, g7, g8, g9⟩
theorem ck_sset {a : Ex} {e : Expr} (h : ckE N sc (.sset a) e = true) : ∃ q q' z p p', e = .Call (.Name "sorted" q) [.Call (.Name "set" q') [z] [] p'] [] p ∧ isGlob sc "sorted" = true ∧ isGlob sc "set" = true ∧ ckE N sc a z = true := by
  obtain ⟨h1, h2⟩ := and_t (show (_ && _) = true from h)
  obtain ⟨g1, r1⟩ := and_t h2
  obtain ⟨g2, r2⟩ := and_t r1
  obtain ⟨y, h3, r3⟩ := onO_eq r2
  obtain ⟨g3, r4⟩ := and_t r3
  obtain ⟨g4, r5⟩ := and_t r4
  obtain ⟨g5, r6⟩ := and_t r5
  obtain ⟨z, h4, g6⟩ := onO_eq r6
  obtain ⟨q, p, he⟩ := callN_eq h1
  obtain ⟨q', p', hy⟩ := callN_eq g3
  rw [one_eq h3, dec_t g1] at he
  rw [one_eq h4, dec_t g4] at hy
  rw [dec_t g1] at g2
  rw [dec_t g4] at g5
  exact ⟨q, q', z, p, p', by rw [he, hy], g2, g5, g6⟩
noncomputable def exTag : Ex → Nat
  | .cnone => 19 | .cbool _ => 19 | .cint _ => 19 | .cstr _ => 19 | .loc _ => 23 | .glo _ => 23 | .bin _ _ _ => 2 | .neg _ => 3 | .not _ => 3 | .band _ => 0 | .bor _ => 0 | .cmp _ _ _ => 15 | .cmp2 _ _ _ _ _ => 15 | .list _ => 24 | .tup _ => 25 | .dict _ _ => 6 | .attr _ _ => 20 | .sub _ _ => 21
  | .call _ _ => 16 | .new _ => 16 | .meth _ _ _ => 16 | .bi _ _ => 16 | .isi _ _ => 16 | .comp _ _ _ _ _ => 8
  | .slice _ _ _ => 21
  | .sset _ => 16
theorem tag_of {e : Ex} {v : Expr} (h : ckE N sc e v = true) : tagE v = exTag e := by
  cases e <;> first | exact dec_t (and_t (show (_ && _) = true from h)).1 | exact dec_t (and_t (show (_ && _) = true from (and_t (show (_ && _) = true from h)).1)).1
noncomputable def plainTag (n : Nat) : Bool := !(Nat.beq n 0 || (Nat.beq n 3 || (Nat.beq n 5 || Nat.beq n 15)))
theorem pl {e : Ex} {v : Expr} (h : ckE N sc e v = true) (k : plainTag (exTag e) = true) : plainTag (tagE v) = true := (tag_of h) ▸ k
end Mine

set_option autoImplicit false
namespace Mine
open PySem PySem.W PySem.Calls PyProof.Rows
variable {S : Sig} {c : Cx} {ρ : List Addr}

theorem met_first {ns : List Int} : ∀ {i : Nat}, i ≤ ns.length → firstMet (fun i => ns.getD i 0) i = (ns.take i).foldl addI []
  | 0, _ => rfl
  | i + 1, h => by
    rw [met_succ, met_first (Nat.le_of_succ_le h)]
    have hi : ns[i]? = some (ns.getD i 0) := by rw [List.getD_eq_getElem?_getD, List.getElem?_eq_getElem h]; rfl
    rw [List.take_succ, hi, List.foldl_append]
    rfl
theorem small_hash {i : Int} (h : (decide (0 ≤ i) && decide (i < 64)) = true) : ∃ m : Nat, hashInt i = (m : Int) ∧ m < 64 := by
  obtain ⟨h1, h2⟩ := (Bool.and_eq_true _ _).mp h
  have h1 := of_decide_eq_true h1
  have h2 := of_decide_eq_true h2
  obtain ⟨m, rfl⟩ := Int.eq_ofNat_of_zero_le h1
  have hm : m < 64 := by lia
  have all : ∀ m : Fin 64, hashInt (m.val : Int) = (m.val : Int) := by decide +kernel
  exact ⟨m, all ⟨m, hm⟩, hm⟩
theorem ssetI_eq {o : Option (List Int)} {h : H} {r : R V × H} (e : ssetI o h = some r) : ∃ ns, o = some ns ∧ fewI ns = true ∧ r = (.ok (.ref h.length), h.push (.list ((sortI (metI ns)).map .int))) := by
  cases o with
  | none => cases e
  | some ns =>
    have e : (if fewI ns = true then some (R.ok (V.ref h.length), h.push (.list ((sortI (metI ns)).map .int))) else none) = some r := e
    split at e
    · rename_i hf; cases e; exact ⟨ns, rfl, hf, rfl⟩
    · cases e

theorem wp_one {z : Expr} {nm : Str} {p pos : Pos} {f : Value} (hn : SM S c ρ (fun _ _ v => v = f) (eval (.Name nm p) c.env) (X.pure V.none)) (hf : Kept S f) (hz : starEach [z] c.env = [(false, eval z c.env)])
    {os : List (Addr × Obj)} {σ : H} {s : Shared} {Q : Value → Shared → Prop} {E : Value → Shared → Prop} (hp : ρ <+: adr os) (hl : c.led S os σ s.heap)
    (h : ∀ os' h' tk, adr os <+: adr os' → c.led S os' σ h' → wpAny (model S.prog S.w) c.A (eval z c.env) (fun v s' => S.K.In s'.heap ∧ wpAny (model S.prog S.w) c.A (call f [v]) Q E s') E { s with heap := h', toks := tk }) :
    wpAny (model S.prog S.w) c.A (eval (.Call (.Name nm p) [z] [] pos) c.env) Q E s := by
  rw [arm_eval_Call_Name']
  refine wpAny_bind (hn os σ s _ _ hp hl rfl _ _ fun os' h' tk v k l hv => ?_)
  subst hv
  show wpAny _ _ (callWith pos v [] (backTo pos (starEach [z] c.env)) []) _ _ _
  rw [hz]
  exact callWith_of (P := S.K.In) rfl hf (Calls.evalArgs_plain (Calls.spliced_cons (wpAny_mono (h os' h' tk k l) (fun v s' hv => Calls.spliced_nil hv) fun _ _ e => e)))

theorem sm_sset {n : Nat} (K : CtxOK S n c) (OK : SigOK S) {sc : Scope} (SO : ScOK sc c.env) {z : Expr} {p q p' q' : Pos} {ax : X V} (hg : isGlob sc "sorted" = true) (hg2 : isGlob sc "set" = true) (hz : starEach [z] c.env = [(false, eval z c.env)]) (ha : SM S c ρ VR (eval z c.env) ax) :
    SM S c ρ VR (eval (.Call (.Name "sorted" q) [.Call (.Name "set" q') [z] [] p'] [] p) c.env) (X.bind ax biSset) := by
  intro os σ s r σ' hp hl hx Q E hQ
  have g1 := Bool.and_eq_true_iff.mp hg
  have g2 := Bool.and_eq_true_iff.mp hg2
  refine wp_one (f := .builtin "sorted") (sm_boot K (SO.glob _ (of_decide_eq_true g1.1)) (by simpa using g1.2) (OK.bis .sorted) (bi_boot .sorted) (bi_ne .sorted) fun _ => rfl) (kept_builtin _) rfl hp hl fun os₁ h₁ tk₁ k₁ l₁ => ?_
  refine wp_one (s := { s with heap := h₁, toks := tk₁ }) (f := .type "set") (sm_boot K (SO.glob _ (of_decide_eq_true g2.1)) (by simpa using g2.2) (OK.bis .set) (bi_boot .set) (bi_ne .set) fun _ => rfl) (kept_type _) hz (hp.trans k₁) l₁ fun os₂ h₂ tk₂ k₂ l₂ => ?_
  rcases X.bind_inv hx with ⟨v, σ₁, e1, e2⟩ | ⟨k, e1, rfl⟩
  · refine ha os₂ σ { s with heap := h₂, toks := tk₂ } _ _ (hp.trans (k₁.trans k₂)) l₂ e1 _ _ fun os₃ h₃ tk₃ xv k₃ l₃ hv => ⟨K.kin.keeps l₃.fr.keep, ?_⟩
    obtain ⟨a, rfl, e2⟩ := onRef_eq e2
    obtain ⟨xs, hxs, e2⟩ := onL_eq e2
    obtain ⟨ns, hns, hfew, e⟩ := ssetI_eq e2
    cases e
    obtain ⟨A, o1, rfl, _, _, ⟨vs, m, rfl, hvs, hlim⟩, h1, _⟩ := l₃.ref List.prefix_rfl hxs hv
    have hI := intsAre_of hvs hns
    have hlen := intsOf_length hns
    have hlen2 := hvs.length
    obtain ⟨f1, f2⟩ := (Bool.and_eq_true _ _).mp hfew
    have f1 := of_decide_eq_true f1
    have hsz : (List.toArray vs).size = ns.length := by rw [List.size_toArray]; lia
    refine set_call (s := { s with heap := h₃, toks := tk₃ }) (items := vs.toArray) (ns := ns) K.hand (PySem.IsL.isList (n := m) h1) hI (by lia) (fun i hi => ?_) fun h₄ tk₄ hSI hk => ?_
    · have hi' : i < ns.length := by lia
      have e : ns.getD i 0 = ns[i] := by rw [List.getD_eq_getElem?_getD, List.getElem?_eq_getElem hi']; rfl
      rw [e]
      exact small_hash (List.all_eq_true.mp f2 _ (List.getElem_mem hi'))
    · have l₄ := l₃.keep (h' := h₄) fun b o e => hk b o (Heap.lt_size e) e
      rw [hsz, met_first (Nat.le_refl _), List.take_length] at hSI
      have hml : (metI ns).length ≤ ns.length := by have := met_len (ns := ns) (a := []); rw [List.length_nil, Nat.zero_add] at this; exact this
      refine ⟨K.kin.keeps l₄.fr.keep, ?_⟩
      refine sorted_set (s := { s with heap := h₄, toks := tk₄ }) K.hand hSI (by show (metI ns).length ≤ 18; lia) fun h₅ tk₅ ns' out n' hperm hk₅ h₆ k₆ hg hI₆ => ?_
      rw [sortI_of_perm hperm] at hI₆
      exact hQ (os₃ ++ [(_, _)]) _ _ _ ((k₁.trans (k₂.trans k₃)).trans adr_new) (l₄.keepNew (o := .list ((sortI (metI ns)).map .int)) hk₅ k₆ hg ⟨out, n', rfl, vr_ints hI₆, by rw [List.length_map, sortI_length]; unfold lim; lia⟩) (l₄.ref_new (p := (_, _)))
  · exact ha os₂ σ { s with heap := h₂, toks := tk₂ } _ _ (hp.trans (k₁.trans k₂)) l₂ e1 _ _ fun os₃ h₃ tk₃ e k₃ l₃ f => hQ os₃ h₃ tk₃ e (k₁.trans (k₂.trans k₃)) l₃ f
end Mine

set_option autoImplicit false
namespace Mine
open PySem PySem.W PySem.Calls PyProof.Rows
variable {S : Sig}

theorem sm_const_none {c : Cx} {ρ : List Addr} {k : Nat} {p : Pos} : SM S c ρ VR (eval (.Constant .none k p) c.env) (X.pure .none) := SM.pure fun _ _ => rfl
theorem sm_const_bool {c : Cx} {ρ : List Addr} {k : Nat} {p : Pos} {b : Bool} : SM S c ρ VR (eval (.Constant (.bool b) k p) c.env) (X.pure (.bool b)) := SM.pure fun _ _ => rfl
theorem sm_const_int {c : Cx} {ρ : List Addr} {k : Nat} {p : Pos} {i : Int} : SM S c ρ VR (eval (.Constant (.int i) k p) c.env) (X.pure (.int i)) := by
  intro os σ s r σ' hp hl he Q E hQ
  cases he
  exact wpAny_Constant_int (hQ os _ _ _ List.prefix_rfl hl ⟨_, rfl⟩)
theorem sm_const_str {c : Cx} {ρ : List Addr} {k : Nat} {p : Pos} {st : Str} (h : okS st = true) : SM S c ρ VR (eval (.Constant (.str st) k p) c.env) (X.pure (.str st)) := by
  intro os σ s r σ' hp hl he Q E hQ
  cases he
  exact wpAny_Constant_str (hQ os _ _ _ List.prefix_rfl hl ⟨_, rfl, h⟩)
theorem sm_glob (OK : SigOK S) {n : Nat} {c : Cx} {ρ : List Addr} {sc : Scope} (K : CtxOK S n c) (SO : ScOK sc c.env) {i : Nat} {nm : Str} {p : Pos} (h1 : nameIs S.nam i nm = true) (h2 : isGlob sc nm = true) :
    SM S c ρ VR (eval (.Name nm p) c.env) (match S.P.globs.lookup i with | some v => X.pure v | none => match S.P.tabs.lookup i with | some _ => X.pure (.top i) | none => X.none) := by
  have hg' := Bool.and_eq_true_iff.mp h2
  cases hv : S.P.globs.lookup i with
  | none => rw [OK.tabs]; exact SM.none
  | some v =>
    obtain ⟨nm', x, e1, e2, e3⟩ := OK.globs i v hv
    rw [T_eq h1] at e1; cases e1
    exact sm_top K (SO.glob _ (of_decide_eq_true hg'.1)) (by simpa using hg'.2) e2 e3
theorem isTrue_plain {e : Expr} {env : Env} {whole : Sem Value} (h : plainTag (tagE e) = true) : isTrue e env whole = (do let v ← whole; standAt e.pos; holding [v] (truthy v)) := by
  cases e <;> first | rfl | cases h
theorem sm_test' {c : Cx} {ρ : List Addr} {e : Expr} {x : X V} (h : isTrue e c.env (eval e c.env) = (do let v ← eval e c.env; standAt e.pos; holding [v] (truthy v))) (hx : SM S c ρ VR (eval e c.env) x) : SM S c ρ EqR (isTrue e c.env (eval e c.env)) (X.bind x truth) := by
  rw [h]
  exact hx.bind fun ρ' a v k ha => SM.stand (SM.hold (sm_truth ha))
theorem sm_test {c : Cx} {ρ : List Addr} {e : Expr} {x : X V} (h : plainTag (tagE e) = true) (hx : SM S c ρ VR (eval e c.env) x) : SM S c ρ EqR (isTrue e c.env (eval e c.env)) (X.bind x truth) := sm_test' (isTrue_plain h) hx
theorem SM.map {α β γ : Type} {c : Cx} {ρ : List Addr} {R1 : List Addr → β → α → Prop} {R2 : List Addr → γ → α → Prop} {t : Sem α} {x : X β} {f : β → γ} (h : SM S c ρ R1 t x) (k : ∀ ρ' b a, ρ <+: ρ' → R1 ρ' b a → R2 ρ' (f b) a) :
    SM S c ρ R2 t (X.bind x fun b => X.pure (f b)) := by
  intro os σ s r σ' hp hl hx Q E hQ
  rcases X.bind_inv hx with ⟨b, σ₁, e1, e2⟩ | ⟨q, e1, rfl⟩
  · cases e2
    exact h os σ s _ _ hp hl e1 _ _ fun os' h' tk a k' l' hr => hQ os' h' tk a k' l' (k _ _ _ (hp.trans k') hr)
  · exact h os σ s _ _ hp hl e1 _ _ hQ
theorem cond_false (fs : List Expr) (env : Env) : (forIn fs false fun c r => if r = true then do let ok ← isTrue c env (eval c env); pure (ForInStep.yield ok) else pure (ForInStep.yield r) : Sem Bool) = pure false := by
  induction fs with
  | nil => rfl
  | cons f fs ih => rw [List.forIn_cons]; exact ih
theorem sm_cond_cons {c : Cx} {ρ : List Addr} {f : Expr} {fs : List Expr} {x y : X Bool} (h1 : SM S c ρ EqR (isTrue f c.env (eval f c.env)) x) (h2 : SM S c ρ EqR (condTree fs c.env) y) :
    SM S c ρ EqR (condTree (f :: fs) c.env) (X.bind x fun t => if t then y else X.pure false) := by
  unfold condTree
  rw [List.forIn_cons]
  rw [if_pos rfl]
  have e1 : x = X.bind x fun b => X.pure b := by
    funext σ; unfold X.bind
    cases x σ with
    | none => rfl
    | some p => obtain ⟨r, σ'⟩ := p; cases r <;> rfl
  rw [e1]
  have h1' : SM S c ρ (fun _ b st => st = ForInStep.yield b) (isTrue f c.env (eval f c.env) >>= fun ok => (Pure.pure (ForInStep.yield ok) : Sem (ForInStep Bool))) (X.bind x fun b => X.pure b) :=
    h1.bind fun ρ' b b' k hb => by subst hb; exact SM.pure fun _ _ => rfl
  refine h1'.bind fun ρ' b st k hb => ?_
  subst hb
  cases b
  · show SM S c ρ' EqR (forIn fs false fun cc r => if r = true then do let ok ← isTrue cc c.env (eval cc c.env); pure (ForInStep.yield ok) else pure (ForInStep.yield r)) (X.pure false)
    rw [cond_false]; exact SM.pure fun _ _ => rfl
  · exact h2.mono k
theorem sm_bool_cons {c : Cx} {ρ : List Addr} {pos : Pos} {o : BoolOp} {a b : Sem Value} {r : List (Sem Value)} {x : X V} {y : X V} (h1 : SM S c ρ VR a x) (h2 : SM S c ρ VR (boolOp pos o (b :: r)) y) :
    SM S c ρ VR (boolOp pos o (a :: b :: r)) (X.bind x fun v => X.bind (truth v) fun t => if t = (o == .And) then y else X.pure v) := by
  show SM S c ρ VR (do
    let v ← a
    standAt pos
    let t ← holding [v] (truthy v)
    match o, t with
    | .And, false | .Or, true => pure v
    | _, _ => boolOp pos o (b :: r)) _
  refine h1.bind fun ρ' v w k hv => SM.stand ((SM.hold (sm_truth hv)).bind fun ρ'' t t' k' ht => ?_)
  subst ht
  cases o <;> cases t
  · exact SM.pure fun _ k'' => (hv.mono k').mono k''
  · exact h2.mono (k.trans k')
  · exact h2.mono (k.trans k')
  · exact SM.pure fun _ k'' => (hv.mono k').mono k''

mutual
theorem sm_ev (OK : SigOK S) {C : Calls} {n : Nat} (HC : CallsOK S C n) (x : Ex) {c : Cx} {ρ : List Addr} {sc : Scope} {loc : Loc} {e : Expr} (K : CtxOK S (n + 2) c) (SO : ScOK sc c.env) (Vs : VarsOK S c sc ρ loc) (h : ckE S.nam sc x e = true) :
    SM S c ρ VR (eval e c.env) (ev S.P C x loc) := by
  match x, h with
  | .cnone, h => obtain ⟨k, p, rfl⟩ := ck_cnone h; exact sm_const_none
  | .cbool b, h => obtain ⟨k, p, rfl⟩ := ck_cbool h; exact sm_const_bool
  | .cint i, h => obtain ⟨k, p, rfl⟩ := ck_cint h; exact sm_const_int
  | .cstr st, h => obtain ⟨k, p, rfl, h1⟩ := ck_cstr h; exact sm_const_str h1
  | .loc i, h => obtain ⟨nm, p, rfl, h1, h2, h3, h4⟩ := ck_loc h; exact sm_local K Vs (T_eq h1) h2 h3 h4
  | .glo i, h => obtain ⟨nm, p, rfl, h1, h2⟩ := ck_glo h; exact sm_glob OK K SO h1 h2
  | .bin op a b, h => obtain ⟨l, r, p, rfl, h1, h2⟩ := ck_bin h; exact sm_bin (sm_ev OK HC a K SO Vs h1) (sm_ev OK HC b K SO Vs h2)
  | .neg a, h => obtain ⟨l, p, rfl, h1⟩ := ck_neg h; exact sm_neg (sm_ev OK HC a K SO Vs h1)
  | .not a, h => obtain ⟨l, p, rfl, h1⟩ := ck_not h; exact sm_not (sm_ev OK HC a K SO Vs h1)
  | .band es, h => obtain ⟨l, p, rfl, h1⟩ := ck_band h; exact sm_and OK HC es K SO Vs h1
  | .bor es, h => obtain ⟨l, p, rfl, h1⟩ := ck_bor h; exact sm_or OK HC es K SO Vs h1
  | .cmp op a b, h => obtain ⟨l, r, p, rfl, h0, h1, h2⟩ := ck_cmp h; exact sm_cmp K.room h0 (sm_ev OK HC a K SO Vs h1) (sm_ev OK HC b K SO Vs h2)
  | .cmp2 o1 o2 a b d, h => obtain ⟨l, r1, r2, p, rfl, h0, h1, h2, h3⟩ := ck_cmp2 h; exact sm_cmp2 K.room h0 (sm_ev OK HC a K SO Vs h1) (sm_ev OK HC b K SO Vs h2) (sm_ev OK HC d K SO Vs h3)
  | .list es, h => obtain ⟨l, p, rfl, h1⟩ := ck_list h; exact sm_list (sm_evs OK HC es K SO Vs h1)
  | .tup es, h => obtain ⟨l, k, p, rfl, h1⟩ := ck_tup h; exact sm_tup (sm_evs OK HC es K SO Vs h1)
  | .dict ks vs, h => obtain ⟨p, rfl, rfl, rfl⟩ := ck_dict h; exact sm_dict0
  | .attr a i, h => obtain ⟨l, nm, p, rfl, h0, h1, h2⟩ := ck_attr h; exact sm_attr OK.tab K (T_eq h0) h1 (sm_ev OK HC a K SO Vs h2)
  | .sub a i, h => obtain ⟨l, r, p, rfl, h0, h1, h2⟩ := ck_sub h; exact sm_sub h0 (sm_ev OK HC a K SO Vs h1) (sm_ev OK HC i K SO Vs h2)
  | .slice a lo hi, h =>
    obtain ⟨l, x1, y1, q, p, rfl, h1, h2, h3⟩ := ck_slice h
    refine sm_slice' (sm_ev OK HC a K SO Vs h1) ?_ ?_
    · cases x1 with
      | none => cases lo <;> first | cases h2; done | exact SM.pure fun _ _ => rfl
      | some e1 => exact sm_ev OK HC lo K SO Vs h2
    · cases y1 with
      | none => cases hi <;> first | cases h3; done | exact SM.pure fun _ _ => rfl
      | some e1 => exact sm_ev OK HC hi K SO Vs h3
  | .sset a, h =>
    obtain ⟨q, q', z, p, p', rfl, h1, h2, h3⟩ := ck_sset h
    exact sm_sset K OK SO h1 h2 (star_cons h3 [] c.env) (sm_ev OK HC a K SO Vs h3)
  | .call f args, h => obtain ⟨nm, q, l, p, rfl, h1, h2, h3, h4⟩ := ck_call h; exact sm_call K OK SO HC (T_eq h1) h2 h3 (noStar_of h4) (sm_evs OK HC args K SO Vs h4)
  | .new k, h => obtain ⟨nm, q, p, rfl, h1, h2, h3⟩ := ck_new h; exact sm_new K OK SO HC (T_eq h1) h2 h3
  | .meth o i args, h => obtain ⟨l, nm, q, xs, p, rfl, h1, h2, h3, h4, h5, h6, h7⟩ := ck_meth h; exact sm_meth K OK HC (T_eq h1) h2 h3 h4 h5 (noStar_of h7) (sm_ev OK HC o K SO Vs h6) (sm_evs OK HC args K SO Vs h7)
  | .bi b args, h => obtain ⟨nm, q, l, p, rfl, h1, h2, h3⟩ := ck_bi h; exact sm_bi K OK SO h1 h2 (noStar_of h3) (sm_evs OK HC args K SO Vs h3)
  | .isi a ks, h =>
    obtain ⟨k, q, l, cn, q', p, rfl, rfl, h1, h2, h3, h4, h5⟩ := ck_isi h
    have he : starEach [l, .Name cn q'] c.env = [(false, eval l c.env), (false, eval (.Name cn q') c.env)] := by rw [star_cons h5]; rfl
    exact sm_isinst K OK SO h1 h2 h3 h4 (by unfold NoStar; rw [he]; rfl) he (sm_ev OK HC a K SO Vs h5)
  | .comp elt tg tup it conds, h =>
    obtain ⟨l, tgt, ite, ifs, sc', p, rfl, h1, h2, h3, h4, h5, h6⟩ := ck_comp h
    exact sm_comp K SO Vs OK.tab.nodup h1 h2 h3 (sm_ev OK HC it K SO Vs h4) (fun c' ρ' loc' K' SO' V' => sm_conds OK HC conds K' SO' V' h6) (fun c' ρ' loc' K' SO' V' => sm_ev OK HC elt K' SO' V' h5)
termination_by structural x
theorem sm_evs (OK : SigOK S) {C : Calls} {n : Nat} (HC : CallsOK S C n) (x : Exs) {c : Cx} {ρ : List Addr} {sc : Scope} {loc : Loc} {l : List Expr} {pos : Pos} (K : CtxOK S (n + 2) c) (SO : ScOK sc c.env) (Vs : VarsOK S c sc ρ loc) (h : ckEs S.nam sc x l = true) :
    SM S c ρ VRs (spliced (backTo pos (starEach l c.env))) (evs S.P C x loc) := by
  match x, l, h with
  | .nil, [], h => exact SM.pure fun _ _ => .nil
  | .cons e es, a :: as, h =>
    have h := and_t (show (_ && _) = true from h)
    rw [star_cons h.1]
    refine sm_splice (sm_ev OK HC e K SO Vs h.1) fun ρ' v w k hv => ?_
    exact ((sm_evs OK HC es K SO Vs h.2).mono k).map fun ρ'' vs ws k' hw => .cons (hv.mono k') hw
  | .nil, _ :: _, h => exact nomatch (show false = true from h)
  | .cons _ _, [], h => exact nomatch (show false = true from h)
termination_by structural x
theorem sm_and (OK : SigOK S) {C : Calls} {n : Nat} (HC : CallsOK S C n) (x : Exs) {c : Cx} {ρ : List Addr} {sc : Scope} {loc : Loc} {l : List Expr} {pos : Pos} (K : CtxOK S (n + 2) c) (SO : ScOK sc c.env) (Vs : VarsOK S c sc ρ loc) (h : ckEs S.nam sc x l = true) :
    SM S c ρ VR (boolOp pos .And (evalEach l c.env)) (evAnd S.P C x loc) := by
  match x, l, h with
  | .nil, _, h => exact SM.none
  | .cons e .nil, [a], h =>
    have h := and_t (show (_ && _) = true from h)
    exact sm_ev OK HC e K SO Vs h.1
  | .cons e (.cons e2 es), a :: a2 :: as, h =>
    have h := and_t (show (_ && _) = true from h)
    refine (sm_bool_cons (pos := pos) (o := .And) (sm_ev OK HC e K SO Vs h.1) (sm_and OK HC (.cons e2 es) (l := a2 :: as) K SO Vs h.2)).eqx ?_
    show X.bind (ev S.P C e loc) (fun v => X.bind (truth v) fun t => if t then evAnd S.P C (.cons e2 es) loc else X.pure v) = _
    first | rfl | (congr 1; funext v; congr 1; funext t; cases t <;> rfl)
  | .cons _ .nil, [], h => exact nomatch (show false = true from h)
  | .cons _ .nil, _ :: _ :: _, h => exact nomatch (show false = true from (and_t (show (_ && _) = true from h)).2)
  | .cons _ (.cons _ _), [], h => exact nomatch (show false = true from h)
  | .cons _ (.cons _ _), [_], h => exact nomatch (show false = true from (and_t (show (_ && _) = true from h)).2)
termination_by structural x
theorem sm_or (OK : SigOK S) {C : Calls} {n : Nat} (HC : CallsOK S C n) (x : Exs) {c : Cx} {ρ : List Addr} {sc : Scope} {loc : Loc} {l : List Expr} {pos : Pos} (K : CtxOK S (n + 2) c) (SO : ScOK sc c.env) (Vs : VarsOK S c sc ρ loc) (h : ckEs S.nam sc x l = true) :
    SM S c ρ VR (boolOp pos .Or (evalEach l c.env)) (evOr S.P C x loc) := by
  match x, l, h with
  | .nil, _, h => exact SM.none
  | .cons e .nil, [a], h =>
    have h := and_t (show (_ && _) = true from h)
    exact sm_ev OK HC e K SO Vs h.1
  | .cons e (.cons e2 es), a :: a2 :: as, h =>
    have h := and_t (show (_ && _) = true from h)
    refine (sm_bool_cons (pos := pos) (o := .Or) (sm_ev OK HC e K SO Vs h.1) (sm_or OK HC (.cons e2 es) (l := a2 :: as) K SO Vs h.2)).eqx ?_
    show X.bind (ev S.P C e loc) (fun v => X.bind (truth v) fun t => if t then X.pure v else evOr S.P C (.cons e2 es) loc) = _
    first | rfl | (congr 1; funext v; congr 1; funext t; cases t <;> rfl)
  | .cons _ .nil, [], h => exact nomatch (show false = true from h)
  | .cons _ .nil, _ :: _ :: _, h => exact nomatch (show false = true from (and_t (show (_ && _) = true from h)).2)
  | .cons _ (.cons _ _), [], h => exact nomatch (show false = true from h)
  | .cons _ (.cons _ _), [_], h => exact nomatch (show false = true from (and_t (show (_ && _) = true from h)).2)
termination_by structural x
theorem sm_tst (OK : SigOK S) {C : Calls} {n : Nat} (HC : CallsOK S C n) (x : Ex) {c : Cx} {ρ : List Addr} {sc : Scope} {loc : Loc} {e : Expr} (K : CtxOK S (n + 2) c) (SO : ScOK sc c.env) (Vs : VarsOK S c sc ρ loc) (h : ckE S.nam sc x e = true) (hw : SM S c ρ VR (eval e c.env) (ev S.P C x loc)) :
    SM S c ρ EqR (isTrue e c.env (eval e c.env)) (tst S.P C x loc (ev S.P C x loc)) := by
  match x, h, hw with
  | .not a, h, hw =>
    obtain ⟨l, p, rfl, h1⟩ := ck_not h
    rw [arm_isTrue_UnaryOp]
    exact (sm_tst OK HC a K SO Vs h1 (sm_ev OK HC a K SO Vs h1)).bind fun ρ' b b' k hb => by subst hb; exact SM.pure fun _ _ => rfl
  | .band es, h, hw => obtain ⟨l, p, rfl, h1⟩ := ck_band h; rw [arm_isTrue_BoolOp]; exact sm_tstAnd OK HC es K SO Vs h1
  | .bor es, h, hw => obtain ⟨l, p, rfl, h1⟩ := ck_bor h; rw [arm_isTrue_BoolOp]; exact sm_tstOr OK HC es K SO Vs h1
  | .cmp op a b, h, hw => obtain ⟨l, r, p, rfl, h0, h1, h2⟩ := ck_cmp h; exact sm_cmp_test K.room h0 (sm_ev OK HC a K SO Vs h1) (sm_ev OK HC b K SO Vs h2)
  | .cmp2 o1 o2 a b d, h, hw => obtain ⟨l, r1, r2, p, rfl, h0, h1, h2, h3⟩ := ck_cmp2 h; exact sm_cmp2_test K.room h0 (sm_ev OK HC a K SO Vs h1) (sm_ev OK HC b K SO Vs h2) (sm_ev OK HC d K SO Vs h3)
  | .cnone, h, hw => exact sm_test (pl h rfl) hw
  | .cbool b, h, hw => exact sm_test (pl h rfl) hw
  | .cint i, h, hw => exact sm_test (pl h rfl) hw
  | .cstr st, h, hw => exact sm_test (pl h rfl) hw
  | .loc i, h, hw => exact sm_test (pl h rfl) hw
  | .glo i, h, hw => exact sm_test (pl h rfl) hw
  | .bin op a b, h, hw => exact sm_test (pl h rfl) hw
  | .neg a, h, hw => obtain ⟨l, p, rfl, h1⟩ := ck_neg h; exact sm_test' rfl hw
  | .list es, h, hw => exact sm_test (pl h rfl) hw
  | .tup es, h, hw => exact sm_test (pl h rfl) hw
  | .dict ks vs, h, hw => exact sm_test (pl h rfl) hw
  | .attr a i, h, hw => exact sm_test (pl h rfl) hw
  | .sub a i, h, hw => exact sm_test (pl h rfl) hw
  | .slice a lo hi, h, hw => exact sm_test (pl h rfl) hw
  | .sset a, h, hw => exact sm_test (pl h rfl) hw
  | .call f args, h, hw => exact sm_test (pl h rfl) hw
  | .new k, h, hw => exact sm_test (pl h rfl) hw
  | .meth o i args, h, hw => exact sm_test (pl h rfl) hw
  | .bi b args, h, hw => exact sm_test (pl h rfl) hw
  | .isi a ks, h, hw => exact sm_test (pl h rfl) hw
  | .comp elt tg tup it conds, h, hw => exact sm_test (pl h rfl) hw
termination_by structural x
theorem sm_tstAnd (OK : SigOK S) {C : Calls} {n : Nat} (HC : CallsOK S C n) (x : Exs) {c : Cx} {ρ : List Addr} {sc : Scope} {loc : Loc} {l : List Expr} (K : CtxOK S (n + 2) c) (SO : ScOK sc c.env) (Vs : VarsOK S c sc ρ loc) (h : ckEs S.nam sc x l = true) :
    SM S c ρ EqR (allTrue .And l c.env) (tstAnd S.P C x loc) := by
  match x, l, h with
  | .nil, [], h => exact SM.pure fun _ _ => rfl
  | .cons e es, a :: as, h =>
    have h := and_t (show (_ && _) = true from h)
    rw [arm_allTrue_cons]
    refine (sm_tst OK HC e K SO Vs h.1 (sm_ev OK HC e K SO Vs h.1)).bind fun ρ' b b' k hb => ?_
    subst hb
    cases b
    · exact SM.pure fun _ _ => rfl
    · exact (sm_tstAnd OK HC es K SO Vs h.2).mono k
  | .nil, _ :: _, h => exact nomatch (show false = true from h)
  | .cons _ _, [], h => exact nomatch (show false = true from h)
termination_by structural x
theorem sm_tstOr (OK : SigOK S) {C : Calls} {n : Nat} (HC : CallsOK S C n) (x : Exs) {c : Cx} {ρ : List Addr} {sc : Scope} {loc : Loc} {l : List Expr} (K : CtxOK S (n + 2) c) (SO : ScOK sc c.env) (Vs : VarsOK S c sc ρ loc) (h : ckEs S.nam sc x l = true) :
    SM S c ρ EqR (allTrue .Or l c.env) (tstOr S.P C x loc) := by
  match x, l, h with
  | .nil, [], h => exact SM.pure fun _ _ => rfl
  | .cons e es, a :: as, h =>
    have h := and_t (show (_ && _) = true from h)
    rw [arm_allTrue_cons]
    refine (sm_tst OK HC e K SO Vs h.1 (sm_ev OK HC e K SO Vs h.1)).bind fun ρ' b b' k hb => ?_
    subst hb
    cases b
    · exact (sm_tstOr OK HC es K SO Vs h.2).mono k
    · exact SM.pure fun _ _ => rfl
  | .nil, _ :: _, h => exact nomatch (show false = true from h)
  | .cons _ _, [], h => exact nomatch (show false = true from h)
termination_by structural x
theorem sm_conds (OK : SigOK S) {C : Calls} {n : Nat} (HC : CallsOK S C n) (x : Exs) {c : Cx} {ρ : List Addr} {sc : Scope} {loc : Loc} {l : List Expr} (K : CtxOK S (n + 2) c) (SO : ScOK sc c.env) (Vs : VarsOK S c sc ρ loc) (h : ckEs S.nam sc x l = true) :
    SM S c ρ EqR (condTree l c.env) (tstAnd S.P C x loc) := by
  match x, l, h with
  | .nil, [], h => exact SM.pure fun _ _ => rfl
  | .cons e es, a :: as, h =>
    have h := and_t (show (_ && _) = true from h)
    exact sm_cond_cons (sm_tst OK HC e K SO Vs h.1 (sm_ev OK HC e K SO Vs h.1)) (sm_conds OK HC es K SO Vs h.2)
  | .nil, _ :: _, h => exact nomatch (show false = true from h)
  | .cons _ _, [], h => exact nomatch (show false = true from h)
termination_by structural x
end
end Mine

set_option autoImplicit false
namespace Mine
open PySem PySem.W PySem.Calls PyProof.Rows
variable {S : Sig}

set_option genInjectivity false in
structure Dx where
  A : Around
  env : Env
  h₀ : Heap
  L : Addr
  fs : Fs
  kp : List (Addr × Obj)
abbrev Dx.cx (d : Dx) (m : Str → Option Value) (cs : List (Addr × Obj)) : Cx := ⟨d.A, d.env, d.h₀, d.L, m, d.fs, d.kp ++ cs⟩

structure CellsOK (env : Env) (cs : List (Addr × Obj)) : Prop where
  all : All2 (fun (p : Str × Addr) (q : Addr × Obj) => p.2 = q.1 ∧ ∃ v, q.2.data = .cell v) env.cells cs
  nd : (env.cells.map (·.1)).Nodup

structure Fm (S : Sig) (d : Dx) (sc : Scope) (loc : Loc) (os : List (Addr × Obj)) (σ : H) (h : Heap) (m : Str → Option Value) (cs : List (Addr × Obj)) : Prop where
  vars : VarsOK S (d.cx m cs) sc (adr os) loc
  cells : CellsOK d.env cs
  led : (d.cx m cs).led S os σ h

abbrev XS := Loc → H → Option (R (Option V) × Loc × H)
noncomputable def PostX (S : Sig) (d : Dx) (sc : Scope) (os : List (Addr × Obj)) (s : Shared) (r : R (Option V)) (loc' : Loc) (σ' : H) (Q : Flow → Shared → Prop) (E : Value → Shared → Prop) : Prop :=
  ∀ (m' : Str → Option Value) (cs' os' : List (Addr × Obj)) (h' : Heap) (tk : Nat), adr os <+: adr os' → Fm S d sc loc' os' σ' h' m' cs' → match r with
    | .ok none => Q .next { s with heap := h', toks := tk }
    | .ok (some v) => ∀ a, VR (adr os') v a → Q (.ret a) { s with heap := h', toks := tk }
    | .err k => ∀ e, Fly S (d.cx m' cs') os' e k h' → E e { s with heap := h', toks := tk }
noncomputable def PostE (S : Sig) (d : Dx) (sc : Scope) (os : List (Addr × Obj)) (s : Shared) (m : Str → Option Value) (cs : List (Addr × Obj)) (loc : Loc) (r : R (Option V)) (loc' : Loc) (σ' : H) (E : Value → Shared → Prop) : Prop :=
  ∀ k, r = .err k → loc' = loc → ∀ (os₁ : List (Addr × Obj)) (h₁ : Heap) (tk : Nat) (e : Value), adr os <+: adr os₁ → Fm S d sc loc os₁ σ' h₁ m cs → Fly S (d.cx m cs) os₁ e k h₁ → E e { s with heap := h₁, toks := tk }
theorem PostX.err {S : Sig} {d : Dx} {sc : Scope} {os : List (Addr × Obj)} {s : Shared} {r : R (Option V)} {loc' : Loc} {σ' : H} {Q : Flow → Shared → Prop} {E : Value → Shared → Prop} (hQ : PostX S d sc os s r loc' σ' Q E)
    {os₁ : List (Addr × Obj)} (k : adr os <+: adr os₁) {h : Heap} {t : Nat} {m : Str → Option Value} {cs : List (Addr × Obj)} {loc : Loc} : PostE S d sc os₁ { s with heap := h, toks := t } m cs loc r loc' σ' E := by
  rintro q rfl rfl os₂ h₂ tk e k₂ F f
  exact hQ m cs os₂ h₂ tk (k.trans k₂) F e f
noncomputable def SX (S : Sig) (d : Dx) (sc : Scope) (t : Sem Flow) (x : XS) : Prop :=
  ∀ (loc : Loc) (m : Str → Option Value) (cs os : List (Addr × Obj)) (σ : H) (s : Shared) (r : R (Option V)) (loc' : Loc) (σ' : H), Fm S d sc loc os σ s.heap m cs → x loc σ = some (r, loc', σ') →
    ∀ (Q : Flow → Shared → Prop) (E : Value → Shared → Prop),
      PostX S d sc os s r loc' σ' Q E →
      wpAny (model S.prog S.w) d.A t Q E s

theorem onX_inv {α : Type} {m : X α} {loc loc' : Loc} {f : α → H → Option (R (Option V) × Loc × H)} {σ σ' : H} {r : R (Option V)} (h : onX m loc f σ = some (r, loc', σ')) :
    (∃ a σ₁, m σ = some (.ok a, σ₁) ∧ f a σ₁ = some (r, loc', σ')) ∨ (∃ k, m σ = some (.err k, σ') ∧ r = .err k ∧ loc' = loc) := by
  unfold onX at h
  split at h
  · cases h
  · rename_i k σ₁ e; cases h; exact .inr ⟨k, e, rfl, rfl⟩
  · rename_i a σ₁ e; exact .inl ⟨a, σ₁, e, h⟩

section
variable {d : Dx} {sc : Scope} {loc : Loc} {os os' : List (Addr × Obj)} {σ σ' : H} {h h' : Heap} {m : Str → Option Value} {cs : List (Addr × Obj)}
theorem Fm.step (f : Fm S d sc loc os σ h m cs) (k : adr os <+: adr os') (l : (d.cx m cs).led S os' σ' h') : Fm S d sc loc os' σ' h' m cs := ⟨f.vars.mono k, f.cells, l⟩

theorem sx_on {α β : Type} {RV : List Addr → β → α → Prop} {t : Sem α} {x : X β} {s : Shared} {r : R (Option V)} {loc' : Loc} {f : β → H → Option (R (Option V) × Loc × H)}
    (F : Fm S d sc loc os σ s.heap m cs) (hx : SM S (d.cx m cs) (adr os) RV t x) (e : onX x loc f σ = some (r, loc', σ')) {Q : α → Shared → Prop} {E : Value → Shared → Prop} (hE : PostE S d sc os s m cs loc r loc' σ' E)
    (hQ : ∀ (b : β) (σ₁ : H), f b σ₁ = some (r, loc', σ') → ∀ (os₁ : List (Addr × Obj)) (h₁ : Heap) (tk : Nat) (a : α), adr os <+: adr os₁ → Fm S d sc loc os₁ σ₁ h₁ m cs → RV (adr os₁) b a → Q a { s with heap := h₁, toks := tk }) :
    wpAny (model S.prog S.w) d.A t Q E s := by
  rcases onX_inv e with ⟨b, σ₁, e1, e2⟩ | ⟨k, e1, rfl, rfl⟩
  · exact hx os σ s _ _ List.prefix_rfl F.led e1 _ _ fun os₁ h₁ tk a k l hr => hQ b σ₁ e2 os₁ h₁ tk a k (F.step k l) hr
  · exact hx os σ s _ _ List.prefix_rfl F.led e1 _ _ fun os₁ h₁ tk e k₁ l₁ f => hE k rfl rfl os₁ h₁ tk e k₁ (F.step k₁ l₁) f
end

section
variable {d : Dx} {sc : Scope}
noncomputable def isComp (v : Expr) : Bool := Nat.ble 8 (tagE v) && Nat.ble (tagE v) 10
theorem no_swap {v : Expr} (h : isComp v = false) (t : Option Expr) (line : Nat) (env : Env) : swapsWith v t line env = pure false := by
  cases v <;> first | rfl | cases h

theorem sx_expr (hk : d.env.scope.kind = .function) {v : Expr} {pos : Pos} {x : Loc → X V} (hc : isComp v = false) (hx : ∀ m cs ρ loc, VarsOK S (d.cx m cs) sc ρ loc → SM S (d.cx m cs) ρ VR (eval v d.env) (x loc)) :
    SX S d sc (exec (.Expr v pos) d.env) (fun loc h => onX (x loc) loc (fun _ h₁ => some (.ok none, loc, h₁)) h) := by
  intro loc m cs os σ s r loc' σ' F e Q E hQ
  refine wpAny_Expr_any (sx_on F (hx _ _ _ _ F.vars) e (hQ.err List.prefix_rfl) fun b σ₁ e2 os₁ h₁ tk a k F₁ hr => ?_) (by unfold interactive; rw [hk]; rfl) (no_swap hc _ _ _)
  cases e2
  exact hQ m cs os₁ h₁ tk k F₁
theorem sx_ret {v : Expr} {pos : Pos} {x : Loc → X V} (hx : ∀ m cs ρ loc, VarsOK S (d.cx m cs) sc ρ loc → SM S (d.cx m cs) ρ VR (eval v d.env) (x loc)) :
    SX S d sc (exec (.Return (some v) pos) d.env) (fun loc h => onX (x loc) loc (fun v h₁ => some (.ok (some v), loc, h₁)) h) := by
  intro loc m cs os σ s r loc' σ' F e Q E hQ
  refine wpAny_Return_some (sx_on F (hx _ _ _ _ F.vars) e (hQ.err List.prefix_rfl) fun b σ₁ e2 os₁ h₁ tk a k F₁ hr => ?_)
  cases e2
  exact hQ m cs os₁ h₁ tk k F₁ a hr
theorem sx_ret0 {pos : Pos} : SX S d sc (exec (.Return none pos) d.env) (fun loc h => some (.ok (some .none), loc, h)) := by
  intro loc m cs os σ s r loc' σ' F e Q E hQ
  cases e
  exact wpAny_Return_none (hQ m cs os s.heap s.toks List.prefix_rfl F .none rfl)
theorem sx_pass {pos : Pos} : SX S d sc (exec (.Pass pos) d.env) (fun loc h => some (.ok none, loc, h)) := by
  intro loc m cs os σ s r loc' σ' F e Q E hQ
  cases e
  exact wpAny_Pass (hQ m cs os s.heap s.toks List.prefix_rfl F)
theorem sx_nil : SX S d sc (execs [] d.env) (fun loc h => some (.ok none, loc, h)) := by
  intro loc m cs os σ s r loc' σ' F e Q E hQ
  cases e
  exact wpAny_execs_nil (hQ m cs os s.heap s.toks List.prefix_rfl F)
theorem sx_cons {st : Stmt} {rest : List Stmt} {x y : XS} (h1 : SX S d sc (exec st d.env) x) (h2 : SX S d sc (execs rest d.env) y) :
    SX S d sc (execs (st :: rest) d.env) (fun loc h => match x loc h with | some (.ok none, l₁, h₁) => y l₁ h₁ | r => r) := by
  intro loc m cs os σ s r loc' σ' F e Q E hQ
  refine wpAny_execs_cons ?_
  cases hx : x loc σ with
  | none => dsimp only at e; rw [hx] at e; cases e
  | some p =>
    obtain ⟨rr, l₁, σ₁⟩ := p
    dsimp only at e
    rw [hx] at e
    refine h1 loc m cs os σ s rr l₁ σ₁ F hx _ _ fun m₁ cs₁ os₁ h₁ tk₁ k₁ F₁ => ?_
    cases rr with
    | err q => cases e; exact hQ m₁ cs₁ os₁ h₁ tk₁ k₁ F₁
    | ok o =>
      cases o with
      | none => exact h2 l₁ m₁ cs₁ os₁ σ₁ { s with heap := h₁, toks := tk₁ } r loc' σ' F₁ e Q E fun m₂ cs₂ os₂ h₂ tk₂ k₂ F₂ => hQ m₂ cs₂ os₂ h₂ tk₂ (k₁.trans k₂) F₂
      | some v =>
        cases e
        exact hQ m₁ cs₁ os₁ h₁ tk₁ k₁ F₁
theorem sx_if {c : Expr} {a b : List Stmt} {pos : Pos} {x : Loc → X Bool} {y z : XS} (hx : ∀ m cs ρ loc, VarsOK S (d.cx m cs) sc ρ loc → SM S (d.cx m cs) ρ EqR (isTrue c d.env (eval c d.env)) (x loc)) (hy : SX S d sc (execs a d.env) y) (hz : SX S d sc (execs b d.env) z) :
    SX S d sc (exec (.If c a b pos) d.env) (fun loc h => onX (x loc) loc (fun t h₁ => if t then y loc h₁ else z loc h₁) h) := by
  intro loc m cs os σ s r loc' σ' F e Q E hQ
  refine wpAny_If (sx_on F (hx _ _ _ _ F.vars) e (hQ.err List.prefix_rfl) fun t σ₁ e2 os₁ h₁ tk a k F₁ hr => ?_)
  subst hr
  cases t
  · exact hz loc m cs os₁ σ₁ { s with heap := h₁, toks := tk } r loc' σ' F₁ e2 Q E fun m₂ cs₂ os₂ h₂ tk₂ k₂ F₂ => hQ m₂ cs₂ os₂ h₂ tk₂ (k.trans k₂) F₂
  · exact hy loc m cs os₁ σ₁ { s with heap := h₁, toks := tk } r loc' σ' F₁ e2 Q E fun m₂ cs₂ os₂ h₂ tk₂ k₂ F₂ => hQ m₂ cs₂ os₂ h₂ tk₂ (k.trans k₂) F₂
theorem sx_while {c : Expr} {a : List Stmt} {pos : Pos} {x : Loc → X Bool} {y : XS} {fuel : Nat} (hx : ∀ m cs ρ loc, VarsOK S (d.cx m cs) sc ρ loc → SM S (d.cx m cs) ρ EqR (isTrue c d.env (eval c d.env)) (x loc)) (hy : SX S d sc (execs a d.env) y) :
    SX S d sc (exec (.While c a [] pos) d.env) (fun loc h => whileL x y fuel loc h) := by
  intro loc m cs os σ s r loc' σ' F e Q E hQ
  refine wpAny_While ?_
  refine codeAny_whileLoop (fun k s' => ∃ h' tk os' σ₁ m' cs' l', s' = { s with heap := h', toks := tk } ∧ adr os <+: adr os' ∧ Fm S d sc l' os' σ₁ h' m' cs' ∧ whileL x y k l' σ₁ = some (r, loc', σ')) ?_ fuel ⟨s.heap, s.toks, os, σ, m, cs, loc, rfl, List.prefix_rfl, F, e⟩
  rintro k s' ⟨h', tk, os', σ₁, m', cs', l', rfl, k', F', e'⟩
  cases k with
  | zero => cases e'
  | succ k =>
    unfold whileL at e'
    cases ht : x l' σ₁ with
    | none => rw [ht] at e'; cases e'
    | some p =>
      obtain ⟨tr, σ₂⟩ := p
      rw [ht] at e'
      cases tr with
      | err q => cases e'
      | ok t =>
        refine hx _ _ _ _ F'.vars os' σ₁ { s with heap := h', toks := tk } _ _ List.prefix_rfl F'.led ht _ _ fun os₂ h₂ tk₂ t' k₂ l₂ hb => ?_
        subst hb
        have F₂ := F'.step k₂ l₂
        cases t with
        | false =>
          cases e'
          simp only [Bool.false_eq_true, if_false]
          exact wpAny_execs_nil (hQ m' cs' os₂ h₂ tk₂ (k'.trans k₂) F₂)
        | true =>
          simp only [if_true]
          dsimp only at e'
          cases hb : y l' σ₂ with
          | none => rw [hb] at e'; cases e'
          | some p₂ =>
            obtain ⟨rr, l₃, σ₃⟩ := p₂
            rw [hb] at e'
            refine hy l' m' cs' os₂ σ₂ { s with heap := h₂, toks := tk₂ } rr l₃ σ₃ F₂ hb _ _ fun m₃ cs₃ os₃ h₃ tk₃ k₃ F₃ => ?_
            cases rr with
            | err q => cases e'
            | ok o =>
              cases o with
              | none => exact ⟨k, Nat.lt_succ_self k, h₃, tk₃, os₃, σ₃, m₃, cs₃, l₃, rfl, k'.trans (k₂.trans k₃), F₃, e'⟩
              | some v => cases e'; exact hQ m₃ cs₃ os₃ h₃ tk₃ (k'.trans (k₂.trans k₃)) F₃
end
end Mine

set_option autoImplicit false
namespace Mine
open PySem PySem.W PySem.Calls PyProof.Rows
variable {S : Sig}

theorem lookup_idx {α : Type} : ∀ {l : List (Str × α)} {n : Str} {a : α}, l.lookup n = some a → ∃ i : Nat, l[i]? = some (n, a)
  | [], _, _, h => by simp at h
  | (k, b) :: r, n, a, h => by
    by_cases hk : n = k
    · subst hk
      simp at h; subst h; exact ⟨0, rfl⟩
    · have : (n == k) = false := by simpa using hk
      rw [List.lookup_cons, this] at h
      obtain ⟨i, hi⟩ := lookup_idx h
      exact ⟨i + 1, hi⟩

theorem Led.kperm {h₀ h : Heap} {L : Addr} {m : Str → Option Value} {fs : Fs} {kp kp' os : List (Addr × Obj)} {σ : H} (l : Led S h₀ L m fs kp os σ h) (p : kp.Perm kp') : Led S h₀ L m fs kp' os σ h := by
  have p' : (kp ++ os).Perm (kp' ++ os) := p.append_right os
  have pa : (adr (kp ++ os)).Perm (adr (kp' ++ os)) := p'.map _
  exact ⟨l.fr, fun q hq => l.news q (p'.mem_iff.mpr hq), pa.nodup_iff.mp l.nd, l.objs, fun f hf => ⟨(l.outs f hf).1, (l.outs f hf).2.1, (l.outs f hf).2.2.1, fun q => (l.outs f hf).2.2.2 (pa.mem_iff.mpr q)⟩, l.top, fun b hb => l.big b (pa.mem_iff.mpr hb), l.frz⟩
theorem set_self {α : Type} : ∀ {l : List α} {i : Nat} {a : α}, l[i]? = some a → l.set i a = l
  | [], _, _, e => by simp at e
  | x :: r, 0, _, e => by simp only [List.getElem?_cons_zero, Option.some.injEq] at e; rw [e]; rfl
  | x :: r, i + 1, _, e => by simp only [List.getElem?_cons_succ] at e; rw [List.set_cons_succ, set_self e]
section
variable {d : Dx} {sc : Scope} {loc : Loc} {os : List (Addr × Obj)} {σ : H} {h : Heap} {m : Str → Option Value} {cs : List (Addr × Obj)}
theorem nd_parts {S : Sig} {h₀ : Heap} {L : Addr} {fs : Fs} {kp : List (Addr × Obj)} (l : Led S h₀ L m fs (kp ++ cs) os σ h) : (adr cs).Nodup ∧ ∀ p ∈ kp, ∀ q ∈ cs, p.1 ≠ q.1 := by
  have nd := l.nd
  simp only [adr, List.map_append] at nd
  obtain ⟨n1, _, _⟩ := List.nodup_append.mp nd
  obtain ⟨_, n2, n3⟩ := List.nodup_append.mp n1
  exact ⟨n2, fun p hp q hq e => n3 p.1 (List.mem_map_of_mem hp) q.1 (List.mem_map_of_mem hq) e⟩
theorem CellsOK.at {env : Env} (C : CellsOK env cs) {nm : Str} {a : Addr} (e : env.cells.lookup nm = some a) : ∃ (i : Nat) (o : Obj) (v : Option Value), env.cells[i]? = some (nm, a) ∧ cs[i]? = some (a, o) ∧ o.data = .cell v := by
  obtain ⟨i, hi⟩ := lookup_idx e
  obtain ⟨q, hq, h1, v, h2⟩ := C.all.get hi
  obtain ⟨b, o⟩ := q
  dsimp only at h1 h2
  subst h1
  exact ⟨i, o, v, hi, hq, h2⟩
theorem cell_mem {S : Sig} {h₀ : Heap} {L : Addr} {fs : Fs} {kp : List (Addr × Obj)} {env : Env} (l : Led S h₀ L m fs (kp ++ cs) os σ h) (C : CellsOK env cs) {nm : Str} {a : Addr} {o : Obj} (e : env.cells.lookup nm = some a) (hm : (a, o) ∈ kp ++ cs) : (a, o) ∈ cs := by
  obtain ⟨i, o', v, _, h2, _⟩ := C.at e
  rcases List.mem_append.mp hm with hm | hm
  · exact absurd rfl ((nd_parts l).2 (a, o) hm (a, o') (List.mem_of_getElem? h2))
  · exact hm
theorem vars_kp {kp' : List (Addr × Obj)} (F : Fm S d sc loc os σ h m cs) : VarsOK S ({ d with kp := kp' }.cx m cs) sc (adr os) loc := by
  intro i v nm h1 h2 h3
  obtain ⟨x, h4, h5⟩ := F.vars i v nm h1 h2 h3
  refine ⟨x, ?_, h5⟩
  rcases h4 with ⟨q1, q2⟩ | ⟨q1, a, o, q2, q3, q4⟩
  · exact .inl ⟨q1, q2⟩
  · exact .inr ⟨q1, a, o, q2, List.mem_append_right _ (cell_mem F.led F.cells q2 q3), q4⟩

theorem upd_ne {loc : Loc} {i j : Nat} {v : V} (h : j ≠ i) : loc.upd i v j = loc j := by rw [Loc.upd, beq_eq_false_iff_ne.mpr h]; rfl
theorem upd_eq {loc : Loc} {i : Nat} {v : V} : loc.upd i v i = some v := by rw [Loc.upd, beq_self_eq_true]; rfl

theorem store_var (nd : S.T.Nodup) (SO : ScOK sc d.env) (hk : d.env.scope.kind = .function) (hloc : d.env.locals = d.L) {s : Shared} (F : Fm S d sc loc os σ s.heap m cs) {i : Nat} {nm : Str} {v : V} {x : Value} (hn : S.T[i]? = some nm)
    (hs : sc.names.lookup nm = some .local ∨ (sc.names.lookup nm = some .cell ∧ d.env.kindOf nm = some .cell)) (hv : VR (adr os) v x) {Q : Unit → Shared → Prop} {E : Value → Shared → Prop}
    (hQ : ∀ m' cs' h' tk, Fm S d sc (loc.upd i v) os σ h' m' cs' → Q () { s with heap := h', toks := tk }) : wpAny (model S.prog S.w) d.A (storeName d.env nm x) Q E s := by
  have inj : ∀ {j : Nat} {nmj : Str}, S.T[j]? = some nmj → j ≠ i → nmj ≠ nm := fun {j nmj} hj hji q => hji ((List.getElem?_inj (List.getElem?_eq_some_iff.mp hj).1 nd).mp (by rw [hj, hn, q]))
  rcases hs with hs | ⟨hs, hkc⟩
  · have kind := SO.loc nm hs
    have hns : s.heap.Ns d.env.locals m := by rw [hloc]; exact F.led.fr.ns
    refine wpAny_storeName_local kind hns (fun h' hn' hs' => ?_) (by rw [hk]; rfl)
    rw [hloc] at hn' hs'
    refine hQ (fun y => if y = nm then some x else m y) cs h' _ ⟨fun j w nmj h1 h2 h3 => ?_, F.cells, F.led.lset hn' hs'⟩
    by_cases hji : j = i
    · subst hji
      rw [upd_eq] at h1; cases h1
      rw [hn] at h2; cases h2
      exact ⟨x, .inl ⟨kind, by simp⟩, hv⟩
    · rw [upd_ne hji] at h1
      obtain ⟨y, h4, h5⟩ := F.vars j w nmj h1 h2 h3
      refine ⟨y, ?_, h5⟩
      rcases h4 with ⟨q1, q2⟩ | q
      · exact .inl ⟨q1, by show (if nmj = nm then some x else m nmj) = some y; rw [if_neg (inj h2 hji)]; exact q2⟩
      · exact .inr q
  · obtain ⟨a, ha⟩ := (SO.cell nm (by unfold isCell; rw [hs])).2
    obtain ⟨p, o, v₀, hp, hcs, hd⟩ := F.cells.at ha
    have hmem : (a, o) ∈ d.kp ++ cs := List.mem_append_right _ (List.mem_of_getElem? hcs)
    refine wpAny_storeName_cell hk hkc ha ⟨o, (F.led.news (a, o) (List.mem_append_left _ hmem)).1, hd⟩ fun h' hv' hs' => ?_
    obtain ⟨o', ho', hd'⟩ := hv'
    have sp : cs = cs.take p ++ (a, o) :: cs.drop (p + 1) := split_at hcs
    have sp' : cs.set p (a, o') = cs.take p ++ (a, o') :: cs.drop (p + 1) := set_split hcs
    have l' : (d.cx m (cs.set p (a, o'))).led S os σ h' := by
      have l := F.led
      show Led S d.h₀ d.L m d.fs (d.kp ++ cs.set p (a, o')) os σ h'
      rw [sp', ← List.append_assoc]
      refine Led.kset (x := o) ?_ hs' ho'
      rw [List.append_assoc, ← sp]; exact l
    have ndc := nd_parts F.led
    have mem' : ∀ {b : Addr} {ob : Obj}, b ≠ a → (b, ob) ∈ d.kp ++ cs → (b, ob) ∈ d.kp ++ cs.set p (a, o') := by
      intro b ob hb hm
      rcases List.mem_append.mp hm with hm | hm
      · exact List.mem_append_left _ hm
      · refine List.mem_append_right _ ?_
        rw [sp'] ; rw [sp] at hm
        simp only [List.mem_append, List.mem_cons] at hm ⊢
        rcases hm with hm | hm | hm
        · exact .inl hm
        · cases hm; exact absurd rfl hb
        · exact .inr (.inr hm)
    refine hQ m (cs.set p (a, o')) h' s.toks ⟨fun j w nmj h1 h2 h3 => ?_, ⟨?_, F.cells.nd⟩, l'⟩
    · by_cases hji : j = i
      · subst hji
        rw [upd_eq] at h1; cases h1
        rw [hn] at h2; cases h2
        refine ⟨x, .inr ⟨.inl hkc, a, o', ha, List.mem_append_right _ ?_, hd'⟩, hv⟩
        rw [sp']; simp
      · rw [upd_ne hji] at h1
        obtain ⟨y, h4, h5⟩ := F.vars j w nmj h1 h2 h3
        refine ⟨y, ?_, h5⟩
        rcases h4 with q | ⟨q1, b, ob, q2, q3, q4⟩
        · exact .inl q
        · refine .inr ⟨q1, b, ob, q2, mem' (fun q => ?_) q3, q4⟩
          subst q
          obtain ⟨p', _, _, hp', hcs', _⟩ := F.cells.at q2
          have e1 : (adr cs)[p]? = some b := by simp [adr, hcs]
          have e2 : (adr cs)[p']? = some b := by simp [adr, hcs']
          have : p = p' := (List.getElem?_inj (List.getElem?_eq_some_iff.mp e1).1 ndc.1).mp (e1.trans e2.symm)
          subst this
          rw [hp] at hp'; cases hp'
          exact inj h2 hji rfl
    · have := F.cells.all.set (a := (nm, a)) (b := (a, o')) ⟨rfl, some x, hd'⟩ p
      have e : d.env.cells.set p (nm, a) = d.env.cells := set_self hp
      rwa [e] at this
end

section
variable {d : Dx} {sc : Scope} {n : Nat}
noncomputable def StoreOK (sc : Scope) (env : Env) (nm : Str) : Prop := sc.names.lookup nm = some .local ∨ (sc.names.lookup nm = some .cell ∧ env.kindOf nm = some .cell)

theorem sx_asg_var (nd : S.T.Nodup) (SO : ScOK sc d.env) (hk : d.env.scope.kind = .function) (hloc : d.env.locals = d.L) {v : Expr} {nm : Str} {px pos : Pos} {i : Nat} {x : Loc → X V} (hn : S.T[i]? = some nm) (hs : StoreOK sc d.env nm)
    (hsw : swapsWith v (some (.Name nm px)) pos.line d.env = pure false) (hx : ∀ m cs ρ loc, VarsOK S (d.cx m cs) sc ρ loc → SM S (d.cx m cs) ρ VR (eval v d.env) (x loc)) :
    SX S d sc (exec (.Assign [.Name nm px] v pos) d.env) (fun loc h => onX (x loc) loc (fun v h₁ => some (.ok none, loc.upd i v, h₁)) h) := by
  intro loc m cs os σ s r loc' σ' F e Q E hQ
  refine wpAny_Assign_Name (sx_on F (hx _ _ _ _ F.vars) e (hQ.err List.prefix_rfl) fun b σ₁ e2 os₁ h₁ tk a k F₁ hr => ?_) hsw
  cases e2
  exact store_var nd SO hk hloc (s := { s with heap := h₁, toks := tk }) F₁ hn hs hr fun m' cs' h' tk' F' => hQ m' cs' os₁ h' tk' k F'

theorem assign_arm {t v : Expr} {pos : Pos} {env : Env} (hs : swapsWith v (some t) pos.line env = pure false) (hw : swappedStores [t] v env = pure none) (he : (assignEach [t] env).map (·.2) = [assign t env]) {M : Model} {A : Around} {E : Value → Shared → Prop} {s : Shared} {Q : Flow → Shared → Prop}
    (h : wpAny M A (eval v env) (fun x s₁ => wpAny M A (assign t env x) (fun _ => Q .next) E s₁) E s) : wpAny M A (exec (.Assign [t] v pos) env) Q E s := by
  refine wpAny_Assign_stores (wpAny_mono h (fun x s₁ h₁ => ?_) fun _ _ y => y) hs hw
  rw [he]; exact h₁
theorem swap_attr {v o : Expr} {nm : Str} {p : Pos} {line : Nat} {env : Env} : swapsWith v (some (.Attribute o nm p)) line env = pure false := by cases v <;> rfl
theorem swap_sub {v o i : Expr} {p : Pos} {line : Nat} {env : Env} : swapsWith v (some (.Subscript o i p)) line env = pure false := by cases v <;> rfl
theorem stores_attr {v o : Expr} {nm : Str} {p : Pos} {env : Env} : swappedStores [.Attribute o nm p] v env = pure none := by cases v <;> rfl
theorem stores_sub {v o i : Expr} {p : Pos} {env : Env} : swappedStores [.Subscript o i p] v env = pure none := by cases v <;> rfl

theorem sx_asg_attr (TV : TabOK S) (K : ∀ m cs, CtxOK S n (d.cx m cs)) {v o : Expr} {nm : Str} {px pos : Pos} {i : Nat} {x y : Loc → X V} (hn : S.T[i]? = some nm)
    (hx : ∀ m cs ρ loc, VarsOK S (d.cx m cs) sc ρ loc → SM S (d.cx m cs) ρ VR (eval v d.env) (x loc)) (hy : ∀ m cs ρ loc, VarsOK S (d.cx m cs) sc ρ loc → SM S (d.cx m cs) ρ VR (eval o d.env) (y loc)) :
    SX S d sc (exec (.Assign [.Attribute o nm px] v pos) d.env) (fun loc h => onX (x loc) loc (fun v h₁ => onX (y loc) loc (fun ov h₂ => onX (setAttr S.P ov i v) loc (fun _ h₃ => some (.ok none, loc, h₃)) h₂) h₁) h) := by
  intro loc m cs os σ s r loc' σ' F e Q E hQ
  refine assign_arm swap_attr stores_attr rfl (sx_on F (hx _ _ _ _ F.vars) e (hQ.err List.prefix_rfl) fun b σ₁ e2 os₁ h₁ tk a k F₁ hr => ?_)
  rw [arm_assign_Attribute]
  refine wpAny_bind (wpAny_holding (sx_on (s := { s with heap := h₁, toks := tk }) F₁ (hy _ _ _ _ F₁.vars) e2 (hQ.err k) fun ob σ₂ e3 os₂ h₂ tk₂ oa k₂ F₂ hr₂ => wpAny_bind (wpAny_standAt (wpAny_bind (wpAny_holding ?_)))))
  refine sx_on (s := { s with heap := h₂, toks := tk₂ }) F₂ (sm_setAttr TV (K m cs).kin hn hr₂ (hr.mono k₂)) e3 (hQ.err (k.trans k₂)) fun _ σ₃ e4 os₃ h₃ tk₃ _ k₃ F₃ _ => wpAny_release' ?_
  cases e4
  exact hQ m cs os₃ h₃ tk₃ (k.trans (k₂.trans k₃)) F₃
theorem sx_asg_sub {v o j : Expr} {px pos : Pos} {x y z : Loc → X V}
    (hx : ∀ m cs ρ loc, VarsOK S (d.cx m cs) sc ρ loc → SM S (d.cx m cs) ρ VR (eval v d.env) (x loc)) (hy : ∀ m cs ρ loc, VarsOK S (d.cx m cs) sc ρ loc → SM S (d.cx m cs) ρ VR (eval o d.env) (y loc)) (hz : ∀ m cs ρ loc, VarsOK S (d.cx m cs) sc ρ loc → SM S (d.cx m cs) ρ VR (eval j d.env) (z loc)) :
    SX S d sc (exec (.Assign [.Subscript o j px] v pos) d.env) (fun loc h => onX (x loc) loc (fun v h₁ => onX (y loc) loc (fun ov h₂ => onX (z loc) loc (fun iv h₃ => onX (setItem S.P ov iv v) loc (fun _ h₄ => some (.ok none, loc, h₄)) h₃) h₂) h₁) h) := by
  intro loc m cs os σ s r loc' σ' F e Q E hQ
  refine assign_arm swap_sub stores_sub rfl (sx_on F (hx _ _ _ _ F.vars) e (hQ.err List.prefix_rfl) fun b σ₁ e2 os₁ h₁ tk a k F₁ hr => ?_)
  rw [arm_assign_Subscript]
  refine wpAny_bind (wpAny_holding (sx_on (s := { s with heap := h₁, toks := tk }) F₁ (hy _ _ _ _ F₁.vars) e2 (hQ.err k) fun ob σ₂ e3 os₂ h₂ tk₂ oa k₂ F₂ hr₂ => wpAny_bind (wpAny_holding ?_)))
  refine sx_on (s := { s with heap := h₂, toks := tk₂ }) F₂ (hz _ _ _ _ F₂.vars) e3 (hQ.err (k.trans k₂)) fun jb σ₃ e4 os₃ h₃ tk₃ ja k₃ F₃ hr₃ => wpAny_bind (wpAny_standAt (wpAny_bind (wpAny_holding ?_)))
  refine sx_on (s := { s with heap := h₃, toks := tk₃ }) F₃ (sm_setItem (hr₂.mono k₃) hr₃ (hr.mono (k₂.trans k₃))) e4 (hQ.err (k.trans (k₂.trans k₃))) fun _ σ₄ e5 os₄ h₄ tk₄ _ k₄ F₄ _ => wpAny_release' ?_
  cases e5
  exact hQ m cs os₄ h₄ tk₄ (k.trans (k₂.trans (k₃.trans k₄))) F₄

theorem sx_for (nd : S.T.Nodup) (SO : ScOK sc d.env) (hk : d.env.scope.kind = .function) (hloc : d.env.locals = d.L) (hh : d.A.handled = none) {it : Expr} {nm : Str} {px pos : Pos} {b : List Stmt} {i : Nat} {x : Loc → X V} {y : XS} (hn : S.T[i]? = some nm) (hs : StoreOK sc d.env nm) (hset : isSet it = false)
    (hx : ∀ m cs ρ loc, VarsOK S (d.cx m cs) sc ρ loc → SM S (d.cx m cs) ρ VR (eval it d.env) (x loc)) (hy : ∀ kp', SX S { d with kp := kp' } sc (execs b d.env) y) :
    SX S d sc (exec (.For (.Name nm px) it b [] pos) d.env) (fun loc h => onX (x loc) loc (fun v h₁ => match iterOf v h₁ with | none => none | some vs => forL v [i] false y h₁ vs loc h₁) h) := by
  intro loc m cs os σ s r loc' σE F e Q E hQ
  refine wpAny_For (sx_on F (hx _ _ _ _ F.vars) e (hQ.err List.prefix_rfl) fun v σ₁ e2 os₁ h₁ tk xv k F₁ hv => ?_) (not_set hset d.env)
  cases hi : iterOf v σ₁ with
  | none => rw [hi] at e2; cases e2
  | some vs =>
    rw [hi] at e2
    dsimp only at e2
    refine it_new (s := { s with heap := h₁, toks := tk }) F₁.led List.prefix_rfl hv hi fun I o₀ h₂ l₂ it₂ => ?_
    have l₂' : Led S d.h₀ d.L m d.fs (d.kp ++ (I, o₀) :: cs) os₁ σ₁ h₂ := l₂.kperm (by simpa using (List.perm_append_comm (l₁ := cs) (l₂ := [(I, o₀)])).append_left d.kp)
    refine codeAny_forLoop (fun kk s' => ∃ h' tk' os' σ' m' cs' l' o j, s' = { s with heap := h', toks := tk' } ∧ adr os₁ <+: adr os' ∧ VarsOK S (d.cx m' cs') sc (adr os') l' ∧ CellsOK d.env cs' ∧ Led S d.h₀ d.L m' d.fs (d.kp ++ (I, o) :: cs') os' σ' h' ∧
        ItAt h' I (adr os') v σ' j ∧ still v σ₁ σ' = true ∧ forL v [i] false y σ₁ (vs.drop j) l' σ' = some (r, loc', σE) ∧ j ≤ vs.length ∧ kk = vs.length + 1 - j) ?_ (vs.length + 1)
      ⟨h₂, tk, os₁, σ₁, m, cs, loc, o₀, 0, rfl, List.prefix_rfl, F₁.vars, F₁.cells, l₂', it₂, still_refl v σ₁, by simpa using e2, Nat.zero_le _, rfl⟩
    rintro kk s' ⟨h', tk', os', σ', m', cs', l', o, j, rfl, k', V', C', L', it', st, hL', hj, rfl⟩
    have hi' : iterOf v σ' = some vs := (still_iter st).trans hi
    cases hvj : vs[j]? with
    | none =>
      have hjv : vs.length ≤ j := List.getElem?_eq_none_iff.mp hvj
      rw [List.drop_eq_nil_of_le hjv] at hL'
      cases hL'
      refine it_done (s := { s with heap := h', toks := tk' }) hh L' it' hi' hvj fun h₄ l₄ => ?_
      exact wpAny_execs_nil (hQ m' cs' os' h₄ tk' (k.trans k') ⟨V', C', l₄⟩)
    | some yv =>
      obtain ⟨hjl, hjy⟩ := List.getElem?_eq_some_iff.mp hvj
      rw [List.drop_eq_getElem_cons hjl, hjy] at hL'
      unfold forL at hL'
      have hb : bindTg [i] false yv l' σ' = some (l'.upd i yv) := rfl
      rw [hb] at hL'
      dsimp only at hL'
      refine it_next (s := { s with heap := h', toks := tk' }) L' it' hi' hvj fun o' h₄ tk₄ xw l₄ it₄ hxw => ?_
      have l₄' : ({ d with kp := d.kp ++ (I, o') :: [] }.cx m' cs').led S os' σ' h₄ := by
        show Led S d.h₀ d.L m' d.fs ((d.kp ++ (I, o') :: []) ++ cs') os' σ' h₄
        simpa using l₄
      have Vk : VarsOK S ({ d with kp := d.kp ++ (I, o') :: [] }.cx m' cs') sc (adr os') l' := by
        intro a w nma h1 h2 h3
        obtain ⟨z, q, hz⟩ := V' a w nma h1 h2 h3
        refine ⟨z, ?_, hz⟩
        rcases q with q | ⟨q1, b, ob, q2, q3, q4⟩
        · exact .inl q
        · refine .inr ⟨q1, b, ob, q2, ?_, q4⟩
          simp only [List.mem_append] at q3 ⊢
          rcases q3 with q3 | q3
          · exact .inl (.inl q3)
          · exact .inr q3
      refine wpAny_assign_Name (store_var (d := { d with kp := d.kp ++ (I, o') :: [] }) nd SO hk hloc (s := { s with heap := h₄, toks := tk₄ }) ⟨Vk, C', l₄'⟩ hn hs hxw fun m₅ cs₅ h₅ tk₅ F₅ => ?_)
      have memI : ∀ {hh : Heap} {oo : List (Addr × Obj)} {ss : H} {mm : Str → Option Value} {cc : List (Addr × Obj)}, ({ d with kp := d.kp ++ (I, o') :: [] }.cx mm cc).led S oo ss hh → hh.get? I = some o' := fun l => (l.news (I, o') (by simp)).1
      cases hq : y (l'.upd i yv) σ' with
      | none => rw [hq] at hL'; cases hL'
      | some p =>
        obtain ⟨rr, l₆, σ₆⟩ := p
        rw [hq] at hL'
        refine hy (d.kp ++ (I, o') :: []) (l'.upd i yv) m₅ cs₅ os' σ' { s with heap := h₅, toks := tk₅ } rr l₆ σ₆ F₅ hq _ _ fun m₆ cs₆ os₆ h₆ tk₆ k₆ F₆ => ?_
        have L₆ : Led S d.h₀ d.L m₆ d.fs (d.kp ++ (I, o') :: cs₆) os₆ σ₆ h₆ := by
          have this : Led S d.h₀ d.L m₆ d.fs ((d.kp ++ (I, o') :: []) ++ cs₆) os₆ σ₆ h₆ := F₆.led
          simpa using this
        have V₆ : VarsOK S (d.cx m₆ cs₆) sc (adr os₆) l₆ := vars_kp (d := { d with kp := d.kp ++ (I, o') :: [] }) (kp' := d.kp) F₆
        cases rr with
        | err q => cases hL'
        | ok ov =>
          cases ov with
          | none =>
            dsimp only at hL'
            split at hL'
            · rename_i hst
              refine ⟨vs.length + 1 - (j + 1), by lia, h₆, tk₆, os₆, σ₆, m₆, cs₆, l₆, o', j + 1, rfl, k'.trans k₆, V₆, F₆.cells, L₆, it₄.at (fun ob q => ?_) k₆ (still_trans (still_sym st) hst), hst, hL', hjl, rfl⟩
              rw [memI l₄'] at q; cases q; exact memI F₆.led
            · cases hL'
          | some w =>
            cases hL'
            exact hQ m₆ cs₆ os₆ h₆ tk₆ (k.trans (k'.trans k₆)) ⟨V₆, F₆.cells, L₆.kdrop⟩
end
end Mine

set_option autoImplicit false
namespace Mine
open PySem PySem.W PySem.Calls PyProof.Rows
variable {S : Sig}

theorem Led.kadd {h₀ h : Heap} {L : Addr} {m : Str → Option Value} {fs : Fs} {kp os : List (Addr × Obj)} {σ : H} (l : Led S h₀ L m fs kp os σ h) {q : Addr} {x : Obj} (hx : h.get? q = some x) (q1 : q ≠ L) (q2 : h₀.get? q = none) (q3 : q ∉ adr (kp ++ os)) (q4 : ∀ f ∈ fs, f.1 ≠ q) (hq : mainGlobals < q) :
    Led S h₀ L m fs (kp ++ (q, x) :: []) os σ h := by
  have mem : ∀ p, p ∈ (kp ++ (q, x) :: []) ++ os → p = (q, x) ∨ p ∈ kp ++ os := fun p hp => by
    have := mid_mem hp
    rwa [List.append_nil] at this
  refine ⟨l.fr, fun p hp => ?_, ?_, l.objs, fun f hf => ⟨(l.outs f hf).1, (l.outs f hf).2.1, (l.outs f hf).2.2.1, fun hm => ?_⟩, l.top, fun b hb => ?_, l.frz⟩
  · rcases mem p hp with rfl | hp
    · exact ⟨hx, q1, q2⟩
    · exact l.news p hp
  · have nd := l.nd
    unfold adr at nd q3 ⊢
    rw [List.map_append] at nd q3
    obtain ⟨n1, n2, n3⟩ := List.nodup_append.mp nd
    rw [List.append_assoc, List.map_append, List.cons_append, List.nil_append, List.map_cons]
    refine List.nodup_append.mpr ⟨n1, List.nodup_cons.mpr ⟨fun e => q3 (List.mem_append_right _ e), n2⟩, fun b hb d hd e => ?_⟩
    rcases List.mem_cons.mp hd with rfl | hd
    · exact q3 (List.mem_append_left _ (e ▸ hb))
    · exact n3 b hb d hd e
  · obtain ⟨p, hp, e⟩ := List.mem_map.mp hm
    rcases mem p hp with rfl | hp
    · exact q4 f hf e.symm
    · exact (l.outs f hf).2.2.2 (e ▸ List.mem_map_of_mem hp)
  · obtain ⟨p, hp, rfl⟩ := List.mem_map.mp hb
    rcases mem p hp with rfl | hp
    · exact notMods hq
    · exact l.big _ (List.mem_map_of_mem hp)
theorem Led.leaveK {h₀ h : Heap} {L C : Addr} {m mC : Str → Option Value} {fs : Fs} {kp os : List (Addr × Obj)} {σ : H} (l : Led S h₀ C mC ((L, m) :: fs) kp os σ h) (ab : h₀.objs.size ≤ L) (ne : ∀ f ∈ fs, f.1 ≠ L) :
    ∃ oC, NsObj oC mC ∧ Led S h₀ L m fs (kp ++ (C, oC) :: []) os σ h := by
  obtain ⟨oC, hC, hN⟩ := ns_obj l.fr.ns
  have l' := l.leave ab ne (h' := h) fun b o _ e => e
  refine ⟨oC, hN, l'.kadd hC (Ne.symm (l.outs _ (.head _)).2.1) (none_above l.fr) (fun hm => ?_) (fun f hf => (l.outs f (.tail _ hf)).2.1) ?_⟩
  · obtain ⟨p, hp, e⟩ := List.mem_map.mp hm
    exact (l.news p hp).2.1 e
  · obtain ⟨o, ho⟩ := l.top
    exact Nat.lt_of_lt_of_le (Heap.lt_size ho) l.fr.above

section
variable {d : Dx} {sc sc' : Scope} {n : Nat}
theorem sx_asg_used (nd : S.T.Nodup) (SO : ScOK sc d.env) (K : ∀ m cs, CtxOK S n (d.cx m cs)) {nm : Str} {px pos pos' : Pos} {i : Nat} {tg : List Nat} {tup : Bool} {tgt : Expr} {ite elt : Expr} {ifs : List Expr} (hn : S.T[i]? = some nm) (hs : StoreOK sc d.env nm)
    (hsw : swapsWith (.ListComp elt [⟨tgt, ite, ifs, 0⟩] sc' pos') (some (.Name nm px)) pos.line d.env = pure true)
    (hn' : ckTg S.nam tg tup tgt = true) (hsc : compScope S.nam sc sc' (tgNms tup tgt) = true) (hset : isSet ite = false) {xi : Loc → X V} {t : Loc → X Bool} {e : Loc → X V}
    (hit : ∀ m cs ρ loc, VarsOK S (d.cx m cs) sc ρ loc → SM S (d.cx m cs) ρ VR (eval ite d.env) (xi loc))
    (ht : ∀ (c' : Cx) (ρ' : List Addr) (loc' : Loc), CtxOK S n c' → ScOK sc' c'.env → VarsOK S c' sc' ρ' loc' → SM S c' ρ' EqR (condTree ifs c'.env) (t loc'))
    (he : ∀ (c' : Cx) (ρ' : List Addr) (loc' : Loc), CtxOK S n c' → ScOK sc' c'.env → VarsOK S c' sc' ρ' loc' → SM S c' ρ' VR (eval elt c'.env) (e loc')) :
    SX S d sc (exec (.Assign [.Name nm px] (.ListComp elt [⟨tgt, ite, ifs, 0⟩] sc' pos') pos) d.env)
      (fun loc h => onX (X.bind (xi loc) fun v => fun h => match iterOf v h with | none => none | some vs => X.bind (compL v tg tup t e loc h vs) (fun ws => alloc (.list ws)) h) loc (fun v h₁ => some (.ok none, loc.upd i v, h₁)) h) := by
  intro loc m cs os σ s r loc' σ' F ee Q E hQ
  rw [exec_Assign_Name_used _ _ _ _ hsw]
  refine wpAny_bind (wpAny_standAt (wpAny_bind ?_))
  show wpAny _ d.A (do let _ ← comprehension (.ListComp elt [⟨tgt, ite, ifs, 0⟩] sc' pos') sc' d.env _ (newList []) false (eval ite d.env) (some (assign (.Name nm px) d.env))) _ _ s
  have fin : ∀ (rr : R V), X.bind (xi loc) (fun v => fun h => match iterOf v h with | none => none | some vs => X.bind (compL v tg tup t e loc h vs) (fun ws => alloc (.list ws)) h) σ = some (rr, σ') → (∀ b, rr = .ok b → r = .ok none ∧ loc' = loc.upd i b) → (∀ k, rr = .err k → r = .err k ∧ loc' = loc) →
      wpAny (model S.prog S.w) d.A (comprehension (.ListComp elt [⟨tgt, ite, ifs, 0⟩] sc' pos') sc' d.env (firstIterPos [⟨tgt, ite, ifs, 0⟩] pos') (newList []) false (eval ite d.env) (some (assign (.Name nm px) d.env))) (fun _ s' => Q .next s') E s := by
    intro rr hx hrr hre
    refine comp_run (c := d.cx m cs) (K m cs) SO F.vars nd hn' hsc hset (hit _ _ _ _ F.vars) ht he List.prefix_rfl F.led hx (use := some (assign (.Name nm px) d.env)) (Q := fun _ s' => Q .next s') (fun b hb os₁ h₁ tk₁ C mC D k₁ l₁ hD => ?_) fun k hk os₁ h₁ tk₁ e k₁ l₁ f => ?_
    rotate_left
    · obtain ⟨rfl, rfl⟩ := hre k hk
      exact hQ m cs os₁ h₁ tk₁ k₁ (F.step k₁ l₁) e f
    obtain ⟨rfl, rfl⟩ := hrr b hb
    obtain ⟨oC, hN, l₂⟩ := l₁.leaveK F.led.fr.above fun f hf => (F.led.outs f hf).2.1
    have l₃ : ({ d with kp := d.kp ++ (C, oC) :: [] }.cx m cs).led S os₁ σ' h₁ := by
      show Led S d.h₀ d.L m d.fs ((d.kp ++ (C, oC) :: []) ++ cs) os₁ σ' h₁
      refine l₂.kperm ?_
      have := (List.perm_append_comm (l₁ := cs) (l₂ := [(C, oC)])).append_left d.kp
      simpa using this
    have V₃ : VarsOK S ({ d with kp := d.kp ++ (C, oC) :: [] }.cx m cs) sc (adr os₁) loc := by
      have := vars_kp (kp' := d.kp ++ (C, oC) :: []) F
      exact this.mono k₁
    show wpAny _ d.A (assign (.Name nm px) d.env (.ref D)) _ _ _
    refine wpAny_assign_Name (store_var (d := { d with kp := d.kp ++ (C, oC) :: [] }) nd SO (K m cs).kind (K m cs).locs (s := { s with heap := h₁, toks := tk₁ }) ⟨V₃, F.cells, l₃⟩ hn hs hD fun m₅ cs₅ h₅ tk₅ F₅ => ?_)
    have L₅ : Led S d.h₀ d.L m₅ d.fs (d.kp ++ (C, oC) :: cs₅) os₁ σ' h₅ := by
      have this : Led S d.h₀ d.L m₅ d.fs ((d.kp ++ (C, oC) :: []) ++ cs₅) os₁ σ' h₅ := F₅.led
      simpa using this
    refine ⟨mC, hN.ns L₅.kmid.1, fun h₆ hs₆ => ?_⟩
    exact hQ m₅ cs₅ os₁ h₆ tk₅ k₁ ⟨vars_kp (d := { d with kp := d.kp ++ (C, oC) :: [] }) (kp' := d.kp) F₅, F₅.cells, L₅.extBut hs₆.extBut⟩
  rcases onX_inv ee with ⟨b, σ₁, e1, e2⟩ | ⟨k, e1, rfl, rfl⟩
  · cases e2
    refine wpAny_bind (wpAny_mono (fin _ e1 (fun b' hb => ?_) fun k hk => by cases hk) (fun _ s' hq => wpAny_pure (wpAny_pure hq)) fun _ _ z => z)
    cases hb; exact ⟨rfl, rfl⟩
  · exact wpAny_bind (wpAny_mono (fin _ e1 (fun b' hb => by cases hb) fun k' hk => by cases hk; exact ⟨rfl, rfl⟩) (fun _ s' hq => wpAny_pure (wpAny_pure hq)) fun _ _ z => z)
end

noncomputable def storable (sc : Scope) (nm : Str) : Bool := match sc.names.lookup nm with
  | some .local => true
  | some .cell => true
  | _ => false
/- parts of statements -/
noncomputable def tagS : Stmt → Nat
  | .FunctionDef .. => 0 | .AsyncFunctionDef .. => 1 | .ClassDef .. => 2 | .Return .. => 3 | .Delete .. => 4 | .Assign .. => 5 | .TypeAlias .. => 6 | .AugAssign .. => 7 | .AnnAssign .. => 8 | .For .. => 9 | .AsyncFor .. => 10 | .While .. => 11 | .If .. => 12 | .With .. => 13 | .AsyncWith .. => 14
  | .Match .. => 15 | .Raise .. => 16 | .Try .. => 17 | .TryStar .. => 18 | .Assert .. => 19 | .Import .. => 20 | .ImportFrom .. => 21 | .Global .. => 22 | .Nonlocal .. => 23 | .Expr .. => 24 | .Pass .. => 25 | .Break .. => 26 | .Continue .. => 27
set_option genInjectivity false in
structure Ps where
  x : Expr
  y : Expr
  ts : List Expr
  a : List Stmt
  b : List Stmt
  v : Option Expr
  pos : Pos
  w : Option Expr := none
  hs : List ExceptHandler := []
  f : List Stmt := []
noncomputable def noE : Expr := .Name "" noPos
noncomputable def ptS (t : Stmt) : Ps := match t with
  | .Return v p => ⟨noE, noE, [], [], [], v, p, none, [], []⟩
  | .Assign ts v p => ⟨v, v, ts, [], [], none, p, none, [], []⟩
  | .For g e a b p => ⟨g, e, [], a, b, none, p, none, [], []⟩
  | .While e a b p => ⟨e, e, [], a, b, none, p, none, [], []⟩
  | .If e a b p => ⟨e, e, [], a, b, none, p, none, [], []⟩
  | .Expr v p => ⟨v, v, [], [], [], none, p, none, [], []⟩
  | .Pass p => ⟨noE, noE, [], [], [], none, p, none, [], []⟩
  | .Raise v w p => ⟨noE, noE, [], [], [], v, p, w, [], []⟩
  | .Try a hs b f p => ⟨noE, noE, [], a, b, none, p, none, hs, f⟩
  | _ => ⟨noE, noE, [], [], [], none, noPos, none, [], []⟩
noncomputable def isTS (t : Stmt) (n : Nat) : Bool := decide (tagS t = n)
noncomputable def ckT (N : Nam) (sc : Scope) (t : Tg) (x : Expr) : Bool := match t with
  | .var i => isT x 23 && (nameIs N i (ptE x).nm && storable sc (ptE x).nm)
  | .attr o i => isT x 20 && (nameIs N i (ptE x).nm && ckE N sc o (ptE x).x)
  | .sub o i => isT x 21 && (ckE N sc o (ptE x).x && ckE N sc i (ptE x).y)
mutual
noncomputable def ckS (N : Nam) (sc : Scope) : St → Stmt → Bool
  | .expr e, t => isTS t 24 && (!isComp (ptS t).x && ckE N sc e (ptS t).x)
  | .asg g e, t => isTS t 5 && onO (one (ptS t).ts) fun x => ckT N sc g x && ckE N sc e (ptS t).x
  | .ite c a b, t => isTS t 12 && (ckE N sc c (ptS t).x && (ckSs N sc a (ptS t).a && ckSs N sc b (ptS t).b))
  | .whl c b, t => isTS t 11 && (nil? (ptS t).b && (ckE N sc c (ptS t).x && ckSs N sc b (ptS t).a))
  | .for tg tup e b, t => isTS t 9 && onO (one tg) fun i => isT (ptS t).x 23 && (!tup && (nil? (ptS t).b && (nameIs N i (ptE (ptS t).x).nm && (storable sc (ptE (ptS t).x).nm && (!isSet (ptS t).y && (ckE N sc e (ptS t).y && ckSs N sc b (ptS t).a))))))
  | .ret e, t => isTS t 3 && onO (ptS t).v fun v => ckE N sc e v
  | .ret0, t => isTS t 3 && (ptS t).v.isNone
  | .pass, t => isTS t 25
termination_by structural x => x
noncomputable def ckSs (N : Nam) (sc : Scope) : Sts → List Stmt → Bool
  | .any, _ => true
  | .nil, xs => nil? xs
  | .cons s ss, xs => match xs with
    | x :: xs => ckS N sc s x && ckSs N sc ss xs
    | [] => false
termination_by structural x => x
end

end Mine

set_option autoImplicit false
namespace Mine
open PySem PySem.W PySem.Calls PyProof.Rows
variable {S : Sig}

theorem store_ok {env : Env} {nm : Str} (h : storable env.scope nm = true) : StoreOK env.scope env nm := by
  unfold storable at h
  split at h
  · rename_i e; exact .inl e
  · rename_i e; exact .inr ⟨e, e⟩
  · cases h
theorem ctx_kp {n : Nat} {d : Dx} (K : ∀ m cs, CtxOK S n (d.cx m cs)) (kp' : List (Addr × Obj)) : ∀ m cs, CtxOK S n ({ d with kp := kp' }.cx m cs) := fun m cs =>
  let k := K m cs; ⟨k.hand, k.units, k.depth, k.kin, k.top, k.lim, k.kind, k.glob, k.blt, k.locs, k.frs⟩
theorem swap_pure {v : Expr} {nm : Str} {p : Pos} {line : Nat} {env : Env} : ∃ b, swapsWith v (some (.Name nm p)) line env = pure b ∧ (isComp v = false → b = false) := by
  cases v <;> exact ⟨_, rfl, fun h => by first | rfl | cases h⟩

section
variable {N : Nam} {sc : Scope}
noncomputable def rebS (n : Nat) (t : Stmt) : Stmt := match n with
  | 24 => .Expr (ptS t).x (ptS t).pos
  | 5 => .Assign (ptS t).ts (ptS t).x (ptS t).pos
  | 12 => .If (ptS t).x (ptS t).a (ptS t).b (ptS t).pos
  | 11 => .While (ptS t).x (ptS t).a (ptS t).b (ptS t).pos
  | 9 => .For (ptS t).x (ptS t).y (ptS t).a (ptS t).b (ptS t).pos
  | 3 => .Return (ptS t).v (ptS t).pos
  | 25 => .Pass (ptS t).pos
  | 16 => .Raise (ptS t).v (ptS t).w (ptS t).pos
  | 17 => .Try (ptS t).a (ptS t).hs (ptS t).b (ptS t).f (ptS t).pos
  | _ => t
theorem stm_all (t : Stmt) : t = rebS (tagS t) t := by cases t <;> rfl
theorem stm_of {t : Stmt} {n : Nat} (h : isTS t n = true) : t = rebS n t := by
  have h2 := stm_all t
  rw [dec_t h] at h2
  exact h2
theorem u_expr {t : Stmt} (h : isTS t 24 = true) : t = .Expr (ptS t).x (ptS t).pos := stm_of h
theorem u_asg {t : Stmt} (h : isTS t 5 = true) : t = .Assign (ptS t).ts (ptS t).x (ptS t).pos := stm_of h
theorem u_if {t : Stmt} (h : isTS t 12 = true) : t = .If (ptS t).x (ptS t).a (ptS t).b (ptS t).pos := stm_of h
theorem u_while {t : Stmt} (h : isTS t 11 = true) : t = .While (ptS t).x (ptS t).a (ptS t).b (ptS t).pos := stm_of h
theorem u_for {t : Stmt} (h : isTS t 9 = true) : t = .For (ptS t).x (ptS t).y (ptS t).a (ptS t).b (ptS t).pos := stm_of h
theorem u_ret {t : Stmt} (h : isTS t 3 = true) : t = .Return (ptS t).v (ptS t).pos := stm_of h
theorem u_pass {t : Stmt} (h : isTS t 25 = true) : t = .Pass (ptS t).pos := stm_of h
theorem cs_expr {e : Ex} {t : Stmt} (h : ckS N sc (.expr e) t = true) : ∃ v p, t = .Expr v p ∧ isComp v = false ∧ ckE N sc e v = true := by
  obtain ⟨h1, h2⟩ := and_t (show (_ && _) = true from h)
  obtain ⟨g1, g2⟩ := and_t h2
  exact ⟨_, _, u_expr h1, not_t g1, g2⟩
theorem cs_asg {tg : Tg} {e : Ex} {t : Stmt} (h : ckS N sc (.asg tg e) t = true) : ∃ x v p, t = .Assign [x] v p ∧ ckT N sc tg x = true ∧ ckE N sc e v = true := by
  obtain ⟨h1, h2⟩ := and_t (show (_ && _) = true from h)
  obtain ⟨x, h3, h2⟩ := onO_eq h2
  obtain ⟨g1, g2⟩ := and_t h2
  exact ⟨x, _, _, by rw [← one_eq h3] <;> exact u_asg h1, g1, g2⟩
theorem cs_ite {c : Ex} {a b : Sts} {t : Stmt} (h : ckS N sc (.ite c a b) t = true) : ∃ e x y p, t = .If e x y p ∧ ckE N sc c e = true ∧ ckSs N sc a x = true ∧ ckSs N sc b y = true := by
  obtain ⟨h1, h2⟩ := and_t (show (_ && _) = true from h)
  obtain ⟨g1, r1⟩ := and_t h2
  obtain ⟨g2, g3⟩ := and_t r1
  exact ⟨_, _, _, _, u_if h1, g1, g2, g3⟩
theorem cs_whl {c : Ex} {b : Sts} {t : Stmt} (h : ckS N sc (.whl c b) t = true) : ∃ e x p, t = .While e x [] p ∧ ckE N sc c e = true ∧ ckSs N sc b x = true := by
  obtain ⟨h1, h2⟩ := and_t (show (_ && _) = true from h)
  obtain ⟨g1, r1⟩ := and_t h2
  obtain ⟨g2, g3⟩ := and_t r1
  exact ⟨_, _, _, by rw [← nil_eq g1] <;> exact u_while h1, g2, g3⟩
theorem cs_for {tg : List Nat} {tup : Bool} {e : Ex} {b : Sts} {t : Stmt} (h : ckS N sc (.for tg tup e b) t = true) : ∃ i nm q it x p, tg = [i] ∧ tup = false ∧ t = .For (.Name nm q) it x [] p ∧ nameIs N i nm = true ∧ storable sc nm = true ∧ isSet it = false ∧ ckE N sc e it = true ∧ ckSs N sc b x = true := by
  obtain ⟨h1, h2⟩ := and_t (show (_ && _) = true from h)
  obtain ⟨i, h3, h2⟩ := onO_eq h2
  obtain ⟨g1, r1⟩ := and_t h2
  obtain ⟨g2, r2⟩ := and_t r1
  obtain ⟨g3, r3⟩ := and_t r2
  obtain ⟨g4, r4⟩ := and_t r3
  obtain ⟨g5, r5⟩ := and_t r4
  obtain ⟨g6, r6⟩ := and_t r5
  obtain ⟨g7, g8⟩ := and_t r6
  exact ⟨i, _, _, _, _, _, one_eq h3, not_t g2, by rw [← nil_eq g3, ← t_name g1] <;> exact u_for h1, g4, g5, not_t g6, g7, g8⟩
theorem cs_ret {e : Ex} {t : Stmt} (h : ckS N sc (.ret e) t = true) : ∃ v p, t = .Return (some v) p ∧ ckE N sc e v = true := by
  obtain ⟨h1, h2⟩ := and_t (show (_ && _) = true from h)
  obtain ⟨w, h3, h2⟩ := onO_eq h2
  exact ⟨w, _, by rw [← h3] <;> exact u_ret h1, h2⟩
theorem cs_ret0  {t : Stmt} (h : ckS N sc .ret0 t = true) : ∃ p, t = .Return none p := by
  obtain ⟨h1, h2⟩ := and_t (show (_ && _) = true from h)
  exact ⟨_, by rw [← Option.isNone_iff_eq_none.mp h2] <;> exact u_ret h1⟩
theorem ct_var {i : Nat} {t : Expr} (h : ckT N sc (.var i) t = true) : ∃ nm p, t = .Name nm p ∧ nameIs N i nm = true ∧ storable sc nm = true := by
  obtain ⟨h1, h2⟩ := and_t (show (_ && _) = true from h)
  obtain ⟨g1, g2⟩ := and_t h2
  exact ⟨_, _, t_name h1, g1, g2⟩
theorem ct_attr {o : Ex} {i : Nat} {t : Expr} (h : ckT N sc (.attr o i) t = true) : ∃ x nm p, t = .Attribute x nm p ∧ nameIs N i nm = true ∧ ckE N sc o x = true := by
  obtain ⟨h1, h2⟩ := and_t (show (_ && _) = true from h)
  obtain ⟨g1, g2⟩ := and_t h2
  exact ⟨_, _, _, t_attr h1, g1, g2⟩
theorem ct_sub {o i : Ex} {t : Expr} (h : ckT N sc (.sub o i) t = true) : ∃ x y p, t = .Subscript x y p ∧ ckE N sc o x = true ∧ ckE N sc i y = true := by
  obtain ⟨h1, h2⟩ := and_t (show (_ && _) = true from h)
  obtain ⟨g1, g2⟩ := and_t h2
  exact ⟨_, _, _, t_sub h1, g1, g2⟩
theorem cs_pass {t : Stmt} (h : ckS N sc .pass t = true) : ∃ p, t = .Pass p := ⟨_, u_pass h⟩
theorem comp_tag {v : Expr} (h : isComp v = true) : 8 ≤ tagE v ∧ tagE v ≤ 11 := by
  have h := and_t h
  exact ⟨Nat.le_of_ble_eq_true h.1, Nat.le_succ_of_le (Nat.le_of_ble_eq_true h.2)⟩
theorem comp_of {e : Ex} {v : Expr} (hc : isComp v = true) (h : ckE N sc e v = true) : ∃ elt tg tup it conds, e = .comp elt tg tup it conds := by
  have h1 := comp_tag hc
  rw [tag_of h] at h1
  cases e <;> first | exact ⟨_, _, _, _, _, rfl⟩ | exact absurd (show 8 ≤ 19 ∧ 19 ≤ 11 from h1) (by decide) | exact absurd (show 8 ≤ 23 ∧ 23 ≤ 11 from h1) (by decide) | exact absurd (show 8 ≤ 2 ∧ 2 ≤ 11 from h1) (by decide) | exact absurd (show 8 ≤ 3 ∧ 3 ≤ 11 from h1) (by decide) | exact absurd (show 8 ≤ 0 ∧ 0 ≤ 11 from h1) (by decide) | exact absurd (show 8 ≤ 15 ∧ 15 ≤ 11 from h1) (by decide) | exact absurd (show 8 ≤ 24 ∧ 24 ≤ 11 from h1) (by decide) | exact absurd (show 8 ≤ 25 ∧ 25 ≤ 11 from h1) (by decide) | exact absurd (show 8 ≤ 6 ∧ 6 ≤ 11 from h1) (by decide) | exact absurd (show 8 ≤ 20 ∧ 20 ≤ 11 from h1) (by decide) | exact absurd (show 8 ≤ 21 ∧ 21 ≤ 11 from h1) (by decide) | exact absurd (show 8 ≤ 16 ∧ 16 ≤ 11 from h1) (by decide)
end

mutual
theorem sx_st (OK : SigOK S) {C : Calls} {n : Nat} (HC : CallsOK S C n) (fuel : Nat) (x : St) {d : Dx} {t : Stmt} (K : ∀ m cs, CtxOK S (n + 2) (d.cx m cs)) (TF : ∃ outer, d.A.frames = some (d.env :: outer) ∧ d.env.frame = some d.L) (SO : ScOK d.env.scope d.env) (h : ckS S.nam d.env.scope x t = true) :
    SX S d d.env.scope (exec t d.env) (ex S.P C fuel x) := by
  match x, h with
  | .expr e, h =>
    obtain ⟨v, p, rfl, h1, h2⟩ := cs_expr h
    exact sx_expr (K (fun _ => none) []).kind h1 fun m cs ρ loc V => sm_ev OK HC e (K m cs) SO V h2
  | .asg (.var i) e, h =>
    obtain ⟨tx, v, pos, rfl, h1, h2⟩ := cs_asg h
    obtain ⟨nm, px, rfl, h3, h4⟩ := ct_var h1
    obtain ⟨b, hb, hb'⟩ := swap_pure (v := v) (nm := nm) (p := px) (line := pos.line) (env := d.env)
    cases b with
    | false => exact sx_asg_var OK.tab.nodup SO (K (fun _ => none) []).kind (K (fun _ => none) []).locs (T_eq h3) (store_ok h4) hb fun m cs ρ loc V => sm_ev OK HC e (K m cs) SO V h2
    | true =>
      have hc : isComp v = true := by
        cases q : isComp v with
        | true => rfl
        | false => exact (Bool.false_ne_true (hb' q).symm).elim
      have hcomp := comp_of hc h2
      obtain ⟨elt, tg, tup, it, conds, rfl⟩ := hcomp
      obtain ⟨l, tgt, ite, ifs, sc', p, rfl, g1, g2, g3, g4, g5, g6⟩ := ck_comp h2
      exact sx_asg_used OK.tab.nodup SO K (T_eq h3) (store_ok h4) hb g1 g2 g3 (fun m cs ρ loc V => sm_ev OK HC it (K m cs) SO V g4)
        (fun c' ρ' loc' K' SO' V' => sm_conds OK HC conds K' SO' V' g6) (fun c' ρ' loc' K' SO' V' => sm_ev OK HC elt K' SO' V' g5)
  | .asg (.attr o i) e, h =>
    obtain ⟨tx, v, pos, rfl, h1, h2⟩ := cs_asg h
    obtain ⟨y, nm, px, rfl, h3, h4⟩ := ct_attr h1
    exact sx_asg_attr OK.tab K (T_eq h3) (fun m cs ρ loc V => sm_ev OK HC e (K m cs) SO V h2) fun m cs ρ loc V => sm_ev OK HC o (K m cs) SO V h4
  | .asg (.sub o i) e, h =>
    obtain ⟨tx, v, pos, rfl, h1, h2⟩ := cs_asg h
    obtain ⟨y, z, px, rfl, h3, h4⟩ := ct_sub h1
    exact sx_asg_sub (fun m cs ρ loc V => sm_ev OK HC e (K m cs) SO V h2) (fun m cs ρ loc V => sm_ev OK HC o (K m cs) SO V h3) fun m cs ρ loc V => sm_ev OK HC i (K m cs) SO V h4
  | .ite c a b, h =>
    obtain ⟨e, y, z, p, rfl, h1, h2, h3⟩ := cs_ite h
    exact sx_if (fun m cs ρ loc V => sm_tst OK HC c (K m cs) SO V h1 (sm_ev OK HC c (K m cs) SO V h1)) (sx_sts OK HC fuel a K TF SO h2) (sx_sts OK HC fuel b K TF SO h3)
  | .whl c b, h =>
    obtain ⟨e, y, p, rfl, h1, h2⟩ := cs_whl h
    exact sx_while (fun m cs ρ loc V => sm_tst OK HC c (K m cs) SO V h1 (sm_ev OK HC c (K m cs) SO V h1)) (sx_sts OK HC fuel b K TF SO h2)
  | .for tg tup e b, h =>
    obtain ⟨i, nm, q, it, y, p, rfl, rfl, rfl, h1, h2, h3, h4, h5⟩ := cs_for h
    exact sx_for OK.tab.nodup SO (K (fun _ => none) []).kind (K (fun _ => none) []).locs (K (fun _ => none) []).hand (T_eq h1) (store_ok h2) h3 (fun m cs ρ loc V => sm_ev OK HC e (K m cs) SO V h4)
      fun kp' => sx_sts OK HC fuel b (d := { d with kp := kp' }) (ctx_kp K kp') TF SO h5
  | .ret e, h =>
    obtain ⟨v, p, rfl, h1⟩ := cs_ret h
    exact sx_ret fun m cs ρ loc V => sm_ev OK HC e (K m cs) SO V h1
  | .ret0, h =>
    obtain ⟨p, rfl⟩ := cs_ret0 h
    exact sx_ret0
  | .pass, h =>
    obtain ⟨p, rfl⟩ := cs_pass h
    exact sx_pass
termination_by structural x
theorem sx_sts (OK : SigOK S) {C : Calls} {n : Nat} (HC : CallsOK S C n) (fuel : Nat) (x : Sts) {d : Dx} {t : List Stmt} (K : ∀ m cs, CtxOK S (n + 2) (d.cx m cs)) (TF : ∃ outer, d.A.frames = some (d.env :: outer) ∧ d.env.frame = some d.L) (SO : ScOK d.env.scope d.env) (h : ckSs S.nam d.env.scope x t = true) :
    SX S d d.env.scope (execs t d.env) (exs S.P C fuel x) := by
  match x, t, h with
  | .any, _, _ => exact fun _ _ _ _ _ _ _ _ _ _ e => nomatch (show none = some _ from e)
  | .nil, [], h => exact sx_nil
  | .cons s ss, a :: as, h =>
    have h := and_t (show (_ && _) = true from h)
    exact sx_cons (sx_st OK HC fuel s K TF SO h.1) (sx_sts OK HC fuel ss K TF SO h.2)
  | .nil, _ :: _, h => exact nomatch (show false = true from h)
  | .cons _ _, [], h => exact nomatch (show false = true from h)
termination_by structural x
end
end Mine

set_option autoImplicit false
namespace Mine
open PySem PySem.W PySem.Calls PyProof.Rows
variable {S : Sig}

theorem cellsFrom_has {nm : Str} : ∀ (l : List (Str × NameKind)) (n : Nat) (acc : List (Str × Addr)), ((nm, NameKind.cell) ∈ l ∨ ∃ a, (nm, a) ∈ acc) → ∃ a, (nm, a) ∈ cellsFrom n l acc
  | [], n, acc, h => by
    rcases h with h | h
    · cases h
    · exact h
  | (x, k) :: r, n, acc, h => by
    unfold cellsFrom
    split
    · rename_i hk
      refine cellsFrom_has r (n + 1) _ ?_
      rcases h with h | ⟨a, h⟩
      · rcases List.mem_cons.mp h with h | h
        · cases h; exact .inr ⟨n, .head _⟩
        · exact .inl h
      · exact .inr ⟨a, .tail _ h⟩
    · rename_i hk
      refine cellsFrom_has r n acc ?_
      rcases h with h | h
      · rcases List.mem_cons.mp h with h | h
        · cases h; exact absurd rfl hk
        · exact .inl h
      · exact .inr h
theorem lookup_of_mem {α : Type} {nm : Str} : ∀ {l : List (Str × α)}, (∃ a, (nm, a) ∈ l) → ∃ a, l.lookup nm = some a
  | [], h => by obtain ⟨_, h⟩ := h; cases h
  | (x, b) :: r, h => by
    rw [List.lookup_cons]
    split
    · exact ⟨b, rfl⟩
    · rename_i hx
      refine lookup_of_mem ?_
      obtain ⟨a, h⟩ := h
      rcases List.mem_cons.mp h with h | h
      · cases h; simp at hx
      · exact ⟨a, h⟩
theorem lookup_nodup {α : Type} : ∀ {l : List (Str × α)} {n : Str} {a : α}, (l.map (·.1)).Nodup → (n, a) ∈ l → l.lookup n = some a
  | [], _, _, _, h => by cases h
  | (x, b) :: r, n, a, nd, h => by
    rw [List.map_cons, List.nodup_cons] at nd
    rw [List.lookup_cons]
    rcases List.mem_cons.mp h with h | h
    · cases h; simp
    · have : (n == x) = false := by
        refine beq_eq_false_iff_ne.mpr fun q => nd.1 ?_
        rw [← q]; exact List.mem_map.mpr ⟨(n, a), h, rfl⟩
      rw [this]; exact lookup_nodup nd.2 h

theorem scOK_fn {env : Env} {n : Nat} (hcells : env.cells = cellsFrom n env.scope.names []) (hfree : ∀ x ∈ env.scope.names, x.2 ≠ .free) : ScOK env.scope env := by
  refine ⟨fun nm h => h, fun nm h => h, fun nm h => ?_⟩
  unfold isCell at h
  split at h
  · rename_i e
    refine ⟨.inl e, ?_⟩
    rw [hcells]
    exact lookup_of_mem (cellsFrom_has _ _ _ (.inl (PySem.mem_of_lookup e)))
  · rename_i e; exact absurd rfl (hfree _ (PySem.mem_of_lookup e))
  · cases h

theorem loc_of {ps : List Nat} {xs : List V} {i : Nat} {v : V} : ∀ {l₀ : Loc}, (ps.zip xs).foldl (fun l p => l.upd p.1 p.2) l₀ i = some v → l₀ i = some v ∨ ∃ k : Nat, ps[k]? = some i ∧ xs[k]? = some v := by
  induction ps generalizing xs with
  | nil => intro l₀ h; exact .inl h
  | cons p ps ih =>
    intro l₀ h
    cases xs with
    | nil => exact .inl h
    | cons x xs =>
      simp only [List.zip_cons_cons, List.foldl_cons] at h
      rcases ih h with h | ⟨k, h1, h2⟩
      · by_cases hp : i = p
        · subst hp; rw [upd_eq] at h; exact .inr ⟨0, rfl, h⟩
        · rw [upd_ne hp] at h; exact .inl h
      · exact .inr ⟨k + 1, h1, h2⟩
theorem bindL_skip {kd : Str → Option NameKind} {nm : Str} : ∀ {bs : List (Str × Value)} {m : Str → Option Value}, (∀ p ∈ bs, p.1 ≠ nm) → bindL kd bs m nm = m nm
  | [], m, _ => rfl
  | (n, v) :: r, m, h => by
    unfold bindL
    rw [bindL_skip fun p hp => h p (.tail _ hp)]
    split
    · exact if_neg (Ne.symm (h _ (.head _)))
    · rfl
theorem bindC_skip {kd : Str → Option NameKind} {nm : Str} : ∀ {bs : List (Str × Value)} {m : Str → Option Value}, (∀ p ∈ bs, p.1 ≠ nm) → bindC kd bs m nm = m nm
  | [], m, _ => rfl
  | (n, v) :: r, m, h => by
    unfold bindC
    rw [bindC_skip fun p hp => h p (.tail _ hp)]
    split
    · rfl
    · exact if_neg (Ne.symm (h _ (.head _)))
theorem bindL_of {kd : Str → Option NameKind} {nm : Str} {x : Value} (hk : kd nm = some .local) : ∀ {bs : List (Str × Value)} {m : Str → Option Value}, (bs.map (·.1)).Nodup → (nm, x) ∈ bs → bindL kd bs m nm = some x
  | [], m, _, h => by cases h
  | (n, v) :: r, m, nd, h => by
    rw [List.map_cons, List.nodup_cons] at nd
    unfold bindL
    rcases List.mem_cons.mp h with h | h
    · cases h
      rw [bindL_skip fun p hp q => nd.1 (List.mem_map.mpr ⟨p, hp, q⟩), if_pos hk]
      simp
    · exact bindL_of hk nd.2 h
theorem bindC_of {kd : Str → Option NameKind} {nm : Str} {x : Value} (hk : kd nm = some .cell) : ∀ {bs : List (Str × Value)} {m : Str → Option Value}, (bs.map (·.1)).Nodup → (nm, x) ∈ bs → bindC kd bs m nm = some x
  | [], m, _, h => by cases h
  | (n, v) :: r, m, nd, h => by
    rw [List.map_cons, List.nodup_cons] at nd
    unfold bindC
    rcases List.mem_cons.mp h with h | h
    · cases h
      rw [bindC_skip fun p hp q => nd.1 (List.mem_map.mpr ⟨p, hp, q⟩), if_neg (by rw [hk]; simp)]
      simp
    · exact bindC_of hk nd.2 h

theorem cells_are {h : Heap} : ∀ (l : List (Str × Addr)), (∀ p ∈ l, ∃ o v, h.get? p.2 = some o ∧ o.data = .cell v) → ∃ cs : List (Addr × Obj), All2 (fun (p : Str × Addr) (q : Addr × Obj) => p.2 = q.1 ∧ ∃ v, q.2.data = .cell v) l cs ∧ ∀ q ∈ cs, h.get? q.1 = some q.2 ∧ ∃ p ∈ l, p.2 = q.1
  | [], _ => ⟨[], .nil, fun q hq => nomatch hq⟩
  | p :: r, hl => by
    obtain ⟨cs, h1, h2⟩ := cells_are r fun q hq => hl q (.tail _ hq)
    obtain ⟨o, v, ho, hv⟩ := hl p (.head _)
    refine ⟨(p.2, o) :: cs, .cons ⟨rfl, v, hv⟩ h1, fun q hq => ?_⟩
    rcases List.mem_cons.mp hq with rfl | hq
    · exact ⟨ho, p, .head _, rfl⟩
    · obtain ⟨g1, p', g2, g3⟩ := h2 q hq
      exact ⟨g1, p', .tail _ g2, g3⟩
theorem Led.kadds {h₀ h : Heap} {L : Addr} {m : Str → Option Value} {fs : Fs} {os : List (Addr × Obj)} {σ : H} : ∀ {cs kp : List (Addr × Obj)}, Led S h₀ L m fs kp os σ h → (adr cs).Nodup → (∀ q ∈ cs, h.get? q.1 = some q.2 ∧ q.1 ≠ L ∧ h₀.get? q.1 = none ∧ q.1 ∉ adr (kp ++ os) ∧ (∀ f ∈ fs, f.1 ≠ q.1) ∧ mainGlobals < q.1) →
    Led S h₀ L m fs (kp ++ cs) os σ h
  | [], kp, l, _, _ => by simpa using l
  | q :: cs, kp, l, nd, hq => by
    obtain ⟨a, x⟩ := q
    obtain ⟨g1, g2, g3, g4, g5, g6⟩ := hq _ (.head _)
    have l' := l.kadd g1 g2 g3 g4 g5 g6
    simp only [adr, List.map_cons, List.nodup_cons] at nd
    have := Led.kadds (cs := cs) l' nd.2 fun q' hq' => by
      obtain ⟨e1, e2, e3, e4, e5, e6⟩ := hq q' (.tail _ hq')
      refine ⟨e1, e2, e3, fun hm => ?_, e5, e6⟩
      obtain ⟨p, hp, e⟩ := List.mem_map.mp hm
      rcases mid_mem hp with rfl | hp
      · exact nd.1 (List.mem_map.mpr ⟨q', hq', e.symm⟩)
      · rw [List.append_nil] at hp
        exact e4 (e ▸ List.mem_map_of_mem hp)
    simpa using this
theorem Led.kdrops {h₀ h : Heap} {L : Addr} {m : Str → Option Value} {fs : Fs} {os : List (Addr × Obj)} {σ : H} : ∀ {cs kp : List (Addr × Obj)}, Led S h₀ L m fs (kp ++ cs) os σ h → Led S h₀ L m fs kp os σ h
  | [], kp, l => by simpa using l
  | (a, x) :: cs, kp, l => Led.kdrops (cs := cs) l.kdrop

theorem cells_adr {l : List (Str × Addr)} {cs : List (Addr × Obj)} (h : All2 (fun (p : Str × Addr) (q : Addr × Obj) => p.2 = q.1 ∧ ∃ v, q.2.data = .cell v) l cs) : l.map (·.2) = adr cs := by
  induction h with
  | nil => rfl
  | cons h1 _ ih => simp only [List.map_cons, adr, h1.1]; rw [ih]

structure FnOK (S : Sig) (A : Addr) (fd : FD) (fo : Obj) (name qual : Str) (params : Arguments) (body : List Stmt) (scope : Scope) (dV kV doc pm : Value) (an : Option Addr) (cdv ct : Value) (names : List Str) : Prop where
  look : S.K.lookup A = some fo
  data : fo.data = .func (fnX name qual params body scope [] dV kV doc pm an cdv ct)
  code : codeIn S.K cdv qual = true
  co : scope.isCoroutine = false
  gen : scope.isGenerator = false
  kind : scope.kind = .function
  bind : ∀ vs : List Value, vs.length = names.length → bindArgs (fnX name qual params body scope [] dV kV doc pm an cdv ct) ⟨vs, []⟩ = pure (names.zip vs)
  pars : All2 (fun i nm => S.T[i]? = some nm) fd.params names
  nd : names.Nodup
  stor : ∀ nm ∈ names, storable scope nm = true
  cells : ((cellsFrom 0 scope.names []).map (·.1)).Nodup
  free : ∀ x ∈ scope.names, x.2 ≠ .free
  ck : ckSs S.nam scope fd.body body = true

theorem zip_map_fst {names : List Str} : ∀ {vs : List Value}, vs.length = names.length → (names.zip vs).map (·.1) = names := by
  induction names with
  | nil => intro vs _; simp
  | cons n r ih =>
    intro vs h
    cases vs with
    | nil => simp at h
    | cons v vs => simp only [List.zip_cons_cons, List.map_cons]; rw [ih (by simpa using h)]

theorem body_ok (OK : SigOK S) {C : Calls} {n : Nat} (HC : CallsOK S C n) (fuel : Nat) {A : Addr} {fd : FD} {fo : Obj} {name qual : Str} {params : Arguments} {body : List Stmt} {scope : Scope} {dV kV doc pm : Value} {an : Option Addr} {cdv ct : Value} {names : List Str}
    (O : FnOK S A fd fo name qual params body scope dV kV doc pm an cdv ct names) {Ar : Around} {h₀ : Heap} {L : Addr} {fs : Fs} {kp os : List (Addr × Obj)} {σ σ' : H} {s : Shared} {xs : List V} {vs : List Value} {r : R (Option V)} {loc' : Loc}
    (K : ∀ m cs, CtxOK S (n + 2) ⟨Ar, envOfC qual scope L A cdv, h₀, L, m, fs, kp ++ cs⟩) (TF : ∃ outer, Ar.frames = some (envOfC qual scope L A cdv :: outer)) (hlen : xs.length = fd.params.length) (hvs : All2 (VR (adr os)) xs vs)
    (l : Led S h₀ L (bindL (envOfC qual scope L A cdv).kindOf (names.zip vs) fun _ => none) fs kp os σ s.heap)
    (hcell : ∀ nm a, (envOfC qual scope L A cdv).cells.lookup nm = some a → s.heap.IsCell a (bindC (envOfC qual scope L A cdv).kindOf (names.zip vs) (fun _ => none) nm))
    (apart : (envOfC qual scope L A cdv).cells.Pairwise fun x y => x.2 ≠ y.2) (hnew : ∀ nm a, (nm, a) ∈ (envOfC qual scope L A cdv).cells → L < a ∧ (∀ p ∈ kp ++ os, p.1 < a) ∧ ∀ f ∈ fs, f.1 < a)
    (he : exs S.P C fuel fd.body ((fd.params.zip xs).foldl (fun l p => l.upd p.1 p.2) fun _ => none) σ = some (r, loc', σ')) {Q : Flow → Shared → Prop} {E : Value → Shared → Prop}
    (hQ : ∀ (m' : Str → Option Value) (os' : List (Addr × Obj)) (h' : Heap) (tk : Nat), adr os <+: adr os' → Led S h₀ L m' fs kp os' σ' h' → ∀ o, r = .ok o → ∀ f, (match o with | none => f = Flow.next | some v => ∃ a, f = .ret a ∧ VR (adr os') v a) → Q f { s with heap := h', toks := tk })
    (hE : ∀ (m' : Str → Option Value) (cs' os' : List (Addr × Obj)) (h' : Heap) (tk : Nat), adr os <+: adr os' → Led S h₀ L m' fs kp os' σ' h' → ∀ k, r = .err k → ∀ e, Fly S ⟨Ar, envOfC qual scope L A cdv, h₀, L, m', fs, kp ++ cs'⟩ os' e k h' → E e { s with heap := h', toks := tk }) :
    wpAny (model S.prog S.w) Ar (execs body (envOfC qual scope L A cdv)) Q E s := by
  have hcn : ((envOfC qual scope L A cdv).cells.map (·.1)).Nodup := cellsFrom_names scope.names 0 (L + 1) [] [] rfl ▸ O.cells
  obtain ⟨cs, ca, cb⟩ := cells_are (h := s.heap) (envOfC qual scope L A cdv).cells fun p hp => by
    obtain ⟨o, ho, hd⟩ := hcell p.1 p.2 (lookup_nodup hcn hp)
    exact ⟨o, _, ho, hd⟩
  have hl2 := hvs.length
  have hl1 := O.pars.length
  have hvl : vs.length = names.length := by lia
  have nda : (adr cs).Nodup := by
    have e : (envOfC qual scope L A cdv).cells.map (·.2) = adr cs := cells_adr ca
    rw [← e]
    exact List.pairwise_map.mpr apart
  have top := l.room
  have Lc : Led S h₀ L (bindL (envOfC qual scope L A cdv).kindOf (names.zip vs) fun _ => none) fs (kp ++ cs) os σ s.heap := by
    refine l.kadds nda fun q hq => ?_
    obtain ⟨g1, ⟨pn, pa⟩, g2, g3⟩ := cb q hq
    dsimp only at g3
    subst g3
    obtain ⟨n1, n2, n3⟩ := hnew pn q.1 g2
    refine ⟨g1, Nat.ne_of_gt n1, ?_, fun hm => ?_, fun f hf => Nat.ne_of_lt (n3 f hf), ?_⟩
    · cases e : h₀.get? q.1 with
      | none => rfl
      | some o => exact absurd (Heap.lt_size e) (Nat.not_lt.mpr (Nat.le_trans l.fr.above (Nat.le_of_lt n1)))
    · obtain ⟨p, hp, e⟩ := List.mem_map.mp hm
      exact absurd e (Nat.ne_of_lt (n2 p hp))
    · obtain ⟨o, ho⟩ := l.top
      exact Nat.lt_trans (Nat.lt_of_lt_of_le (Heap.lt_size ho) l.fr.above) n1
  let d : Dx := ⟨Ar, envOfC qual scope L A cdv, h₀, L, fs, kp⟩
  have CO : CellsOK d.env cs := ⟨ca, hcn⟩
  have SO : ScOK d.env.scope d.env := scOK_fn rfl O.free
  have Vs : VarsOK S (d.cx (bindL (envOfC qual scope L A cdv).kindOf (names.zip vs) fun _ => none) cs) d.env.scope (adr os) ((fd.params.zip xs).foldl (fun l p => l.upd p.1 p.2) fun _ => none) := by
    intro i v nm h1 h2 h3
    rcases loc_of h1 with h | ⟨k, k1, k2⟩
    · cases h
    · obtain ⟨nm', k3, k4⟩ := O.pars.get k1
      rw [h2] at k4; cases k4
      obtain ⟨x, k5, k6⟩ := hvs.get k2
      have hmem : (nm, x) ∈ names.zip vs := by
        refine List.mem_of_getElem? (i := k) ?_
        rw [List.getElem?_zip_eq_some]; exact ⟨k3, k5⟩
      have hnz : ((names.zip vs).map (·.1)).Nodup := by rw [zip_map_fst hvl]; exact O.nd
      have hst := O.stor nm (List.mem_of_getElem? k3)
      unfold storable at hst
      split at hst
      · rename_i e
        exact ⟨x, .inl ⟨e, bindL_of e hnz hmem⟩, k6⟩
      · rename_i e
        obtain ⟨a, ha⟩ := (SO.cell nm (by unfold isCell; rw [show d.env.scope.names.lookup nm = some .cell from e])).2
        obtain ⟨o, ho, hd⟩ := hcell nm a ha
        obtain ⟨p, o', v', p1, p2, p3⟩ := CO.at ha
        have hoo : o = o' := by
          have := (cb _ (List.mem_of_getElem? p2)).1
          dsimp only at this
          rw [ho] at this; cases this; rfl
        subst hoo
        refine ⟨x, .inr ⟨.inl e, a, o, ha, List.mem_append_right _ (List.mem_of_getElem? p2), ?_⟩, k6⟩
        rw [hd, bindC_of e hnz hmem]
      · cases hst
  refine sx_sts OK HC fuel fd.body (d := d) K (let ⟨o, h⟩ := TF; ⟨o, h, rfl⟩) SO O.ck _ _ cs os σ s r loc' σ' ⟨Vs, CO, Lc⟩ he Q E fun m' cs' os' h' tk k F => ?_
  cases r with
  | err q => exact fun e f => hE m' cs' os' h' tk k (Led.kdrops (cs := cs') F.led) q rfl e f
  | ok o =>
    have fin := fun f hf => hQ m' os' h' tk k (Led.kdrops (cs := cs') F.led) o rfl f hf
    cases o with
    | none => exact fin .next rfl
    | some v => exact fun a ha => fin (.ret a) ⟨a, rfl, ha⟩

noncomputable def FnAll (S : Sig) : Prop :=
  (∀ f A, S.fn f = some A → ∃ fd, S.P.funs.lookup f = some fd ∧ ∃ fo name qual params body scope dV kV doc pm an cdv ct names, FnOK S A fd fo name qual params body scope dV kV doc pm an cdv ct names) ∧
  (∀ f A, S.me f = some A → ∃ fd, S.P.meths.lookup f = some fd ∧ ∃ fo name qual params body scope dV kV doc pm an cdv ct names, FnOK S A fd fo name qual params body scope dV kV doc pm an cdv ct names)

theorem call_ok (OK : SigOK S) {C : Calls} {n : Nat} (HC : CallsOK S C n) (fuel : Nat) {A : Addr} {fd : FD} {fo : Obj} {name qual : Str} {params : Arguments} {body : List Stmt} {scope : Scope} {dV kV doc pm : Value} {an : Option Addr} {cdv ct : Value} {names : List Str}
    (O : FnOK S A fd fo name qual params body scope dV kV doc pm an cdv ct names) {c : Cx} {ρ : List Addr} (K : CtxOK S (n + 5) c) {xs : List V} {vs : List Value} (hvs : All2 (VR ρ) xs vs) :
    SC S c ρ (.ref A) vs (fun h => if xs.length = fd.params.length then
        match exs S.P C fuel fd.body ((fd.params.zip xs).foldl (fun l p => l.upd p.1 p.2) (fun _ => none)) h with
        | none => none
        | some (.err c, _, h₁) => some (.err c, h₁)
        | some (.ok r, _, h₁) => some (.ok (r.getD .none), h₁)
      else none) := by
  intro os σ s r σ' hp hl hx R hR
  dsimp only at hx
  split at hx
  · rename_i hlen
    have hl1 := O.pars.length
    have hl2 := hvs.length
    have hvl : vs.length = names.length := by lia
    cases hb : exs S.P C fuel fd.body ((fd.params.zip xs).foldl (fun l p => l.upd p.1 p.2) (fun _ => none)) σ with
    | none => rw [hb] at hx; cases hx
    | some p =>
      obtain ⟨rr, loc', σ₁⟩ := p
      rw [hb] at hx
      have KX := K.kin.keeps hl.fr.keep
      refine codeAny_call_function (by have := K.depth; lia) (KX _ _ O.look) O.data O.co O.gen rfl (codeRec_of KX O.code) (BindsTo.of_eq (s := s) (O.bind vs hvl) _ _ _ _ ?_)
      refine wpAny_newFunctionEnv_cells O.kind (fun x hx => ?_) fun env' he s' x => ?_
      · have hm : x.1 ∈ names := by rw [← zip_map_fst hvl]; exact List.mem_map_of_mem hx
        have hst := O.stor x.1 hm
        unfold storable at hst
        split at hst
        · rename_i e; exact .inl e
        · rename_i e
          refine .inr ⟨e, ?_⟩
          obtain ⟨a, ha⟩ := lookup_of_mem (cellsFrom_has scope.names (s.heap.objs.size + 1) [] (.inl (PySem.mem_of_lookup e)))
          rw [ha]; rfl
        · cases hst
      · have he' : env' = envOfC qual scope s.heap.objs.size A cdv := he
        subst he'
        refine ⟨(K.lim.keeps hl.fr.keep).keeps x.toInCall.keep, codeAny_func ?_⟩
        obtain ⟨h₁, tk, rfl, hk₁⟩ := x.done
        have lE : Led S c.h₀ s.heap.objs.size (bindL (envOfC qual scope s.heap.objs.size A cdv).kindOf (names.zip vs) fun _ => none) ((c.L, c.m) :: c.fs) c.kp os σ h₁ := hl.enter x.toInCall.ns hk₁ (get_size _) (Nat.le_refl _)
        refine body_ok OK HC fuel O (s := { s with heap := h₁, toks := tk }) (Ar := c.A.deeper (envOfC qual scope s.heap.objs.size A cdv)) (fun m cs => ?_) (let ⟨l, h, _⟩ := K.frs; ⟨l, Around.frames_deeper h⟩) hlen (VRs.mono hp hvs) lE x.cell x.apart (fun nm a hm => ?_) hb (fun m' os' h' tk' k l' o ho f hf => ?_) fun m' cs' os' h' tk' k l' q hq e f => ?_
        · refine ⟨K.hand, ?_, ?_, K.kin, K.top, K.lim, O.kind, rfl, rfl, rfl, ?_⟩
          · have := K.units; show c.A.units + 3 + _ + _ < _; lia
          · have := K.depth; show c.A.depth + 1 + _ < _; lia
          · obtain ⟨l, g1, g2⟩ := K.frs
            refine ⟨_, Around.frames_deeper g1, fun e he => ?_⟩
            rcases List.mem_cons.mp he with rfl | he
            · exact ⟨by rw [show (envOfC qual scope s.heap.objs.size A cdv).scope.kind = .function from O.kind]; exact nofun, _, rfl, .head _⟩
            · obtain ⟨g3, b, g4, g5⟩ := g2 e he
              exact ⟨g3, b, g4, .tail _ g5⟩
        · have hlt : s.heap.objs.size < a := x.above nm a hm
          refine ⟨hlt, fun p hp' => Nat.lt_trans (Heap.lt_size (hl.news p hp').1) hlt, fun f hf => ?_⟩
          rcases List.mem_cons.mp hf with rfl | hf
          · obtain ⟨oL, _, _, hL, _⟩ := hl.fr.ns
            exact Nat.lt_trans (Heap.lt_size hL) hlt
          · obtain ⟨oL, _, _, hL, _⟩ := (hl.outs f hf).1
            exact Nat.lt_trans (Heap.lt_size hL) hlt
        · subst ho
          cases hx
          have lB := l'.leave hl.fr.above (fun f hf => (hl.outs f hf).2.1) (h' := h') fun b o _ e => e
          cases o with
          | none => subst hf; exact hR os' h' tk' .none k lB rfl
          | some v => obtain ⟨a, rfl, ha⟩ := hf; exact hR os' h' tk' a k lB ha
        · subst hq
          cases hx
          exact f.elim
  · cases hx

theorem run_ok (OK : SigOK S) (hA : FnAll S) (fuel : Nat) : ∀ d, CallsOK S (run S.P fuel d) (5 * d)
  | 0 => ⟨fun _ _ _ => (fun os σ s r σ' _ _ hx => by cases hx), fun _ _ _ => (fun os σ s r σ' _ _ hx => by cases hx)⟩
  | d + 1 => by
    have ih := run_ok OK hA fuel d
    refine ⟨fun {c ρ f A xs vs} K hf hvs => ?_, fun {c ρ f A xs vs} K hf hvs => ?_⟩
    · obtain ⟨fd, hfd, fo, name, qual, params, body, scope, dV, kV, doc, pm, an, cdv, ct, names, O⟩ := hA.1 f A hf
      have := call_ok OK ih fuel O (c := c) K hvs
      intro os σ s r σ' hp hl hx
      refine this os σ s r σ' hp hl ?_
      rw [← hx]
      have e : run S.P fuel (d + 1) false f xs σ = (match S.P.funs.lookup f with
        | none => none
        | some fd => if xs.length = fd.params.length then
            match exs S.P (run S.P fuel d) fuel fd.body ((fd.params.zip xs).foldl (fun l p => l.upd p.1 p.2) (fun _ => none)) σ with
            | none => none
            | some (.err c, _, h₁) => some (.err c, h₁)
            | some (.ok r, _, h₁) => some (.ok (r.getD .none), h₁)
          else none) := rfl
      rw [e, hfd]
    · obtain ⟨fd, hfd, fo, name, qual, params, body, scope, dV, kV, doc, pm, an, cdv, ct, names, O⟩ := hA.2 f A hf
      have := call_ok OK ih fuel O (c := c) K hvs
      intro os σ s r σ' hp hl hx
      refine this os σ s r σ' hp hl ?_
      rw [← hx]
      have e : run S.P fuel (d + 1) true f xs σ = (match S.P.meths.lookup f with
        | none => none
        | some fd => if xs.length = fd.params.length then
            match exs S.P (run S.P fuel d) fuel fd.body ((fd.params.zip xs).foldl (fun l p => l.upd p.1 p.2) (fun _ => none)) σ with
            | none => none
            | some (.err c, _, h₁) => some (.err c, h₁)
            | some (.ok r, _, h₁) => some (.ok (r.getD .none), h₁)
          else none) := rfl
      rw [e, hfd]
end Mine

set_option autoImplicit false
namespace Mine
open PySem PySem.W PySem.Calls PyProof.Rows

theorem lookup_zip {names : List Str} : ∀ {vs : List Value} {k : Nat} {nm : Str} {v : Value}, names.Nodup → names[k]? = some nm → vs[k]? = some v → (names.zip vs).lookup nm = some v := by
  induction names with
  | nil => intro vs k nm v _ h; simp at h
  | cons n r ih =>
    intro vs k nm v nd h1 h2
    rw [List.nodup_cons] at nd
    cases vs with
    | nil => simp at h2
    | cons x xs =>
      cases k with
      | zero => simp at h1 h2; subst h1 h2; simp
      | succ k =>
        simp only [List.getElem?_cons_succ] at h1 h2
        have : (nm == n) = false := beq_eq_false_iff_ne.mpr fun q => nd.1 (q ▸ List.mem_of_getElem? h1)
        simp only [List.zip_cons_cons, List.lookup_cons, this]
        exact ih nd.2 h1 h2
theorem filterMap_zip {names : List Str} : ∀ {vs : List Value} {f : Str → Option Value}, vs.length = names.length → (∀ (k : Nat) nm v, names[k]? = some nm → vs[k]? = some v → f nm = some v) → names.filterMap (fun n => (f n).map (n, ·)) = names.zip vs := by
  induction names with
  | nil => intro vs f _ _; simp
  | cons n r ih =>
    intro vs f h1 h2
    cases vs with
    | nil => simp at h1
    | cons x xs =>
      have e := h2 0 n x rfl rfl
      rw [List.filterMap_cons, e]
      simp only [Option.map_some, List.zip_cons_cons]
      rw [ih (by simpa using h1) fun k nm v a b => h2 (k + 1) nm v a b]
theorem bind_plain {fd : FuncData} {vs : List Value} (h1 : fd.params.posonlyargs = []) (h2 : fd.params.kwonlyargs = []) (h3 : fd.params.vararg = none) (h4 : fd.params.kwarg = none) (h5 : fd.defaults = .none)
    (nd : (fd.params.args.map (·.arg)).Nodup) (hl : vs.length = (fd.params.args.map (·.arg)).length) : bindArgs fd ⟨vs, []⟩ = pure ((fd.params.args.map (·.arg)).zip vs) := by
  have look : ∀ k nm v, (fd.params.args.map (·.arg))[k]? = some nm → vs[k]? = some v → ((fd.params.args.map (·.arg)).zip vs).lookup nm = some v := fun k nm v a b => lookup_zip nd a b
  have mis : ((fd.params.args.map (·.arg)).take (fd.params.args.map (·.arg)).length).filter (fun n => (((fd.params.args.map (·.arg)).zip vs).lookup n).isNone) = [] := by
    rw [List.filter_eq_nil_iff]
    intro nm hm
    rw [List.take_length] at hm
    obtain ⟨k, hk⟩ := List.getElem?_of_mem hm
    have hk' := (List.getElem?_eq_some_iff.mp hk).1
    rw [← hl] at hk'
    rw [look k nm vs[k] hk (List.getElem?_eq_getElem hk')]
    simp
  have fm := filterMap_zip (f := fun n => ((fd.params.args.map (·.arg)).zip vs).lookup n) hl look
  unfold bindArgs
  simp only [h1, h2, h3, h4, h5, List.map_nil, List.nil_append, List.append_nil, List.forIn_nil, pure_bind]
  have hs : seqItems? Value.none = pure none := rfl
  have hd : decide (vs.length > (fd.params.args.map (·.arg)).length) = false := by simp [hl]
  have e0 : (Option.getD (none : Option (Array Value)) #[]).toList = [] := rfl
  simp only [hs, pure_bind, e0, hd, Bool.false_and, Bool.false_eq_true, if_false, List.drop_nil, List.length_nil, Nat.sub_zero, mis, List.isEmpty_nil, Bool.not_true, List.zip_nil_right, List.forIn_nil, List.nil_append, List.append_nil]
  rw [fm]

noncomputable def vIs : V → Value → Bool
  | .none, .none => true
  | .bool b, .bool b' => b == b'
  | .int i, .int j _ => decide (i = j)
  | .str s, .str s' _ => decide (s = s') && okS s
  | _, _ => false
theorem vIs_vr {v : V} {x : Value} (h : vIs v x = true) (ρ : List Addr) : VR ρ v x := by
  cases v with
  | none => cases x <;> first | rfl | exact (Bool.false_ne_true h).elim
  | bool b => cases x <;> first | exact (Bool.false_ne_true h).elim | (have := beq_iff_eq.mp h; subst this; rfl)
  | int i => cases x <;> first | exact (Bool.false_ne_true h).elim | (have := of_decide_eq_true h; subst this; exact ⟨_, rfl⟩)
  | str s =>
    cases x with
    | str s' o =>
      have h : (decide (s = s') && okS s) = true := h
      simp only [Bool.and_eq_true, decide_eq_true_eq] at h
      obtain ⟨rfl, h2⟩ := h; exact ⟨_, rfl, h2⟩
    | _ => exact (Bool.false_ne_true h).elim
  | _ => exact (Bool.false_ne_true h).elim
noncomputable def isRef (x : Option (Option Value)) (A : Addr) : Bool := decide (x = some (some (.ref A)))
theorem isRef_eq {x : Option (Option Value)} {A : Addr} (h : isRef x A = true) : x = some (some (.ref A)) := of_decide_eq_true h
noncomputable def isNo {α : Type} (x : Option (Option α)) : Bool := match x with
  | some none => true
  | some (some _) => false
  | none => false
theorem isNo_eq {α : Type} {x : Option (Option α)} (h : isNo x = true) : x = some none := by
  rcases x with _ | _ | _
  · exact (Bool.false_ne_true h).elim
  · rfl
  · exact (Bool.false_ne_true h).elim
noncomputable def isBi (x : Option (Option Value)) (id : String) : Bool := decide (x = some (some (.builtin id)))
theorem isBi_eq {x : Option (Option Value)} {id : String} (h : isBi x id = true) : x = some (some (.builtin id)) := of_decide_eq_true h
noncomputable def isTy (x : Option Value) (id : String) : Bool := decide (x = some (.type id))
theorem isTy_eq {x : Option Value} {id : String} (h : isTy x id = true) : x = some (.type id) := of_decide_eq_true h
noncomputable def ckAttr (K : Frag) (C : Addr) (nm : Str) : Bool :=
  plainGet K C nm && hasDictIn K C && isNo (findIn K (.ref C) nm) && isBi (findIn K (.ref C) "__setattr__") "object.__setattr__" && plainOver K C && isNo (takerIn K C nm)
theorem attr_ok {S : Sig} {C : Addr} {nm : Str} (h : ckAttr S.K C nm = true) : AttrOK S C nm := by
  have ⟨h, h6⟩ := and_t h
  have ⟨h, h5⟩ := and_t h
  have ⟨h, h4⟩ := and_t h
  have ⟨h, h3⟩ := and_t h
  have ⟨h1, h2⟩ := and_t h
  exact ⟨h1, h2, isNo_eq h3, isBi_eq h4, h5, isNo_eq h6⟩

noncomputable def ckFn (N : Nam) (K : Frag) (A : Addr) (fd : FD) : Bool := match K.lookup A with
  | some ⟨_, _, .func ⟨_, qual, ⟨[], args, none, [], _, none, _⟩, .stmts body, scope, gl, [], .none, _, _, _, _, cdv, _, bl⟩, _⟩ =>
    decide (gl = mainGlobals) && decide (bl = builtinsNs) && codeIn K cdv qual && !scope.isCoroutine && !scope.isGenerator && decide (scope.kind = .function) && decide (fd.params.map (fun i => N.T[i]?) = (args.map (·.arg)).map some) &&
    decide (args.map (·.arg)).Nodup && (args.map (·.arg)).all (storable scope) && decide ((cellsFrom 0 scope.names []).map (·.1)).Nodup && scope.names.all (fun x => decide (x.2 ≠ .free)) && ckSs N scope fd.body body
  | _ => false
theorem all2_map {T : List Str} : ∀ {ps : List Nat} {ns : List Str}, ps.map (fun i => T[i]?) = ns.map some → All2 (fun i nm => T[i]? = some nm) ps ns
  | [], [], _ => .nil
  | [], _ :: _, h => by simp at h
  | _ :: _, [], h => by simp at h
  | p :: ps, n :: ns, h => by
    simp only [List.map_cons, List.cons.injEq] at h
    exact .cons h.1 (all2_map h.2)
theorem fn_ok {S : Sig} {A : Addr} {fd : FD} (h : ckFn S.nam S.K A fd = true) : ∃ fo name qual params body scope dV kV doc pm an cdv ct names, FnOK S A fd fo name qual params body scope dV kV doc pm an cdv ct names := by
  unfold ckFn at h
  cases hk : S.K.lookup A with
  | none => rw [hk] at h; exact (Bool.false_ne_true h).elim
  | some o =>
    rw [hk] at h
    obtain ⟨cl, dt, data, sl⟩ := o
    cases data with
    | func f =>
      obtain ⟨name, qual, params, body, scope, gl, dfl, clo, kV, doc, pm, an, cdv, ct, bl⟩ := f
      obtain ⟨po, args, va, ko, kwd, kw, df⟩ := params
      cases po with
      | cons => exact (Bool.false_ne_true h).elim
      | nil =>
      cases va with
      | some => exact (Bool.false_ne_true h).elim
      | none =>
      cases ko with
      | cons => exact (Bool.false_ne_true h).elim
      | nil =>
      cases kw with
      | some => exact (Bool.false_ne_true h).elim
      | none =>
      cases body with
      | stmts body =>
        cases dfl with
        | cons => exact (Bool.false_ne_true h).elim
        | nil =>
        cases clo with
        | none =>
          dsimp only at h
          simp only [Bool.and_eq_true, decide_eq_true_eq, Bool.not_eq_true', List.all_eq_true] at h
          obtain ⟨⟨⟨⟨⟨⟨⟨⟨⟨⟨⟨h1, h2⟩, h3⟩, h4⟩, h5⟩, h6⟩, h7⟩, h8⟩, h9⟩, h10⟩, h11⟩, h12⟩ := h
          subst h1 h2
          refine ⟨_, name, qual, ⟨[], args, none, [], kwd, none, df⟩, body, scope, .none, kV, doc, pm, an, cdv, ct, args.map (·.arg), ⟨hk, rfl, h3, h4, h5, h6, fun vs hl => ?_, all2_map (ns := args.map (·.arg)) h7, h8, h9, h10, h11, h12⟩⟩
          exact bind_plain rfl rfl rfl rfl rfl h8 hl
        | _ => exact (Bool.false_ne_true h).elim
      | _ => exact (Bool.false_ne_true h).elim
    | _ => exact (Bool.false_ne_true h).elim

abbrev mkSig (prog : Program) (w : World) (K : Frag) (T : List Str) (P : Prog) (clsL fnL meL exL : List (Nat × Addr)) (fz : List (Addr × Obj)) : Sig :=
  { prog := prog, w := w, K := K, T := T, P := P, cls := fun i => clsL.lookup i, fn := fun i => fnL.lookup i, me := fun i => meL.lookup i, ex := fun i => exL.lookup i, fz := fz }
abbrev mkNam (T : List Str) (clsL fnL meL exL : List (Nat × Addr)) : Nam := ⟨T, fun i => fnL.lookup i, fun i => meL.lookup i, fun i => clsL.lookup i, fun i => exL.lookup i⟩

noncomputable def allBi : List Bi := [.len, .sorted, .list, .tuple, .str, .int, .range, .min, .max, .set, .zip]
noncomputable def ckTop (K : Frag) (T : List Str) (P : Prog) (clsL fnL meL exL : List (Nat × Addr)) (xP : Addr) : Bool :=
  decide T.Nodup && P.attrs.all (fun n => onO T[n]? fun nm => clsL.all fun q => ckAttr K q.2 nm) &&
  P.globs.all (fun q => onO T[q.1]? fun nm => onO (nsIn K mainGlobals nm) fun y => onO y fun x => vIs q.2 x) && P.tabs.isEmpty &&
  fnL.all (fun q => onO T[q.1]? fun nm => isRef (nsIn K mainGlobals nm) q.2 && keepIn K (.ref q.2)) &&
  allBi.all (fun b => isNo (nsIn K mainGlobals (biName b))) && isNo (nsIn K mainGlobals "isinstance") && [0, 1, 2, 3, 4].all (fun k => isNo (nsIn K mainGlobals (clsName k))) &&
  meL.all (fun q => onO T[q.1]? fun nm => !P.attrs.contains q.1 && keepIn K (.ref q.2) && isFn K (.ref q.2) && clsL.all (fun r => plainGet K r.2 nm && isRef (findIn K (.ref r.2) nm) q.2)) &&
  clsL.all (fun q => onO T[q.1]? fun nm => isRef (nsIn K mainGlobals nm) q.2 && keepIn K (.ref q.2) && makesIn K q.2) &&
  (onO (meL.lookup P.init) fun fI => isTy (typeIn K (.ref fI)) "function" && clsL.all (fun r => isRef (findIn K (.ref r.2) "__init__") fI)) &&
  decide (T[idAppend]? = some ("append" : Str)) && decide (T[idPop]? = some ("pop" : Str)) && decide (T[idClear]? = some ("clear" : Str)) &&
  exL.isEmpty
noncomputable def ckFuns (K : Frag) (T : List Str) (P : Prog) (clsL fnL meL exL : List (Nat × Addr)) : Bool :=
  fnL.all (fun q => onO (P.funs.lookup q.1) fun fd => ckFn (mkNam T clsL fnL meL exL) K q.2 fd) &&
  meL.all (fun q => onO (P.meths.lookup q.1) fun fd => ckFn (mkNam T clsL fnL meL exL) K q.2 fd)

theorem mem_lookup {α : Type} : ∀ {l : List (Nat × α)} {i : Nat} {a : α}, l.lookup i = some a → (i, a) ∈ l
  | [], _, _, h => by simp at h
  | (k, b) :: r, i, a, h => by
    rw [List.lookup_cons] at h
    split at h
    · rename_i e; cases h; rw [beq_iff_eq.mp e]; exact .head _
    · exact .tail _ (mem_lookup h)

section
variable {prog : Program} {w : World} {K : Frag} {T : List Str} {P : Prog} {clsL fnL meL exL : List (Nat × Addr)} {fz : List (Addr × Obj)}
theorem funs_ok (h : ckFuns K T P clsL fnL meL exL = true) : FnAll (mkSig prog w K T P clsL fnL meL exL fz) := by
  have h := and_t h
  refine ⟨fun f A hf => ?_, fun f A hf => ?_⟩
  · obtain ⟨fd, hfd, this⟩ := onO_eq (List.all_eq_true.mp h.1 _ (mem_lookup hf))
    exact ⟨fd, hfd, fn_ok (S := mkSig prog w K T P clsL fnL meL exL fz) this⟩
  · obtain ⟨fd, hfd, this⟩ := onO_eq (List.all_eq_true.mp h.2 _ (mem_lookup hf))
    exact ⟨fd, hfd, fn_ok (S := mkSig prog w K T P clsL fnL meL exL fz) this⟩
theorem top_ok {xP : Addr} (h : ckTop K T P clsL fnL meL exL xP = true) : SigOK (mkSig prog w K T P clsL fnL meL exL fz) := by
  have ⟨h, h15⟩ := and_t h
  have ⟨h, h14⟩ := and_t h
  have ⟨h, h13⟩ := and_t h
  have ⟨h, h12⟩ := and_t h
  have ⟨h, h11⟩ := and_t h
  have ⟨h, h10⟩ := and_t h
  have ⟨h, h9⟩ := and_t h
  have ⟨h, h8⟩ := and_t h
  have ⟨h, h7⟩ := and_t h
  have ⟨h, h6⟩ := and_t h
  have ⟨h, h5⟩ := and_t h
  have ⟨h, h4⟩ := and_t h
  have ⟨h, h3⟩ := and_t h
  have ⟨h1, h2⟩ := and_t h
  refine ⟨⟨of_decide_eq_true h1, fun n hn => ?_⟩, fun i v hv => ?_, List.isEmpty_iff.mp h4, fun i A hA => ?_, fun b => ?_, isNo_eq h7, fun k hk => ?_, fun i A hA => ?_, fun i C hC => ?_, ?_, of_decide_eq_true h12, of_decide_eq_true h13, of_decide_eq_true h14⟩
  · obtain ⟨nm, e, this⟩ := onO_eq (List.all_eq_true.mp h2 n hn)
    refine ⟨nm, e, fun k C hC => attr_ok (S := mkSig prog w K T P clsL fnL meL exL fz) ?_⟩
    exact (List.all_eq_true.mp this) _ (mem_lookup hC)
  · obtain ⟨nm, e, this⟩ := onO_eq (List.all_eq_true.mp h3 _ (mem_lookup hv))
    obtain ⟨y, e2, this⟩ := onO_eq this
    obtain ⟨x, rfl, this⟩ := onO_eq this
    exact ⟨nm, x, e, e2, vIs_vr this⟩
  · obtain ⟨nm, e, this⟩ := onO_eq (List.all_eq_true.mp h5 _ (mem_lookup hA))
    have this := and_t this
    exact ⟨nm, e, isRef_eq this.1, this.2⟩
  · exact isNo_eq (List.all_eq_true.mp h6 b (by cases b <;> decide))
  · have : k ∈ [0, 1, 2, 3, 4] := by
      match k, hk with
      | 0, _ => decide
      | 1, _ => decide
      | 2, _ => decide
      | 3, _ => decide
      | 4, _ => decide
    exact isNo_eq (List.all_eq_true.mp h8 k this)
  · obtain ⟨nm, e, this⟩ := onO_eq (List.all_eq_true.mp h9 _ (mem_lookup hA))
    have ⟨this, g4⟩ := and_t this
    have ⟨this, g3⟩ := and_t this
    have ⟨g1, g2⟩ := and_t this
    refine ⟨nm, e, fun hm => ?_, g2, g3, fun k C hC => ?_⟩
    · have : P.attrs.contains i = true := List.contains_iff_mem.mpr hm
      rw [this] at g1; exact (Bool.false_ne_true g1).elim
    · have := and_t (List.all_eq_true.mp g4 _ (mem_lookup hC))
      exact ⟨this.1, isRef_eq this.2⟩
  · obtain ⟨nm, e, this⟩ := onO_eq (List.all_eq_true.mp h10 _ (mem_lookup hC))
    have ⟨this, g3⟩ := and_t this
    have ⟨g1, g2⟩ := and_t this
    exact ⟨nm, e, isRef_eq g1, g2, g3⟩
  · obtain ⟨fI, e, this⟩ := onO_eq h11
    have this := and_t this
    exact ⟨fI, e, fun i C hC => ⟨isRef_eq (List.all_eq_true.mp this.2 _ (mem_lookup hC)), isTy_eq this.1⟩⟩
end
end Mine

set_option autoImplicit false
namespace Mine
open PySem PySem.W PySem.Calls PyProof.Rows

noncomputable def noList (K : Frag) : Bool := K.all fun p => match p.2.cls with | .type s => !(s == "list") | _ => true
theorem noList_of {K : Frag} (h : noList K = true) {a : Addr} {o : Obj} (e : K.lookup a = some o) : o.cls ≠ .type "list" := by
  intro q
  have := (List.all_eq_true.mp h) (a, o) (mem_lookup e)
  dsimp only at this
  rw [q] at this
  simp at this

theorem ns_hide {h : Heap} {a A : Addr} {m : Str → Option Value} {vs : Array Value} {n : Nat} (x : h.Ns a m) (hA : h.get? A = some (W.listOf vs n)) : (hideAll h [A]).Ns a m ∧ a ≠ A := by
  obtain ⟨o, es, ep, h1, h2, h3⟩ := x
  have hne : a ≠ A := fun q => by
    subst q; rw [hA] at h1; cases h1; cases h2
  exact ⟨⟨o, es, ep, hideAll_get _ h1 (by simpa using hne), h2, h3⟩, hne⟩

theorem ints_vr {ρ : List Addr} {vs : List Value} {ns : List Int} (h : IntsAre vs ns) : All2 (VR ρ) (ns.map V.int) vs := by
  induction h with
  | nil => exact .nil
  | cons n t _ ih => exact .cons ⟨t, rfl⟩ ih

theorem law_main {prog : Program} {w : World} {K : Frag} {T : List Str} {P : Prog} {clsL fnL meL exL : List (Nat × Addr)} {xP : Addr} (hT : ckTop K T P clsL fnL meL exL xP = true) (hF : ckFuns K T P clsL fnL meL exL = true) (hN : noList K = true) (hnf : P.nf = 1)
    {lid : Nat} {fa : Addr} (hfa : fnL.lookup lid = some fa) {s₁ : Shared} (KX : K.In s₁.heap) {mg mb : Str → Option Value} (hmg : s₁.heap.Ns mainGlobals mg) (hmb : s₁.heap.Ns builtinsNs mb) (hbt : ∀ x : Str, x ≠ "__name__" → mb x = bootBuiltins x) (hlim : s₁.heap.NoLimit)
    {A : Addr} {vs : List Value} {ns : List Int} (hL : s₁.heap.get? A = some (W.listOf vs.toArray 0)) (hA : (A == sysModules) = false) (hI : IntsAre vs ns) (hlen : ns.length ≤ lim) {fuel d : Nat} (hd : d ≤ 50) {σ' : H}
    (hrun : run P fuel (d + 1) false lid [.ref 0] [.list (ns.map .int)] = some (.ok (.bool true), σ')) {R : Result → Shared → Prop}
    (hR : ∀ h' tk, (∀ b o, s₁.heap.get? b = some o → h'.get? b = some o) → R (.ok (.ret (.bool true))) { s₁ with heap := h', toks := tk }) :
    codeAny (model prog w) callerA (.call (.ref fa) ⟨[.ref A], []⟩) R s₁ := by
  let S : Sig := mkSig prog w K T P clsL fnL meL exL [(A, W.listOf vs.toArray 0)]
  have OK : SigOK S := top_ok hT
  have FA : FnAll S := funs_ok hF
  have HC : CallsOK S (run P fuel d) (5 * d) := run_ok (S := S) OK FA fuel d
  obtain ⟨fd, hfd, fo, name, qual, params, body, scope, dV, kV, doc, pm, an, cdv, ct, names, O⟩ := FA.1 lid fa hfa
  have e : run P fuel (d + 1) false lid [.ref 0] [.list (ns.map .int)] = (match P.funs.lookup lid with
        | none => none
        | some fd => if [V.ref 0].length = fd.params.length then
            match exs P (run P fuel d) fuel fd.body ((fd.params.zip [V.ref 0]).foldl (fun l p => l.upd p.1 p.2) (fun _ => none)) [.list (ns.map .int)] with
            | none => none
            | some (.err c, _, h₁) => some (.err c, h₁)
            | some (.ok r, _, h₁) => some (.ok (r.getD .none), h₁)
          else none) := rfl
  rw [e, hfd] at hrun
  dsimp only at hrun
  split at hrun
  · rename_i hpl
    cases hb : exs P (run P fuel d) fuel fd.body ((fd.params.zip [V.ref 0]).foldl (fun l p => l.upd p.1 p.2) (fun _ => none)) [.list (ns.map .int)] with
    | none => rw [hb] at hrun; cases hrun
    | some p =>
      obtain ⟨rr, loc', σ₁⟩ := p
      rw [hb] at hrun
      cases rr with
      | err q => cases hrun
      | ok ov =>
        simp only [Option.some.injEq, Prod.mk.injEq, Mine.R.ok.injEq] at hrun
        obtain ⟨hov, rfl⟩ := hrun
        have hov : ov = some (.bool true) := by
          cases ov with
          | none => cases hov
          | some v => exact congrArg some hov
        subst hov
        have hl1 := O.pars.length
        have hvl : [Value.ref A].length = names.length := by rw [← hl1, ← hpl]; rfl
        refine codeAny_call_function (by decide) (KX _ _ O.look) O.data O.co O.gen rfl (codeRec_of KX O.code) (BindsTo.of_eq (s := s₁) (O.bind [.ref A] hvl) _ _ _ _ ?_)
        refine wpAny_newFunctionEnv_cells O.kind (fun x hx => ?_) fun env' he s' x => ?_
        · have hm : x.1 ∈ names := by rw [← zip_map_fst hvl]; exact List.mem_map_of_mem hx
          have hst := O.stor x.1 hm
          unfold storable at hst
          split at hst
          · rename_i e; exact .inl e
          · rename_i e
            refine .inr ⟨e, ?_⟩
            obtain ⟨a, ha⟩ := lookup_of_mem (cellsFrom_has scope.names (s₁.heap.objs.size + 1) [] (.inl (PySem.mem_of_lookup e)))
            rw [ha]; rfl
          · cases hst
        · have he' : env' = envOfC qual scope s₁.heap.objs.size fa cdv := he
          subst he'
          refine ⟨hlim.keeps x.toInCall.keep, codeAny_func ?_⟩
          obtain ⟨h₁, tk, rfl, hk₁⟩ := x.done
          have g1 := ns_hide hmg hL
          have g2 := ns_hide hmb hL
          obtain ⟨mc, hc1, hc2⟩ := hlim
          have g3 := ns_hide hc1 hL
          have hlt := Heap.lt_size hL
          have hv0 : VR (adr [(A, W.listOf vs.toArray 0)]) (.ref 0) (.ref A) := ⟨A, rfl, rfl⟩
          have lE : Led S (hideAll s₁.heap [A]) s₁.heap.objs.size (bindL (envOfC qual scope s₁.heap.objs.size fa cdv).kindOf (names.zip [.ref A]) fun _ => none) [] [] [(A, W.listOf vs.toArray 0)] [.list (ns.map .int)] h₁ := by
            refine ⟨⟨x.toInCall.ns, fun b o q => hk₁ b o (of_hideAll _ q), Nat.le_of_eq (hideAll_size _ _)⟩, fun p hp => ?_, by simp [adr], .one ⟨vs, 0, rfl, ints_vr hI, by simpa using hlen⟩, (fun f hf => nomatch hf), ?_, fun b hb => ?_, List.prefix_rfl, by show 1 ≤ P.nf; rw [hnf]; exact Nat.le_refl _⟩
            · simp only [List.nil_append, List.mem_singleton] at hp
              subst hp
              exact ⟨hk₁ _ _ hL, Nat.ne_of_lt hlt, hideAll_none _ (by simp)⟩
            · obtain ⟨o, _, _, q, _⟩ := g1.1; exact ⟨o, q⟩
            · simp [adr] at hb; subst hb; exact hA
          refine body_ok (S := S) OK HC fuel O (s := { s₁ with heap := h₁, toks := tk }) (Ar := callerA.deeper (envOfC qual scope s₁.heap.objs.size fa cdv)) (fun m cs => ?_) ⟨[], rfl⟩ hpl (.one hv0) lE x.cell x.apart (fun nm a hm => ?_) hb (fun m' os' h' tk' k l' o ho f hf => ?_) fun _ _ _ _ _ _ _ q hq => nomatch hq
          · refine ⟨rfl, ?_, ?_, fun a o q => ?_, ⟨mg, mb, g1.1, g2.1, hbt⟩, ⟨mc, g3.1, hc2⟩, O.kind, rfl, rfl, rfl, _, rfl, fun e he => ?_⟩
            · show 4 + 3 + 2 * (5 * d + 2) + 200 < 9900; lia
            · show 1 + 300 + 1 + (5 * d + 2) < 1000; lia
            · refine hideAll_get _ (KX a o q) ?_
              simp only [List.mem_singleton]
              intro qq; subst qq
              have := KX _ _ q
              rw [hL] at this; cases this
              exact noList_of hN q rfl
            · obtain rfl := List.mem_singleton.mp he
              exact ⟨by rw [show (envOfC qual scope s₁.heap.objs.size fa cdv).scope.kind = .function from O.kind]; exact nofun, _, rfl, .head _⟩
          · have hlt' : s₁.heap.objs.size < a := x.above nm a hm
            refine ⟨hlt', fun p hp => ?_, (fun f hf => nomatch hf)⟩
            simp only [List.nil_append, List.mem_singleton] at hp
            subst hp
            exact Nat.lt_trans hlt hlt'
          · cases ho
            obtain ⟨a, rfl, ha⟩ := hf
            cases ha
            refine hR h' tk' fun b ob q => ?_
            by_cases hbA : b = A
            · subst hbA
              obtain ⟨t, ht⟩ := l'.frz.1
              have hm : (b, W.listOf vs.toArray 0) ∈ os' := by rw [← ht]; exact List.mem_append_left _ (.head _)
              rw [hL] at q; cases q
              exact (l'.news _ hm).1
            · exact l'.fr.keep b ob (hideAll_get _ q (by simpa using hbA))
  · cases hrun
end Mine

set_option autoImplicit false
namespace Mine
open PySem (Str PyData)

noncomputable def okR {α : Type} (Q : α → H → Prop) : Option (R α × H) → Prop
  | some (.ok a, σ) => Q a σ
  | _ => False
noncomputable def Ok {α : Type} (x : X α) (σ : H) (Q : α → H → Prop) : Prop := okR Q (x σ)
noncomputable def okL (Q : Option V → Loc → H → Prop) : Option (R (Option V) × Loc × H) → Prop
  | some (.ok a, l, σ) => Q a l σ
  | _ => False
noncomputable def OkS (x : Option (R (Option V) × Loc × H)) (Q : Option V → Loc → H → Prop) : Prop := okL Q x
theorem ok_iff {α : Type} {x : X α} {σ : H} {Q : α → H → Prop} : Ok x σ Q ↔ ∃ a σ', x σ = some (.ok a, σ') ∧ Q a σ' := by
  unfold Ok
  constructor
  · intro h
    cases e : x σ with
    | none => rw [e] at h; exact h.elim
    | some p => obtain ⟨r, σ'⟩ := p; rw [e] at h; cases r with | ok a => exact ⟨a, σ', rfl, h⟩ | err c => exact h.elim
  · rintro ⟨a, σ', h, q⟩; rw [h]; exact q
theorem oks_iff {x : Option (R (Option V) × Loc × H)} {Q : Option V → Loc → H → Prop} : OkS x Q ↔ ∃ r l σ', x = some (.ok r, l, σ') ∧ Q r l σ' := by
  unfold OkS
  constructor
  · intro h
    cases x with
    | none => exact h.elim
    | some p => obtain ⟨r, l, σ'⟩ := p; cases r with | ok a => exact ⟨a, l, σ', rfl, h⟩ | err c => exact h.elim
  · rintro ⟨a, l, σ', h, q⟩; rw [h]; exact q

noncomputable def bindK {α β : Type} (f : α → X β) (Q : β → H → Prop) : α → H → Prop := fun a σ => Ok (f a) σ Q
theorem bindK_at {α β : Type} {f : α → X β} {Q : β → H → Prop} {a : α} {σ : H} : bindK f Q a σ = Ok (f a) σ Q := rfl
theorem ok_bind {α β : Type} {x : X α} {f : α → X β} {σ : H} {Q : β → H → Prop} : Ok (X.bind x f) σ Q = Ok x σ (bindK f Q) := by
  unfold Ok X.bind
  cases x σ with
  | none => rfl
  | some p => obtain ⟨r, σ₁⟩ := p; cases r <;> rfl
theorem bind_pure {α β : Type} {a : α} {f : α → X β} : X.bind (X.pure a) f = f a := rfl
theorem bind_lift {α β : Type} {a : α} {f : α → X β} : X.bind (X.lift (some a)) f = f a := rfl
theorem ok_pure {α : Type} {a : α} {σ : H} {Q : α → H → Prop} : Ok (X.pure a) σ Q = Q a σ := rfl
theorem ok_lift {α : Type} {a : α} {σ : H} {Q : α → H → Prop} : Ok (X.lift (some a)) σ Q = Q a σ := rfl
theorem ok_some {α : Type} {x : X α} {σ σ' : H} {a : α} {Q : α → H → Prop} (h : x σ = some (.ok a, σ')) : Ok x σ Q = Q a σ' := by unfold Ok; rw [h]; rfl

theorem oks_nil {P : Prog} {C : Calls} {F : Nat} {loc : Loc} {σ : H} {Q : Option V → Loc → H → Prop} : OkS (exs P C F .nil loc σ) Q = Q none loc σ := rfl
noncomputable def andThen (P : Prog) (C : Calls) (F : Nat) (ss : Sts) (Q : Option V → Loc → H → Prop) : Option V → Loc → H → Prop := fun r l σ => match r with
  | none => OkS (exs P C F ss l σ) Q
  | some v => Q (some v) l σ
theorem oks_cons {P : Prog} {C : Calls} {F : Nat} {s : St} {ss : Sts} {loc : Loc} {σ : H} {Q : Option V → Loc → H → Prop} : OkS (exs P C F (.cons s ss) loc σ) Q = OkS (ex P C F s loc σ) (andThen P C F ss Q) := by
  show OkS (match ex P C F s loc σ with | some (.ok none, l₁, h₁) => exs P C F ss l₁ h₁ | r => r) Q = _
  cases ex P C F s loc σ with
  | none => rfl
  | some p =>
    obtain ⟨rr, l₁, σ₁⟩ := p
    cases rr with
    | err k => rfl
    | ok o => cases o <;> rfl
theorem then_none {P : Prog} {C : Calls} {F : Nat} {ss : Sts} {Q : Option V → Loc → H → Prop} {l : Loc} {σ : H} : andThen P C F ss Q none l σ = OkS (exs P C F ss l σ) Q := rfl
theorem then_some {P : Prog} {C : Calls} {F : Nat} {ss : Sts} {Q : Option V → Loc → H → Prop} {l : Loc} {σ : H} {v : V} : andThen P C F ss Q (some v) l σ = Q (some v) l σ := rfl
theorem oks_step {P : Prog} {C : Calls} {F : Nat} {t : Sts} {s : St} {ss : Sts} {loc : Loc} {σ : H} {Q : Option V → Loc → H → Prop} (h : t = .cons s ss) (k : OkS (ex P C F s loc σ) (andThen P C F ss Q)) : OkS (exs P C F t loc σ) Q := by
  subst h; exact oks_cons.mpr k
theorem then_step {P : Prog} {C : Calls} {F : Nat} {t : Sts} {s : St} {ss : Sts} {loc : Loc} {σ : H} {Q : Option V → Loc → H → Prop} (h : t = .cons s ss) (k : OkS (ex P C F s loc σ) (andThen P C F ss Q)) : andThen P C F t Q none loc σ := oks_step h k
noncomputable def onK {α : Type} (f : α → H → Option (R (Option V) × Loc × H)) (Q : Option V → Loc → H → Prop) : α → H → Prop := fun a σ => OkS (f a σ) Q
theorem oks_on {α : Type} {m : X α} {loc : Loc} {f : α → H → Option (R (Option V) × Loc × H)} {σ : H} {Q : Option V → Loc → H → Prop} : OkS (onX m loc f σ) Q = Ok m σ (onK f Q) := by
  unfold Ok onX
  cases m σ with
  | none => rfl
  | some p => obtain ⟨r, σ₁⟩ := p; cases r <;> rfl
section
variable {P : Prog} {C : Calls} {F : Nat} {loc : Loc} {σ : H} {Q : Option V → Loc → H → Prop}
noncomputable def exprK {α : Type} (loc : Loc) (Q : Option V → Loc → H → Prop) : α → H → Prop := fun _ σ => Q none loc σ
theorem exprK_at {α : Type} {a : α} : exprK loc Q a σ = Q none loc σ := rfl
theorem s_expr {e : Ex} : OkS (ex P C F (.expr e) loc σ) Q = Ok (ev P C e loc) σ (exprK loc Q) := oks_on
noncomputable def varK (i : Nat) (loc : Loc) (Q : Option V → Loc → H → Prop) : V → H → Prop := fun v σ => Q none (loc.upd i v) σ
theorem varK_at {i : Nat} {v : V} : varK i loc Q v σ = Q none (loc.upd i v) σ := rfl
theorem s_var {i : Nat} {e : Ex} : OkS (ex P C F (.asg (.var i) e) loc σ) Q = Ok (ev P C e loc) σ (varK i loc Q) := oks_on
noncomputable def attrK2 (P : Prog) (n : Nat) (v : V) (loc : Loc) (Q : Option V → Loc → H → Prop) : V → H → Prop := fun ov σ => Ok (setAttr P ov n v) σ (exprK loc Q)
theorem attrK2_at {n : Nat} {v ov : V} : attrK2 P n v loc Q ov σ = Ok (setAttr P ov n v) σ (exprK loc Q) := rfl
noncomputable def attrK (P : Prog) (C : Calls) (o : Ex) (n : Nat) (loc : Loc) (Q : Option V → Loc → H → Prop) : V → H → Prop := fun v σ => Ok (ev P C o loc) σ (attrK2 P n v loc Q)
theorem attrK_at {o : Ex} {n : Nat} {v : V} : attrK P C o n loc Q v σ = Ok (ev P C o loc) σ (attrK2 P n v loc Q) := rfl
theorem s_attr {o e : Ex} {n : Nat} : OkS (ex P C F (.asg (.attr o n) e) loc σ) Q = Ok (ev P C e loc) σ (attrK P C o n loc Q) := by
  refine oks_on.trans (congrArg _ ?_); funext v σ₁; refine oks_on.trans (congrArg _ ?_); funext ov σ₂; exact oks_on
noncomputable def subK3 (P : Prog) (ov v : V) (loc : Loc) (Q : Option V → Loc → H → Prop) : V → H → Prop := fun iv σ => Ok (setItem P ov iv v) σ (exprK loc Q)
theorem subK3_at {ov v iv : V} : subK3 P ov v loc Q iv σ = Ok (setItem P ov iv v) σ (exprK loc Q) := rfl
noncomputable def subK2 (P : Prog) (C : Calls) (i : Ex) (v : V) (loc : Loc) (Q : Option V → Loc → H → Prop) : V → H → Prop := fun ov σ => Ok (ev P C i loc) σ (subK3 P ov v loc Q)
theorem subK2_at {i : Ex} {v ov : V} : subK2 P C i v loc Q ov σ = Ok (ev P C i loc) σ (subK3 P ov v loc Q) := rfl
noncomputable def subK (P : Prog) (C : Calls) (o i : Ex) (loc : Loc) (Q : Option V → Loc → H → Prop) : V → H → Prop := fun v σ => Ok (ev P C o loc) σ (subK2 P C i v loc Q)
theorem subK_at {o i : Ex} {v : V} : subK P C o i loc Q v σ = Ok (ev P C o loc) σ (subK2 P C i v loc Q) := rfl
theorem s_sub {o i e : Ex} : OkS (ex P C F (.asg (.sub o i) e) loc σ) Q = Ok (ev P C e loc) σ (subK P C o i loc Q) := by
  refine oks_on.trans (congrArg _ ?_); funext v σ₁; refine oks_on.trans (congrArg _ ?_); funext ov σ₂; refine oks_on.trans (congrArg _ ?_); funext iv σ₂; exact oks_on
noncomputable def iteK (P : Prog) (C : Calls) (F : Nat) (a b : Sts) (loc : Loc) (Q : Option V → Loc → H → Prop) : Bool → H → Prop := fun t σ => bif t then OkS (exs P C F a loc σ) Q else OkS (exs P C F b loc σ) Q
theorem iteK_t {a b : Sts} : iteK P C F a b loc Q true σ = OkS (exs P C F a loc σ) Q := rfl
theorem iteK_f {a b : Sts} : iteK P C F a b loc Q false σ = OkS (exs P C F b loc σ) Q := rfl
theorem s_ite {c : Ex} {a b : Sts} : OkS (ex P C F (.ite c a b) loc σ) Q = Ok (tst P C c loc (ev P C c loc)) σ (iteK P C F a b loc Q) := by
  refine oks_on.trans (congrArg _ ?_); funext t σ₁; cases t <;> rfl
noncomputable def retK (loc : Loc) (Q : Option V → Loc → H → Prop) : V → H → Prop := fun v σ => Q (some v) loc σ
theorem retK_at {v : V} : retK loc Q v σ = Q (some v) loc σ := rfl
theorem s_ret {e : Ex} : OkS (ex P C F (.ret e) loc σ) Q = Ok (ev P C e loc) σ (retK loc Q) := oks_on
theorem s_ret0 : OkS (ex P C F .ret0 loc σ) Q = Q (some .none) loc σ := rfl
theorem s_pass : OkS (ex P C F .pass loc σ) Q = Q none loc σ := rfl
end

noncomputable def runK (Q : V → H → Prop) : Option V → Loc → H → Prop := fun r _ σ => Q (r.getD .none) σ
theorem runK_some {Q : V → H → Prop} {v : V} {l : Loc} {σ : H} : runK Q (some v) l σ = Q v σ := rfl
theorem runK_none {Q : V → H → Prop} {l : Loc} {σ : H} : runK Q none l σ = Q .none σ := rfl
theorem ok_run {P : Prog} {F d f : Nat} {m : Bool} {fd : FD} {args : List V} {σ : H} {Q : V → H → Prop} (h : (if m then P.meths else P.funs).lookup f = some fd) (hl : args.length = fd.params.length) :
    Ok (run P F (d + 1) m f args) σ Q = OkS (exs P (run P F d) F fd.body ((fd.params.zip args).foldl (fun l p => l.upd p.1 p.2) (fun _ => none)) σ) (runK Q) := by
  unfold Ok run
  simp only [h, hl, if_true]
  cases exs P (run P F d) F fd.body ((fd.params.zip args).foldl (fun l p => l.upd p.1 p.2) (fun _ => none)) σ with
  | none => rfl
  | some p => obtain ⟨r, l, σ₁⟩ := p; cases r <;> rfl

/- the heap -/
theorem get_put_ne {σ : H} {a b : Nat} {o : O} (h : a ≠ b) : (H.put σ a o).get b = σ.get b := List.getElem?_set_ne h
theorem get_put_eq {σ : H} {a : Nat} {o : O} (h : a < σ.length) : (H.put σ a o).get a = some o := List.getElem?_set_self h
theorem get_push_lt {σ : H} {a : Nat} {o : O} (h : a < σ.length) : (H.push σ o).get a = σ.get a := List.getElem?_append_left h
theorem get_push_eq {σ : H} {o : O} : (H.push σ o).get σ.length = some o := List.getElem?_concat_length
theorem len_put {σ : H} {a : Nat} {o : O} : (H.put σ a o).length = σ.length := List.length_set
theorem len_push {σ : H} {o : O} : (H.push σ o).length = σ.length + 1 := List.length_append

noncomputable def methX (P : Prog) (C : Calls) (ax : X (List V)) (i : Nat) (ov : V) : X V := fun h => match kdOf ov h with
  | .inst => if i ≤ 12 then none else X.bind ax (fun vs => C true i (ov :: vs)) h
  | .list => if i = idAppend ∨ i = idPop ∨ i = idClear then X.bind ax (fun vs => listMeth P ov i vs) h else none
  | .dict => if i = idPop then X.bind ax (fun vs => dictMeth P ov i vs) h else none
  | _ => none
noncomputable def compX (tg : List Nat) (tup : Bool) (t : Loc → X Bool) (e : Loc → X V) (loc : Loc) (v : V) : X V := fun h => match iterOf v h with
  | none => none
  | some vs => X.bind (compL v tg tup t e loc h vs) (fun ws => alloc (.list ws)) h
section
variable {P : Prog} {C : Calls} {loc : Loc}
theorem bif_t {α : Type} {a b : α} : (bif true then a else b) = a := rfl
theorem bif_f {α : Type} {a b : α} : (bif false then a else b) = b := rfl
theorem upd_def {l : Loc} {i j : Nat} {v : V} : l.upd i v j = bif j == i then some v else l j := rfl
theorem e_none : ev P C .cnone loc = X.pure .none := rfl
theorem e_bool {b : Bool} : ev P C (.cbool b) loc = X.pure (.bool b) := rfl
theorem e_int {i : Int} : ev P C (.cint i) loc = X.pure (.int i) := rfl
theorem e_str {s : Str} : ev P C (.cstr s) loc = X.pure (.str s) := rfl
theorem e_loc {i : Nat} : ev P C (.loc i) loc = X.lift (loc i) := rfl
noncomputable def binF (P : Prog) (C : Calls) (op : PySem.Operator) (b : Ex) (loc : Loc) : V → X V := fun x => X.bind (ev P C b loc) (binop op x)
theorem binF_at {op : PySem.Operator} {b : Ex} {x : V} : binF P C op b loc x = X.bind (ev P C b loc) (binop op x) := rfl
theorem e_bin {op : PySem.Operator} {a b : Ex} : ev P C (.bin op a b) loc = X.bind (ev P C a loc) (binF P C op b loc) := rfl
noncomputable def notF2 : Bool → X V := fun t => X.pure (.bool (!t))
theorem notF2_t : notF2 true = X.pure (.bool false) := rfl
theorem notF2_f : notF2 false = X.pure (.bool true) := rfl
noncomputable def notF : V → X V := fun x => X.bind (truth x) notF2
theorem notF_at {x : V} : notF x = X.bind (truth x) notF2 := rfl
theorem e_not {a : Ex} : ev P C (.not a) loc = X.bind (ev P C a loc) notF := rfl
theorem e_band {es : Exs} : ev P C (.band es) loc = evAnd P C es loc := rfl
theorem e_bor {es : Exs} : ev P C (.bor es) loc = evOr P C es loc := rfl
noncomputable def cmpF (P : Prog) (C : Calls) (op : PySem.CmpOp) (b : Ex) (loc : Loc) : V → X V := fun x => X.bind (ev P C b loc) (cmpop P op x)
theorem cmpF_at {op : PySem.CmpOp} {b : Ex} {x : V} : cmpF P C op b loc x = X.bind (ev P C b loc) (cmpop P op x) := rfl
theorem e_cmp {op : PySem.CmpOp} {a b : Ex} : ev P C (.cmp op a b) loc = X.bind (ev P C a loc) (cmpF P C op b loc) := rfl
noncomputable def cmpG (P : Prog) (C : Calls) (o2 : PySem.CmpOp) (c : Ex) (loc : Loc) (y r : V) : Bool → X V := fun t => bif t then X.bind (ev P C c loc) (cmpop P o2 y) else X.pure r
theorem cmpG_t {o2 : PySem.CmpOp} {c : Ex} {y r : V} : cmpG P C o2 c loc y r true = X.bind (ev P C c loc) (cmpop P o2 y) := rfl
theorem cmpG_f {o2 : PySem.CmpOp} {c : Ex} {y r : V} : cmpG P C o2 c loc y r false = X.pure r := rfl
theorem e_cmp2 {o1 o2 : PySem.CmpOp} {a b c : Ex} : ev P C (.cmp2 o1 o2 a b c) loc = X.bind (ev P C a loc) fun x => X.bind (ev P C b loc) fun y => X.bind (cmpop P o1 x y) fun r => X.bind (truth r) (cmpG P C o2 c loc y r) := by
  show (X.bind _ fun x => X.bind _ fun y => X.bind _ fun r => X.bind _ fun t => _) = _
  refine congrArg _ (funext fun x => congrArg _ (funext fun y => congrArg _ (funext fun r => congrArg _ (funext fun t => ?_))))
  cases t <;> rfl
noncomputable def listF : List V → X V := fun vs => alloc (.list vs)
theorem listF_at {vs : List V} : listF vs = alloc (.list vs) := rfl
theorem e_list {es : Exs} : ev P C (.list es) loc = X.bind (evs P C es loc) listF := rfl
noncomputable def tupF : List V → X V := fun vs => alloc (.tup vs)
theorem tupF_at {vs : List V} : tupF vs = alloc (.tup vs) := rfl
theorem e_tup {es : Exs} : ev P C (.tup es) loc = X.bind (evs P C es loc) tupF := rfl
theorem e_dict0 : ev P C (.dict .nil .nil) loc = alloc (.dict []) := rfl
noncomputable def attrF (n : Nat) : V → X V := fun o => getAttr o n
theorem attrF_at {n : Nat} {o : V} : attrF n o = getAttr o n := rfl
theorem e_attr {a : Ex} {n : Nat} : ev P C (.attr a n) loc = X.bind (ev P C a loc) (attrF n) := rfl
noncomputable def subF (P : Prog) (C : Calls) (i : Ex) (loc : Loc) : V → X V := fun o => X.bind (ev P C i loc) (getItem P o)
theorem subF_at {i : Ex} {o : V} : subF P C i loc o = X.bind (ev P C i loc) (getItem P o) := rfl
theorem e_sub {a i : Ex} : ev P C (.sub a i) loc = X.bind (ev P C a loc) (subF P C i loc) := rfl
noncomputable def slF2 (P : Prog) (C : Calls) (u : Ex) (loc : Loc) (o : V) : V → X V := fun l => X.bind (ev P C u loc) (getSlice o l)
theorem slF2_at {u : Ex} {o l : V} : slF2 P C u loc o l = X.bind (ev P C u loc) (getSlice o l) := rfl
noncomputable def slF (P : Prog) (C : Calls) (l u : Ex) (loc : Loc) : V → X V := fun o => X.bind (ev P C l loc) (slF2 P C u loc o)
theorem slF_at {l u : Ex} {o : V} : slF P C l u loc o = X.bind (ev P C l loc) (slF2 P C u loc o) := rfl
theorem e_slice {a l u : Ex} : ev P C (.slice a l u) loc = X.bind (ev P C a loc) (slF P C l u loc) := rfl
theorem e_sset {a : Ex} : ev P C (.sset a) loc = X.bind (ev P C a loc) biSset := rfl
theorem e_call {f : Nat} {args : Exs} : ev P C (.call f args) loc = X.bind (evs P C args loc) (C false f) := rfl
theorem e_meth {o : Ex} {i : Nat} {args : Exs} : ev P C (.meth o i args) loc = X.bind (ev P C o loc) (methX P C (evs P C args loc) i) := rfl
theorem e_bi {b : Bi} {args : Exs} : ev P C (.bi b args) loc = X.bind (evs P C args loc) (builtin b) := rfl
noncomputable def boolF : Bool → X V := fun b => X.pure (.bool b)
theorem boolF_at {b : Bool} : boolF b = X.pure (.bool b) := rfl
noncomputable def isiF (P : Prog) (cs : List Nat) : V → X V := fun v => X.bind (isinsts P v cs) boolF
theorem isiF_at {cs : List Nat} {v : V} : isiF P cs v = X.bind (isinsts P v cs) boolF := rfl
theorem e_isi {a : Ex} {cs : List Nat} : ev P C (.isi a cs) loc = X.bind (ev P C a loc) (isiF P cs) := rfl
theorem e_comp {elt it : Ex} {tg : List Nat} {tup : Bool} {conds : Exs} : ev P C (.comp elt tg tup it conds) loc = X.bind (ev P C it loc) (compX tg tup (tstAnd P C conds) (ev P C elt) loc) := rfl
theorem es_nil : evs P C .nil loc = X.pure [] := rfl
noncomputable def consF2 (v : V) : List V → X (List V) := fun vs => X.pure (v :: vs)
theorem consF2_at {v : V} {vs : List V} : consF2 v vs = X.pure (v :: vs) := rfl
noncomputable def consF (P : Prog) (C : Calls) (es : Exs) (loc : Loc) : V → X (List V) := fun v => X.bind (evs P C es loc) (consF2 v)
theorem consF_at {es : Exs} {v : V} : consF P C es loc v = X.bind (evs P C es loc) (consF2 v) := rfl
theorem es_cons {e : Ex} {es : Exs} : evs P C (.cons e es) loc = X.bind (ev P C e loc) (consF P C es loc) := rfl
noncomputable def eandF (P : Prog) (C : Calls) (es : Exs) (loc : Loc) (v : V) : Bool → X V := fun t => bif t then evAnd P C es loc else X.pure v
theorem eandF_t {es : Exs} {v : V} : eandF P C es loc v true = evAnd P C es loc := rfl
theorem eandF_f {es : Exs} {v : V} : eandF P C es loc v false = X.pure v := rfl
theorem ea_one {e : Ex} : evAnd P C (.cons e .nil) loc = ev P C e loc := rfl
theorem ea_cons {e e' : Ex} {es : Exs} : evAnd P C (.cons e (.cons e' es)) loc = X.bind (ev P C e loc) fun v => X.bind (truth v) (eandF P C (.cons e' es) loc v) := by
  show (X.bind _ fun v => X.bind _ fun t => _) = _
  refine congrArg _ (funext fun v => congrArg _ (funext fun t => ?_)); cases t <;> rfl
/- tests -/
section
variable {w : X V}
noncomputable def tnotF : Bool → X Bool := fun t => X.pure (!t)
theorem tnotF_t : tnotF true = X.pure false := rfl
theorem tnotF_f : tnotF false = X.pure true := rfl
theorem tt_not {a : Ex} : tst P C (.not a) loc w = X.bind (tst P C a loc (ev P C a loc)) tnotF := rfl
theorem tt_band {es : Exs} : tst P C (.band es) loc w = tstAnd P C es loc := rfl
theorem tt_bor {es : Exs} : tst P C (.bor es) loc w = tstOr P C es loc := rfl
theorem tt_bool {b : Bool} : tst P C (.cbool b) loc w = X.bind w truth := rfl
theorem tt_loc {i : Nat} : tst P C (.loc i) loc w = X.bind w truth := rfl
theorem tt_cmp {op : PySem.CmpOp} {a b : Ex} : tst P C (.cmp op a b) loc w = X.bind w truth := rfl
theorem tt_cmp2 {o1 o2 : PySem.CmpOp} {a b c : Ex} : tst P C (.cmp2 o1 o2 a b c) loc w = X.bind w truth := rfl
theorem tt_call {f : Nat} {args : Exs} : tst P C (.call f args) loc w = X.bind w truth := rfl
theorem tt_meth {o : Ex} {i : Nat} {args : Exs} : tst P C (.meth o i args) loc w = X.bind w truth := rfl
theorem tt_isi {a : Ex} {cs : List Nat} : tst P C (.isi a cs) loc w = X.bind w truth := rfl
theorem tt_attr {a : Ex} {n : Nat} : tst P C (.attr a n) loc w = X.bind w truth := rfl
theorem tt_sub {a i : Ex} : tst P C (.sub a i) loc w = X.bind w truth := rfl
theorem tt_bin {op : PySem.Operator} {a b : Ex} : tst P C (.bin op a b) loc w = X.bind w truth := rfl
noncomputable def andF (P : Prog) (C : Calls) (es : Exs) (loc : Loc) : Bool → X Bool := fun t => bif t then tstAnd P C es loc else X.pure false
theorem andF_t {es : Exs} : andF P C es loc true = tstAnd P C es loc := rfl
theorem andF_f {es : Exs} : andF P C es loc false = X.pure false := rfl
theorem ta_nil : tstAnd P C .nil loc = X.pure true := rfl
theorem ta_cons {e : Ex} {es : Exs} : tstAnd P C (.cons e es) loc = X.bind (tst P C e loc (ev P C e loc)) (andF P C es loc) := by
  show (X.bind _ fun t => _) = _
  refine congrArg _ (funext fun t => ?_); cases t <;> rfl
noncomputable def orF (P : Prog) (C : Calls) (es : Exs) (loc : Loc) : Bool → X Bool := fun t => bif t then X.pure true else tstOr P C es loc
theorem orF_t {es : Exs} : orF P C es loc true = X.pure true := rfl
theorem orF_f {es : Exs} : orF P C es loc false = tstOr P C es loc := rfl
theorem to_nil : tstOr P C .nil loc = X.pure false := rfl
theorem to_cons {e : Ex} {es : Exs} : tstOr P C (.cons e es) loc = X.bind (tst P C e loc (ev P C e loc)) (orF P C es loc) := by
  show (X.bind _ fun t => _) = _
  refine congrArg _ (funext fun t => ?_); cases t <;> rfl
end
end
section
variable {P : Prog} {C : Calls} {σ : H} {ax : X (List V)} {Q : V → H → Prop}
theorem ok_of_eq {α : Type} {x y : X α} {Q : α → H → Prop} (h : x σ = y σ) : Ok x σ Q = Ok y σ Q := by unfold Ok; rw [h]
noncomputable def methF (C : Calls) (i : Nat) (ov : V) : List V → X V := fun vs => C true i (ov :: vs)
theorem methF_at {i : Nat} {ov : V} {vs : List V} : methF C i ov vs = C true i (ov :: vs) := rfl
theorem mx_inst {i p c d : Nat} {es : List (Nat × V)} (h1 : σ.get p = some (.inst c d)) (h2 : σ.get d = some (.attrs es)) (hi : 12 < i) : Ok (methX P C ax i (.ref p)) σ Q = Ok ax σ (bindK (methF C i (.ref p)) Q) := by
  rw [← ok_bind]
  refine ok_of_eq ?_
  have hk : kdOf (.ref p) σ = .inst := by unfold kdOf; simp only [h1, h2]
  unfold methX
  rw [hk]
  exact if_neg (Nat.not_le_of_lt hi)
theorem mx_list {i a : Nat} {xs : List V} (h1 : σ.get a = some (.list xs)) (hi : i = 6 ∨ i = 7 ∨ i = 8) : Ok (methX P C ax i (.ref a)) σ Q = Ok ax σ (bindK (listMeth P (.ref a) i) Q) := by
  rw [← ok_bind]
  refine ok_of_eq ?_
  have hk : kdOf (.ref a) σ = .list := by unfold kdOf; simp only [h1]
  unfold methX
  rw [hk]
  exact if_pos hi
theorem mx_dict {a : Nat} {es : List (V × V)} (h1 : σ.get a = some (.dict es)) : Ok (methX P C ax 7 (.ref a)) σ Q = Ok ax σ (bindK (dictMeth P (.ref a) 7) Q) := by
  rw [← ok_bind]
  refine ok_of_eq ?_
  have hk : kdOf (.ref a) σ = .dict := by unfold kdOf; simp only [h1]
  unfold methX
  rw [hk]
  exact if_pos rfl
end

noncomputable def OkW (P : Prog) (C : Calls) (F n : Nat) (c : Ex) (b : Sts) (loc : Loc) (σ : H) (Q : Option V → Loc → H → Prop) : Prop := OkS (whileL (fun l => tst P C c l (ev P C c l)) (exs P C F b) n loc σ) Q
noncomputable def OkF (P : Prog) (C : Calls) (F : Nat) (v : V) (tg : List Nat) (tup : Bool) (b : Sts) (h₀ : H) (vs : List V) (loc : Loc) (σ : H) (Q : Option V → Loc → H → Prop) : Prop := OkS (forL v tg tup (exs P C F b) h₀ vs loc σ) Q
section
variable {P : Prog} {C : Calls} {F : Nat} {loc : Loc} {σ : H} {Q : Option V → Loc → H → Prop}
theorem s_whl {c : Ex} {b : Sts} : OkS (ex P C F (.whl c b) loc σ) Q = OkW P C F F c b loc σ Q := rfl
noncomputable def turnK (P : Prog) (C : Calls) (F n : Nat) (c : Ex) (b : Sts) (Q : Option V → Loc → H → Prop) : Option V → Loc → H → Prop := fun r l σ => match r with | none => OkW P C F n c b l σ Q | some v => Q (some v) l σ
theorem turnK_none {n : Nat} {c : Ex} {b : Sts} : turnK P C F n c b Q none loc σ = OkW P C F n c b loc σ Q := rfl
theorem turnK_some {n : Nat} {c : Ex} {b : Sts} {v : V} : turnK P C F n c b Q (some v) loc σ = Q (some v) loc σ := rfl
noncomputable def whlK (P : Prog) (C : Calls) (F n : Nat) (c : Ex) (b : Sts) (loc : Loc) (Q : Option V → Loc → H → Prop) : Bool → H → Prop := fun t σ => bif t then OkS (exs P C F b loc σ) (turnK P C F n c b Q) else Q none loc σ
theorem whlK_t {n : Nat} {c : Ex} {b : Sts} : whlK P C F n c b loc Q true σ = OkS (exs P C F b loc σ) (turnK P C F n c b Q) := rfl
theorem whlK_f {n : Nat} {c : Ex} {b : Sts} : whlK P C F n c b loc Q false σ = Q none loc σ := rfl
theorem w_step {n : Nat} {c : Ex} {b : Sts} : OkW P C F (n + 1) c b loc σ Q = Ok (tst P C c loc (ev P C c loc)) σ (whlK P C F n c b loc Q) := by
  unfold OkW Ok whileL
  cases tst P C c loc (ev P C c loc) σ with
  | none => rfl
  | some p =>
    obtain ⟨tr, σ₁⟩ := p
    cases tr with
    | err k => rfl
    | ok t =>
      cases t with
      | false => rfl
      | true =>
        show OkS (match exs P C F b loc σ₁ with | none => none | some (.ok none, l₂, h₂) => _ | some (.ok (some v), l₂, h₂) => some (.ok (some v), l₂, h₂) | some (.err _, _, _) => none) Q = OkS (exs P C F b loc σ₁) _
        cases exs P C F b loc σ₁ with
        | none => rfl
        | some p₂ => obtain ⟨rr, l₂, σ₂⟩ := p₂; cases rr with
          | err k => rfl
          | ok o => cases o <;> rfl
noncomputable def forK (P : Prog) (C : Calls) (F : Nat) (tg : List Nat) (tup : Bool) (b : Sts) (loc : Loc) (Q : Option V → Loc → H → Prop) : V → H → Prop := fun v σ => ∃ vs, iterOf v σ = some vs ∧ OkF P C F v tg tup b σ vs loc σ Q
theorem forK_at {tg : List Nat} {tup : Bool} {b : Sts} {v : V} : forK P C F tg tup b loc Q v σ = ∃ vs, iterOf v σ = some vs ∧ OkF P C F v tg tup b σ vs loc σ Q := rfl
theorem s_for {tg : List Nat} {tup : Bool} {e : Ex} {b : Sts} : OkS (ex P C F (.for tg tup e b) loc σ) Q = Ok (ev P C e loc) σ (forK P C F tg tup b loc Q) := by
  refine oks_on.trans (congrArg _ ?_)
  funext v σ₁
  refine propext ⟨fun h => ?_, ?_⟩
  · unfold onK at h
    dsimp only at h
    cases hi : iterOf v σ₁ with
    | none => rw [hi] at h; exact h.elim
    | some vs => rw [hi] at h; exact ⟨vs, hi, h⟩
  · rintro ⟨vs, hi, h⟩
    unfold onK; dsimp only; rw [hi]; exact h
theorem f_nil {v : V} {tg : List Nat} {tup : Bool} {b : Sts} {h₀ : H} : OkF P C F v tg tup b h₀ [] loc σ Q = Q none loc σ := rfl
theorem f_inv {v : V} {i : Nat} {b : Sts} {h₀ : H} {vs : List V} (I : Nat → Loc → H → Prop) (h0 : I 0 loc σ)
    (step : ∀ j l s y, vs[j]? = some y → I j l s → OkS (exs P C F b (l.upd i y) s) (fun r l' s' => r = none ∧ still v h₀ s' = true ∧ I (j + 1) l' s')) (fin : ∀ l s, I vs.length l s → Q none l s) : OkF P C F v [i] false b h₀ vs loc σ Q := by
  have key : ∀ (rest : List V) (j : Nat) (l : Loc) (s : H), j ≤ vs.length → vs.drop j = rest → I j l s → OkF P C F v [i] false b h₀ rest l s Q := by
    intro rest
    induction rest with
    | nil =>
      intro j l s hle hd hI
      rw [f_nil]
      have hj : vs.length ≤ j := List.drop_eq_nil_iff.mp hd
      have hje : j = vs.length := Nat.le_antisymm hle hj
      subst hje; exact fin l s hI
    | cons y ys ih =>
      intro j l s hle hd hI
      have hj : vs[j]? = some y := by
        have : (vs.drop j)[0]? = some y := by rw [hd]; rfl
        simpa using this
      obtain ⟨r, l', s', hb, rfl, hst, hI'⟩ := oks_iff.mp (step j l s y hj hI)
      have hd' : vs.drop (j + 1) = ys := by
        have : (vs.drop j).drop 1 = ys := by rw [hd]; rfl
        simpa [Nat.add_comm] using this
      have h2 := ih (j + 1) l' s' (List.getElem?_eq_some_iff.mp hj).1 hd' hI'
      unfold OkF forL
      have hbt : bindTg [i] false y l s = some (l.upd i y) := rfl
      rw [hbt]
      dsimp only
      rw [hb]
      dsimp only
      rw [if_pos hst]
      exact h2
  exact key vs 0 loc σ (Nat.zero_le _) rfl h0
theorem compL_pure {v : V} {i : Nat} {t : Loc → X Bool} {e : Loc → X V} {h₀ : H} (p : V → Bool) (g : V → V) (hst : still v h₀ σ = true) : ∀ vs : List V, (∀ y ∈ vs, t (loc.upd i y) σ = some (.ok (p y), σ)) → (∀ y ∈ vs, p y = true → e (loc.upd i y) σ = some (.ok (g y), σ)) →
    compL v [i] false t e loc h₀ vs σ = some (.ok ((vs.filter p).map g), σ)
  | [], _, _ => rfl
  | y :: ys, h1, h2 => by
    have ih := compL_pure p g hst ys (fun z hz => h1 z (.tail _ hz)) (fun z hz => h2 z (.tail _ hz))
    unfold compL
    have hbt : bindTg [i] false y loc σ = some (loc.upd i y) := rfl
    rw [hbt]
    dsimp only
    rw [h1 y (.head _)]
    cases hp : p y with
    | false => dsimp only; rw [if_pos hst, ih, List.filter_cons, hp]; rfl
    | true => dsimp only; rw [h2 y (.head _) hp]; dsimp only; rw [if_pos hst, ih, List.filter_cons, hp]; rfl
theorem c_pure {v : V} {i : Nat} {t : Loc → X Bool} {e : Loc → X V} {vs : List V} {Q : V → H → Prop} (p : V → Bool) (g : V → V) (hi : iterOf v σ = some vs) (h1 : ∀ y ∈ vs, t (loc.upd i y) σ = some (.ok (p y), σ)) (h2 : ∀ y ∈ vs, p y = true → e (loc.upd i y) σ = some (.ok (g y), σ))
    (hl : ((vs.filter p).map g).length ≤ lim) : Ok (compX [i] false t e loc v) σ Q = Q (.ref σ.length) (σ.push (.list ((vs.filter p).map g))) := by
  refine ok_some ?_
  unfold compX
  rw [hi]
  have hst : still v σ σ = true := by cases v <;> simp [still]
  dsimp only
  unfold X.bind
  rw [compL_pure p g hst vs h1 h2]
  dsimp only
  unfold alloc
  rw [if_pos (by simpa [okO] using hl)]
theorem ok_alloc {o : O} {Q : V → H → Prop} (h : okO o = true) : Ok (alloc o) σ Q = Q (.ref σ.length) (σ.push o) := ok_some (by unfold alloc; rw [if_pos h])
theorem ok_eq {α : Type} {x : X α} {a : α} {σ' : H} (h : Ok x σ (fun b s => b = a ∧ s = σ')) : x σ = some (.ok a, σ') := by
  obtain ⟨b, s, h', rfl, rfl⟩ := ok_iff.mp h; exact h'
theorem it_list {a : Nat} {xs : List V} (h : σ.get a = some (.list xs)) : iterOf (.ref a) σ = some xs := by unfold iterOf; simp [h]
theorem it_range {a : Nat} {n : Int} (h : σ.get a = some (.rng 0 n 1)) (h0 : 0 ≤ n) (h1 : n ≤ 1000000) : iterOf (.ref a) σ = some ((List.range n.toNat).map fun (k : Nat) => V.int (k : Int)) := by
  unfold iterOf
  simp only [h]
  have c1 : small' 0 = true := by decide
  have c2 : small' n = true := by unfold small'; simp; lia
  have c3 : small' 1 = true := by decide
  rw [c1, c2, c3, if_pos (by simp [lim]; lia)]
  congr 1
  unfold rangeList
  rw [if_pos (by decide)]
  by_cases hn : 0 < n
  · rw [if_pos hn]
    have : ((n - 0 - 1) / 1 + 1).toNat = n.toNat := by lia
    rw [this, List.map_map]
    apply List.map_congr_left
    intro k _
    simp
  · have : n = 0 := by lia
    subst this; rfl
theorem still_get {a : Nat} {h h' : H} (e : h'.get a = h.get a) : still (.ref a) h h' = true := by simp [still, e]
noncomputable def Ext (σ σ' : H) : Prop := ∀ a o, σ.get a = some o → σ'.get a = some o
theorem Ext.refl (σ : H) : Ext σ σ := fun _ _ h => h
theorem Ext.trans {σ σ' σ'' : H} (h : Ext σ σ') (k : Ext σ' σ'') : Ext σ σ'' := fun a o e => k a o (h a o e)
theorem Ext.push {σ σ' : H} (h : Ext σ σ') (x : O) : Ext σ (σ'.push x) := fun a o e => by rw [get_push_lt (List.getElem?_eq_some_iff.mp (h a o e)).1]; exact h a o e
theorem Ext.still {v : V} {σ σ' : H} {vs : List V} (h : Ext σ σ') (hi : iterOf v σ = some vs) : still v σ σ' = true := by
  cases v with
  | ref a =>
    refine still_get ?_
    cases e : σ.get a with
    | none => rw [iterOf, e] at hi; cases hi
    | some o => exact h a o e
  | _ => rfl
theorem compL_grow {P : Prog} {C : Calls} {loc : Loc} {σ : H} {v : V} {tg : List Nat} {tup : Bool} {t : Loc → X Bool} {e : Loc → X V} {vs₀ : List V} (p : V → Bool) (g : V → V) (f : V → Loc) (hi : iterOf v σ = some vs₀) : ∀ (vs : List V) (τ : H), Ext σ τ →
    (∀ y ∈ vs, ∀ τ, Ext σ τ → bindTg tg tup y loc τ = some (f y)) → (∀ y ∈ vs, ∀ τ, Ext σ τ → Ok (t (f y)) τ (fun b τ' => b = p y ∧ Ext τ τ')) → (∀ y ∈ vs, p y = true → ∀ τ, Ext σ τ → Ok (e (f y)) τ (fun w τ' => w = g y ∧ Ext τ τ')) →
    ∃ τ', compL v tg tup t e loc σ vs τ = some (.ok ((vs.filter p).map g), τ') ∧ Ext σ τ'
  | [], τ, x, _, _, _ => ⟨τ, rfl, x⟩
  | y :: r, τ, x, hb, h1, h2 => by
    have hb' := fun y hy => hb y (.tail _ hy)
    have h1' := fun y hy => h1 y (.tail _ hy)
    have h2' := fun y hy => h2 y (.tail _ hy)
    obtain ⟨b, τ₁, e1, rfl, x1⟩ := ok_iff.mp (h1 y (.head _) τ x)
    have x1 := x.trans x1
    unfold compL
    rw [hb y (.head _) τ x]
    dsimp only
    rw [e1]
    cases hp : p y with
    | false =>
      obtain ⟨τ', e3, x3⟩ := compL_grow (P := P) (C := C) p g f hi r τ₁ x1 hb' h1' h2'
      dsimp only
      rw [if_pos (x1.still hi), e3, List.filter_cons_of_neg (by rw [hp]; exact Bool.false_ne_true)]
      exact ⟨τ', rfl, x3⟩
    | true =>
      obtain ⟨w, τ₂, e2, rfl, x2⟩ := ok_iff.mp (h2 y (.head _) hp τ₁ x1)
      have x2 := x1.trans x2
      obtain ⟨τ', e3, x3⟩ := compL_grow (P := P) (C := C) p g f hi r τ₂ x2 hb' h1' h2'
      dsimp only
      rw [e2]
      dsimp only
      rw [if_pos (x2.still hi), e3, List.filter_cons_of_pos hp]
      exact ⟨τ', rfl, x3⟩
theorem c_grow {P : Prog} {C : Calls} {loc : Loc} {σ : H} {v : V} {tg : List Nat} {tup : Bool} {t : Loc → X Bool} {e : Loc → X V} {vs : List V} {Q : V → H → Prop} (p : V → Bool) (g : V → V) (f : V → Loc) (hi : iterOf v σ = some vs)
    (hb : ∀ y ∈ vs, ∀ τ, Ext σ τ → bindTg tg tup y loc τ = some (f y)) (h1 : ∀ y ∈ vs, ∀ τ, Ext σ τ → Ok (t (f y)) τ (fun b τ' => b = p y ∧ Ext τ τ')) (h2 : ∀ y ∈ vs, p y = true → ∀ τ, Ext σ τ → Ok (e (f y)) τ (fun w τ' => w = g y ∧ Ext τ τ'))
    (hl : ((vs.filter p).map g).length ≤ lim) (hq : ∀ τ, Ext σ τ → Q (.ref τ.length) (τ.push (.list ((vs.filter p).map g)))) : Ok (compX tg tup t e loc v) σ Q := by
  obtain ⟨τ, e1, x⟩ := compL_grow (P := P) (C := C) p g f hi vs σ (Ext.refl _) hb h1 h2
  unfold Ok compX
  rw [hi]
  dsimp only
  unfold X.bind
  rw [e1]
  dsimp only
  unfold alloc
  rw [if_pos (by simpa [okO] using hl)]
  exact hq τ x
end
end Mine

set_option autoImplicit false
namespace Mine.PP
open PySem Mine
noncomputable def m___init___5 : Sts := .cons (.asg (.attr (.loc 46) 51) (.cint 0)) .nil
noncomputable def m___init___4 : Sts := .cons (.asg (.attr (.loc 46) 50) (.dict .nil .nil)) m___init___5
noncomputable def m___init___3 : Sts := .cons (.asg (.attr (.loc 46) 49) (.dict .nil .nil)) m___init___4
noncomputable def m___init___2 : Sts := .cons (.asg (.attr (.loc 46) 48) (.dict .nil .nil)) m___init___3
noncomputable def m___init___1 : Sts := .cons (.asg (.attr (.loc 46) 47) (.comp .cnone [14] false (.bi .range (.cons (.glo 21) .nil)) .nil)) m___init___2
noncomputable def m___init__ : FD := ⟨[46], m___init___1⟩
noncomputable def m_need_hand : FD := ⟨[46, 52],
  (.cons (.ite (.not (.cmp2 .LtE .Lt (.cint 0) (.loc 52) (.glo 21)))
    .any
    .nil)
  .nil)⟩
noncomputable def m_need_box : FD := ⟨[46, 53],
  (.cons (.ite (.cmp .NotIn (.loc 53) (.attr (.loc 46) 48))
    .any
    .nil)
  .nil)⟩
noncomputable def m_counted : FD := ⟨[46, 53],
  (.cons (.ite (.cmp .IsNot (.loc 53) .cnone)
    (.cons (.asg (.sub (.attr (.loc 46) 49) (.loc 53)) (.bin .Add (.sub (.attr (.loc 46) 49) (.loc 53)) (.cint 1)))
    .nil)
    .nil)
  .nil)⟩
noncomputable def m_let_go_5 : Sts := .cons (.ret (.loc 55)) .nil
noncomputable def m_let_go_4w_3 : Sts := .cons (.asg (.var 56) (.bin .Add (.loc 56) (.cint 1))) .nil
noncomputable def m_let_go_4w_2f_1 : Sts := .cons (.expr (.meth (.loc 46) 31 (.cons (.loc 60) (.cons (.loc 55) .nil)))) .nil
noncomputable def m_let_go_4w_2 : Sts := .cons (.for [60] false (.loc 62) m_let_go_4w_2f_1) m_let_go_4w_3
noncomputable def m_let_go_4w_1 : Sts := .cons (.asg (.var 62) (.meth (.attr (.loc 46) 48) 7 (.cons (.sub (.loc 55) (.loc 56)) .nil))) m_let_go_4w_2
noncomputable def m_let_go_4 : Sts := .cons (.whl (.cmp .Lt (.loc 56) (.bi .len (.cons (.loc 55) .nil))) m_let_go_4w_1) m_let_go_5
noncomputable def m_let_go_3 : Sts := .cons (.asg (.var 56) (.cint 0)) m_let_go_4
noncomputable def m_let_go_2 : Sts := .cons (.expr (.meth (.loc 46) 31 (.cons (.loc 53) (.cons (.loc 55) .nil)))) m_let_go_3
noncomputable def m_let_go_1 : Sts := .cons (.asg (.var 55) (.list .nil)) m_let_go_2
noncomputable def m_let_go : FD := ⟨[46, 53], m_let_go_1⟩
noncomputable def m_lighter : FD := ⟨[46, 53, 55],
  (.cons (.ite (.cmp .Is (.loc 53) .cnone)
    (.cons .ret0
    .nil)
    .nil)
  (.cons (.asg (.sub (.attr (.loc 46) 49) (.loc 53)) (.bin .Sub (.sub (.attr (.loc 46) 49) (.loc 53)) (.cint 1)))
  (.cons (.ite (.cmp .Gt (.sub (.attr (.loc 46) 49) (.loc 53)) (.cint 0))
    (.cons (.asg (.sub (.attr (.loc 46) 50) (.loc 53)) (.cbool true))
    (.cons .ret0
    .nil))
    .nil)
  (.cons (.expr (.meth (.attr (.loc 46) 49) 7 (.cons (.loc 53) .nil)))
  (.cons (.expr (.meth (.attr (.loc 46) 50) 7 (.cons (.loc 53) (.cons (.cbool false) .nil))))
  (.cons (.expr (.meth (.loc 55) 6 (.cons (.loc 53) .nil)))
  .nil))))))⟩
noncomputable def m_handed_4 : Sts := .cons (.ret (.meth (.loc 46) 30 (.cons (.loc 57) .nil))) .nil
noncomputable def m_handed_3 : Sts := .cons (.asg (.sub (.attr (.loc 46) 47) (.loc 52)) (.loc 53)) m_handed_4
noncomputable def m_handed_2 : Sts := .cons (.asg (.var 57) (.sub (.attr (.loc 46) 47) (.loc 52))) m_handed_3
noncomputable def m_handed_1 : Sts := .cons (.expr (.meth (.loc 46) 29 (.cons (.loc 53) .nil))) m_handed_2
noncomputable def m_handed : FD := ⟨[46, 52, 53], m_handed_1⟩
noncomputable def m_make_8 : Sts := .cons (.ret (.meth (.loc 46) 32 (.cons (.loc 52) (.cons (.loc 53) .nil)))) .nil
noncomputable def m_make_7 : Sts := .cons (.asg (.sub (.attr (.loc 46) 49) (.loc 53)) (.cint 0)) m_make_8
noncomputable def m_make_6 : Sts := .cons (.asg (.sub (.attr (.loc 46) 48) (.loc 53)) (.comp .cnone [14] false (.bi .range (.cons (.loc 59) .nil)) .nil)) m_make_7
noncomputable def m_make_5 : Sts := .cons (.asg (.attr (.loc 46) 51) (.bin .Add (.loc 53) (.cint 1))) m_make_6
noncomputable def m_make_4 : Sts := .cons (.asg (.var 53) (.attr (.loc 46) 51)) m_make_5
noncomputable def m_make_3 : Sts := .cons (.ite (.cmp .Eq (.bi .len (.cons (.attr (.loc 46) 48) .nil)) (.glo 23)) .any .nil) m_make_4
noncomputable def m_make_2 : Sts := .cons (.ite (.not (.cmp2 .LtE .LtE (.cint 0) (.loc 59) (.glo 22))) .any .nil) m_make_3
noncomputable def m_make_1 : Sts := .cons (.expr (.meth (.loc 46) 26 (.cons (.loc 52) .nil))) m_make_2
noncomputable def m_make : FD := ⟨[46, 52, 59], m_make_1⟩
noncomputable def m_hold : FD := ⟨[46, 52, 60],
  (.cons (.expr (.meth (.loc 46) 26 (.cons (.loc 52) .nil)))
  (.cons (.expr (.meth (.loc 46) 26 (.cons (.loc 60) .nil)))
  (.cons (.ret (.meth (.loc 46) 32 (.cons (.loc 52) (.cons (.sub (.attr (.loc 46) 47) (.loc 60)) .nil))))
  .nil)))⟩
noncomputable def m_drop : FD := ⟨[46, 52],
  (.cons (.expr (.meth (.loc 46) 26 (.cons (.loc 52) .nil)))
  (.cons (.ret (.meth (.loc 46) 32 (.cons (.loc 52) (.cons .cnone .nil))))
  .nil))⟩
noncomputable def m_holds : FD := ⟨[46, 52],
  (.cons (.expr (.meth (.loc 46) 26 (.cons (.loc 52) .nil)))
  (.cons (.ret (.sub (.attr (.loc 46) 47) (.loc 52)))
  .nil))⟩
noncomputable def m_weighs : FD := ⟨[46, 53],
  (.cons (.expr (.meth (.loc 46) 27 (.cons (.loc 53) .nil)))
  (.cons (.ret (.sub (.attr (.loc 46) 49) (.loc 53)))
  .nil))⟩
noncomputable def m_alive : FD := ⟨[46],
  (.cons (.ret (.bi .sorted (.cons (.attr (.loc 46) 48) .nil)))
  .nil)⟩
noncomputable def m_suspects : FD := ⟨[46],
  (.cons (.ret (.bi .sorted (.cons (.attr (.loc 46) 50) .nil)))
  .nil)⟩
noncomputable def f__law_whole : FD := ⟨[67],
  (.cons (.ret (.band (.cons (.isi (.loc 67) [0]) (.cons (.not (.isi (.loc 67) [1])) .nil))))
  .nil)⟩
noncomputable def f__law_numbers : FD := ⟨[67, 73],
  (.cons (.ite (.bor (.cons (.not (.isi (.loc 67) [2])) (.cons (.cmp .NotEq (.bi .len (.cons (.loc 67) .nil)) (.bi .len (.cons (.loc 73) .nil))) .nil)))
    .any
    .nil)
  (.cons (.for [71] false (.bi .range (.cons (.bi .len (.cons (.loc 73) .nil)) .nil))
    (.cons (.ite (.cmp .Is (.sub (.loc 73) (.loc 71)) .cnone)
      (.cons (.ite (.cmp .IsNot (.sub (.loc 67) (.loc 71)) .cnone)
        .any
        .nil)
      .nil)
      (.cons (.ite (.bor (.cons (.not (.call 66 (.cons (.sub (.loc 67) (.loc 71)) .nil))) (.cons (.cmp .NotEq (.sub (.loc 67) (.loc 71)) (.sub (.loc 73) (.loc 71))) .nil)))
        .any
        .nil)
      .nil))
    .nil))
  (.cons (.ret (.cbool true))
  .nil)))⟩
end Mine.PP

set_option autoImplicit false
set_option linter.unusedSimpArgs false
set_option linter.unusedVariables false
namespace Mine
open PySem (Str PyData)

theorem count_set {xs : List (Option Nat)} {i : Nat} {x y : Option Nat} (h : i < xs.length) : (xs.set i x).count y + (if (xs[i]?).getD none == y then 1 else 0) = xs.count y + (if x == y then 1 else 0) := by
  induction xs generalizing i with
  | nil => simp at h
  | cons a r ih =>
    cases i with
    | zero => simp only [List.set_cons_zero, List.count_cons, List.getElem?_cons_zero, Option.getD_some]; lia
    | succ i =>
      have := ih (i := i) (by simpa using h)
      simp only [List.set_cons_succ, List.count_cons, List.getElem?_cons_succ]; lia
noncomputable def addN (l : List Nat) (k : Nat) : List Nat := if k ∈ l then l else l ++ [k]
theorem upd_at {l : Loc} {i : Nat} {v : V} : l.upd i v i = some v := by rw [upd_def, beq_self_eq_true]; rfl
section
variable {P : Prog} {σ : H}
theorem ok_getAttr {p d n : Nat} {c : Nat} {es : List (Nat × V)} {v : V} {Q : V → H → Prop} (h1 : σ.get p = some (.inst c d)) (h2 : σ.get d = some (.attrs es)) (h3 : aget es n = some v) : Ok (getAttr (.ref p) n) σ Q = Q v σ :=
  ok_some (by unfold getAttr; simp [h1, h2, h3])
theorem ok_is {a : V} {Q : V → H → Prop} : Ok (cmpop P .Is a .none) σ Q = Q (.bool (decide (a = .none))) σ := rfl
theorem ok_isNot {a : V} {Q : V → H → Prop} : Ok (cmpop P .IsNot a .none) σ Q = Q (.bool (decide (a ≠ .none))) σ := rfl
theorem ok_gt {a b : Int} {Q : V → H → Prop} : Ok (cmpop P .Gt (.int a) (.int b)) σ Q = Q (.bool (decide (a > b))) σ := rfl
theorem ok_lt {a b : Int} {Q : V → H → Prop} : Ok (cmpop P .Lt (.int a) (.int b)) σ Q = Q (.bool (decide (a < b))) σ := rfl
theorem ok_le {a b : Int} {Q : V → H → Prop} : Ok (cmpop P .LtE (.int a) (.int b)) σ Q = Q (.bool (decide (a ≤ b))) σ := rfl
theorem eqv_int {a b : Int} : PyData.eqv (.int a) (.int b) = decide (a = b) := rfl
theorem ok_eqI {a b : Int} {Q : V → H → Prop} : Ok (cmpop P .Eq (.int a) (.int b)) σ Q = Q (.bool (decide (a = b))) σ := ok_some (by
  show some (R.ok (V.bool (PyData.eqv (.int a) (.int b))), σ) = _
  rw [eqv_int])
theorem ok_neI {a b : Int} {Q : V → H → Prop} : Ok (cmpop P .NotEq (.int a) (.int b)) σ Q = Q (.bool (!decide (a = b))) σ := ok_some (by
  show some (R.ok (V.bool (!PyData.eqv (.int a) (.int b))), σ) = _
  rw [eqv_int])
theorem ok_truthb {b : Bool} {Q : Bool → H → Prop} : Ok (truth (.bool b)) σ Q = Q b σ := rfl
theorem ok_add {a b : Int} {Q : V → H → Prop} : Ok (binop .Add (.int a) (.int b)) σ Q = Q (.int (a + b)) σ := rfl
theorem ok_sub {a b : Int} {Q : V → H → Prop} : Ok (binop .Sub (.int a) (.int b)) σ Q = Q (.int (a - b)) σ := rfl
theorem ok_getDict {a : Nat} {es : List (V × V)} {k v : V} {Q : V → H → Prop} (h1 : σ.get a = some (.dict es)) (hk : isKey k = true) (h3 : dget es k = some v) : Ok (getItem P (.ref a) k) σ Q = Q v σ :=
  ok_some (by unfold getItem; cases k <;> simp_all [isKey])
theorem ok_getList {a : Nat} {xs : List V} {k : Int} {v : V} {Q : V → H → Prop} (h1 : σ.get a = some (.list xs)) (hk : 0 ≤ k) (h3 : xs[k.toNat]? = some v) : Ok (getItem P (.ref a) (.int k)) σ Q = Q v σ := by
  refine ok_some ?_
  have : k < xs.length := by have := (List.getElem?_eq_some_iff.mp h3).1; lia
  unfold getItem idx; simp only [h1, hk, this, and_self, if_true, Option.bind_some, h3, Option.map_some]
theorem getM_of {a : Nat} {o : O} (h1 : σ.get a = some o) (ha : P.nf ≤ a) : σ.getM P a = some o := by unfold H.getM; rw [if_pos ha]; exact h1
theorem ok_setDict {a : Nat} {es : List (V × V)} {k v : V} {Q : Unit → H → Prop} (h1 : σ.get a = some (.dict es)) (ha : P.nf ≤ a) (hk : isKey k = true) (h3 : (dset es k v).length ≤ lim) : Ok (setItem P (.ref a) k v) σ Q = Q () (σ.put a (.dict (dset es k v))) :=
  ok_some (by
    have := getM_of h1 ha
    unfold setItem; cases k <;> simp_all [isKey, okO])
theorem ok_setList {a : Nat} {xs : List V} {k : Int} {v : V} {Q : Unit → H → Prop} (h1 : σ.get a = some (.list xs)) (ha : P.nf ≤ a) (hk : 0 ≤ k) (h3 : k < xs.length) : Ok (setItem P (.ref a) (.int k) v) σ Q = Q () (σ.put a (.list (xs.set k.toNat v))) :=
  ok_some (by
    have := getM_of h1 ha
    unfold setItem idx; simp [this, hk, h3])
theorem ok_append {a : Nat} {xs : List V} {v : V} {Q : V → H → Prop} (h1 : σ.get a = some (.list xs)) (ha : P.nf ≤ a) (h3 : (xs ++ [v]).length ≤ lim) : Ok (listMeth P (.ref a) 6 [v]) σ Q = Q .none (σ.put a (.list (xs ++ [v]))) :=
  ok_some (by
    have := getM_of h1 ha
    unfold listMeth; simp only [this]
    show grow a (.list (xs ++ [v])) .none σ = _
    unfold grow; rw [if_pos (by simpa [okO] using h3)])
theorem ok_setAttr {p d n : Nat} {c : Nat} {es : List (Nat × V)} {v : V} {Q : Unit → H → Prop} (h1 : σ.get p = some (.inst c d)) (h2 : σ.get d = some (.attrs es)) (hd : P.nf ≤ d) (ha : P.attrs.contains n = true) (hl : (aset es n v).length ≤ 100) : Ok (setAttr P (.ref p) n v) σ Q = Q () (σ.put d (.attrs (aset es n v))) :=
  ok_some (by
    have : σ.getM P d = some (.attrs es) := by unfold H.getM; rw [if_pos hd]; exact h2
    unfold setAttr; simp only [h1, this]; rw [if_pos (by rw [ha]; simpa using hl)])
theorem ok_lenL {a : Nat} {xs : List V} {Q : V → H → Prop} (h : σ.get a = some (.list xs)) : Ok (builtin .len [.ref a]) σ Q = Q (.int xs.length) σ := ok_some (by show biLen (.ref a) σ = _; unfold biLen; simp [h])
theorem ok_lenD {a : Nat} {xs : List (V × V)} {Q : V → H → Prop} (h : σ.get a = some (.dict xs)) : Ok (builtin .len [.ref a]) σ Q = Q (.int xs.length) σ := ok_some (by show biLen (.ref a) σ = _; unfold biLen; simp [h])
theorem ok_range1 {n : Int} {Q : V → H → Prop} : Ok (builtin .range [.int n]) σ Q = Q (.ref σ.length) (σ.push (.rng 0 n 1)) := rfl
theorem ok_sortedD {a : Nat} {es : List (V × V)} {ns : List Int} {Q : V → H → Prop} (h1 : σ.get a = some (.dict es)) (h2 : intsOf (es.map (·.1)) = some ns) (h3 : ns.length < 64) : Ok (builtin .sorted [.ref a]) σ Q = Q (.ref σ.length) (σ.push (.list ((sortI ns).map .int))) := ok_some (by
  show biSorted (.ref a) σ = _; simp [biSorted, onRef, sortedI, h1, h2, h3])
theorem ok_notInD {a : Nat} {es : List (V × V)} {k : V} {Q : V → H → Prop} (h1 : σ.get a = some (.dict es)) (hk : isKey k = true) : Ok (cmpop P .NotIn k (.ref a)) σ Q = Q (.bool (!(dget es k).isSome)) σ := ok_some (by
  unfold cmpop contains X.bind; simp [h1, hk, X.pure])
theorem ok_sortedL {a : Nat} {xs : List V} {ns : List Int} {Q : V → H → Prop} (h1 : σ.get a = some (.list xs)) (h2 : intsOf xs = some ns) (h3 : ns.length < 64) : Ok (builtin .sorted [.ref a]) σ Q = Q (.ref σ.length) (σ.push (.list ((sortI ns).map .int))) := ok_some (by
  show biSorted (.ref a) σ = _; simp [biSorted, onRef, sortedI, h1, h2, h3])
theorem ok_dpop1 {a : Nat} {es : List (V × V)} {k v : V} {Q : V → H → Prop} (h1 : σ.get a = some (.dict es)) (ha : P.nf ≤ a) (hk : isKey k = true) (h3 : dget es k = some v) : Ok (dictMeth P (.ref a) 7 [k]) σ Q = Q v (σ.put a (.dict (ddel es k))) :=
  ok_some (by
    have := getM_of h1 ha
    unfold dictMeth; simp [this, hk, h3, idPop])
theorem ok_dpop2 {a : Nat} {es : List (V × V)} {k d : V} {Q : V → H → Prop} (h1 : σ.get a = some (.dict es)) (ha : P.nf ≤ a) (hk : isKey k = true) (h3 : dget es k = none) : Ok (dictMeth P (.ref a) 7 [k, d]) σ Q = Q d σ :=
  ok_some (by
    have := getM_of h1 ha
    unfold dictMeth; simp [this, hk, h3, idPop])
theorem put_same {a : Nat} {o : O} (h : σ.get a = some o) : σ.put a o = σ := by
  unfold H.put H.get at *
  apply List.ext_getElem?
  intro i
  rw [List.getElem?_set]
  split
  · rename_i e; subst e; split
    · exact h.symm
    · rename_i hl; exact absurd (List.getElem?_eq_some_iff.mp h).1 hl
  · rfl
end
theorem ddel_none {es : List (V × V)} {k : V} (h : dget es k = none) : ddel es k = es := by
  induction es with
  | nil => rfl
  | cons p r ih =>
    obtain ⟨a, b⟩ := p
    simp only [dget, ddel] at h ⊢
    split at h
    · cases h
    · rename_i e; rw [if_neg e, ih h]
theorem ok_dpopD {P : Prog} {σ : H} {a : Nat} {es : List (V × V)} {k d : V} {Q : V → H → Prop} (h1 : σ.get a = some (.dict es)) (ha : P.nf ≤ a) (hk : isKey k = true) (h : ∀ v, Q v (σ.put a (.dict (ddel es k)))) : Ok (dictMeth P (.ref a) 7 [k, d]) σ Q := by
  cases hd : dget es k with
  | none =>
    rw [ok_dpop2 h1 ha hk hd]
    have := h d
    rwa [ddel_none hd, put_same h1] at this
  | some v =>
    refine (ok_some (σ' := σ.put a (.dict (ddel es k))) (a := v) ?_).mpr (h v)
    have := getM_of h1 ha
    unfold dictMeth; simp [this, hk, hd, idPop]
noncomputable def dD (q : List Nat) : List (V × V) := q.map fun (k : Nat) => (V.int (k : Int), V.bool true)
theorem dD_set {k : Nat} : ∀ {q : List Nat}, dset (dD q) (.int k) (.bool true) = dD (addN q k)
  | [] => rfl
  | a :: r => by
    have ih := dD_set (k := k) (q := r)
    show (if V.int a = V.int k then (V.int a, V.bool true) :: dD r else (V.int a, V.bool true) :: dset (dD r) (.int k) (.bool true)) = _
    rw [ih]
    by_cases e : a = k
    · subst e; simp [addN, dD]
    · have : ¬ (V.int (a : Int) = V.int (k : Int)) := fun h => e (by injection h with h; exact Int.ofNat.inj h)
      rw [if_neg this]
      unfold addN
      by_cases hk : k ∈ r
      · simp [hk, dD]
      · simp [hk, Ne.symm e, dD]
theorem dD_keys {q : List Nat} : intsOf ((dD q).map (·.1)) = some (q.map Int.ofNat) := by
  induction q with
  | nil => rfl
  | cons p r ih => unfold dD at *; simp only [List.map_cons, intsOf] at *; rw [ih]; rfl
noncomputable def ov : Option Nat → V
  | none => .none
  | some k => .int (k : Int)
theorem get_lt {σ : H} {a : Nat} {o : O} (h : σ.get a = some o) : a < σ.length := (List.getElem?_eq_some_iff.mp h).1
structure LawP (P : Prog) : Prop where
  f66 : P.funs.lookup 66 = some PP.f__law_whole
  f72 : P.funs.lookup 72 = some PP.f__law_numbers
section
variable {P : Prog} {σ : H}
theorem ok_isi {x : V} {k : Nat} {b : Bool} {Q : Bool → H → Prop} (h : isinsts P x [k] σ = some (.ok b, σ)) : Ok (isinsts P x [k]) σ Q = Q b σ := ok_some h
theorem isi_int {i : Int} : isinsts P (.int i) [0] σ = some (.ok true, σ) := rfl
theorem isi_intb {i : Int} : isinsts P (.int i) [1] σ = some (.ok false, σ) := rfl
theorem isi_list {a : Nat} {xs : List V} (h : σ.get a = some (.list xs)) : isinsts P (.ref a) [2] σ = some (.ok true, σ) := by
  show (if 2 ≤ 4 then isinst P (.ref a) 2 else X.none) σ = _
  rw [if_pos (by decide)]
  unfold isinst; simp [h, idList]
theorem whole_ok (hL : LawP P) {d : Nat} {i : Int} {Q : V → H → Prop} (h : Q (.bool true) σ) : Ok (run P 1000 (d + 1) false 66 [.int i]) σ Q := by
  rw [ok_run (fd := PP.f__law_whole) hL.f66 rfl]
  simp (disch := decide) only [PP.f__law_whole, ea_cons, ea_one, eandF_t, eandF_f, ok_isi isi_int, ok_isi isi_intb, ok_truthb, oks_cons, oks_nil, then_none, then_some, s_expr, exprK_at, s_var, varK_at, s_attr, attrK_at, attrK2_at, s_sub, subK_at, subK2_at, subK3_at, s_ite, iteK_t, iteK_f, s_ret, retK_at, s_ret0, s_pass, runK_some, runK_none, forK_at, turnK_none, turnK_some, whlK_t, whlK_f, tt_not, tt_band, tt_bor, tt_bool, tt_loc, tt_cmp, tt_cmp2, tt_call, tt_meth, tt_isi, tt_attr, tt_sub, tt_bin, tnotF_t, tnotF_f, ta_nil, ta_cons, andF_t, andF_f, to_nil, to_cons, orF_t, orF_f, e_none, e_bool, e_int, e_str, e_loc, e_bin, binF_at, e_not, notF_at, notF2_t, notF2_f, e_band, e_bor, e_cmp, cmpF_at, e_cmp2, cmpG_t, cmpG_f, e_list, listF_at, e_tup, tupF_at, e_dict0, e_attr, attrF_at, e_sub, subF_at, e_slice, e_sset, e_call, e_meth, methF_at, e_bi, e_isi, isiF_at, boolF_at, e_comp, es_nil, es_cons, consF_at, consF2_at, ok_bind, bindK_at, bind_pure, bind_lift, ok_pure, ok_lift, List.zip_cons_cons, List.zip_nil_right, List.zip_nil_left, List.foldl_cons, List.foldl_nil, upd_def, Nat.reduceBEq, bif_t, bif_f, if_true, if_false, Bool.false_eq_true, reduceCtorEq, Nat.reduceEqDiff, ne_eq, not_false_eq_true, not_true_eq_false, decide_true, decide_false, Bool.not_true, Bool.not_false]
  exact h
theorem rng_at {n : Int} {j : Nat} {y : V} (h : ((List.range n.toNat).map fun (k : Nat) => V.int (k : Int))[j]? = some y) : (j : Int) < n ∧ y = .int (j : Int) := by
  rw [List.getElem?_map] at h
  obtain ⟨q, hq, rfl⟩ := Option.map_eq_some_iff.mp h
  obtain ⟨q1, q2⟩ := List.getElem?_eq_some_iff.mp hq
  simp at q1 q2
  subst q2
  exact ⟨by lia, rfl⟩
theorem numbers_ok (hL : LawP P) {d a b : Nat} {xs : List V} {Q : V → H → Prop} (ha : σ.get a = some (.list xs)) (hb : σ.get b = some (.list xs)) (hx : ∀ x ∈ xs, x = V.none ∨ ∃ i, x = V.int i) (hl : xs.length ≤ 1000) (h : Q (.bool true) (σ.push (.rng 0 xs.length 1))) :
    Ok (run P 1000 (d + 2) false 72 [.ref a, .ref b]) σ Q := by
  have alt := get_lt ha
  have blt := get_lt hb
  rw [ok_run (fd := PP.f__law_numbers) hL.f72 rfl]
  simp (disch := decide) only [PP.f__law_numbers, ok_isi (isi_list ha), ok_truthb, ok_lenL ha, ok_lenL hb, ok_neI, ok_range1, s_for, oks_cons, oks_nil, then_none, then_some, s_expr, exprK_at, s_var, varK_at, s_attr, attrK_at, attrK2_at, s_sub, subK_at, subK2_at, subK3_at, s_ite, iteK_t, iteK_f, s_ret, retK_at, s_ret0, s_pass, runK_some, runK_none, forK_at, turnK_none, turnK_some, whlK_t, whlK_f, tt_not, tt_band, tt_bor, tt_bool, tt_loc, tt_cmp, tt_cmp2, tt_call, tt_meth, tt_isi, tt_attr, tt_sub, tt_bin, tnotF_t, tnotF_f, ta_nil, ta_cons, andF_t, andF_f, to_nil, to_cons, orF_t, orF_f, e_none, e_bool, e_int, e_str, e_loc, e_bin, binF_at, e_not, notF_at, notF2_t, notF2_f, e_band, e_bor, e_cmp, cmpF_at, e_cmp2, cmpG_t, cmpG_f, e_list, listF_at, e_tup, tupF_at, e_dict0, e_attr, attrF_at, e_sub, subF_at, e_slice, e_sset, e_call, e_meth, methF_at, e_bi, e_isi, isiF_at, boolF_at, e_comp, es_nil, es_cons, consF_at, consF2_at, ok_bind, bindK_at, bind_pure, bind_lift, ok_pure, ok_lift, List.zip_cons_cons, List.zip_nil_right, List.zip_nil_left, List.foldl_cons, List.foldl_nil, upd_def, Nat.reduceBEq, bif_t, bif_f, if_true, if_false, Bool.false_eq_true, reduceCtorEq, Nat.reduceEqDiff, ne_eq, not_false_eq_true, not_true_eq_false, decide_true, decide_false, Bool.not_true, Bool.not_false]
  have ha1 : (σ.push (.rng 0 xs.length 1)).get a = some (.list xs) := by rw [get_push_lt alt]; exact ha
  have hb1 : (σ.push (.rng 0 xs.length 1)).get b = some (.list xs) := by rw [get_push_lt blt]; exact hb
  refine ⟨_, it_range get_push_eq (by lia) (by lia), f_inv (fun _ l s => s = σ.push (.rng 0 xs.length 1) ∧ l 67 = some (.ref a) ∧ l 73 = some (.ref b)) ⟨rfl, rfl, rfl⟩ (fun j l s y hy ⟨e, e1, e2⟩ => ?_) fun l s ⟨e, e1, e2⟩ => ?_⟩
  · subst e
    have hj := rng_at hy
    obtain ⟨hj, rfl⟩ := hj
    have hj : j < xs.length := by lia
    have hg : xs[(j : Int).toNat]? = some xs[j] := by simp
    rcases hx xs[j] (List.getElem_mem hj) with hn | ⟨i, hi⟩
    · rw [hn] at hg
      simp (disch := decide) only [e1, e2, ok_getList hb1 (Int.natCast_nonneg j) hg, ok_getList ha1 (Int.natCast_nonneg j) hg, ok_is, ok_isNot, ok_truthb, oks_cons, oks_nil, then_none, then_some, s_expr, exprK_at, s_var, varK_at, s_attr, attrK_at, attrK2_at, s_sub, subK_at, subK2_at, subK3_at, s_ite, iteK_t, iteK_f, s_ret, retK_at, s_ret0, s_pass, runK_some, runK_none, forK_at, turnK_none, turnK_some, whlK_t, whlK_f, tt_not, tt_band, tt_bor, tt_bool, tt_loc, tt_cmp, tt_cmp2, tt_call, tt_meth, tt_isi, tt_attr, tt_sub, tt_bin, tnotF_t, tnotF_f, ta_nil, ta_cons, andF_t, andF_f, to_nil, to_cons, orF_t, orF_f, e_none, e_bool, e_int, e_str, e_loc, e_bin, binF_at, e_not, notF_at, notF2_t, notF2_f, e_band, e_bor, e_cmp, cmpF_at, e_cmp2, cmpG_t, cmpG_f, e_list, listF_at, e_tup, tupF_at, e_dict0, e_attr, attrF_at, e_sub, subF_at, e_slice, e_sset, e_call, e_meth, methF_at, e_bi, e_isi, isiF_at, boolF_at, e_comp, es_nil, es_cons, consF_at, consF2_at, ok_bind, bindK_at, bind_pure, bind_lift, ok_pure, ok_lift, List.zip_cons_cons, List.zip_nil_right, List.zip_nil_left, List.foldl_cons, List.foldl_nil, upd_def, Nat.reduceBEq, bif_t, bif_f, if_true, if_false, Bool.false_eq_true, reduceCtorEq, Nat.reduceEqDiff, ne_eq, not_false_eq_true, not_true_eq_false, decide_true, decide_false, Bool.not_true, Bool.not_false]
      exact ⟨trivial, still_get rfl, trivial, trivial, trivial⟩
    · rw [hi] at hg
      simp (disch := decide) only [e1, e2, ok_getList hb1 (Int.natCast_nonneg j) hg, ok_getList ha1 (Int.natCast_nonneg j) hg, ok_is, ok_isNot, ok_truthb, oks_cons, oks_nil, then_none, then_some, s_expr, exprK_at, s_var, varK_at, s_attr, attrK_at, attrK2_at, s_sub, subK_at, subK2_at, subK3_at, s_ite, iteK_t, iteK_f, s_ret, retK_at, s_ret0, s_pass, runK_some, runK_none, forK_at, turnK_none, turnK_some, whlK_t, whlK_f, tt_not, tt_band, tt_bor, tt_bool, tt_loc, tt_cmp, tt_cmp2, tt_call, tt_meth, tt_isi, tt_attr, tt_sub, tt_bin, tnotF_t, tnotF_f, ta_nil, ta_cons, andF_t, andF_f, to_nil, to_cons, orF_t, orF_f, e_none, e_bool, e_int, e_str, e_loc, e_bin, binF_at, e_not, notF_at, notF2_t, notF2_f, e_band, e_bor, e_cmp, cmpF_at, e_cmp2, cmpG_t, cmpG_f, e_list, listF_at, e_tup, tupF_at, e_dict0, e_attr, attrF_at, e_sub, subF_at, e_slice, e_sset, e_call, e_meth, methF_at, e_bi, e_isi, isiF_at, boolF_at, e_comp, es_nil, es_cons, consF_at, consF2_at, ok_bind, bindK_at, bind_pure, bind_lift, ok_pure, ok_lift, List.zip_cons_cons, List.zip_nil_right, List.zip_nil_left, List.foldl_cons, List.foldl_nil, upd_def, Nat.reduceBEq, bif_t, bif_f, if_true, if_false, Bool.false_eq_true, reduceCtorEq, Nat.reduceEqDiff, ne_eq, not_false_eq_true, not_true_eq_false, decide_true, decide_false, Bool.not_true, Bool.not_false]
      refine whole_ok hL ?_
      simp (disch := decide) only [e1, e2, ok_getList hb1 (Int.natCast_nonneg j) hg, ok_getList ha1 (Int.natCast_nonneg j) hg, ok_neI, ok_truthb, oks_cons, oks_nil, then_none, then_some, s_expr, exprK_at, s_var, varK_at, s_attr, attrK_at, attrK2_at, s_sub, subK_at, subK2_at, subK3_at, s_ite, iteK_t, iteK_f, s_ret, retK_at, s_ret0, s_pass, runK_some, runK_none, forK_at, turnK_none, turnK_some, whlK_t, whlK_f, tt_not, tt_band, tt_bor, tt_bool, tt_loc, tt_cmp, tt_cmp2, tt_call, tt_meth, tt_isi, tt_attr, tt_sub, tt_bin, tnotF_t, tnotF_f, ta_nil, ta_cons, andF_t, andF_f, to_nil, to_cons, orF_t, orF_f, e_none, e_bool, e_int, e_str, e_loc, e_bin, binF_at, e_not, notF_at, notF2_t, notF2_f, e_band, e_bor, e_cmp, cmpF_at, e_cmp2, cmpG_t, cmpG_f, e_list, listF_at, e_tup, tupF_at, e_dict0, e_attr, attrF_at, e_sub, subF_at, e_slice, e_sset, e_call, e_meth, methF_at, e_bi, e_isi, isiF_at, boolF_at, e_comp, es_nil, es_cons, consF_at, consF2_at, ok_bind, bindK_at, bind_pure, bind_lift, ok_pure, ok_lift, List.zip_cons_cons, List.zip_nil_right, List.zip_nil_left, List.foldl_cons, List.foldl_nil, upd_def, Nat.reduceBEq, bif_t, bif_f, if_true, if_false, Bool.false_eq_true, reduceCtorEq, Nat.reduceEqDiff, ne_eq, not_false_eq_true, not_true_eq_false, decide_true, decide_false, Bool.not_true, Bool.not_false]
      exact ⟨trivial, still_get rfl, trivial, trivial, trivial⟩
  · subst e
    simp (disch := decide) only [oks_cons, oks_nil, then_none, then_some, s_expr, exprK_at, s_var, varK_at, s_attr, attrK_at, attrK2_at, s_sub, subK_at, subK2_at, subK3_at, s_ite, iteK_t, iteK_f, s_ret, retK_at, s_ret0, s_pass, runK_some, runK_none, forK_at, turnK_none, turnK_some, whlK_t, whlK_f, tt_not, tt_band, tt_bor, tt_bool, tt_loc, tt_cmp, tt_cmp2, tt_call, tt_meth, tt_isi, tt_attr, tt_sub, tt_bin, tnotF_t, tnotF_f, ta_nil, ta_cons, andF_t, andF_f, to_nil, to_cons, orF_t, orF_f, e_none, e_bool, e_int, e_str, e_loc, e_bin, binF_at, e_not, notF_at, notF2_t, notF2_f, e_band, e_bor, e_cmp, cmpF_at, e_cmp2, cmpG_t, cmpG_f, e_list, listF_at, e_tup, tupF_at, e_dict0, e_attr, attrF_at, e_sub, subF_at, e_slice, e_sset, e_call, e_meth, methF_at, e_bi, e_isi, isiF_at, boolF_at, e_comp, es_nil, es_cons, consF_at, consF2_at, ok_bind, bindK_at, bind_pure, bind_lift, ok_pure, ok_lift, List.zip_cons_cons, List.zip_nil_right, List.zip_nil_left, List.foldl_cons, List.foldl_nil, upd_def, Nat.reduceBEq, bif_t, bif_f, if_true, if_false, Bool.false_eq_true, reduceCtorEq, Nat.reduceEqDiff, ne_eq, not_false_eq_true, not_true_eq_false, decide_true, decide_false, Bool.not_true, Bool.not_false]
    exact h
theorem ok_mod {a b : Int} {Q : V → H → Prop} (h : b ≠ 0) : Ok (binop .Mod (.int a) (.int b)) σ Q = Q (.int (Int.fmod a b)) σ := ok_some (by simp [binop, twoInts, onInt, h])
theorem ok_div {a b : Int} {Q : V → H → Prop} (h : b ≠ 0) (hs : small b = true) : Ok (binop .FloorDiv (.int a) (.int b)) σ Q = Q (.int (Int.fdiv a b)) σ := ok_some (by simp [binop, twoInts, onInt, h, hs])
theorem fmod_range {a b : Int} (h : 0 < b) : 0 ≤ Int.fmod a b ∧ Int.fmod a b < b := ⟨Int.fmod_nonneg_of_pos _ h, Int.fmod_lt_of_pos _ h⟩
theorem fmod_nat {a b : Int} (h : 0 < b) : ∃ k : Nat, Int.fmod a b = (k : Int) ∧ (k : Int) < b := by
  obtain ⟨h1, h2⟩ := fmod_range (a := a) h
  exact ⟨(Int.fmod a b).toNat, by lia, by lia⟩
end
end Mine

set_option autoImplicit false
namespace Mine.L02
open PySem Mine
noncomputable def f__law_held_by_1 : Sts := .cons (.ret (.bi .len (.cons (.comp (.cint 1) [84] false (.loc 76) (.cons (.cmp .Eq (.loc 84) (.loc 78)) .nil)) .nil))) .nil
noncomputable def f__law_held_by : FD := ⟨[76, 78], f__law_held_by_1⟩
noncomputable def f_law_7 : Sts := .cons (.ret (.cmp .Eq (.comp (.cint 1) [81, 73] true (.loc 178) (.cons (.not (.call 72 (.cons (.loc 81) (.cons (.loc 73) .nil)))) .nil)) (.list .nil))) .nil
noncomputable def f_law_6f_16 : Sts := .cons (.ite (.not (.call 72 (.cons (.comp (.meth (.loc 75) 43 (.cons (.loc 78) .nil)) [78] false (.loc 149) .nil) (.cons (.loc 73) .nil)))) .any .nil) .nil
noncomputable def f_law_6f_15 : Sts := .cons (.asg (.var 73) (.comp (.call 175 (.cons (.loc 76) (.cons (.loc 78) .nil))) [78] false (.loc 149) .nil)) f_law_6f_16
noncomputable def f_law_6f_14 : Sts := .cons (.ite (.bor (.cons (.not (.call 72 (.cons (.meth (.loc 75) 44 .nil) (.cons (.loc 149) .nil)))) (.cons (.not (.call 72 (.cons (.meth (.loc 75) 45 .nil) (.cons (.bi .sorted (.cons (.loc 177) .nil)) .nil)))) .nil))) .any .nil) f_law_6f_15
noncomputable def f_law_6f_13 : Sts := .cons (.asg (.var 149) (.sset (.comp (.loc 84) [84] false (.loc 76) (.cons (.cmp .IsNot (.loc 84) .cnone) .nil)))) f_law_6f_14
noncomputable def f_law_6f_12 : Sts := .cons (.ite (.not (.call 72 (.cons (.comp (.meth (.loc 75) 41 (.cons (.loc 71) .nil)) [71] false (.bi .range (.cons (.cint 8) .nil)) .nil) (.cons (.loc 76) .nil)))) .any .nil) f_law_6f_13
noncomputable def f_law_6f_11 : Sts := .cons (.ite (.not (.call 72 (.cons (.loc 81) (.cons (.loc 73) .nil)))) .any .nil) f_law_6f_12
noncomputable def f_law_6f_10 : Sts := .cons (.expr (.meth (.loc 178) 6 (.cons (.tup (.cons (.loc 81) (.cons (.loc 73) .nil))) .nil))) f_law_6f_11
noncomputable def f_law_6f_9 : Sts := .cons (.asg (.var 177) (.comp (.loc 78) [78] false (.loc 177) (.cons (.cmp .NotIn (.loc 78) (.loc 73)) .nil))) f_law_6f_10
noncomputable def f_law_6f_8a_1 : Sts := .cons (.asg (.var 73) (.list (.cons (.loc 179) .nil))) .nil
noncomputable def f_law_6f_8b_1a_1 : Sts := .cons (.expr (.meth (.loc 177) 6 (.cons (.loc 179) .nil))) .nil
noncomputable def f_law_6f_8b_1 : Sts := .cons (.ite (.band (.cons (.cmp .IsNot (.loc 179) .cnone) (.cons (.cmp .NotIn (.loc 179) (.loc 177)) .nil))) f_law_6f_8b_1a_1 .nil) .nil
noncomputable def f_law_6f_8 : Sts := .cons (.ite (.band (.cons (.cmp .IsNot (.loc 179) .cnone) (.cons (.cmp .Eq (.call 175 (.cons (.loc 76) (.cons (.loc 179) .nil))) (.cint 0)) .nil))) f_law_6f_8a_1 f_law_6f_8b_1) f_law_6f_9
noncomputable def f_law_6f_7 : Sts := .cons (.asg (.var 73) (.list .nil)) f_law_6f_8
noncomputable def f_law_6f_6 : Sts := .cons (.asg (.sub (.loc 76) (.loc 79)) (.loc 180)) f_law_6f_7
noncomputable def f_law_6f_5a_3 : Sts := .cons (.asg (.var 81) (.meth (.loc 75) 34 (.cons (.loc 79) (.cons (.bin .Mod (.bin .FloorDiv (.loc 94) (.cint 32)) (.cint 7)) .nil)))) .nil
noncomputable def f_law_6f_5a_2 : Sts := .cons (.asg (.var 176) (.bin .Add (.loc 176) (.cint 1))) f_law_6f_5a_3
noncomputable def f_law_6f_5a_1 : Sts := .cons (.asg (.var 180) (.loc 176)) f_law_6f_5a_2
noncomputable def f_law_6f_5b_1a_2 : Sts := .cons (.asg (.var 81) (.meth (.loc 75) 35 (.cons (.loc 79) (.cons (.loc 92) .nil)))) .nil
noncomputable def f_law_6f_5b_1a_1 : Sts := .cons (.asg (.var 180) (.sub (.loc 76) (.loc 92))) f_law_6f_5b_1a_2
noncomputable def f_law_6f_5b_1b_1 : Sts := .cons (.asg (.var 81) (.meth (.loc 75) 36 (.cons (.loc 79) .nil))) .nil
noncomputable def f_law_6f_5b_1 : Sts := .cons (.ite (.cmp .Eq (.bin .Mod (.loc 94) (.cint 4)) (.cint 2)) f_law_6f_5b_1a_1 f_law_6f_5b_1b_1) .nil
noncomputable def f_law_6f_5 : Sts := .cons (.ite (.cmp .Lt (.bin .Mod (.loc 94) (.cint 4)) (.cint 2)) f_law_6f_5a_1 f_law_6f_5b_1) f_law_6f_6
noncomputable def f_law_6f_4 : Sts := .cons (.asg (.var 180) .cnone) f_law_6f_5
noncomputable def f_law_6f_3 : Sts := .cons (.asg (.var 179) (.sub (.loc 76) (.loc 79))) f_law_6f_4
noncomputable def f_law_6f_2 : Sts := .cons (.asg (.var 92) (.bin .Mod (.bin .FloorDiv (.loc 94) (.cint 32)) (.cint 8))) f_law_6f_3
noncomputable def f_law_6f_1 : Sts := .cons (.asg (.var 79) (.bin .Mod (.bin .FloorDiv (.loc 94) (.cint 4)) (.cint 8))) f_law_6f_2
noncomputable def f_law_6 : Sts := .cons (.for [94] false (.slice (.loc 70) .cnone (.cint 30)) f_law_6f_1) f_law_7
noncomputable def f_law_5 : Sts := .cons (.asg (.var 178) (.list .nil)) f_law_6
noncomputable def f_law_4 : Sts := .cons (.asg (.var 177) (.list .nil)) f_law_5
noncomputable def f_law_3 : Sts := .cons (.asg (.var 176) (.cint 0)) f_law_4
noncomputable def f_law_2 : Sts := .cons (.asg (.var 76) (.comp .cnone [79] false (.bi .range (.cons (.cint 8) .nil)) .nil)) f_law_3
noncomputable def f_law_1 : Sts := .cons (.asg (.var 75) (.new 24)) f_law_2
noncomputable def f_law : FD := ⟨[70], f_law_1⟩
noncomputable def prog : Prog := { funs := [(66, PP.f__law_whole), (72, PP.f__law_numbers), (175, f__law_held_by), (74, f_law)], meths := [(25, PP.m___init__), (26, PP.m_need_hand), (27, PP.m_need_box), (29, PP.m_counted), (30, PP.m_let_go), (31, PP.m_lighter), (32, PP.m_handed), (34, PP.m_make), (35, PP.m_hold), (36, PP.m_drop), (41, PP.m_holds), (43, PP.m_weighs), (44, PP.m_alive), (45, PP.m_suspects)], globs := [(21, .int 8), (22, .int 6), (23, .int 60)], tabs := [], init := 25, attrs := [47, 48, 49, 50, 51], nf := 1 }
noncomputable def T02 : List Str := [Str.ofString "int", Str.ofString "bool", Str.ofString "list", Str.ofString "tuple", Str.ofString "str", Str.ofString "ValueError", Str.ofString "append", Str.ofString "pop", Str.ofString "clear", Str.ofString "remove", Str.ofString "split", Str.ofString "join", Str.ofString "replace", Str.ofString "_wall", Str.ofString "k", Str.ofString "__name__", Str.ofString "PileError", Str.ofString "NoHand", Str.ofString "NoSize", Str.ofString "Full", Str.ofString "NoBox", Str.ofString "HANDS", Str.ofString "MOST_SLOTS", Str.ofString "MOST_ALIVE", Str.ofString "Pile", Str.ofString "__init__", Str.ofString "need_hand", Str.ofString "need_box", Str.ofString "box_with_slot", Str.ofString "counted", Str.ofString "let_go", Str.ofString "lighter", Str.ofString "handed", Str.ofString "pointed", Str.ofString "make", Str.ofString "hold", Str.ofString "drop", Str.ofString "put", Str.ofString "empty", Str.ofString "take", Str.ofString "swept", Str.ofString "holds", Str.ofString "points", Str.ofString "weighs", Str.ofString "alive", Str.ofString "suspects", Str.ofString "self", Str.ofString "in_hands", Str.ofString "boxes", Str.ofString "weights", Str.ofString "doubted", Str.ofString "made", Str.ofString "hand", Str.ofString "number", Str.ofString "slot", Str.ofString "freed", Str.ofString "at", Str.ofString "old", Str.ofString "box", Str.ofString "size", Str.ofString "other", Str.ofString "numbers", Str.ofString "slots", Str.ofString "sorted", Str.ofString "len", Str.ofString "range", Str.ofString "_law_whole", Str.ofString "_law_found", Str.ofString "isinstance", Str.ofString "_law_cell_at", Str.ofString "_law_script", Str.ofString "_law_k", Str.ofString "_law_numbers", Str.ofString "_law_due", Str.ofString "law", Str.ofString "_law_pile", Str.ofString "_law_hands", Str.ofString "_law_begin", Str.ofString "_law_number", Str.ofString "_law_hand", Str.ofString "_law_size", Str.ofString "_law_freed", Str.ofString "min", Str.ofString "_law_one", Str.ofString "_law_held", Str.ofString "NoSlot", Str.ofString "_law_done", Str.ofString "_law_deed", Str.ofString "_law_pointers", Str.ofString "_law_rooms", Str.ofString "_law_many", Str.ofString "_law_room", Str.ofString "_law_other", Str.ofString "_law_stands", Str.ofString "_law_cell", Str.ofString "_law_which", Str.ofString "_law_slot", Str.ofString "NoDeed", Str.ofString "gone", Str.ofString "reached", Str.ofString "pile", Str.ofString "found", Str.ofString "waiting", Str.ofString "trials", Str.ofString "looked", Str.ofString "left", Str.ofString "tidy", Str.ofString "rows", Str.ofString "kept", Str.ofString "row", Str.ofString "WORDS", Str.ofString "MOST_FIGURES", Str.ofString "number_of", Str.ofString "word", Str.ofString "sign", Str.ofString "read", Str.ofString "line", Str.ofString "parts", Str.ofString "done", Str.ofString "deed", Str.ofString "answer", Str.ofString "played", Str.ofString "lines", Str.ofString "way_to", Str.ofString "ways", Str.ofString "held", Str.ofString "led", Str.ofString "way", Str.ofString "here", Str.ofString "_law_due_here", Str.ofString "_law_deed_by", Str.ofString "_law_two", Str.ofString "_law_few", Str.ofString "_law_words", Str.ofString "_law_word", Str.ofString "_law_ring", Str.ofString "_law_closed", Str.ofString "_law_star", Str.ofString "_law_begun", Str.ofString "_law_first", Str.ofString "_law_seen", Str.ofString "_law_seen_here", Str.ofString "_law_word_of", Str.ofString "e", Str.ofString "_law_some", Str.ofString "_law_fits", Str.ofString "_law_hand_wrong", Str.ofString "_law_slot_due", Str.ofString "_law_led_due", Str.ofString "_law_alive", Str.ofString "_law_filled", Str.ofString "_law_full_told", Str.ofString "_law_lines", Str.ofString "_law_told", Str.ofString "_law_full_by", Str.ofString "_law_number_by", Str.ofString "_law_asked", Str.ofString "_law_cells", Str.ofString "_law_pick", Str.ofString "_law_numbers_here", Str.ofString "_law_way", Str.ofString "_law_good", Str.ofString "_law_turn", Str.ofString "max", Str.ofString "_law_closure", Str.ofString "_law_row", Str.ofString "_law_met", Str.ofString "_law_at", Str.ofString "_law_ring_deeds", Str.ofString "_law_deeds_here", Str.ofString "_law_star_deeds", Str.ofString "_law_deeds", Str.ofString "_law_most", Str.ofString "_law_near", Str.ofString "zip", Str.ofString "_law_held_by", Str.ofString "_law_made", Str.ofString "_law_doubts", Str.ofString "_law_kept", Str.ofString "_law_old", Str.ofString "_law_new"]
noncomputable def clsL : List (Nat × PySem.Addr) := [(24, 235)]
noncomputable def fnL : List (Nat × PySem.Addr) := [(66, 246), (72, 260), (175, 265), (74, 270)]
noncomputable def meL : List (Nat × PySem.Addr) := [(25, 94), (26, 101), (27, 108), (29, 122), (30, 129), (31, 136), (32, 143), (34, 155), (35, 162), (36, 169), (41, 204), (43, 218), (44, 225), (45, 232)]
noncomputable def exL : List (Nat × PySem.Addr) := []
end Mine.L02

set_option autoImplicit false
set_option linter.unusedSimpArgs false
set_option linter.unusedVariables false
namespace Mine.L02
open Mine
open PySem (Str PyData)

theorem get_keep {σ : H} {a : Nat} {o x : O} (h : σ.get a = some o) : (σ.push x).get a = some o := by rw [get_push_lt (get_lt h)]; exact h
theorem put_self {σ : H} {a : Nat} {o x : O} (h : σ.get a = some o) : (σ.put a x).get a = some x := get_put_eq (get_lt h)
noncomputable def updF {β : Type} (w : Nat → β) (k : Nat) (v : β) : Nat → β := fun j => if j = k then v else w j
theorem upd_is {β : Type} {w : Nat → β} {k : Nat} {v : β} : updF w k v k = v := if_pos rfl
theorem upd_ne {β : Type} {w : Nat → β} {j k : Nat} {v : β} (h : j ≠ k) : updF w k v j = w j := if_neg h
noncomputable def mD (f : Nat → V) (ks : List Nat) : List (V × V) := ks.map fun (k : Nat) => (V.int (k : Int), f k)
theorem int_ne {a k : Nat} (h : a ≠ k) : ¬ (V.int (a : Int) = V.int (k : Int)) := fun e => h (by injection e with e; exact Int.ofNat.inj e)
section
variable {f : Nat → V} {k : Nat} {v : V}
theorem mD_get : ∀ {ks : List Nat}, k ∈ ks → dget (mD f ks) (.int (k : Int)) = some (f k)
  | a :: r, h => by
    show (if V.int (a : Int) = V.int (k : Int) then some (f a) else dget (mD f r) (.int (k : Int))) = _
    by_cases e : a = k
    · subst e; rw [if_pos rfl]
    · rw [if_neg (int_ne e)]
      exact mD_get ((List.mem_cons.mp h).resolve_left fun q => e q.symm)
theorem mD_no : ∀ {ks : List Nat}, k ∉ ks → mD (updF f k v) ks = mD f ks
  | [], _ => rfl
  | a :: r, h => by
    show (V.int (a : Int), updF f k v a) :: mD (updF f k v) r = _
    rw [mD_no fun q => h (.tail _ q), upd_ne fun q => h (by subst q; exact .head _)]; rfl
theorem mD_set : ∀ {ks : List Nat}, k ∈ ks → ks.Nodup → dset (mD f ks) (.int (k : Int)) v = mD (updF f k v) ks
  | a :: r, h, nd => by
    have nd := List.nodup_cons.mp nd
    show (if V.int (a : Int) = V.int (k : Int) then (V.int (a : Int), v) :: mD f r else (V.int (a : Int), f a) :: dset (mD f r) (.int (k : Int)) v) = (V.int (a : Int), updF f k v a) :: mD (updF f k v) r
    by_cases e : a = k
    · subst e; rw [if_pos rfl, mD_no nd.1, upd_is]
    · rw [if_neg (int_ne e), upd_ne e, mD_set ((List.mem_cons.mp h).resolve_left fun q => e q.symm) nd.2]
theorem mD_add : ∀ {ks : List Nat}, k ∉ ks → dset (mD f ks) (.int (k : Int)) v = mD (updF f k v) (ks ++ [k])
  | [], _ => by show [(V.int (k : Int), v)] = [(V.int (k : Int), updF f k v k)]; rw [upd_is]
  | a :: r, h => by
    have e : a ≠ k := fun q => h (by subst q; exact .head _)
    show (if V.int (a : Int) = V.int (k : Int) then (V.int (a : Int), v) :: mD f r else (V.int (a : Int), f a) :: dset (mD f r) (.int (k : Int)) v) = (V.int (a : Int), updF f k v a) :: mD (updF f k v) (r ++ [k])
    rw [if_neg (int_ne e), upd_ne e, mD_add fun q => h (.tail _ q)]
theorem mD_del : ∀ {ks : List Nat}, ddel (mD f ks) (.int (k : Int)) = mD f (ks.erase k)
  | [] => rfl
  | a :: r => by
    show (if V.int (a : Int) = V.int (k : Int) then mD f r else (V.int (a : Int), f a) :: ddel (mD f r) (.int (k : Int))) = _
    rw [List.erase_cons]
    by_cases e : a = k
    · subst e; rw [if_pos rfl, if_pos BEq.rfl]
    · rw [if_neg (int_ne e), if_neg (by simpa using e), mD_del]; rfl
theorem mD_keys : ∀ {ks : List Nat}, intsOf ((mD f ks).map (·.1)) = some (ks.map Int.ofNat)
  | [] => rfl
  | a :: r => by
    show (intsOf ((mD f r).map (·.1))).map (Int.ofNat a :: ·) = _
    rw [mD_keys]; rfl
theorem mD_len {ks : List Nat} : (mD f ks).length = ks.length := List.length_map _
end
theorem dD_del {q : List Nat} {k : Nat} : ddel (dD q) (.int (k : Int)) = dD (q.erase k) := mD_del (f := fun _ => .bool true)
noncomputable def wF (w : Nat → Nat) : Nat → V := fun k => .int (w k : Int)
noncomputable def bF (b : Nat → Nat) : Nat → V := fun k => .ref (b k)
theorem wF_at {w : Nat → Nat} {k : Nat} : wF w k = .int (w k : Int) := rfl
theorem bF_at {w : Nat → Nat} {k : Nat} : bF w k = .ref (w k) := rfl
theorem wF_upd {w : Nat → Nat} {k v : Nat} : updF (wF w) k (.int (v : Int)) = wF (updF w k v) := by
  funext j; unfold wF; by_cases e : j = k
  · subst e; rw [upd_is, upd_is]
  · rw [upd_ne e, upd_ne e]
theorem bF_upd {w : Nat → Nat} {k v : Nat} : updF (bF w) k (.ref v) = bF (updF w k v) := by
  funext j; unfold bF; by_cases e : j = k
  · subst e; rw [upd_is, upd_is]
  · rw [upd_ne e, upd_ne e]

noncomputable def Ow (a : Nat) : Bool := a == 1 || a == 4 || a == 5 || a == 6 || a == 7
theorem ow_gt {a : Nat} (h : 7 < a) : Ow a = false := by
  unfold Ow
  simp only [Bool.or_eq_false_iff, beq_eq_false_iff_ne]
  lia
noncomputable def Kp (σ σ' : H) : Prop := ∀ a o, Ow a = false → σ.get a = some o → σ'.get a = some o
theorem Kp.refl (σ : H) : Kp σ σ := fun _ _ _ h => h
theorem Kp.trans {σ σ' σ'' : H} (h : Kp σ σ') (k : Kp σ' σ'') : Kp σ σ'' := fun a o e g => k a o e (h a o e g)
theorem Kp.push {σ σ' : H} (h : Kp σ σ') (x : O) : Kp σ (σ'.push x) := fun a o e g => get_keep (h a o e g)
theorem Kp.put {σ σ' : H} (h : Kp σ σ') {a : Nat} (ha : Ow a = true) (x : O) : Kp σ (σ'.put a x) := fun b o e g => by
  rw [get_put_ne (fun q => by rw [q, e] at ha; cases ha)]; exact h b o e g
theorem Kp.ext {σ σ' σ'' : H} (h : Kp σ σ') (x : Ext σ' σ'') : Kp σ σ'' := fun a o e g => x a o (h a o e g)

noncomputable def at5 (m : Nat) : O := .attrs [(47, .ref 4), (48, .ref 5), (49, .ref 6), (50, .ref 7), (51, .int (m : Int))]
structure Pl (σ : H) (hs : List (Option Nat)) (kb : List Nat) (b : Nat → Nat) (kw : List Nat) (w : Nat → Nat) (q : List Nat) (m : Nat) : Prop where
  d : σ.get 1 = some (at5 m)
  p : σ.get 2 = some (.inst 24 1)
  h : σ.get 4 = some (.list (hs.map ov))
  b' : σ.get 5 = some (.dict (mD (bF b) kb))
  w' : σ.get 6 = some (.dict (mD (wF w) kw))
  q' : σ.get 7 = some (.dict (dD q))
  bx : ∀ k ∈ kb, 12 < b k ∧ ∃ n, n ≤ 6 ∧ σ.get (b k) = some (.list (List.replicate n .none))
  big : 12 < σ.length
  sm : kb.length ≤ 100 ∧ kw.length ≤ 100 ∧ q.length ≤ 100

section
variable {σ σ' : H} {hs : List (Option Nat)} {kb kw : List Nat} {b : Nat → Nat} {w : Nat → Nat} {q : List Nat} {m : Nat}
theorem Pl.ext (A : Pl σ hs kb b kw w q m) (x : Ext σ σ') (hl : 12 < σ'.length) : Pl σ' hs kb b kw w q m := ⟨x _ _ A.d, x _ _ A.p, x _ _ A.h, x _ _ A.b', x _ _ A.w', x _ _ A.q', fun k hk => let ⟨h1, n, h2, h3⟩ := A.bx k hk; ⟨h1, n, h2, x _ _ h3⟩, hl, A.sm⟩
theorem Pl.push (A : Pl σ hs kb b kw w q m) (x : O) : Pl (σ.push x) hs kb b kw w q m := A.ext ((Ext.refl _).push x) (by rw [len_push]; exact Nat.lt_succ_of_lt A.big)
theorem Pl.put (A : Pl σ hs kb b kw w q m) {a : Nat} (h1 : 8 < a) (h2 : ∀ k ∈ kb, b k ≠ a) (x : O) : Pl (σ.put a x) hs kb b kw w q m :=
  ⟨(get_put_ne (by lia)).trans A.d, (get_put_ne (by lia)).trans A.p, (get_put_ne (by lia)).trans A.h, (get_put_ne (by lia)).trans A.b', (get_put_ne (by lia)).trans A.w', (get_put_ne (by lia)).trans A.q', fun k hk => let ⟨g1, n, g2, g3⟩ := A.bx k hk; ⟨g1, n, g2, (get_put_ne (Ne.symm (h2 k hk))).trans g3⟩, by rw [len_put]; exact A.big, A.sm⟩
theorem Pl.bxp (A : Pl σ hs kb b kw w q m) {a : Nat} (ha : a ≤ 12) (x : O) : ∀ k ∈ kb, 12 < b k ∧ ∃ n, n ≤ 6 ∧ (σ.put a x).get (b k) = some (.list (List.replicate n .none)) := fun k hk =>
  let ⟨g1, n, g2, g3⟩ := A.bx k hk; ⟨g1, n, g2, (get_put_ne (by lia)).trans g3⟩
theorem Pl.setW (A : Pl σ hs kb b kw w q m) {kw₁ : List Nat} (w₁ : Nat → Nat) (hl : kw₁.length ≤ 100) : Pl (σ.put 6 (.dict (mD (wF w₁) kw₁))) hs kb b kw₁ w₁ q m :=
  ⟨(get_put_ne (by decide)).trans A.d, (get_put_ne (by decide)).trans A.p, (get_put_ne (by decide)).trans A.h, (get_put_ne (by decide)).trans A.b', put_self A.w', (get_put_ne (by decide)).trans A.q', A.bxp (by decide) _, by rw [len_put]; exact A.big, A.sm.1, hl, A.sm.2.2⟩
theorem Pl.setQ (A : Pl σ hs kb b kw w q m) {q₁ : List Nat} (hl : q₁.length ≤ 100) : Pl (σ.put 7 (.dict (dD q₁))) hs kb b kw w q₁ m :=
  ⟨(get_put_ne (by decide)).trans A.d, (get_put_ne (by decide)).trans A.p, (get_put_ne (by decide)).trans A.h, (get_put_ne (by decide)).trans A.b', (get_put_ne (by decide)).trans A.w', put_self A.q', A.bxp (by decide) _, by rw [len_put]; exact A.big, A.sm.1, A.sm.2.1, hl⟩
theorem Pl.setH (A : Pl σ hs kb b kw w q m) (h₁ : List (Option Nat)) : Pl (σ.put 4 (.list (h₁.map ov))) h₁ kb b kw w q m :=
  ⟨(get_put_ne (by decide)).trans A.d, (get_put_ne (by decide)).trans A.p, put_self A.h, (get_put_ne (by decide)).trans A.b', (get_put_ne (by decide)).trans A.w', (get_put_ne (by decide)).trans A.q', A.bxp (by decide) _, by rw [len_put]; exact A.big, A.sm⟩
theorem Pl.setB (A : Pl σ hs kb b kw w q m) {kb₁ : List Nat} {b₁ : Nat → Nat} (hl : kb₁.length ≤ 100) (hb : ∀ k ∈ kb₁, 12 < b₁ k ∧ ∃ n, n ≤ 6 ∧ σ.get (b₁ k) = some (.list (List.replicate n .none))) : Pl (σ.put 5 (.dict (mD (bF b₁) kb₁))) hs kb₁ b₁ kw w q m :=
  ⟨(get_put_ne (by decide)).trans A.d, (get_put_ne (by decide)).trans A.p, (get_put_ne (by decide)).trans A.h, put_self A.b', (get_put_ne (by decide)).trans A.w', (get_put_ne (by decide)).trans A.q', fun k hk => let ⟨g1, n, g2, g3⟩ := hb k hk; ⟨g1, n, g2, (get_put_ne (by lia)).trans g3⟩, by rw [len_put]; exact A.big, hl, A.sm.2⟩
theorem Pl.setM (A : Pl σ hs kb b kw w q m) (m₁ : Nat) : Pl (σ.put 1 (at5 m₁)) hs kb b kw w q m₁ :=
  ⟨put_self A.d, (get_put_ne (by decide)).trans A.p, (get_put_ne (by decide)).trans A.h, (get_put_ne (by decide)).trans A.b', (get_put_ne (by decide)).trans A.w', (get_put_ne (by decide)).trans A.q', A.bxp (by decide) _, by rw [len_put]; exact A.big, A.sm⟩

noncomputable def addW (w : Nat → Nat) : Option Nat → Nat → Nat
  | none => w
  | some k => updF w k (w k + 1)
noncomputable def subW (w : Nat → Nat) : Option Nat → Nat → Nat
  | none => w
  | some k => updF w k (w k - 1)
noncomputable def delK (ks : List Nat) (w : Nat → Nat) : Option Nat → List Nat
  | none => ks
  | some k => if w k = 1 then ks.erase k else ks
noncomputable def lgQ (q : List Nat) (w : Nat → Nat) : Option Nat → List Nat
  | none => q
  | some k => if w k = 1 then q.erase k else addN q k
noncomputable def lgF (w : Nat → Nat) : Option Nat → List Nat
  | none => []
  | some k => if w k = 1 then [k] else []
noncomputable def nV (l : List Nat) : List V := l.map fun (k : Nat) => V.int (k : Int)
theorem ov_at {xs : List (Option Nat)} {i : Nat} (h : i < xs.length) : (xs.map ov)[((i : Int)).toNat]? = some (ov ((xs[i]?).getD none)) := by simp [h]
theorem set_ov {xs : List (Option Nat)} {i : Nat} {x : Option Nat} : (xs.map ov).set ((i : Int)).toNat (ov x) = (xs.set i x).map ov := by rw [List.map_set]; rfl
theorem lt_ov {xs : List (Option Nat)} {i : Nat} (h : i < xs.length) : (i : Int) < ((xs.map ov).length : Int) := by rw [List.length_map]; lia
theorem le_lim {n : Nat} (h : n ≤ 1000) : n ≤ lim := by have : lim = 1000000 := rfl; lia

variable {d : Nat} {Q : V → H → Prop}
theorem eg21 {C : Calls} {loc : Loc} : ev prog C (.glo 21) loc = X.pure (.int 8) := rfl
theorem need_hand_ok {k : Nat} (h1 : k < 8) (h : Q .none σ) : Ok (run prog 1000 (d + 1) true 26 [.ref 2, .int (k : Int)]) σ Q := by
  rw [ok_run (fd := PP.m_need_hand) rfl rfl]
  have h0' : (0 : Int) ≤ (k : Int) := Int.natCast_nonneg _
  have h1' : (k : Int) < 8 := by lia
  simp (disch := decide) only [PP.m_need_hand, eg21, ok_le, ok_lt, ok_truthb, h0', h1', oks_cons, oks_nil, then_none, then_some, s_expr, exprK_at, s_var, varK_at, s_attr, attrK_at, attrK2_at, s_sub, subK_at, subK2_at, subK3_at, s_ite, iteK_t, iteK_f, s_ret, retK_at, s_ret0, s_pass, runK_some, runK_none, forK_at, turnK_none, turnK_some, whlK_t, whlK_f, tt_not, tt_band, tt_bor, tt_bool, tt_loc, tt_cmp, tt_cmp2, tt_call, tt_meth, tt_isi, tt_attr, tt_sub, tt_bin, tnotF_t, tnotF_f, ta_nil, ta_cons, andF_t, andF_f, to_nil, to_cons, orF_t, orF_f, e_none, e_bool, e_int, e_str, e_loc, e_bin, binF_at, e_not, notF_at, notF2_t, notF2_f, e_band, e_bor, e_cmp, cmpF_at, e_cmp2, cmpG_t, cmpG_f, e_list, listF_at, e_tup, tupF_at, e_dict0, e_attr, attrF_at, e_sub, subF_at, e_slice, e_sset, e_call, e_meth, methF_at, e_bi, e_isi, isiF_at, boolF_at, e_comp, es_nil, es_cons, consF_at, consF2_at, ok_bind, bindK_at, bind_pure, bind_lift, ok_pure, ok_lift, List.zip_cons_cons, List.zip_nil_right, List.zip_nil_left, List.foldl_cons, List.foldl_nil, upd_def, Nat.reduceBEq, bif_t, bif_f, if_true, if_false, Bool.false_eq_true, reduceCtorEq, Nat.reduceEqDiff, ne_eq, not_false_eq_true, not_true_eq_false, decide_true, decide_false, Bool.not_true, Bool.not_false]
  exact h
theorem need_box_ok {k : Nat} (A : Pl σ hs kb b kw w q m) (hk : k ∈ kb) (h : Q .none σ) : Ok (run prog 1000 (d + 1) true 27 [.ref 2, .int (k : Int)]) σ Q := by
  rw [ok_run (fd := PP.m_need_box) rfl rfl]
  simp (disch := decide) only [PP.m_need_box, ok_getAttr A.p A.d (n := 48) (v := .ref 5) rfl, ok_notInD A.b' (k := .int (k : Int)) rfl, mD_get hk, Option.isSome_some, ok_truthb, oks_cons, oks_nil, then_none, then_some, s_expr, exprK_at, s_var, varK_at, s_attr, attrK_at, attrK2_at, s_sub, subK_at, subK2_at, subK3_at, s_ite, iteK_t, iteK_f, s_ret, retK_at, s_ret0, s_pass, runK_some, runK_none, forK_at, turnK_none, turnK_some, whlK_t, whlK_f, tt_not, tt_band, tt_bor, tt_bool, tt_loc, tt_cmp, tt_cmp2, tt_call, tt_meth, tt_isi, tt_attr, tt_sub, tt_bin, tnotF_t, tnotF_f, ta_nil, ta_cons, andF_t, andF_f, to_nil, to_cons, orF_t, orF_f, e_none, e_bool, e_int, e_str, e_loc, e_bin, binF_at, e_not, notF_at, notF2_t, notF2_f, e_band, e_bor, e_cmp, cmpF_at, e_cmp2, cmpG_t, cmpG_f, e_list, listF_at, e_tup, tupF_at, e_dict0, e_attr, attrF_at, e_sub, subF_at, e_slice, e_sset, e_call, e_meth, methF_at, e_bi, e_isi, isiF_at, boolF_at, e_comp, es_nil, es_cons, consF_at, consF2_at, ok_bind, bindK_at, bind_pure, bind_lift, ok_pure, ok_lift, List.zip_cons_cons, List.zip_nil_right, List.zip_nil_left, List.foldl_cons, List.foldl_nil, upd_def, Nat.reduceBEq, bif_t, bif_f, if_true, if_false, Bool.false_eq_true, reduceCtorEq, Nat.reduceEqDiff, ne_eq, not_false_eq_true, not_true_eq_false, decide_true, decide_false, Bool.not_true, Bool.not_false]
  exact h
theorem holds_ok {k : Nat} (A : Pl σ hs kb b kw w q m) (hl : hs.length = 8) (h1 : k < 8) (h : Q (ov ((hs[k]?).getD none)) σ) : Ok (run prog 1000 (d + 2) true 41 [.ref 2, .int (k : Int)]) σ Q := by
  rw [ok_run (fd := PP.m_holds) rfl rfl]
  simp (disch := decide) only [PP.m_holds, mx_inst A.p A.d, oks_cons, oks_nil, then_none, then_some, s_expr, exprK_at, s_var, varK_at, s_attr, attrK_at, attrK2_at, s_sub, subK_at, subK2_at, subK3_at, s_ite, iteK_t, iteK_f, s_ret, retK_at, s_ret0, s_pass, runK_some, runK_none, forK_at, turnK_none, turnK_some, whlK_t, whlK_f, tt_not, tt_band, tt_bor, tt_bool, tt_loc, tt_cmp, tt_cmp2, tt_call, tt_meth, tt_isi, tt_attr, tt_sub, tt_bin, tnotF_t, tnotF_f, ta_nil, ta_cons, andF_t, andF_f, to_nil, to_cons, orF_t, orF_f, e_none, e_bool, e_int, e_str, e_loc, e_bin, binF_at, e_not, notF_at, notF2_t, notF2_f, e_band, e_bor, e_cmp, cmpF_at, e_cmp2, cmpG_t, cmpG_f, e_list, listF_at, e_tup, tupF_at, e_dict0, e_attr, attrF_at, e_sub, subF_at, e_slice, e_sset, e_call, e_meth, methF_at, e_bi, e_isi, isiF_at, boolF_at, e_comp, es_nil, es_cons, consF_at, consF2_at, ok_bind, bindK_at, bind_pure, bind_lift, ok_pure, ok_lift, List.zip_cons_cons, List.zip_nil_right, List.zip_nil_left, List.foldl_cons, List.foldl_nil, upd_def, Nat.reduceBEq, bif_t, bif_f, if_true, if_false, Bool.false_eq_true, reduceCtorEq, Nat.reduceEqDiff, ne_eq, not_false_eq_true, not_true_eq_false, decide_true, decide_false, Bool.not_true, Bool.not_false]
  refine need_hand_ok h1 ?_
  simp (disch := decide) only [ok_getAttr A.p A.d (n := 47) (v := .ref 4) rfl, ok_getList A.h (Int.natCast_nonneg _) (ov_at (show k < hs.length by lia)), oks_cons, oks_nil, then_none, then_some, s_expr, exprK_at, s_var, varK_at, s_attr, attrK_at, attrK2_at, s_sub, subK_at, subK2_at, subK3_at, s_ite, iteK_t, iteK_f, s_ret, retK_at, s_ret0, s_pass, runK_some, runK_none, forK_at, turnK_none, turnK_some, whlK_t, whlK_f, tt_not, tt_band, tt_bor, tt_bool, tt_loc, tt_cmp, tt_cmp2, tt_call, tt_meth, tt_isi, tt_attr, tt_sub, tt_bin, tnotF_t, tnotF_f, ta_nil, ta_cons, andF_t, andF_f, to_nil, to_cons, orF_t, orF_f, e_none, e_bool, e_int, e_str, e_loc, e_bin, binF_at, e_not, notF_at, notF2_t, notF2_f, e_band, e_bor, e_cmp, cmpF_at, e_cmp2, cmpG_t, cmpG_f, e_list, listF_at, e_tup, tupF_at, e_dict0, e_attr, attrF_at, e_sub, subF_at, e_slice, e_sset, e_call, e_meth, methF_at, e_bi, e_isi, isiF_at, boolF_at, e_comp, es_nil, es_cons, consF_at, consF2_at, ok_bind, bindK_at, bind_pure, bind_lift, ok_pure, ok_lift, List.zip_cons_cons, List.zip_nil_right, List.zip_nil_left, List.foldl_cons, List.foldl_nil, upd_def, Nat.reduceBEq, bif_t, bif_f, if_true, if_false, Bool.false_eq_true, reduceCtorEq, Nat.reduceEqDiff, ne_eq, not_false_eq_true, not_true_eq_false, decide_true, decide_false, Bool.not_true, Bool.not_false]
  exact h
theorem weighs_ok {k : Nat} (A : Pl σ hs kb b kw w q m) (hk : k ∈ kb) (hk' : k ∈ kw) (h : Q (.int (w k : Int)) σ) : Ok (run prog 1000 (d + 2) true 43 [.ref 2, .int (k : Int)]) σ Q := by
  rw [ok_run (fd := PP.m_weighs) rfl rfl]
  simp (disch := decide) only [PP.m_weighs, mx_inst A.p A.d, oks_cons, oks_nil, then_none, then_some, s_expr, exprK_at, s_var, varK_at, s_attr, attrK_at, attrK2_at, s_sub, subK_at, subK2_at, subK3_at, s_ite, iteK_t, iteK_f, s_ret, retK_at, s_ret0, s_pass, runK_some, runK_none, forK_at, turnK_none, turnK_some, whlK_t, whlK_f, tt_not, tt_band, tt_bor, tt_bool, tt_loc, tt_cmp, tt_cmp2, tt_call, tt_meth, tt_isi, tt_attr, tt_sub, tt_bin, tnotF_t, tnotF_f, ta_nil, ta_cons, andF_t, andF_f, to_nil, to_cons, orF_t, orF_f, e_none, e_bool, e_int, e_str, e_loc, e_bin, binF_at, e_not, notF_at, notF2_t, notF2_f, e_band, e_bor, e_cmp, cmpF_at, e_cmp2, cmpG_t, cmpG_f, e_list, listF_at, e_tup, tupF_at, e_dict0, e_attr, attrF_at, e_sub, subF_at, e_slice, e_sset, e_call, e_meth, methF_at, e_bi, e_isi, isiF_at, boolF_at, e_comp, es_nil, es_cons, consF_at, consF2_at, ok_bind, bindK_at, bind_pure, bind_lift, ok_pure, ok_lift, List.zip_cons_cons, List.zip_nil_right, List.zip_nil_left, List.foldl_cons, List.foldl_nil, upd_def, Nat.reduceBEq, bif_t, bif_f, if_true, if_false, Bool.false_eq_true, reduceCtorEq, Nat.reduceEqDiff, ne_eq, not_false_eq_true, not_true_eq_false, decide_true, decide_false, Bool.not_true, Bool.not_false]
  refine need_box_ok A hk ?_
  simp (disch := decide) only [ok_getAttr A.p A.d (n := 49) (v := .ref 6) rfl, ok_getDict A.w' rfl (mD_get hk'), wF_at, oks_cons, oks_nil, then_none, then_some, s_expr, exprK_at, s_var, varK_at, s_attr, attrK_at, attrK2_at, s_sub, subK_at, subK2_at, subK3_at, s_ite, iteK_t, iteK_f, s_ret, retK_at, s_ret0, s_pass, runK_some, runK_none, forK_at, turnK_none, turnK_some, whlK_t, whlK_f, tt_not, tt_band, tt_bor, tt_bool, tt_loc, tt_cmp, tt_cmp2, tt_call, tt_meth, tt_isi, tt_attr, tt_sub, tt_bin, tnotF_t, tnotF_f, ta_nil, ta_cons, andF_t, andF_f, to_nil, to_cons, orF_t, orF_f, e_none, e_bool, e_int, e_str, e_loc, e_bin, binF_at, e_not, notF_at, notF2_t, notF2_f, e_band, e_bor, e_cmp, cmpF_at, e_cmp2, cmpG_t, cmpG_f, e_list, listF_at, e_tup, tupF_at, e_dict0, e_attr, attrF_at, e_sub, subF_at, e_slice, e_sset, e_call, e_meth, methF_at, e_bi, e_isi, isiF_at, boolF_at, e_comp, es_nil, es_cons, consF_at, consF2_at, ok_bind, bindK_at, bind_pure, bind_lift, ok_pure, ok_lift, List.zip_cons_cons, List.zip_nil_right, List.zip_nil_left, List.foldl_cons, List.foldl_nil, upd_def, Nat.reduceBEq, bif_t, bif_f, if_true, if_false, Bool.false_eq_true, reduceCtorEq, Nat.reduceEqDiff, ne_eq, not_false_eq_true, not_true_eq_false, decide_true, decide_false, Bool.not_true, Bool.not_false]
  exact h
theorem alive_ok (A : Pl σ hs kb b kw w q m) (hl : kb.length < 64) (h : Q (.ref σ.length) (σ.push (.list ((sortI (kb.map Int.ofNat)).map .int)))) : Ok (run prog 1000 (d + 1) true 44 [.ref 2]) σ Q := by
  rw [ok_run (fd := PP.m_alive) rfl rfl]
  simp (disch := decide) only [PP.m_alive, ok_getAttr A.p A.d (n := 48) (v := .ref 5) rfl, ok_sortedD A.b' mD_keys (by simpa using hl), oks_cons, oks_nil, then_none, then_some, s_expr, exprK_at, s_var, varK_at, s_attr, attrK_at, attrK2_at, s_sub, subK_at, subK2_at, subK3_at, s_ite, iteK_t, iteK_f, s_ret, retK_at, s_ret0, s_pass, runK_some, runK_none, forK_at, turnK_none, turnK_some, whlK_t, whlK_f, tt_not, tt_band, tt_bor, tt_bool, tt_loc, tt_cmp, tt_cmp2, tt_call, tt_meth, tt_isi, tt_attr, tt_sub, tt_bin, tnotF_t, tnotF_f, ta_nil, ta_cons, andF_t, andF_f, to_nil, to_cons, orF_t, orF_f, e_none, e_bool, e_int, e_str, e_loc, e_bin, binF_at, e_not, notF_at, notF2_t, notF2_f, e_band, e_bor, e_cmp, cmpF_at, e_cmp2, cmpG_t, cmpG_f, e_list, listF_at, e_tup, tupF_at, e_dict0, e_attr, attrF_at, e_sub, subF_at, e_slice, e_sset, e_call, e_meth, methF_at, e_bi, e_isi, isiF_at, boolF_at, e_comp, es_nil, es_cons, consF_at, consF2_at, ok_bind, bindK_at, bind_pure, bind_lift, ok_pure, ok_lift, List.zip_cons_cons, List.zip_nil_right, List.zip_nil_left, List.foldl_cons, List.foldl_nil, upd_def, Nat.reduceBEq, bif_t, bif_f, if_true, if_false, Bool.false_eq_true, reduceCtorEq, Nat.reduceEqDiff, ne_eq, not_false_eq_true, not_true_eq_false, decide_true, decide_false, Bool.not_true, Bool.not_false]
  exact h
theorem suspects_ok (A : Pl σ hs kb b kw w q m) (hl : q.length < 64) (h : Q (.ref σ.length) (σ.push (.list ((sortI (q.map Int.ofNat)).map .int)))) : Ok (run prog 1000 (d + 1) true 45 [.ref 2]) σ Q := by
  rw [ok_run (fd := PP.m_suspects) rfl rfl]
  simp (disch := decide) only [PP.m_suspects, ok_getAttr A.p A.d (n := 50) (v := .ref 7) rfl, ok_sortedD A.q' dD_keys (by simpa using hl), oks_cons, oks_nil, then_none, then_some, s_expr, exprK_at, s_var, varK_at, s_attr, attrK_at, attrK2_at, s_sub, subK_at, subK2_at, subK3_at, s_ite, iteK_t, iteK_f, s_ret, retK_at, s_ret0, s_pass, runK_some, runK_none, forK_at, turnK_none, turnK_some, whlK_t, whlK_f, tt_not, tt_band, tt_bor, tt_bool, tt_loc, tt_cmp, tt_cmp2, tt_call, tt_meth, tt_isi, tt_attr, tt_sub, tt_bin, tnotF_t, tnotF_f, ta_nil, ta_cons, andF_t, andF_f, to_nil, to_cons, orF_t, orF_f, e_none, e_bool, e_int, e_str, e_loc, e_bin, binF_at, e_not, notF_at, notF2_t, notF2_f, e_band, e_bor, e_cmp, cmpF_at, e_cmp2, cmpG_t, cmpG_f, e_list, listF_at, e_tup, tupF_at, e_dict0, e_attr, attrF_at, e_sub, subF_at, e_slice, e_sset, e_call, e_meth, methF_at, e_bi, e_isi, isiF_at, boolF_at, e_comp, es_nil, es_cons, consF_at, consF2_at, ok_bind, bindK_at, bind_pure, bind_lift, ok_pure, ok_lift, List.zip_cons_cons, List.zip_nil_right, List.zip_nil_left, List.foldl_cons, List.foldl_nil, upd_def, Nat.reduceBEq, bif_t, bif_f, if_true, if_false, Bool.false_eq_true, reduceCtorEq, Nat.reduceEqDiff, ne_eq, not_false_eq_true, not_true_eq_false, decide_true, decide_false, Bool.not_true, Bool.not_false]
  exact h
theorem counted_ok {x : Option Nat} (A : Pl σ hs kb b kw w q m) (nd : kw.Nodup) (hx : ∀ k, x = some k → k ∈ kw) (h : ∀ σ', Pl σ' hs kb b kw (addW w x) q m → Kp σ σ' → σ'.length = σ.length → Q .none σ') : Ok (run prog 1000 (d + 1) true 29 [.ref 2, ov x]) σ Q := by
  rw [ok_run (fd := PP.m_counted) rfl rfl]
  cases x with
  | none =>
    simp (disch := decide) only [PP.m_counted, ov, ok_isNot, ok_truthb, oks_cons, oks_nil, then_none, then_some, s_expr, exprK_at, s_var, varK_at, s_attr, attrK_at, attrK2_at, s_sub, subK_at, subK2_at, subK3_at, s_ite, iteK_t, iteK_f, s_ret, retK_at, s_ret0, s_pass, runK_some, runK_none, forK_at, turnK_none, turnK_some, whlK_t, whlK_f, tt_not, tt_band, tt_bor, tt_bool, tt_loc, tt_cmp, tt_cmp2, tt_call, tt_meth, tt_isi, tt_attr, tt_sub, tt_bin, tnotF_t, tnotF_f, ta_nil, ta_cons, andF_t, andF_f, to_nil, to_cons, orF_t, orF_f, e_none, e_bool, e_int, e_str, e_loc, e_bin, binF_at, e_not, notF_at, notF2_t, notF2_f, e_band, e_bor, e_cmp, cmpF_at, e_cmp2, cmpG_t, cmpG_f, e_list, listF_at, e_tup, tupF_at, e_dict0, e_attr, attrF_at, e_sub, subF_at, e_slice, e_sset, e_call, e_meth, methF_at, e_bi, e_isi, isiF_at, boolF_at, e_comp, es_nil, es_cons, consF_at, consF2_at, ok_bind, bindK_at, bind_pure, bind_lift, ok_pure, ok_lift, List.zip_cons_cons, List.zip_nil_right, List.zip_nil_left, List.foldl_cons, List.foldl_nil, upd_def, Nat.reduceBEq, bif_t, bif_f, if_true, if_false, Bool.false_eq_true, reduceCtorEq, Nat.reduceEqDiff, ne_eq, not_false_eq_true, not_true_eq_false, decide_true, decide_false, Bool.not_true, Bool.not_false]
    exact h σ A (Kp.refl _) rfl
  | some k =>
    have hk := hx k rfl
    have hs' : dset (mD (wF w) kw) (.int (k : Int)) (.int ((w k : Int) + 1)) = mD (wF (updF w k (w k + 1))) kw := by rw [mD_set hk nd, ← wF_upd]; rfl
    simp (disch := decide) only [PP.m_counted, ov, ok_isNot, ok_truthb, ok_getAttr A.p A.d (n := 49) (v := .ref 6) rfl, ok_getDict A.w' rfl (mD_get hk), wF_at, ok_add, ok_setDict (v := .int ((w k : Int) + 1)) A.w' (show prog.nf ≤ 6 by decide) (show isKey (.int (k : Int)) = true from rfl) (by rw [hs', mD_len]; exact le_lim (by have := A.sm; lia)), hs', oks_cons, oks_nil, then_none, then_some, s_expr, exprK_at, s_var, varK_at, s_attr, attrK_at, attrK2_at, s_sub, subK_at, subK2_at, subK3_at, s_ite, iteK_t, iteK_f, s_ret, retK_at, s_ret0, s_pass, runK_some, runK_none, forK_at, turnK_none, turnK_some, whlK_t, whlK_f, tt_not, tt_band, tt_bor, tt_bool, tt_loc, tt_cmp, tt_cmp2, tt_call, tt_meth, tt_isi, tt_attr, tt_sub, tt_bin, tnotF_t, tnotF_f, ta_nil, ta_cons, andF_t, andF_f, to_nil, to_cons, orF_t, orF_f, e_none, e_bool, e_int, e_str, e_loc, e_bin, binF_at, e_not, notF_at, notF2_t, notF2_f, e_band, e_bor, e_cmp, cmpF_at, e_cmp2, cmpG_t, cmpG_f, e_list, listF_at, e_tup, tupF_at, e_dict0, e_attr, attrF_at, e_sub, subF_at, e_slice, e_sset, e_call, e_meth, methF_at, e_bi, e_isi, isiF_at, boolF_at, e_comp, es_nil, es_cons, consF_at, consF2_at, ok_bind, bindK_at, bind_pure, bind_lift, ok_pure, ok_lift, List.zip_cons_cons, List.zip_nil_right, List.zip_nil_left, List.foldl_cons, List.foldl_nil, upd_def, Nat.reduceBEq, bif_t, bif_f, if_true, if_false, Bool.false_eq_true, reduceCtorEq, Nat.reduceEqDiff, ne_eq, not_false_eq_true, not_true_eq_false, decide_true, decide_false, Bool.not_true, Bool.not_false]
    exact h _ (A.setW _ A.sm.2.1) ((Kp.refl _).put rfl _) len_put
theorem addN_len {k : Nat} : (addN q k).length ≤ q.length + 1 := by
  unfold addN
  split
  · exact Nat.le_succ _
  · rw [List.length_append]; exact Nat.le_refl _
theorem light_none {f : Nat} (h : Q .none σ) : Ok (run prog 1000 (d + 1) true 31 [.ref 2, .none, .ref f]) σ Q := by
  rw [ok_run (fd := PP.m_lighter) rfl rfl]
  simp (disch := decide) only [PP.m_lighter, ok_is, ok_truthb, oks_cons, oks_nil, then_none, then_some, s_expr, exprK_at, s_var, varK_at, s_attr, attrK_at, attrK2_at, s_sub, subK_at, subK2_at, subK3_at, s_ite, iteK_t, iteK_f, s_ret, retK_at, s_ret0, s_pass, runK_some, runK_none, forK_at, turnK_none, turnK_some, whlK_t, whlK_f, tt_not, tt_band, tt_bor, tt_bool, tt_loc, tt_cmp, tt_cmp2, tt_call, tt_meth, tt_isi, tt_attr, tt_sub, tt_bin, tnotF_t, tnotF_f, ta_nil, ta_cons, andF_t, andF_f, to_nil, to_cons, orF_t, orF_f, e_none, e_bool, e_int, e_str, e_loc, e_bin, binF_at, e_not, notF_at, notF2_t, notF2_f, e_band, e_bor, e_cmp, cmpF_at, e_cmp2, cmpG_t, cmpG_f, e_list, listF_at, e_tup, tupF_at, e_dict0, e_attr, attrF_at, e_sub, subF_at, e_slice, e_sset, e_call, e_meth, methF_at, e_bi, e_isi, isiF_at, boolF_at, e_comp, es_nil, es_cons, consF_at, consF2_at, ok_bind, bindK_at, bind_pure, bind_lift, ok_pure, ok_lift, List.zip_cons_cons, List.zip_nil_right, List.zip_nil_left, List.foldl_cons, List.foldl_nil, upd_def, Nat.reduceBEq, bif_t, bif_f, if_true, if_false, Bool.false_eq_true, reduceCtorEq, Nat.reduceEqDiff, ne_eq, not_false_eq_true, not_true_eq_false, decide_true, decide_false, Bool.not_true, Bool.not_false]
  exact h
theorem light_more {k f : Nat} (A : Pl σ hs kb b kw w q m) (hk : k ∈ kw) (nd : kw.Nodup) (hw : 1 < w k) (hq : q.length < 100) (h : ∀ σ', Pl σ' hs kb b kw (updF w k (w k - 1)) (addN q k) m → Kp σ σ' → Q .none σ') : Ok (run prog 1000 (d + 1) true 31 [.ref 2, .int (k : Int), .ref f]) σ Q := by
  rw [ok_run (fd := PP.m_lighter) rfl rfl]
  have e1 : (w k : Int) - 1 = ((w k - 1 : Nat) : Int) := by lia
  have hs' : dset (mD (wF w) kw) (.int (k : Int)) (.int ((w k : Int) - 1)) = mD (wF (updF w k (w k - 1))) kw := by
    rw [e1, mD_set hk nd, ← wF_upd]
  have A1 := A.setW (kw₁ := kw) (updF w k (w k - 1)) A.sm.2.1
  have hgt : ((w k - 1 : Nat) : Int) > 0 := by lia
  have hqa : (addN q k).length ≤ 100 := Nat.le_trans addN_len (by lia)
  have hqs : (dset (dD q) (.int (k : Int)) (.bool true)).length ≤ lim := by
    rw [dD_set]; unfold dD; rw [List.length_map]; exact le_lim (by lia)
  simp (disch := decide) only [PP.m_lighter, ok_is, ok_truthb, ok_getAttr A.p A.d (n := 49) (v := .ref 6) rfl, ok_getDict A.w' rfl (mD_get hk), wF_at, ok_sub, ok_setDict (v := .int ((w k : Int) - 1)) A.w' (show prog.nf ≤ 6 by decide) (show isKey (.int (k : Int)) = true from rfl) (by rw [hs', mD_len]; exact le_lim (by have := A.sm; lia)), hs',
    ok_getAttr A1.p A1.d (n := 49) (v := .ref 6) rfl, ok_getDict A1.w' rfl (mD_get hk), upd_is, ok_gt, hgt, ok_getAttr A1.p A1.d (n := 50) (v := .ref 7) rfl, ok_setDict A1.q' (show prog.nf ≤ 7 by decide) (show isKey (.int (k : Int)) = true from rfl) hqs, oks_cons, oks_nil, then_none, then_some, s_expr, exprK_at, s_var, varK_at, s_attr, attrK_at, attrK2_at, s_sub, subK_at, subK2_at, subK3_at, s_ite, iteK_t, iteK_f, s_ret, retK_at, s_ret0, s_pass, runK_some, runK_none, forK_at, turnK_none, turnK_some, whlK_t, whlK_f, tt_not, tt_band, tt_bor, tt_bool, tt_loc, tt_cmp, tt_cmp2, tt_call, tt_meth, tt_isi, tt_attr, tt_sub, tt_bin, tnotF_t, tnotF_f, ta_nil, ta_cons, andF_t, andF_f, to_nil, to_cons, orF_t, orF_f, e_none, e_bool, e_int, e_str, e_loc, e_bin, binF_at, e_not, notF_at, notF2_t, notF2_f, e_band, e_bor, e_cmp, cmpF_at, e_cmp2, cmpG_t, cmpG_f, e_list, listF_at, e_tup, tupF_at, e_dict0, e_attr, attrF_at, e_sub, subF_at, e_slice, e_sset, e_call, e_meth, methF_at, e_bi, e_isi, isiF_at, boolF_at, e_comp, es_nil, es_cons, consF_at, consF2_at, ok_bind, bindK_at, bind_pure, bind_lift, ok_pure, ok_lift, List.zip_cons_cons, List.zip_nil_right, List.zip_nil_left, List.foldl_cons, List.foldl_nil, upd_def, Nat.reduceBEq, bif_t, bif_f, if_true, if_false, Bool.false_eq_true, reduceCtorEq, Nat.reduceEqDiff, ne_eq, not_false_eq_true, not_true_eq_false, decide_true, decide_false, Bool.not_true, Bool.not_false]
  rw [dD_set]
  exact h _ (A1.setQ hqa) (((Kp.refl _).put rfl _).put rfl _)
end
end Mine.L02

set_option autoImplicit false
set_option linter.unusedSimpArgs false
set_option linter.unusedVariables false
namespace Mine.L02
open Mine
open PySem (Str PyData)

section
variable {σ σ' : H} {hs : List (Option Nat)} {kb kw : List Nat} {b : Nat → Nat} {w : Nat → Nat} {q : List Nat} {m : Nat} {d : Nat} {Q : V → H → Prop}
theorem er_len {k : Nat} {l : List Nat} {n : Nat} (h : l.length ≤ n) : (l.erase k).length ≤ n := Nat.le_trans (List.length_erase_le ..) h
theorem light_free {k f : Nat} (A : Pl σ hs kb b kw w q m) (hk : k ∈ kw) (nd : kw.Nodup) (hw : w k = 1) (hf : 8 < f) (hb : ∀ k ∈ kb, b k ≠ f) (g : σ.get f = some (.list []))
    (h : ∀ σ', Pl σ' hs kb b (kw.erase k) (updF w k 0) (q.erase k) m → σ'.get f = some (.list [.int (k : Int)]) → (∀ a o, Ow a = false → a ≠ f → σ.get a = some o → σ'.get a = some o) → Q .none σ') : Ok (run prog 1000 (d + 1) true 31 [.ref 2, .int (k : Int), .ref f]) σ Q := by
  rw [ok_run (fd := PP.m_lighter) rfl rfl]
  have e1 : ((1 : Nat) : Int) - 1 = ((0 : Nat) : Int) := rfl
  have hs' : dset (mD (wF w) kw) (.int (k : Int)) (.int ((0 : Nat) : Int)) = mD (wF (updF w k 0)) kw := by rw [mD_set hk nd, ← wF_upd]
  have A1 := A.setW (kw₁ := kw) (updF w k 0) A.sm.2.1
  have k1 : Kp σ (σ.put 6 (.dict (mD (wF (updF w k 0)) kw))) := (Kp.refl _).put rfl _
  have ow := ow_gt (a := f) (by lia)
  have h0 : ¬ (((0 : Nat) : Int) > 0) := by lia
  simp (disch := decide) only [PP.m_lighter, ok_is, ok_truthb, ok_getAttr A.p A.d (n := 49) (v := .ref 6) rfl, ok_getDict A.w' rfl (mD_get hk), wF_at, hw, ok_sub, e1, ok_setDict (v := .int ((0 : Nat) : Int)) A.w' (show prog.nf ≤ 6 by decide) (show isKey (.int (k : Int)) = true from rfl) (by rw [hs', mD_len]; exact le_lim (by have := A.sm; lia)), hs', oks_cons, oks_nil, then_none, then_some, s_expr, exprK_at, s_var, varK_at, s_attr, attrK_at, attrK2_at, s_sub, subK_at, subK2_at, subK3_at, s_ite, iteK_t, iteK_f, s_ret, retK_at, s_ret0, s_pass, runK_some, runK_none, forK_at, turnK_none, turnK_some, whlK_t, whlK_f, tt_not, tt_band, tt_bor, tt_bool, tt_loc, tt_cmp, tt_cmp2, tt_call, tt_meth, tt_isi, tt_attr, tt_sub, tt_bin, tnotF_t, tnotF_f, ta_nil, ta_cons, andF_t, andF_f, to_nil, to_cons, orF_t, orF_f, e_none, e_bool, e_int, e_str, e_loc, e_bin, binF_at, e_not, notF_at, notF2_t, notF2_f, e_band, e_bor, e_cmp, cmpF_at, e_cmp2, cmpG_t, cmpG_f, e_list, listF_at, e_tup, tupF_at, e_dict0, e_attr, attrF_at, e_sub, subF_at, e_slice, e_sset, e_call, e_meth, methF_at, e_bi, e_isi, isiF_at, boolF_at, e_comp, es_nil, es_cons, consF_at, consF2_at, ok_bind, bindK_at, bind_pure, bind_lift, ok_pure, ok_lift, List.zip_cons_cons, List.zip_nil_right, List.zip_nil_left, List.foldl_cons, List.foldl_nil, upd_def, Nat.reduceBEq, bif_t, bif_f, if_true, if_false, Bool.false_eq_true, reduceCtorEq, Nat.reduceEqDiff, ne_eq, not_false_eq_true, not_true_eq_false, decide_true, decide_false, Bool.not_true, Bool.not_false]
  generalize σ.put 6 (.dict (mD (wF (updF w k 0)) kw)) = σ1 at *
  simp (disch := decide) only [ok_getAttr A1.p A1.d (n := 49) (v := .ref 6) rfl, ok_getDict A1.w' rfl (mD_get hk), wF_at, upd_is, ok_gt, h0, ok_truthb, mx_dict A1.w', ok_dpop1 A1.w' (show prog.nf ≤ 6 by decide) (show isKey (.int (k : Int)) = true from rfl) (mD_get hk), mD_del, oks_cons, oks_nil, then_none, then_some, s_expr, exprK_at, s_var, varK_at, s_attr, attrK_at, attrK2_at, s_sub, subK_at, subK2_at, subK3_at, s_ite, iteK_t, iteK_f, s_ret, retK_at, s_ret0, s_pass, runK_some, runK_none, forK_at, turnK_none, turnK_some, whlK_t, whlK_f, tt_not, tt_band, tt_bor, tt_bool, tt_loc, tt_cmp, tt_cmp2, tt_call, tt_meth, tt_isi, tt_attr, tt_sub, tt_bin, tnotF_t, tnotF_f, ta_nil, ta_cons, andF_t, andF_f, to_nil, to_cons, orF_t, orF_f, e_none, e_bool, e_int, e_str, e_loc, e_bin, binF_at, e_not, notF_at, notF2_t, notF2_f, e_band, e_bor, e_cmp, cmpF_at, e_cmp2, cmpG_t, cmpG_f, e_list, listF_at, e_tup, tupF_at, e_dict0, e_attr, attrF_at, e_sub, subF_at, e_slice, e_sset, e_call, e_meth, methF_at, e_bi, e_isi, isiF_at, boolF_at, e_comp, es_nil, es_cons, consF_at, consF2_at, ok_bind, bindK_at, bind_pure, bind_lift, ok_pure, ok_lift, List.zip_cons_cons, List.zip_nil_right, List.zip_nil_left, List.foldl_cons, List.foldl_nil, upd_def, Nat.reduceBEq, bif_t, bif_f, if_true, if_false, Bool.false_eq_true, reduceCtorEq, Nat.reduceEqDiff, ne_eq, not_false_eq_true, not_true_eq_false, decide_true, decide_false, Bool.not_true, Bool.not_false]
  have A2 := A1.setW (kw₁ := kw.erase k) (updF w k 0) (er_len A.sm.2.1)
  have k2 := k1.put (a := 6) rfl (.dict (mD (wF (updF w k 0)) (kw.erase k)))
  generalize σ1.put 6 (.dict (mD (wF (updF w k 0)) (kw.erase k))) = σ2 at *
  simp (disch := decide) only [ok_getAttr A2.p A2.d (n := 50) (v := .ref 7) rfl, mx_dict A2.q', oks_cons, oks_nil, then_none, then_some, s_expr, exprK_at, s_var, varK_at, s_attr, attrK_at, attrK2_at, s_sub, subK_at, subK2_at, subK3_at, s_ite, iteK_t, iteK_f, s_ret, retK_at, s_ret0, s_pass, runK_some, runK_none, forK_at, turnK_none, turnK_some, whlK_t, whlK_f, tt_not, tt_band, tt_bor, tt_bool, tt_loc, tt_cmp, tt_cmp2, tt_call, tt_meth, tt_isi, tt_attr, tt_sub, tt_bin, tnotF_t, tnotF_f, ta_nil, ta_cons, andF_t, andF_f, to_nil, to_cons, orF_t, orF_f, e_none, e_bool, e_int, e_str, e_loc, e_bin, binF_at, e_not, notF_at, notF2_t, notF2_f, e_band, e_bor, e_cmp, cmpF_at, e_cmp2, cmpG_t, cmpG_f, e_list, listF_at, e_tup, tupF_at, e_dict0, e_attr, attrF_at, e_sub, subF_at, e_slice, e_sset, e_call, e_meth, methF_at, e_bi, e_isi, isiF_at, boolF_at, e_comp, es_nil, es_cons, consF_at, consF2_at, ok_bind, bindK_at, bind_pure, bind_lift, ok_pure, ok_lift, List.zip_cons_cons, List.zip_nil_right, List.zip_nil_left, List.foldl_cons, List.foldl_nil, upd_def, Nat.reduceBEq, bif_t, bif_f, if_true, if_false, Bool.false_eq_true, reduceCtorEq, Nat.reduceEqDiff, ne_eq, not_false_eq_true, not_true_eq_false, decide_true, decide_false, Bool.not_true, Bool.not_false]
  refine ok_dpopD A2.q' (show prog.nf ≤ 7 by decide) (show isKey (.int (k : Int)) = true from rfl) fun v => ?_
  rw [dD_del]
  have A3 := A2.setQ (q₁ := q.erase k) (er_len A.sm.2.2)
  have k3 := k2.put (a := 7) rfl (.dict (dD (q.erase k)))
  generalize σ2.put 7 (.dict (dD (q.erase k))) = σ3 at *
  have g3 := k3 _ _ ow g
  simp (disch := decide) only [mx_list g3 (.inl rfl), ok_append g3 (show prog.nf ≤ f from Nat.le_trans (show prog.nf ≤ 8 by decide) (Nat.le_of_lt hf)) (le_lim (by decide : 1 ≤ 1000)), List.nil_append, oks_cons, oks_nil, then_none, then_some, s_expr, exprK_at, s_var, varK_at, s_attr, attrK_at, attrK2_at, s_sub, subK_at, subK2_at, subK3_at, s_ite, iteK_t, iteK_f, s_ret, retK_at, s_ret0, s_pass, runK_some, runK_none, forK_at, turnK_none, turnK_some, whlK_t, whlK_f, tt_not, tt_band, tt_bor, tt_bool, tt_loc, tt_cmp, tt_cmp2, tt_call, tt_meth, tt_isi, tt_attr, tt_sub, tt_bin, tnotF_t, tnotF_f, ta_nil, ta_cons, andF_t, andF_f, to_nil, to_cons, orF_t, orF_f, e_none, e_bool, e_int, e_str, e_loc, e_bin, binF_at, e_not, notF_at, notF2_t, notF2_f, e_band, e_bor, e_cmp, cmpF_at, e_cmp2, cmpG_t, cmpG_f, e_list, listF_at, e_tup, tupF_at, e_dict0, e_attr, attrF_at, e_sub, subF_at, e_slice, e_sset, e_call, e_meth, methF_at, e_bi, e_isi, isiF_at, boolF_at, e_comp, es_nil, es_cons, consF_at, consF2_at, ok_bind, bindK_at, bind_pure, bind_lift, ok_pure, ok_lift, List.zip_cons_cons, List.zip_nil_right, List.zip_nil_left, List.foldl_cons, List.foldl_nil, upd_def, Nat.reduceBEq, bif_t, bif_f, if_true, if_false, Bool.false_eq_true, reduceCtorEq, Nat.reduceEqDiff, ne_eq, not_false_eq_true, not_true_eq_false, decide_true, decide_false, Bool.not_true, Bool.not_false]
  exact h _ (A3.put hf hb _) (put_self g3) fun a o ha hne e => (get_put_ne (Ne.symm hne)).trans (k3 a o ha e)

theorem slots_ok {n f : Nat} {a : Nat} {lc : Loc} {Q : Option V → Loc → H → Prop} (A : Pl σ hs kb b kw w q m) (e46 : lc 46 = some (.ref 2)) (e55 : lc 55 = some (.ref f)) (e56 : lc 56 = some (.int 0)) (e62 : lc 62 = some (.ref a)) (g : σ.get a = some (.list (List.replicate n .none)))
    (h : ∀ l', l' 46 = some (.ref 2) → l' 55 = some (.ref f) → l' 56 = some (.int 1) → Q none l' σ) : OkS (exs prog (run prog 1000 (d + 1)) 1000 PP.m_let_go_4w_2 lc σ) Q := by
  refine oks_step rfl ?_
  rw [s_for]
  simp (disch := decide) only [e62, s_expr, exprK_at, s_var, varK_at, s_attr, attrK_at, attrK2_at, s_sub, subK_at, subK2_at, subK3_at, s_ite, iteK_t, iteK_f, s_ret, retK_at, s_ret0, s_pass, runK_some, runK_none, forK_at, turnK_none, turnK_some, whlK_t, whlK_f, tt_not, tt_band, tt_bor, tt_bool, tt_loc, tt_cmp, tt_cmp2, tt_call, tt_meth, tt_isi, tt_attr, tt_sub, tt_bin, tnotF_t, tnotF_f, ta_nil, ta_cons, andF_t, andF_f, to_nil, to_cons, orF_t, orF_f, e_none, e_bool, e_int, e_str, e_loc, e_bin, binF_at, e_not, notF_at, notF2_t, notF2_f, e_band, e_bor, e_cmp, cmpF_at, e_cmp2, cmpG_t, cmpG_f, e_list, listF_at, e_tup, tupF_at, e_dict0, e_attr, attrF_at, e_sub, subF_at, e_slice, e_sset, e_call, e_meth, methF_at, e_bi, e_isi, isiF_at, boolF_at, e_comp, es_nil, es_cons, consF_at, consF2_at, ok_bind, bindK_at, bind_pure, bind_lift, ok_pure, ok_lift, List.zip_cons_cons, List.zip_nil_right, List.zip_nil_left, List.foldl_cons, List.foldl_nil, upd_def, Nat.reduceBEq, bif_t, bif_f, if_true, if_false, Bool.false_eq_true, reduceCtorEq, Nat.reduceEqDiff, ne_eq, not_false_eq_true, not_true_eq_false, decide_true, decide_false, Bool.not_true, Bool.not_false]
  refine ⟨_, it_list g, f_inv (fun j l s => s = σ ∧ l 46 = some (.ref 2) ∧ l 55 = some (.ref f) ∧ l 56 = some (.int 0)) ⟨rfl, e46, e55, e56⟩ ?_ ?_⟩
  · rintro j l s y hy ⟨rfl, h1, h2, h3⟩
    obtain rfl := List.eq_of_mem_replicate (List.mem_of_getElem? hy)
    refine oks_step rfl ?_
    simp (disch := decide) only [h1, h2, mx_inst A.p A.d, s_expr, exprK_at, s_var, varK_at, s_attr, attrK_at, attrK2_at, s_sub, subK_at, subK2_at, subK3_at, s_ite, iteK_t, iteK_f, s_ret, retK_at, s_ret0, s_pass, runK_some, runK_none, forK_at, turnK_none, turnK_some, whlK_t, whlK_f, tt_not, tt_band, tt_bor, tt_bool, tt_loc, tt_cmp, tt_cmp2, tt_call, tt_meth, tt_isi, tt_attr, tt_sub, tt_bin, tnotF_t, tnotF_f, ta_nil, ta_cons, andF_t, andF_f, to_nil, to_cons, orF_t, orF_f, e_none, e_bool, e_int, e_str, e_loc, e_bin, binF_at, e_not, notF_at, notF2_t, notF2_f, e_band, e_bor, e_cmp, cmpF_at, e_cmp2, cmpG_t, cmpG_f, e_list, listF_at, e_tup, tupF_at, e_dict0, e_attr, attrF_at, e_sub, subF_at, e_slice, e_sset, e_call, e_meth, methF_at, e_bi, e_isi, isiF_at, boolF_at, e_comp, es_nil, es_cons, consF_at, consF2_at, ok_bind, bindK_at, bind_pure, bind_lift, ok_pure, ok_lift, List.zip_cons_cons, List.zip_nil_right, List.zip_nil_left, List.foldl_cons, List.foldl_nil, upd_def, Nat.reduceBEq, bif_t, bif_f, if_true, if_false, Bool.false_eq_true, reduceCtorEq, Nat.reduceEqDiff, ne_eq, not_false_eq_true, not_true_eq_false, decide_true, decide_false, Bool.not_true, Bool.not_false]
    refine light_none ?_
    simp (disch := decide) only [oks_nil, then_none, s_expr, exprK_at, s_var, varK_at, s_attr, attrK_at, attrK2_at, s_sub, subK_at, subK2_at, subK3_at, s_ite, iteK_t, iteK_f, s_ret, retK_at, s_ret0, s_pass, runK_some, runK_none, forK_at, turnK_none, turnK_some, whlK_t, whlK_f, tt_not, tt_band, tt_bor, tt_bool, tt_loc, tt_cmp, tt_cmp2, tt_call, tt_meth, tt_isi, tt_attr, tt_sub, tt_bin, tnotF_t, tnotF_f, ta_nil, ta_cons, andF_t, andF_f, to_nil, to_cons, orF_t, orF_f, e_none, e_bool, e_int, e_str, e_loc, e_bin, binF_at, e_not, notF_at, notF2_t, notF2_f, e_band, e_bor, e_cmp, cmpF_at, e_cmp2, cmpG_t, cmpG_f, e_list, listF_at, e_tup, tupF_at, e_dict0, e_attr, attrF_at, e_sub, subF_at, e_slice, e_sset, e_call, e_meth, methF_at, e_bi, e_isi, isiF_at, boolF_at, e_comp, es_nil, es_cons, consF_at, consF2_at, ok_bind, bindK_at, bind_pure, bind_lift, ok_pure, ok_lift, List.zip_cons_cons, List.zip_nil_right, List.zip_nil_left, List.foldl_cons, List.foldl_nil, upd_def, Nat.reduceBEq, bif_t, bif_f, if_true, if_false, Bool.false_eq_true, reduceCtorEq, Nat.reduceEqDiff, ne_eq, not_false_eq_true, not_true_eq_false, decide_true, decide_false, Bool.not_true, Bool.not_false]
    exact ⟨trivial, still_get rfl, trivial, h1, h2, h3⟩
  · rintro l s ⟨rfl, h1, h2, h3⟩
    refine then_step rfl ?_
    simp (disch := decide) only [h3, ok_add, oks_nil, then_none, s_expr, exprK_at, s_var, varK_at, s_attr, attrK_at, attrK2_at, s_sub, subK_at, subK2_at, subK3_at, s_ite, iteK_t, iteK_f, s_ret, retK_at, s_ret0, s_pass, runK_some, runK_none, forK_at, turnK_none, turnK_some, whlK_t, whlK_f, tt_not, tt_band, tt_bor, tt_bool, tt_loc, tt_cmp, tt_cmp2, tt_call, tt_meth, tt_isi, tt_attr, tt_sub, tt_bin, tnotF_t, tnotF_f, ta_nil, ta_cons, andF_t, andF_f, to_nil, to_cons, orF_t, orF_f, e_none, e_bool, e_int, e_str, e_loc, e_bin, binF_at, e_not, notF_at, notF2_t, notF2_f, e_band, e_bor, e_cmp, cmpF_at, e_cmp2, cmpG_t, cmpG_f, e_list, listF_at, e_tup, tupF_at, e_dict0, e_attr, attrF_at, e_sub, subF_at, e_slice, e_sset, e_call, e_meth, methF_at, e_bi, e_isi, isiF_at, boolF_at, e_comp, es_nil, es_cons, consF_at, consF2_at, ok_bind, bindK_at, bind_pure, bind_lift, ok_pure, ok_lift, List.zip_cons_cons, List.zip_nil_right, List.zip_nil_left, List.foldl_cons, List.foldl_nil, upd_def, Nat.reduceBEq, bif_t, bif_f, if_true, if_false, Bool.false_eq_true, reduceCtorEq, Nat.reduceEqDiff, ne_eq, not_false_eq_true, not_true_eq_false, decide_true, decide_false, Bool.not_true, Bool.not_false]
    exact h _ h1 h2 rfl
theorem letgo_ok {x : Option Nat} (A : Pl σ hs kb b kw w q m) (nd : kw.Nodup) (hx : ∀ k, x = some k → k ∈ kb ∧ k ∈ kw ∧ 1 ≤ w k) (hq : q.length < 100)
    (h : ∀ σ' f, Pl σ' hs (delK kb w x) b (delK kw w x) (subW w x) (lgQ q w x) m → Kp σ σ' → σ.length ≤ f → σ'.get f = some (.list (nV (lgF w x))) → Q (.ref f) σ') : Ok (run prog 1000 (d + 2) true 30 [.ref 2, ov x]) σ Q := by
  rw [ok_run (fd := PP.m_let_go) rfl rfl]
  have A1 := A.push (.list [])
  have g1 : (σ.push (.list [])).get σ.length = some (.list []) := get_push_eq
  have k1 : Kp σ (σ.push (.list [])) := (Kp.refl _).push _
  have big := A.big
  have ow := ow_gt (a := σ.length) (by lia)
  have hbn : ∀ k ∈ kb, b k ≠ σ.length := fun k hk e => by
    obtain ⟨_, n, _, g⟩ := A.bx k hk
    have := get_lt g; lia
  have hlt : ∀ a o, σ.get a = some o → a ≠ σ.length := fun a o e => Nat.ne_of_lt (get_lt e)
  have hge : σ.length ≤ σ.length := Nat.le_refl _
  unfold PP.m_let_go
  refine oks_step rfl ?_
  simp (disch := decide) only [ok_alloc (o := .list []) rfl, s_expr, exprK_at, s_var, varK_at, s_attr, attrK_at, attrK2_at, s_sub, subK_at, subK2_at, subK3_at, s_ite, iteK_t, iteK_f, s_ret, retK_at, s_ret0, s_pass, runK_some, runK_none, forK_at, turnK_none, turnK_some, whlK_t, whlK_f, tt_not, tt_band, tt_bor, tt_bool, tt_loc, tt_cmp, tt_cmp2, tt_call, tt_meth, tt_isi, tt_attr, tt_sub, tt_bin, tnotF_t, tnotF_f, ta_nil, ta_cons, andF_t, andF_f, to_nil, to_cons, orF_t, orF_f, e_none, e_bool, e_int, e_str, e_loc, e_bin, binF_at, e_not, notF_at, notF2_t, notF2_f, e_band, e_bor, e_cmp, cmpF_at, e_cmp2, cmpG_t, cmpG_f, e_list, listF_at, e_tup, tupF_at, e_dict0, e_attr, attrF_at, e_sub, subF_at, e_slice, e_sset, e_call, e_meth, methF_at, e_bi, e_isi, isiF_at, boolF_at, e_comp, es_nil, es_cons, consF_at, consF2_at, ok_bind, bindK_at, bind_pure, bind_lift, ok_pure, ok_lift, List.zip_cons_cons, List.zip_nil_right, List.zip_nil_left, List.foldl_cons, List.foldl_nil, upd_def, Nat.reduceBEq, bif_t, bif_f, if_true, if_false, Bool.false_eq_true, reduceCtorEq, Nat.reduceEqDiff, ne_eq, not_false_eq_true, not_true_eq_false, decide_true, decide_false, Bool.not_true, Bool.not_false]
  refine then_step rfl ?_
  generalize σ.push (.list []) = τ at *
  generalize hf : σ.length = f at *
  simp (disch := decide) only [mx_inst A1.p A1.d, s_expr, exprK_at, s_var, varK_at, s_attr, attrK_at, attrK2_at, s_sub, subK_at, subK2_at, subK3_at, s_ite, iteK_t, iteK_f, s_ret, retK_at, s_ret0, s_pass, runK_some, runK_none, forK_at, turnK_none, turnK_some, whlK_t, whlK_f, tt_not, tt_band, tt_bor, tt_bool, tt_loc, tt_cmp, tt_cmp2, tt_call, tt_meth, tt_isi, tt_attr, tt_sub, tt_bin, tnotF_t, tnotF_f, ta_nil, ta_cons, andF_t, andF_f, to_nil, to_cons, orF_t, orF_f, e_none, e_bool, e_int, e_str, e_loc, e_bin, binF_at, e_not, notF_at, notF2_t, notF2_f, e_band, e_bor, e_cmp, cmpF_at, e_cmp2, cmpG_t, cmpG_f, e_list, listF_at, e_tup, tupF_at, e_dict0, e_attr, attrF_at, e_sub, subF_at, e_slice, e_sset, e_call, e_meth, methF_at, e_bi, e_isi, isiF_at, boolF_at, e_comp, es_nil, es_cons, consF_at, consF2_at, ok_bind, bindK_at, bind_pure, bind_lift, ok_pure, ok_lift, List.zip_cons_cons, List.zip_nil_right, List.zip_nil_left, List.foldl_cons, List.foldl_nil, upd_def, Nat.reduceBEq, bif_t, bif_f, if_true, if_false, Bool.false_eq_true, reduceCtorEq, Nat.reduceEqDiff, ne_eq, not_false_eq_true, not_true_eq_false, decide_true, decide_false, Bool.not_true, Bool.not_false]
  have e0 : ¬ ((0 : Int) < ((([] : List V).length : Nat) : Int)) := by decide
  have fin : ∀ τ', τ'.get f = some (.list []) → Kp τ τ' → Pl τ' hs (delK kb w x) b (delK kw w x) (subW w x) (lgQ q w x) m → lgF w x = [] → ∀ lc, lc 55 = some (.ref f) →
      OkS (exs prog (run prog 1000 (d + 1)) 1000 PP.m_let_go_3 lc τ') (runK Q) := by
    intro τ' g2 k2 A2 hF lc e55
    refine oks_step rfl ?_
    simp (disch := decide) only [s_expr, exprK_at, s_var, varK_at, s_attr, attrK_at, attrK2_at, s_sub, subK_at, subK2_at, subK3_at, s_ite, iteK_t, iteK_f, s_ret, retK_at, s_ret0, s_pass, runK_some, runK_none, forK_at, turnK_none, turnK_some, whlK_t, whlK_f, tt_not, tt_band, tt_bor, tt_bool, tt_loc, tt_cmp, tt_cmp2, tt_call, tt_meth, tt_isi, tt_attr, tt_sub, tt_bin, tnotF_t, tnotF_f, ta_nil, ta_cons, andF_t, andF_f, to_nil, to_cons, orF_t, orF_f, e_none, e_bool, e_int, e_str, e_loc, e_bin, binF_at, e_not, notF_at, notF2_t, notF2_f, e_band, e_bor, e_cmp, cmpF_at, e_cmp2, cmpG_t, cmpG_f, e_list, listF_at, e_tup, tupF_at, e_dict0, e_attr, attrF_at, e_sub, subF_at, e_slice, e_sset, e_call, e_meth, methF_at, e_bi, e_isi, isiF_at, boolF_at, e_comp, es_nil, es_cons, consF_at, consF2_at, ok_bind, bindK_at, bind_pure, bind_lift, ok_pure, ok_lift, List.zip_cons_cons, List.zip_nil_right, List.zip_nil_left, List.foldl_cons, List.foldl_nil, upd_def, Nat.reduceBEq, bif_t, bif_f, if_true, if_false, Bool.false_eq_true, reduceCtorEq, Nat.reduceEqDiff, ne_eq, not_false_eq_true, not_true_eq_false, decide_true, decide_false, Bool.not_true, Bool.not_false]
    refine then_step rfl ?_
    rw [s_whl, w_step (n := 999)]
    simp (disch := decide) only [e55, ok_lenL g2, ok_lt, ok_truthb, e0, s_expr, exprK_at, s_var, varK_at, s_attr, attrK_at, attrK2_at, s_sub, subK_at, subK2_at, subK3_at, s_ite, iteK_t, iteK_f, s_ret, retK_at, s_ret0, s_pass, runK_some, runK_none, forK_at, turnK_none, turnK_some, whlK_t, whlK_f, tt_not, tt_band, tt_bor, tt_bool, tt_loc, tt_cmp, tt_cmp2, tt_call, tt_meth, tt_isi, tt_attr, tt_sub, tt_bin, tnotF_t, tnotF_f, ta_nil, ta_cons, andF_t, andF_f, to_nil, to_cons, orF_t, orF_f, e_none, e_bool, e_int, e_str, e_loc, e_bin, binF_at, e_not, notF_at, notF2_t, notF2_f, e_band, e_bor, e_cmp, cmpF_at, e_cmp2, cmpG_t, cmpG_f, e_list, listF_at, e_tup, tupF_at, e_dict0, e_attr, attrF_at, e_sub, subF_at, e_slice, e_sset, e_call, e_meth, methF_at, e_bi, e_isi, isiF_at, boolF_at, e_comp, es_nil, es_cons, consF_at, consF2_at, ok_bind, bindK_at, bind_pure, bind_lift, ok_pure, ok_lift, List.zip_cons_cons, List.zip_nil_right, List.zip_nil_left, List.foldl_cons, List.foldl_nil, upd_def, Nat.reduceBEq, bif_t, bif_f, if_true, if_false, Bool.false_eq_true, reduceCtorEq, Nat.reduceEqDiff, ne_eq, not_false_eq_true, not_true_eq_false, decide_true, decide_false, Bool.not_true, Bool.not_false]
    refine then_step rfl ?_
    simp (disch := decide) only [e55, then_some, s_expr, exprK_at, s_var, varK_at, s_attr, attrK_at, attrK2_at, s_sub, subK_at, subK2_at, subK3_at, s_ite, iteK_t, iteK_f, s_ret, retK_at, s_ret0, s_pass, runK_some, runK_none, forK_at, turnK_none, turnK_some, whlK_t, whlK_f, tt_not, tt_band, tt_bor, tt_bool, tt_loc, tt_cmp, tt_cmp2, tt_call, tt_meth, tt_isi, tt_attr, tt_sub, tt_bin, tnotF_t, tnotF_f, ta_nil, ta_cons, andF_t, andF_f, to_nil, to_cons, orF_t, orF_f, e_none, e_bool, e_int, e_str, e_loc, e_bin, binF_at, e_not, notF_at, notF2_t, notF2_f, e_band, e_bor, e_cmp, cmpF_at, e_cmp2, cmpG_t, cmpG_f, e_list, listF_at, e_tup, tupF_at, e_dict0, e_attr, attrF_at, e_sub, subF_at, e_slice, e_sset, e_call, e_meth, methF_at, e_bi, e_isi, isiF_at, boolF_at, e_comp, es_nil, es_cons, consF_at, consF2_at, ok_bind, bindK_at, bind_pure, bind_lift, ok_pure, ok_lift, List.zip_cons_cons, List.zip_nil_right, List.zip_nil_left, List.foldl_cons, List.foldl_nil, upd_def, Nat.reduceBEq, bif_t, bif_f, if_true, if_false, Bool.false_eq_true, reduceCtorEq, Nat.reduceEqDiff, ne_eq, not_false_eq_true, not_true_eq_false, decide_true, decide_false, Bool.not_true, Bool.not_false]
    refine h τ' _ A2 (k1.trans k2) hge ?_
    rw [hF]; exact g2
  cases x with
  | none =>
    refine light_none ?_
    exact fin τ g1 (Kp.refl _) A1 rfl _ rfl
  | some k =>
    obtain ⟨hb, hk, hw⟩ := hx k rfl
    by_cases h1 : w k = 1
    · have e1 : delK kb w (some k) = kb.erase k := if_pos h1
      have e2 : delK kw w (some k) = kw.erase k := if_pos h1
      have e3 : lgQ q w (some k) = q.erase k := if_pos h1
      have e4 : lgF w (some k) = [k] := if_pos h1
      have e5 : subW w (some k) = updF w k 0 := by show updF w k (w k - 1) = _; rw [h1]
      rw [e1, e2, e3, e4, e5] at h
      refine light_free A1 hk nd h1 (by lia) hbn g1 fun τ' A2 g2 k2 => ?_
      have A2b := A2.b'
      refine then_step rfl ?_
      simp (disch := decide) only [s_expr, exprK_at, s_var, varK_at, s_attr, attrK_at, attrK2_at, s_sub, subK_at, subK2_at, subK3_at, s_ite, iteK_t, iteK_f, s_ret, retK_at, s_ret0, s_pass, runK_some, runK_none, forK_at, turnK_none, turnK_some, whlK_t, whlK_f, tt_not, tt_band, tt_bor, tt_bool, tt_loc, tt_cmp, tt_cmp2, tt_call, tt_meth, tt_isi, tt_attr, tt_sub, tt_bin, tnotF_t, tnotF_f, ta_nil, ta_cons, andF_t, andF_f, to_nil, to_cons, orF_t, orF_f, e_none, e_bool, e_int, e_str, e_loc, e_bin, binF_at, e_not, notF_at, notF2_t, notF2_f, e_band, e_bor, e_cmp, cmpF_at, e_cmp2, cmpG_t, cmpG_f, e_list, listF_at, e_tup, tupF_at, e_dict0, e_attr, attrF_at, e_sub, subF_at, e_slice, e_sset, e_call, e_meth, methF_at, e_bi, e_isi, isiF_at, boolF_at, e_comp, es_nil, es_cons, consF_at, consF2_at, ok_bind, bindK_at, bind_pure, bind_lift, ok_pure, ok_lift, List.zip_cons_cons, List.zip_nil_right, List.zip_nil_left, List.foldl_cons, List.foldl_nil, upd_def, Nat.reduceBEq, bif_t, bif_f, if_true, if_false, Bool.false_eq_true, reduceCtorEq, Nat.reduceEqDiff, ne_eq, not_false_eq_true, not_true_eq_false, decide_true, decide_false, Bool.not_true, Bool.not_false]
      refine then_step rfl ?_
      rw [s_whl, w_step (n := 999)]
      have l1 : (0 : Int) < (([V.int (k : Int)].length : Nat) : Int) := (by decide : (0 : Int) < 1)
      have l2 : ¬ ((1 : Int) < (([V.int (k : Int)].length : Nat) : Int)) := (by decide : ¬ ((1 : Int) < 1))
      simp (disch := decide) only [ok_lenL g2, ok_lt, ok_truthb, l1, s_expr, exprK_at, s_var, varK_at, s_attr, attrK_at, attrK2_at, s_sub, subK_at, subK2_at, subK3_at, s_ite, iteK_t, iteK_f, s_ret, retK_at, s_ret0, s_pass, runK_some, runK_none, forK_at, turnK_none, turnK_some, whlK_t, whlK_f, tt_not, tt_band, tt_bor, tt_bool, tt_loc, tt_cmp, tt_cmp2, tt_call, tt_meth, tt_isi, tt_attr, tt_sub, tt_bin, tnotF_t, tnotF_f, ta_nil, ta_cons, andF_t, andF_f, to_nil, to_cons, orF_t, orF_f, e_none, e_bool, e_int, e_str, e_loc, e_bin, binF_at, e_not, notF_at, notF2_t, notF2_f, e_band, e_bor, e_cmp, cmpF_at, e_cmp2, cmpG_t, cmpG_f, e_list, listF_at, e_tup, tupF_at, e_dict0, e_attr, attrF_at, e_sub, subF_at, e_slice, e_sset, e_call, e_meth, methF_at, e_bi, e_isi, isiF_at, boolF_at, e_comp, es_nil, es_cons, consF_at, consF2_at, ok_bind, bindK_at, bind_pure, bind_lift, ok_pure, ok_lift, List.zip_cons_cons, List.zip_nil_right, List.zip_nil_left, List.foldl_cons, List.foldl_nil, upd_def, Nat.reduceBEq, bif_t, bif_f, if_true, if_false, Bool.false_eq_true, reduceCtorEq, Nat.reduceEqDiff, ne_eq, not_false_eq_true, not_true_eq_false, decide_true, decide_false, Bool.not_true, Bool.not_false]
      refine oks_step rfl ?_
      have i0 : [V.int (k : Int)][(0 : Int).toNat]? = some (.int (k : Int)) := rfl
      simp (disch := decide) only [ok_getAttr A2.p A2.d (n := 48) (v := .ref 5) rfl, mx_dict A2.b', ok_getList g2 (Int.le_refl 0) i0, ok_dpop1 A2.b' (show prog.nf ≤ 5 by decide) (show isKey (.int (k : Int)) = true from rfl) (mD_get hb), bF_at, mD_del, s_expr, exprK_at, s_var, varK_at, s_attr, attrK_at, attrK2_at, s_sub, subK_at, subK2_at, subK3_at, s_ite, iteK_t, iteK_f, s_ret, retK_at, s_ret0, s_pass, runK_some, runK_none, forK_at, turnK_none, turnK_some, whlK_t, whlK_f, tt_not, tt_band, tt_bor, tt_bool, tt_loc, tt_cmp, tt_cmp2, tt_call, tt_meth, tt_isi, tt_attr, tt_sub, tt_bin, tnotF_t, tnotF_f, ta_nil, ta_cons, andF_t, andF_f, to_nil, to_cons, orF_t, orF_f, e_none, e_bool, e_int, e_str, e_loc, e_bin, binF_at, e_not, notF_at, notF2_t, notF2_f, e_band, e_bor, e_cmp, cmpF_at, e_cmp2, cmpG_t, cmpG_f, e_list, listF_at, e_tup, tupF_at, e_dict0, e_attr, attrF_at, e_sub, subF_at, e_slice, e_sset, e_call, e_meth, methF_at, e_bi, e_isi, isiF_at, boolF_at, e_comp, es_nil, es_cons, consF_at, consF2_at, ok_bind, bindK_at, bind_pure, bind_lift, ok_pure, ok_lift, List.zip_cons_cons, List.zip_nil_right, List.zip_nil_left, List.foldl_cons, List.foldl_nil, upd_def, Nat.reduceBEq, bif_t, bif_f, if_true, if_false, Bool.false_eq_true, reduceCtorEq, Nat.reduceEqDiff, ne_eq, not_false_eq_true, not_true_eq_false, decide_true, decide_false, Bool.not_true, Bool.not_false]
      obtain ⟨hbb, n, hn, gb⟩ := A2.bx k hb
      have gb' : (τ'.put 5 (.dict (mD (bF b) (kb.erase k)))).get (b k) = some (.list (List.replicate n .none)) := (get_put_ne (by lia)).trans gb
      have g2' : (τ'.put 5 (.dict (mD (bF b) (kb.erase k)))).get f = some (.list [.int (k : Int)]) := (get_put_ne (by lia)).trans g2
      have A3 := A2.setB (kb₁ := kb.erase k) (b₁ := b) (er_len A.sm.1) (fun j hj => A2.bx j (List.mem_of_mem_erase hj))
      have k3 : Kp σ (τ'.put 5 (.dict (mD (bF b) (kb.erase k)))) := fun a o ha e => by
        rw [get_put_ne (fun q => by rw [← q] at ha; cases ha)]
        exact k2 a o ha (hlt a o e) (k1 a o ha e)
      generalize τ'.put 5 (.dict (mD (bF b) (kb.erase k))) = υ at *
      refine slots_ok A3 rfl rfl rfl rfl gb' fun l' m46 m55 m56 => ?_
      rw [turnK_none, w_step (n := 998)]
      simp (disch := decide) only [m55, m56, ok_lenL g2', ok_lt, ok_truthb, l2, s_expr, exprK_at, s_var, varK_at, s_attr, attrK_at, attrK2_at, s_sub, subK_at, subK2_at, subK3_at, s_ite, iteK_t, iteK_f, s_ret, retK_at, s_ret0, s_pass, runK_some, runK_none, forK_at, turnK_none, turnK_some, whlK_t, whlK_f, tt_not, tt_band, tt_bor, tt_bool, tt_loc, tt_cmp, tt_cmp2, tt_call, tt_meth, tt_isi, tt_attr, tt_sub, tt_bin, tnotF_t, tnotF_f, ta_nil, ta_cons, andF_t, andF_f, to_nil, to_cons, orF_t, orF_f, e_none, e_bool, e_int, e_str, e_loc, e_bin, binF_at, e_not, notF_at, notF2_t, notF2_f, e_band, e_bor, e_cmp, cmpF_at, e_cmp2, cmpG_t, cmpG_f, e_list, listF_at, e_tup, tupF_at, e_dict0, e_attr, attrF_at, e_sub, subF_at, e_slice, e_sset, e_call, e_meth, methF_at, e_bi, e_isi, isiF_at, boolF_at, e_comp, es_nil, es_cons, consF_at, consF2_at, ok_bind, bindK_at, bind_pure, bind_lift, ok_pure, ok_lift, List.zip_cons_cons, List.zip_nil_right, List.zip_nil_left, List.foldl_cons, List.foldl_nil, upd_def, Nat.reduceBEq, bif_t, bif_f, if_true, if_false, Bool.false_eq_true, reduceCtorEq, Nat.reduceEqDiff, ne_eq, not_false_eq_true, not_true_eq_false, decide_true, decide_false, Bool.not_true, Bool.not_false]
      refine then_step rfl ?_
      simp (disch := decide) only [m55, then_some, s_expr, exprK_at, s_var, varK_at, s_attr, attrK_at, attrK2_at, s_sub, subK_at, subK2_at, subK3_at, s_ite, iteK_t, iteK_f, s_ret, retK_at, s_ret0, s_pass, runK_some, runK_none, forK_at, turnK_none, turnK_some, whlK_t, whlK_f, tt_not, tt_band, tt_bor, tt_bool, tt_loc, tt_cmp, tt_cmp2, tt_call, tt_meth, tt_isi, tt_attr, tt_sub, tt_bin, tnotF_t, tnotF_f, ta_nil, ta_cons, andF_t, andF_f, to_nil, to_cons, orF_t, orF_f, e_none, e_bool, e_int, e_str, e_loc, e_bin, binF_at, e_not, notF_at, notF2_t, notF2_f, e_band, e_bor, e_cmp, cmpF_at, e_cmp2, cmpG_t, cmpG_f, e_list, listF_at, e_tup, tupF_at, e_dict0, e_attr, attrF_at, e_sub, subF_at, e_slice, e_sset, e_call, e_meth, methF_at, e_bi, e_isi, isiF_at, boolF_at, e_comp, es_nil, es_cons, consF_at, consF2_at, ok_bind, bindK_at, bind_pure, bind_lift, ok_pure, ok_lift, List.zip_cons_cons, List.zip_nil_right, List.zip_nil_left, List.foldl_cons, List.foldl_nil, upd_def, Nat.reduceBEq, bif_t, bif_f, if_true, if_false, Bool.false_eq_true, reduceCtorEq, Nat.reduceEqDiff, ne_eq, not_false_eq_true, not_true_eq_false, decide_true, decide_false, Bool.not_true, Bool.not_false]
      exact h υ f A3 k3 hge g2'
    · have e1 : delK kb w (some k) = kb := if_neg h1
      have e2 : delK kw w (some k) = kw := if_neg h1
      have e3 : lgQ q w (some k) = addN q k := if_neg h1
      have e4 : lgF w (some k) = [] := if_neg h1
      refine light_more A1 hk nd (by lia) hq fun τ' A2 k2 => ?_
      refine fin τ' (k2 _ _ ow g1) k2 ?_ e4 _ rfl
      rw [e1, e2, e3]; exact A2
theorem handed_ok {i : Nat} {x : Option Nat} (A : Pl σ hs kb b kw w q m) (nd : kw.Nodup) (hi : i < hs.length) (hx : ∀ k, x = some k → k ∈ kw) (ho : ∀ k, (hs[i]?).getD none = some k → k ∈ kb ∧ k ∈ kw ∧ 1 ≤ addW w x k) (hq : q.length < 100)
    (h : ∀ σ' f, Pl σ' (hs.set i x) (delK kb (addW w x) ((hs[i]?).getD none)) b (delK kw (addW w x) ((hs[i]?).getD none)) (subW (addW w x) ((hs[i]?).getD none)) (lgQ q (addW w x) ((hs[i]?).getD none)) m → Kp σ σ' → σ.length ≤ f → σ'.get f = some (.list (nV (lgF (addW w x) ((hs[i]?).getD none)))) → Q (.ref f) σ') :
    Ok (run prog 1000 (d + 3) true 32 [.ref 2, .int (i : Int), ov x]) σ Q := by
  rw [ok_run (fd := PP.m_handed) rfl rfl]
  unfold PP.m_handed
  refine oks_step rfl ?_
  simp (disch := decide) only [mx_inst A.p A.d, s_expr, exprK_at, s_var, varK_at, s_attr, attrK_at, attrK2_at, s_sub, subK_at, subK2_at, subK3_at, s_ite, iteK_t, iteK_f, s_ret, retK_at, s_ret0, s_pass, runK_some, runK_none, forK_at, turnK_none, turnK_some, whlK_t, whlK_f, tt_not, tt_band, tt_bor, tt_bool, tt_loc, tt_cmp, tt_cmp2, tt_call, tt_meth, tt_isi, tt_attr, tt_sub, tt_bin, tnotF_t, tnotF_f, ta_nil, ta_cons, andF_t, andF_f, to_nil, to_cons, orF_t, orF_f, e_none, e_bool, e_int, e_str, e_loc, e_bin, binF_at, e_not, notF_at, notF2_t, notF2_f, e_band, e_bor, e_cmp, cmpF_at, e_cmp2, cmpG_t, cmpG_f, e_list, listF_at, e_tup, tupF_at, e_dict0, e_attr, attrF_at, e_sub, subF_at, e_slice, e_sset, e_call, e_meth, methF_at, e_bi, e_isi, isiF_at, boolF_at, e_comp, es_nil, es_cons, consF_at, consF2_at, ok_bind, bindK_at, bind_pure, bind_lift, ok_pure, ok_lift, List.zip_cons_cons, List.zip_nil_right, List.zip_nil_left, List.foldl_cons, List.foldl_nil, upd_def, Nat.reduceBEq, bif_t, bif_f, if_true, if_false, Bool.false_eq_true, reduceCtorEq, Nat.reduceEqDiff, ne_eq, not_false_eq_true, not_true_eq_false, decide_true, decide_false, Bool.not_true, Bool.not_false]
  refine counted_ok A nd hx fun σ1 A1 k1 n1 => ?_
  refine then_step rfl ?_
  simp (disch := decide) only [ok_getAttr A1.p A1.d (n := 47) (v := .ref 4) rfl, ok_getList A1.h (Int.natCast_nonneg _) (ov_at hi), s_expr, exprK_at, s_var, varK_at, s_attr, attrK_at, attrK2_at, s_sub, subK_at, subK2_at, subK3_at, s_ite, iteK_t, iteK_f, s_ret, retK_at, s_ret0, s_pass, runK_some, runK_none, forK_at, turnK_none, turnK_some, whlK_t, whlK_f, tt_not, tt_band, tt_bor, tt_bool, tt_loc, tt_cmp, tt_cmp2, tt_call, tt_meth, tt_isi, tt_attr, tt_sub, tt_bin, tnotF_t, tnotF_f, ta_nil, ta_cons, andF_t, andF_f, to_nil, to_cons, orF_t, orF_f, e_none, e_bool, e_int, e_str, e_loc, e_bin, binF_at, e_not, notF_at, notF2_t, notF2_f, e_band, e_bor, e_cmp, cmpF_at, e_cmp2, cmpG_t, cmpG_f, e_list, listF_at, e_tup, tupF_at, e_dict0, e_attr, attrF_at, e_sub, subF_at, e_slice, e_sset, e_call, e_meth, methF_at, e_bi, e_isi, isiF_at, boolF_at, e_comp, es_nil, es_cons, consF_at, consF2_at, ok_bind, bindK_at, bind_pure, bind_lift, ok_pure, ok_lift, List.zip_cons_cons, List.zip_nil_right, List.zip_nil_left, List.foldl_cons, List.foldl_nil, upd_def, Nat.reduceBEq, bif_t, bif_f, if_true, if_false, Bool.false_eq_true, reduceCtorEq, Nat.reduceEqDiff, ne_eq, not_false_eq_true, not_true_eq_false, decide_true, decide_false, Bool.not_true, Bool.not_false]
  refine then_step rfl ?_
  simp (disch := decide) only [ok_getAttr A1.p A1.d (n := 47) (v := .ref 4) rfl, ok_setList A1.h (show prog.nf ≤ 4 by decide) (Int.natCast_nonneg _) (lt_ov hi), set_ov, s_expr, exprK_at, s_var, varK_at, s_attr, attrK_at, attrK2_at, s_sub, subK_at, subK2_at, subK3_at, s_ite, iteK_t, iteK_f, s_ret, retK_at, s_ret0, s_pass, runK_some, runK_none, forK_at, turnK_none, turnK_some, whlK_t, whlK_f, tt_not, tt_band, tt_bor, tt_bool, tt_loc, tt_cmp, tt_cmp2, tt_call, tt_meth, tt_isi, tt_attr, tt_sub, tt_bin, tnotF_t, tnotF_f, ta_nil, ta_cons, andF_t, andF_f, to_nil, to_cons, orF_t, orF_f, e_none, e_bool, e_int, e_str, e_loc, e_bin, binF_at, e_not, notF_at, notF2_t, notF2_f, e_band, e_bor, e_cmp, cmpF_at, e_cmp2, cmpG_t, cmpG_f, e_list, listF_at, e_tup, tupF_at, e_dict0, e_attr, attrF_at, e_sub, subF_at, e_slice, e_sset, e_call, e_meth, methF_at, e_bi, e_isi, isiF_at, boolF_at, e_comp, es_nil, es_cons, consF_at, consF2_at, ok_bind, bindK_at, bind_pure, bind_lift, ok_pure, ok_lift, List.zip_cons_cons, List.zip_nil_right, List.zip_nil_left, List.foldl_cons, List.foldl_nil, upd_def, Nat.reduceBEq, bif_t, bif_f, if_true, if_false, Bool.false_eq_true, reduceCtorEq, Nat.reduceEqDiff, ne_eq, not_false_eq_true, not_true_eq_false, decide_true, decide_false, Bool.not_true, Bool.not_false]
  have A2 := A1.setH (hs.set i x)
  have k2 := k1.put (a := 4) rfl (.list ((hs.set i x).map ov))
  have n2 : (σ1.put 4 (.list ((hs.set i x).map ov))).length = σ.length := len_put.trans n1
  generalize σ1.put 4 (.list ((hs.set i x).map ov)) = σ2 at *
  refine then_step rfl ?_
  simp (disch := decide) only [mx_inst A2.p A2.d, s_expr, exprK_at, s_var, varK_at, s_attr, attrK_at, attrK2_at, s_sub, subK_at, subK2_at, subK3_at, s_ite, iteK_t, iteK_f, s_ret, retK_at, s_ret0, s_pass, runK_some, runK_none, forK_at, turnK_none, turnK_some, whlK_t, whlK_f, tt_not, tt_band, tt_bor, tt_bool, tt_loc, tt_cmp, tt_cmp2, tt_call, tt_meth, tt_isi, tt_attr, tt_sub, tt_bin, tnotF_t, tnotF_f, ta_nil, ta_cons, andF_t, andF_f, to_nil, to_cons, orF_t, orF_f, e_none, e_bool, e_int, e_str, e_loc, e_bin, binF_at, e_not, notF_at, notF2_t, notF2_f, e_band, e_bor, e_cmp, cmpF_at, e_cmp2, cmpG_t, cmpG_f, e_list, listF_at, e_tup, tupF_at, e_dict0, e_attr, attrF_at, e_sub, subF_at, e_slice, e_sset, e_call, e_meth, methF_at, e_bi, e_isi, isiF_at, boolF_at, e_comp, es_nil, es_cons, consF_at, consF2_at, ok_bind, bindK_at, bind_pure, bind_lift, ok_pure, ok_lift, List.zip_cons_cons, List.zip_nil_right, List.zip_nil_left, List.foldl_cons, List.foldl_nil, upd_def, Nat.reduceBEq, bif_t, bif_f, if_true, if_false, Bool.false_eq_true, reduceCtorEq, Nat.reduceEqDiff, ne_eq, not_false_eq_true, not_true_eq_false, decide_true, decide_false, Bool.not_true, Bool.not_false]
  refine letgo_ok A2 nd ho hq fun σ' f A' k' n' g' => ?_
  exact h σ' f A' (k2.trans k') (by lia) g'
end
end Mine.L02

set_option autoImplicit false
set_option linter.unusedSimpArgs false
set_option linter.unusedVariables false
namespace Mine.L02
open Mine
open PySem (Str PyData)

section
variable {σ σ' : H} {hs : List (Option Nat)} {kb kw ks : List Nat} {b : Nat → Nat} {w : Nat → Nat} {q : List Nat} {m : Nat} {d : Nat} {Q : V → H → Prop}
theorem eg22 {C : Calls} {loc : Loc} : ev prog C (.glo 22) loc = X.pure (.int 6) := rfl
theorem eg23 {C : Calls} {loc : Loc} : ev prog C (.glo 23) loc = X.pure (.int 60) := rfl
theorem at5_set {v : V} {n : Nat} : aset [(47, V.ref 4), (48, .ref 5), (49, .ref 6), (50, .ref 7), (51, v)] 51 (.int (n : Int)) = [(47, .ref 4), (48, .ref 5), (49, .ref 6), (50, .ref 7), (51, .int (n : Int))] := rfl
theorem nones {z : Nat} : ((((List.range ((z : Int)).toNat).map fun (k : Nat) => V.int (k : Int)).filter fun _ => true).map fun _ => V.none) = List.replicate z .none := by
  rw [List.filter_eq_self.mpr (fun _ _ => rfl), Int.toNat_natCast]
  apply List.ext_getElem?
  intro i
  rw [List.getElem?_map, List.getElem?_map, List.getElem?_replicate]
  by_cases h : i < z
  · rw [List.getElem?_range h, if_pos h]; rfl
  · rw [List.getElem?_eq_none (by rw [List.length_range]; lia), if_neg h]; rfl
theorem comp_nones {C : Calls} {loc : Loc} {a z i : Nat} {Q : V → H → Prop} (h : σ.get a = some (.rng 0 (z : Int) 1)) (hz : z ≤ 100) :
    Ok (compX [i] false (tstAnd prog C .nil) (ev prog C .cnone) loc (.ref a)) σ Q = Q (.ref σ.length) (σ.push (.list (List.replicate z .none))) := by
  rw [c_pure (fun _ => true) (fun _ => .none) (it_range h (Int.natCast_nonneg _) (by lia)) (fun y hy => rfl) (fun y hy _ => rfl) (by rw [nones, List.length_replicate]; exact le_lim (by lia)), nones]
theorem make_ok {i z : Nat} (A : Pl σ hs ks b ks w q m) (nd : ks.Nodup) (hl : hs.length = 8) (hi : i < 8) (hz : z ≤ 6) (hm : m ∉ ks) (h60 : ks.length < 60) (ho : ∀ k, (hs[i]?).getD none = some k → k ∈ ks ∧ 1 ≤ addW (updF w m 0) (some m) k) (hq : q.length < 100)
    (h : ∀ σ' f a, σ.length ≤ a → Pl σ' (hs.set i (some m)) (delK (ks ++ [m]) (addW (updF w m 0) (some m)) ((hs[i]?).getD none)) (updF b m a) (delK (ks ++ [m]) (addW (updF w m 0) (some m)) ((hs[i]?).getD none)) (subW (addW (updF w m 0) (some m)) ((hs[i]?).getD none)) (lgQ q (addW (updF w m 0) (some m)) ((hs[i]?).getD none)) (m + 1) → Kp σ σ' → σ.length ≤ f → σ'.get f = some (.list (nV (lgF (addW (updF w m 0) (some m)) ((hs[i]?).getD none)))) → Q (.ref f) σ') :
    Ok (run prog 1000 (d + 4) true 34 [.ref 2, .int (i : Int), .int (z : Int)]) σ Q := by
  rw [ok_run (fd := PP.m_make) rfl rfl]
  have h0' : (0 : Int) ≤ (z : Int) := Int.natCast_nonneg _
  have h1' : (z : Int) ≤ 6 := by lia
  have h2' : ¬ ((((mD (bF b) ks).length : Nat) : Int) = 60) := by rw [mD_len]; lia
  have big := A.big
  unfold PP.m_make
  refine oks_step rfl ?_
  simp (disch := decide) only [mx_inst A.p A.d, s_expr, exprK_at, s_var, varK_at, s_attr, attrK_at, attrK2_at, s_sub, subK_at, subK2_at, subK3_at, s_ite, iteK_t, iteK_f, s_ret, retK_at, s_ret0, s_pass, runK_some, runK_none, forK_at, turnK_none, turnK_some, whlK_t, whlK_f, tt_not, tt_band, tt_bor, tt_bool, tt_loc, tt_cmp, tt_cmp2, tt_call, tt_meth, tt_isi, tt_attr, tt_sub, tt_bin, tnotF_t, tnotF_f, ta_nil, ta_cons, andF_t, andF_f, to_nil, to_cons, orF_t, orF_f, e_none, e_bool, e_int, e_str, e_loc, e_bin, binF_at, e_not, notF_at, notF2_t, notF2_f, e_band, e_bor, e_cmp, cmpF_at, e_cmp2, cmpG_t, cmpG_f, e_list, listF_at, e_tup, tupF_at, e_dict0, e_attr, attrF_at, e_sub, subF_at, e_slice, e_sset, e_call, e_meth, methF_at, e_bi, e_isi, isiF_at, boolF_at, e_comp, es_nil, es_cons, consF_at, consF2_at, ok_bind, bindK_at, bind_pure, bind_lift, ok_pure, ok_lift, List.zip_cons_cons, List.zip_nil_right, List.zip_nil_left, List.foldl_cons, List.foldl_nil, upd_def, Nat.reduceBEq, bif_t, bif_f, if_true, if_false, Bool.false_eq_true, reduceCtorEq, Nat.reduceEqDiff, ne_eq, not_false_eq_true, not_true_eq_false, decide_true, decide_false, Bool.not_true, Bool.not_false]
  refine need_hand_ok hi ?_
  refine then_step rfl ?_
  simp (disch := decide) only [eg22, ok_le, ok_truthb, h0', h1', oks_nil, s_expr, exprK_at, s_var, varK_at, s_attr, attrK_at, attrK2_at, s_sub, subK_at, subK2_at, subK3_at, s_ite, iteK_t, iteK_f, s_ret, retK_at, s_ret0, s_pass, runK_some, runK_none, forK_at, turnK_none, turnK_some, whlK_t, whlK_f, tt_not, tt_band, tt_bor, tt_bool, tt_loc, tt_cmp, tt_cmp2, tt_call, tt_meth, tt_isi, tt_attr, tt_sub, tt_bin, tnotF_t, tnotF_f, ta_nil, ta_cons, andF_t, andF_f, to_nil, to_cons, orF_t, orF_f, e_none, e_bool, e_int, e_str, e_loc, e_bin, binF_at, e_not, notF_at, notF2_t, notF2_f, e_band, e_bor, e_cmp, cmpF_at, e_cmp2, cmpG_t, cmpG_f, e_list, listF_at, e_tup, tupF_at, e_dict0, e_attr, attrF_at, e_sub, subF_at, e_slice, e_sset, e_call, e_meth, methF_at, e_bi, e_isi, isiF_at, boolF_at, e_comp, es_nil, es_cons, consF_at, consF2_at, ok_bind, bindK_at, bind_pure, bind_lift, ok_pure, ok_lift, List.zip_cons_cons, List.zip_nil_right, List.zip_nil_left, List.foldl_cons, List.foldl_nil, upd_def, Nat.reduceBEq, bif_t, bif_f, if_true, if_false, Bool.false_eq_true, reduceCtorEq, Nat.reduceEqDiff, ne_eq, not_false_eq_true, not_true_eq_false, decide_true, decide_false, Bool.not_true, Bool.not_false]
  refine then_step rfl ?_
  simp (disch := decide) only [eg23, ok_getAttr A.p A.d (n := 48) (v := .ref 5) rfl, ok_lenD A.b', ok_eqI, h2', ok_truthb, oks_nil, s_expr, exprK_at, s_var, varK_at, s_attr, attrK_at, attrK2_at, s_sub, subK_at, subK2_at, subK3_at, s_ite, iteK_t, iteK_f, s_ret, retK_at, s_ret0, s_pass, runK_some, runK_none, forK_at, turnK_none, turnK_some, whlK_t, whlK_f, tt_not, tt_band, tt_bor, tt_bool, tt_loc, tt_cmp, tt_cmp2, tt_call, tt_meth, tt_isi, tt_attr, tt_sub, tt_bin, tnotF_t, tnotF_f, ta_nil, ta_cons, andF_t, andF_f, to_nil, to_cons, orF_t, orF_f, e_none, e_bool, e_int, e_str, e_loc, e_bin, binF_at, e_not, notF_at, notF2_t, notF2_f, e_band, e_bor, e_cmp, cmpF_at, e_cmp2, cmpG_t, cmpG_f, e_list, listF_at, e_tup, tupF_at, e_dict0, e_attr, attrF_at, e_sub, subF_at, e_slice, e_sset, e_call, e_meth, methF_at, e_bi, e_isi, isiF_at, boolF_at, e_comp, es_nil, es_cons, consF_at, consF2_at, ok_bind, bindK_at, bind_pure, bind_lift, ok_pure, ok_lift, List.zip_cons_cons, List.zip_nil_right, List.zip_nil_left, List.foldl_cons, List.foldl_nil, upd_def, Nat.reduceBEq, bif_t, bif_f, if_true, if_false, Bool.false_eq_true, reduceCtorEq, Nat.reduceEqDiff, ne_eq, not_false_eq_true, not_true_eq_false, decide_true, decide_false, Bool.not_true, Bool.not_false]
  refine then_step rfl ?_
  simp (disch := decide) only [ok_getAttr A.p A.d (n := 51) (v := .int (m : Int)) rfl, s_expr, exprK_at, s_var, varK_at, s_attr, attrK_at, attrK2_at, s_sub, subK_at, subK2_at, subK3_at, s_ite, iteK_t, iteK_f, s_ret, retK_at, s_ret0, s_pass, runK_some, runK_none, forK_at, turnK_none, turnK_some, whlK_t, whlK_f, tt_not, tt_band, tt_bor, tt_bool, tt_loc, tt_cmp, tt_cmp2, tt_call, tt_meth, tt_isi, tt_attr, tt_sub, tt_bin, tnotF_t, tnotF_f, ta_nil, ta_cons, andF_t, andF_f, to_nil, to_cons, orF_t, orF_f, e_none, e_bool, e_int, e_str, e_loc, e_bin, binF_at, e_not, notF_at, notF2_t, notF2_f, e_band, e_bor, e_cmp, cmpF_at, e_cmp2, cmpG_t, cmpG_f, e_list, listF_at, e_tup, tupF_at, e_dict0, e_attr, attrF_at, e_sub, subF_at, e_slice, e_sset, e_call, e_meth, methF_at, e_bi, e_isi, isiF_at, boolF_at, e_comp, es_nil, es_cons, consF_at, consF2_at, ok_bind, bindK_at, bind_pure, bind_lift, ok_pure, ok_lift, List.zip_cons_cons, List.zip_nil_right, List.zip_nil_left, List.foldl_cons, List.foldl_nil, upd_def, Nat.reduceBEq, bif_t, bif_f, if_true, if_false, Bool.false_eq_true, reduceCtorEq, Nat.reduceEqDiff, ne_eq, not_false_eq_true, not_true_eq_false, decide_true, decide_false, Bool.not_true, Bool.not_false]
  refine then_step rfl ?_
  have e1 : (m : Int) + 1 = ((m + 1 : Nat) : Int) := rfl
  simp (disch := decide) only [ok_add, e1, ok_setAttr A.p A.d (show prog.nf ≤ 1 by decide) (show prog.attrs.contains 51 = true by decide) (show (aset [(47, V.ref 4), (48, .ref 5), (49, .ref 6), (50, .ref 7), (51, .int (m : Int))] 51 (.int ((m + 1 : Nat) : Int))).length ≤ 100 by rw [at5_set]; exact (show 5 ≤ 100 by decide)), at5_set, s_expr, exprK_at, s_var, varK_at, s_attr, attrK_at, attrK2_at, s_sub, subK_at, subK2_at, subK3_at, s_ite, iteK_t, iteK_f, s_ret, retK_at, s_ret0, s_pass, runK_some, runK_none, forK_at, turnK_none, turnK_some, whlK_t, whlK_f, tt_not, tt_band, tt_bor, tt_bool, tt_loc, tt_cmp, tt_cmp2, tt_call, tt_meth, tt_isi, tt_attr, tt_sub, tt_bin, tnotF_t, tnotF_f, ta_nil, ta_cons, andF_t, andF_f, to_nil, to_cons, orF_t, orF_f, e_none, e_bool, e_int, e_str, e_loc, e_bin, binF_at, e_not, notF_at, notF2_t, notF2_f, e_band, e_bor, e_cmp, cmpF_at, e_cmp2, cmpG_t, cmpG_f, e_list, listF_at, e_tup, tupF_at, e_dict0, e_attr, attrF_at, e_sub, subF_at, e_slice, e_sset, e_call, e_meth, methF_at, e_bi, e_isi, isiF_at, boolF_at, e_comp, es_nil, es_cons, consF_at, consF2_at, ok_bind, bindK_at, bind_pure, bind_lift, ok_pure, ok_lift, List.zip_cons_cons, List.zip_nil_right, List.zip_nil_left, List.foldl_cons, List.foldl_nil, upd_def, Nat.reduceBEq, bif_t, bif_f, if_true, if_false, Bool.false_eq_true, reduceCtorEq, Nat.reduceEqDiff, ne_eq, not_false_eq_true, not_true_eq_false, decide_true, decide_false, Bool.not_true, Bool.not_false]
  have A1 := A.setM (m + 1)
  have k1 := (Kp.refl σ).put (a := 1) rfl (at5 (m + 1))
  have n1 : (σ.put 1 (at5 (m + 1))).length = σ.length := len_put
  change andThen prog (run prog 1000 (d + 3)) 1000 PP.m_make_6 (runK Q) none _ (σ.put 1 (at5 (m + 1)))
  generalize σ.put 1 (at5 (m + 1)) = σ1 at *
  refine then_step rfl ?_
  simp (disch := decide) only [ok_range1, s_expr, exprK_at, s_var, varK_at, s_attr, attrK_at, attrK2_at, s_sub, subK_at, subK2_at, subK3_at, s_ite, iteK_t, iteK_f, s_ret, retK_at, s_ret0, s_pass, runK_some, runK_none, forK_at, turnK_none, turnK_some, whlK_t, whlK_f, tt_not, tt_band, tt_bor, tt_bool, tt_loc, tt_cmp, tt_cmp2, tt_call, tt_meth, tt_isi, tt_attr, tt_sub, tt_bin, tnotF_t, tnotF_f, ta_nil, ta_cons, andF_t, andF_f, to_nil, to_cons, orF_t, orF_f, e_none, e_bool, e_int, e_str, e_loc, e_bin, binF_at, e_not, notF_at, notF2_t, notF2_f, e_band, e_bor, e_cmp, cmpF_at, e_cmp2, cmpG_t, cmpG_f, e_list, listF_at, e_tup, tupF_at, e_dict0, e_attr, attrF_at, e_sub, subF_at, e_slice, e_sset, e_call, e_meth, methF_at, e_bi, e_isi, isiF_at, boolF_at, e_comp, es_nil, es_cons, consF_at, consF2_at, ok_bind, bindK_at, bind_pure, bind_lift, ok_pure, ok_lift, List.zip_cons_cons, List.zip_nil_right, List.zip_nil_left, List.foldl_cons, List.foldl_nil, upd_def, Nat.reduceBEq, bif_t, bif_f, if_true, if_false, Bool.false_eq_true, reduceCtorEq, Nat.reduceEqDiff, ne_eq, not_false_eq_true, not_true_eq_false, decide_true, decide_false, Bool.not_true, Bool.not_false]
  have A2 := A1.push (.rng 0 (z : Int) 1)
  have k2 := k1.push (.rng 0 (z : Int) 1)
  have g2 : (σ1.push (.rng 0 (z : Int) 1)).get σ1.length = some (.rng 0 (z : Int) 1) := get_push_eq
  have n2 : (σ1.push (.rng 0 (z : Int) 1)).length = σ.length + 1 := by rw [len_push, n1]
  generalize σ1.push (.rng 0 (z : Int) 1) = σ2 at *
  rw [comp_nones g2 (by lia)]
  have A3 := A2.push (.list (List.replicate z .none))
  have k3 := k2.push (.list (List.replicate z .none))
  have g3 : (σ2.push (.list (List.replicate z .none))).get σ2.length = some (.list (List.replicate z .none)) := get_push_eq
  have n3 : (σ2.push (.list (List.replicate z .none))).length = σ.length + 2 := by rw [len_push, n2]
  generalize σ2.push (.list (List.replicate z .none)) = σ3 at *
  rw [n2] at g3 ⊢
  have hs5 : dset (mD (bF b) ks) (.int (m : Int)) (.ref (σ.length + 1)) = mD (bF (updF b m (σ.length + 1))) (ks ++ [m]) := by rw [mD_add hm, bF_upd]
  have hl5 : (ks ++ [m]).length ≤ 100 := by rw [List.length_append]; show ks.length + 1 ≤ 100; lia
  simp (disch := decide) only [ok_getAttr A3.p A3.d (n := 48) (v := .ref 5) rfl, ok_setDict (v := .ref (σ.length + 1)) A3.b' (show prog.nf ≤ 5 by decide) (show isKey (.int (m : Int)) = true from rfl) (by rw [hs5, mD_len]; exact le_lim (by lia)), hs5, s_expr, exprK_at, s_var, varK_at, s_attr, attrK_at, attrK2_at, s_sub, subK_at, subK2_at, subK3_at, s_ite, iteK_t, iteK_f, s_ret, retK_at, s_ret0, s_pass, runK_some, runK_none, forK_at, turnK_none, turnK_some, whlK_t, whlK_f, tt_not, tt_band, tt_bor, tt_bool, tt_loc, tt_cmp, tt_cmp2, tt_call, tt_meth, tt_isi, tt_attr, tt_sub, tt_bin, tnotF_t, tnotF_f, ta_nil, ta_cons, andF_t, andF_f, to_nil, to_cons, orF_t, orF_f, e_none, e_bool, e_int, e_str, e_loc, e_bin, binF_at, e_not, notF_at, notF2_t, notF2_f, e_band, e_bor, e_cmp, cmpF_at, e_cmp2, cmpG_t, cmpG_f, e_list, listF_at, e_tup, tupF_at, e_dict0, e_attr, attrF_at, e_sub, subF_at, e_slice, e_sset, e_call, e_meth, methF_at, e_bi, e_isi, isiF_at, boolF_at, e_comp, es_nil, es_cons, consF_at, consF2_at, ok_bind, bindK_at, bind_pure, bind_lift, ok_pure, ok_lift, List.zip_cons_cons, List.zip_nil_right, List.zip_nil_left, List.foldl_cons, List.foldl_nil, upd_def, Nat.reduceBEq, bif_t, bif_f, if_true, if_false, Bool.false_eq_true, reduceCtorEq, Nat.reduceEqDiff, ne_eq, not_false_eq_true, not_true_eq_false, decide_true, decide_false, Bool.not_true, Bool.not_false]
  have A4 := A3.setB (kb₁ := ks ++ [m]) (b₁ := updF b m (σ.length + 1)) hl5 (fun k hk => by
    by_cases e : k = m
    · subst e; rw [upd_is]; exact ⟨by lia, z, hz, g3⟩
    · rw [upd_ne e]
      rcases List.mem_append.mp hk with hk | hk
      · exact A3.bx k hk
      · exact absurd (List.mem_singleton.mp hk) e)
  have k4 := k3.put (a := 5) rfl (.dict (mD (bF (updF b m (σ.length + 1))) (ks ++ [m])))
  have n4 : (σ3.put 5 (.dict (mD (bF (updF b m (σ.length + 1))) (ks ++ [m])))).length = σ.length + 2 := len_put.trans n3
  generalize σ3.put 5 (.dict (mD (bF (updF b m (σ.length + 1))) (ks ++ [m]))) = σ4 at *
  refine then_step rfl ?_
  have hs6 : dset (mD (wF w) ks) (.int (m : Int)) (.int 0) = mD (wF (updF w m 0)) (ks ++ [m]) := by rw [mD_add hm, ← wF_upd]; rfl
  simp (disch := decide) only [ok_getAttr A4.p A4.d (n := 49) (v := .ref 6) rfl, ok_setDict (v := .int 0) A4.w' (show prog.nf ≤ 6 by decide) (show isKey (.int (m : Int)) = true from rfl) (by rw [hs6, mD_len]; exact le_lim (by lia)), hs6, s_expr, exprK_at, s_var, varK_at, s_attr, attrK_at, attrK2_at, s_sub, subK_at, subK2_at, subK3_at, s_ite, iteK_t, iteK_f, s_ret, retK_at, s_ret0, s_pass, runK_some, runK_none, forK_at, turnK_none, turnK_some, whlK_t, whlK_f, tt_not, tt_band, tt_bor, tt_bool, tt_loc, tt_cmp, tt_cmp2, tt_call, tt_meth, tt_isi, tt_attr, tt_sub, tt_bin, tnotF_t, tnotF_f, ta_nil, ta_cons, andF_t, andF_f, to_nil, to_cons, orF_t, orF_f, e_none, e_bool, e_int, e_str, e_loc, e_bin, binF_at, e_not, notF_at, notF2_t, notF2_f, e_band, e_bor, e_cmp, cmpF_at, e_cmp2, cmpG_t, cmpG_f, e_list, listF_at, e_tup, tupF_at, e_dict0, e_attr, attrF_at, e_sub, subF_at, e_slice, e_sset, e_call, e_meth, methF_at, e_bi, e_isi, isiF_at, boolF_at, e_comp, es_nil, es_cons, consF_at, consF2_at, ok_bind, bindK_at, bind_pure, bind_lift, ok_pure, ok_lift, List.zip_cons_cons, List.zip_nil_right, List.zip_nil_left, List.foldl_cons, List.foldl_nil, upd_def, Nat.reduceBEq, bif_t, bif_f, if_true, if_false, Bool.false_eq_true, reduceCtorEq, Nat.reduceEqDiff, ne_eq, not_false_eq_true, not_true_eq_false, decide_true, decide_false, Bool.not_true, Bool.not_false]
  have A5 := A4.setW (kw₁ := ks ++ [m]) (updF w m 0) hl5
  have k5 := k4.put (a := 6) rfl (.dict (mD (wF (updF w m 0)) (ks ++ [m])))
  have n5 : (σ4.put 6 (.dict (mD (wF (updF w m 0)) (ks ++ [m])))).length = σ.length + 2 := len_put.trans n4
  generalize σ4.put 6 (.dict (mD (wF (updF w m 0)) (ks ++ [m]))) = σ5 at *
  refine then_step rfl ?_
  simp (disch := decide) only [mx_inst A5.p A5.d, s_expr, exprK_at, s_var, varK_at, s_attr, attrK_at, attrK2_at, s_sub, subK_at, subK2_at, subK3_at, s_ite, iteK_t, iteK_f, s_ret, retK_at, s_ret0, s_pass, runK_some, runK_none, forK_at, turnK_none, turnK_some, whlK_t, whlK_f, tt_not, tt_band, tt_bor, tt_bool, tt_loc, tt_cmp, tt_cmp2, tt_call, tt_meth, tt_isi, tt_attr, tt_sub, tt_bin, tnotF_t, tnotF_f, ta_nil, ta_cons, andF_t, andF_f, to_nil, to_cons, orF_t, orF_f, e_none, e_bool, e_int, e_str, e_loc, e_bin, binF_at, e_not, notF_at, notF2_t, notF2_f, e_band, e_bor, e_cmp, cmpF_at, e_cmp2, cmpG_t, cmpG_f, e_list, listF_at, e_tup, tupF_at, e_dict0, e_attr, attrF_at, e_sub, subF_at, e_slice, e_sset, e_call, e_meth, methF_at, e_bi, e_isi, isiF_at, boolF_at, e_comp, es_nil, es_cons, consF_at, consF2_at, ok_bind, bindK_at, bind_pure, bind_lift, ok_pure, ok_lift, List.zip_cons_cons, List.zip_nil_right, List.zip_nil_left, List.foldl_cons, List.foldl_nil, upd_def, Nat.reduceBEq, bif_t, bif_f, if_true, if_false, Bool.false_eq_true, reduceCtorEq, Nat.reduceEqDiff, ne_eq, not_false_eq_true, not_true_eq_false, decide_true, decide_false, Bool.not_true, Bool.not_false]
  refine handed_ok (x := some m) A5 ?_ (by lia) (fun k e => ?_) (fun k e => ?_) hq fun σ' f A' k' n' g' => ?_
  · exact List.nodup_append.mpr ⟨nd, by simp, fun a ha c hc e => hm (by rw [List.mem_singleton.mp hc] at e; exact e ▸ ha)⟩
  · cases e; exact List.mem_append_right _ (List.mem_singleton.mpr rfl)
  · exact ⟨List.mem_append_left _ (ho k e).1, List.mem_append_left _ (ho k e).1, (ho k e).2⟩
  · exact h σ' f (σ.length + 1) (by lia) A' (k5.trans k') (by lia) g'
theorem hold_ok {i j : Nat} (A : Pl σ hs ks b ks w q m) (nd : ks.Nodup) (hl : hs.length = 8) (hi : i < 8) (hj : j < 8) (hx : ∀ k, (hs[j]?).getD none = some k → k ∈ ks) (ho : ∀ k, (hs[i]?).getD none = some k → k ∈ ks ∧ 1 ≤ addW w ((hs[j]?).getD none) k) (hq : q.length < 100)
    (h : ∀ σ' f, Pl σ' (hs.set i ((hs[j]?).getD none)) (delK ks (addW w ((hs[j]?).getD none)) ((hs[i]?).getD none)) b (delK ks (addW w ((hs[j]?).getD none)) ((hs[i]?).getD none)) (subW (addW w ((hs[j]?).getD none)) ((hs[i]?).getD none)) (lgQ q (addW w ((hs[j]?).getD none)) ((hs[i]?).getD none)) m → Kp σ σ' → σ.length ≤ f → σ'.get f = some (.list (nV (lgF (addW w ((hs[j]?).getD none)) ((hs[i]?).getD none)))) → Q (.ref f) σ') :
    Ok (run prog 1000 (d + 4) true 35 [.ref 2, .int (i : Int), .int (j : Int)]) σ Q := by
  rw [ok_run (fd := PP.m_hold) rfl rfl]
  simp (disch := decide) only [PP.m_hold, mx_inst A.p A.d, oks_cons, oks_nil, then_none, then_some, s_expr, exprK_at, s_var, varK_at, s_attr, attrK_at, attrK2_at, s_sub, subK_at, subK2_at, subK3_at, s_ite, iteK_t, iteK_f, s_ret, retK_at, s_ret0, s_pass, runK_some, runK_none, forK_at, turnK_none, turnK_some, whlK_t, whlK_f, tt_not, tt_band, tt_bor, tt_bool, tt_loc, tt_cmp, tt_cmp2, tt_call, tt_meth, tt_isi, tt_attr, tt_sub, tt_bin, tnotF_t, tnotF_f, ta_nil, ta_cons, andF_t, andF_f, to_nil, to_cons, orF_t, orF_f, e_none, e_bool, e_int, e_str, e_loc, e_bin, binF_at, e_not, notF_at, notF2_t, notF2_f, e_band, e_bor, e_cmp, cmpF_at, e_cmp2, cmpG_t, cmpG_f, e_list, listF_at, e_tup, tupF_at, e_dict0, e_attr, attrF_at, e_sub, subF_at, e_slice, e_sset, e_call, e_meth, methF_at, e_bi, e_isi, isiF_at, boolF_at, e_comp, es_nil, es_cons, consF_at, consF2_at, ok_bind, bindK_at, bind_pure, bind_lift, ok_pure, ok_lift, List.zip_cons_cons, List.zip_nil_right, List.zip_nil_left, List.foldl_cons, List.foldl_nil, upd_def, Nat.reduceBEq, bif_t, bif_f, if_true, if_false, Bool.false_eq_true, reduceCtorEq, Nat.reduceEqDiff, ne_eq, not_false_eq_true, not_true_eq_false, decide_true, decide_false, Bool.not_true, Bool.not_false]
  refine need_hand_ok hi ?_
  simp (disch := decide) only [mx_inst A.p A.d, oks_cons, oks_nil, then_none, then_some, s_expr, exprK_at, s_var, varK_at, s_attr, attrK_at, attrK2_at, s_sub, subK_at, subK2_at, subK3_at, s_ite, iteK_t, iteK_f, s_ret, retK_at, s_ret0, s_pass, runK_some, runK_none, forK_at, turnK_none, turnK_some, whlK_t, whlK_f, tt_not, tt_band, tt_bor, tt_bool, tt_loc, tt_cmp, tt_cmp2, tt_call, tt_meth, tt_isi, tt_attr, tt_sub, tt_bin, tnotF_t, tnotF_f, ta_nil, ta_cons, andF_t, andF_f, to_nil, to_cons, orF_t, orF_f, e_none, e_bool, e_int, e_str, e_loc, e_bin, binF_at, e_not, notF_at, notF2_t, notF2_f, e_band, e_bor, e_cmp, cmpF_at, e_cmp2, cmpG_t, cmpG_f, e_list, listF_at, e_tup, tupF_at, e_dict0, e_attr, attrF_at, e_sub, subF_at, e_slice, e_sset, e_call, e_meth, methF_at, e_bi, e_isi, isiF_at, boolF_at, e_comp, es_nil, es_cons, consF_at, consF2_at, ok_bind, bindK_at, bind_pure, bind_lift, ok_pure, ok_lift, List.zip_cons_cons, List.zip_nil_right, List.zip_nil_left, List.foldl_cons, List.foldl_nil, upd_def, Nat.reduceBEq, bif_t, bif_f, if_true, if_false, Bool.false_eq_true, reduceCtorEq, Nat.reduceEqDiff, ne_eq, not_false_eq_true, not_true_eq_false, decide_true, decide_false, Bool.not_true, Bool.not_false]
  refine need_hand_ok hj ?_
  simp (disch := decide) only [mx_inst A.p A.d, ok_getAttr A.p A.d (n := 47) (v := .ref 4) rfl, ok_getList A.h (Int.natCast_nonneg _) (ov_at (show j < hs.length by lia)), oks_cons, oks_nil, then_none, then_some, s_expr, exprK_at, s_var, varK_at, s_attr, attrK_at, attrK2_at, s_sub, subK_at, subK2_at, subK3_at, s_ite, iteK_t, iteK_f, s_ret, retK_at, s_ret0, s_pass, runK_some, runK_none, forK_at, turnK_none, turnK_some, whlK_t, whlK_f, tt_not, tt_band, tt_bor, tt_bool, tt_loc, tt_cmp, tt_cmp2, tt_call, tt_meth, tt_isi, tt_attr, tt_sub, tt_bin, tnotF_t, tnotF_f, ta_nil, ta_cons, andF_t, andF_f, to_nil, to_cons, orF_t, orF_f, e_none, e_bool, e_int, e_str, e_loc, e_bin, binF_at, e_not, notF_at, notF2_t, notF2_f, e_band, e_bor, e_cmp, cmpF_at, e_cmp2, cmpG_t, cmpG_f, e_list, listF_at, e_tup, tupF_at, e_dict0, e_attr, attrF_at, e_sub, subF_at, e_slice, e_sset, e_call, e_meth, methF_at, e_bi, e_isi, isiF_at, boolF_at, e_comp, es_nil, es_cons, consF_at, consF2_at, ok_bind, bindK_at, bind_pure, bind_lift, ok_pure, ok_lift, List.zip_cons_cons, List.zip_nil_right, List.zip_nil_left, List.foldl_cons, List.foldl_nil, upd_def, Nat.reduceBEq, bif_t, bif_f, if_true, if_false, Bool.false_eq_true, reduceCtorEq, Nat.reduceEqDiff, ne_eq, not_false_eq_true, not_true_eq_false, decide_true, decide_false, Bool.not_true, Bool.not_false]
  exact handed_ok A nd (by lia) hx (fun k e => ⟨(ho k e).1, (ho k e).1, (ho k e).2⟩) hq h
theorem drop_ok {i : Nat} (A : Pl σ hs ks b ks w q m) (nd : ks.Nodup) (hl : hs.length = 8) (hi : i < 8) (ho : ∀ k, (hs[i]?).getD none = some k → k ∈ ks ∧ 1 ≤ addW w none k) (hq : q.length < 100)
    (h : ∀ σ' f, Pl σ' (hs.set i none) (delK ks (addW w none) ((hs[i]?).getD none)) b (delK ks (addW w none) ((hs[i]?).getD none)) (subW (addW w none) ((hs[i]?).getD none)) (lgQ q (addW w none) ((hs[i]?).getD none)) m → Kp σ σ' → σ.length ≤ f → σ'.get f = some (.list (nV (lgF (addW w none) ((hs[i]?).getD none)))) → Q (.ref f) σ') :
    Ok (run prog 1000 (d + 4) true 36 [.ref 2, .int (i : Int)]) σ Q := by
  rw [ok_run (fd := PP.m_drop) rfl rfl]
  simp (disch := decide) only [PP.m_drop, mx_inst A.p A.d, oks_cons, oks_nil, then_none, then_some, s_expr, exprK_at, s_var, varK_at, s_attr, attrK_at, attrK2_at, s_sub, subK_at, subK2_at, subK3_at, s_ite, iteK_t, iteK_f, s_ret, retK_at, s_ret0, s_pass, runK_some, runK_none, forK_at, turnK_none, turnK_some, whlK_t, whlK_f, tt_not, tt_band, tt_bor, tt_bool, tt_loc, tt_cmp, tt_cmp2, tt_call, tt_meth, tt_isi, tt_attr, tt_sub, tt_bin, tnotF_t, tnotF_f, ta_nil, ta_cons, andF_t, andF_f, to_nil, to_cons, orF_t, orF_f, e_none, e_bool, e_int, e_str, e_loc, e_bin, binF_at, e_not, notF_at, notF2_t, notF2_f, e_band, e_bor, e_cmp, cmpF_at, e_cmp2, cmpG_t, cmpG_f, e_list, listF_at, e_tup, tupF_at, e_dict0, e_attr, attrF_at, e_sub, subF_at, e_slice, e_sset, e_call, e_meth, methF_at, e_bi, e_isi, isiF_at, boolF_at, e_comp, es_nil, es_cons, consF_at, consF2_at, ok_bind, bindK_at, bind_pure, bind_lift, ok_pure, ok_lift, List.zip_cons_cons, List.zip_nil_right, List.zip_nil_left, List.foldl_cons, List.foldl_nil, upd_def, Nat.reduceBEq, bif_t, bif_f, if_true, if_false, Bool.false_eq_true, reduceCtorEq, Nat.reduceEqDiff, ne_eq, not_false_eq_true, not_true_eq_false, decide_true, decide_false, Bool.not_true, Bool.not_false]
  refine need_hand_ok hi ?_
  simp (disch := decide) only [mx_inst A.p A.d, oks_cons, oks_nil, then_none, then_some, s_expr, exprK_at, s_var, varK_at, s_attr, attrK_at, attrK2_at, s_sub, subK_at, subK2_at, subK3_at, s_ite, iteK_t, iteK_f, s_ret, retK_at, s_ret0, s_pass, runK_some, runK_none, forK_at, turnK_none, turnK_some, whlK_t, whlK_f, tt_not, tt_band, tt_bor, tt_bool, tt_loc, tt_cmp, tt_cmp2, tt_call, tt_meth, tt_isi, tt_attr, tt_sub, tt_bin, tnotF_t, tnotF_f, ta_nil, ta_cons, andF_t, andF_f, to_nil, to_cons, orF_t, orF_f, e_none, e_bool, e_int, e_str, e_loc, e_bin, binF_at, e_not, notF_at, notF2_t, notF2_f, e_band, e_bor, e_cmp, cmpF_at, e_cmp2, cmpG_t, cmpG_f, e_list, listF_at, e_tup, tupF_at, e_dict0, e_attr, attrF_at, e_sub, subF_at, e_slice, e_sset, e_call, e_meth, methF_at, e_bi, e_isi, isiF_at, boolF_at, e_comp, es_nil, es_cons, consF_at, consF2_at, ok_bind, bindK_at, bind_pure, bind_lift, ok_pure, ok_lift, List.zip_cons_cons, List.zip_nil_right, List.zip_nil_left, List.foldl_cons, List.foldl_nil, upd_def, Nat.reduceBEq, bif_t, bif_f, if_true, if_false, Bool.false_eq_true, reduceCtorEq, Nat.reduceEqDiff, ne_eq, not_false_eq_true, not_true_eq_false, decide_true, decide_false, Bool.not_true, Bool.not_false]
  exact handed_ok (x := none) A nd (by lia) (fun k e => nomatch e) (fun k e => ⟨(ho k e).1, (ho k e).1, (ho k e).2⟩) hq h
end
end Mine.L02

set_option autoImplicit false
set_option linter.unusedSimpArgs false
set_option linter.unusedVariables false
namespace Mine.L02
open Mine
open PySem (Str PyData)

section
variable {hs : List (Option Nat)} {ks : List Nat} {w : Nat → Nat} {q : List Nat} {m : Nat}
structure Inv (hs : List (Option Nat)) (ks : List Nat) (w : Nat → Nat) (q : List Nat) (m : Nat) : Prop where
  hl : hs.length = 8
  nd : ks.Nodup
  mem : ∀ k, k ∈ ks ↔ some k ∈ hs
  lt : ∀ k, k ∈ ks → k < m
  ct : ∀ k, k ∈ ks → w k = hs.count (some k)
  qn : q.Nodup
structure Pre (hs : List (Option Nat)) (ks : List Nat) (w : Nat → Nat) (q : List Nat) (m : Nat) (x : Option Nat) : Prop where
  hl : hs.length = 8
  nd : ks.Nodup
  sub : ∀ k, some k ∈ hs → k ∈ ks
  xin : ∀ k, x = some k → k ∈ ks
  sup : ∀ k, k ∈ ks → some k ∈ hs ∨ x = some k
  lt : ∀ k, k ∈ ks → k < m
  ct : ∀ k, k ∈ ks → w k = hs.count (some k)
  qn : q.Nodup
theorem aw {x : Option Nat} {k : Nat} : addW w x k = w k + (if x == some k then 1 else 0) := by
  cases x with
  | none => rfl
  | some j =>
    show updF w j (w j + 1) k = _
    by_cases h : k = j
    · subst h; rw [upd_is]; simp
    · rw [upd_ne h, if_neg (by simpa using fun e => h e.symm)]; rfl
theorem sw {x : Option Nat} {k : Nat} : subW w x k = w k - (if x == some k then 1 else 0) := by
  cases x with
  | none => rfl
  | some j =>
    show updF w j (w j - 1) k = _
    by_cases h : k = j
    · subst h; rw [upd_is]; simp
    · rw [upd_ne h, if_neg (by simpa using fun e => h e.symm)]; rfl
theorem getD_mem {xs : List (Option Nat)} {i k : Nat} (e : (xs[i]?).getD none = some k) : some k ∈ xs := by
  cases h : xs[i]? with
  | none => rw [h] at e; cases e
  | some y => rw [h] at e; cases e; exact List.mem_of_getElem? h
theorem addN_nd {k : Nat} (h : q.Nodup) : (addN q k).Nodup := by
  unfold addN
  split
  · exact h
  · rename_i hk
    exact List.nodup_append.mpr ⟨h, by simp, fun a ha c hc e => hk (by rw [List.mem_singleton.mp hc] at e; exact e ▸ ha)⟩
section
variable {x : Option Nat} {i : Nat} (I : Pre hs ks w q m x) (hi : i < 8)
include I hi
theorem Pre.cnt {k : Nat} (hk : k ∈ ks) : addW w x k = (hs.set i x).count (some k) + (if (hs[i]?).getD none == some k then 1 else 0) := by
  have h1 := count_set (x := x) (y := some k) (show i < hs.length by have := I.hl; lia)
  rw [aw, I.ct k hk]; lia
theorem Pre.old {k : Nat} (e : (hs[i]?).getD none = some k) : k ∈ ks ∧ 1 ≤ addW w x k := by
  have hk := I.sub k (getD_mem e)
  refine ⟨hk, ?_⟩
  rw [I.cnt hi hk, if_pos (by rw [e]; exact BEq.rfl)]
  lia
theorem Pre.held {k : Nat} : some k ∈ hs.set i x → k ∈ ks := fun h => by
  rcases List.mem_or_eq_of_mem_set h with h | h
  · exact I.sub k h
  · exact I.xin k h.symm
theorem Pre.held' {k : Nat} (hk : k ∈ ks) (h : (hs[i]?).getD none ≠ some k) : some k ∈ hs.set i x := by
  have h1 := I.cnt hi hk
  rw [if_neg (by simpa using h), aw, I.ct k hk] at h1
  refine List.count_pos_iff.mp ?_
  rcases I.sup k hk with h2 | h2
  · have := List.count_pos_iff.mpr h2; lia
  · rw [h2, if_pos BEq.rfl] at h1; rw [h2]; lia
theorem Pre.inv : Inv (hs.set i x) (delK ks (addW w x) ((hs[i]?).getD none)) (subW (addW w x) ((hs[i]?).getD none)) (lgQ q (addW w x) ((hs[i]?).getD none)) m := by
  have cnt := fun k (hk : k ∈ ks) => I.cnt hi hk
  have ct : ∀ k, k ∈ ks → subW (addW w x) ((hs[i]?).getD none) k = (hs.set i x).count (some k) := fun k hk => by
    rw [sw, cnt k hk]; lia
  have old := fun k e => I.old hi (k := k) e
  have held := fun k => I.held hi (k := k)
  have held' := fun k hk => I.held' hi (k := k) hk
  have hl : (hs.set i x).length = 8 := List.length_set.trans I.hl
  cases ho : (hs[i]?).getD none with
  | none =>
    rw [ho] at ct
    exact ⟨hl, I.nd, fun k => ⟨fun hk => held' k hk (by rw [ho]; exact nofun), held k⟩, I.lt, ct, I.qn⟩
  | some j =>
    rw [ho] at ct
    obtain ⟨hj, hw⟩ := old j ho
    have cj := cnt j hj
    rw [if_pos (by rw [ho]; exact BEq.rfl)] at cj
    by_cases h1 : addW w x j = 1
    · have e1 : delK ks (addW w x) (some j) = ks.erase j := if_pos h1
      have e2 : lgQ q (addW w x) (some j) = q.erase j := if_pos h1
      rw [e1, e2]
      refine ⟨hl, I.nd.erase j, fun k => ?_, fun k hk => I.lt k (List.mem_of_mem_erase hk), fun k hk => ct k (List.mem_of_mem_erase hk), I.qn.erase j⟩
      rw [I.nd.mem_erase_iff]
      refine ⟨fun ⟨h2, h3⟩ => held' k h3 (by rw [ho]; exact fun e => h2 (Option.some.inj e).symm), fun h2 => ⟨fun e => ?_, held k h2⟩⟩
      subst e
      have := List.count_pos_iff.mpr h2
      lia
    · have e1 : delK ks (addW w x) (some j) = ks := if_neg h1
      have e2 : lgQ q (addW w x) (some j) = addN q j := if_neg h1
      rw [e1, e2]
      refine ⟨hl, I.nd, fun k => ⟨fun hk => ?_, held k⟩, I.lt, ct, addN_nd I.qn⟩
      by_cases e : k = j
      · subst e
        exact List.count_pos_iff.mp (by lia)
      · exact held' k hk (by rw [ho]; exact fun h => e (Option.some.inj h).symm)
theorem Pre.free {k : Nat} (e : (hs[i]?).getD none = some k) : addW w x k = 1 ↔ (hs.set i x).count (some k) = 0 := by
  have h := I.cnt hi (I.old hi e).1
  rw [if_pos (by rw [e]; exact BEq.rfl)] at h
  lia
end
theorem Inv.pre (I : Inv hs ks w q m) {x : Option Nat} (hx : ∀ k, x = some k → some k ∈ hs) : Pre hs ks w q m x :=
  ⟨I.hl, I.nd, fun k h => (I.mem k).mpr h, fun k h => (I.mem k).mpr (hx k h), fun k h => .inl ((I.mem k).mp h), I.lt, I.ct, I.qn⟩
theorem Inv.new (I : Inv hs ks w q m) : m ∉ ks := fun h => Nat.lt_irrefl _ (I.lt m h)
theorem Inv.preNew (I : Inv hs ks w q m) : Pre hs (ks ++ [m]) (updF w m 0) q (m + 1) (some m) := by
  have hm := I.new
  refine ⟨I.hl, List.nodup_append.mpr ⟨I.nd, by simp, fun a ha c hc e => hm (by rw [List.mem_singleton.mp hc] at e; exact e ▸ ha)⟩, fun k h => List.mem_append_left _ ((I.mem k).mpr h), fun k h => ?_, fun k h => ?_, fun k h => ?_, fun k h => ?_, I.qn⟩
  · cases h; exact List.mem_append_right _ (List.mem_singleton.mpr rfl)
  · rcases List.mem_append.mp h with h | h
    · exact .inl ((I.mem k).mp h)
    · rw [List.mem_singleton.mp h]; exact .inr rfl
  · rcases List.mem_append.mp h with h | h
    · exact Nat.lt_succ_of_lt (I.lt k h)
    · rw [List.mem_singleton.mp h]; exact Nat.lt_succ_self _
  · rcases List.mem_append.mp h with h | h
    · rw [upd_ne fun e => hm (by rw [← e]; exact h)]; exact I.ct k h
    · rw [List.mem_singleton.mp h, upd_is]
      exact (List.count_eq_zero.mpr fun h => hm ((I.mem m).mpr h)).symm
theorem delK_len {x : Option Nat} : (delK ks w x).length ≤ ks.length := by
  cases x with
  | none => exact Nat.le_refl _
  | some k => show (if w k = 1 then ks.erase k else ks).length ≤ _; split
              · exact List.length_erase_le ..
              · exact Nat.le_refl _
theorem lgQ_len {x : Option Nat} : (lgQ q w x).length ≤ q.length + 1 := by
  cases x with
  | none => exact Nat.le_succ _
  | some k => show (if w k = 1 then q.erase k else addN q k).length ≤ _; split
              · exact Nat.le_succ_of_le (List.length_erase_le ..)
              · exact addN_len
theorem delK_mem {x : Option Nat} {k : Nat} (h : k ∈ delK ks w x) : k ∈ ks := by
  cases x with
  | none => exact h
  | some j =>
    have h : k ∈ (if w j = 1 then ks.erase j else ks) := h
    split at h
    · exact List.mem_of_mem_erase h
    · exact h

noncomputable def heldI (hs : List (Option Nat)) : List Int := (hs.filterMap id).map Int.ofNat
theorem held_mem {k : Nat} : Int.ofNat k ∈ heldI hs ↔ some k ∈ hs := by
  unfold heldI
  rw [List.mem_map]
  constructor
  · rintro ⟨j, hj, e⟩
    cases e
    obtain ⟨y, hy, rfl⟩ := List.mem_filterMap.mp hj
    exact hy
  · intro h
    exact ⟨k, List.mem_filterMap.mpr ⟨_, h, rfl⟩, rfl⟩
theorem Inv.alive (I : Inv hs ks w q m) : sortI (metI (heldI hs)) = sortI (ks.map Int.ofNat) := by
  refine sortI_of_perm ((List.perm_ext_iff_of_nodup met_nodup ?_).mpr fun x => ?_)
  · exact List.pairwise_map.mpr (I.nd.imp fun h e => h (Int.ofNat.inj e))
  · rw [met_mem]
    constructor
    · intro h
      obtain ⟨j, hj, rfl⟩ := List.mem_map.mp h
      obtain ⟨y, hy, rfl⟩ := List.mem_filterMap.mp hj
      exact List.mem_map.mpr ⟨j, (I.mem j).mpr hy, rfl⟩
    · intro h
      obtain ⟨j, hj, rfl⟩ := List.mem_map.mp h
      exact held_mem.mpr ((I.mem j).mp hj)
theorem Inv.few (I : Inv hs ks w q m) (hm : m ≤ 64) : fewI (heldI hs) = true := by
  unfold fewI
  have h1 : (heldI hs).length ≤ 18 := by
    unfold heldI
    rw [List.length_map]
    exact Nat.le_trans (List.length_filterMap_le ..) (by rw [I.hl]; decide)
  rw [decide_eq_true h1, Bool.true_and, List.all_eq_true]
  intro x h
  obtain ⟨j, hj, rfl⟩ := List.mem_map.mp h
  have := I.lt j ((I.mem j).mpr (held_mem.mp h))
  have h2 : (0 : Int) ≤ Int.ofNat j := Int.natCast_nonneg _
  have h3 : Int.ofNat j < 64 := by show (j : Int) < 64; lia
  rw [decide_eq_true h2, decide_eq_true h3]; rfl
theorem ints_held : ∀ {hs : List (Option Nat)}, intsOf ((((hs.map ov).filter (fun y => decide (y ≠ V.none))).map id)) = some (heldI hs)
  | [] => rfl
  | none :: r => by
    rw [List.map_cons, List.filter_cons_of_neg (by simp [ov]), ints_held]
    rfl
  | some k :: r => by
    rw [List.map_cons, List.filter_cons_of_pos (by simp [ov])]
    show (intsOf (((r.map ov).filter (fun y => decide (y ≠ V.none))).map id)).map (Int.ofNat k :: ·) = _
    rw [ints_held]
    rfl
end
end Mine.L02

set_option autoImplicit false
set_option linter.unusedSimpArgs false
set_option linter.unusedVariables false
namespace Mine.L02
open Mine
open PySem (Str PyData)

theorem hL : LawP prog := ⟨rfl, rfl⟩
theorem ovs {xs : List (Option Nat)} : ∀ x ∈ xs.map ov, x = V.none ∨ ∃ i, x = V.int i := fun x hx => by
  obtain ⟨o, _, rfl⟩ := List.mem_map.mp hx
  cases o with
  | none => exact .inl rfl
  | some i => exact .inr ⟨_, rfl⟩
theorem intss {l : List Nat} : ∀ x ∈ nV l, x = V.none ∨ ∃ i, x = V.int i := fun x hx => by
  obtain ⟨o, _, rfl⟩ := List.mem_map.mp hx
  exact .inr ⟨_, rfl⟩
theorem intsI {l : List Int} : ∀ x ∈ l.map V.int, x = V.none ∨ ∃ i, x = V.int i := fun x hx => by
  obtain ⟨o, _, rfl⟩ := List.mem_map.mp hx
  exact .inr ⟨_, rfl⟩
theorem ints_len {l : List Nat} : (nV l).length = l.length := List.length_map _
theorem ints_of : ∀ {l : List Nat}, intsOf (nV l) = some (l.map Int.ofNat)
  | [] => rfl
  | a :: r => by
    show (intsOf (nV r)).map (Int.ofNat a :: ·) = _
    rw [ints_of]; rfl
noncomputable def hv (hs : List (Option Nat)) : V → V
  | .int i => ov ((hs[i.toNat]?).getD none)
  | _ => .none
theorem hv_all {hs : List (Option Nat)} (h : hs.length = 8) : ((((List.range (8 : Int).toNat).map fun (k : Nat) => V.int (k : Int)).filter fun _ => true).map (hv hs)) = hs.map ov := by
  rw [List.filter_eq_self.mpr (fun _ _ => rfl)]
  apply List.ext_getElem?
  intro i
  rw [List.getElem?_map, List.getElem?_map, List.getElem?_map]
  by_cases hi : i < 8
  · rw [show (8 : Int).toNat = 8 from rfl, List.getElem?_range hi]
    show some (ov ((hs[i]?).getD none)) = _
    rw [List.getElem?_eq_getElem (by lia)]; rfl
  · rw [List.getElem?_eq_none (by rw [List.length_range]; exact Nat.le_of_not_lt hi), List.getElem?_eq_none (by lia)]; rfl
noncomputable def cV (hs : List (Option Nat)) : V → V
  | .int i => .int ((hs.count (some i.toNat) : Nat) : Int)
  | _ => .none
section
variable {σ σ' : H} {hs : List (Option Nat)} {kb kw ks : List Nat} {b : Nat → Nat} {w : Nat → Nat} {q : List Nat} {m : Nat} {d : Nat} {Q : V → H → Prop}
theorem ext_len {σ σ' : H} (h : Ext σ σ') : σ.length ≤ σ'.length := by
  cases e : σ.length with
  | zero => exact Nat.zero_le _
  | succ n =>
    have : n < σ.length := by lia
    exact get_lt (h n _ (List.getElem?_eq_getElem this))
theorem Pl.ex (A : Pl σ hs kb b kw w q m) (x : Ext σ σ') : Pl σ' hs kb b kw w q m := A.ext x (Nat.lt_of_lt_of_le A.big (ext_len x))
theorem ok_eqO {x : Option Nat} {k : Nat} {Q : V → H → Prop} : Ok (cmpop prog .Eq (ov x) (.int (k : Int))) σ Q = Q (.bool (decide (ov x = .int (k : Int)))) σ := by
  cases x with
  | none => rfl
  | some j =>
    show Ok (cmpop prog .Eq (.int (j : Int)) (.int (k : Int))) σ Q = _
    rw [ok_eqI]
    have : decide ((j : Int) = (k : Int)) = decide (V.int (j : Int) = V.int (k : Int)) := by by_cases e : (j : Int) = (k : Int) <;> simp [e]
    rw [this]; rfl
theorem cnt_ov {k : Nat} {g : V → V} : ∀ {xs : List (Option Nat)}, ((((xs.map ov).filter (fun y => decide (y = V.int (k : Int)))).map g).length : Int) = ((xs.count (some k) : Nat) : Int)
  | [] => rfl
  | x :: xs => by
    have ih := cnt_ov (k := k) (g := g) (xs := xs)
    have e : decide (ov x = V.int (k : Int)) = (x == some k) := by
      cases x with
      | none => rfl
      | some j =>
        by_cases h : j = k
        · subst h; simp [ov]
        · have h' : ((j : Int) = (k : Int)) = False := eq_false (by lia)
          simp [ov, h, h']
    rw [List.map_cons, List.filter_cons, e, List.count_cons]
    cases hb : (x == some k) with
    | false => simpa using ih
    | true => simp only [if_true, List.map_cons, List.length_cons]; lia
theorem cnt_le {p : V → Bool} {g : V → V} {xs : List V} (h : xs.length ≤ 1000) : ((xs.filter p).map g).length ≤ 1000 := by
  rw [List.length_map]
  exact Nat.le_trans (List.length_filter_le ..) h
theorem comp_cnt {C : Calls} {loc : Loc} {a k : Nat} {xs : List (Option Nat)} {Q : V → H → Prop} (h : σ.get a = some (.list (xs.map ov))) (hx : xs.length ≤ 100) (hk : loc 78 = some (.int (k : Int))) :
    Ok (compX [84] false (tstAnd prog C (.cons (.cmp .Eq (.loc 84) (.loc 78)) .nil)) (ev prog C (.cint 1)) loc (.ref a)) σ Q = Q (.ref σ.length) (σ.push (.list (((xs.map ov).filter (fun y => decide (y = V.int (k : Int)))).map fun _ => .int 1))) := by
  rw [c_pure (fun y => decide (y = V.int (k : Int))) (fun _ => .int 1) (it_list h) (fun y hy => ?_) (fun y hy _ => rfl) (le_lim (cnt_le (by rw [List.length_map]; lia)))]
  obtain ⟨x, _, rfl⟩ := List.mem_map.mp hy
  refine ok_eq ?_
  have e1 : (loc.upd 84 (ov x)) 84 = some (ov x) := upd_at
  have e2 : (loc.upd 84 (ov x)) 78 = some (.int (k : Int)) := hk
  rw [ta_cons, ok_bind, tt_cmp, e_cmp]
  simp only [e_loc, e1, e2, cmpF_at, ok_bind, bindK_at, ok_lift, ok_eqO, ok_truthb]
  cases decide (ov x = V.int (k : Int)) <;> exact ⟨rfl, rfl⟩
theorem held_by_ok {k : Nat} (g : σ.get 9 = some (.list (hs.map ov))) (hl : hs.length = 8) (h : ∀ τ, Ext σ τ → Q (.int ((hs.count (some k) : Nat) : Int)) τ) : Ok (run prog 1000 (d + 1) false 175 [.ref 9, .int (k : Int)]) σ Q := by
  rw [ok_run (fd := f__law_held_by) rfl rfl]
  unfold f__law_held_by
  refine oks_step rfl ?_
  simp (disch := decide) only [s_expr, exprK_at, s_var, varK_at, s_attr, attrK_at, attrK2_at, s_sub, subK_at, subK2_at, subK3_at, s_ite, iteK_t, iteK_f, s_ret, retK_at, s_ret0, s_pass, runK_some, runK_none, forK_at, turnK_none, turnK_some, whlK_t, whlK_f, tt_not, tt_band, tt_bor, tt_bool, tt_loc, tt_cmp, tt_cmp2, tt_call, tt_meth, tt_isi, tt_attr, tt_sub, tt_bin, tnotF_t, tnotF_f, ta_nil, ta_cons, andF_t, andF_f, to_nil, to_cons, orF_t, orF_f, e_none, e_bool, e_int, e_str, e_loc, e_bin, binF_at, e_not, notF_at, notF2_t, notF2_f, e_band, e_bor, e_cmp, cmpF_at, e_cmp2, cmpG_t, cmpG_f, e_list, listF_at, e_tup, tupF_at, e_dict0, e_attr, attrF_at, e_sub, subF_at, e_slice, e_sset, e_call, e_meth, methF_at, e_bi, e_isi, isiF_at, boolF_at, e_comp, es_nil, es_cons, consF_at, consF2_at, ok_bind, bindK_at, bind_pure, bind_lift, ok_pure, ok_lift, List.zip_cons_cons, List.zip_nil_right, List.zip_nil_left, List.foldl_cons, List.foldl_nil, upd_def, Nat.reduceBEq, bif_t, bif_f, if_true, if_false, Bool.false_eq_true, reduceCtorEq, Nat.reduceEqDiff, ne_eq, not_false_eq_true, not_true_eq_false, decide_true, decide_false, Bool.not_true, Bool.not_false]
  rw [comp_cnt (k := k) g (by lia) rfl]
  simp (disch := decide) only [ok_lenL get_push_eq, cnt_ov, then_some, s_expr, exprK_at, s_var, varK_at, s_attr, attrK_at, attrK2_at, s_sub, subK_at, subK2_at, subK3_at, s_ite, iteK_t, iteK_f, s_ret, retK_at, s_ret0, s_pass, runK_some, runK_none, forK_at, turnK_none, turnK_some, whlK_t, whlK_f, tt_not, tt_band, tt_bor, tt_bool, tt_loc, tt_cmp, tt_cmp2, tt_call, tt_meth, tt_isi, tt_attr, tt_sub, tt_bin, tnotF_t, tnotF_f, ta_nil, ta_cons, andF_t, andF_f, to_nil, to_cons, orF_t, orF_f, e_none, e_bool, e_int, e_str, e_loc, e_bin, binF_at, e_not, notF_at, notF2_t, notF2_f, e_band, e_bor, e_cmp, cmpF_at, e_cmp2, cmpG_t, cmpG_f, e_list, listF_at, e_tup, tupF_at, e_dict0, e_attr, attrF_at, e_sub, subF_at, e_slice, e_sset, e_call, e_meth, methF_at, e_bi, e_isi, isiF_at, boolF_at, e_comp, es_nil, es_cons, consF_at, consF2_at, ok_bind, bindK_at, bind_pure, bind_lift, ok_pure, ok_lift, List.zip_cons_cons, List.zip_nil_right, List.zip_nil_left, List.foldl_cons, List.foldl_nil, upd_def, Nat.reduceBEq, bif_t, bif_f, if_true, if_false, Bool.false_eq_true, reduceCtorEq, Nat.reduceEqDiff, ne_eq, not_false_eq_true, not_true_eq_false, decide_true, decide_false, Bool.not_true, Bool.not_false]
  exact h _ ((Ext.refl _).push _)
theorem comp_hands {loc : Loc} {a : Nat} {Q : V → H → Prop} (A : Pl σ hs kb b kw w q m) (hl : hs.length = 8) (h : σ.get a = some (.rng 0 8 1)) (h75 : loc 75 = some (.ref 2)) :
    Ok (compX [71] false (tstAnd prog (run prog 1000 (d + 2)) .nil) (ev prog (run prog 1000 (d + 2)) (.meth (.loc 75) 41 (.cons (.loc 71) .nil))) loc (.ref a)) σ Q = Q (.ref σ.length) (σ.push (.list (hs.map ov))) := by
  rw [c_pure (fun _ => true) (hv hs) (it_range h (by decide) (by decide)) (fun y hy => rfl) (fun y hy _ => ?_) (by rw [hv_all hl, List.length_map, hl]; decide), hv_all hl]
  obtain ⟨k, hk, rfl⟩ := List.mem_map.mp hy
  have hk : k < 8 := List.mem_range.mp hk
  refine ok_eq ?_
  have e1 : (loc.upd 71 (.int (k : Int))) 75 = some (.ref 2) := h75
  rw [e_meth]
  simp (disch := decide) only [e1, mx_inst A.p A.d, oks_cons, oks_nil, then_none, then_some, s_expr, exprK_at, s_var, varK_at, s_attr, attrK_at, attrK2_at, s_sub, subK_at, subK2_at, subK3_at, s_ite, iteK_t, iteK_f, s_ret, retK_at, s_ret0, s_pass, runK_some, runK_none, forK_at, turnK_none, turnK_some, whlK_t, whlK_f, tt_not, tt_band, tt_bor, tt_bool, tt_loc, tt_cmp, tt_cmp2, tt_call, tt_meth, tt_isi, tt_attr, tt_sub, tt_bin, tnotF_t, tnotF_f, ta_nil, ta_cons, andF_t, andF_f, to_nil, to_cons, orF_t, orF_f, e_none, e_bool, e_int, e_str, e_loc, e_bin, binF_at, e_not, notF_at, notF2_t, notF2_f, e_band, e_bor, e_cmp, cmpF_at, e_cmp2, cmpG_t, cmpG_f, e_list, listF_at, e_tup, tupF_at, e_dict0, e_attr, attrF_at, e_sub, subF_at, e_slice, e_sset, e_call, e_meth, methF_at, e_bi, e_isi, isiF_at, boolF_at, e_comp, es_nil, es_cons, consF_at, consF2_at, ok_bind, bindK_at, bind_pure, bind_lift, ok_pure, ok_lift, List.zip_cons_cons, List.zip_nil_right, List.zip_nil_left, List.foldl_cons, List.foldl_nil, upd_def, Nat.reduceBEq, bif_t, bif_f, if_true, if_false, Bool.false_eq_true, reduceCtorEq, Nat.reduceEqDiff, ne_eq, not_false_eq_true, not_true_eq_false, decide_true, decide_false, Bool.not_true, Bool.not_false]
  exact holds_ok A hl hk ⟨by simp [hv], rfl⟩
theorem comp_held {C : Calls} {loc : Loc} {a : Nat} {xs : List (Option Nat)} {Q : V → H → Prop} (h : σ.get a = some (.list (xs.map ov))) (hx : xs.length ≤ 100) :
    Ok (compX [84] false (tstAnd prog C (.cons (.cmp .IsNot (.loc 84) .cnone) .nil)) (ev prog C (.loc 84)) loc (.ref a)) σ Q = Q (.ref σ.length) (σ.push (.list (((xs.map ov).filter (fun y => decide (y ≠ V.none))).map id))) := by
  rw [c_pure (fun y => decide (y ≠ V.none)) id (it_list h) (fun y hy => ?_) (fun y hy _ => ?_) (le_lim (cnt_le (by rw [List.length_map]; lia)))]
  · refine ok_eq ?_
    rw [ta_cons, ok_bind, tt_cmp, e_cmp]
    simp only [e_loc, e_none, upd_at, cmpF_at, ok_bind, bindK_at, ok_lift, ok_pure, bind_pure, ok_isNot, ok_truthb]
    cases decide (y ≠ V.none) <;> exact ⟨rfl, rfl⟩
  · rw [e_loc, upd_at]; rfl
theorem ok_sset {a : Nat} {xs : List V} {ns : List Int} {Q : V → H → Prop} (h1 : σ.get a = some (.list xs)) (h2 : intsOf xs = some ns) (h3 : fewI ns = true) : Ok (biSset (.ref a)) σ Q = Q (.ref σ.length) (σ.push (.list ((sortI (metI ns)).map .int))) := ok_some (by
  show onRef (.ref a) (fun a => onL (σ.get a) fun xs => ssetI (intsOf xs) σ) = _
  simp only [onRef, h1, onL, h2, ssetI, h3, if_true])
theorem al_mem {y : V} (h : y ∈ (sortI (ks.map Int.ofNat)).map V.int) : ∃ k, k ∈ ks ∧ y = V.int (k : Int) := by
  obtain ⟨i, hi, rfl⟩ := List.mem_map.mp h
  obtain ⟨k, hk, rfl⟩ := List.mem_map.mp ((sortI_perm _).mem_iff.mp hi)
  exact ⟨k, hk, rfl⟩
theorem al_len : ((sortI (ks.map Int.ofNat)).map V.int).length = ks.length := by
  rw [List.length_map, (sortI_perm _).length_eq, List.length_map]
theorem cV_ok {vs : List V} {p : V → Bool} : ∀ x ∈ (vs.filter p).map (cV hs), x = V.none ∨ ∃ i, x = V.int i := fun x hx => by
  obtain ⟨y, _, rfl⟩ := List.mem_map.mp hx
  cases y with
  | int i => exact .inr ⟨_, rfl⟩
  | _ => exact .inl rfl

theorem rest_ok {lc : Loc} {f e D : Nat} {l : List Nat} {Q : Option V → Loc → H → Prop} (A : Pl σ hs ks b ks w q m) (I : Inv hs ks w q m) (g9 : σ.get 9 = some (.list (hs.map ov))) (gD : σ.get D = some (.list (nV q))) (gf : σ.get f = some (.list (nV l))) (ge : σ.get e = some (.list (nV l))) (hl : l.length ≤ 1)
    (hk : ks.length < 64) (hq : q.length < 64) (hm : m ≤ 64) (e75 : lc 75 = some (.ref 2)) (e76 : lc 76 = some (.ref 9)) (e177 : lc 177 = some (.ref D)) (e81 : lc 81 = some (.ref f)) (e73 : lc 73 = some (.ref e))
    (h : ∀ l' σ', Ext σ σ' → l' 75 = lc 75 → l' 76 = lc 76 → l' 176 = lc 176 → l' 177 = lc 177 → l' 178 = lc 178 → Q none l' σ') : OkS (exs prog (run prog 1000 20) 1000 f_law_6f_11 lc σ) Q := by
  refine oks_step rfl ?_
  simp (disch := decide) only [e81, e73, s_expr, exprK_at, s_var, varK_at, s_attr, attrK_at, attrK2_at, s_sub, subK_at, subK2_at, subK3_at, s_ite, iteK_t, iteK_f, s_ret, retK_at, s_ret0, s_pass, runK_some, runK_none, forK_at, turnK_none, turnK_some, whlK_t, whlK_f, tt_not, tt_band, tt_bor, tt_bool, tt_loc, tt_cmp, tt_cmp2, tt_call, tt_meth, tt_isi, tt_attr, tt_sub, tt_bin, tnotF_t, tnotF_f, ta_nil, ta_cons, andF_t, andF_f, to_nil, to_cons, orF_t, orF_f, e_none, e_bool, e_int, e_str, e_loc, e_bin, binF_at, e_not, notF_at, notF2_t, notF2_f, e_band, e_bor, e_cmp, cmpF_at, e_cmp2, cmpG_t, cmpG_f, e_list, listF_at, e_tup, tupF_at, e_dict0, e_attr, attrF_at, e_sub, subF_at, e_slice, e_sset, e_call, e_meth, methF_at, e_bi, e_isi, isiF_at, boolF_at, e_comp, es_nil, es_cons, consF_at, consF2_at, ok_bind, bindK_at, bind_pure, bind_lift, ok_pure, ok_lift, List.zip_cons_cons, List.zip_nil_right, List.zip_nil_left, List.foldl_cons, List.foldl_nil, upd_def, Nat.reduceBEq, bif_t, bif_f, if_true, if_false, Bool.false_eq_true, reduceCtorEq, Nat.reduceEqDiff, ne_eq, not_false_eq_true, not_true_eq_false, decide_true, decide_false, Bool.not_true, Bool.not_false]
  refine numbers_ok hL gf ge intss (by rw [ints_len]; lia) ?_
  have x1 : Ext σ (σ.push (.rng 0 (nV l).length 1)) := (Ext.refl _).push _
  generalize σ.push (.rng 0 (nV l).length 1) = σ1 at *
  simp (disch := decide) only [ok_truthb, oks_nil, s_expr, exprK_at, s_var, varK_at, s_attr, attrK_at, attrK2_at, s_sub, subK_at, subK2_at, subK3_at, s_ite, iteK_t, iteK_f, s_ret, retK_at, s_ret0, s_pass, runK_some, runK_none, forK_at, turnK_none, turnK_some, whlK_t, whlK_f, tt_not, tt_band, tt_bor, tt_bool, tt_loc, tt_cmp, tt_cmp2, tt_call, tt_meth, tt_isi, tt_attr, tt_sub, tt_bin, tnotF_t, tnotF_f, ta_nil, ta_cons, andF_t, andF_f, to_nil, to_cons, orF_t, orF_f, e_none, e_bool, e_int, e_str, e_loc, e_bin, binF_at, e_not, notF_at, notF2_t, notF2_f, e_band, e_bor, e_cmp, cmpF_at, e_cmp2, cmpG_t, cmpG_f, e_list, listF_at, e_tup, tupF_at, e_dict0, e_attr, attrF_at, e_sub, subF_at, e_slice, e_sset, e_call, e_meth, methF_at, e_bi, e_isi, isiF_at, boolF_at, e_comp, es_nil, es_cons, consF_at, consF2_at, ok_bind, bindK_at, bind_pure, bind_lift, ok_pure, ok_lift, List.zip_cons_cons, List.zip_nil_right, List.zip_nil_left, List.foldl_cons, List.foldl_nil, upd_def, Nat.reduceBEq, bif_t, bif_f, if_true, if_false, Bool.false_eq_true, reduceCtorEq, Nat.reduceEqDiff, ne_eq, not_false_eq_true, not_true_eq_false, decide_true, decide_false, Bool.not_true, Bool.not_false]
  refine then_step rfl ?_
  simp (disch := decide) only [ok_range1, s_expr, exprK_at, s_var, varK_at, s_attr, attrK_at, attrK2_at, s_sub, subK_at, subK2_at, subK3_at, s_ite, iteK_t, iteK_f, s_ret, retK_at, s_ret0, s_pass, runK_some, runK_none, forK_at, turnK_none, turnK_some, whlK_t, whlK_f, tt_not, tt_band, tt_bor, tt_bool, tt_loc, tt_cmp, tt_cmp2, tt_call, tt_meth, tt_isi, tt_attr, tt_sub, tt_bin, tnotF_t, tnotF_f, ta_nil, ta_cons, andF_t, andF_f, to_nil, to_cons, orF_t, orF_f, e_none, e_bool, e_int, e_str, e_loc, e_bin, binF_at, e_not, notF_at, notF2_t, notF2_f, e_band, e_bor, e_cmp, cmpF_at, e_cmp2, cmpG_t, cmpG_f, e_list, listF_at, e_tup, tupF_at, e_dict0, e_attr, attrF_at, e_sub, subF_at, e_slice, e_sset, e_call, e_meth, methF_at, e_bi, e_isi, isiF_at, boolF_at, e_comp, es_nil, es_cons, consF_at, consF2_at, ok_bind, bindK_at, bind_pure, bind_lift, ok_pure, ok_lift, List.zip_cons_cons, List.zip_nil_right, List.zip_nil_left, List.foldl_cons, List.foldl_nil, upd_def, Nat.reduceBEq, bif_t, bif_f, if_true, if_false, Bool.false_eq_true, reduceCtorEq, Nat.reduceEqDiff, ne_eq, not_false_eq_true, not_true_eq_false, decide_true, decide_false, Bool.not_true, Bool.not_false]
  have x2 := x1.push (.rng 0 8 1)
  have g2 : (σ1.push (.rng 0 8 1)).get σ1.length = some (.rng 0 8 1) := get_push_eq
  generalize σ1.push (.rng 0 8 1) = σ2 at *
  rw [comp_hands (A.ex x2) I.hl g2 e75]
  have x3 := x2.push (.list (hs.map ov))
  have g3 : (σ2.push (.list (hs.map ov))).get σ2.length = some (.list (hs.map ov)) := get_push_eq
  generalize σ2.push (.list (hs.map ov)) = σ3 at *
  simp (disch := decide) only [e76, s_expr, exprK_at, s_var, varK_at, s_attr, attrK_at, attrK2_at, s_sub, subK_at, subK2_at, subK3_at, s_ite, iteK_t, iteK_f, s_ret, retK_at, s_ret0, s_pass, runK_some, runK_none, forK_at, turnK_none, turnK_some, whlK_t, whlK_f, tt_not, tt_band, tt_bor, tt_bool, tt_loc, tt_cmp, tt_cmp2, tt_call, tt_meth, tt_isi, tt_attr, tt_sub, tt_bin, tnotF_t, tnotF_f, ta_nil, ta_cons, andF_t, andF_f, to_nil, to_cons, orF_t, orF_f, e_none, e_bool, e_int, e_str, e_loc, e_bin, binF_at, e_not, notF_at, notF2_t, notF2_f, e_band, e_bor, e_cmp, cmpF_at, e_cmp2, cmpG_t, cmpG_f, e_list, listF_at, e_tup, tupF_at, e_dict0, e_attr, attrF_at, e_sub, subF_at, e_slice, e_sset, e_call, e_meth, methF_at, e_bi, e_isi, isiF_at, boolF_at, e_comp, es_nil, es_cons, consF_at, consF2_at, ok_bind, bindK_at, bind_pure, bind_lift, ok_pure, ok_lift, List.zip_cons_cons, List.zip_nil_right, List.zip_nil_left, List.foldl_cons, List.foldl_nil, upd_def, Nat.reduceBEq, bif_t, bif_f, if_true, if_false, Bool.false_eq_true, reduceCtorEq, Nat.reduceEqDiff, ne_eq, not_false_eq_true, not_true_eq_false, decide_true, decide_false, Bool.not_true, Bool.not_false]
  refine numbers_ok hL g3 (x3 _ _ g9) ovs (by rw [List.length_map, I.hl]; decide) ?_
  have x4 := x3.push (.rng 0 (hs.map ov).length 1)
  generalize σ3.push (.rng 0 (hs.map ov).length 1) = σ4 at *
  simp (disch := decide) only [ok_truthb, oks_nil, s_expr, exprK_at, s_var, varK_at, s_attr, attrK_at, attrK2_at, s_sub, subK_at, subK2_at, subK3_at, s_ite, iteK_t, iteK_f, s_ret, retK_at, s_ret0, s_pass, runK_some, runK_none, forK_at, turnK_none, turnK_some, whlK_t, whlK_f, tt_not, tt_band, tt_bor, tt_bool, tt_loc, tt_cmp, tt_cmp2, tt_call, tt_meth, tt_isi, tt_attr, tt_sub, tt_bin, tnotF_t, tnotF_f, ta_nil, ta_cons, andF_t, andF_f, to_nil, to_cons, orF_t, orF_f, e_none, e_bool, e_int, e_str, e_loc, e_bin, binF_at, e_not, notF_at, notF2_t, notF2_f, e_band, e_bor, e_cmp, cmpF_at, e_cmp2, cmpG_t, cmpG_f, e_list, listF_at, e_tup, tupF_at, e_dict0, e_attr, attrF_at, e_sub, subF_at, e_slice, e_sset, e_call, e_meth, methF_at, e_bi, e_isi, isiF_at, boolF_at, e_comp, es_nil, es_cons, consF_at, consF2_at, ok_bind, bindK_at, bind_pure, bind_lift, ok_pure, ok_lift, List.zip_cons_cons, List.zip_nil_right, List.zip_nil_left, List.foldl_cons, List.foldl_nil, upd_def, Nat.reduceBEq, bif_t, bif_f, if_true, if_false, Bool.false_eq_true, reduceCtorEq, Nat.reduceEqDiff, ne_eq, not_false_eq_true, not_true_eq_false, decide_true, decide_false, Bool.not_true, Bool.not_false]
  refine then_step rfl ?_
  simp (disch := decide) only [e76, s_expr, exprK_at, s_var, varK_at, s_attr, attrK_at, attrK2_at, s_sub, subK_at, subK2_at, subK3_at, s_ite, iteK_t, iteK_f, s_ret, retK_at, s_ret0, s_pass, runK_some, runK_none, forK_at, turnK_none, turnK_some, whlK_t, whlK_f, tt_not, tt_band, tt_bor, tt_bool, tt_loc, tt_cmp, tt_cmp2, tt_call, tt_meth, tt_isi, tt_attr, tt_sub, tt_bin, tnotF_t, tnotF_f, ta_nil, ta_cons, andF_t, andF_f, to_nil, to_cons, orF_t, orF_f, e_none, e_bool, e_int, e_str, e_loc, e_bin, binF_at, e_not, notF_at, notF2_t, notF2_f, e_band, e_bor, e_cmp, cmpF_at, e_cmp2, cmpG_t, cmpG_f, e_list, listF_at, e_tup, tupF_at, e_dict0, e_attr, attrF_at, e_sub, subF_at, e_slice, e_sset, e_call, e_meth, methF_at, e_bi, e_isi, isiF_at, boolF_at, e_comp, es_nil, es_cons, consF_at, consF2_at, ok_bind, bindK_at, bind_pure, bind_lift, ok_pure, ok_lift, List.zip_cons_cons, List.zip_nil_right, List.zip_nil_left, List.foldl_cons, List.foldl_nil, upd_def, Nat.reduceBEq, bif_t, bif_f, if_true, if_false, Bool.false_eq_true, reduceCtorEq, Nat.reduceEqDiff, ne_eq, not_false_eq_true, not_true_eq_false, decide_true, decide_false, Bool.not_true, Bool.not_false]
  rw [comp_held (x4 _ _ g9) (by have := I.hl; lia)]
  have x5 := x4.push (.list (((hs.map ov).filter (fun y => decide (y ≠ V.none))).map id))
  have g5 : (σ4.push (.list (((hs.map ov).filter (fun y => decide (y ≠ V.none))).map id))).get σ4.length = some (.list (((hs.map ov).filter (fun y => decide (y ≠ V.none))).map id)) := get_push_eq
  generalize σ4.push (.list (((hs.map ov).filter (fun y => decide (y ≠ V.none))).map id)) = σ5 at *
  rw [bindK_at, ok_sset g5 ints_held (I.few hm), I.alive]
  have x6 := x5.push (.list ((sortI (ks.map Int.ofNat)).map .int))
  have g6 : (σ5.push (.list ((sortI (ks.map Int.ofNat)).map .int))).get σ5.length = some (.list ((sortI (ks.map Int.ofNat)).map .int)) := get_push_eq
  generalize σ5.push (.list ((sortI (ks.map Int.ofNat)).map .int)) = σ6 at *
  generalize σ5.length = al at *
  simp (disch := decide) only [s_expr, exprK_at, s_var, varK_at, s_attr, attrK_at, attrK2_at, s_sub, subK_at, subK2_at, subK3_at, s_ite, iteK_t, iteK_f, s_ret, retK_at, s_ret0, s_pass, runK_some, runK_none, forK_at, turnK_none, turnK_some, whlK_t, whlK_f, tt_not, tt_band, tt_bor, tt_bool, tt_loc, tt_cmp, tt_cmp2, tt_call, tt_meth, tt_isi, tt_attr, tt_sub, tt_bin, tnotF_t, tnotF_f, ta_nil, ta_cons, andF_t, andF_f, to_nil, to_cons, orF_t, orF_f, e_none, e_bool, e_int, e_str, e_loc, e_bin, binF_at, e_not, notF_at, notF2_t, notF2_f, e_band, e_bor, e_cmp, cmpF_at, e_cmp2, cmpG_t, cmpG_f, e_list, listF_at, e_tup, tupF_at, e_dict0, e_attr, attrF_at, e_sub, subF_at, e_slice, e_sset, e_call, e_meth, methF_at, e_bi, e_isi, isiF_at, boolF_at, e_comp, es_nil, es_cons, consF_at, consF2_at, ok_bind, bindK_at, bind_pure, bind_lift, ok_pure, ok_lift, List.zip_cons_cons, List.zip_nil_right, List.zip_nil_left, List.foldl_cons, List.foldl_nil, upd_def, Nat.reduceBEq, bif_t, bif_f, if_true, if_false, Bool.false_eq_true, reduceCtorEq, Nat.reduceEqDiff, ne_eq, not_false_eq_true, not_true_eq_false, decide_true, decide_false, Bool.not_true, Bool.not_false]
  refine then_step rfl ?_
  have A6 := A.ex x6
  simp (disch := decide) only [e75, mx_inst A6.p A6.d, s_expr, exprK_at, s_var, varK_at, s_attr, attrK_at, attrK2_at, s_sub, subK_at, subK2_at, subK3_at, s_ite, iteK_t, iteK_f, s_ret, retK_at, s_ret0, s_pass, runK_some, runK_none, forK_at, turnK_none, turnK_some, whlK_t, whlK_f, tt_not, tt_band, tt_bor, tt_bool, tt_loc, tt_cmp, tt_cmp2, tt_call, tt_meth, tt_isi, tt_attr, tt_sub, tt_bin, tnotF_t, tnotF_f, ta_nil, ta_cons, andF_t, andF_f, to_nil, to_cons, orF_t, orF_f, e_none, e_bool, e_int, e_str, e_loc, e_bin, binF_at, e_not, notF_at, notF2_t, notF2_f, e_band, e_bor, e_cmp, cmpF_at, e_cmp2, cmpG_t, cmpG_f, e_list, listF_at, e_tup, tupF_at, e_dict0, e_attr, attrF_at, e_sub, subF_at, e_slice, e_sset, e_call, e_meth, methF_at, e_bi, e_isi, isiF_at, boolF_at, e_comp, es_nil, es_cons, consF_at, consF2_at, ok_bind, bindK_at, bind_pure, bind_lift, ok_pure, ok_lift, List.zip_cons_cons, List.zip_nil_right, List.zip_nil_left, List.foldl_cons, List.foldl_nil, upd_def, Nat.reduceBEq, bif_t, bif_f, if_true, if_false, Bool.false_eq_true, reduceCtorEq, Nat.reduceEqDiff, ne_eq, not_false_eq_true, not_true_eq_false, decide_true, decide_false, Bool.not_true, Bool.not_false]
  refine alive_ok A6 hk ?_
  have x7 := x6.push (.list ((sortI (ks.map Int.ofNat)).map .int))
  have y7 : Ext σ6 (σ6.push (.list ((sortI (ks.map Int.ofNat)).map .int))) := (Ext.refl _).push _
  have g7 : (σ6.push (.list ((sortI (ks.map Int.ofNat)).map .int))).get σ6.length = some (.list ((sortI (ks.map Int.ofNat)).map .int)) := get_push_eq
  generalize σ6.push (.list ((sortI (ks.map Int.ofNat)).map .int)) = σ7 at *
  simp (disch := decide) only [s_expr, exprK_at, s_var, varK_at, s_attr, attrK_at, attrK2_at, s_sub, subK_at, subK2_at, subK3_at, s_ite, iteK_t, iteK_f, s_ret, retK_at, s_ret0, s_pass, runK_some, runK_none, forK_at, turnK_none, turnK_some, whlK_t, whlK_f, tt_not, tt_band, tt_bor, tt_bool, tt_loc, tt_cmp, tt_cmp2, tt_call, tt_meth, tt_isi, tt_attr, tt_sub, tt_bin, tnotF_t, tnotF_f, ta_nil, ta_cons, andF_t, andF_f, to_nil, to_cons, orF_t, orF_f, e_none, e_bool, e_int, e_str, e_loc, e_bin, binF_at, e_not, notF_at, notF2_t, notF2_f, e_band, e_bor, e_cmp, cmpF_at, e_cmp2, cmpG_t, cmpG_f, e_list, listF_at, e_tup, tupF_at, e_dict0, e_attr, attrF_at, e_sub, subF_at, e_slice, e_sset, e_call, e_meth, methF_at, e_bi, e_isi, isiF_at, boolF_at, e_comp, es_nil, es_cons, consF_at, consF2_at, ok_bind, bindK_at, bind_pure, bind_lift, ok_pure, ok_lift, List.zip_cons_cons, List.zip_nil_right, List.zip_nil_left, List.foldl_cons, List.foldl_nil, upd_def, Nat.reduceBEq, bif_t, bif_f, if_true, if_false, Bool.false_eq_true, reduceCtorEq, Nat.reduceEqDiff, ne_eq, not_false_eq_true, not_true_eq_false, decide_true, decide_false, Bool.not_true, Bool.not_false]
  refine numbers_ok hL g7 (y7 _ _ g6) intsI (by rw [al_len]; lia) ?_
  have x8 := x7.push (.rng 0 ((sortI (ks.map Int.ofNat)).map V.int).length 1)
  have y8 := y7.push (.rng 0 ((sortI (ks.map Int.ofNat)).map V.int).length 1)
  generalize σ7.push (.rng 0 ((sortI (ks.map Int.ofNat)).map V.int).length 1) = σ8 at *
  have A8 := A.ex x8
  simp (disch := decide) only [ok_truthb, e75, mx_inst A8.p A8.d, s_expr, exprK_at, s_var, varK_at, s_attr, attrK_at, attrK2_at, s_sub, subK_at, subK2_at, subK3_at, s_ite, iteK_t, iteK_f, s_ret, retK_at, s_ret0, s_pass, runK_some, runK_none, forK_at, turnK_none, turnK_some, whlK_t, whlK_f, tt_not, tt_band, tt_bor, tt_bool, tt_loc, tt_cmp, tt_cmp2, tt_call, tt_meth, tt_isi, tt_attr, tt_sub, tt_bin, tnotF_t, tnotF_f, ta_nil, ta_cons, andF_t, andF_f, to_nil, to_cons, orF_t, orF_f, e_none, e_bool, e_int, e_str, e_loc, e_bin, binF_at, e_not, notF_at, notF2_t, notF2_f, e_band, e_bor, e_cmp, cmpF_at, e_cmp2, cmpG_t, cmpG_f, e_list, listF_at, e_tup, tupF_at, e_dict0, e_attr, attrF_at, e_sub, subF_at, e_slice, e_sset, e_call, e_meth, methF_at, e_bi, e_isi, isiF_at, boolF_at, e_comp, es_nil, es_cons, consF_at, consF2_at, ok_bind, bindK_at, bind_pure, bind_lift, ok_pure, ok_lift, List.zip_cons_cons, List.zip_nil_right, List.zip_nil_left, List.foldl_cons, List.foldl_nil, upd_def, Nat.reduceBEq, bif_t, bif_f, if_true, if_false, Bool.false_eq_true, reduceCtorEq, Nat.reduceEqDiff, ne_eq, not_false_eq_true, not_true_eq_false, decide_true, decide_false, Bool.not_true, Bool.not_false]
  refine suspects_ok A8 hq ?_
  have x9 := x8.push (.list ((sortI (q.map Int.ofNat)).map .int))
  have y9 := y8.push (.list ((sortI (q.map Int.ofNat)).map .int))
  have g9' : (σ8.push (.list ((sortI (q.map Int.ofNat)).map .int))).get σ8.length = some (.list ((sortI (q.map Int.ofNat)).map .int)) := get_push_eq
  generalize σ8.push (.list ((sortI (q.map Int.ofNat)).map .int)) = σ9 at *
  simp (disch := decide) only [e177, ok_sortedL (x9 _ _ gD) ints_of (by rw [List.length_map]; exact hq), s_expr, exprK_at, s_var, varK_at, s_attr, attrK_at, attrK2_at, s_sub, subK_at, subK2_at, subK3_at, s_ite, iteK_t, iteK_f, s_ret, retK_at, s_ret0, s_pass, runK_some, runK_none, forK_at, turnK_none, turnK_some, whlK_t, whlK_f, tt_not, tt_band, tt_bor, tt_bool, tt_loc, tt_cmp, tt_cmp2, tt_call, tt_meth, tt_isi, tt_attr, tt_sub, tt_bin, tnotF_t, tnotF_f, ta_nil, ta_cons, andF_t, andF_f, to_nil, to_cons, orF_t, orF_f, e_none, e_bool, e_int, e_str, e_loc, e_bin, binF_at, e_not, notF_at, notF2_t, notF2_f, e_band, e_bor, e_cmp, cmpF_at, e_cmp2, cmpG_t, cmpG_f, e_list, listF_at, e_tup, tupF_at, e_dict0, e_attr, attrF_at, e_sub, subF_at, e_slice, e_sset, e_call, e_meth, methF_at, e_bi, e_isi, isiF_at, boolF_at, e_comp, es_nil, es_cons, consF_at, consF2_at, ok_bind, bindK_at, bind_pure, bind_lift, ok_pure, ok_lift, List.zip_cons_cons, List.zip_nil_right, List.zip_nil_left, List.foldl_cons, List.foldl_nil, upd_def, Nat.reduceBEq, bif_t, bif_f, if_true, if_false, Bool.false_eq_true, reduceCtorEq, Nat.reduceEqDiff, ne_eq, not_false_eq_true, not_true_eq_false, decide_true, decide_false, Bool.not_true, Bool.not_false]
  refine numbers_ok hL (get_keep g9') get_push_eq intsI (by rw [al_len]; lia) ?_
  have x10 := (x9.push (.list ((sortI (q.map Int.ofNat)).map .int))).push (.rng 0 ((sortI (q.map Int.ofNat)).map V.int).length 1)
  have y10 := (y9.push (.list ((sortI (q.map Int.ofNat)).map .int))).push (.rng 0 ((sortI (q.map Int.ofNat)).map V.int).length 1)
  generalize (σ9.push (.list ((sortI (q.map Int.ofNat)).map .int))).push (.rng 0 ((sortI (q.map Int.ofNat)).map V.int).length 1) = σ10 at *
  simp (disch := decide) only [ok_truthb, oks_nil, s_expr, exprK_at, s_var, varK_at, s_attr, attrK_at, attrK2_at, s_sub, subK_at, subK2_at, subK3_at, s_ite, iteK_t, iteK_f, s_ret, retK_at, s_ret0, s_pass, runK_some, runK_none, forK_at, turnK_none, turnK_some, whlK_t, whlK_f, tt_not, tt_band, tt_bor, tt_bool, tt_loc, tt_cmp, tt_cmp2, tt_call, tt_meth, tt_isi, tt_attr, tt_sub, tt_bin, tnotF_t, tnotF_f, ta_nil, ta_cons, andF_t, andF_f, to_nil, to_cons, orF_t, orF_f, e_none, e_bool, e_int, e_str, e_loc, e_bin, binF_at, e_not, notF_at, notF2_t, notF2_f, e_band, e_bor, e_cmp, cmpF_at, e_cmp2, cmpG_t, cmpG_f, e_list, listF_at, e_tup, tupF_at, e_dict0, e_attr, attrF_at, e_sub, subF_at, e_slice, e_sset, e_call, e_meth, methF_at, e_bi, e_isi, isiF_at, boolF_at, e_comp, es_nil, es_cons, consF_at, consF2_at, ok_bind, bindK_at, bind_pure, bind_lift, ok_pure, ok_lift, List.zip_cons_cons, List.zip_nil_right, List.zip_nil_left, List.foldl_cons, List.foldl_nil, upd_def, Nat.reduceBEq, bif_t, bif_f, if_true, if_false, Bool.false_eq_true, reduceCtorEq, Nat.reduceEqDiff, ne_eq, not_false_eq_true, not_true_eq_false, decide_true, decide_false, Bool.not_true, Bool.not_false]
  refine then_step rfl ?_
  simp (disch := decide) only [s_expr, exprK_at, s_var, varK_at, s_attr, attrK_at, attrK2_at, s_sub, subK_at, subK2_at, subK3_at, s_ite, iteK_t, iteK_f, s_ret, retK_at, s_ret0, s_pass, runK_some, runK_none, forK_at, turnK_none, turnK_some, whlK_t, whlK_f, tt_not, tt_band, tt_bor, tt_bool, tt_loc, tt_cmp, tt_cmp2, tt_call, tt_meth, tt_isi, tt_attr, tt_sub, tt_bin, tnotF_t, tnotF_f, ta_nil, ta_cons, andF_t, andF_f, to_nil, to_cons, orF_t, orF_f, e_none, e_bool, e_int, e_str, e_loc, e_bin, binF_at, e_not, notF_at, notF2_t, notF2_f, e_band, e_bor, e_cmp, cmpF_at, e_cmp2, cmpG_t, cmpG_f, e_list, listF_at, e_tup, tupF_at, e_dict0, e_attr, attrF_at, e_sub, subF_at, e_slice, e_sset, e_call, e_meth, methF_at, e_bi, e_isi, isiF_at, boolF_at, e_comp, es_nil, es_cons, consF_at, consF2_at, ok_bind, bindK_at, bind_pure, bind_lift, ok_pure, ok_lift, List.zip_cons_cons, List.zip_nil_right, List.zip_nil_left, List.foldl_cons, List.foldl_nil, upd_def, Nat.reduceBEq, bif_t, bif_f, if_true, if_false, Bool.false_eq_true, reduceCtorEq, Nat.reduceEqDiff, ne_eq, not_false_eq_true, not_true_eq_false, decide_true, decide_false, Bool.not_true, Bool.not_false]
  have hlen : (((((sortI (ks.map Int.ofNat)).map V.int).filter fun _ => true)).map (cV hs)).length ≤ 1000 := cnt_le (by rw [al_len]; lia)
  refine c_grow (P := prog) (C := run prog 1000 20) (fun _ => true) (cV hs) (fun y => lc.upd 149 (.ref al) |>.upd 78 y) (it_list (y10 _ _ g6)) (fun y hy τ x => rfl) (fun y hy τ x => ⟨rfl, Ext.refl _⟩) (fun y hy _ τ x => ?_) (le_lim hlen) fun σ11 x11 => ?_
  · obtain ⟨k, hk, rfl⟩ := al_mem hy
    simp (disch := decide) only [e76, oks_cons, oks_nil, then_none, then_some, s_expr, exprK_at, s_var, varK_at, s_attr, attrK_at, attrK2_at, s_sub, subK_at, subK2_at, subK3_at, s_ite, iteK_t, iteK_f, s_ret, retK_at, s_ret0, s_pass, runK_some, runK_none, forK_at, turnK_none, turnK_some, whlK_t, whlK_f, tt_not, tt_band, tt_bor, tt_bool, tt_loc, tt_cmp, tt_cmp2, tt_call, tt_meth, tt_isi, tt_attr, tt_sub, tt_bin, tnotF_t, tnotF_f, ta_nil, ta_cons, andF_t, andF_f, to_nil, to_cons, orF_t, orF_f, e_none, e_bool, e_int, e_str, e_loc, e_bin, binF_at, e_not, notF_at, notF2_t, notF2_f, e_band, e_bor, e_cmp, cmpF_at, e_cmp2, cmpG_t, cmpG_f, e_list, listF_at, e_tup, tupF_at, e_dict0, e_attr, attrF_at, e_sub, subF_at, e_slice, e_sset, e_call, e_meth, methF_at, e_bi, e_isi, isiF_at, boolF_at, e_comp, es_nil, es_cons, consF_at, consF2_at, ok_bind, bindK_at, bind_pure, bind_lift, ok_pure, ok_lift, List.zip_cons_cons, List.zip_nil_right, List.zip_nil_left, List.foldl_cons, List.foldl_nil, upd_def, Nat.reduceBEq, bif_t, bif_f, if_true, if_false, Bool.false_eq_true, reduceCtorEq, Nat.reduceEqDiff, ne_eq, not_false_eq_true, not_true_eq_false, decide_true, decide_false, Bool.not_true, Bool.not_false]
    exact held_by_ok (x _ _ (x10 _ _ g9)) I.hl fun τ' x' => ⟨rfl, x'⟩
  · have x12 := (x10.trans x11).push (.list ((((sortI (ks.map Int.ofNat)).map V.int).filter fun _ => true).map (cV hs)))
    have y12 := (y10.trans x11).push (.list ((((sortI (ks.map Int.ofNat)).map V.int).filter fun _ => true).map (cV hs)))
    have g12 : (σ11.push (.list ((((sortI (ks.map Int.ofNat)).map V.int).filter fun _ => true).map (cV hs)))).get σ11.length = some (.list ((((sortI (ks.map Int.ofNat)).map V.int).filter fun _ => true).map (cV hs))) := get_push_eq
    generalize σ11.push (.list ((((sortI (ks.map Int.ofNat)).map V.int).filter fun _ => true).map (cV hs))) = σ12 at *
    generalize σ11.length = du at *
    simp (disch := decide) only [s_expr, exprK_at, s_var, varK_at, s_attr, attrK_at, attrK2_at, s_sub, subK_at, subK2_at, subK3_at, s_ite, iteK_t, iteK_f, s_ret, retK_at, s_ret0, s_pass, runK_some, runK_none, forK_at, turnK_none, turnK_some, whlK_t, whlK_f, tt_not, tt_band, tt_bor, tt_bool, tt_loc, tt_cmp, tt_cmp2, tt_call, tt_meth, tt_isi, tt_attr, tt_sub, tt_bin, tnotF_t, tnotF_f, ta_nil, ta_cons, andF_t, andF_f, to_nil, to_cons, orF_t, orF_f, e_none, e_bool, e_int, e_str, e_loc, e_bin, binF_at, e_not, notF_at, notF2_t, notF2_f, e_band, e_bor, e_cmp, cmpF_at, e_cmp2, cmpG_t, cmpG_f, e_list, listF_at, e_tup, tupF_at, e_dict0, e_attr, attrF_at, e_sub, subF_at, e_slice, e_sset, e_call, e_meth, methF_at, e_bi, e_isi, isiF_at, boolF_at, e_comp, es_nil, es_cons, consF_at, consF2_at, ok_bind, bindK_at, bind_pure, bind_lift, ok_pure, ok_lift, List.zip_cons_cons, List.zip_nil_right, List.zip_nil_left, List.foldl_cons, List.foldl_nil, upd_def, Nat.reduceBEq, bif_t, bif_f, if_true, if_false, Bool.false_eq_true, reduceCtorEq, Nat.reduceEqDiff, ne_eq, not_false_eq_true, not_true_eq_false, decide_true, decide_false, Bool.not_true, Bool.not_false]
    refine then_step rfl ?_
    have A12 := A.ex x12
    simp (disch := decide) only [s_expr, exprK_at, s_var, varK_at, s_attr, attrK_at, attrK2_at, s_sub, subK_at, subK2_at, subK3_at, s_ite, iteK_t, iteK_f, s_ret, retK_at, s_ret0, s_pass, runK_some, runK_none, forK_at, turnK_none, turnK_some, whlK_t, whlK_f, tt_not, tt_band, tt_bor, tt_bool, tt_loc, tt_cmp, tt_cmp2, tt_call, tt_meth, tt_isi, tt_attr, tt_sub, tt_bin, tnotF_t, tnotF_f, ta_nil, ta_cons, andF_t, andF_f, to_nil, to_cons, orF_t, orF_f, e_none, e_bool, e_int, e_str, e_loc, e_bin, binF_at, e_not, notF_at, notF2_t, notF2_f, e_band, e_bor, e_cmp, cmpF_at, e_cmp2, cmpG_t, cmpG_f, e_list, listF_at, e_tup, tupF_at, e_dict0, e_attr, attrF_at, e_sub, subF_at, e_slice, e_sset, e_call, e_meth, methF_at, e_bi, e_isi, isiF_at, boolF_at, e_comp, es_nil, es_cons, consF_at, consF2_at, ok_bind, bindK_at, bind_pure, bind_lift, ok_pure, ok_lift, List.zip_cons_cons, List.zip_nil_right, List.zip_nil_left, List.foldl_cons, List.foldl_nil, upd_def, Nat.reduceBEq, bif_t, bif_f, if_true, if_false, Bool.false_eq_true, reduceCtorEq, Nat.reduceEqDiff, ne_eq, not_false_eq_true, not_true_eq_false, decide_true, decide_false, Bool.not_true, Bool.not_false]
    rw [c_pure (fun _ => true) (cV hs) (it_list (y12 _ _ g6)) (fun y hy => rfl) (fun y hy _ => ?_) (le_lim hlen)]
    · simp (disch := decide) only [s_expr, exprK_at, s_var, varK_at, s_attr, attrK_at, attrK2_at, s_sub, subK_at, subK2_at, subK3_at, s_ite, iteK_t, iteK_f, s_ret, retK_at, s_ret0, s_pass, runK_some, runK_none, forK_at, turnK_none, turnK_some, whlK_t, whlK_f, tt_not, tt_band, tt_bor, tt_bool, tt_loc, tt_cmp, tt_cmp2, tt_call, tt_meth, tt_isi, tt_attr, tt_sub, tt_bin, tnotF_t, tnotF_f, ta_nil, ta_cons, andF_t, andF_f, to_nil, to_cons, orF_t, orF_f, e_none, e_bool, e_int, e_str, e_loc, e_bin, binF_at, e_not, notF_at, notF2_t, notF2_f, e_band, e_bor, e_cmp, cmpF_at, e_cmp2, cmpG_t, cmpG_f, e_list, listF_at, e_tup, tupF_at, e_dict0, e_attr, attrF_at, e_sub, subF_at, e_slice, e_sset, e_call, e_meth, methF_at, e_bi, e_isi, isiF_at, boolF_at, e_comp, es_nil, es_cons, consF_at, consF2_at, ok_bind, bindK_at, bind_pure, bind_lift, ok_pure, ok_lift, List.zip_cons_cons, List.zip_nil_right, List.zip_nil_left, List.foldl_cons, List.foldl_nil, upd_def, Nat.reduceBEq, bif_t, bif_f, if_true, if_false, Bool.false_eq_true, reduceCtorEq, Nat.reduceEqDiff, ne_eq, not_false_eq_true, not_true_eq_false, decide_true, decide_false, Bool.not_true, Bool.not_false]
      refine numbers_ok hL get_push_eq (get_keep g12) cV_ok hlen ?_
      simp (disch := decide) only [ok_truthb, oks_nil, then_none, s_expr, exprK_at, s_var, varK_at, s_attr, attrK_at, attrK2_at, s_sub, subK_at, subK2_at, subK3_at, s_ite, iteK_t, iteK_f, s_ret, retK_at, s_ret0, s_pass, runK_some, runK_none, forK_at, turnK_none, turnK_some, whlK_t, whlK_f, tt_not, tt_band, tt_bor, tt_bool, tt_loc, tt_cmp, tt_cmp2, tt_call, tt_meth, tt_isi, tt_attr, tt_sub, tt_bin, tnotF_t, tnotF_f, ta_nil, ta_cons, andF_t, andF_f, to_nil, to_cons, orF_t, orF_f, e_none, e_bool, e_int, e_str, e_loc, e_bin, binF_at, e_not, notF_at, notF2_t, notF2_f, e_band, e_bor, e_cmp, cmpF_at, e_cmp2, cmpG_t, cmpG_f, e_list, listF_at, e_tup, tupF_at, e_dict0, e_attr, attrF_at, e_sub, subF_at, e_slice, e_sset, e_call, e_meth, methF_at, e_bi, e_isi, isiF_at, boolF_at, e_comp, es_nil, es_cons, consF_at, consF2_at, ok_bind, bindK_at, bind_pure, bind_lift, ok_pure, ok_lift, List.zip_cons_cons, List.zip_nil_right, List.zip_nil_left, List.foldl_cons, List.foldl_nil, upd_def, Nat.reduceBEq, bif_t, bif_f, if_true, if_false, Bool.false_eq_true, reduceCtorEq, Nat.reduceEqDiff, ne_eq, not_false_eq_true, not_true_eq_false, decide_true, decide_false, Bool.not_true, Bool.not_false]
      exact h _ _ ((x12.push _).push _) rfl rfl rfl rfl rfl
    · obtain ⟨k, hk, rfl⟩ := al_mem hy
      refine ok_eq ?_
      rw [e_meth]
      simp (disch := decide) only [e75, mx_inst A12.p A12.d, oks_cons, oks_nil, then_none, then_some, s_expr, exprK_at, s_var, varK_at, s_attr, attrK_at, attrK2_at, s_sub, subK_at, subK2_at, subK3_at, s_ite, iteK_t, iteK_f, s_ret, retK_at, s_ret0, s_pass, runK_some, runK_none, forK_at, turnK_none, turnK_some, whlK_t, whlK_f, tt_not, tt_band, tt_bor, tt_bool, tt_loc, tt_cmp, tt_cmp2, tt_call, tt_meth, tt_isi, tt_attr, tt_sub, tt_bin, tnotF_t, tnotF_f, ta_nil, ta_cons, andF_t, andF_f, to_nil, to_cons, orF_t, orF_f, e_none, e_bool, e_int, e_str, e_loc, e_bin, binF_at, e_not, notF_at, notF2_t, notF2_f, e_band, e_bor, e_cmp, cmpF_at, e_cmp2, cmpG_t, cmpG_f, e_list, listF_at, e_tup, tupF_at, e_dict0, e_attr, attrF_at, e_sub, subF_at, e_slice, e_sset, e_call, e_meth, methF_at, e_bi, e_isi, isiF_at, boolF_at, e_comp, es_nil, es_cons, consF_at, consF2_at, ok_bind, bindK_at, bind_pure, bind_lift, ok_pure, ok_lift, List.zip_cons_cons, List.zip_nil_right, List.zip_nil_left, List.foldl_cons, List.foldl_nil, upd_def, Nat.reduceBEq, bif_t, bif_f, if_true, if_false, Bool.false_eq_true, reduceCtorEq, Nat.reduceEqDiff, ne_eq, not_false_eq_true, not_true_eq_false, decide_true, decide_false, Bool.not_true, Bool.not_false]
      refine weighs_ok A12 hk hk ⟨?_, rfl⟩
      rw [I.ct k hk]; rfl
end
end Mine.L02

set_option autoImplicit false
set_option linter.unusedSimpArgs false
set_option linter.unusedVariables false
namespace Mine.L02
open Mine
open PySem (Str PyData)

noncomputable def KI (σ : H) (D t : Nat) : Prop := 12 < t ∧ t ≠ D ∧ ∃ f e l, 12 < f ∧ f ≠ D ∧ 12 < e ∧ e ≠ D ∧ σ.get t = some (.tup [.ref f, .ref e]) ∧ σ.get f = some (.list (nV l)) ∧ σ.get e = some (.list (nV l)) ∧ l.length ≤ 1
structure Lw (σ : H) (hs : List (Option Nat)) (D : Nat) (ts : List Nat) : Prop where
  hl : σ.get 9 = some (.list (hs.map ov))
  kp : σ.get 11 = some (.list (ts.map .ref))
  kx : ∀ t, t ∈ ts → KI σ D t
  dr : D = 10 ∨ 12 < D
noncomputable def Kd (D : Nat) (σ σ' : H) : Prop := ∀ a o, a ≠ D → σ.get a = some o → σ'.get a = some o
section
variable {σ σ' : H} {hs : List (Option Nat)} {kb kw ks : List Nat} {b : Nat → Nat} {w : Nat → Nat} {q : List Nat} {m D : Nat} {ts : List Nat}
theorem KI.keep {t : Nat} (h : KI σ D t) (k : ∀ a o, 12 < a → a ≠ D → σ.get a = some o → σ'.get a = some o) : KI σ' D t := by
  obtain ⟨h1, h2, f, e, l, h3, h4, h5, h6, h7, h8, h9, h10⟩ := h
  exact ⟨h1, h2, f, e, l, h3, h4, h5, h6, k _ _ h1 h2 h7, k _ _ h3 h4 h8, k _ _ h5 h6 h9, h10⟩
theorem Lw.kd (L : Lw σ hs D ts) (k : Kd D σ σ') : Lw σ' hs D ts :=
  ⟨k _ _ (by have := L.dr; lia) L.hl, k _ _ (by have := L.dr; lia) L.kp, fun t ht => (L.kx t ht).keep fun a o _ hd e => k a o hd e, L.dr⟩
theorem Lw.ex (L : Lw σ hs D ts) (k : Ext σ σ') : Lw σ' hs D ts := L.kd fun a o _ e => k a o e
theorem Lw.pile (L : Lw σ hs D ts) (k : Kp σ σ') : Lw σ' hs D ts :=
  ⟨k _ _ rfl L.hl, k _ _ rfl L.kp, fun t ht => (L.kx t ht).keep fun a o h _ e => k a o (ow_gt (by lia)) e, L.dr⟩
theorem Lw.setH (L : Lw σ hs D ts) (h₁ : List (Option Nat)) : Lw (σ.put 9 (.list (h₁.map ov))) h₁ D ts :=
  ⟨put_self L.hl, (get_put_ne (by decide)).trans L.kp, fun t ht => (L.kx t ht).keep fun a o h _ e => (get_put_ne (by lia)).trans e, L.dr⟩
theorem Lw.fresh (L : Lw σ hs D ts) (big : 12 < σ.length) (x : O) : Lw (σ.push x) hs σ.length ts :=
  ⟨get_keep L.hl, get_keep L.kp, fun t ht => by
    obtain ⟨h1, h2, f, e, l, h3, h4, h5, h6, h7, h8, h9, h10⟩ := L.kx t ht
    have := get_lt h7
    have := get_lt h8
    have := get_lt h9
    exact ⟨h1, by lia, f, e, l, h3, by lia, h5, by lia, get_keep h7, get_keep h8, get_keep h9, h10⟩, .inr big⟩
theorem Pl.kd (A : Pl σ hs kb b kw w q m) (k : Kd D σ σ') (dr : D = 10 ∨ 12 < D) (nb : ∀ k, k ∈ kb → b k ≠ D) (hl : σ.length ≤ σ'.length) : Pl σ' hs kb b kw w q m :=
  ⟨k _ _ (by lia) A.d, k _ _ (by lia) A.p, k _ _ (by lia) A.h, k _ _ (by lia) A.b', k _ _ (by lia) A.w', k _ _ (by lia) A.q', fun j hj => let ⟨g1, n, g2, g3⟩ := A.bx j hj; ⟨g1, n, g2, k _ _ (nb j hj) g3⟩, Nat.lt_of_lt_of_le A.big hl, A.sm⟩

theorem data_ints {h : H} {n : Nat} : ∀ {l : List Nat}, optAll (dataOf h (n + 1)) (nV l) = some (l.map fun (k : Nat) => PyData.int (k : Int))
  | [] => rfl
  | a :: r => by
    show optAll (dataOf h (n + 1)) (V.int (a : Int) :: nV r) = _
    unfold optAll; rw [data_ints]; rfl
theorem any_ints {n : Nat} : ∀ {l : List Nat}, (l.map fun (k : Nat) => PyData.int (k : Int)).any (fun y => PyData.eqv y (.int (n : Int))) = decide (n ∈ l)
  | [] => rfl
  | a :: r => by
    show (PyData.eqv (.int (a : Int)) (.int (n : Int)) || (r.map fun (k : Nat) => PyData.int (k : Int)).any (fun y => PyData.eqv y (.int (n : Int)))) = _
    rw [any_ints, eqv_int]
    have e : decide ((a : Int) = (n : Int)) = decide (n = a) := by
      by_cases h : n = a
      · subst h; rw [decide_eq_true rfl, decide_eq_true rfl]
      · rw [decide_eq_false h, decide_eq_false (by lia)]
    rw [e]; simp only [List.mem_cons, Bool.decide_or]
theorem ok_notInL {n a : Nat} {l : List Nat} {Q : V → H → Prop} (h : σ.get a = some (.list (nV l))) : Ok (cmpop prog .NotIn (.int (n : Int)) (.ref a)) σ Q = Q (.bool (!decide (n ∈ l))) σ := ok_some (by
  have e : inList σ (.int (n : Int)) (nV l) = some (decide (n ∈ l)) := by
    unfold inList
    rw [data_ints]
    show some ((l.map fun (k : Nat) => PyData.int (k : Int)).any (fun y => PyData.eqv y (.int (n : Int)))) = _
    rw [any_ints]
  unfold cmpop contains X.bind
  simp only [h, e, Option.map_some, X.pure])
noncomputable def q2 (q : List Nat) (w : Nat → Nat) : Option Nat → List Nat
  | none => q
  | some k => if w k = 1 then q else addN q k
noncomputable def inV (l : List Nat) : V → Bool
  | .int i => !decide (i.toNat ∈ l)
  | _ => false
theorem inV_f {l : List Nat} : ∀ {r : List Nat}, ((nV r).filter (inV l)).map id = nV (r.filter fun n => !decide (n ∈ l))
  | [] => rfl
  | a :: r => by
    have ih := inV_f (l := l) (r := r)
    show (((V.int (a : Int)) :: nV r).filter (inV l)).map id = _
    rw [List.filter_cons, List.filter_cons]
    have e : inV l (.int (a : Int)) = !decide (a ∈ l) := rfl
    rw [e]
    cases (!decide (a ∈ l)) with
    | true => show V.int (a : Int) :: ((nV r).filter (inV l)).map id = _; rw [ih]; rfl
    | false => exact ih
theorem q2_f (hq : q.Nodup) {x : Option Nat} : (q2 q w x).filter (fun n => !decide (n ∈ lgF w x)) = lgQ q w x := by
  cases x with
  | none => exact List.filter_eq_self.mpr fun _ _ => rfl
  | some k =>
    show (if w k = 1 then q else addN q k).filter (fun n => !decide (n ∈ (if w k = 1 then [k] else []))) = if w k = 1 then q.erase k else addN q k
    by_cases h : w k = 1
    · simp only [if_pos h]
      rw [hq.erase_eq_filter]
      refine List.filter_congr fun n _ => ?_
      by_cases e : n = k
      · subst e; simp
      · simp [e]
    · simp only [if_neg h]
      exact List.filter_eq_self.mpr fun _ _ => rfl
theorem comp_doubts {C : Calls} {loc : Loc} {e : Nat} {l r : List Nat} {Q : V → H → Prop} (h : σ.get D = some (.list (nV r))) (he : σ.get e = some (.list (nV l))) (e73 : loc 73 = some (.ref e)) (hr : r.length ≤ 1000) :
    Ok (compX [78] false (tstAnd prog C (.cons (.cmp .NotIn (.loc 78) (.loc 73)) .nil)) (ev prog C (.loc 78)) loc (.ref D)) σ Q = Q (.ref σ.length) (σ.push (.list (nV (r.filter fun n => !decide (n ∈ l))))) := by
  rw [c_pure (inV l) id (it_list h) (fun y hy => ?_) (fun y hy _ => ?_) (le_lim (cnt_le (by rw [ints_len]; exact hr))), inV_f]
  · obtain ⟨n, _, rfl⟩ := List.mem_map.mp hy
    refine ok_eq ?_
    have e2 : (loc.upd 78 (.int (n : Int))) 73 = some (.ref e) := e73
    rw [ta_cons, ok_bind, tt_cmp, e_cmp]
    simp only [e_loc, upd_at, e2, cmpF_at, ok_bind, bindK_at, ok_lift, ok_notInL he, ok_truthb]
    have e : inV l (.int (n : Int)) = !decide (n ∈ l) := rfl
    rw [e]
    cases (!decide (n ∈ l)) <;> exact ⟨rfl, rfl⟩
  · rw [e_loc, upd_at]; rfl

theorem eight_ok {lc : Loc} {x : Option Nat} {e : Nat} {w₁ : Nat → Nat} {Q : Option V → Loc → H → Prop} (g9 : σ.get 9 = some (.list (hs.map ov))) (hl : hs.length = 8) (gD : σ.get D = some (.list (nV q))) (hD : D = 10 ∨ 12 < D) (hDl : D < σ.length) (big : 12 < σ.length) (hq : q.length ≤ 100)
    (hw : ∀ k, x = some k → (w₁ k = 1 ↔ hs.count (some k) = 0)) (e76 : lc 76 = some (.ref 9)) (e177 : lc 177 = some (.ref D)) (e179 : lc 179 = some (ov x)) (e73 : lc 73 = some (.ref e)) (ge : σ.get e = some (.list [])) (heD : e ≠ D) (he12 : 12 < e)
    (h : ∀ l' σ' e', l' 73 = some (.ref e') → σ'.get e' = some (.list (nV (lgF w₁ x))) → e' ≠ D → 12 < e' → σ'.get D = some (.list (nV (q2 q w₁ x))) → Kd D σ σ' → σ.length ≤ σ'.length → l' 75 = lc 75 → l' 76 = lc 76 → l' 176 = lc 176 → l' 177 = lc 177 → l' 178 = lc 178 → l' 81 = lc 81 → OkS (exs prog (run prog 1000 20) 1000 f_law_6f_9 l' σ') Q) :
    OkS (exs prog (run prog 1000 20) 1000 f_law_6f_8 lc σ) Q := by
  refine oks_step rfl ?_
  cases x with
  | none =>
    simp (disch := decide) only [e179, ov, ok_isNot, ok_truthb, s_expr, exprK_at, s_var, varK_at, s_attr, attrK_at, attrK2_at, s_sub, subK_at, subK2_at, subK3_at, s_ite, iteK_t, iteK_f, s_ret, retK_at, s_ret0, s_pass, runK_some, runK_none, forK_at, turnK_none, turnK_some, whlK_t, whlK_f, tt_not, tt_band, tt_bor, tt_bool, tt_loc, tt_cmp, tt_cmp2, tt_call, tt_meth, tt_isi, tt_attr, tt_sub, tt_bin, tnotF_t, tnotF_f, ta_nil, ta_cons, andF_t, andF_f, to_nil, to_cons, orF_t, orF_f, e_none, e_bool, e_int, e_str, e_loc, e_bin, binF_at, e_not, notF_at, notF2_t, notF2_f, e_band, e_bor, e_cmp, cmpF_at, e_cmp2, cmpG_t, cmpG_f, e_list, listF_at, e_tup, tupF_at, e_dict0, e_attr, attrF_at, e_sub, subF_at, e_slice, e_sset, e_call, e_meth, methF_at, e_bi, e_isi, isiF_at, boolF_at, e_comp, es_nil, es_cons, consF_at, consF2_at, ok_bind, bindK_at, bind_pure, bind_lift, ok_pure, ok_lift, List.zip_cons_cons, List.zip_nil_right, List.zip_nil_left, List.foldl_cons, List.foldl_nil, upd_def, Nat.reduceBEq, bif_t, bif_f, if_true, if_false, Bool.false_eq_true, reduceCtorEq, Nat.reduceEqDiff, ne_eq, not_false_eq_true, not_true_eq_false, decide_true, decide_false, Bool.not_true, Bool.not_false]
    refine oks_step rfl ?_
    simp (disch := decide) only [e179, ov, ok_isNot, ok_truthb, oks_nil, then_none, s_expr, exprK_at, s_var, varK_at, s_attr, attrK_at, attrK2_at, s_sub, subK_at, subK2_at, subK3_at, s_ite, iteK_t, iteK_f, s_ret, retK_at, s_ret0, s_pass, runK_some, runK_none, forK_at, turnK_none, turnK_some, whlK_t, whlK_f, tt_not, tt_band, tt_bor, tt_bool, tt_loc, tt_cmp, tt_cmp2, tt_call, tt_meth, tt_isi, tt_attr, tt_sub, tt_bin, tnotF_t, tnotF_f, ta_nil, ta_cons, andF_t, andF_f, to_nil, to_cons, orF_t, orF_f, e_none, e_bool, e_int, e_str, e_loc, e_bin, binF_at, e_not, notF_at, notF2_t, notF2_f, e_band, e_bor, e_cmp, cmpF_at, e_cmp2, cmpG_t, cmpG_f, e_list, listF_at, e_tup, tupF_at, e_dict0, e_attr, attrF_at, e_sub, subF_at, e_slice, e_sset, e_call, e_meth, methF_at, e_bi, e_isi, isiF_at, boolF_at, e_comp, es_nil, es_cons, consF_at, consF2_at, ok_bind, bindK_at, bind_pure, bind_lift, ok_pure, ok_lift, List.zip_cons_cons, List.zip_nil_right, List.zip_nil_left, List.foldl_cons, List.foldl_nil, upd_def, Nat.reduceBEq, bif_t, bif_f, if_true, if_false, Bool.false_eq_true, reduceCtorEq, Nat.reduceEqDiff, ne_eq, not_false_eq_true, not_true_eq_false, decide_true, decide_false, Bool.not_true, Bool.not_false]
    exact h lc σ e e73 ge heD he12 gD (fun _ _ _ g => g) (Nat.le_refl _) rfl rfl rfl rfl rfl rfl
  | some k =>
    have hwk := hw k rfl
    simp (disch := decide) only [e179, e76, ov, ok_isNot, ok_truthb, s_expr, exprK_at, s_var, varK_at, s_attr, attrK_at, attrK2_at, s_sub, subK_at, subK2_at, subK3_at, s_ite, iteK_t, iteK_f, s_ret, retK_at, s_ret0, s_pass, runK_some, runK_none, forK_at, turnK_none, turnK_some, whlK_t, whlK_f, tt_not, tt_band, tt_bor, tt_bool, tt_loc, tt_cmp, tt_cmp2, tt_call, tt_meth, tt_isi, tt_attr, tt_sub, tt_bin, tnotF_t, tnotF_f, ta_nil, ta_cons, andF_t, andF_f, to_nil, to_cons, orF_t, orF_f, e_none, e_bool, e_int, e_str, e_loc, e_bin, binF_at, e_not, notF_at, notF2_t, notF2_f, e_band, e_bor, e_cmp, cmpF_at, e_cmp2, cmpG_t, cmpG_f, e_list, listF_at, e_tup, tupF_at, e_dict0, e_attr, attrF_at, e_sub, subF_at, e_slice, e_sset, e_call, e_meth, methF_at, e_bi, e_isi, isiF_at, boolF_at, e_comp, es_nil, es_cons, consF_at, consF2_at, ok_bind, bindK_at, bind_pure, bind_lift, ok_pure, ok_lift, List.zip_cons_cons, List.zip_nil_right, List.zip_nil_left, List.foldl_cons, List.foldl_nil, upd_def, Nat.reduceBEq, bif_t, bif_f, if_true, if_false, Bool.false_eq_true, reduceCtorEq, Nat.reduceEqDiff, ne_eq, not_false_eq_true, not_true_eq_false, decide_true, decide_false, Bool.not_true, Bool.not_false]
    refine held_by_ok g9 hl fun τ x => ?_
    have xl := ext_len x
    by_cases h1 : w₁ k = 1
    · have hc : ((hs.count (some k) : Nat) : Int) = 0 := by have := hwk.mp h1; lia
      have hF : nV (lgF w₁ (some k)) = [.int (k : Int)] := by show nV (if w₁ k = 1 then [k] else []) = _; rw [if_pos h1]; rfl
      have hQ : q2 q w₁ (some k) = q := if_pos h1
      rw [hF, hQ] at h
      simp (disch := decide) only [ok_eqI, hc, ok_truthb, s_expr, exprK_at, s_var, varK_at, s_attr, attrK_at, attrK2_at, s_sub, subK_at, subK2_at, subK3_at, s_ite, iteK_t, iteK_f, s_ret, retK_at, s_ret0, s_pass, runK_some, runK_none, forK_at, turnK_none, turnK_some, whlK_t, whlK_f, tt_not, tt_band, tt_bor, tt_bool, tt_loc, tt_cmp, tt_cmp2, tt_call, tt_meth, tt_isi, tt_attr, tt_sub, tt_bin, tnotF_t, tnotF_f, ta_nil, ta_cons, andF_t, andF_f, to_nil, to_cons, orF_t, orF_f, e_none, e_bool, e_int, e_str, e_loc, e_bin, binF_at, e_not, notF_at, notF2_t, notF2_f, e_band, e_bor, e_cmp, cmpF_at, e_cmp2, cmpG_t, cmpG_f, e_list, listF_at, e_tup, tupF_at, e_dict0, e_attr, attrF_at, e_sub, subF_at, e_slice, e_sset, e_call, e_meth, methF_at, e_bi, e_isi, isiF_at, boolF_at, e_comp, es_nil, es_cons, consF_at, consF2_at, ok_bind, bindK_at, bind_pure, bind_lift, ok_pure, ok_lift, List.zip_cons_cons, List.zip_nil_right, List.zip_nil_left, List.foldl_cons, List.foldl_nil, upd_def, Nat.reduceBEq, bif_t, bif_f, if_true, if_false, Bool.false_eq_true, reduceCtorEq, Nat.reduceEqDiff, ne_eq, not_false_eq_true, not_true_eq_false, decide_true, decide_false, Bool.not_true, Bool.not_false]
      refine oks_step rfl ?_
      have ok1 : okO (.list [.int (k : Int)]) = true := rfl
      simp (disch := decide) only [e179, ov, ok_alloc ok1, oks_nil, then_none, s_expr, exprK_at, s_var, varK_at, s_attr, attrK_at, attrK2_at, s_sub, subK_at, subK2_at, subK3_at, s_ite, iteK_t, iteK_f, s_ret, retK_at, s_ret0, s_pass, runK_some, runK_none, forK_at, turnK_none, turnK_some, whlK_t, whlK_f, tt_not, tt_band, tt_bor, tt_bool, tt_loc, tt_cmp, tt_cmp2, tt_call, tt_meth, tt_isi, tt_attr, tt_sub, tt_bin, tnotF_t, tnotF_f, ta_nil, ta_cons, andF_t, andF_f, to_nil, to_cons, orF_t, orF_f, e_none, e_bool, e_int, e_str, e_loc, e_bin, binF_at, e_not, notF_at, notF2_t, notF2_f, e_band, e_bor, e_cmp, cmpF_at, e_cmp2, cmpG_t, cmpG_f, e_list, listF_at, e_tup, tupF_at, e_dict0, e_attr, attrF_at, e_sub, subF_at, e_slice, e_sset, e_call, e_meth, methF_at, e_bi, e_isi, isiF_at, boolF_at, e_comp, es_nil, es_cons, consF_at, consF2_at, ok_bind, bindK_at, bind_pure, bind_lift, ok_pure, ok_lift, List.zip_cons_cons, List.zip_nil_right, List.zip_nil_left, List.foldl_cons, List.foldl_nil, upd_def, Nat.reduceBEq, bif_t, bif_f, if_true, if_false, Bool.false_eq_true, reduceCtorEq, Nat.reduceEqDiff, ne_eq, not_false_eq_true, not_true_eq_false, decide_true, decide_false, Bool.not_true, Bool.not_false]
      exact h _ _ _ rfl get_push_eq (by lia) (by lia) (get_keep (x _ _ gD)) (fun a o _ g => get_keep (x a o g)) (by rw [len_push]; lia) rfl rfl rfl rfl rfl rfl
    · have hc : ¬ (((hs.count (some k) : Nat) : Int) = 0) := fun hc => h1 (hwk.mpr (by lia))
      have hF : lgF w₁ (some k) = [] := if_neg h1
      have hQ : q2 q w₁ (some k) = addN q k := if_neg h1
      rw [hF, hQ] at h
      simp (disch := decide) only [ok_eqI, hc, ok_truthb, s_expr, exprK_at, s_var, varK_at, s_attr, attrK_at, attrK2_at, s_sub, subK_at, subK2_at, subK3_at, s_ite, iteK_t, iteK_f, s_ret, retK_at, s_ret0, s_pass, runK_some, runK_none, forK_at, turnK_none, turnK_some, whlK_t, whlK_f, tt_not, tt_band, tt_bor, tt_bool, tt_loc, tt_cmp, tt_cmp2, tt_call, tt_meth, tt_isi, tt_attr, tt_sub, tt_bin, tnotF_t, tnotF_f, ta_nil, ta_cons, andF_t, andF_f, to_nil, to_cons, orF_t, orF_f, e_none, e_bool, e_int, e_str, e_loc, e_bin, binF_at, e_not, notF_at, notF2_t, notF2_f, e_band, e_bor, e_cmp, cmpF_at, e_cmp2, cmpG_t, cmpG_f, e_list, listF_at, e_tup, tupF_at, e_dict0, e_attr, attrF_at, e_sub, subF_at, e_slice, e_sset, e_call, e_meth, methF_at, e_bi, e_isi, isiF_at, boolF_at, e_comp, es_nil, es_cons, consF_at, consF2_at, ok_bind, bindK_at, bind_pure, bind_lift, ok_pure, ok_lift, List.zip_cons_cons, List.zip_nil_right, List.zip_nil_left, List.foldl_cons, List.foldl_nil, upd_def, Nat.reduceBEq, bif_t, bif_f, if_true, if_false, Bool.false_eq_true, reduceCtorEq, Nat.reduceEqDiff, ne_eq, not_false_eq_true, not_true_eq_false, decide_true, decide_false, Bool.not_true, Bool.not_false]
      refine oks_step rfl ?_
      by_cases h2 : k ∈ q
      · have e2 : addN q k = q := if_pos h2
        rw [e2] at h
        simp (disch := decide) only [e179, e177, ov, ok_isNot, ok_truthb, ok_notInL (x _ _ gD), h2, oks_nil, then_none, s_expr, exprK_at, s_var, varK_at, s_attr, attrK_at, attrK2_at, s_sub, subK_at, subK2_at, subK3_at, s_ite, iteK_t, iteK_f, s_ret, retK_at, s_ret0, s_pass, runK_some, runK_none, forK_at, turnK_none, turnK_some, whlK_t, whlK_f, tt_not, tt_band, tt_bor, tt_bool, tt_loc, tt_cmp, tt_cmp2, tt_call, tt_meth, tt_isi, tt_attr, tt_sub, tt_bin, tnotF_t, tnotF_f, ta_nil, ta_cons, andF_t, andF_f, to_nil, to_cons, orF_t, orF_f, e_none, e_bool, e_int, e_str, e_loc, e_bin, binF_at, e_not, notF_at, notF2_t, notF2_f, e_band, e_bor, e_cmp, cmpF_at, e_cmp2, cmpG_t, cmpG_f, e_list, listF_at, e_tup, tupF_at, e_dict0, e_attr, attrF_at, e_sub, subF_at, e_slice, e_sset, e_call, e_meth, methF_at, e_bi, e_isi, isiF_at, boolF_at, e_comp, es_nil, es_cons, consF_at, consF2_at, ok_bind, bindK_at, bind_pure, bind_lift, ok_pure, ok_lift, List.zip_cons_cons, List.zip_nil_right, List.zip_nil_left, List.foldl_cons, List.foldl_nil, upd_def, Nat.reduceBEq, bif_t, bif_f, if_true, if_false, Bool.false_eq_true, reduceCtorEq, Nat.reduceEqDiff, ne_eq, not_false_eq_true, not_true_eq_false, decide_true, decide_false, Bool.not_true, Bool.not_false]
        exact h lc τ e e73 (x _ _ ge) heD he12 (x _ _ gD) (fun a o _ g => x a o g) xl rfl rfl rfl rfl rfl rfl
      · have e2 : nV (addN q k) = nV q ++ [.int (k : Int)] := by
          have : addN q k = q ++ [k] := if_neg h2
          rw [this]; exact List.map_append
        rw [e2] at h
        simp (disch := decide) only [e179, e177, ov, ok_isNot, ok_truthb, ok_notInL (x _ _ gD), h2, s_expr, exprK_at, s_var, varK_at, s_attr, attrK_at, attrK2_at, s_sub, subK_at, subK2_at, subK3_at, s_ite, iteK_t, iteK_f, s_ret, retK_at, s_ret0, s_pass, runK_some, runK_none, forK_at, turnK_none, turnK_some, whlK_t, whlK_f, tt_not, tt_band, tt_bor, tt_bool, tt_loc, tt_cmp, tt_cmp2, tt_call, tt_meth, tt_isi, tt_attr, tt_sub, tt_bin, tnotF_t, tnotF_f, ta_nil, ta_cons, andF_t, andF_f, to_nil, to_cons, orF_t, orF_f, e_none, e_bool, e_int, e_str, e_loc, e_bin, binF_at, e_not, notF_at, notF2_t, notF2_f, e_band, e_bor, e_cmp, cmpF_at, e_cmp2, cmpG_t, cmpG_f, e_list, listF_at, e_tup, tupF_at, e_dict0, e_attr, attrF_at, e_sub, subF_at, e_slice, e_sset, e_call, e_meth, methF_at, e_bi, e_isi, isiF_at, boolF_at, e_comp, es_nil, es_cons, consF_at, consF2_at, ok_bind, bindK_at, bind_pure, bind_lift, ok_pure, ok_lift, List.zip_cons_cons, List.zip_nil_right, List.zip_nil_left, List.foldl_cons, List.foldl_nil, upd_def, Nat.reduceBEq, bif_t, bif_f, if_true, if_false, Bool.false_eq_true, reduceCtorEq, Nat.reduceEqDiff, ne_eq, not_false_eq_true, not_true_eq_false, decide_true, decide_false, Bool.not_true, Bool.not_false]
        refine oks_step rfl ?_
        simp (disch := decide) only [e179, e177, ov, mx_list (x _ _ gD) (.inl rfl), ok_append (x _ _ gD) (show prog.nf ≤ D from Nat.le_trans (show prog.nf ≤ 8 by decide) (by lia)) (le_lim (by rw [List.length_append, ints_len]; show q.length + 1 ≤ 1000; lia)), oks_nil, then_none, s_expr, exprK_at, s_var, varK_at, s_attr, attrK_at, attrK2_at, s_sub, subK_at, subK2_at, subK3_at, s_ite, iteK_t, iteK_f, s_ret, retK_at, s_ret0, s_pass, runK_some, runK_none, forK_at, turnK_none, turnK_some, whlK_t, whlK_f, tt_not, tt_band, tt_bor, tt_bool, tt_loc, tt_cmp, tt_cmp2, tt_call, tt_meth, tt_isi, tt_attr, tt_sub, tt_bin, tnotF_t, tnotF_f, ta_nil, ta_cons, andF_t, andF_f, to_nil, to_cons, orF_t, orF_f, e_none, e_bool, e_int, e_str, e_loc, e_bin, binF_at, e_not, notF_at, notF2_t, notF2_f, e_band, e_bor, e_cmp, cmpF_at, e_cmp2, cmpG_t, cmpG_f, e_list, listF_at, e_tup, tupF_at, e_dict0, e_attr, attrF_at, e_sub, subF_at, e_slice, e_sset, e_call, e_meth, methF_at, e_bi, e_isi, isiF_at, boolF_at, e_comp, es_nil, es_cons, consF_at, consF2_at, ok_bind, bindK_at, bind_pure, bind_lift, ok_pure, ok_lift, List.zip_cons_cons, List.zip_nil_right, List.zip_nil_left, List.foldl_cons, List.foldl_nil, upd_def, Nat.reduceBEq, bif_t, bif_f, if_true, if_false, Bool.false_eq_true, reduceCtorEq, Nat.reduceEqDiff, ne_eq, not_false_eq_true, not_true_eq_false, decide_true, decide_false, Bool.not_true, Bool.not_false]
        exact h lc _ e e73 ((get_put_ne (Ne.symm heD)).trans (x _ _ ge)) heD he12 (put_self (x _ _ gD)) (fun a o hne g => (get_put_ne (Ne.symm hne)).trans (x a o g)) (by rw [len_put]; exact xl) rfl rfl rfl rfl rfl rfl
end
end Mine.L02

set_option autoImplicit false
set_option linter.unusedSimpArgs false
set_option linter.unusedVariables false
namespace Mine.L02
open Mine
open PySem (Str PyData)

section
variable {σ σ' : H} {hs : List (Option Nat)} {kb kw ks : List Nat} {b : Nat → Nat} {w : Nat → Nat} {q : List Nat} {m D : Nat} {ts : List Nat} {lc : Loc} {n : Nat} {Q : Option V → Loc → H → Prop}
noncomputable def Then (σ : H) (n : Nat) (Q : Option V → Loc → H → Prop) : Prop :=
  ∀ l' σ' hs' ks' b' w' q' m' D' ts', Pl σ' hs' ks' b' ks' w' q' m' → Inv hs' ks' w' q' m' → Lw σ' hs' D' ts' → σ'.get D' = some (.list (nV q')) → (∀ k, k ∈ ks' → b' k ≠ D') → l' 75 = some (.ref 2) → l' 76 = some (.ref 9) → l' 176 = some (.int ((m' : Nat) : Int)) → l' 177 = some (.ref D') → l' 178 = some (.ref 11) →
    m' ≤ n → ks'.length ≤ n → q'.length ≤ n → ts'.length ≤ n → (∀ o, σ.get 12 = some o → σ'.get 12 = some o) → Q none l' σ'
theorem lgF_len {x : Option Nat} : (lgF w x).length ≤ 1 := by
  cases x with
  | none => exact Nat.zero_le _
  | some k => show (if w k = 1 then [k] else []).length ≤ 1; split
              · exact Nat.le_refl _
              · exact Nat.zero_le _
theorem keep_ok {f e : Nat} {l : List Nat} (A : Pl σ hs ks b ks w q m) (I : Inv hs ks w q m) (L : Lw σ hs D ts) (gD : σ.get D = some (.list (nV q))) (nb : ∀ k, k ∈ ks → b k ≠ D) (gf : σ.get f = some (.list (nV l))) (ge : σ.get e = some (.list (nV l))) (hl : l.length ≤ 1)
    (hf : 12 < f) (he : 12 < e) (hfD : f ≠ D) (heD : e ≠ D) (hn : n ≤ 40) (hm : m ≤ n) (hk : ks.length ≤ n) (hq : q.length ≤ n) (ht : ts.length < n)
    (e75 : lc 75 = some (.ref 2)) (e76 : lc 76 = some (.ref 9)) (e176 : lc 176 = some (.int (m : Int))) (e177 : lc 177 = some (.ref D)) (e178 : lc 178 = some (.ref 11)) (e81 : lc 81 = some (.ref f)) (e73 : lc 73 = some (.ref e))
    (h : Then σ n Q) : OkS (exs prog (run prog 1000 20) 1000 f_law_6f_10 lc σ) Q := by
  have big := A.big
  have hDl := get_lt gD
  refine oks_step rfl ?_
  have ok2 : okO (.tup [.ref f, .ref e]) = true := rfl
  have g11 : (σ.push (.tup [.ref f, .ref e])).get 11 = some (.list (ts.map .ref)) := get_keep L.kp
  have em : ts.map V.ref ++ [V.ref σ.length] = (ts ++ [σ.length]).map .ref := by rw [List.map_append]; rfl
  simp (disch := decide) only [e178, e81, e73, mx_list L.kp (.inl rfl), ok_alloc ok2, ok_append g11 (show prog.nf ≤ 11 by decide) (le_lim (by rw [List.length_append, List.length_map]; show ts.length + 1 ≤ 1000; lia)), em, s_expr, exprK_at, s_var, varK_at, s_attr, attrK_at, attrK2_at, s_sub, subK_at, subK2_at, subK3_at, s_ite, iteK_t, iteK_f, s_ret, retK_at, s_ret0, s_pass, runK_some, runK_none, forK_at, turnK_none, turnK_some, whlK_t, whlK_f, tt_not, tt_band, tt_bor, tt_bool, tt_loc, tt_cmp, tt_cmp2, tt_call, tt_meth, tt_isi, tt_attr, tt_sub, tt_bin, tnotF_t, tnotF_f, ta_nil, ta_cons, andF_t, andF_f, to_nil, to_cons, orF_t, orF_f, e_none, e_bool, e_int, e_str, e_loc, e_bin, binF_at, e_not, notF_at, notF2_t, notF2_f, e_band, e_bor, e_cmp, cmpF_at, e_cmp2, cmpG_t, cmpG_f, e_list, listF_at, e_tup, tupF_at, e_dict0, e_attr, attrF_at, e_sub, subF_at, e_slice, e_sset, e_call, e_meth, methF_at, e_bi, e_isi, isiF_at, boolF_at, e_comp, es_nil, es_cons, consF_at, consF2_at, ok_bind, bindK_at, bind_pure, bind_lift, ok_pure, ok_lift, List.zip_cons_cons, List.zip_nil_right, List.zip_nil_left, List.foldl_cons, List.foldl_nil, upd_def, Nat.reduceBEq, bif_t, bif_f, if_true, if_false, Bool.false_eq_true, reduceCtorEq, Nat.reduceEqDiff, ne_eq, not_false_eq_true, not_true_eq_false, decide_true, decide_false, Bool.not_true, Bool.not_false]
  have A1 := A.push (.tup [.ref f, .ref e])
  have L1 := L.ex ((Ext.refl σ).push (.tup [.ref f, .ref e]))
  have gt : (σ.push (.tup [.ref f, .ref e])).get σ.length = some (.tup [.ref f, .ref e]) := get_push_eq
  have gD1 := get_keep (x := .tup [.ref f, .ref e]) gD
  have gf1 := get_keep (x := .tup [.ref f, .ref e]) gf
  have ge1 := get_keep (x := .tup [.ref f, .ref e]) ge
  have k1 : ∀ o, σ.get 12 = some o → (σ.push (.tup [.ref f, .ref e])).get 12 = some o := fun o g => get_keep g
  generalize σ.push (.tup [.ref f, .ref e]) = σ1 at *
  have hb : ∀ k ∈ ks, b k ≠ 11 := fun k hk => by have := (A.bx k hk).1; lia
  have A2 := A1.put (a := 11) (by decide) hb (.list ((ts ++ [σ.length]).map .ref))
  have nD : D ≠ 11 := by have := L.dr; lia
  have gD2 : (σ1.put 11 (.list ((ts ++ [σ.length]).map .ref))).get D = _ := (get_put_ne nD.symm).trans gD1
  have gf2 : (σ1.put 11 (.list ((ts ++ [σ.length]).map .ref))).get f = _ := (get_put_ne (by lia)).trans gf1
  have ge2 : (σ1.put 11 (.list ((ts ++ [σ.length]).map .ref))).get e = _ := (get_put_ne (by lia)).trans ge1
  have k2 : ∀ o, σ.get 12 = some o → (σ1.put 11 (.list ((ts ++ [σ.length]).map .ref))).get 12 = some o := fun o g => (get_put_ne (by decide)).trans (k1 o g)
  have L2 : Lw (σ1.put 11 (.list ((ts ++ [σ.length]).map .ref))) hs D (ts ++ [σ.length]) := by
    refine ⟨(get_put_ne (by decide)).trans L1.hl, put_self L1.kp, fun t ht => ?_, L.dr⟩
    rcases List.mem_append.mp ht with ht | ht
    · exact (L1.kx t ht).keep fun a o h _ g => (get_put_ne (by lia)).trans g
    · rw [List.mem_singleton.mp ht]
      exact ⟨big, by lia, f, e, l, hf, hfD, he, heD, (get_put_ne (by lia)).trans gt, gf2, ge2, hl⟩
  generalize σ1.put 11 (.list ((ts ++ [σ.length]).map .ref)) = σ2 at *
  refine rest_ok A2 I L2.hl gD2 gf2 ge2 hl (by lia) (by lia) (by lia) e75 e76 e177 e81 e73 fun l' σ3 x d75 d76 d176 d177 d178 => ?_
  exact h l' σ3 hs ks b w q m D (ts ++ [σ.length]) (A2.ex x) I (L2.ex x) (x _ _ gD2) nb (d75.trans e75) (d76.trans e76) (d176.trans e176) (d177.trans e177) (d178.trans e178) hm hk hq (by rw [List.length_append]; show ts.length + 1 ≤ n; lia) fun o g => x _ _ (k2 o g)
theorem mid_ok {i f : Nat} {x : Option Nat} (A : Pl σ (hs.set i x) (delK ks (addW w x) ((hs[i]?).getD none)) b (delK ks (addW w x) ((hs[i]?).getD none)) (subW (addW w x) ((hs[i]?).getD none)) (lgQ q (addW w x) ((hs[i]?).getD none)) m) (I : Pre hs ks w q m x) (hi : i < 8) (L : Lw σ hs D ts) (gD : σ.get D = some (.list (nV q))) (nb : ∀ k, k ∈ ks → b k ≠ D)
    (gf : σ.get f = some (.list (nV (lgF (addW w x) ((hs[i]?).getD none))))) (hf : 12 < f) (hfD : f ≠ D) (hn : n ≤ 40) (hm : m ≤ n) (hk : ks.length ≤ n) (hq : q.length < n) (ht : ts.length < n)
    (e75 : lc 75 = some (.ref 2)) (e76 : lc 76 = some (.ref 9)) (e176 : lc 176 = some (.int (m : Int))) (e177 : lc 177 = some (.ref D)) (e178 : lc 178 = some (.ref 11)) (e81 : lc 81 = some (.ref f)) (e79 : lc 79 = some (.int (i : Int))) (e179 : lc 179 = some (ov ((hs[i]?).getD none))) (e180 : lc 180 = some (ov x))
    (h : Then σ n Q) : OkS (exs prog (run prog 1000 20) 1000 f_law_6f_6 lc σ) Q := by
  have II := I.inv hi
  have hw := fun k e => I.free hi (k := k) e
  have hl := I.hl
  have qn := I.qn
  have kl := delK_len (ks := ks) (w := addW w x) (x := (hs[i]?).getD none)
  have ql := lgQ_len (q := q) (w := addW w x) (x := (hs[i]?).getD none)
  have qf := q2_f (w := addW w x) qn (x := (hs[i]?).getD none)
  have fl := lgF_len (w := addW w x) (x := (hs[i]?).getD none)
  have nb' : ∀ k, k ∈ delK ks (addW w x) ((hs[i]?).getD none) → b k ≠ D := fun k hk => nb k (delK_mem hk)
  generalize hold : (hs[i]?).getD none = old at *
  generalize addW w x = w₁ at *
  have big := A.big
  have dr := L.dr
  refine oks_step rfl ?_
  simp (disch := decide) only [e180, e76, e79, ok_setList L.hl (show prog.nf ≤ 9 by decide) (Int.natCast_nonneg _) (lt_ov (show i < hs.length by lia)), set_ov, s_expr, exprK_at, s_var, varK_at, s_attr, attrK_at, attrK2_at, s_sub, subK_at, subK2_at, subK3_at, s_ite, iteK_t, iteK_f, s_ret, retK_at, s_ret0, s_pass, runK_some, runK_none, forK_at, turnK_none, turnK_some, whlK_t, whlK_f, tt_not, tt_band, tt_bor, tt_bool, tt_loc, tt_cmp, tt_cmp2, tt_call, tt_meth, tt_isi, tt_attr, tt_sub, tt_bin, tnotF_t, tnotF_f, ta_nil, ta_cons, andF_t, andF_f, to_nil, to_cons, orF_t, orF_f, e_none, e_bool, e_int, e_str, e_loc, e_bin, binF_at, e_not, notF_at, notF2_t, notF2_f, e_band, e_bor, e_cmp, cmpF_at, e_cmp2, cmpG_t, cmpG_f, e_list, listF_at, e_tup, tupF_at, e_dict0, e_attr, attrF_at, e_sub, subF_at, e_slice, e_sset, e_call, e_meth, methF_at, e_bi, e_isi, isiF_at, boolF_at, e_comp, es_nil, es_cons, consF_at, consF2_at, ok_bind, bindK_at, bind_pure, bind_lift, ok_pure, ok_lift, List.zip_cons_cons, List.zip_nil_right, List.zip_nil_left, List.foldl_cons, List.foldl_nil, upd_def, Nat.reduceBEq, bif_t, bif_f, if_true, if_false, Bool.false_eq_true, reduceCtorEq, Nat.reduceEqDiff, ne_eq, not_false_eq_true, not_true_eq_false, decide_true, decide_false, Bool.not_true, Bool.not_false]
  have A1 := A.put (a := 9) (by decide) (fun k hk => by have := (A.bx k hk).1; lia) (.list ((hs.set i x).map ov))
  have L1 := L.setH (hs.set i x)
  have gD1 : (σ.put 9 (.list ((hs.set i x).map ov))).get D = _ := (get_put_ne (by lia)).trans gD
  have gf1 : (σ.put 9 (.list ((hs.set i x).map ov))).get f = _ := (get_put_ne (by lia)).trans gf
  have k1 : ∀ o, σ.get 12 = some o → (σ.put 9 (.list ((hs.set i x).map ov))).get 12 = some o := fun o g => (get_put_ne (by decide)).trans g
  generalize σ.put 9 (.list ((hs.set i x).map ov)) = σ1 at *
  refine then_step rfl ?_
  simp (disch := decide) only [ok_alloc (o := .list []) rfl, s_expr, exprK_at, s_var, varK_at, s_attr, attrK_at, attrK2_at, s_sub, subK_at, subK2_at, subK3_at, s_ite, iteK_t, iteK_f, s_ret, retK_at, s_ret0, s_pass, runK_some, runK_none, forK_at, turnK_none, turnK_some, whlK_t, whlK_f, tt_not, tt_band, tt_bor, tt_bool, tt_loc, tt_cmp, tt_cmp2, tt_call, tt_meth, tt_isi, tt_attr, tt_sub, tt_bin, tnotF_t, tnotF_f, ta_nil, ta_cons, andF_t, andF_f, to_nil, to_cons, orF_t, orF_f, e_none, e_bool, e_int, e_str, e_loc, e_bin, binF_at, e_not, notF_at, notF2_t, notF2_f, e_band, e_bor, e_cmp, cmpF_at, e_cmp2, cmpG_t, cmpG_f, e_list, listF_at, e_tup, tupF_at, e_dict0, e_attr, attrF_at, e_sub, subF_at, e_slice, e_sset, e_call, e_meth, methF_at, e_bi, e_isi, isiF_at, boolF_at, e_comp, es_nil, es_cons, consF_at, consF2_at, ok_bind, bindK_at, bind_pure, bind_lift, ok_pure, ok_lift, List.zip_cons_cons, List.zip_nil_right, List.zip_nil_left, List.foldl_cons, List.foldl_nil, upd_def, Nat.reduceBEq, bif_t, bif_f, if_true, if_false, Bool.false_eq_true, reduceCtorEq, Nat.reduceEqDiff, ne_eq, not_false_eq_true, not_true_eq_false, decide_true, decide_false, Bool.not_true, Bool.not_false]
  have A2 := A1.push (.list [])
  have L2 := L1.ex ((Ext.refl σ1).push (.list []))
  have ge : (σ1.push (.list [])).get σ1.length = some (.list []) := get_push_eq
  have b1 := A1.big
  have dl := get_lt gD1
  have he : σ1.length ≠ D := by lia
  have gD2 := get_keep (x := .list []) gD1
  have gf2 := get_keep (x := .list []) gf1
  have k2 : ∀ o, σ.get 12 = some o → (σ1.push (.list [])).get 12 = some o := fun o g => get_keep (k1 o g)
  generalize σ1.push (.list []) = σ2 at *
  generalize σ1.length = e at *
  have hl2 : (hs.set i x).length = 8 := List.length_set.trans hl
  show OkS (exs prog (run prog 1000 20) 1000 f_law_6f_8 _ σ2) Q
  refine eight_ok (w₁ := w₁) L2.hl hl2 gD2 dr (get_lt gD2) A2.big (by lia) hw e76 e177 e179 rfl ge he b1 fun l' σ3 e' m73 ge' he' hb' gD3 kd hl3 d75 d76 d176 d177 d178 d81 => ?_
  have A3 := A2.kd kd dr nb' hl3
  have L3 := L2.kd kd
  have gf3 := kd _ _ hfD gf2
  have k3 : ∀ o, σ.get 12 = some o → σ3.get 12 = some o := fun o g => kd _ _ (by lia) (k2 o g)
  have q2l : (q2 q w₁ old).length ≤ 1000 := by
    cases old with
    | none => show q.length ≤ 1000; lia
    | some k =>
      show (if w₁ k = 1 then q else addN q k).length ≤ 1000
      have := addN_len (q := q) (k := k)
      split <;> lia
  refine oks_step rfl ?_
  simp (disch := decide) only [d177, e177, s_expr, exprK_at, s_var, varK_at, s_attr, attrK_at, attrK2_at, s_sub, subK_at, subK2_at, subK3_at, s_ite, iteK_t, iteK_f, s_ret, retK_at, s_ret0, s_pass, runK_some, runK_none, forK_at, turnK_none, turnK_some, whlK_t, whlK_f, tt_not, tt_band, tt_bor, tt_bool, tt_loc, tt_cmp, tt_cmp2, tt_call, tt_meth, tt_isi, tt_attr, tt_sub, tt_bin, tnotF_t, tnotF_f, ta_nil, ta_cons, andF_t, andF_f, to_nil, to_cons, orF_t, orF_f, e_none, e_bool, e_int, e_str, e_loc, e_bin, binF_at, e_not, notF_at, notF2_t, notF2_f, e_band, e_bor, e_cmp, cmpF_at, e_cmp2, cmpG_t, cmpG_f, e_list, listF_at, e_tup, tupF_at, e_dict0, e_attr, attrF_at, e_sub, subF_at, e_slice, e_sset, e_call, e_meth, methF_at, e_bi, e_isi, isiF_at, boolF_at, e_comp, es_nil, es_cons, consF_at, consF2_at, ok_bind, bindK_at, bind_pure, bind_lift, ok_pure, ok_lift, List.zip_cons_cons, List.zip_nil_right, List.zip_nil_left, List.foldl_cons, List.foldl_nil, upd_def, Nat.reduceBEq, bif_t, bif_f, if_true, if_false, Bool.false_eq_true, reduceCtorEq, Nat.reduceEqDiff, ne_eq, not_false_eq_true, not_true_eq_false, decide_true, decide_false, Bool.not_true, Bool.not_false]
  rw [comp_doubts gD3 ge' m73 q2l, qf]
  have A4 := A3.push (.list (nV (lgQ q w₁ old)))
  have L4 := L3.fresh A3.big (.list (nV (lgQ q w₁ old)))
  have gD4 : (σ3.push (.list (nV (lgQ q w₁ old)))).get σ3.length = some (.list (nV (lgQ q w₁ old))) := get_push_eq
  have gf4 := get_keep (x := .list (nV (lgQ q w₁ old))) gf3
  have ge4 := get_keep (x := .list (nV (lgQ q w₁ old))) ge'
  have k4 : ∀ o, σ.get 12 = some o → (σ3.push (.list (nV (lgQ q w₁ old)))).get 12 = some o := fun o g => get_keep (k3 o g)
  have nb4 : ∀ k, k ∈ delK ks w₁ old → b k ≠ σ3.length := fun k hk => by
    obtain ⟨_, z, _, g⟩ := A3.bx k hk
    have := get_lt g; lia
  have f4 := get_lt gf3
  have e4 := get_lt ge'
  generalize σ3.push (.list (nV (lgQ q w₁ old))) = σ4 at *
  generalize σ3.length = D' at *
  simp (disch := decide) only [then_none, s_expr, exprK_at, s_var, varK_at, s_attr, attrK_at, attrK2_at, s_sub, subK_at, subK2_at, subK3_at, s_ite, iteK_t, iteK_f, s_ret, retK_at, s_ret0, s_pass, runK_some, runK_none, forK_at, turnK_none, turnK_some, whlK_t, whlK_f, tt_not, tt_band, tt_bor, tt_bool, tt_loc, tt_cmp, tt_cmp2, tt_call, tt_meth, tt_isi, tt_attr, tt_sub, tt_bin, tnotF_t, tnotF_f, ta_nil, ta_cons, andF_t, andF_f, to_nil, to_cons, orF_t, orF_f, e_none, e_bool, e_int, e_str, e_loc, e_bin, binF_at, e_not, notF_at, notF2_t, notF2_f, e_band, e_bor, e_cmp, cmpF_at, e_cmp2, cmpG_t, cmpG_f, e_list, listF_at, e_tup, tupF_at, e_dict0, e_attr, attrF_at, e_sub, subF_at, e_slice, e_sset, e_call, e_meth, methF_at, e_bi, e_isi, isiF_at, boolF_at, e_comp, es_nil, es_cons, consF_at, consF2_at, ok_bind, bindK_at, bind_pure, bind_lift, ok_pure, ok_lift, List.zip_cons_cons, List.zip_nil_right, List.zip_nil_left, List.foldl_cons, List.foldl_nil, upd_def, Nat.reduceBEq, bif_t, bif_f, if_true, if_false, Bool.false_eq_true, reduceCtorEq, Nat.reduceEqDiff, ne_eq, not_false_eq_true, not_true_eq_false, decide_true, decide_false, Bool.not_true, Bool.not_false]
  refine keep_ok A4 II L4 gD4 nb4 gf4 ge4 fl hf hb' (by lia) (by lia) hn hm (by lia) (by lia) ht (d75.trans e75) (d76.trans e76) (d176.trans e176) rfl (d178.trans e178) (d81.trans e81) m73 ?_
  exact fun l' σ' hs' ks' b' w' q' m' D' ts' a1 a2 a3 a4 a5 a6 a7 a8 a9 a10 a11 a12 a13 a14 a15 => h l' σ' hs' ks' b' w' q' m' D' ts' a1 a2 a3 a4 a5 a6 a7 a8 a9 a10 a11 a12 a13 a14 fun o g => a15 o (k4 o g)
theorem Then.kp (h : Then σ n Q) (k : Kp σ σ') : Then σ' n Q :=
  fun l' τ hs' ks' b' w' q' m' D' ts' a1 a2 a3 a4 a5 a6 a7 a8 a9 a10 a11 a12 a13 a14 a15 => h l' τ hs' ks' b' w' q' m' D' ts' a1 a2 a3 a4 a5 a6 a7 a8 a9 a10 a11 a12 a13 a14 fun o g => a15 o (k _ _ rfl g)
theorem turn_ok {c : Int} (A : Pl σ hs ks b ks w q m) (I : Inv hs ks w q m) (L : Lw σ hs D ts) (gD : σ.get D = some (.list (nV q))) (nb : ∀ k, k ∈ ks → b k ≠ D) (hn : n < 40) (hm : m ≤ n) (hk : ks.length ≤ n) (hq : q.length ≤ n) (ht : ts.length ≤ n)
    (e75 : lc 75 = some (.ref 2)) (e76 : lc 76 = some (.ref 9)) (e176 : lc 176 = some (.int (m : Int))) (e177 : lc 177 = some (.ref D)) (e178 : lc 178 = some (.ref 11)) (e94 : lc 94 = some (.int c))
    (h : Then σ (n + 1) Q) : OkS (exs prog (run prog 1000 20) 1000 f_law_6f_1 lc σ) Q := by
  obtain ⟨i, hi, hi2⟩ := fmod_nat (a := Int.fdiv c 4) (b := 8) (by decide)
  obtain ⟨j, hj, hj2⟩ := fmod_nat (a := Int.fdiv c 32) (b := 8) (by decide)
  obtain ⟨z, hz, hz2⟩ := fmod_nat (a := Int.fdiv c 32) (b := 7) (by decide)
  obtain ⟨a, ha, ha2⟩ := fmod_nat (a := c) (b := 4) (by decide)
  have hi2 : i < 8 := by lia
  have hj2 : j < 8 := by lia
  have hz2 : z ≤ 6 := by lia
  have hl := I.hl
  have dr := L.dr
  have big := A.big
  have dl := get_lt gD
  have oD : Ow D = false := ow_gt (by lia)
  refine oks_step rfl ?_
  simp (disch := decide) only [e94, ok_div (b := 4) (by decide) (by decide), ok_mod (b := 8) (by decide), hi, s_expr, exprK_at, s_var, varK_at, s_attr, attrK_at, attrK2_at, s_sub, subK_at, subK2_at, subK3_at, s_ite, iteK_t, iteK_f, s_ret, retK_at, s_ret0, s_pass, runK_some, runK_none, forK_at, turnK_none, turnK_some, whlK_t, whlK_f, tt_not, tt_band, tt_bor, tt_bool, tt_loc, tt_cmp, tt_cmp2, tt_call, tt_meth, tt_isi, tt_attr, tt_sub, tt_bin, tnotF_t, tnotF_f, ta_nil, ta_cons, andF_t, andF_f, to_nil, to_cons, orF_t, orF_f, e_none, e_bool, e_int, e_str, e_loc, e_bin, binF_at, e_not, notF_at, notF2_t, notF2_f, e_band, e_bor, e_cmp, cmpF_at, e_cmp2, cmpG_t, cmpG_f, e_list, listF_at, e_tup, tupF_at, e_dict0, e_attr, attrF_at, e_sub, subF_at, e_slice, e_sset, e_call, e_meth, methF_at, e_bi, e_isi, isiF_at, boolF_at, e_comp, es_nil, es_cons, consF_at, consF2_at, ok_bind, bindK_at, bind_pure, bind_lift, ok_pure, ok_lift, List.zip_cons_cons, List.zip_nil_right, List.zip_nil_left, List.foldl_cons, List.foldl_nil, upd_def, Nat.reduceBEq, bif_t, bif_f, if_true, if_false, Bool.false_eq_true, reduceCtorEq, Nat.reduceEqDiff, ne_eq, not_false_eq_true, not_true_eq_false, decide_true, decide_false, Bool.not_true, Bool.not_false]
  refine then_step rfl ?_
  simp (disch := decide) only [e94, ok_div (b := 32) (by decide) (by decide), ok_mod (b := 8) (by decide), hj, s_expr, exprK_at, s_var, varK_at, s_attr, attrK_at, attrK2_at, s_sub, subK_at, subK2_at, subK3_at, s_ite, iteK_t, iteK_f, s_ret, retK_at, s_ret0, s_pass, runK_some, runK_none, forK_at, turnK_none, turnK_some, whlK_t, whlK_f, tt_not, tt_band, tt_bor, tt_bool, tt_loc, tt_cmp, tt_cmp2, tt_call, tt_meth, tt_isi, tt_attr, tt_sub, tt_bin, tnotF_t, tnotF_f, ta_nil, ta_cons, andF_t, andF_f, to_nil, to_cons, orF_t, orF_f, e_none, e_bool, e_int, e_str, e_loc, e_bin, binF_at, e_not, notF_at, notF2_t, notF2_f, e_band, e_bor, e_cmp, cmpF_at, e_cmp2, cmpG_t, cmpG_f, e_list, listF_at, e_tup, tupF_at, e_dict0, e_attr, attrF_at, e_sub, subF_at, e_slice, e_sset, e_call, e_meth, methF_at, e_bi, e_isi, isiF_at, boolF_at, e_comp, es_nil, es_cons, consF_at, consF2_at, ok_bind, bindK_at, bind_pure, bind_lift, ok_pure, ok_lift, List.zip_cons_cons, List.zip_nil_right, List.zip_nil_left, List.foldl_cons, List.foldl_nil, upd_def, Nat.reduceBEq, bif_t, bif_f, if_true, if_false, Bool.false_eq_true, reduceCtorEq, Nat.reduceEqDiff, ne_eq, not_false_eq_true, not_true_eq_false, decide_true, decide_false, Bool.not_true, Bool.not_false]
  refine then_step rfl ?_
  simp (disch := decide) only [e76, ok_getList L.hl (Int.natCast_nonneg _) (ov_at (show i < hs.length by lia)), s_expr, exprK_at, s_var, varK_at, s_attr, attrK_at, attrK2_at, s_sub, subK_at, subK2_at, subK3_at, s_ite, iteK_t, iteK_f, s_ret, retK_at, s_ret0, s_pass, runK_some, runK_none, forK_at, turnK_none, turnK_some, whlK_t, whlK_f, tt_not, tt_band, tt_bor, tt_bool, tt_loc, tt_cmp, tt_cmp2, tt_call, tt_meth, tt_isi, tt_attr, tt_sub, tt_bin, tnotF_t, tnotF_f, ta_nil, ta_cons, andF_t, andF_f, to_nil, to_cons, orF_t, orF_f, e_none, e_bool, e_int, e_str, e_loc, e_bin, binF_at, e_not, notF_at, notF2_t, notF2_f, e_band, e_bor, e_cmp, cmpF_at, e_cmp2, cmpG_t, cmpG_f, e_list, listF_at, e_tup, tupF_at, e_dict0, e_attr, attrF_at, e_sub, subF_at, e_slice, e_sset, e_call, e_meth, methF_at, e_bi, e_isi, isiF_at, boolF_at, e_comp, es_nil, es_cons, consF_at, consF2_at, ok_bind, bindK_at, bind_pure, bind_lift, ok_pure, ok_lift, List.zip_cons_cons, List.zip_nil_right, List.zip_nil_left, List.foldl_cons, List.foldl_nil, upd_def, Nat.reduceBEq, bif_t, bif_f, if_true, if_false, Bool.false_eq_true, reduceCtorEq, Nat.reduceEqDiff, ne_eq, not_false_eq_true, not_true_eq_false, decide_true, decide_false, Bool.not_true, Bool.not_false]
  refine then_step rfl ?_
  simp (disch := decide) only [s_expr, exprK_at, s_var, varK_at, s_attr, attrK_at, attrK2_at, s_sub, subK_at, subK2_at, subK3_at, s_ite, iteK_t, iteK_f, s_ret, retK_at, s_ret0, s_pass, runK_some, runK_none, forK_at, turnK_none, turnK_some, whlK_t, whlK_f, tt_not, tt_band, tt_bor, tt_bool, tt_loc, tt_cmp, tt_cmp2, tt_call, tt_meth, tt_isi, tt_attr, tt_sub, tt_bin, tnotF_t, tnotF_f, ta_nil, ta_cons, andF_t, andF_f, to_nil, to_cons, orF_t, orF_f, e_none, e_bool, e_int, e_str, e_loc, e_bin, binF_at, e_not, notF_at, notF2_t, notF2_f, e_band, e_bor, e_cmp, cmpF_at, e_cmp2, cmpG_t, cmpG_f, e_list, listF_at, e_tup, tupF_at, e_dict0, e_attr, attrF_at, e_sub, subF_at, e_slice, e_sset, e_call, e_meth, methF_at, e_bi, e_isi, isiF_at, boolF_at, e_comp, es_nil, es_cons, consF_at, consF2_at, ok_bind, bindK_at, bind_pure, bind_lift, ok_pure, ok_lift, List.zip_cons_cons, List.zip_nil_right, List.zip_nil_left, List.foldl_cons, List.foldl_nil, upd_def, Nat.reduceBEq, bif_t, bif_f, if_true, if_false, Bool.false_eq_true, reduceCtorEq, Nat.reduceEqDiff, ne_eq, not_false_eq_true, not_true_eq_false, decide_true, decide_false, Bool.not_true, Bool.not_false]
  refine then_step rfl ?_
  have ha4 : a < 2 ∨ a = 2 ∨ a = 3 := by lia
  rcases ha4 with h1 | rfl | rfl
  · have h1' : (a : Int) < 2 := by lia
    have P := I.preNew
    simp (disch := decide) only [e94, ok_mod (b := 4) (by decide), ha, ok_lt, h1', ok_truthb, s_expr, exprK_at, s_var, varK_at, s_attr, attrK_at, attrK2_at, s_sub, subK_at, subK2_at, subK3_at, s_ite, iteK_t, iteK_f, s_ret, retK_at, s_ret0, s_pass, runK_some, runK_none, forK_at, turnK_none, turnK_some, whlK_t, whlK_f, tt_not, tt_band, tt_bor, tt_bool, tt_loc, tt_cmp, tt_cmp2, tt_call, tt_meth, tt_isi, tt_attr, tt_sub, tt_bin, tnotF_t, tnotF_f, ta_nil, ta_cons, andF_t, andF_f, to_nil, to_cons, orF_t, orF_f, e_none, e_bool, e_int, e_str, e_loc, e_bin, binF_at, e_not, notF_at, notF2_t, notF2_f, e_band, e_bor, e_cmp, cmpF_at, e_cmp2, cmpG_t, cmpG_f, e_list, listF_at, e_tup, tupF_at, e_dict0, e_attr, attrF_at, e_sub, subF_at, e_slice, e_sset, e_call, e_meth, methF_at, e_bi, e_isi, isiF_at, boolF_at, e_comp, es_nil, es_cons, consF_at, consF2_at, ok_bind, bindK_at, bind_pure, bind_lift, ok_pure, ok_lift, List.zip_cons_cons, List.zip_nil_right, List.zip_nil_left, List.foldl_cons, List.foldl_nil, upd_def, Nat.reduceBEq, bif_t, bif_f, if_true, if_false, Bool.false_eq_true, reduceCtorEq, Nat.reduceEqDiff, ne_eq, not_false_eq_true, not_true_eq_false, decide_true, decide_false, Bool.not_true, Bool.not_false]
    refine oks_step rfl ?_
    simp (disch := decide) only [e176, s_expr, exprK_at, s_var, varK_at, s_attr, attrK_at, attrK2_at, s_sub, subK_at, subK2_at, subK3_at, s_ite, iteK_t, iteK_f, s_ret, retK_at, s_ret0, s_pass, runK_some, runK_none, forK_at, turnK_none, turnK_some, whlK_t, whlK_f, tt_not, tt_band, tt_bor, tt_bool, tt_loc, tt_cmp, tt_cmp2, tt_call, tt_meth, tt_isi, tt_attr, tt_sub, tt_bin, tnotF_t, tnotF_f, ta_nil, ta_cons, andF_t, andF_f, to_nil, to_cons, orF_t, orF_f, e_none, e_bool, e_int, e_str, e_loc, e_bin, binF_at, e_not, notF_at, notF2_t, notF2_f, e_band, e_bor, e_cmp, cmpF_at, e_cmp2, cmpG_t, cmpG_f, e_list, listF_at, e_tup, tupF_at, e_dict0, e_attr, attrF_at, e_sub, subF_at, e_slice, e_sset, e_call, e_meth, methF_at, e_bi, e_isi, isiF_at, boolF_at, e_comp, es_nil, es_cons, consF_at, consF2_at, ok_bind, bindK_at, bind_pure, bind_lift, ok_pure, ok_lift, List.zip_cons_cons, List.zip_nil_right, List.zip_nil_left, List.foldl_cons, List.foldl_nil, upd_def, Nat.reduceBEq, bif_t, bif_f, if_true, if_false, Bool.false_eq_true, reduceCtorEq, Nat.reduceEqDiff, ne_eq, not_false_eq_true, not_true_eq_false, decide_true, decide_false, Bool.not_true, Bool.not_false]
    refine then_step rfl ?_
    have em : (m : Int) + 1 = ((m + 1 : Nat) : Int) := rfl
    simp (disch := decide) only [e176, ok_add, em, s_expr, exprK_at, s_var, varK_at, s_attr, attrK_at, attrK2_at, s_sub, subK_at, subK2_at, subK3_at, s_ite, iteK_t, iteK_f, s_ret, retK_at, s_ret0, s_pass, runK_some, runK_none, forK_at, turnK_none, turnK_some, whlK_t, whlK_f, tt_not, tt_band, tt_bor, tt_bool, tt_loc, tt_cmp, tt_cmp2, tt_call, tt_meth, tt_isi, tt_attr, tt_sub, tt_bin, tnotF_t, tnotF_f, ta_nil, ta_cons, andF_t, andF_f, to_nil, to_cons, orF_t, orF_f, e_none, e_bool, e_int, e_str, e_loc, e_bin, binF_at, e_not, notF_at, notF2_t, notF2_f, e_band, e_bor, e_cmp, cmpF_at, e_cmp2, cmpG_t, cmpG_f, e_list, listF_at, e_tup, tupF_at, e_dict0, e_attr, attrF_at, e_sub, subF_at, e_slice, e_sset, e_call, e_meth, methF_at, e_bi, e_isi, isiF_at, boolF_at, e_comp, es_nil, es_cons, consF_at, consF2_at, ok_bind, bindK_at, bind_pure, bind_lift, ok_pure, ok_lift, List.zip_cons_cons, List.zip_nil_right, List.zip_nil_left, List.foldl_cons, List.foldl_nil, upd_def, Nat.reduceBEq, bif_t, bif_f, if_true, if_false, Bool.false_eq_true, reduceCtorEq, Nat.reduceEqDiff, ne_eq, not_false_eq_true, not_true_eq_false, decide_true, decide_false, Bool.not_true, Bool.not_false]
    refine then_step rfl ?_
    simp (disch := decide) only [e75, e94, ok_div (b := 32) (by decide) (by decide), ok_mod (b := 7) (by decide), hz, mx_inst A.p A.d, s_expr, exprK_at, s_var, varK_at, s_attr, attrK_at, attrK2_at, s_sub, subK_at, subK2_at, subK3_at, s_ite, iteK_t, iteK_f, s_ret, retK_at, s_ret0, s_pass, runK_some, runK_none, forK_at, turnK_none, turnK_some, whlK_t, whlK_f, tt_not, tt_band, tt_bor, tt_bool, tt_loc, tt_cmp, tt_cmp2, tt_call, tt_meth, tt_isi, tt_attr, tt_sub, tt_bin, tnotF_t, tnotF_f, ta_nil, ta_cons, andF_t, andF_f, to_nil, to_cons, orF_t, orF_f, e_none, e_bool, e_int, e_str, e_loc, e_bin, binF_at, e_not, notF_at, notF2_t, notF2_f, e_band, e_bor, e_cmp, cmpF_at, e_cmp2, cmpG_t, cmpG_f, e_list, listF_at, e_tup, tupF_at, e_dict0, e_attr, attrF_at, e_sub, subF_at, e_slice, e_sset, e_call, e_meth, methF_at, e_bi, e_isi, isiF_at, boolF_at, e_comp, es_nil, es_cons, consF_at, consF2_at, ok_bind, bindK_at, bind_pure, bind_lift, ok_pure, ok_lift, List.zip_cons_cons, List.zip_nil_right, List.zip_nil_left, List.foldl_cons, List.foldl_nil, upd_def, Nat.reduceBEq, bif_t, bif_f, if_true, if_false, Bool.false_eq_true, reduceCtorEq, Nat.reduceEqDiff, ne_eq, not_false_eq_true, not_true_eq_false, decide_true, decide_false, Bool.not_true, Bool.not_false]
    refine make_ok A I.nd hl hi2 hz2 I.new (by lia) (fun k e => ⟨(I.mem k).mpr (getD_mem e), (P.old hi2 e).2⟩) (by lia) fun σ' f a ha A' k' hf g' => ?_
    simp (disch := decide) only [oks_nil, then_none, s_expr, exprK_at, s_var, varK_at, s_attr, attrK_at, attrK2_at, s_sub, subK_at, subK2_at, subK3_at, s_ite, iteK_t, iteK_f, s_ret, retK_at, s_ret0, s_pass, runK_some, runK_none, forK_at, turnK_none, turnK_some, whlK_t, whlK_f, tt_not, tt_band, tt_bor, tt_bool, tt_loc, tt_cmp, tt_cmp2, tt_call, tt_meth, tt_isi, tt_attr, tt_sub, tt_bin, tnotF_t, tnotF_f, ta_nil, ta_cons, andF_t, andF_f, to_nil, to_cons, orF_t, orF_f, e_none, e_bool, e_int, e_str, e_loc, e_bin, binF_at, e_not, notF_at, notF2_t, notF2_f, e_band, e_bor, e_cmp, cmpF_at, e_cmp2, cmpG_t, cmpG_f, e_list, listF_at, e_tup, tupF_at, e_dict0, e_attr, attrF_at, e_sub, subF_at, e_slice, e_sset, e_call, e_meth, methF_at, e_bi, e_isi, isiF_at, boolF_at, e_comp, es_nil, es_cons, consF_at, consF2_at, ok_bind, bindK_at, bind_pure, bind_lift, ok_pure, ok_lift, List.zip_cons_cons, List.zip_nil_right, List.zip_nil_left, List.foldl_cons, List.foldl_nil, upd_def, Nat.reduceBEq, bif_t, bif_f, if_true, if_false, Bool.false_eq_true, reduceCtorEq, Nat.reduceEqDiff, ne_eq, not_false_eq_true, not_true_eq_false, decide_true, decide_false, Bool.not_true, Bool.not_false]
    refine mid_ok (n := n + 1) A' P hi2 (L.pile k') (k' _ _ oD gD) (fun k hk => ?_) g' (by lia) (by lia) (by lia) (by lia) (by rw [List.length_append]; show ks.length + 1 ≤ n + 1; lia) (by lia) (by lia) e75 e76 rfl e177 e178 rfl rfl rfl rfl (h.kp k')
    by_cases e : k = m
    · subst e; rw [upd_is]; lia
    · rw [upd_ne e]
      rcases List.mem_append.mp hk with hk | hk
      · exact nb k hk
      · exact absurd (List.mem_singleton.mp hk) e
  · have h1' : ¬ (((2 : Nat) : Int) < 2) := by lia
    have h2' : ((2 : Nat) : Int) = 2 := rfl
    have P := I.pre (x := (hs[j]?).getD none) fun k e => getD_mem e
    simp (disch := decide) only [e94, ok_mod (b := 4) (by decide), ha, ok_lt, h1', ok_truthb, s_expr, exprK_at, s_var, varK_at, s_attr, attrK_at, attrK2_at, s_sub, subK_at, subK2_at, subK3_at, s_ite, iteK_t, iteK_f, s_ret, retK_at, s_ret0, s_pass, runK_some, runK_none, forK_at, turnK_none, turnK_some, whlK_t, whlK_f, tt_not, tt_band, tt_bor, tt_bool, tt_loc, tt_cmp, tt_cmp2, tt_call, tt_meth, tt_isi, tt_attr, tt_sub, tt_bin, tnotF_t, tnotF_f, ta_nil, ta_cons, andF_t, andF_f, to_nil, to_cons, orF_t, orF_f, e_none, e_bool, e_int, e_str, e_loc, e_bin, binF_at, e_not, notF_at, notF2_t, notF2_f, e_band, e_bor, e_cmp, cmpF_at, e_cmp2, cmpG_t, cmpG_f, e_list, listF_at, e_tup, tupF_at, e_dict0, e_attr, attrF_at, e_sub, subF_at, e_slice, e_sset, e_call, e_meth, methF_at, e_bi, e_isi, isiF_at, boolF_at, e_comp, es_nil, es_cons, consF_at, consF2_at, ok_bind, bindK_at, bind_pure, bind_lift, ok_pure, ok_lift, List.zip_cons_cons, List.zip_nil_right, List.zip_nil_left, List.foldl_cons, List.foldl_nil, upd_def, Nat.reduceBEq, bif_t, bif_f, if_true, if_false, Bool.false_eq_true, reduceCtorEq, Nat.reduceEqDiff, ne_eq, not_false_eq_true, not_true_eq_false, decide_true, decide_false, Bool.not_true, Bool.not_false]
    refine oks_step rfl ?_
    simp (disch := decide) only [e94, ok_mod (b := 4) (by decide), ha, ok_eqI, h2', ok_truthb, s_expr, exprK_at, s_var, varK_at, s_attr, attrK_at, attrK2_at, s_sub, subK_at, subK2_at, subK3_at, s_ite, iteK_t, iteK_f, s_ret, retK_at, s_ret0, s_pass, runK_some, runK_none, forK_at, turnK_none, turnK_some, whlK_t, whlK_f, tt_not, tt_band, tt_bor, tt_bool, tt_loc, tt_cmp, tt_cmp2, tt_call, tt_meth, tt_isi, tt_attr, tt_sub, tt_bin, tnotF_t, tnotF_f, ta_nil, ta_cons, andF_t, andF_f, to_nil, to_cons, orF_t, orF_f, e_none, e_bool, e_int, e_str, e_loc, e_bin, binF_at, e_not, notF_at, notF2_t, notF2_f, e_band, e_bor, e_cmp, cmpF_at, e_cmp2, cmpG_t, cmpG_f, e_list, listF_at, e_tup, tupF_at, e_dict0, e_attr, attrF_at, e_sub, subF_at, e_slice, e_sset, e_call, e_meth, methF_at, e_bi, e_isi, isiF_at, boolF_at, e_comp, es_nil, es_cons, consF_at, consF2_at, ok_bind, bindK_at, bind_pure, bind_lift, ok_pure, ok_lift, List.zip_cons_cons, List.zip_nil_right, List.zip_nil_left, List.foldl_cons, List.foldl_nil, upd_def, Nat.reduceBEq, bif_t, bif_f, if_true, if_false, Bool.false_eq_true, reduceCtorEq, Nat.reduceEqDiff, ne_eq, not_false_eq_true, not_true_eq_false, decide_true, decide_false, Bool.not_true, Bool.not_false]
    refine oks_step rfl ?_
    simp (disch := decide) only [e76, ok_getList L.hl (Int.natCast_nonneg _) (ov_at (show j < hs.length by lia)), s_expr, exprK_at, s_var, varK_at, s_attr, attrK_at, attrK2_at, s_sub, subK_at, subK2_at, subK3_at, s_ite, iteK_t, iteK_f, s_ret, retK_at, s_ret0, s_pass, runK_some, runK_none, forK_at, turnK_none, turnK_some, whlK_t, whlK_f, tt_not, tt_band, tt_bor, tt_bool, tt_loc, tt_cmp, tt_cmp2, tt_call, tt_meth, tt_isi, tt_attr, tt_sub, tt_bin, tnotF_t, tnotF_f, ta_nil, ta_cons, andF_t, andF_f, to_nil, to_cons, orF_t, orF_f, e_none, e_bool, e_int, e_str, e_loc, e_bin, binF_at, e_not, notF_at, notF2_t, notF2_f, e_band, e_bor, e_cmp, cmpF_at, e_cmp2, cmpG_t, cmpG_f, e_list, listF_at, e_tup, tupF_at, e_dict0, e_attr, attrF_at, e_sub, subF_at, e_slice, e_sset, e_call, e_meth, methF_at, e_bi, e_isi, isiF_at, boolF_at, e_comp, es_nil, es_cons, consF_at, consF2_at, ok_bind, bindK_at, bind_pure, bind_lift, ok_pure, ok_lift, List.zip_cons_cons, List.zip_nil_right, List.zip_nil_left, List.foldl_cons, List.foldl_nil, upd_def, Nat.reduceBEq, bif_t, bif_f, if_true, if_false, Bool.false_eq_true, reduceCtorEq, Nat.reduceEqDiff, ne_eq, not_false_eq_true, not_true_eq_false, decide_true, decide_false, Bool.not_true, Bool.not_false]
    refine then_step rfl ?_
    simp (disch := decide) only [e75, mx_inst A.p A.d, s_expr, exprK_at, s_var, varK_at, s_attr, attrK_at, attrK2_at, s_sub, subK_at, subK2_at, subK3_at, s_ite, iteK_t, iteK_f, s_ret, retK_at, s_ret0, s_pass, runK_some, runK_none, forK_at, turnK_none, turnK_some, whlK_t, whlK_f, tt_not, tt_band, tt_bor, tt_bool, tt_loc, tt_cmp, tt_cmp2, tt_call, tt_meth, tt_isi, tt_attr, tt_sub, tt_bin, tnotF_t, tnotF_f, ta_nil, ta_cons, andF_t, andF_f, to_nil, to_cons, orF_t, orF_f, e_none, e_bool, e_int, e_str, e_loc, e_bin, binF_at, e_not, notF_at, notF2_t, notF2_f, e_band, e_bor, e_cmp, cmpF_at, e_cmp2, cmpG_t, cmpG_f, e_list, listF_at, e_tup, tupF_at, e_dict0, e_attr, attrF_at, e_sub, subF_at, e_slice, e_sset, e_call, e_meth, methF_at, e_bi, e_isi, isiF_at, boolF_at, e_comp, es_nil, es_cons, consF_at, consF2_at, ok_bind, bindK_at, bind_pure, bind_lift, ok_pure, ok_lift, List.zip_cons_cons, List.zip_nil_right, List.zip_nil_left, List.foldl_cons, List.foldl_nil, upd_def, Nat.reduceBEq, bif_t, bif_f, if_true, if_false, Bool.false_eq_true, reduceCtorEq, Nat.reduceEqDiff, ne_eq, not_false_eq_true, not_true_eq_false, decide_true, decide_false, Bool.not_true, Bool.not_false]
    refine hold_ok A I.nd hl hi2 hj2 P.xin (fun k e => P.old hi2 e) (by lia) fun σ' f A' k' hf g' => ?_
    simp (disch := decide) only [oks_nil, then_none, s_expr, exprK_at, s_var, varK_at, s_attr, attrK_at, attrK2_at, s_sub, subK_at, subK2_at, subK3_at, s_ite, iteK_t, iteK_f, s_ret, retK_at, s_ret0, s_pass, runK_some, runK_none, forK_at, turnK_none, turnK_some, whlK_t, whlK_f, tt_not, tt_band, tt_bor, tt_bool, tt_loc, tt_cmp, tt_cmp2, tt_call, tt_meth, tt_isi, tt_attr, tt_sub, tt_bin, tnotF_t, tnotF_f, ta_nil, ta_cons, andF_t, andF_f, to_nil, to_cons, orF_t, orF_f, e_none, e_bool, e_int, e_str, e_loc, e_bin, binF_at, e_not, notF_at, notF2_t, notF2_f, e_band, e_bor, e_cmp, cmpF_at, e_cmp2, cmpG_t, cmpG_f, e_list, listF_at, e_tup, tupF_at, e_dict0, e_attr, attrF_at, e_sub, subF_at, e_slice, e_sset, e_call, e_meth, methF_at, e_bi, e_isi, isiF_at, boolF_at, e_comp, es_nil, es_cons, consF_at, consF2_at, ok_bind, bindK_at, bind_pure, bind_lift, ok_pure, ok_lift, List.zip_cons_cons, List.zip_nil_right, List.zip_nil_left, List.foldl_cons, List.foldl_nil, upd_def, Nat.reduceBEq, bif_t, bif_f, if_true, if_false, Bool.false_eq_true, reduceCtorEq, Nat.reduceEqDiff, ne_eq, not_false_eq_true, not_true_eq_false, decide_true, decide_false, Bool.not_true, Bool.not_false]
    exact mid_ok (n := n + 1) A' P hi2 (L.pile k') (k' _ _ oD gD) nb g' (by lia) (by lia) (by lia) (by lia) (by lia) (by lia) (by lia) e75 e76 e176 e177 e178 rfl rfl rfl rfl (h.kp k')
  · have h1' : ¬ (((3 : Nat) : Int) < 2) := by lia
    have h2' : ¬ (((3 : Nat) : Int) = 2) := by lia
    have P := I.pre (x := none) fun k e => nomatch e
    simp (disch := decide) only [e94, ok_mod (b := 4) (by decide), ha, ok_lt, h1', ok_truthb, s_expr, exprK_at, s_var, varK_at, s_attr, attrK_at, attrK2_at, s_sub, subK_at, subK2_at, subK3_at, s_ite, iteK_t, iteK_f, s_ret, retK_at, s_ret0, s_pass, runK_some, runK_none, forK_at, turnK_none, turnK_some, whlK_t, whlK_f, tt_not, tt_band, tt_bor, tt_bool, tt_loc, tt_cmp, tt_cmp2, tt_call, tt_meth, tt_isi, tt_attr, tt_sub, tt_bin, tnotF_t, tnotF_f, ta_nil, ta_cons, andF_t, andF_f, to_nil, to_cons, orF_t, orF_f, e_none, e_bool, e_int, e_str, e_loc, e_bin, binF_at, e_not, notF_at, notF2_t, notF2_f, e_band, e_bor, e_cmp, cmpF_at, e_cmp2, cmpG_t, cmpG_f, e_list, listF_at, e_tup, tupF_at, e_dict0, e_attr, attrF_at, e_sub, subF_at, e_slice, e_sset, e_call, e_meth, methF_at, e_bi, e_isi, isiF_at, boolF_at, e_comp, es_nil, es_cons, consF_at, consF2_at, ok_bind, bindK_at, bind_pure, bind_lift, ok_pure, ok_lift, List.zip_cons_cons, List.zip_nil_right, List.zip_nil_left, List.foldl_cons, List.foldl_nil, upd_def, Nat.reduceBEq, bif_t, bif_f, if_true, if_false, Bool.false_eq_true, reduceCtorEq, Nat.reduceEqDiff, ne_eq, not_false_eq_true, not_true_eq_false, decide_true, decide_false, Bool.not_true, Bool.not_false]
    refine oks_step rfl ?_
    simp (disch := decide) only [e94, ok_mod (b := 4) (by decide), ha, ok_eqI, h2', ok_truthb, s_expr, exprK_at, s_var, varK_at, s_attr, attrK_at, attrK2_at, s_sub, subK_at, subK2_at, subK3_at, s_ite, iteK_t, iteK_f, s_ret, retK_at, s_ret0, s_pass, runK_some, runK_none, forK_at, turnK_none, turnK_some, whlK_t, whlK_f, tt_not, tt_band, tt_bor, tt_bool, tt_loc, tt_cmp, tt_cmp2, tt_call, tt_meth, tt_isi, tt_attr, tt_sub, tt_bin, tnotF_t, tnotF_f, ta_nil, ta_cons, andF_t, andF_f, to_nil, to_cons, orF_t, orF_f, e_none, e_bool, e_int, e_str, e_loc, e_bin, binF_at, e_not, notF_at, notF2_t, notF2_f, e_band, e_bor, e_cmp, cmpF_at, e_cmp2, cmpG_t, cmpG_f, e_list, listF_at, e_tup, tupF_at, e_dict0, e_attr, attrF_at, e_sub, subF_at, e_slice, e_sset, e_call, e_meth, methF_at, e_bi, e_isi, isiF_at, boolF_at, e_comp, es_nil, es_cons, consF_at, consF2_at, ok_bind, bindK_at, bind_pure, bind_lift, ok_pure, ok_lift, List.zip_cons_cons, List.zip_nil_right, List.zip_nil_left, List.foldl_cons, List.foldl_nil, upd_def, Nat.reduceBEq, bif_t, bif_f, if_true, if_false, Bool.false_eq_true, reduceCtorEq, Nat.reduceEqDiff, ne_eq, not_false_eq_true, not_true_eq_false, decide_true, decide_false, Bool.not_true, Bool.not_false]
    refine oks_step rfl ?_
    simp (disch := decide) only [e75, mx_inst A.p A.d, s_expr, exprK_at, s_var, varK_at, s_attr, attrK_at, attrK2_at, s_sub, subK_at, subK2_at, subK3_at, s_ite, iteK_t, iteK_f, s_ret, retK_at, s_ret0, s_pass, runK_some, runK_none, forK_at, turnK_none, turnK_some, whlK_t, whlK_f, tt_not, tt_band, tt_bor, tt_bool, tt_loc, tt_cmp, tt_cmp2, tt_call, tt_meth, tt_isi, tt_attr, tt_sub, tt_bin, tnotF_t, tnotF_f, ta_nil, ta_cons, andF_t, andF_f, to_nil, to_cons, orF_t, orF_f, e_none, e_bool, e_int, e_str, e_loc, e_bin, binF_at, e_not, notF_at, notF2_t, notF2_f, e_band, e_bor, e_cmp, cmpF_at, e_cmp2, cmpG_t, cmpG_f, e_list, listF_at, e_tup, tupF_at, e_dict0, e_attr, attrF_at, e_sub, subF_at, e_slice, e_sset, e_call, e_meth, methF_at, e_bi, e_isi, isiF_at, boolF_at, e_comp, es_nil, es_cons, consF_at, consF2_at, ok_bind, bindK_at, bind_pure, bind_lift, ok_pure, ok_lift, List.zip_cons_cons, List.zip_nil_right, List.zip_nil_left, List.foldl_cons, List.foldl_nil, upd_def, Nat.reduceBEq, bif_t, bif_f, if_true, if_false, Bool.false_eq_true, reduceCtorEq, Nat.reduceEqDiff, ne_eq, not_false_eq_true, not_true_eq_false, decide_true, decide_false, Bool.not_true, Bool.not_false]
    refine drop_ok A I.nd hl hi2 (fun k e => P.old hi2 e) (by lia) fun σ' f A' k' hf g' => ?_
    simp (disch := decide) only [oks_nil, then_none, s_expr, exprK_at, s_var, varK_at, s_attr, attrK_at, attrK2_at, s_sub, subK_at, subK2_at, subK3_at, s_ite, iteK_t, iteK_f, s_ret, retK_at, s_ret0, s_pass, runK_some, runK_none, forK_at, turnK_none, turnK_some, whlK_t, whlK_f, tt_not, tt_band, tt_bor, tt_bool, tt_loc, tt_cmp, tt_cmp2, tt_call, tt_meth, tt_isi, tt_attr, tt_sub, tt_bin, tnotF_t, tnotF_f, ta_nil, ta_cons, andF_t, andF_f, to_nil, to_cons, orF_t, orF_f, e_none, e_bool, e_int, e_str, e_loc, e_bin, binF_at, e_not, notF_at, notF2_t, notF2_f, e_band, e_bor, e_cmp, cmpF_at, e_cmp2, cmpG_t, cmpG_f, e_list, listF_at, e_tup, tupF_at, e_dict0, e_attr, attrF_at, e_sub, subF_at, e_slice, e_sset, e_call, e_meth, methF_at, e_bi, e_isi, isiF_at, boolF_at, e_comp, es_nil, es_cons, consF_at, consF2_at, ok_bind, bindK_at, bind_pure, bind_lift, ok_pure, ok_lift, List.zip_cons_cons, List.zip_nil_right, List.zip_nil_left, List.foldl_cons, List.foldl_nil, upd_def, Nat.reduceBEq, bif_t, bif_f, if_true, if_false, Bool.false_eq_true, reduceCtorEq, Nat.reduceEqDiff, ne_eq, not_false_eq_true, not_true_eq_false, decide_true, decide_false, Bool.not_true, Bool.not_false]
    exact mid_ok (n := n + 1) (x := none) A' P hi2 (L.pile k') (k' _ _ oD gD) nb g' (by lia) (by lia) (by lia) (by lia) (by lia) (by lia) (by lia) e75 e76 e176 e177 e178 rfl rfl rfl rfl (h.kp k')
end
end Mine.L02

set_option autoImplicit false
set_option linter.unusedSimpArgs false
set_option linter.unusedVariables false
namespace Mine.L02
open Mine
open PySem (Str PyData)

noncomputable def n8 : List V := [.none, .none, .none, .none, .none, .none, .none, .none]
noncomputable def H1 (xs : List V) : H := [.list xs, at5 0, .inst 24 1, .rng 0 8 1, .list n8, .dict [], .dict [], .dict [], .rng 0 8 1, .list n8, .list [], .list []]
noncomputable def L0 : Loc := Loc.upd (Loc.upd (Loc.upd (Loc.upd (Loc.upd (Loc.upd (fun _ => none) 70 (.ref 0)) 75 (.ref 2)) 76 (.ref 9)) 176 (.int 0)) 177 (.ref 10)) 178 (.ref 11)
theorem l70 : L0 70 = some (.ref 0) := rfl
theorem ok_slice {σ : H} {a : Nat} {xs : List V} {Q : V → H → Prop} (h : σ.get a = some (.list xs)) : Ok (getSlice (.ref a) .none (.int 30)) σ Q = Q (.ref σ.length) (σ.push (.list (cut xs 0 (min 30 xs.length)))) := ok_some (by
  unfold getSlice; simp only [h]; rfl)
theorem cut_at {ns : List Int} {u j : Nat} {y : V} (h : (cut (ns.map V.int) 0 u)[j]? = some y) : ∃ c, y = .int c := by
  have := List.mem_of_mem_take (List.mem_of_mem_drop (List.mem_of_getElem? h))
  obtain ⟨c, _, rfl⟩ := List.mem_map.mp this
  exact ⟨c, rfl⟩
theorem cut_len {xs : List V} : (cut xs 0 (min 30 xs.length)).length ≤ 30 := by
  unfold cut
  rw [List.length_drop, List.length_take]
  lia
noncomputable def hs8 : List (Option Nat) := [none, none, none, none, none, none, none, none]
theorem inv0 : Inv hs8 [] (fun _ => 0) [] 0 :=
  ⟨rfl, List.nodup_nil, fun k => ⟨fun h => (nomatch h), fun h => by simp [hs8] at h⟩, fun k h => (nomatch h), fun k h => (nomatch h), List.nodup_nil⟩
noncomputable def tgF (σ : H) (loc : Loc) : V → Loc
  | .ref t => match σ.get t with
    | some (.tup [a, b]) => (loc.upd 81 a).upd 73 b
    | _ => loc
  | _ => loc
theorem last_ok {σ : H} {hs : List (Option Nat)} {D : Nat} {ts : List Nat} {lc : Loc} {Q : Option V → Loc → H → Prop} (L : Lw σ hs D ts) (e178 : lc 178 = some (.ref 11)) (h : ∀ l' σ', Q (some (.bool true)) l' σ') : OkS (exs prog (run prog 1000 20) 1000 f_law_7 lc σ) Q := by
  refine oks_step rfl ?_
  simp (disch := decide) only [e178, s_expr, exprK_at, s_var, varK_at, s_attr, attrK_at, attrK2_at, s_sub, subK_at, subK2_at, subK3_at, s_ite, iteK_t, iteK_f, s_ret, retK_at, s_ret0, s_pass, runK_some, runK_none, forK_at, turnK_none, turnK_some, whlK_t, whlK_f, tt_not, tt_band, tt_bor, tt_bool, tt_loc, tt_cmp, tt_cmp2, tt_call, tt_meth, tt_isi, tt_attr, tt_sub, tt_bin, tnotF_t, tnotF_f, ta_nil, ta_cons, andF_t, andF_f, to_nil, to_cons, orF_t, orF_f, e_none, e_bool, e_int, e_str, e_loc, e_bin, binF_at, e_not, notF_at, notF2_t, notF2_f, e_band, e_bor, e_cmp, cmpF_at, e_cmp2, cmpG_t, cmpG_f, e_list, listF_at, e_tup, tupF_at, e_dict0, e_attr, attrF_at, e_sub, subF_at, e_slice, e_sset, e_call, e_meth, methF_at, e_bi, e_isi, isiF_at, boolF_at, e_comp, es_nil, es_cons, consF_at, consF2_at, ok_bind, bindK_at, bind_pure, bind_lift, ok_pure, ok_lift, List.zip_cons_cons, List.zip_nil_right, List.zip_nil_left, List.foldl_cons, List.foldl_nil, upd_def, Nat.reduceBEq, bif_t, bif_f, if_true, if_false, Bool.false_eq_true, reduceCtorEq, Nat.reduceEqDiff, ne_eq, not_false_eq_true, not_true_eq_false, decide_true, decide_false, Bool.not_true, Bool.not_false]
  have none' : ((ts.map V.ref).filter fun _ => false) = [] := List.filter_eq_nil_iff.mpr fun _ _ => Bool.false_ne_true
  have at' : ∀ y ∈ ts.map V.ref, ∃ t f e l, y = .ref t ∧ tgF σ lc y = (lc.upd 81 (.ref f)).upd 73 (.ref e) ∧ σ.get t = some (.tup [.ref f, .ref e]) ∧ σ.get f = some (.list (nV l)) ∧ σ.get e = some (.list (nV l)) ∧ l.length ≤ 1 := fun y hy => by
    obtain ⟨t, ht, rfl⟩ := List.mem_map.mp hy
    obtain ⟨_, _, f, e, l, _, _, _, _, h7, h8, h9, h10⟩ := L.kx t ht
    exact ⟨t, f, e, l, rfl, by unfold tgF; simp only [h7], h7, h8, h9, h10⟩
  refine c_grow (P := prog) (C := run prog 1000 20) (fun _ => false) (fun y => y) (tgF σ lc) (it_list L.kp) (fun y hy τ x => ?_) (fun y hy τ x => ?_) (fun y hy hp => nomatch hp) (by rw [none']; exact Nat.zero_le _) fun τ x => ?_
  · obtain ⟨t, f, e, l, rfl, h2, h3, _⟩ := at' y hy
    rw [h2]
    unfold bindTg
    dsimp only
    rw [x _ _ h3]
    rfl
  · obtain ⟨t, f, e, l, rfl, h2, h3, h4, h5, h6⟩ := at' y hy
    rw [h2]
    simp (disch := decide) only [oks_cons, oks_nil, then_none, then_some, s_expr, exprK_at, s_var, varK_at, s_attr, attrK_at, attrK2_at, s_sub, subK_at, subK2_at, subK3_at, s_ite, iteK_t, iteK_f, s_ret, retK_at, s_ret0, s_pass, runK_some, runK_none, forK_at, turnK_none, turnK_some, whlK_t, whlK_f, tt_not, tt_band, tt_bor, tt_bool, tt_loc, tt_cmp, tt_cmp2, tt_call, tt_meth, tt_isi, tt_attr, tt_sub, tt_bin, tnotF_t, tnotF_f, ta_nil, ta_cons, andF_t, andF_f, to_nil, to_cons, orF_t, orF_f, e_none, e_bool, e_int, e_str, e_loc, e_bin, binF_at, e_not, notF_at, notF2_t, notF2_f, e_band, e_bor, e_cmp, cmpF_at, e_cmp2, cmpG_t, cmpG_f, e_list, listF_at, e_tup, tupF_at, e_dict0, e_attr, attrF_at, e_sub, subF_at, e_slice, e_sset, e_call, e_meth, methF_at, e_bi, e_isi, isiF_at, boolF_at, e_comp, es_nil, es_cons, consF_at, consF2_at, ok_bind, bindK_at, bind_pure, bind_lift, ok_pure, ok_lift, List.zip_cons_cons, List.zip_nil_right, List.zip_nil_left, List.foldl_cons, List.foldl_nil, upd_def, Nat.reduceBEq, bif_t, bif_f, if_true, if_false, Bool.false_eq_true, reduceCtorEq, Nat.reduceEqDiff, ne_eq, not_false_eq_true, not_true_eq_false, decide_true, decide_false, Bool.not_true, Bool.not_false]
    refine numbers_ok hL (x _ _ h4) (x _ _ h5) intss (by rw [ints_len]; lia) ?_
    simp (disch := decide) only [ok_truthb, oks_cons, oks_nil, then_none, then_some, s_expr, exprK_at, s_var, varK_at, s_attr, attrK_at, attrK2_at, s_sub, subK_at, subK2_at, subK3_at, s_ite, iteK_t, iteK_f, s_ret, retK_at, s_ret0, s_pass, runK_some, runK_none, forK_at, turnK_none, turnK_some, whlK_t, whlK_f, tt_not, tt_band, tt_bor, tt_bool, tt_loc, tt_cmp, tt_cmp2, tt_call, tt_meth, tt_isi, tt_attr, tt_sub, tt_bin, tnotF_t, tnotF_f, ta_nil, ta_cons, andF_t, andF_f, to_nil, to_cons, orF_t, orF_f, e_none, e_bool, e_int, e_str, e_loc, e_bin, binF_at, e_not, notF_at, notF2_t, notF2_f, e_band, e_bor, e_cmp, cmpF_at, e_cmp2, cmpG_t, cmpG_f, e_list, listF_at, e_tup, tupF_at, e_dict0, e_attr, attrF_at, e_sub, subF_at, e_slice, e_sset, e_call, e_meth, methF_at, e_bi, e_isi, isiF_at, boolF_at, e_comp, es_nil, es_cons, consF_at, consF2_at, ok_bind, bindK_at, bind_pure, bind_lift, ok_pure, ok_lift, List.zip_cons_cons, List.zip_nil_right, List.zip_nil_left, List.foldl_cons, List.foldl_nil, upd_def, Nat.reduceBEq, bif_t, bif_f, if_true, if_false, Bool.false_eq_true, reduceCtorEq, Nat.reduceEqDiff, ne_eq, not_false_eq_true, not_true_eq_false, decide_true, decide_false, Bool.not_true, Bool.not_false]
    exact ⟨trivial, (Ext.refl _).push _⟩
  · rw [none']
    rw [List.map_nil]
    have g1 : (τ.push (.list [])).get τ.length = some (.list []) := get_push_eq
    generalize τ.push (.list []) = τ1 at *
    have g2 : (τ1.push (.list [])).get τ.length = some (.list []) := get_keep g1
    have g3 : (τ1.push (.list [])).get τ1.length = some (.list []) := get_push_eq
    simp (disch := decide) only [ok_alloc (o := .list []) rfl, s_expr, exprK_at, s_var, varK_at, s_attr, attrK_at, attrK2_at, s_sub, subK_at, subK2_at, subK3_at, s_ite, iteK_t, iteK_f, s_ret, retK_at, s_ret0, s_pass, runK_some, runK_none, forK_at, turnK_none, turnK_some, whlK_t, whlK_f, tt_not, tt_band, tt_bor, tt_bool, tt_loc, tt_cmp, tt_cmp2, tt_call, tt_meth, tt_isi, tt_attr, tt_sub, tt_bin, tnotF_t, tnotF_f, ta_nil, ta_cons, andF_t, andF_f, to_nil, to_cons, orF_t, orF_f, e_none, e_bool, e_int, e_str, e_loc, e_bin, binF_at, e_not, notF_at, notF2_t, notF2_f, e_band, e_bor, e_cmp, cmpF_at, e_cmp2, cmpG_t, cmpG_f, e_list, listF_at, e_tup, tupF_at, e_dict0, e_attr, attrF_at, e_sub, subF_at, e_slice, e_sset, e_call, e_meth, methF_at, e_bi, e_isi, isiF_at, boolF_at, e_comp, es_nil, es_cons, consF_at, consF2_at, ok_bind, bindK_at, bind_pure, bind_lift, ok_pure, ok_lift, List.zip_cons_cons, List.zip_nil_right, List.zip_nil_left, List.foldl_cons, List.foldl_nil, upd_def, Nat.reduceBEq, bif_t, bif_f, if_true, if_false, Bool.false_eq_true, reduceCtorEq, Nat.reduceEqDiff, ne_eq, not_false_eq_true, not_true_eq_false, decide_true, decide_false, Bool.not_true, Bool.not_false]
    generalize τ1.push (.list []) = τ2 at *
    have e : cmpop prog .Eq (.ref τ.length) (.ref τ1.length) τ2 = some (.ok (.bool true), τ2) := by
      have d1 : dataOf τ2 5 (.ref τ.length) = some (.list []) := by unfold dataOf; simp only [g2]; rfl
      have d2 : dataOf τ2 5 (.ref τ1.length) = some (.list []) := by unfold dataOf; simp only [g3]; rfl
      unfold cmpop deq
      dsimp only
      rw [d1, d2]
      rfl
    rw [ok_some e]
    exact h _ _

theorem ok_true {x : X V} {σ : H} (h : Ok x σ (fun v _ => v = .bool true)) : ∃ σ', x σ = some (.ok (.bool true), σ') := by
  obtain ⟨v, σ', h, rfl⟩ := ok_iff.mp h
  exact ⟨σ', h⟩
noncomputable def app : Sts → Sts → Sts
  | .nil, r => r
  | .cons s ss, r => .cons s (app ss r)
  | .any, _ => .any
theorem exs_app {P : Prog} {C : Calls} {F : Nat} {rest : Sts} {l' : Loc} {σ' : H} : ∀ {pre : Sts} {l : Loc} {σ : H}, exs P C F pre l σ = some (.ok none, l', σ') → exs P C F (app pre rest) l σ = exs P C F rest l' σ'
  | .nil, l, σ, h => by cases h; rfl
  | .any, l, σ, h => by cases h
  | .cons s ss, l, σ, h => by
    have h : (match ex P C F s l σ with | some (.ok none, l₁, h₁) => exs P C F ss l₁ h₁ | r => r) = some (.ok none, l', σ') := h
    show (match ex P C F s l σ with | some (.ok none, l₁, h₁) => exs P C F (app ss rest) l₁ h₁ | r => r) = _
    cases e : ex P C F s l σ with
    | none => rw [e] at h; cases h
    | some p =>
      obtain ⟨rr, l₁, σ₁⟩ := p
      rw [e] at h
      cases rr with
      | err k => cases h
      | ok o =>
        cases o with
        | none => exact exs_app h
        | some v => cases h
noncomputable def pre : Sts := .cons (.asg (.var 75) (.new 24)) (.cons (.asg (.var 76) (.comp .cnone [79] false (.bi .range (.cons (.cint 8) .nil)) .nil)) (.cons (.asg (.var 176) (.cint 0)) (.cons (.asg (.var 177) (.list .nil)) (.cons (.asg (.var 178) (.list .nil)) .nil))))
theorem pre_eq : f_law.body = app pre f_law_6 := rfl
theorem pre_run {xs : List V} : exs prog (run prog 1000 20) 1000 pre ((f_law.params.zip [V.ref 0]).foldl (fun l p => Loc.upd l p.1 p.2) (fun _ => none)) [.list xs] = some (.ok none, L0, H1 xs) := by kernel_rfl
theorem start {xs ys : List V} : Pl ((H1 xs).push (.list ys)) hs8 [] (fun _ => 0) [] (fun _ => 0) [] 0 ∧ Lw ((H1 xs).push (.list ys)) hs8 10 [] ∧ ((H1 xs).push (.list ys)).get 12 = some (.list ys) ∧ ((H1 xs).push (.list ys)).get 10 = some (.list (nV [])) ∧ (H1 xs).get 0 = some (.list xs) ∧ (H1 xs).length = 12 :=
  ⟨⟨by kernel_rfl, by kernel_rfl, by kernel_rfl, by kernel_rfl, by kernel_rfl, by kernel_rfl, fun k h => (nomatch h), (by rw [show ((H1 xs).push (.list ys)).length = 13 by kernel_rfl]; decide), by decide⟩, ⟨by kernel_rfl, by kernel_rfl, fun t h => (nomatch h), .inl rfl⟩, by kernel_rfl, by kernel_rfl, by kernel_rfl, by kernel_rfl⟩
inductive LI (τ : H) (j : Nat) (lc : Loc) (σj : H) : Prop
  | mk (hs : List (Option Nat)) (ks : List Nat) (b w : Nat → Nat) (q : List Nat) (m D : Nat) (ts : List Nat) (e12 : σj.get 12 = τ.get 12) (A : Pl σj hs ks b ks w q m) (I : Inv hs ks w q m) (L : Lw σj hs D ts) (gD : σj.get D = some (.list (nV q))) (nb : ∀ k, k ∈ ks → b k ≠ D)
      (e75 : lc 75 = some (.ref 2)) (e76 : lc 76 = some (.ref 9)) (e176 : lc 176 = some (.int ((m : Nat) : Int))) (e177 : lc 177 = some (.ref D)) (e178 : lc 178 = some (.ref 11)) (h1 : m ≤ j) (h2 : ks.length ≤ j) (h3 : q.length ≤ j) (h4 : ts.length ≤ j) : LI τ j lc σj
theorem turn_li {τ σj : H} {j : Nat} {lc : Loc} {c : Int} {ys : List V} (hj : j < 40) (g12 : τ.get 12 = some (.list ys)) (hI : LI τ j lc σj) : OkS (exs prog (run prog 1000 20) 1000 f_law_6f_1 (lc.upd 94 (.int c)) σj) (fun r l' s' => r = none ∧ still (.ref 12) τ s' = true ∧ LI τ (j + 1) l' s') := by
  cases hI with
  | mk hs ks b w q m D ts e12 A I L gD nb e75 e76 e176 e177 e178 h1 h2 h3 h4 =>
    refine turn_ok A I L gD nb (n := j) hj h1 h2 h3 h4 e75 e76 e176 e177 e178 rfl fun l' σ' hs' ks' b' w' q' m' D' ts' a1 a2 a3 a4 a5 a6 a7 a8 a9 a10 a11 a12 a13 a14 a15 => ?_
    have g' : σ'.get 12 = τ.get 12 := by rw [g12] at e12 ⊢; exact a15 _ e12
    exact ⟨rfl, still_get g', .mk hs' ks' b' w' q' m' D' ts' g' a1 a2 a3 a4 a5 a6 a7 a8 a9 a10 a11 a12 a13 a14⟩
theorem plainH (ns : List Int) (x : X V) (σ₀ : H) (hx : x = run prog 1000 21 false 74 [.ref 0]) (hσ : σ₀ = [.list (ns.map .int)]) : ∃ σ', x σ₀ = some (.ok (.bool true), σ') := by
  refine ok_true ?_
  rw [hx, hσ]
  clear hx hσ
  rw [ok_run (fd := f_law) rfl rfl, pre_eq, exs_app pre_run]
  have hst := fun ys => start (xs := ns.map V.int) (ys := ys)
  generalize H1 (ns.map V.int) = τ1 at *
  have h0 := (hst []).2.2.2.2.1
  have n12 := (hst []).2.2.2.2.2
  refine oks_step rfl ?_
  rw [s_for]
  simp (disch := decide) only [l70, slF_at, slF2_at, ok_slice h0, s_expr, exprK_at, s_var, varK_at, s_attr, attrK_at, attrK2_at, s_sub, subK_at, subK2_at, subK3_at, s_ite, iteK_t, iteK_f, s_ret, retK_at, s_ret0, s_pass, runK_some, runK_none, forK_at, turnK_none, turnK_some, whlK_t, whlK_f, tt_not, tt_band, tt_bor, tt_bool, tt_loc, tt_cmp, tt_cmp2, tt_call, tt_meth, tt_isi, tt_attr, tt_sub, tt_bin, tnotF_t, tnotF_f, ta_nil, ta_cons, andF_t, andF_f, to_nil, to_cons, orF_t, orF_f, e_none, e_bool, e_int, e_str, e_loc, e_bin, binF_at, e_not, notF_at, notF2_t, notF2_f, e_band, e_bor, e_cmp, cmpF_at, e_cmp2, cmpG_t, cmpG_f, e_list, listF_at, e_tup, tupF_at, e_dict0, e_attr, attrF_at, e_sub, subF_at, e_slice, e_sset, e_call, e_meth, methF_at, e_bi, e_isi, isiF_at, boolF_at, e_comp, es_nil, es_cons, consF_at, consF2_at, ok_bind, bindK_at, bind_pure, bind_lift, ok_pure, ok_lift, List.zip_cons_cons, List.zip_nil_right, List.zip_nil_left, List.foldl_cons, List.foldl_nil, upd_def, Nat.reduceBEq, bif_t, bif_f, if_true, if_false, Bool.false_eq_true, reduceCtorEq, Nat.reduceEqDiff, ne_eq, not_false_eq_true, not_true_eq_false, decide_true, decide_false, Bool.not_true, Bool.not_false]
  have hcl := cut_len (xs := ns.map V.int)
  have hca : ∀ {j : Nat} {y : V}, (cut (ns.map V.int) 0 (min 30 (ns.map V.int).length))[j]? = some y → ∃ c, y = .int c := fun h => cut_at h
  generalize cut (ns.map V.int) 0 (min 30 (ns.map V.int).length) = ys at *
  obtain ⟨A0, W0, g12, g10, _, _⟩ := hst ys
  rw [n12]
  generalize τ1.push (.list ys) = τ at *
  refine ⟨_, it_list g12, f_inv (LI τ) (.mk hs8 [] (fun _ => 0) (fun _ => 0) [] 0 10 [] rfl A0 inv0 W0 g10 (fun k h => (nomatch h)) rfl rfl rfl rfl rfl (Nat.le_refl _) (Nat.le_refl _) (Nat.le_refl _) (Nat.le_refl _)) ?_ ?_⟩
  · intro j lc σj y hy hI
    obtain ⟨c, rfl⟩ := hca hy
    have hjl := (List.getElem?_eq_some_iff.mp hy).1
    exact turn_li (by lia) g12 hI
  · intro lc σj hI
    cases hI with
    | mk hs ks b w q m D ts e12 A I L gD nb e75 e76 e176 e177 e178 h1 h2 h3 h4 => exact last_ok L e178 fun l' σ' => rfl
theorem plain (ns : List Int) (hns : ns.length ≤ 63) : ∃ σ', run prog 1000 21 false 74 [.ref 0] [.list (ns.map .int)] = some (.ok (.bool true), σ') := plainH ns _ _ rfl rfl
end Mine.L02

set_option autoImplicit false
set_option maxRecDepth 100000
namespace Mine.K02
open PySem PySem.W
noncomputable def topS (i : Nat) : Stmt := (PySem.Challenge.pw_uf040002_02.main.body)[i]?.getD (.Pass ⟨0, 0, 0, 0⟩)
noncomputable def meS (i j : Nat) : Stmt := match topS i with
  | .ClassDef _ _ _ b _ _ _ _ _ _ _ => b[j]?.getD (.Pass ⟨0, 0, 0, 0⟩)
  | _ => .Pass ⟨0, 0, 0, 0⟩
noncomputable def argsOf : Stmt → Arguments
  | .FunctionDef _ a _ _ _ _ _ _ _ _ => a
  | _ => ⟨[], [], .none, [], [], .none, []⟩
noncomputable def bodyOf : Stmt → List Stmt
  | .FunctionDef _ _ b _ _ _ _ _ _ _ => b
  | _ => []
noncomputable def scopeOf : Stmt → Scope
  | .FunctionDef _ _ _ _ _ _ s _ _ _ => s
  | _ => ⟨.function, [], false, false, []⟩
noncomputable def g0 (P : Params) : Frag := [(2, { cls := Value.none, data := Data.dict #[] }), (3, { cls := Value.type "dict", data := Data.dict #[{ hash := PyData.keyHash P (Str.ofString "__name__"), key := Value.str (Str.ofString "__name__") 165, val := Value.str (Str.ofString "law_uf040002_02") 489 }, { hash := PyData.keyHash P (Str.ofString "__doc__"), key := Value.str (Str.ofString "__doc__") 166, val := Value.none }, { hash := PyData.keyHash P (Str.ofString "__package__"), key := Value.str (Str.ofString "__package__") 167, val := Value.none }, { hash := PyData.keyHash P (Str.ofString "__loader__"), key := Value.str (Str.ofString "__loader__") 168, val := Value.builtin "__main__.__loader__#opaque" }, { hash := PyData.keyHash P (Str.ofString "__spec__"), key := Value.str (Str.ofString "__spec__") 169, val := Value.none }, { hash := PyData.keyHash P (Str.ofString "__annotations__"), key := Value.str (Str.ofString "__annotations__") 170, val := Value.ref 6 }, { hash := PyData.keyHash P (Str.ofString "__builtins__"), key := Value.str (Str.ofString "__builtins__") 171, val := Value.ref 4 }, { hash := PyData.keyHash P (Str.ofString "__file__"), key := Value.str (Str.ofString "__file__") 173, val := Value.str (Str.ofString "/claim/cut.py") 172 }, { hash := PyData.keyHash P (Str.ofString "__cached__"), key := Value.str (Str.ofString "__cached__") 174, val := Value.none }, { hash := PyData.keyHash P (Str.ofString "_wall"), key := Value.str (Str.ofString "_wall") 193, val := Value.ref 21 }, { hash := PyData.keyHash P (Str.ofString "PileError"), key := Value.str (Str.ofString "PileError") 213, val := Value.ref 31 }, { hash := PyData.keyHash P (Str.ofString "NoHand"), key := Value.str (Str.ofString "NoHand") 229, val := Value.ref 44 }, { hash := PyData.keyHash P (Str.ofString "NoSize"), key := Value.str (Str.ofString "NoSize") 245, val := Value.ref 56 }, { hash := PyData.keyHash P (Str.ofString "Full"), key := Value.str (Str.ofString "Full") 261, val := Value.ref 68 }, { hash := PyData.keyHash P (Str.ofString "NoBox"), key := Value.str (Str.ofString "NoBox") 277, val := Value.ref 80 }, { hash := PyData.keyHash P (Str.ofString "HANDS"), key := Value.str (Str.ofString "HANDS") 281, val := Value.int 8 280 }, { hash := PyData.keyHash P (Str.ofString "MOST_SLOTS"), key := Value.str (Str.ofString "MOST_SLOTS") 283, val := Value.int 6 282 }, { hash := PyData.keyHash P (Str.ofString "MOST_ALIVE"), key := Value.str (Str.ofString "MOST_ALIVE") 285, val := Value.int 60 284 }, { hash := PyData.keyHash P (Str.ofString "Pile"), key := Value.str (Str.ofString "Pile") 488, val := Value.ref 235 }, { hash := PyData.keyHash P (Str.ofString "_law_whole"), key := Value.str (Str.ofString "_law_whole") 497, val := Value.ref 246 }, { hash := PyData.keyHash P (Str.ofString "_law_cell_at"), key := Value.str (Str.ofString "_law_cell_at") 505, val := Value.ref 253 }, { hash := PyData.keyHash P (Str.ofString "_law_numbers"), key := Value.str (Str.ofString "_law_numbers") 514, val := Value.ref 260 }, { hash := PyData.keyHash P (Str.ofString "_law_held_by"), key := Value.str (Str.ofString "_law_held_by") 520, val := Value.ref 265 }, { hash := PyData.keyHash P (Str.ofString "law"), key := Value.str (Str.ofString "law") 526, val := Value.ref 270 }] 24 }), (15, { cls := Value.type "tuple", data := Data.seq #[] }), (17, { cls := Value.type "tuple", data := Data.seq #[Value.str (Str.ofString "k") 190] }), (18, { cls := Value.type "tuple", data := Data.seq #[] }), (20, { cls := Value.type "code", data := Data.fields #[Value.str (Str.ofString "_wall") 187, Value.str (Str.ofString "_wall") 188, Value.str (Str.ofString "/claim/cut.py") 189, Value.int 1 0, Value.int 1 0, Value.int 0 0, Value.int 0 0, Value.int 3 0, Value.ref 15, Value.bool true, Value.int 181 0, Value.ref 16, Value.none, Value.ref 17, Value.ref 18, Value.ref 19, Value.int 191 0, Value.int 1 0, Value.str (Str.ofString "/claim/cut.py") 192] }), (21, { cls := Value.type "function", data := Data.func { name := Str.ofString "_wall", qualname := Str.ofString "_wall", params := argsOf (topS 0), body := FuncBody.stmts (bodyOf (topS 0)), scope := scopeOf (topS 0), globals := 3, closure := [], defaults := Value.none, kwdefaults := Value.none, pyModule := Value.str (Str.ofString "__main__") 164, code := Value.ref 20 } }), (22, { cls := Value.type "tuple", data := Data.seq #[Value.type "ValueError"] }), (29, { cls := Value.type "tuple", data := Data.seq #[] }), (30, { cls := Value.type "dict", data := Data.dict #[{ hash := PyData.keyHash P (Str.ofString "__module__"), key := Value.str (Str.ofString "__module__") 203, val := Value.str (Str.ofString "boxpile.errors") 194 }, { hash := PyData.keyHash P (Str.ofString "__firstlineno__"), key := Value.str (Str.ofString "__firstlineno__") 207, val := Value.int 5 206 }, { hash := PyData.keyHash P (Str.ofString "__static_attributes__"), key := Value.str (Str.ofString "__static_attributes__") 208, val := Value.ref 29 }, { hash := PyData.keyHash P (Str.ofString "__weakref__"), key := Value.str (Str.ofString "__weakref__") 210, val := Value.ref 32 }, { hash := PyData.keyHash P (Str.ofString "__doc__"), key := Value.str (Str.ofString "__doc__") 211, val := Value.none }] 3 }), (31, { cls := Value.type "type", data := Data.cls { name := Str.ofString "PileError", bases := [Value.type "ValueError"], mro := [Value.ref 31, Value.type "ValueError", Value.type "Exception", Value.type "BaseException", Value.type "object"], ns := 30, qualname := Str.ofString "PileError", subclasses := [Value.ref 44, Value.ref 56, Value.ref 68, Value.ref 80] }, slots := #[.some (Value.ref 22), .none, .some (Value.str (Str.ofString "PileError") 196), .some (Value.str (Str.ofString "PileError") 204), .some (Value.builtin "ValueError.__new__"), .some (Value.bool true)] }), (32, { cls := Value.type "getset_descriptor", data := Data.fields #[Value.str (Str.ofString "__weakref__") 209, Value.ref 31, Value.builtin "ExceptionGroup.__weakref__", Value.none] })]
noncomputable def g1 (P : Params) : Frag := [(35, { cls := Value.type "tuple", data := Data.seq #[Value.ref 31] }), (42, { cls := Value.type "tuple", data := Data.seq #[] }), (43, { cls := Value.type "dict", data := Data.dict #[{ hash := PyData.keyHash P (Str.ofString "__module__"), key := Value.str (Str.ofString "__module__") 221, val := Value.str (Str.ofString "boxpile.errors") 194 }, { hash := PyData.keyHash P (Str.ofString "__firstlineno__"), key := Value.str (Str.ofString "__firstlineno__") 225, val := Value.int 7 224 }, { hash := PyData.keyHash P (Str.ofString "__static_attributes__"), key := Value.str (Str.ofString "__static_attributes__") 226, val := Value.ref 42 }, { hash := PyData.keyHash P (Str.ofString "__doc__"), key := Value.str (Str.ofString "__doc__") 227, val := Value.none }] 2 }), (44, { cls := Value.type "type", data := Data.cls { name := Str.ofString "NoHand", bases := [Value.ref 31], mro := [Value.ref 44, Value.ref 31, Value.type "ValueError", Value.type "Exception", Value.type "BaseException", Value.type "object"], ns := 43, qualname := Str.ofString "NoHand" }, slots := #[.some (Value.ref 35), .none, .some (Value.str (Str.ofString "NoHand") 214), .some (Value.str (Str.ofString "NoHand") 222), .some (Value.builtin "ValueError.__new__"), .some (Value.bool true)] }), (47, { cls := Value.type "tuple", data := Data.seq #[Value.ref 31] }), (54, { cls := Value.type "tuple", data := Data.seq #[] }), (55, { cls := Value.type "dict", data := Data.dict #[{ hash := PyData.keyHash P (Str.ofString "__module__"), key := Value.str (Str.ofString "__module__") 237, val := Value.str (Str.ofString "boxpile.errors") 194 }, { hash := PyData.keyHash P (Str.ofString "__firstlineno__"), key := Value.str (Str.ofString "__firstlineno__") 241, val := Value.int 9 240 }, { hash := PyData.keyHash P (Str.ofString "__static_attributes__"), key := Value.str (Str.ofString "__static_attributes__") 242, val := Value.ref 54 }, { hash := PyData.keyHash P (Str.ofString "__doc__"), key := Value.str (Str.ofString "__doc__") 243, val := Value.none }] 2 }), (56, { cls := Value.type "type", data := Data.cls { name := Str.ofString "NoSize", bases := [Value.ref 31], mro := [Value.ref 56, Value.ref 31, Value.type "ValueError", Value.type "Exception", Value.type "BaseException", Value.type "object"], ns := 55, qualname := Str.ofString "NoSize" }, slots := #[.some (Value.ref 47), .none, .some (Value.str (Str.ofString "NoSize") 230), .some (Value.str (Str.ofString "NoSize") 238), .some (Value.builtin "ValueError.__new__"), .some (Value.bool true)] }), (59, { cls := Value.type "tuple", data := Data.seq #[Value.ref 31] }), (66, { cls := Value.type "tuple", data := Data.seq #[] }), (67, { cls := Value.type "dict", data := Data.dict #[{ hash := PyData.keyHash P (Str.ofString "__module__"), key := Value.str (Str.ofString "__module__") 253, val := Value.str (Str.ofString "boxpile.errors") 194 }, { hash := PyData.keyHash P (Str.ofString "__firstlineno__"), key := Value.str (Str.ofString "__firstlineno__") 257, val := Value.int 11 256 }, { hash := PyData.keyHash P (Str.ofString "__static_attributes__"), key := Value.str (Str.ofString "__static_attributes__") 258, val := Value.ref 66 }, { hash := PyData.keyHash P (Str.ofString "__doc__"), key := Value.str (Str.ofString "__doc__") 259, val := Value.none }] 2 }), (68, { cls := Value.type "type", data := Data.cls { name := Str.ofString "Full", bases := [Value.ref 31], mro := [Value.ref 68, Value.ref 31, Value.type "ValueError", Value.type "Exception", Value.type "BaseException", Value.type "object"], ns := 67, qualname := Str.ofString "Full" }, slots := #[.some (Value.ref 59), .none, .some (Value.str (Str.ofString "Full") 246), .some (Value.str (Str.ofString "Full") 254), .some (Value.builtin "ValueError.__new__"), .some (Value.bool true)] })]
noncomputable def g2 (P : Params) : Frag := [(71, { cls := Value.type "tuple", data := Data.seq #[Value.ref 31] }), (78, { cls := Value.type "tuple", data := Data.seq #[] }), (79, { cls := Value.type "dict", data := Data.dict #[{ hash := PyData.keyHash P (Str.ofString "__module__"), key := Value.str (Str.ofString "__module__") 269, val := Value.str (Str.ofString "boxpile.errors") 194 }, { hash := PyData.keyHash P (Str.ofString "__firstlineno__"), key := Value.str (Str.ofString "__firstlineno__") 273, val := Value.int 13 272 }, { hash := PyData.keyHash P (Str.ofString "__static_attributes__"), key := Value.str (Str.ofString "__static_attributes__") 274, val := Value.ref 78 }, { hash := PyData.keyHash P (Str.ofString "__doc__"), key := Value.str (Str.ofString "__doc__") 275, val := Value.none }] 2 }), (80, { cls := Value.type "type", data := Data.cls { name := Str.ofString "NoBox", bases := [Value.ref 31], mro := [Value.ref 80, Value.ref 31, Value.type "ValueError", Value.type "Exception", Value.type "BaseException", Value.type "object"], ns := 79, qualname := Str.ofString "NoBox" }, slots := #[.some (Value.ref 71), .none, .some (Value.str (Str.ofString "NoBox") 262), .some (Value.str (Str.ofString "NoBox") 270), .some (Value.builtin "ValueError.__new__"), .some (Value.bool true)] }), (90, { cls := Value.type "tuple", data := Data.seq #[] }), (93, { cls := Value.type "code", data := Data.fields #[Value.str (Str.ofString "__init__") 298, Value.str (Str.ofString "Pile.__init__") 299, Value.str (Str.ofString "/claim/cut.py") 300, Value.int 21 0, Value.int 1 0, Value.int 0 0, Value.int 0 0, Value.int 3 0, Value.ref 90, Value.bool true, Value.int 181 0, Value.ref 91, Value.none, Value.none, Value.none, Value.ref 92, Value.int 301 0, Value.int 21 0, Value.str (Str.ofString "/claim/cut.py") 302] }), (94, { cls := Value.type "function", data := Data.func { name := Str.ofString "__init__", qualname := Str.ofString "Pile.__init__", params := argsOf (meS 11 0), body := FuncBody.stmts (bodyOf (meS 11 0)), scope := scopeOf (meS 11 0), globals := 3, closure := [], defaults := Value.none, kwdefaults := Value.none, pyModule := Value.str (Str.ofString "boxpile.pile") 278, code := Value.ref 93 } }), (95, { cls := Value.type "tuple", data := Data.seq #[] }), (97, { cls := Value.type "tuple", data := Data.seq #[Value.str (Str.ofString "self") 307, Value.str (Str.ofString "hand") 308] }), (98, { cls := Value.type "tuple", data := Data.seq #[] }), (100, { cls := Value.type "code", data := Data.fields #[Value.str (Str.ofString "need_hand") 304, Value.str (Str.ofString "Pile.need_hand") 305, Value.str (Str.ofString "/claim/cut.py") 306, Value.int 28 0, Value.int 2 0, Value.int 0 0, Value.int 0 0, Value.int 3 0, Value.ref 95, Value.bool true, Value.int 181 0, Value.ref 96, Value.none, Value.ref 97, Value.ref 98, Value.ref 99, Value.int 309 0, Value.int 28 0, Value.str (Str.ofString "/claim/cut.py") 310] }), (101, { cls := Value.type "function", data := Data.func { name := Str.ofString "need_hand", qualname := Str.ofString "Pile.need_hand", params := argsOf (meS 11 1), body := FuncBody.stmts (bodyOf (meS 11 1)), scope := scopeOf (meS 11 1), globals := 3, closure := [], defaults := Value.none, kwdefaults := Value.none, pyModule := Value.str (Str.ofString "boxpile.pile") 278, code := Value.ref 100 } })]
noncomputable def g3 (P : Params) : Frag := [(102, { cls := Value.type "tuple", data := Data.seq #[] }), (104, { cls := Value.type "tuple", data := Data.seq #[Value.str (Str.ofString "self") 315, Value.str (Str.ofString "number") 316] }), (105, { cls := Value.type "tuple", data := Data.seq #[] }), (107, { cls := Value.type "code", data := Data.fields #[Value.str (Str.ofString "need_box") 312, Value.str (Str.ofString "Pile.need_box") 313, Value.str (Str.ofString "/claim/cut.py") 314, Value.int 32 0, Value.int 2 0, Value.int 0 0, Value.int 0 0, Value.int 3 0, Value.ref 102, Value.bool true, Value.int 181 0, Value.ref 103, Value.none, Value.ref 104, Value.ref 105, Value.ref 106, Value.int 317 0, Value.int 32 0, Value.str (Str.ofString "/claim/cut.py") 318] }), (108, { cls := Value.type "function", data := Data.func { name := Str.ofString "need_box", qualname := Str.ofString "Pile.need_box", params := argsOf (meS 11 2), body := FuncBody.stmts (bodyOf (meS 11 2)), scope := scopeOf (meS 11 2), globals := 3, closure := [], defaults := Value.none, kwdefaults := Value.none, pyModule := Value.str (Str.ofString "boxpile.pile") 278, code := Value.ref 107 } }), (109, { cls := Value.type "tuple", data := Data.seq #[] }), (111, { cls := Value.type "tuple", data := Data.seq #[Value.str (Str.ofString "self") 323, Value.str (Str.ofString "hand") 324, Value.str (Str.ofString "slot") 325] }), (112, { cls := Value.type "tuple", data := Data.seq #[] }), (114, { cls := Value.type "code", data := Data.fields #[Value.str (Str.ofString "box_with_slot") 320, Value.str (Str.ofString "Pile.box_with_slot") 321, Value.str (Str.ofString "/claim/cut.py") 322, Value.int 36 0, Value.int 3 0, Value.int 0 0, Value.int 0 0, Value.int 3 0, Value.ref 109, Value.bool true, Value.int 181 0, Value.ref 110, Value.none, Value.ref 111, Value.ref 112, Value.ref 113, Value.int 326 0, Value.int 36 0, Value.str (Str.ofString "/claim/cut.py") 327] }), (115, { cls := Value.type "function", data := Data.func { name := Str.ofString "box_with_slot", qualname := Str.ofString "Pile.box_with_slot", params := argsOf (meS 11 3), body := FuncBody.stmts (bodyOf (meS 11 3)), scope := scopeOf (meS 11 3), globals := 3, closure := [], defaults := Value.none, kwdefaults := Value.none, pyModule := Value.str (Str.ofString "boxpile.pile") 278, code := Value.ref 114 } }), (116, { cls := Value.type "tuple", data := Data.seq #[] }), (118, { cls := Value.type "tuple", data := Data.seq #[Value.str (Str.ofString "self") 332, Value.str (Str.ofString "number") 333] })]
noncomputable def g4 (P : Params) : Frag := [(119, { cls := Value.type "tuple", data := Data.seq #[] }), (121, { cls := Value.type "code", data := Data.fields #[Value.str (Str.ofString "counted") 329, Value.str (Str.ofString "Pile.counted") 330, Value.str (Str.ofString "/claim/cut.py") 331, Value.int 39 0, Value.int 2 0, Value.int 0 0, Value.int 0 0, Value.int 3 0, Value.ref 116, Value.bool true, Value.int 181 0, Value.ref 117, Value.none, Value.ref 118, Value.ref 119, Value.ref 120, Value.int 334 0, Value.int 39 0, Value.str (Str.ofString "/claim/cut.py") 335] }), (122, { cls := Value.type "function", data := Data.func { name := Str.ofString "counted", qualname := Str.ofString "Pile.counted", params := argsOf (meS 11 4), body := FuncBody.stmts (bodyOf (meS 11 4)), scope := scopeOf (meS 11 4), globals := 3, closure := [], defaults := Value.none, kwdefaults := Value.none, pyModule := Value.str (Str.ofString "boxpile.pile") 278, code := Value.ref 121 } }), (123, { cls := Value.type "tuple", data := Data.seq #[] }), (125, { cls := Value.type "tuple", data := Data.seq #[Value.str (Str.ofString "self") 340, Value.str (Str.ofString "number") 341, Value.str (Str.ofString "freed") 342, Value.str (Str.ofString "at") 343, Value.str (Str.ofString "slots") 344, Value.str (Str.ofString "other") 345] }), (126, { cls := Value.type "tuple", data := Data.seq #[] }), (128, { cls := Value.type "code", data := Data.fields #[Value.str (Str.ofString "let_go") 337, Value.str (Str.ofString "Pile.let_go") 338, Value.str (Str.ofString "/claim/cut.py") 339, Value.int 43 0, Value.int 2 0, Value.int 0 0, Value.int 0 0, Value.int 3 0, Value.ref 123, Value.bool true, Value.int 181 0, Value.ref 124, Value.none, Value.ref 125, Value.ref 126, Value.ref 127, Value.int 346 0, Value.int 43 0, Value.str (Str.ofString "/claim/cut.py") 347] }), (129, { cls := Value.type "function", data := Data.func { name := Str.ofString "let_go", qualname := Str.ofString "Pile.let_go", params := argsOf (meS 11 5), body := FuncBody.stmts (bodyOf (meS 11 5)), scope := scopeOf (meS 11 5), globals := 3, closure := [], defaults := Value.none, kwdefaults := Value.none, pyModule := Value.str (Str.ofString "boxpile.pile") 278, code := Value.ref 128 } }), (130, { cls := Value.type "tuple", data := Data.seq #[] }), (132, { cls := Value.type "tuple", data := Data.seq #[Value.str (Str.ofString "self") 352, Value.str (Str.ofString "number") 353, Value.str (Str.ofString "freed") 354] }), (133, { cls := Value.type "tuple", data := Data.seq #[] }), (135, { cls := Value.type "code", data := Data.fields #[Value.str (Str.ofString "lighter") 349, Value.str (Str.ofString "Pile.lighter") 350, Value.str (Str.ofString "/claim/cut.py") 351, Value.int 54 0, Value.int 3 0, Value.int 0 0, Value.int 0 0, Value.int 3 0, Value.ref 130, Value.bool true, Value.int 181 0, Value.ref 131, Value.none, Value.ref 132, Value.ref 133, Value.ref 134, Value.int 355 0, Value.int 54 0, Value.str (Str.ofString "/claim/cut.py") 356] })]
noncomputable def g5 (P : Params) : Frag := [(136, { cls := Value.type "function", data := Data.func { name := Str.ofString "lighter", qualname := Str.ofString "Pile.lighter", params := argsOf (meS 11 6), body := FuncBody.stmts (bodyOf (meS 11 6)), scope := scopeOf (meS 11 6), globals := 3, closure := [], defaults := Value.none, kwdefaults := Value.none, pyModule := Value.str (Str.ofString "boxpile.pile") 278, code := Value.ref 135 } }), (137, { cls := Value.type "tuple", data := Data.seq #[] }), (139, { cls := Value.type "tuple", data := Data.seq #[Value.str (Str.ofString "self") 361, Value.str (Str.ofString "hand") 362, Value.str (Str.ofString "number") 363, Value.str (Str.ofString "old") 364] }), (140, { cls := Value.type "tuple", data := Data.seq #[] }), (142, { cls := Value.type "code", data := Data.fields #[Value.str (Str.ofString "handed") 358, Value.str (Str.ofString "Pile.handed") 359, Value.str (Str.ofString "/claim/cut.py") 360, Value.int 65 0, Value.int 3 0, Value.int 0 0, Value.int 0 0, Value.int 3 0, Value.ref 137, Value.bool true, Value.int 181 0, Value.ref 138, Value.none, Value.ref 139, Value.ref 140, Value.ref 141, Value.int 365 0, Value.int 65 0, Value.str (Str.ofString "/claim/cut.py") 366] }), (143, { cls := Value.type "function", data := Data.func { name := Str.ofString "handed", qualname := Str.ofString "Pile.handed", params := argsOf (meS 11 7), body := FuncBody.stmts (bodyOf (meS 11 7)), scope := scopeOf (meS 11 7), globals := 3, closure := [], defaults := Value.none, kwdefaults := Value.none, pyModule := Value.str (Str.ofString "boxpile.pile") 278, code := Value.ref 142 } }), (144, { cls := Value.type "tuple", data := Data.seq #[] }), (146, { cls := Value.type "tuple", data := Data.seq #[Value.str (Str.ofString "self") 371, Value.str (Str.ofString "box") 372, Value.str (Str.ofString "slot") 373, Value.str (Str.ofString "number") 374] }), (147, { cls := Value.type "tuple", data := Data.seq #[] }), (149, { cls := Value.type "code", data := Data.fields #[Value.str (Str.ofString "pointed") 368, Value.str (Str.ofString "Pile.pointed") 369, Value.str (Str.ofString "/claim/cut.py") 370, Value.int 71 0, Value.int 4 0, Value.int 0 0, Value.int 0 0, Value.int 3 0, Value.ref 144, Value.bool true, Value.int 181 0, Value.ref 145, Value.none, Value.ref 146, Value.ref 147, Value.ref 148, Value.int 375 0, Value.int 71 0, Value.str (Str.ofString "/claim/cut.py") 376] }), (150, { cls := Value.type "function", data := Data.func { name := Str.ofString "pointed", qualname := Str.ofString "Pile.pointed", params := argsOf (meS 11 8), body := FuncBody.stmts (bodyOf (meS 11 8)), scope := scopeOf (meS 11 8), globals := 3, closure := [], defaults := Value.none, kwdefaults := Value.none, pyModule := Value.str (Str.ofString "boxpile.pile") 278, code := Value.ref 149 } }), (151, { cls := Value.type "tuple", data := Data.seq #[] })]
noncomputable def g6 (P : Params) : Frag := [(154, { cls := Value.type "code", data := Data.fields #[Value.str (Str.ofString "make") 378, Value.str (Str.ofString "Pile.make") 379, Value.str (Str.ofString "/claim/cut.py") 380, Value.int 74 0, Value.int 3 0, Value.int 0 0, Value.int 0 0, Value.int 3 0, Value.ref 151, Value.bool true, Value.int 181 0, Value.ref 152, Value.none, Value.none, Value.none, Value.ref 153, Value.int 381 0, Value.int 74 0, Value.str (Str.ofString "/claim/cut.py") 382] }), (155, { cls := Value.type "function", data := Data.func { name := Str.ofString "make", qualname := Str.ofString "Pile.make", params := argsOf (meS 11 9), body := FuncBody.stmts (bodyOf (meS 11 9)), scope := scopeOf (meS 11 9), globals := 3, closure := [], defaults := Value.none, kwdefaults := Value.none, pyModule := Value.str (Str.ofString "boxpile.pile") 278, code := Value.ref 154 } }), (156, { cls := Value.type "tuple", data := Data.seq #[] }), (158, { cls := Value.type "tuple", data := Data.seq #[Value.str (Str.ofString "self") 387, Value.str (Str.ofString "hand") 388, Value.str (Str.ofString "other") 389] }), (159, { cls := Value.type "tuple", data := Data.seq #[] }), (161, { cls := Value.type "code", data := Data.fields #[Value.str (Str.ofString "hold") 384, Value.str (Str.ofString "Pile.hold") 385, Value.str (Str.ofString "/claim/cut.py") 386, Value.int 86 0, Value.int 3 0, Value.int 0 0, Value.int 0 0, Value.int 3 0, Value.ref 156, Value.bool true, Value.int 181 0, Value.ref 157, Value.none, Value.ref 158, Value.ref 159, Value.ref 160, Value.int 390 0, Value.int 86 0, Value.str (Str.ofString "/claim/cut.py") 391] }), (162, { cls := Value.type "function", data := Data.func { name := Str.ofString "hold", qualname := Str.ofString "Pile.hold", params := argsOf (meS 11 10), body := FuncBody.stmts (bodyOf (meS 11 10)), scope := scopeOf (meS 11 10), globals := 3, closure := [], defaults := Value.none, kwdefaults := Value.none, pyModule := Value.str (Str.ofString "boxpile.pile") 278, code := Value.ref 161 } }), (163, { cls := Value.type "tuple", data := Data.seq #[] }), (165, { cls := Value.type "tuple", data := Data.seq #[Value.str (Str.ofString "self") 396, Value.str (Str.ofString "hand") 397] }), (166, { cls := Value.type "tuple", data := Data.seq #[] }), (168, { cls := Value.type "code", data := Data.fields #[Value.str (Str.ofString "drop") 393, Value.str (Str.ofString "Pile.drop") 394, Value.str (Str.ofString "/claim/cut.py") 395, Value.int 91 0, Value.int 2 0, Value.int 0 0, Value.int 0 0, Value.int 3 0, Value.ref 163, Value.bool true, Value.int 181 0, Value.ref 164, Value.none, Value.ref 165, Value.ref 166, Value.ref 167, Value.int 398 0, Value.int 91 0, Value.str (Str.ofString "/claim/cut.py") 399] }), (169, { cls := Value.type "function", data := Data.func { name := Str.ofString "drop", qualname := Str.ofString "Pile.drop", params := argsOf (meS 11 11), body := FuncBody.stmts (bodyOf (meS 11 11)), scope := scopeOf (meS 11 11), globals := 3, closure := [], defaults := Value.none, kwdefaults := Value.none, pyModule := Value.str (Str.ofString "boxpile.pile") 278, code := Value.ref 168 } })]
noncomputable def g7 (P : Params) : Frag := [(170, { cls := Value.type "tuple", data := Data.seq #[] }), (172, { cls := Value.type "tuple", data := Data.seq #[Value.str (Str.ofString "self") 404, Value.str (Str.ofString "hand") 405, Value.str (Str.ofString "slot") 406, Value.str (Str.ofString "other") 407] }), (173, { cls := Value.type "tuple", data := Data.seq #[] }), (175, { cls := Value.type "code", data := Data.fields #[Value.str (Str.ofString "put") 401, Value.str (Str.ofString "Pile.put") 402, Value.str (Str.ofString "/claim/cut.py") 403, Value.int 95 0, Value.int 4 0, Value.int 0 0, Value.int 0 0, Value.int 3 0, Value.ref 170, Value.bool true, Value.int 181 0, Value.ref 171, Value.none, Value.ref 172, Value.ref 173, Value.ref 174, Value.int 408 0, Value.int 95 0, Value.str (Str.ofString "/claim/cut.py") 409] }), (176, { cls := Value.type "function", data := Data.func { name := Str.ofString "put", qualname := Str.ofString "Pile.put", params := argsOf (meS 11 12), body := FuncBody.stmts (bodyOf (meS 11 12)), scope := scopeOf (meS 11 12), globals := 3, closure := [], defaults := Value.none, kwdefaults := Value.none, pyModule := Value.str (Str.ofString "boxpile.pile") 278, code := Value.ref 175 } }), (177, { cls := Value.type "tuple", data := Data.seq #[] }), (179, { cls := Value.type "tuple", data := Data.seq #[Value.str (Str.ofString "self") 414, Value.str (Str.ofString "hand") 415, Value.str (Str.ofString "slot") 416] }), (180, { cls := Value.type "tuple", data := Data.seq #[] }), (182, { cls := Value.type "code", data := Data.fields #[Value.str (Str.ofString "empty") 411, Value.str (Str.ofString "Pile.empty") 412, Value.str (Str.ofString "/claim/cut.py") 413, Value.int 98 0, Value.int 3 0, Value.int 0 0, Value.int 0 0, Value.int 3 0, Value.ref 177, Value.bool true, Value.int 181 0, Value.ref 178, Value.none, Value.ref 179, Value.ref 180, Value.ref 181, Value.int 417 0, Value.int 98 0, Value.str (Str.ofString "/claim/cut.py") 418] }), (183, { cls := Value.type "function", data := Data.func { name := Str.ofString "empty", qualname := Str.ofString "Pile.empty", params := argsOf (meS 11 13), body := FuncBody.stmts (bodyOf (meS 11 13)), scope := scopeOf (meS 11 13), globals := 3, closure := [], defaults := Value.none, kwdefaults := Value.none, pyModule := Value.str (Str.ofString "boxpile.pile") 278, code := Value.ref 182 } }), (184, { cls := Value.type "tuple", data := Data.seq #[] }), (186, { cls := Value.type "tuple", data := Data.seq #[Value.str (Str.ofString "self") 423, Value.str (Str.ofString "hand") 424, Value.str (Str.ofString "other") 425, Value.str (Str.ofString "slot") 426] })]
noncomputable def g8 (P : Params) : Frag := [(187, { cls := Value.type "tuple", data := Data.seq #[] }), (189, { cls := Value.type "code", data := Data.fields #[Value.str (Str.ofString "take") 420, Value.str (Str.ofString "Pile.take") 421, Value.str (Str.ofString "/claim/cut.py") 422, Value.int 101 0, Value.int 4 0, Value.int 0 0, Value.int 0 0, Value.int 3 0, Value.ref 184, Value.bool true, Value.int 181 0, Value.ref 185, Value.none, Value.ref 186, Value.ref 187, Value.ref 188, Value.int 427 0, Value.int 101 0, Value.str (Str.ofString "/claim/cut.py") 428] }), (190, { cls := Value.type "function", data := Data.func { name := Str.ofString "take", qualname := Str.ofString "Pile.take", params := argsOf (meS 11 14), body := FuncBody.stmts (bodyOf (meS 11 14)), scope := scopeOf (meS 11 14), globals := 3, closure := [], defaults := Value.none, kwdefaults := Value.none, pyModule := Value.str (Str.ofString "boxpile.pile") 278, code := Value.ref 189 } }), (191, { cls := Value.type "tuple", data := Data.seq #[] }), (193, { cls := Value.type "tuple", data := Data.seq #[Value.str (Str.ofString "self") 433, Value.str (Str.ofString "numbers") 434] }), (194, { cls := Value.type "tuple", data := Data.seq #[] }), (196, { cls := Value.type "code", data := Data.fields #[Value.str (Str.ofString "swept") 430, Value.str (Str.ofString "Pile.swept") 431, Value.str (Str.ofString "/claim/cut.py") 432, Value.int 104 0, Value.int 2 0, Value.int 0 0, Value.int 0 0, Value.int 3 0, Value.ref 191, Value.bool true, Value.int 181 0, Value.ref 192, Value.none, Value.ref 193, Value.ref 194, Value.ref 195, Value.int 435 0, Value.int 104 0, Value.str (Str.ofString "/claim/cut.py") 436] }), (197, { cls := Value.type "function", data := Data.func { name := Str.ofString "swept", qualname := Str.ofString "Pile.swept", params := argsOf (meS 11 15), body := FuncBody.stmts (bodyOf (meS 11 15)), scope := scopeOf (meS 11 15), globals := 3, closure := [], defaults := Value.none, kwdefaults := Value.none, pyModule := Value.str (Str.ofString "boxpile.pile") 278, code := Value.ref 196 } }), (198, { cls := Value.type "tuple", data := Data.seq #[] }), (200, { cls := Value.type "tuple", data := Data.seq #[Value.str (Str.ofString "self") 441, Value.str (Str.ofString "hand") 442] }), (201, { cls := Value.type "tuple", data := Data.seq #[] }), (203, { cls := Value.type "code", data := Data.fields #[Value.str (Str.ofString "holds") 438, Value.str (Str.ofString "Pile.holds") 439, Value.str (Str.ofString "/claim/cut.py") 440, Value.int 107 0, Value.int 2 0, Value.int 0 0, Value.int 0 0, Value.int 3 0, Value.ref 198, Value.bool true, Value.int 181 0, Value.ref 199, Value.none, Value.ref 200, Value.ref 201, Value.ref 202, Value.int 443 0, Value.int 107 0, Value.str (Str.ofString "/claim/cut.py") 444] })]
noncomputable def g9 (P : Params) : Frag := [(204, { cls := Value.type "function", data := Data.func { name := Str.ofString "holds", qualname := Str.ofString "Pile.holds", params := argsOf (meS 11 16), body := FuncBody.stmts (bodyOf (meS 11 16)), scope := scopeOf (meS 11 16), globals := 3, closure := [], defaults := Value.none, kwdefaults := Value.none, pyModule := Value.str (Str.ofString "boxpile.pile") 278, code := Value.ref 203 } }), (205, { cls := Value.type "tuple", data := Data.seq #[] }), (207, { cls := Value.type "tuple", data := Data.seq #[Value.str (Str.ofString "self") 449, Value.str (Str.ofString "number") 450] }), (208, { cls := Value.type "tuple", data := Data.seq #[] }), (210, { cls := Value.type "code", data := Data.fields #[Value.str (Str.ofString "points") 446, Value.str (Str.ofString "Pile.points") 447, Value.str (Str.ofString "/claim/cut.py") 448, Value.int 111 0, Value.int 2 0, Value.int 0 0, Value.int 0 0, Value.int 3 0, Value.ref 205, Value.bool true, Value.int 181 0, Value.ref 206, Value.none, Value.ref 207, Value.ref 208, Value.ref 209, Value.int 451 0, Value.int 111 0, Value.str (Str.ofString "/claim/cut.py") 452] }), (211, { cls := Value.type "function", data := Data.func { name := Str.ofString "points", qualname := Str.ofString "Pile.points", params := argsOf (meS 11 17), body := FuncBody.stmts (bodyOf (meS 11 17)), scope := scopeOf (meS 11 17), globals := 3, closure := [], defaults := Value.none, kwdefaults := Value.none, pyModule := Value.str (Str.ofString "boxpile.pile") 278, code := Value.ref 210 } }), (212, { cls := Value.type "tuple", data := Data.seq #[] }), (214, { cls := Value.type "tuple", data := Data.seq #[Value.str (Str.ofString "self") 457, Value.str (Str.ofString "number") 458] }), (215, { cls := Value.type "tuple", data := Data.seq #[] }), (217, { cls := Value.type "code", data := Data.fields #[Value.str (Str.ofString "weighs") 454, Value.str (Str.ofString "Pile.weighs") 455, Value.str (Str.ofString "/claim/cut.py") 456, Value.int 114 0, Value.int 2 0, Value.int 0 0, Value.int 0 0, Value.int 3 0, Value.ref 212, Value.bool true, Value.int 181 0, Value.ref 213, Value.none, Value.ref 214, Value.ref 215, Value.ref 216, Value.int 459 0, Value.int 114 0, Value.str (Str.ofString "/claim/cut.py") 460] }), (218, { cls := Value.type "function", data := Data.func { name := Str.ofString "weighs", qualname := Str.ofString "Pile.weighs", params := argsOf (meS 11 18), body := FuncBody.stmts (bodyOf (meS 11 18)), scope := scopeOf (meS 11 18), globals := 3, closure := [], defaults := Value.none, kwdefaults := Value.none, pyModule := Value.str (Str.ofString "boxpile.pile") 278, code := Value.ref 217 } }), (219, { cls := Value.type "tuple", data := Data.seq #[] })]
noncomputable def g10 (P : Params) : Frag := [(221, { cls := Value.type "tuple", data := Data.seq #[Value.str (Str.ofString "self") 465] }), (222, { cls := Value.type "tuple", data := Data.seq #[] }), (224, { cls := Value.type "code", data := Data.fields #[Value.str (Str.ofString "alive") 462, Value.str (Str.ofString "Pile.alive") 463, Value.str (Str.ofString "/claim/cut.py") 464, Value.int 118 0, Value.int 1 0, Value.int 0 0, Value.int 0 0, Value.int 3 0, Value.ref 219, Value.bool true, Value.int 181 0, Value.ref 220, Value.none, Value.ref 221, Value.ref 222, Value.ref 223, Value.int 466 0, Value.int 118 0, Value.str (Str.ofString "/claim/cut.py") 467] }), (225, { cls := Value.type "function", data := Data.func { name := Str.ofString "alive", qualname := Str.ofString "Pile.alive", params := argsOf (meS 11 19), body := FuncBody.stmts (bodyOf (meS 11 19)), scope := scopeOf (meS 11 19), globals := 3, closure := [], defaults := Value.none, kwdefaults := Value.none, pyModule := Value.str (Str.ofString "boxpile.pile") 278, code := Value.ref 224 } }), (226, { cls := Value.type "tuple", data := Data.seq #[] }), (228, { cls := Value.type "tuple", data := Data.seq #[Value.str (Str.ofString "self") 472] }), (229, { cls := Value.type "tuple", data := Data.seq #[] }), (231, { cls := Value.type "code", data := Data.fields #[Value.str (Str.ofString "suspects") 469, Value.str (Str.ofString "Pile.suspects") 470, Value.str (Str.ofString "/claim/cut.py") 471, Value.int 121 0, Value.int 1 0, Value.int 0 0, Value.int 0 0, Value.int 3 0, Value.ref 226, Value.bool true, Value.int 181 0, Value.ref 227, Value.none, Value.ref 228, Value.ref 229, Value.ref 230, Value.int 473 0, Value.int 121 0, Value.str (Str.ofString "/claim/cut.py") 474] }), (232, { cls := Value.type "function", data := Data.func { name := Str.ofString "suspects", qualname := Str.ofString "Pile.suspects", params := argsOf (meS 11 20), body := FuncBody.stmts (bodyOf (meS 11 20)), scope := scopeOf (meS 11 20), globals := 3, closure := [], defaults := Value.none, kwdefaults := Value.none, pyModule := Value.str (Str.ofString "boxpile.pile") 278, code := Value.ref 231 } }), (233, { cls := Value.type "tuple", data := Data.seq #[Value.str (Str.ofString "boxes") 476, Value.str (Str.ofString "doubted") 477, Value.str (Str.ofString "in_hands") 478, Value.str (Str.ofString "made") 479, Value.str (Str.ofString "weights") 480] }), (234, { cls := Value.type "dict", data := Data.dict #[{ hash := PyData.keyHash P (Str.ofString "__module__"), key := Value.str (Str.ofString "__module__") 293, val := Value.str (Str.ofString "boxpile.pile") 278 }, { hash := PyData.keyHash P (Str.ofString "__firstlineno__"), key := Value.str (Str.ofString "__firstlineno__") 297, val := Value.int 19 296 }, { hash := PyData.keyHash P (Str.ofString "__init__"), key := Value.str (Str.ofString "__init__") 303, val := Value.ref 94 }, { hash := PyData.keyHash P (Str.ofString "need_hand"), key := Value.str (Str.ofString "need_hand") 311, val := Value.ref 101 }, { hash := PyData.keyHash P (Str.ofString "need_box"), key := Value.str (Str.ofString "need_box") 319, val := Value.ref 108 }, { hash := PyData.keyHash P (Str.ofString "box_with_slot"), key := Value.str (Str.ofString "box_with_slot") 328, val := Value.ref 115 }, { hash := PyData.keyHash P (Str.ofString "counted"), key := Value.str (Str.ofString "counted") 336, val := Value.ref 122 }, { hash := PyData.keyHash P (Str.ofString "let_go"), key := Value.str (Str.ofString "let_go") 348, val := Value.ref 129 }, { hash := PyData.keyHash P (Str.ofString "lighter"), key := Value.str (Str.ofString "lighter") 357, val := Value.ref 136 }, { hash := PyData.keyHash P (Str.ofString "handed"), key := Value.str (Str.ofString "handed") 367, val := Value.ref 143 }, { hash := PyData.keyHash P (Str.ofString "pointed"), key := Value.str (Str.ofString "pointed") 377, val := Value.ref 150 }, { hash := PyData.keyHash P (Str.ofString "make"), key := Value.str (Str.ofString "make") 383, val := Value.ref 155 }, { hash := PyData.keyHash P (Str.ofString "hold"), key := Value.str (Str.ofString "hold") 392, val := Value.ref 162 }, { hash := PyData.keyHash P (Str.ofString "drop"), key := Value.str (Str.ofString "drop") 400, val := Value.ref 169 }, { hash := PyData.keyHash P (Str.ofString "put"), key := Value.str (Str.ofString "put") 410, val := Value.ref 176 }, { hash := PyData.keyHash P (Str.ofString "empty"), key := Value.str (Str.ofString "empty") 419, val := Value.ref 183 }, { hash := PyData.keyHash P (Str.ofString "take"), key := Value.str (Str.ofString "take") 429, val := Value.ref 190 }, { hash := PyData.keyHash P (Str.ofString "swept"), key := Value.str (Str.ofString "swept") 437, val := Value.ref 197 }, { hash := PyData.keyHash P (Str.ofString "holds"), key := Value.str (Str.ofString "holds") 445, val := Value.ref 204 }, { hash := PyData.keyHash P (Str.ofString "points"), key := Value.str (Str.ofString "points") 453, val := Value.ref 211 }, { hash := PyData.keyHash P (Str.ofString "weighs"), key := Value.str (Str.ofString "weighs") 461, val := Value.ref 218 }, { hash := PyData.keyHash P (Str.ofString "alive"), key := Value.str (Str.ofString "alive") 468, val := Value.ref 225 }, { hash := PyData.keyHash P (Str.ofString "suspects"), key := Value.str (Str.ofString "suspects") 475, val := Value.ref 232 }, { hash := PyData.keyHash P (Str.ofString "__static_attributes__"), key := Value.str (Str.ofString "__static_attributes__") 481, val := Value.ref 233 }, { hash := PyData.keyHash P (Str.ofString "__dict__"), key := Value.str (Str.ofString "__dict__") 483, val := Value.ref 236 }, { hash := PyData.keyHash P (Str.ofString "__weakref__"), key := Value.str (Str.ofString "__weakref__") 485, val := Value.ref 237 }, { hash := PyData.keyHash P (Str.ofString "__doc__"), key := Value.str (Str.ofString "__doc__") 486, val := Value.none }] 4 }), (235, { cls := Value.type "type", data := Data.cls { name := Str.ofString "Pile", bases := [Value.type "object"], mro := [Value.ref 235, Value.type "object"], ns := 234, qualname := Str.ofString "Pile" }, slots := #[.none, .none, .some (Value.str (Str.ofString "Pile") 286), .some (Value.str (Str.ofString "Pile") 294), .some (Value.builtin "object.__new__"), .some (Value.bool true)] })]
noncomputable def g11 (P : Params) : Frag := [(236, { cls := Value.type "getset_descriptor", data := Data.fields #[Value.str (Str.ofString "__dict__") 482, Value.ref 235, Value.builtin "function.__dict__", Value.builtin "function.__dict__#set"] }), (237, { cls := Value.type "getset_descriptor", data := Data.fields #[Value.str (Str.ofString "__weakref__") 484, Value.ref 235, Value.builtin "ExceptionGroup.__weakref__", Value.none] }), (240, { cls := Value.type "tuple", data := Data.seq #[] }), (242, { cls := Value.type "tuple", data := Data.seq #[Value.str (Str.ofString "_law_found") 494] }), (243, { cls := Value.type "tuple", data := Data.seq #[] }), (245, { cls := Value.type "code", data := Data.fields #[Value.str (Str.ofString "_law_whole") 491, Value.str (Str.ofString "_law_whole") 492, Value.str (Str.ofString "/claim/cut.py") 493, Value.int 124 0, Value.int 1 0, Value.int 0 0, Value.int 0 0, Value.int 3 0, Value.ref 240, Value.bool true, Value.int 181 0, Value.ref 241, Value.none, Value.ref 242, Value.ref 243, Value.ref 244, Value.int 495 0, Value.int 124 0, Value.str (Str.ofString "/claim/cut.py") 496] }), (246, { cls := Value.type "function", data := Data.func { name := Str.ofString "_law_whole", qualname := Str.ofString "_law_whole", params := argsOf (topS 13), body := FuncBody.stmts (bodyOf (topS 13)), scope := scopeOf (topS 13), globals := 3, closure := [], defaults := Value.none, kwdefaults := Value.none, pyModule := Value.str (Str.ofString "law_uf040002_02") 489, code := Value.ref 245 } }), (254, { cls := Value.type "tuple", data := Data.seq #[] }), (256, { cls := Value.type "tuple", data := Data.seq #[Value.str (Str.ofString "_law_found") 509, Value.str (Str.ofString "_law_due") 510, Value.str (Str.ofString "_law_k") 511] }), (257, { cls := Value.type "tuple", data := Data.seq #[] }), (259, { cls := Value.type "code", data := Data.fields #[Value.str (Str.ofString "_law_numbers") 506, Value.str (Str.ofString "_law_numbers") 507, Value.str (Str.ofString "/claim/cut.py") 508, Value.int 130 0, Value.int 2 0, Value.int 0 0, Value.int 0 0, Value.int 3 0, Value.ref 254, Value.bool true, Value.int 181 0, Value.ref 255, Value.none, Value.ref 256, Value.ref 257, Value.ref 258, Value.int 512 0, Value.int 130 0, Value.str (Str.ofString "/claim/cut.py") 513] }), (260, { cls := Value.type "function", data := Data.func { name := Str.ofString "_law_numbers", qualname := Str.ofString "_law_numbers", params := argsOf (topS 15), body := FuncBody.stmts (bodyOf (topS 15)), scope := scopeOf (topS 15), globals := 3, closure := [], defaults := Value.none, kwdefaults := Value.none, pyModule := Value.str (Str.ofString "law_uf040002_02") 489, code := Value.ref 259 } })]
noncomputable def g12 (P : Params) : Frag := [(261, { cls := Value.type "tuple", data := Data.seq #[] }), (264, { cls := Value.type "code", data := Data.fields #[Value.str (Str.ofString "_law_held_by") 515, Value.str (Str.ofString "_law_held_by") 516, Value.str (Str.ofString "/claim/cut.py") 517, Value.int 140 0, Value.int 2 0, Value.int 0 0, Value.int 0 0, Value.int 3 0, Value.ref 261, Value.bool true, Value.int 181 0, Value.ref 262, Value.none, Value.none, Value.none, Value.ref 263, Value.int 518 0, Value.int 140 0, Value.str (Str.ofString "/claim/cut.py") 519] }), (265, { cls := Value.type "function", data := Data.func { name := Str.ofString "_law_held_by", qualname := Str.ofString "_law_held_by", params := argsOf (topS 16), body := FuncBody.stmts (bodyOf (topS 16)), scope := scopeOf (topS 16), globals := 3, closure := [], defaults := Value.none, kwdefaults := Value.none, pyModule := Value.str (Str.ofString "law_uf040002_02") 489, code := Value.ref 264 } }), (266, { cls := Value.type "tuple", data := Data.seq #[] }), (269, { cls := Value.type "code", data := Data.fields #[Value.str (Str.ofString "law") 521, Value.str (Str.ofString "law") 522, Value.str (Str.ofString "/claim/cut.py") 523, Value.int 142 0, Value.int 1 0, Value.int 0 0, Value.int 0 0, Value.int 3 0, Value.ref 266, Value.bool true, Value.int 181 0, Value.ref 267, Value.none, Value.none, Value.none, Value.ref 268, Value.int 524 0, Value.int 142 0, Value.str (Str.ofString "/claim/cut.py") 525] }), (270, { cls := Value.type "function", data := Data.func { name := Str.ofString "law", qualname := Str.ofString "law", params := argsOf (topS 17), body := FuncBody.stmts (bodyOf (topS 17)), scope := scopeOf (topS 17), globals := 3, closure := [], defaults := Value.none, kwdefaults := Value.none, pyModule := Value.str (Str.ofString "law_uf040002_02") 489, code := Value.ref 269 } })]
noncomputable def K (P : Params) : Frag := g0 P ++ (g1 P ++ (g2 P ++ (g3 P ++ (g4 P ++ (g5 P ++ (g6 P ++ (g7 P ++ (g8 P ++ (g9 P ++ (g10 P ++ (g11 P ++ (g12 P))))))))))))
noncomputable def as : List Addr := [2, 3, 15, 17, 18, 20, 21, 22, 29, 30, 31, 32, 35, 42, 43, 44, 47, 54, 55, 56, 59, 66, 67, 68, 71, 78, 79, 80, 90, 93, 94, 95, 97, 98, 100, 101, 102, 104, 105, 107, 108, 109, 111, 112, 114, 115, 116, 118, 119, 121, 122, 123, 125, 126, 128, 129, 130, 132, 133, 135, 136, 137, 139, 140, 142, 143, 144, 146, 147, 149, 150, 151, 154, 155, 156, 158, 159, 161, 162, 163, 165, 166, 168, 169, 170, 172, 173, 175, 176, 177, 179, 180, 182, 183, 184, 186, 187, 189, 190, 191, 193, 194, 196, 197, 198, 200, 201, 203, 204, 205, 207, 208, 210, 211, 212, 214, 215, 217, 218, 219, 221, 222, 224, 225, 226, 228, 229, 231, 232, 233, 234, 235, 236, 237, 240, 242, 243, 245, 246, 254, 256, 257, 259, 260, 261, 264, 265, 266, 269, 270]
end Mine.K02

set_option Elab.async false
set_option maxRecDepth 100000
set_option maxHeartbeats 8000000
open PySem PySem.W PyProof.Rows
theorem PySem.Challenge.cw_uf040002_02_holds : PySem.Challenge.rw_uf040002_02.Holds := by
  w_on
  o_law
  o_head (kHook Mine.K02.K Mine.K02.as (fun _ => by kernel_rfl))
  case hw => w_witness2
  intro w s₀ s₁ mg mb G Y fa o pm cd doc dV kV ho hd hcd hD hmg hg args vals as hpre hlay hrd hwl hlo
  have KX := kIn_of Y
  refine Ground.open G ?_
  intro T B D TE TW
  try (refine guard_noD D (by decide +kernel) ?_; clear D)
  have hlo' := hlo
  wrow_args hpre hlay hrd hwl hlo
  refine enter_call ?_
  refine codeAny_mono ?_ (fun _ _ g => GoodW.toG g)
  rename_i ns hs1 hs2 hs3 hs4 hs5 as1 as2 A vs as3 hIL hra hwell hrd1 hI hrd2 hc1 hc2
  have hfa : Value.ref fa = .ref 270 := by
    have e : nsIn (Mine.K02.K w.params) mainGlobals (Str.ofString "law") = some (some (.ref 270)) := by kernel_rfl
    have := mg_of KX T.g e
    have h2 : mg (Str.ofString "law") = some (.ref fa) := hmg
    rw [this] at h2; exact (Option.some.inj h2).symm
  have hfa : fa = 270 := by cases hfa; rfl
  rw [hfa]
  have hlen : ns.length ≤ 63 := by lia
  obtain ⟨σ', hrun⟩ := Mine.L02.plain ns hlen
  have hL : s₁.heap.get? A = some (W.listOf vs.toArray 0) := by
    obtain ⟨o1, g1, g2, n, g3⟩ := hIL
    cases hwell with
    | list q1 q2 =>
      rw [g1] at q1
      cases q1
      cases g3
      exact g1
  have hA : (A == sysModules) = false := by
    refine hlo' A ?_
    cases hrd1 with
    | list => simp
  refine Mine.law_main (K := Mine.K02.K w.params) (T := Mine.L02.T02) (P := Mine.L02.prog) (clsL := Mine.L02.clsL) (fnL := Mine.L02.fnL) (meL := Mine.L02.meL) (exL := Mine.L02.exL) (xP := 31) (by kernel_rfl) (by kernel_rfl) (by kernel_rfl) rfl (lid := 74) rfl KX T.g T.b T.builtins T.nolimit hL hA hI (by show ns.length ≤ 1000000; lia) (d := 20) (by decide) hrun fun h' tk keep => ?_
  refine ⟨.inl ⟨_, .bool true, [], rfl, fun _ => rfl, .bool true, by kernel_rfl, fun _ => ⟨List.nodup_nil, fun _ h => nomatch h⟩⟩, keep, rfl, hg⟩
