import PyProof.Rows.All
import PyProof.P3Statements
import OpenK.KCell
import OpenK.Lit
import OpenK.KTop
import Open.FastT9
import Wide.All
import Wide.FinOn
import PySem.Challenge.RW_uf040002_04
set_option Elab.async false
set_option linter.all false
set_option genSizeOf false

namespace Mine
open PySem (Str PyData)

inductive V where
  | none
  | bool (b : Bool)
  | int (i : Int)
  | str (s : Str)
  | ref (a : Nat)
  | top (i : Nat)
  deriving DecidableEq

inductive O where
  | list (xs : List V)
  | tup (xs : List V)
  | dict (es : List (V × V))
  | inst (c : Nat) (d : Nat)
  | attrs (es : List (Nat × V))
  | rng (a b c : Int)
  | exc (c : Nat)
  deriving DecidableEq

abbrev H := List O
noncomputable def H.get (h : H) (a : Nat) : Option O := h[a]?
noncomputable def H.put (h : H) (a : Nat) (o : O) : H := h.set a o
noncomputable def H.push (h : H) (o : O) : H := h ++ [o]

inductive R (α : Type) where
  | ok (a : α)
  | err (c : Nat)

abbrev X (α : Type) := H → Option (R α × H)
noncomputable def X.pure {α : Type} (a : α) : X α := fun h => some (.ok a, h)
noncomputable def X.bind {α β : Type} (m : X α) (f : α → X β) : X β := fun h =>
  match m h with
  | some (.ok a, h') => f a h'
  | some (.err c, h') => some (.err c, h')
  | none => none
noncomputable def X.none {α : Type} : X α := fun _ => Option.none
noncomputable def X.lift {α : Type} (o : Option α) : X α := fun h => match o with | some a => some (.ok a, h) | Option.none => Option.none

abbrev Loc := Nat → Option V
noncomputable def Loc.upd (l : Loc) (i : Nat) (v : V) : Loc := fun j => bif j == i then some v else l j

inductive Bi where
  | len | sorted | list | tuple | str | int | range | min | max | set | zip
  deriving DecidableEq

set_option genInjectivity false in
mutual
inductive Ex where
  | cnone
  | cbool (b : Bool)
  | cint (i : Int)
  | cstr (s : Str)
  | loc (i : Nat)
  | glo (i : Nat)
  | bin (op : PySem.Operator) (a b : Ex)
  | neg (a : Ex)
  | not (a : Ex)
  | band (es : Exs)
  | bor (es : Exs)
  | cmp (op : PySem.CmpOp) (a b : Ex)
  | cmp2 (o1 o2 : PySem.CmpOp) (a b c : Ex)
  | list (es : Exs)
  | tup (es : Exs)
  | dict (ks vs : Exs)
  | attr (a : Ex) (n : Nat)
  | sub (a i : Ex)
  | call (f : Nat) (args : Exs)
  | new (c : Nat)
  | meth (o : Ex) (n : Nat) (args : Exs)
  | bi (b : Bi) (args : Exs)
  | isi (a : Ex) (cs : List Nat)
  | comp (elt : Ex) (tg : List Nat) (tup : Bool) (it : Ex) (conds : Exs)
inductive Exs where
  | nil
  | cons (e : Ex) (es : Exs)
end

set_option genInjectivity false in
inductive Tg where
  | var (i : Nat)
  | attr (o : Ex) (n : Nat)
  | sub (o i : Ex)

set_option genInjectivity false in
mutual
inductive St where
  | expr (e : Ex)
  | asg (t : Tg) (e : Ex)
  | ite (c : Ex) (a b : Sts)
  | whl (c : Ex) (b : Sts)
  | for (tg : List Nat) (tup : Bool) (e : Ex) (b : Sts)
  | ret (e : Ex)
  | ret0
  | pass
  | rais (c : Nat) (msg : Str)
  | try (b : Sts) (hs : Hs)
inductive Sts where
  | nil
  | cons (s : St) (ss : Sts)
inductive Hs where
  | nil
  | cons (c : Nat) (nm : Option Nat) (b : Sts) (r : Hs)
end

set_option genInjectivity false in
structure FD where
  params : List Nat
  body : Sts

set_option genInjectivity false in
structure Prog where
  funs : List (Nat × FD)
  meths : List (Nat × FD)
  globs : List (Nat × V)
  tabs : List (Nat × List (V × V))
  excs : List (Nat × List Nat)
  init : Nat
  attrs : List Nat := []
  xc : Bool := true
  nf : Nat := 0

noncomputable def H.getM (P : Prog) (h : H) (a : Nat) : Option O := if P.nf ≤ a then h.get a else none


noncomputable def idInt : Nat := 0
noncomputable def idBool : Nat := 1
noncomputable def idList : Nat := 2
noncomputable def idTuple : Nat := 3
noncomputable def idStr : Nat := 4
noncomputable def idAppend : Nat := 6
noncomputable def idPop : Nat := 7
noncomputable def idClear : Nat := 8
noncomputable def lim : Nat := 1000000
noncomputable def okO : O → Bool
  | .list xs => decide (xs.length ≤ lim)
  | .tup xs => decide (xs.length ≤ lim)
  | .dict es => decide (es.length ≤ lim)
  | _ => true
noncomputable def okS (s : Str) : Bool := decide (s.length ≤ lim) && PySem.PyData.strOk s
noncomputable def small (i : Int) : Bool := decide (i.natAbs < 2 ^ 64)
noncomputable def small' (i : Int) : Bool := decide (i.natAbs < 2 ^ 60)
noncomputable def alloc (o : O) : X V := fun h => if okO o then some (.ok (.ref h.length), h.push o) else none
noncomputable def grow (a : Nat) (o : O) (v : V) : X V := fun h => if okO o then some (.ok v, h.put a o) else none
noncomputable def err {α : Type} (c : Nat) : X α := fun h => some (.err c, h)

noncomputable def truth (v : V) : X Bool := fun h => match v with
  | .none => some (.ok false, h)
  | .bool b => some (.ok b, h)
  | .int i => some (.ok (decide (i ≠ 0)), h)
  | .str s => some (.ok (decide (s.length ≠ 0)), h)
  | .ref a => match h.get a with
    | some (.list xs) => some (.ok (!xs.isEmpty), h)
    | some (.tup xs) => some (.ok (!xs.isEmpty), h)
    | some (.dict es) => some (.ok (!es.isEmpty), h)
    | _ => none
  | .top _ => none

noncomputable def optAll {α β : Type} (f : α → Option β) : List α → Option (List β)
  | [] => some []
  | x :: xs => match f x, optAll f xs with
    | some y, some ys => some (y :: ys)
    | _, _ => none
noncomputable def dataOf (h : H) : Nat → V → Option PyData
  | 0, _ => none
  | n + 1, v => match v with
    | .none => some .none
    | .bool b => some (.bool b)
    | .int i => some (.int i)
    | .str s => some (.str s)
    | .ref a => match h.get a with
      | some (.list xs) => (optAll (dataOf h n) xs).map .list
      | some (.tup xs) => (optAll (dataOf h n) xs).map .tuple
      | _ => none
    | .top _ => none
noncomputable def deq (h : H) (a b : V) : Option Bool := match dataOf h 5 a, dataOf h 5 b with
  | some x, some y => some (PyData.eqv x y)
  | _, _ => none

/- parts of values, for what is partly defined -/
noncomputable def onInt {β : Type} (v : V) (f : Int → Option β) : Option β := match v with
  | .int i => f i
  | _ => none
noncomputable def onRef {β : Type} (v : V) (f : Nat → Option β) : Option β := match v with
  | .ref i => f i
  | _ => none
noncomputable def on1 {β : Type} (l : List V) (f : V → Option β) : Option β := match l with
  | [a] => f a
  | _ => none
noncomputable def on2 {β : Type} (l : List V) (f : V → V → Option β) : Option β := match l with
  | [a, b] => f a b
  | _ => none
theorem onInt_eq {β : Type} {v : V} {f : Int → Option β} {r : β} (h : onInt v f = some r) : ∃ i, v = .int i ∧ f i = some r := by
  cases v <;> first | exact ⟨_, rfl, h⟩ | cases h
theorem onRef_eq {β : Type} {v : V} {f : Nat → Option β} {r : β} (h : onRef v f = some r) : ∃ i, v = .ref i ∧ f i = some r := by
  cases v <;> first | exact ⟨_, rfl, h⟩ | cases h
theorem on1_eq {β : Type} {l : List V} {f : V → Option β} {r : β} (h : on1 l f = some r) : ∃ a, l = [a] ∧ f a = some r := by
  match l, h with
  | [a], h => exact ⟨a, rfl, h⟩
theorem on2_eq {β : Type} {l : List V} {f : V → V → Option β} {r : β} (h : on2 l f = some r) : ∃ a b, l = [a, b] ∧ f a b = some r := by
  match l, h with
  | [a, b], h => exact ⟨a, b, rfl, h⟩
noncomputable def twoInts (a b : V) (f : Int → Int → Option (R V × H)) : Option (R V × H) := onInt a fun x => onInt b fun y => f x y
noncomputable def binop (op : PySem.Operator) (a b : V) : X V := fun h => match op with
  | .Add => match a with
    | .int x => onInt b fun y => some (.ok (.int (x + y)), h)
    | _ => none
  | .Sub => twoInts a b fun x y => some (.ok (.int (x - y)), h)
  | .FloorDiv => twoInts a b fun x y => if y = 0 then none else if small y then some (.ok (.int (Int.fdiv x y)), h) else none
  | .Mod => twoInts a b fun x y => if y = 0 then none else some (.ok (.int (Int.fmod x y)), h)
  | .Mult => twoInts a b fun x y => if small x || small y then some (.ok (.int (x * y)), h) else none
  | _ => none

noncomputable def inList (h : H) (x : V) (ys : List V) : Option Bool := match dataOf h 5 x, optAll (dataOf h 4) ys with
  | some d, some ds => some (ds.any fun y => PyData.eqv y d)
  | _, _ => none

noncomputable def dget (es : List (V × V)) (k : V) : Option V := match es with
  | [] => none
  | (k', v) :: r => if k' = k then some v else dget r k
noncomputable def dset (es : List (V × V)) (k v : V) : List (V × V) := match es with
  | [] => [(k, v)]
  | (k', v') :: r => if k' = k then (k', v) :: r else (k', v') :: dset r k v
noncomputable def ddel (es : List (V × V)) (k : V) : List (V × V) := match es with
  | [] => []
  | (k', v') :: r => if k' = k then r else (k', v') :: ddel r k

noncomputable def isKey : V → Bool
  | .int _ => true
  | .str _ => true
  | _ => false

noncomputable def tabOf (P : Prog) (i : Nat) : Option (List (V × V)) := P.tabs.lookup i

noncomputable def contains (P : Prog) (x c : V) : X Bool := fun h => match c with
  | .ref a => match h.get a with
    | some (.list ys) => (inList h x ys).map fun b => (.ok b, h)
    | some (.tup ys) => (inList h x ys).map fun b => (.ok b, h)
    | some (.dict es) => if isKey x || decide (x = .none) then some (.ok (dget es x).isSome, h) else none
    | _ => none
  | .top i => match tabOf P i with
    | some es => if isKey x then some (.ok (dget es x).isSome, h) else none
    | none => none
  | .str y => match x with
    | .str _ => none
    | _ => none
  | _ => none

noncomputable def cmpop (P : Prog) (op : PySem.CmpOp) (a b : V) : X V := fun h => match op with
  | .Eq => (deq h a b).map fun r => (.ok (.bool r), h)
  | .NotEq => (deq h a b).map fun r => (.ok (.bool (!r)), h)
  | .Lt => match a, b with | .int x, .int y => some (.ok (.bool (decide (x < y))), h) | _, _ => none
  | .LtE => match a, b with | .int x, .int y => some (.ok (.bool (decide (x ≤ y))), h) | _, _ => none
  | .Gt => match a, b with | .int x, .int y => some (.ok (.bool (decide (x > y))), h) | _, _ => none
  | .GtE => match a, b with | .int x, .int y => some (.ok (.bool (decide (x ≥ y))), h) | _, _ => none
  | .Is => match b with | .none => some (.ok (.bool (decide (a = .none))), h) | _ => none
  | .IsNot => match b with | .none => some (.ok (.bool (decide (a ≠ .none))), h) | _ => none
  | .In => X.bind (contains P a b) (fun r => X.pure (.bool r)) h
  | .NotIn => X.bind (contains P a b) (fun r => X.pure (.bool (!r))) h

noncomputable def idx (i : Int) (n : Nat) : Option Nat := if 0 ≤ i ∧ i < n then some i.toNat else none

noncomputable def getItem (P : Prog) (o i : V) : X V := fun h => match o with
  | .ref a => match h.get a, i with
    | some (.list xs), .int k => ((idx k xs.length).bind fun j => xs[j]?).map fun v => (.ok v, h)
    | some (.tup xs), .int k => ((idx k xs.length).bind fun j => xs[j]?).map fun v => (.ok v, h)
    | some (.dict es), k => if isKey k then (dget es k).map fun v => (.ok v, h) else none
    | _, _ => none
  | .top t => match tabOf P t with
    | some es => if isKey i then (dget es i).map fun v => (.ok v, h) else none
    | none => none
  | _ => none

noncomputable def setItem (P : Prog) (o i v : V) : X Unit := fun h => match o with
  | .ref a => match h.getM P a, i with
    | some (.list xs), .int k => (idx k xs.length).map fun j => (.ok (), h.put a (.list (xs.set j v)))
    | some (.dict es), k => if isKey k then (if okO (.dict (dset es k v)) then some (.ok (), h.put a (.dict (dset es k v))) else none) else none
    | _, _ => none
  | _ => none

noncomputable def aget (es : List (Nat × V)) (k : Nat) : Option V := match es with
  | [] => none
  | (k', v) :: r => if k' = k then some v else aget r k
noncomputable def aset (es : List (Nat × V)) (k : Nat) (v : V) : List (Nat × V) := match es with
  | [] => [(k, v)]
  | (k', v') :: r => if k' = k then (k', v) :: r else (k', v') :: aset r k v

noncomputable def getAttr (o : V) (n : Nat) : X V := fun h => match o with
  | .ref a => match h.get a with
    | some (.inst _ d) => match h.get d with
      | some (.attrs es) => (aget es n).map fun v => (.ok v, h)
      | _ => none
    | _ => none
  | _ => none
noncomputable def setAttr (P : Prog) (o : V) (n : Nat) (v : V) : X Unit := fun h => match o with
  | .ref a => match h.get a with
    | some (.inst _ d) => match h.getM P d with
      | some (.attrs es) => if P.attrs.contains n && decide ((aset es n v).length ≤ 100) then some (.ok (), h.put d (.attrs (aset es n v))) else none
      | _ => none
    | _ => none
  | _ => none

noncomputable def intsOf : List V → Option (List Int)
  | [] => some []
  | .int i :: r => (intsOf r).map (i :: ·)
  | _ => none
noncomputable def insertI (x : Int) : List Int → List Int
  | [] => [x]
  | y :: r => if x ≤ y then x :: y :: r else y :: insertI x r
noncomputable def sortI : List Int → List Int
  | [] => []
  | x :: r => insertI x (sortI r)

noncomputable def rangeList (a b c : Int) : List Int :=
  if 0 < c then (List.range (if a < b then (b - a - 1) / c + 1 else 0).toNat).map fun (k : Nat) => a + (k : Int) * c else []

noncomputable def iterOf (v : V) (h : H) : Option (List V) := match v with
  | .ref a => match h.get a with
    | some (.list xs) => some xs
    | some (.tup xs) => some xs
    | some (.rng a b c) => if small' a && small' b && small' c && decide (b - a ≤ (lim : Int)) && decide (0 < c) then some ((rangeList a b c).map .int) else none
    | _ => none
  | _ => none
noncomputable def still (v : V) (h h' : H) : Bool := match v with
  | .ref a => decide (h'.get a = h.get a)
  | _ => true

noncomputable def biLen (v : V) (h : H) : Option (R V × H) := match v with
  | .ref a => match h.get a with
    | some (.list xs) => some (.ok (.int xs.length), h)
    | some (.dict es) => some (.ok (.int es.length), h)
    | _ => none
  | _ => none
noncomputable def sortedI (o : Option (List Int)) (h : H) : Option (R V × H) := match o with
  | some ns => if ns.length < 64 then some (.ok (.ref h.length), h.push (.list ((sortI ns).map .int))) else none
  | none => none
noncomputable def biSorted (v : V) (h : H) : Option (R V × H) := onRef v fun a => match h.get a with
    | some (.dict es) => sortedI (intsOf (es.map (·.1))) h
    | _ => none
noncomputable def biList (v : V) (h : H) : Option (R V × H) := onRef v fun a => match h.get a with
    | some (.list xs) => alloc (.list xs) h
    | _ => none
noncomputable def biRange (args : List V) (h : H) : Option (R V × H) := match args with
  | [a] => onInt a fun n => alloc (.rng 0 n 1) h
  | [a, b] => twoInts a b fun a b => alloc (.rng a b 1) h
  | _ => none
noncomputable def builtin (b : Bi) (args : List V) : X V := fun h => match b with
  | .len => on1 args fun v => biLen v h
  | .sorted => on1 args fun v => biSorted v h
  | .list => on1 args fun v => biList v h
  | .range => biRange args h
  | .min => on2 args fun a b => twoInts a b fun a b => some (.ok (.int (if b < a then b else a)), h)
  | _ => none

noncomputable def isinst (P : Prog) (v : V) (c : Nat) : X Bool := fun h => match v with
  | .none => some (.ok false, h)
  | .bool _ => some (.ok (c == idBool || c == idInt), h)
  | .int _ => some (.ok (c == idInt), h)
  | .str _ => some (.ok (c == idStr), h)
  | .ref a => match h.get a with
    | some (.list _) => some (.ok (c == idList), h)
    | some (.tup _) => some (.ok (c == idTuple), h)
    | _ => none
  | .top _ => none

noncomputable def isinsts (P : Prog) (v : V) : List Nat → X Bool
  | [c] => if c ≤ 4 then isinst P v c else X.none
  | _ => X.none

noncomputable def listMeth (P : Prog) (o : V) (n : Nat) (args : List V) : X V := fun h => match o with
  | .ref a => match h.getM P a with
    | some (.list xs) =>
      if n = idAppend then match args with
        | [v] => grow a (.list (xs ++ [v])) .none h
        | _ => none
      else none
    | _ => none
  | _ => none
noncomputable def dictMeth (P : Prog) (o : V) (n : Nat) (args : List V) : X V := fun h => match o with
  | .ref a => match h.getM P a with
    | some (.dict es) =>
      if n = idPop then match args with
        | [k] => if isKey k then match dget es k with
            | some v => some (.ok v, h.put a (.dict (ddel es k)))
            | none => none
          else none
        | [k, d] => if isKey k then match dget es k with
            | some v => some (.ok v, h.put a (.dict (ddel es k)))
            | none => some (.ok d, h)
          else none
        | _ => none
      else none
    | _ => none
  | _ => none

inductive Kd where
  | inst | list | dict | str | other
noncomputable def kdOf (v : V) (h : H) : Kd := match v with
  | .ref a => match h.get a with
    | some (.inst _ d) => match h.get d with
      | some (.attrs _) => .inst
      | _ => .other
    | some (.list _) => .list
    | some (.dict _) => .dict
    | _ => .other
  | .str _ => .str
  | _ => .other

noncomputable def bindTg (tg : List Nat) (tup : Bool) (v : V) (loc : Loc) (h : H) : Option Loc := match tup, tg with
  | false, [i] => some (loc.upd i v)
  | true, is => match v with
    | .ref a => match h.get a with
      | some (.tup xs) => if xs.length = is.length then some ((is.zip xs).foldl (fun l p => l.upd p.1 p.2) loc) else none
      | _ => none
    | _ => none
  | _, _ => none

noncomputable def compL (v₀ : V) (tg : List Nat) (tup : Bool) (t : Loc → X Bool) (e : Loc → X V) (loc : Loc) (h₀ : H) : List V → H → Option (R (List V) × H)
  | [], h => some (.ok [], h)
  | v :: vs, h => match bindTg tg tup v loc h with
    | none => none
    | some l' => match t l' h with
      | none => none
      | some (.err c, h₁) => some (.err c, h₁)
      | some (.ok false, h₁) => if still v₀ h₀ h₁ then compL v₀ tg tup t e loc h₀ vs h₁ else none
      | some (.ok true, h₁) => match e l' h₁ with
        | none => none
        | some (.err c, h₂) => some (.err c, h₂)
        | some (.ok w, h₂) => if still v₀ h₀ h₂ then match compL v₀ tg tup t e loc h₀ vs h₂ with
            | none => none
            | some (.err c, h₃) => some (.err c, h₃)
            | some (.ok ws, h₃) => some (.ok (w :: ws), h₃)
          else none

abbrev Calls := Bool → Nat → List V → X V

section
variable (P : Prog) (C : Calls)
mutual
noncomputable def ev : Ex → Loc → X V
  | .cnone, _ => X.pure .none
  | .cbool b, _ => X.pure (.bool b)
  | .cint i, _ => X.pure (.int i)
  | .cstr s, _ => X.pure (.str s)
  | .loc i, loc => X.lift (loc i)
  | .glo i, _ => match P.globs.lookup i with
    | some v => X.pure v
    | none => match P.tabs.lookup i with
      | some _ => X.pure (.top i)
      | none => X.none
  | .bin op a b, loc => X.bind (ev a loc) fun x => X.bind (ev b loc) fun y => binop op x y
  | .neg a, loc => X.bind (ev a loc) fun x => match x with | .int i => X.pure (.int (-i)) | _ => X.none
  | .not a, loc => X.bind (ev a loc) fun x => X.bind (truth x) fun t => X.pure (.bool (!t))
  | .band es, loc => evAnd es loc
  | .bor es, loc => evOr es loc
  | .cmp op a b, loc => X.bind (ev a loc) fun x => X.bind (ev b loc) fun y => cmpop P op x y
  | .cmp2 o1 o2 a b c, loc => X.bind (ev a loc) fun x => X.bind (ev b loc) fun y => X.bind (cmpop P o1 x y) fun r => X.bind (truth r) fun t =>
      if t then X.bind (ev c loc) fun z => cmpop P o2 y z else X.pure r
  | .list es, loc => X.bind (evs es loc) fun vs => alloc (.list vs)
  | .tup es, loc => X.bind (evs es loc) fun vs => alloc (.tup vs)
  | .dict ks vs, loc => X.bind (evs ks loc) fun kv => X.bind (evs vs loc) fun vv => if kv.all isKey && kv.length == vv.length then alloc (.dict ((kv.zip vv).foldl (fun d p => dset d p.1 p.2) [])) else X.none
  | .attr a n, loc => X.bind (ev a loc) fun o => getAttr o n
  | .sub a i, loc => X.bind (ev a loc) fun o => X.bind (ev i loc) fun k => getItem P o k
  | .call f args, loc => X.bind (evs args loc) fun vs => C false f vs
  | .new c, _ => X.bind (alloc (.attrs [])) fun d => match d with
    | .ref k => X.bind (alloc (.inst c k)) fun o => X.bind (C true P.init [o]) fun r => match r with | .none => X.pure o | _ => X.none
    | _ => X.none
  | .meth o n args, loc => X.bind (ev o loc) fun ov => fun h => match kdOf ov h with
    | .inst => if n ≤ 12 then none else X.bind (evs args loc) (fun vs => C true n (ov :: vs)) h
    | .list => if n = idAppend ∨ n = idPop ∨ n = idClear then X.bind (evs args loc) (fun vs => listMeth P ov n vs) h else none
    | .dict => if n = idPop then X.bind (evs args loc) (fun vs => dictMeth P ov n vs) h else none
    | _ => none
  | .bi b args, loc => X.bind (evs args loc) fun vs => builtin b vs
  | .isi a cs, loc => X.bind (ev a loc) fun v => X.bind (isinsts P v cs) fun b => X.pure (.bool b)
  | .comp elt tg tup it conds, loc => X.bind (ev it loc) fun v => fun h => match iterOf v h with
    | none => none
    | some vs => X.bind (compL v tg tup (tstAnd conds) (ev elt) loc h vs) (fun ws => alloc (.list ws)) h
noncomputable def evs : Exs → Loc → X (List V)
  | .nil, _ => X.pure []
  | .cons e es, loc => X.bind (ev e loc) fun v => X.bind (evs es loc) fun vs => X.pure (v :: vs)
noncomputable def evAnd : Exs → Loc → X V
  | .nil, _ => X.none
  | .cons e .nil, loc => ev e loc
  | .cons e es, loc => X.bind (ev e loc) fun v => X.bind (truth v) fun t => if t then evAnd es loc else X.pure v
noncomputable def evOr : Exs → Loc → X V
  | .nil, _ => X.none
  | .cons e .nil, loc => ev e loc
  | .cons e es, loc => X.bind (ev e loc) fun v => X.bind (truth v) fun t => if t then X.pure v else evOr es loc
noncomputable def tst : Ex → Loc → X V → X Bool
  | .not a, loc, _ => X.bind (tst a loc (ev a loc)) fun t => X.pure (!t)
  | .band es, loc, _ => tstAnd es loc
  | .bor es, loc, _ => tstOr es loc
  | _, _, whole => X.bind whole truth
noncomputable def tstAnd : Exs → Loc → X Bool
  | .nil, _ => X.pure true
  | .cons e es, loc => X.bind (tst e loc (ev e loc)) fun t => if t then tstAnd es loc else X.pure false
noncomputable def tstOr : Exs → Loc → X Bool
  | .nil, _ => X.pure false
  | .cons e es, loc => X.bind (tst e loc (ev e loc)) fun t => if t then X.pure true else tstOr es loc
end

noncomputable def whileL (t : Loc → X Bool) (b : Loc → H → Option (R (Option V) × Loc × H)) : Nat → Loc → H → Option (R (Option V) × Loc × H)
  | 0, _, _ => none
  | n + 1, loc, h => match t loc h with
    | none => none
    | some (.err c, h₁) => some (.err c, loc, h₁)
    | some (.ok false, h₁) => some (.ok none, loc, h₁)
    | some (.ok true, h₁) => match b loc h₁ with
      | none => none
      | some (.ok none, l₂, h₂) => whileL t b n l₂ h₂
      | some r => some r

noncomputable def forL (v₀ : V) (tg : List Nat) (tup : Bool) (b : Loc → H → Option (R (Option V) × Loc × H)) (h₀ : H) : List V → Loc → H → Option (R (Option V) × Loc × H)
  | [], loc, h => some (.ok none, loc, h)
  | v :: vs, loc, h => match bindTg tg tup v loc h with
    | none => none
    | some l' => match b l' h with
      | none => none
      | some (.ok none, l₂, h₂) => if still v₀ h₀ h₂ then forL v₀ tg tup b h₀ vs l₂ h₂ else none
      | some r => some r

noncomputable def onX {α : Type} (m : X α) (loc : Loc) (f : α → H → Option (R (Option V) × Loc × H)) (h : H) : Option (R (Option V) × Loc × H) := match m h with
  | none => none
  | some (.err c, h₁) => some (.err c, loc, h₁)
  | some (.ok a, h₁) => f a h₁

variable (F : Nat)
mutual
noncomputable def ex : St → Loc → H → Option (R (Option V) × Loc × H)
  | .expr e, loc, h => onX (ev P C e loc) loc (fun _ h₁ => some (.ok none, loc, h₁)) h
  | .asg t e, loc, h => onX (ev P C e loc) loc (fun v h₁ => match t with
      | .var i => some (.ok none, loc.upd i v, h₁)
      | .attr o n => onX (ev P C o loc) loc (fun ov h₂ => onX (setAttr P ov n v) loc (fun _ h₃ => some (.ok none, loc, h₃)) h₂) h₁
      | .sub o i => onX (ev P C o loc) loc (fun ov h₂ => onX (ev P C i loc) loc (fun iv h₃ => onX (setItem P ov iv v) loc (fun _ h₄ => some (.ok none, loc, h₄)) h₃) h₂) h₁) h
  | .ite c a b, loc, h => onX (tst P C c loc (ev P C c loc)) loc (fun t h₁ => if t then exs a loc h₁ else exs b loc h₁) h
  | .whl c b, loc, h => whileL (fun l => tst P C c l (ev P C c l)) (exs b) F loc h
  | .for tg tup e b, loc, h => onX (ev P C e loc) loc (fun v h₁ => match iterOf v h₁ with
      | none => none
      | some vs => forL v tg tup (exs b) h₁ vs loc h₁) h
  | .ret e, loc, h => onX (ev P C e loc) loc (fun v h₁ => some (.ok (some v), loc, h₁)) h
  | .ret0, loc, h => some (.ok (some .none), loc, h)
  | .pass, loc, h => some (.ok none, loc, h)
  | .rais c _, loc, h => if P.xc then some (.err c, loc, h) else none
  | .try b hs, loc, h => match exs b loc h with
    | some (.err c, l₁, h₁) => exh hs c l₁ h₁
    | r => r
noncomputable def exs : Sts → Loc → H → Option (R (Option V) × Loc × H)
  | .nil, loc, h => some (.ok none, loc, h)
  | .cons s ss, loc, h => match ex s loc h with
    | some (.ok none, l₁, h₁) => exs ss l₁ h₁
    | r => r
noncomputable def exh : Hs → Nat → Loc → H → Option (R (Option V) × Loc × H)
  | .nil, c, loc, h => some (.err c, loc, h)
  | .cons k nm b r, c, loc, h => match P.excs.lookup c with
    | none => none
    | some l => if l.contains k then match nm with
        | none => exs b loc h
        | some i => exs b (loc.upd i (.ref h.length)) (h.push (.exc c))
      else exh r c loc h
end
end

noncomputable def run (P : Prog) (F : Nat) : Nat → Calls
  | 0, _, _, _ => X.none
  | d + 1, m, f, args => fun h => match (if m then P.meths else P.funs).lookup f with
    | none => none
    | some fd => if args.length = fd.params.length then
        match exs P (run P F d) F fd.body ((fd.params.zip args).foldl (fun l p => l.upd p.1 p.2) (fun _ => none)) h with
        | none => none
        | some (.err c, _, h₁) => some (.err c, h₁)
        | some (.ok r, _, h₁) => some (.ok (r.getD .none), h₁)
      else none

end Mine

set_option autoImplicit false
namespace Mine
open PySem PySem.W PySem.Calls PyProof.Rows

inductive All2 {α β : Type} (R : α → β → Prop) : List α → List β → Prop
  | nil : All2 R [] []
  | cons {a : α} {b : β} {as : List α} {bs : List β} : R a b → All2 R as bs → All2 R (a :: as) (b :: bs)

namespace All2
variable {α β γ δ : Type} {R R' : α → β → Prop}
theorem length {as : List α} {bs : List β} (h : All2 R as bs) : as.length = bs.length := by
  induction h with
  | nil => rfl
  | cons _ _ ih => simp [ih]
theorem get {as : List α} {bs : List β} (h : All2 R as bs) : ∀ {i : Nat} {a : α}, as[i]? = some a → ∃ b, bs[i]? = some b ∧ R a b := by
  induction h with
  | nil => intro i a e; simp at e
  | cons hr _ ih =>
    intro i a e
    cases i with
    | zero => simp only [List.getElem?_cons_zero, Option.some.injEq] at e; subst e; exact ⟨_, rfl, hr⟩
    | succ i => simp only [List.getElem?_cons_succ] at e ⊢; exact ih e
theorem mono {as : List α} {bs : List β} (h : All2 R as bs) (k : ∀ a b, R a b → R' a b) : All2 R' as bs := by
  induction h with
  | nil => exact .nil
  | cons hr _ ih => exact .cons (k _ _ hr) ih
theorem append {as as' : List α} {bs bs' : List β} (h : All2 R as bs) (h' : All2 R as' bs') : All2 R (as ++ as') (bs ++ bs') := by
  induction h with
  | nil => exact h'
  | cons hr _ ih => exact .cons hr ih
theorem set {as : List α} {bs : List β} (h : All2 R as bs) {a : α} {b : β} (hr : R a b) : ∀ i : Nat, All2 R (as.set i a) (bs.set i b) := by
  induction h with
  | nil => intro i; exact .nil
  | cons hr' hs ih =>
    intro i
    cases i with
    | zero => exact .cons hr hs
    | succ i => exact .cons hr' (ih i)
theorem one {a : α} {b : β} (h : R a b) : All2 R [a] [b] := .cons h .nil
theorem take {as : List α} {bs : List β} (h : All2 R as bs) : ∀ n : Nat, All2 R (as.take n) (bs.take n) := by
  induction h with
  | nil => intro n; simp; exact .nil
  | cons hr _ ih =>
    intro n
    cases n with
    | zero => exact .nil
    | succ n => exact .cons hr (ih n)
end All2

set_option genInjectivity false in
structure Sig where
  prog : Program
  w : World
  K : Frag
  T : List Str
  P : Prog
  cls : Nat → Option Addr
  fn : Nat → Option Addr
  me : Nat → Option Addr
  fz : List (Addr × Obj)

variable (S : Sig)

noncomputable def VR (ρ : List Addr) : V → Value → Prop
  | .none, x => x = .none
  | .bool b, x => x = .bool b
  | .int i, x => ∃ t, x = .int i t
  | .str s, x => ∃ t, x = .str s t ∧ okS s = true
  | .ref a, x => ∃ A, ρ[a]? = some A ∧ x = .ref A
  | .top _, _ => False

theorem VR.mono {ρ ρ' : List Addr} {v : V} {x : Value} (h : VR ρ v x) (k : ρ <+: ρ') : VR ρ' v x := by
  cases v <;> try exact h
  obtain ⟨A, hA, rfl⟩ := h
  obtain ⟨r, rfl⟩ := k
  refine ⟨A, ?_, rfl⟩
  rw [List.getElem?_append_left (List.getElem?_eq_some_iff.mp hA).1]
  exact hA

noncomputable def keyIs : V → Value → Bool
  | .int i, v => Value.isInt i v
  | .str s, v => Value.isStrOf s v
  | .none, .none => true
  | _, _ => false
theorem keyIs_int {i : Int} {v : Value} (h : keyIs (.int i) v = true) : ∃ t, v = .int i t := Value.isInt_shape h
theorem keyIs_str {s : Str} {v : Value} (h : keyIs (.str s) v = true) : ∃ t, v = .str s t := Value.isStrOf_shape h
theorem keyIs_none {v : Value} (h : keyIs .none v = true) : v = .none := by cases v <;> first | rfl | cases h
theorem keyIs_shape {k : V} {v : Value} (h : keyIs k v = true) : (∃ i t, k = .int i ∧ v = .int i t) ∨ (∃ s t, k = .str s ∧ v = .str s t) ∨ (k = .none ∧ v = .none) := by
  cases k with
  | int i => obtain ⟨t, rfl⟩ := keyIs_int h; exact .inl ⟨i, t, rfl, rfl⟩
  | str s => obtain ⟨t, rfl⟩ := keyIs_str h; exact .inr (.inl ⟨s, t, rfl, rfl⟩)
  | none => exact .inr (.inr ⟨rfl, keyIs_none h⟩)
  | _ => cases v <;> cases h

noncomputable def hashNone : Int := 4238894112
noncomputable def hashV (w : World) : V → Int
  | .int i => hashInt i
  | .str s => hashStr w s
  | _ => hashNone

section
variable {prog : Program} {w : World} {A : Around} {E : Value → Shared → Prop} {s : Shared}
theorem hash_none {Q : Int → Shared → Prop} (h : Q hashNone { s with toks := s.toks + 1 }) : wpAny (model prog w) A (pyHash .none) Q E s := by
  have hT : s.TypeIs .none "NoneType" := rfl
  unfold pyHash
  have hv : [Value.none].any Value.onHeap = false := rfl
  refine wpAny_bind ?_
  rw [cRoomFor, if_neg (by rw [hv]; exact Bool.false_ne_true)]; refine wpAny_pure ?_
  refine wpAny_bind (wpAny_specialOf hT F.slot_NoneType_hash.lookup ?_)
  show wpAny _ _ (if (some (Value.builtin "NoneType.__hash__") == some Value.none) = true then _ else _) Q E s
  rw [if_neg (by decide)]
  refine wpAny_bind (wpAny_specialOf hT F.slot_NoneType_hash.lookup ?_)
  show wpAny _ _ (callSpecialIfBoundUnlessNone? .none "__hash__" _ >>= _) Q E s
  refine wpAny_bind (wpAny_callSpecialIfBoundUnlessNone?_slot hT F.slot_NoneType_hash
    (wpAny_call_entry F.slot_NoneType_hash hT F.entry_NoneType_hash
      (show wpAny _ _ (do ret (← mkInt hashNone)) _ _ s from wpAny_ret_mkInt ?_) (F.args_NoneType_hash_1 _)))
  exact wpAny_pure h
theorem eqBool_of {a b : Value} {r : Bool} {Q : Bool → Shared → Prop} (hne : (a == b) = true → r = true) (hf : ∀ x t, a ≠ .float x t)
    (hc : ∀ Q' : Value → Shared → Prop, Q' (.bool r) s → wpAny (model prog w) A (compareOp .Eq a b) Q' E s) (h : Q r s) : wpAny (model prog w) A (eqBool a b) Q E s := by
  unfold eqBool
  refine wpAny_holding ?_
  by_cases hab : (a == b) = true
  · rw [if_pos hab]
    exact wpAny_bind (wpAny_rule (wpAny_pure (by rw [hne hab] at h; exact h)))
  · rw [if_neg hab]
    cases a <;> first | exact absurd rfl (hf _ _) | exact wpAny_bind (hc _ (wpAny_truthy_bool h))
end

theorem keyIs_inj (v : Value) (a b : V) (ha : keyIs a v = true) (hb : keyIs b v = true) : a = b := by
  rcases keyIs_shape ha with ⟨i, t, rfl, rfl⟩ | ⟨x, t, rfl, rfl⟩ | ⟨rfl, rfl⟩ <;> rcases keyIs_shape hb with ⟨j, u, rfl, e⟩ | ⟨y, u, rfl, e⟩ | ⟨rfl, e⟩ <;> first | (cases e; rfl) | cases e

noncomputable def vKind (prog : Program) (w : World) : KeyKind prog w V where
  is := keyIs
  hash := hashV w
  inj := keyIs_inj
  byValue := fun k v h => by rcases keyIs_shape h with ⟨i, t, rfl, rfl⟩ | ⟨x, t, rfl, rfl⟩ | ⟨rfl, rfl⟩ <;> rfl
  pyHash := fun hv h => by
    rcases keyIs_shape hv with ⟨i, t, rfl, rfl⟩ | ⟨x, t, rfl, rfl⟩ | ⟨rfl, rfl⟩
    · exact wpAny_pyHash_int h
    · exact wpAny_pyHash_str h
    · exact hash_none h
  eqBool := fun hu hv h => by
    rcases keyIs_shape hu with ⟨i, t, rfl, rfl⟩ | ⟨x, t, rfl, rfl⟩ | ⟨rfl, rfl⟩ <;> rcases keyIs_shape hv with ⟨j, u, rfl, rfl⟩ | ⟨y, u, rfl, rfl⟩ | ⟨rfl, rfl⟩
    · refine wpAny_eqBool_int ?_
      have : (i == j) = decide (V.int i = V.int j) := by by_cases hij : i = j <;> simp [hij]
      rw [this]; exact h
    · exact eqBool_of (r := false) (fun e => by cases (eq_of_beq e)) (fun _ _ e => by cases e) (fun _ h' => EqMixed.eq_int_str h') (by simpa using h)
    · exact eqBool_of (r := false) (fun e => by cases (eq_of_beq e)) (fun _ _ e => by cases e) (fun _ h' => EqNone.eq_int_none h') (by simpa using h)
    · exact eqBool_of (r := false) (fun e => by cases (eq_of_beq e)) (fun _ _ e => by cases e) (fun _ h' => EqMixed.eq_str_int h') (by simpa using h)
    · refine wpAny_eqBool_str ?_
      have : decide (x = y) = decide (V.str x = V.str y) := by by_cases hij : x = y <;> simp [hij]
      rw [this]; exact h
    · exact eqBool_of (r := false) (fun e => by cases (eq_of_beq e)) (fun _ _ e => by cases e) (fun _ h' => EqNone.eq_str_none h') (by simpa using h)
    · exact eqBool_of (r := false) (fun e => by cases (eq_of_beq e)) (fun _ _ e => by cases e) (fun _ h' => EqNone.eq_none_int h') (by simpa using h)
    · exact eqBool_of (r := false) (fun e => by cases (eq_of_beq e)) (fun _ _ e => by cases e) (fun _ h' => EqNone.eq_none_str h') (by simpa using h)
    · exact eqBool_of (r := true) (fun _ => rfl) (fun _ _ e => by cases e) (fun _ h' => EqNone.eq_none_none h') (by simpa using h)
  «strs» := fun k x t v h => by
    rcases keyIs_shape h with ⟨i, u, rfl, e⟩ | ⟨y, u, rfl, e⟩ | ⟨rfl, e⟩
    · cases e
    · cases e; cases v <;> rfl
    · cases e

abbrev tupOf (its : Array Value) (n : Nat) : Obj := { cls := .type "tuple", data := .seq its n }
abbrev rangeOf (a b c : Int) (ta tb tc : Tok) : Obj := { cls := .type "range", data := .fields #[.int a ta, .int b tb, .int c tc] }

noncomputable def PR (ρ : List Addr) (p : V × V) (q : V × Value) : Prop := p.1 = q.1 ∧ VR ρ p.2 q.2
noncomputable def AR (ρ : List Addr) (p : Nat × V) (e : DictEntry) : Prop := p.1 ∈ S.P.attrs ∧ ∃ nm t, S.T[p.1]? = some nm ∧ e.key = .str nm t ∧ VR ρ p.2 e.val

noncomputable def OR (ρ : List Addr) : O → Obj → Prop
  | .list xs, o => ∃ vs n, o = listOf (List.toArray vs) n ∧ All2 (VR ρ) xs vs ∧ xs.length ≤ lim
  | .tup xs, o => ∃ vs n, o = tupOf (List.toArray vs) n ∧ All2 (VR ρ) xs vs ∧ xs.length ≤ lim
  | .dict es, o => ∃ es' n kvs, o = dictOf es' n ∧ KeysOf (vKind S.prog S.w) es'.toArray ∧ Pairs (vKind S.prog S.w) es' kvs ∧ (kvs.map (·.1)).Nodup ∧ All2 (PR ρ) es kvs ∧ es.length ≤ lim
  | .inst c d, o => ∃ C D, S.cls c = some C ∧ ρ[d]? = some D ∧ o = ⟨.ref C, some D, .plain, #[]⟩
  | .attrs es, o => ∃ es' n, o = dictOf es' n ∧ All2 (AR S ρ) es es' ∧ es.length ≤ 100
  | .rng a b c, o => ∃ ta tb tc, o = rangeOf a b c ta tb tc
  | .exc _, _ => False

theorem PR.mono {ρ ρ' : List Addr} (k : ρ <+: ρ') {p : V × V} {q : V × Value} (h : PR ρ p q) : PR ρ' p q := ⟨h.1, h.2.mono k⟩
theorem AR.mono {ρ ρ' : List Addr} (k : ρ <+: ρ') {p : Nat × V} {q : DictEntry} (h : AR S ρ p q) : AR S ρ' p q := by
  obtain ⟨h1, nm, t, h2, h3, h4⟩ := h
  exact ⟨h1, nm, t, h2, h3, h4.mono k⟩
theorem pre_get {ρ ρ' : List Addr} (k : ρ <+: ρ') {a : Nat} {A : Addr} (h : ρ[a]? = some A) : ρ'[a]? = some A := by
  obtain ⟨r, rfl⟩ := k
  rw [List.getElem?_append_left (List.getElem?_eq_some_iff.mp h).1]
  exact h
theorem OR.mono {ρ ρ' : List Addr} (k : ρ <+: ρ') {o : O} {x : Obj} (h : OR S ρ o x) : OR S ρ' o x := by
  cases o with
  | list xs => obtain ⟨vs, n, rfl, h, z⟩ := h; exact ⟨vs, n, rfl, h.mono fun _ _ e => e.mono k, z⟩
  | tup xs => obtain ⟨vs, n, rfl, h, z⟩ := h; exact ⟨vs, n, rfl, h.mono fun _ _ e => e.mono k, z⟩
  | dict es => obtain ⟨es', n, kvs, rfl, h1, h2, h3, h4, z⟩ := h; exact ⟨es', n, kvs, rfl, h1, h2, h3, h4.mono fun _ _ e => e.mono k, z⟩
  | inst c d => obtain ⟨C, D, h1, h2, rfl⟩ := h; exact ⟨C, D, h1, pre_get k h2, rfl⟩
  | attrs es => obtain ⟨es', n, rfl, h, z⟩ := h; exact ⟨es', n, rfl, h.mono fun _ _ e => e.mono S k, z⟩
  | rng a b c => exact h
  | exc c => exact h
theorem OR.notFreed {ρ : List Addr} {o : O} {x : Obj} (h : OR S ρ o x) : x.isFreed = false := by
  cases o with
  | list xs => obtain ⟨vs, n, rfl, h, z⟩ := h; rfl
  | tup xs => obtain ⟨vs, n, rfl, h, z⟩ := h; rfl
  | dict es => obtain ⟨es', n, kvs, rfl, h1, h2, h3, h4, z⟩ := h; rfl
  | inst c d => obtain ⟨C, D, h1, h2, rfl⟩ := h; rfl
  | attrs es => obtain ⟨es', n, rfl, h, z⟩ := h; rfl
  | rng a b c => obtain ⟨ta, tb, tc, rfl⟩ := h; rfl
  | exc c => exact h.elim

abbrev adr (os : List (Addr × Obj)) : List Addr := os.map (·.1)

abbrev Fs := List (Addr × (Str → Option Value))

structure Led (h₀ : Heap) (L : Addr) (m : Str → Option Value) (fs : Fs) (kp os : List (Addr × Obj)) (σ : H) (h : Heap) : Prop where
  fr : Fr h₀ L h m
  news : News h₀ L h (kp ++ os)
  nd : (adr (kp ++ os)).Nodup
  objs : All2 (fun o p => OR S (adr os) o p.2) σ os
  outs : ∀ f ∈ fs, h.Ns f.1 f.2 ∧ f.1 ≠ L ∧ h₀.get? f.1 = none ∧ f.1 ∉ adr (kp ++ os)
  top : ∃ o, h₀.get? mainGlobals = some o
  big : ∀ a ∈ adr (kp ++ os), (a == sysModules) = false
  frz : S.fz <+: os ∧ S.fz.length ≤ S.P.nf

section
variable {S} {h₀ h h' : Heap} {L : Addr} {m : Str → Option Value} {fs : Fs} {kp os : List (Addr × Obj)} {σ : H}
theorem Led.keep (l : Led S h₀ L m fs kp os σ h) (k : ∀ b o, h.get? b = some o → h'.get? b = some o) : Led S h₀ L m fs kp os σ h' :=
  ⟨l.fr.keptAll k, fun p hp => ⟨k _ _ (l.news p hp).1, (l.news p hp).2⟩, l.nd, l.objs, fun f hf => ⟨(l.outs f hf).1.keeps k, (l.outs f hf).2⟩, l.top, l.big, l.frz⟩
theorem Led.at (l : Led S h₀ L m fs kp os σ h) {a : Nat} {o : O} (e : σ.get a = some o) :
    ∃ A x, os[a]? = some (A, x) ∧ (adr os)[a]? = some A ∧ OR S (adr os) o x ∧ h.get? A = some x ∧ A ≠ L ∧ h₀.get? A = none ∧ (A == sysModules) = false := by
  obtain ⟨p, hp, hr⟩ := l.objs.get e
  obtain ⟨A, x⟩ := p
  have := l.news _ (List.mem_append_right _ (List.mem_of_getElem? hp))
  exact ⟨A, x, hp, by simp [adr, hp], hr, this.1, this.2.1, this.2.2, l.big _ (List.mem_map.mpr ⟨_, List.mem_append_right _ (List.mem_of_getElem? hp), rfl⟩)⟩
theorem Led.ref (l : Led S h₀ L m fs kp os σ h) {ρ : List Addr} (k : ρ <+: adr os) {a : Nat} {o : O} {v : Value} (e : σ.get a = some o) (hv : VR ρ (.ref a) v) :
    ∃ A x, v = .ref A ∧ os[a]? = some (A, x) ∧ (adr os)[a]? = some A ∧ OR S (adr os) o x ∧ h.get? A = some x ∧ A ≠ L ∧ h₀.get? A = none ∧ (A == sysModules) = false := by
  obtain ⟨A, x, h1, h2, h3⟩ := l.at e
  obtain ⟨B, hB, rfl⟩ := hv
  have hB := pre_get k hB
  rw [h2] at hB; cases hB
  exact ⟨A, x, rfl, h1, h2, h3⟩
theorem set_self_fst : ∀ {l : List Addr} {a : Nat} {A : Addr}, l[a]? = some A → l.set a A = l
  | [], _, _, e => by simp at e
  | x :: r, 0, _, e => by simp only [List.getElem?_cons_zero, Option.some.injEq] at e; rw [e]; rfl
  | x :: r, a + 1, _, e => by simp only [List.getElem?_cons_succ] at e; rw [List.set_cons_succ, set_self_fst e]
theorem adr_set {os : List (Addr × Obj)} {a : Nat} {A : Addr} {x x' : Obj} (e : os[a]? = some (A, x)) : adr (os.set a (A, x')) = adr os := by
  unfold adr
  rw [List.map_set]
  have : (os.map (·.1))[a]? = some A := by simp [e]
  exact set_self_fst this
theorem mem_set_iff {os : List (Addr × Obj)} {a : Nat} {A : Addr} {x x' : Obj} (nd : (adr os).Nodup) (e : os[a]? = some (A, x)) {p : Addr × Obj} (hp : p ∈ os.set a (A, x')) : p = (A, x') ∨ (p ∈ os ∧ p.1 ≠ A) := by
  obtain ⟨i, hi⟩ := List.getElem?_of_mem hp
  rw [List.getElem?_set] at hi
  split at hi
  · split at hi
    · cases hi; exact .inl rfl
    · cases hi
  · rename_i hne
    refine .inr ⟨List.mem_of_getElem? hi, fun q => hne ?_⟩
    have h1 : (adr os)[a]? = some A := by simp [adr, e]
    have h2 : (adr os)[i]? = some A := by simp [adr, hi, q]
    have ha := (List.getElem?_eq_some_iff.mp h1).1
    exact (List.getElem?_inj ha nd).mp (h1.trans h2.symm)
theorem prefix_set {α : Type} : ∀ {l l' : List α} {a : Nat} {x : α}, l <+: l' → l.length ≤ a → l <+: l'.set a x
  | [], _, _, _, _, _ => List.nil_prefix
  | _ :: _, [], _, _, h, _ => h
  | y :: l, z :: l', 0, _, _, h => by simp at h
  | y :: l, z :: l', a + 1, x, h, h' => by
    rw [List.set_cons_succ]
    rw [List.cons_prefix_cons] at h ⊢
    exact ⟨h.1, prefix_set h.2 (by simpa using h')⟩
theorem notMods {a : Addr} (h : mainGlobals < a) : (a == sysModules) = false := by
  have h1 : mainGlobals = 3 := rfl
  have h2 : sysModules = 1 := rfl
  rw [h1] at h; rw [h2]
  exact beq_eq_false_iff_ne.mpr (fun e => by rw [e] at h; exact absurd h (by decide))
theorem Led.upd (l : Led S h₀ L m fs kp os σ h) {a : Nat} {A : Addr} {x x' : Obj} {o' : O} (hnf : S.P.nf ≤ a) (e : os[a]? = some (A, x)) (hs : Heap.SameBut A h h') (hx : h'.get? A = some x') (hr : OR S (adr os) o' x') :
    Led S h₀ L m fs kp (os.set a (A, x')) (σ.put a o') h' := by
  have hA := l.news (A, x) (List.mem_append_right _ (List.mem_of_getElem? e))
  have ad : adr (os.set a (A, x')) = adr os := adr_set e
  have adk : adr (kp ++ os.set a (A, x')) = adr (kp ++ os) := by
    unfold adr at ad ⊢; rw [List.map_append, List.map_append, ad]
  have ndo : (adr os).Nodup := by have := l.nd; rw [adr, List.map_append] at this; exact (List.nodup_append.mp this).2.1
  have apart : ∀ p ∈ kp, p.1 ≠ A := fun p hp q => by
    have := l.nd
    rw [adr, List.map_append] at this
    exact (List.nodup_append.mp this).2.2 p.1 (List.mem_map_of_mem hp) A (List.mem_map.mpr ⟨_, List.mem_of_getElem? e, rfl⟩) q
  refine ⟨l.fr.change hs hA.2.1 hA.2.2, fun p hp => ?_, by rw [adk]; exact l.nd, by rw [ad]; exact l.objs.set hr a, fun f hf => ?_, l.top, by rw [adk]; exact l.big, prefix_set l.frz.1 (Nat.le_trans l.frz.2 hnf), l.frz.2⟩
  · rcases List.mem_append.mp hp with hp | hp
    · have := l.news p (List.mem_append_left _ hp)
      exact ⟨(hs.2 _ (apart p hp)).trans this.1, this.2⟩
    · rcases mem_set_iff ndo e hp with rfl | ⟨hp, hne⟩
      · exact ⟨hx, hA.2⟩
      · have := l.news p (List.mem_append_right _ hp)
        exact ⟨(hs.2 _ hne).trans this.1, this.2⟩
  · have := l.outs f hf
    have hne : f.1 ≠ A := fun q => this.2.2.2 (q ▸ List.mem_map.mpr ⟨_, List.mem_append_right _ (List.mem_of_getElem? e), rfl⟩)
    exact ⟨this.1.sameBut hs hne, this.2.1, this.2.2.1, by rw [adk]; exact this.2.2.2⟩
theorem adr_new {os : List (Addr × Obj)} {p : Addr × Obj} : adr os <+: adr (os ++ [p]) := by rw [adr, adr, List.map_append]; exact List.prefix_append _ _
theorem Led.free (l : Led S h₀ L m fs kp os σ h) {q : Addr} (hf : h.get? q = none) : q ≠ L ∧ h₀.get? q = none ∧ q ∉ adr (kp ++ os) ∧ ∀ f ∈ fs, f.1 ≠ q := by
  refine ⟨fun e => ?_, ?_, fun hm => ?_, fun f hm e => ?_⟩
  · obtain ⟨oL, _, _, hL, _⟩ := l.fr.ns
    rw [e, hL] at hf; cases hf
  · cases e : h₀.get? q with
    | none => rfl
    | some y => rw [l.fr.keep _ _ e] at hf; cases hf
  · obtain ⟨p, hp, rfl⟩ := List.mem_map.mp hm
    rw [(l.news p hp).1] at hf; cases hf
  · obtain ⟨oL, _, _, hL, _⟩ := (l.outs f hm).1
    rw [e, hf] at hL; cases hL
theorem Led.new (l : Led S h₀ L m fs kp os σ h) {q : Addr} {x : Obj} {o : O} (k : ∀ b o, h.get? b = some o → h'.get? b = some o) (hf : h.get? q = none) (hq : mainGlobals < q) (hx : h'.get? q = some x) (hr : OR S (adr os) o x) :
    Led S h₀ L m fs kp (os ++ [(q, x)]) (σ.push o) h' := by
  have pf : adr os <+: adr (os ++ [(q, x)]) := adr_new
  obtain ⟨q1, q2, q3, q4⟩ := l.free hf
  have adk : adr (kp ++ (os ++ [(q, x)])) = adr (kp ++ os) ++ [q] := by simp [adr]
  refine ⟨l.fr.keptAll k, fun p hp => ?_, ?_, (l.objs.mono fun _ _ e => e.mono S pf).append (.one (hr.mono S pf)), fun f hf => ?_, l.top, ?_, l.frz.1.trans (List.prefix_append _ _), l.frz.2⟩
  · rw [← List.append_assoc] at hp
    rcases List.mem_append.mp hp with hp | hp
    · exact ⟨k _ _ (l.news p hp).1, (l.news p hp).2⟩
    · rw [List.mem_singleton.mp hp]
      exact ⟨hx, q1, q2⟩
  · rw [adk]
    refine List.nodup_append.mpr ⟨l.nd, by simp, fun b hb c hc e => ?_⟩
    rw [List.mem_singleton.mp hc] at e
    exact q3 (e ▸ hb)
  · have := l.outs f hf
    refine ⟨this.1.keeps k, this.2.1, this.2.2.1, ?_⟩
    rw [adk]
    intro hm
    rcases List.mem_append.mp hm with hm | hm
    · exact this.2.2.2 hm
    · exact q4 f hf (List.mem_singleton.mp hm)
  · rw [adk]
    intro b hb
    rcases List.mem_append.mp hb with hb | hb
    · exact l.big b hb
    · rw [List.mem_singleton.mp hb]; exact notMods hq
theorem Led.room (l : Led S h₀ L m fs kp os σ h) : mainGlobals < h.objs.size := let ⟨o, ho⟩ := l.top; Heap.lt_size (l.fr.keep _ _ ho)
theorem Led.len (l : Led S h₀ L m fs kp os σ h) : σ.length = (adr os).length := by simp [adr, l.objs.length]
theorem Led.ref_new (l : Led S h₀ L m fs kp os σ h) {p : Addr × Obj} : VR (adr (os ++ [p])) (.ref σ.length) (.ref p.1) :=
  ⟨p.1, by rw [l.len]; simp [adr], rfl⟩
end

set_option genInjectivity false in
structure Cx where
  A : Around
  env : Env
  h₀ : Heap
  L : Addr
  m : Str → Option Value
  fs : Fs
  kp : List (Addr × Obj)

abbrev Cx.led (c : Cx) (os : List (Addr × Obj)) (σ : H) (h : Heap) : Prop := Led S c.h₀ c.L c.m c.fs c.kp os σ h

noncomputable def Fly (_c : Cx) (_e : Value) (_k : Nat) (_h : Heap) : Prop := False

noncomputable def SM {α β : Type} (c : Cx) (ρ₀ : List Addr) (RV : List Addr → β → α → Prop) (t : Sem α) (x : X β) : Prop :=
  ∀ (os : List (Addr × Obj)) (σ : H) (s : Shared) (r : R β) (σ' : H), ρ₀ <+: adr os → c.led S os σ s.heap → x σ = some (r, σ') →
    ∀ (Q : α → Shared → Prop) (E : Value → Shared → Prop),
      (match r with
        | .ok b => ∀ os' h' tk a, adr os <+: adr os' → c.led S os' σ' h' → RV (adr os') b a → Q a { s with heap := h', toks := tk }
        | .err k => ∀ os' h' tk e, adr os <+: adr os' → c.led S os' σ' h' → Fly c e k h' → E e { s with heap := h', toks := tk }) →
      wpAny (model S.prog S.w) c.A t Q E s

section
variable {S} {α β γ δ : Type} {c : Cx} {ρ : List Addr} {RV : List Addr → β → α → Prop} {RW : List Addr → δ → γ → Prop}
theorem SM.mono {t : Sem α} {x : X β} {ρ' : List Addr} (h : SM S c ρ RV t x) (k : ρ <+: ρ') : SM S c ρ' RV t x :=
  fun os σ s r σ' hp => h os σ s r σ' (k.trans hp)
theorem SM.pure {a : α} {b : β} (h : ∀ ρ', ρ <+: ρ' → RV ρ' b a) : SM S c ρ RV (Pure.pure a) (X.pure b) := by
  intro os σ s r σ' hp hl hx Q E hQ
  cases hx
  exact wpAny_pure (hQ os s.heap s.toks a (List.prefix_rfl) hl (h _ hp))
theorem SM.bind {t : Sem α} {x : X β} {f : α → Sem γ} {g : β → X δ} (h1 : SM S c ρ RV t x) (h2 : ∀ ρ' b a, ρ <+: ρ' → RV ρ' b a → SM S c ρ' RW (f a) (g b)) : SM S c ρ RW (t >>= f) (X.bind x g) := by
  intro os σ s r σ' hp hl hx Q E hQ
  unfold X.bind at hx
  split at hx
  · rename_i b σ₁ hb
    refine wpAny_bind (h1 os σ s _ _ hp hl hb _ _ fun os' h' tk a k l' hr => ?_)
    refine h2 _ b a (hp.trans k) hr os' σ₁ { s with heap := h', toks := tk } r σ' (List.prefix_rfl) l' hx Q E ?_
    cases r with
    | ok d => exact fun os'' h'' tk' a' k' l'' hr' => hQ os'' h'' tk' a' (k.trans k') l'' hr'
    | err e => exact fun os'' h'' tk' a' k' l'' hr' => hQ os'' h'' tk' a' (k.trans k') l'' hr'
  · rename_i k σ₁ hb
    cases hx
    exact wpAny_bind (h1 os σ s _ _ hp hl hb _ _ hQ)
  · cases hx
theorem SM.hold {t : Sem α} {x : X β} {vs : List Value} (h : SM S c ρ RV t x) : SM S c ρ RV (holding vs t) x :=
  fun os σ s r σ' hp hl hx Q E hQ => wpAny_holding (h os σ s r σ' hp hl hx Q E hQ)
theorem SM.stand {t : Sem α} {x : X β} {p : Pos} (h : SM S c ρ RV t x) : SM S c ρ RV (do standAt p; t) x :=
  fun os σ s r σ' hp hl hx Q E hQ => wpAny_bind (wpAny_standAt (h os σ s r σ' hp hl hx Q E hQ))
theorem SM.eq {t t' : Sem α} {x : X β} (h : SM S c ρ RV t x) (e : t' = t) : SM S c ρ RV t' x := e ▸ h
theorem SM.eqx {t : Sem α} {x x' : X β} (h : SM S c ρ RV t x) (e : x' = x) : SM S c ρ RV t x' := e ▸ h
theorem SM.none {t : Sem α} : SM S c ρ RV t (X.none : X β) := fun _ _ _ _ _ _ _ hx => by cases hx
end

end Mine

set_option autoImplicit false
namespace Mine
open PySem PySem.W PySem.Calls PyProof.Rows
variable {S : Sig} {c : Cx} {ρ : List Addr}

theorem get_size (h : Heap) : h.get? h.objs.size = none := by
  cases e : h.get? h.objs.size with
  | none => rfl
  | some o => exact absurd (Heap.lt_size e) (Nat.lt_irrefl _)
theorem Led.pushed {h₀ h : Heap} {L : Addr} {m : Str → Option Value} {fs : Fs} {kp os : List (Addr × Obj)} {σ : H} (l : Led S h₀ L m fs kp os σ h) {x : Obj} {o : O} (hr : OR S (adr os) o x) :
    Led S h₀ L m fs kp (os ++ [(h.objs.size, x)]) (σ.push o) (h.push x) :=
  l.new (fun _ _ e => Heap.get?_push_of_some _ e) (get_size h) l.room (Heap.get?_push_size _ (hr.notFreed S)) hr

theorem getM_inv {P : Prog} {σ : H} {a : Nat} {o : O} (h : σ.getM P a = some o) : σ.get a = some o ∧ P.nf ≤ a := by
  unfold H.getM at h
  split at h
  · rename_i q; exact ⟨h, q⟩
  · cases h
theorem dict_of {h : Heap} {A : Addr} {es' : List DictEntry} {n : Nat} {kvs : List (V × Value)} (h1 : h.get? A = some (dictOf es' n)) (k1 : KeysOf (vKind S.prog S.w) es'.toArray) (k2 : Pairs (vKind S.prog S.w) es' kvs)
    (k3 : (kvs.map (·.1)).Nodup) : h.DictOf (vKind S.prog S.w) A kvs := ⟨_, _, n, h1, ⟨rfl, rfl, rfl⟩, rfl, k1, by simpa using k2, k3⟩
theorem of_dict {h : Heap} {A : Addr} {kvs : List (V × Value)} (x : h.DictOf (vKind S.prog S.w) A kvs) :
    ∃ es' n, h.get? A = some (dictOf es' n) ∧ KeysOf (vKind S.prog S.w) es'.toArray ∧ Pairs (vKind S.prog S.w) es' kvs ∧ (kvs.map (·.1)).Nodup := by
  obtain ⟨⟨oc, od, odt, osl⟩, es, n, h1, ⟨c1, c2, c3⟩, hd, k1, k2, k3⟩ := x
  dsimp only at c1 c2 c3 hd
  subst c1 c2 c3 hd
  exact ⟨es.toList, n, by simpa using h1, by simpa using k1, k2, k3⟩

theorem small_bits {i : Int} (h : small i = true) : i.natAbs < 2 ^ 64 := by simpa [small] using h
theorem okS_len {s : Str} (h : okS s = true) : s.length ≤ lim := of_decide_eq_true (Bool.and_eq_true_iff.mp h).1
theorem okS_ok {s : Str} (h : okS s = true) : PyData.strOk s = true := (Bool.and_eq_true_iff.mp h).2
theorem lim_le : lim ≤ sizeLine := by rw [sizeLine_eq]; decide

theorem VR.ne_none {ρ : List Addr} {v : V} {x : Value} (h : VR ρ v x) : (x == Value.none) = decide (v = V.none) := by
  cases v with
  | none => cases h; rfl
  | bool b => cases h; rfl
  | int i => obtain ⟨t, rfl⟩ := h; rfl
  | str s => obtain ⟨t, rfl, _⟩ := h; rfl
  | ref a => obtain ⟨A, _, rfl⟩ := h; rfl
  | top i => exact h.elim

theorem VRs.mono {ρ ρ' : List Addr} (k : ρ <+: ρ') {xs : List V} {vs : List Value} (h : All2 (VR ρ) xs vs) : All2 (VR ρ') xs vs := h.mono fun _ _ e => e.mono k


theorem bits_small {i : Int} (h : small i = true) : Builtin.Int.intBits i ≤ 64 := by
  have h := small_bits h
  unfold Builtin.Int.intBits
  split
  · lia
  · rename_i hz
    have hz' : i.natAbs ≠ 0 := by
      intro e; apply hz; simp [Int.natAbs_eq_zero.mp e]
    have := (Nat.log2_lt hz').mpr h
    lia
theorem log2_small {i : Int} (h : small i = true) : i.natAbs.log2 < 9000 := by
  have h := small_bits h
  by_cases hz' : i.natAbs = 0
  · rw [hz']; decide
  · have := (Nat.log2_lt hz').mpr h
    lia
theorem twoInts_eq {a b : V} {f : Int → Int → Option (R V × H)} {r : R V × H} (h : twoInts a b f = some r) : ∃ x y, a = .int x ∧ b = .int y ∧ f x y = some r := by
  obtain ⟨x, hx, h1⟩ := onInt_eq h
  obtain ⟨y, hy, h2⟩ := onInt_eq h1
  exact ⟨x, y, hx, hy, h2⟩
theorem sm_binop {op : Operator} {x y : V} {a b : Value} (hx : VR ρ x a) (hy : VR ρ y b) : SM S c ρ VR (binaryOp op a b) (binop op x y) := by
  intro os σ s r σ' hp hl he Q E hQ
  cases op with
  | Add =>
    cases x with
    | int x =>
      have hq := onInt_eq (show onInt y _ = some (r, σ') from he)
      clear he
      obtain ⟨y, rfl, he⟩ := hq
      obtain ⟨t, rfl⟩ := hx; obtain ⟨u, rfl⟩ := hy
      cases he
      exact PySem.P.add_int (hQ os _ _ _ List.prefix_rfl hl ⟨_, rfl⟩)
    | _ => cases he
  | Sub =>
    have hq := twoInts_eq (show twoInts x y _ = some (r, σ') from he)
    clear he
    obtain ⟨x, y, rfl, rfl, he⟩ := hq
    obtain ⟨t, rfl⟩ := hx; obtain ⟨u, rfl⟩ := hy
    cases he
    exact PySem.P.sub_int (hQ os _ _ _ List.prefix_rfl hl ⟨_, rfl⟩)
  | FloorDiv =>
    have hq := twoInts_eq (show twoInts x y _ = some (r, σ') from he)
    clear he
    obtain ⟨x, y, rfl, rfl, he⟩ := hq
    obtain ⟨t, rfl⟩ := hx; obtain ⟨u, rfl⟩ := hy
    split at he
    · cases he
    · rename_i hy0
      split at he
      · rename_i hsm
        cases he
        exact floordiv_int hy0 (hQ os _ _ _ List.prefix_rfl hl ⟨_, rfl⟩) (.inl (PyProof.noPylong_of_log2 (log2_small hsm)))
      · cases he
  | Mod =>
    have hq := twoInts_eq (show twoInts x y _ = some (r, σ') from he)
    clear he
    obtain ⟨x, y, rfl, rfl, he⟩ := hq
    obtain ⟨t, rfl⟩ := hx; obtain ⟨u, rfl⟩ := hy
    split at he
    · cases he
    · rename_i hy0
      cases he
      exact mod_int' hy0 (hQ os _ _ _ List.prefix_rfl hl ⟨_, rfl⟩)
  | Mult =>
    have hq := twoInts_eq (show twoInts x y _ = some (r, σ') from he)
    clear he
    obtain ⟨x, y, rfl, rfl, he⟩ := hq
    obtain ⟨t, rfl⟩ := hx; obtain ⟨u, rfl⟩ := hy
    split at he
    · rename_i hsm
      cases he
      refine PySem.P.mul_int (hQ os _ _ _ List.prefix_rfl hl ⟨_, rfl⟩) ?_
      rcases Bool.or_eq_true_iff.mp hsm with h | h
      · exact IntMulOk.of_left (bits_small h)
      · exact IntMulOk.of_right (bits_small h)
    · cases he
  | _ => cases he

abbrev EqR {β : Type} : List Addr → β → β → Prop := fun _ a b => a = b

theorem sm_truth {x : V} {a : Value} (hx : VR ρ x a) : SM S c ρ EqR (truthy a) (truth x) := by
  intro os σ s r σ' hp hl he Q E hQ
  unfold truth at he
  split at he
  · cases hx; cases he
    exact truthy_none (hQ os _ _ _ List.prefix_rfl hl rfl)
  · cases hx; cases he
    exact wpAny_truthy_bool (hQ os _ _ _ List.prefix_rfl hl rfl)
  · obtain ⟨t, rfl⟩ := hx; cases he
    refine PySem.P.truthy_int (hQ os _ _ _ List.prefix_rfl hl ?_)
    show decide _ = _
    rename_i i
    by_cases h : i = 0 <;> simp [h]
  · obtain ⟨t, rfl, hz⟩ := hx; cases he
    have hz' := okS_len hz
    have : lim < 2 ^ 63 := by decide
    refine PySem.P.truthy_str (by lia) (hQ os _ _ _ List.prefix_rfl hl ?_)
    show decide _ = _
    rename_i st
    by_cases h : st.length = 0
    · simp [h]
    · have : ((st.length : Int) != 0) = true := by simp; lia
      rw [this]; simp [h]
  · split at he
    · rename_i xs ha
      obtain ⟨A, o1, rfl, e1, e2, ⟨vs, n, rfl, hvs, hz⟩, h1, _⟩ := hl.ref hp ha hx
      cases he
      have : lim < 2 ^ 63 := by decide
      have hlen := hvs.length
      refine wpAny_truthy_list (PySem.IsL.isList (n := n) h1) (by simp; lia) (hQ os _ _ _ List.prefix_rfl hl ?_)
      show (!_) = _
      cases hvs <;> simp
    · rename_i xs ha
      obtain ⟨A, o1, rfl, e1, e2, ⟨vs, n, rfl, hvs, hz⟩, h1, _⟩ := hl.ref hp ha hx
      cases he
      have : lim < 2 ^ 63 := by decide
      have hlen := hvs.length
      refine truthy_tuple ⟨_, h1, rfl, n, rfl⟩ (by simp; lia) (hQ os _ _ _ List.prefix_rfl hl ?_)
      show (!_) = _
      cases hvs <;> simp
    · rename_i es ha
      obtain ⟨A, o1, rfl, e1, e2, ⟨es', n, kvs, rfl, k1, k2, k3, k4, hz⟩, h1, hL, hn, hb⟩ := hl.ref hp ha hx
      cases he
      have : lim < 2 ^ 63 := by decide
      have hlen := k4.length
      refine wpAny_truthy_dict hb (knd := vKind S.prog S.w) (kvs := kvs) (dict_of h1 k1 k2 k3) (by lia) (hQ os _ _ _ List.prefix_rfl hl ?_)
      show (!_) = _
      cases k4 <;> simp
    · cases he
  · cases he

theorem reads_data {h₀ h : Heap} {L : Addr} {m : Str → Option Value} {fs : Fs} {kp os : List (Addr × Obj)} {σ : H} (l : Led S h₀ L m fs kp os σ h) :
    ∀ (n : Nat) (x : V) (d : PyData) (a : Value), dataOf σ n x = some d → VR (adr os) x a → (∃ as, Reads h a d as) ∧ d.canLay0 = true ∧ d.depth ≤ n := by
  intro n
  induction n with
  | zero => intro x d a e; cases e
  | succ n ih =>
    intro x d a e hv
    have all : ∀ (xs : List V) (ds : List PyData) (vs : List Value), optAll (dataOf σ n) xs = some ds → All2 (VR (adr os)) xs vs → (∃ as, ReadsAll h vs ds as) ∧ PyData.canLayAll0 ds = true ∧ PyData.depthAll ds ≤ n := by
      intro xs
      induction xs with
      | nil => intro ds vs e h2; cases e; cases h2; exact ⟨⟨_, .nil⟩, rfl, Nat.zero_le _⟩
      | cons y ys ihy =>
        intro ds vs e h2
        unfold optAll at e
        split at e
        · rename_i d' ds' e1 e2
          cases e
          cases h2 with
          | cons h1 h2 =>
            obtain ⟨⟨as, r1⟩, c1, p1⟩ := ih _ _ _ e1 h1
            obtain ⟨⟨bs, r2⟩, c2, p2⟩ := ihy _ _ e2 h2
            exact ⟨⟨_, .cons r1 r2⟩, by simp only [PyData.canLayAll0, c1, c2, Bool.and_self], by simp only [PyData.depthAll]; lia⟩
        · cases e
    unfold dataOf at e
    cases x with
    | none => cases hv; cases e; exact ⟨⟨_, .none⟩, rfl, by simp [PyData.depth]⟩
    | bool b => cases hv; cases e; exact ⟨⟨_, .bool b⟩, rfl, by simp [PyData.depth]⟩
    | int i => obtain ⟨t, rfl⟩ := hv; cases e; exact ⟨⟨_, .int i t⟩, rfl, by simp [PyData.depth]⟩
    | str st => obtain ⟨t, rfl, hk⟩ := hv; cases e; exact ⟨⟨_, .str st t⟩, okS_ok hk, by simp [PyData.depth]⟩
    | ref b =>
      dsimp only at e
      split at e
      · rename_i xs ha
        obtain ⟨ds, e1, rfl⟩ := Option.map_eq_some_iff.mp e
        obtain ⟨A, o1, rfl, _, _, ⟨vs, k, rfl, hvs, _⟩, h1, _⟩ := l.ref List.prefix_rfl ha hv
        obtain ⟨⟨as, r⟩, c1, p1⟩ := all _ _ _ e1 hvs
        exact ⟨⟨_, .list h1 rfl rfl (by simpa using r)⟩, c1, by simp only [PyData.depth]; lia⟩
      · rename_i xs ha
        obtain ⟨ds, e1, rfl⟩ := Option.map_eq_some_iff.mp e
        obtain ⟨A, o1, rfl, _, _, ⟨vs, k, rfl, hvs, _⟩, h1, _⟩ := l.ref List.prefix_rfl ha hv
        obtain ⟨⟨as, r⟩, c1, p1⟩ := all _ _ _ e1 hvs
        exact ⟨⟨_, .tuple h1 rfl rfl (by simpa using r)⟩, c1, by simp only [PyData.depth]; lia⟩
      · cases e
    | top i => cases e

noncomputable def Room (c : Cx) : Prop := c.A.units + 100 < cLine

theorem X.bind_inv {α β : Type} {m : X α} {f : α → X β} {σ σ' : H} {r : R β} (h : X.bind m f σ = some (r, σ')) : (∃ a σ₁, m σ = some (.ok a, σ₁) ∧ f a σ₁ = some (r, σ')) ∨ (∃ k, m σ = some (.err k, σ') ∧ r = .err k) := by
  unfold X.bind at h
  split at h
  · rename_i a σ₁ e; exact .inl ⟨a, σ₁, e, h⟩
  · rename_i k σ₁ e; cases h; exact .inr ⟨k, e, rfl⟩
  · cases h

theorem key_is {ρ : List Addr} {x : V} {a : Value} (h : VR ρ x a) (hk : (isKey x || decide (x = .none)) = true) : keyIs x a = true := by
  cases x with
  | none => cases h; rfl
  | int i => obtain ⟨t, rfl⟩ := h; simp [keyIs, Value.isInt]
  | str st => obtain ⟨t, rfl, _⟩ := h; simp [keyIs, Value.isStrOf]
  | _ => simp [isKey] at hk
theorem valueAt_dget {ρ : List Addr} : ∀ {es : List (V × V)} {kvs : List (V × Value)}, All2 (PR ρ) es kvs → ∀ k, (valueAt kvs k = none ∧ dget es k = none) ∨ ∃ v x, dget es k = some v ∧ valueAt kvs k = some x ∧ VR ρ v x
  | _, _, .nil, k => .inl ⟨rfl, rfl⟩
  | _, _, .cons (a := (k1, v1)) (b := (k2, x2)) ⟨h1, h2⟩ hr, k => by
    dsimp only at h1 h2
    subst h1
    by_cases hk : k1 = k
    · exact .inr ⟨v1, x2, by simp [dget, hk], by simp [valueAt, hk], h2⟩
    · rcases valueAt_dget hr k with ⟨e1, e2⟩ | ⟨v, x, e1, e2, e3⟩
      · exact .inl ⟨by simpa [valueAt, List.find?_cons, hk] using e1, by simpa [dget, hk] using e2⟩
      · exact .inr ⟨v, x, by simpa [dget, hk] using e1, by simpa [valueAt, List.find?_cons, hk] using e2, e3⟩

theorem sm_contains (hr : Room c) {x y : V} {a b : Value} (hx : VR ρ x a) (hy : VR ρ y b) {neg : Bool} :
    SM S c ρ VR (compareOp (if neg then .NotIn else .In) a b) (X.bind (contains S.P x y) fun r => X.pure (.bool (neg ^^ r))) := by
  intro os σ s r σ' hp hl he Q E hQ
  have hx' := hx.mono hp
  have hy' := hy.mono hp
  have fin : ∀ b : Bool, contains S.P x y σ = some (.ok b, σ) → ∀ tk, Q (.bool (neg ^^ b)) { s with toks := tk } := fun b e tk => by
    unfold X.bind at he; rw [e] at he; cases he
    exact hQ os _ tk _ List.prefix_rfl hl rfl
  rcases X.bind_inv he with ⟨b', σ₁, e, he'⟩ | ⟨k, e, rfl⟩
  · unfold contains at e fin
    cases y with
    | ref k =>
      dsimp only at e fin
      cases hk : σ.get k with
      | none => rw [hk] at e; cases e
      | some o =>
        rw [hk] at e fin
        cases o with
        | list ys =>
          obtain ⟨A, o1, rfl, _, _, ⟨vs, n, rfl, hvs, _⟩, h1, _⟩ := hl.ref hp hk hy
          dsimp only [inList] at e fin
          cases e1 : dataOf σ 5 x with
          | none => rw [e1] at e; cases e
          | some d =>
            cases e2 : optAll (dataOf σ 4) ys with
            | none => rw [e1, e2] at e; cases e
            | some ds =>
              rw [e1, e2] at fin
              have fin := fun tk => fin _ rfl tk
              obtain ⟨⟨as, r1⟩, c1, p1⟩ := reads_data hl _ _ _ _ e1 hx'
              have ed : dataOf σ 5 (.ref k) = some (.list ds) := by show (match σ.get k with | some (.list xs) => _ | some (.tup xs) => _ | _ => _) = _; rw [hk]; dsimp only; rw [e2]; rfl
              obtain ⟨⟨bs, r2⟩, c2, p2⟩ := reads_data hl _ _ _ _ ed hy'
              have hu : c.A.units + 1 + min (PyData.depthAll ds) d.depth < cLine := by unfold Room at hr; have := Nat.min_le_right (PyData.depthAll ds) d.depth; lia
              cases neg with
              | true => exact SeqAt.notIn_list_reads r2 r1 c2 c1 hu (by simpa using fin s.toks)
              | false => exact SeqAt.in_list_reads r2 r1 c2 c1 hu (by simpa using fin s.toks)
        | tup ys =>
          obtain ⟨A, o1, rfl, _, _, ⟨vs, n, rfl, hvs, _⟩, h1, _⟩ := hl.ref hp hk hy
          dsimp only [inList] at e fin
          cases e1 : dataOf σ 5 x with
          | none => rw [e1] at e; cases e
          | some d =>
            cases e2 : optAll (dataOf σ 4) ys with
            | none => rw [e1, e2] at e; cases e
            | some ds =>
              rw [e1, e2] at fin
              have fin := fun tk => fin _ rfl tk
              obtain ⟨⟨as, r1⟩, c1, p1⟩ := reads_data hl _ _ _ _ e1 hx'
              have ed : dataOf σ 5 (.ref k) = some (.tuple ds) := by show (match σ.get k with | some (.list xs) => _ | some (.tup xs) => _ | _ => _) = _; rw [hk]; dsimp only; rw [e2]; rfl
              obtain ⟨⟨bs, r2⟩, c2, p2⟩ := reads_data hl _ _ _ _ ed hy'
              have hu : c.A.units + 1 + min (PyData.depthAll ds) d.depth < cLine := by unfold Room at hr; have := Nat.min_le_right (PyData.depthAll ds) d.depth; lia
              cases neg with
              | true => exact SeqAt.notIn_tuple_reads r2 r1 c2 c1 hu (by simpa using fin s.toks)
              | false => exact SeqAt.in_tuple_reads r2 r1 c2 c1 hu (by simpa using fin s.toks)
        | dict es =>
          dsimp only at e fin
          split at e
          · rename_i hkey
            rw [if_pos hkey] at fin
            have fin := fun tk => fin _ rfl tk
            obtain ⟨A, o1, rfl, _, _, ⟨es', n, kvs, rfl, k1, k2, k3, k4, hz⟩, h1, hL, hn, hb⟩ := hl.ref hp hk hy
            have hd : s.heap.DictOf (vKind S.prog S.w) A kvs := dict_of h1 k1 k2 k3
            have hq : (valueAt kvs x).isSome = (dget es x).isSome := by rcases valueAt_dget k4 x with ⟨e1, e2⟩ | ⟨v, x, e1, e2, e3⟩ <;> rw [e1, e2] <;> rfl
            cases neg with
            | true => exact wpAny_notIn_of (knd := vKind S.prog S.w) (key_is hx hkey) hb hd.mapOf (by rw [hq]; simpa using fin (s.toks + 1))
            | false => exact wpAny_in_of (knd := vKind S.prog S.w) (key_is hx hkey) hb hd.mapOf (by rw [hq]; simpa using fin (s.toks + 1))
          · cases e
        | _ => cases e
    | top i => exact hy.elim
    | str st => cases x <;> cases e
    | _ => cases e
  · unfold contains at e
    split at e
    · split at e
      · obtain ⟨_, _, e⟩ := Option.map_eq_some_iff.mp e; cases e
      · obtain ⟨_, _, e⟩ := Option.map_eq_some_iff.mp e; cases e
      · split at e <;> cases e
      · cases e
    · exact hy.elim
    · split at e <;> cases e
    · cases e

theorem deq_inv {h₀ h : Heap} {L : Addr} {m : Str → Option Value} {fs : Fs} {kp os : List (Addr × Obj)} {σ : H} (hl : Led S h₀ L m fs kp os σ h) {x y : V} {a b : Value} (hx' : VR (adr os) x a) (hy' : VR (adr os) y b) {q : Bool} (he : deq σ x y = some q) :
    ∃ d d2 as bs, Reads h a d as ∧ Reads h b d2 bs ∧ SeqAt.shaped d = true ∧ SeqAt.shaped d2 = true ∧ q = PyData.eqv d d2 := by
  unfold deq at he
  cases e1 : dataOf σ 5 x with
  | none => rw [e1] at he; cases he
  | some d =>
    cases e2 : dataOf σ 5 y with
    | none => rw [e1, e2] at he; cases he
    | some d2 =>
      rw [e1, e2] at he
      cases he
      obtain ⟨⟨as, r1⟩, c1, p1⟩ := reads_data hl _ _ _ _ e1 hx'
      obtain ⟨⟨bs, r2⟩, c2, p2⟩ := reads_data hl _ _ _ _ e2 hy'
      have s1 : SeqAt.shaped d = true := by simp only [SeqAt.shaped, c1, Bool.true_and, decide_eq_true_eq]; lia
      have s2 : SeqAt.shaped d2 = true := by simp only [SeqAt.shaped, c2, Bool.true_and, decide_eq_true_eq]; lia
      exact ⟨d, d2, as, bs, r1, r2, s1, s2, rfl⟩

theorem sm_cmpop (hr : Room c) {op : CmpOp} {x y : V} {a b : Value} (hx : VR ρ x a) (hy : VR ρ y b) : SM S c ρ VR (compareOp op a b) (cmpop S.P op x y) := by
  have hu : c.A.units + 64 < cLine := by unfold Room at hr; lia
  cases op with
  | In =>
    refine (sm_contains (neg := false) hr hx hy).eqx ?_
    funext σ; show X.bind _ _ σ = X.bind _ _ σ; congr 1
    funext b; simp
  | NotIn =>
    refine (sm_contains (neg := true) hr hx hy).eqx ?_
    funext σ; show X.bind _ _ σ = X.bind _ _ σ; congr 1
    funext b; simp
  | Eq =>
    intro os σ s r σ' hp hl he Q E hQ
    obtain ⟨q, e, he⟩ := Option.map_eq_some_iff.mp (show (deq σ x y).map _ = _ from he)
    cases he
    obtain ⟨d, d2, as, bs, r1, r2, s1, s2, rfl⟩ := deq_inv hl (hx.mono hp) (hy.mono hp) e
    exact eq_dataH r1 r2 s1 s2 hu (hQ os _ _ _ List.prefix_rfl hl rfl)
  | NotEq =>
    intro os σ s r σ' hp hl he Q E hQ
    obtain ⟨q, e, he⟩ := Option.map_eq_some_iff.mp (show (deq σ x y).map _ = _ from he)
    cases he
    obtain ⟨d, d2, as, bs, r1, r2, s1, s2, rfl⟩ := deq_inv hl (hx.mono hp) (hy.mono hp) e
    exact ne_dataH r1 r2 s1 s2 hu (hQ os _ _ _ List.prefix_rfl hl rfl)
  | Lt =>
    intro os σ s r σ' hp hl he Q E hQ
    unfold cmpop at he
    dsimp only at he
    split at he
    · obtain ⟨t, rfl⟩ := hx; obtain ⟨u, rfl⟩ := hy
      cases he
      exact PySem.P.lt_int (hQ os _ _ _ List.prefix_rfl hl rfl)
    · cases he
  | LtE =>
    intro os σ s r σ' hp hl he Q E hQ
    unfold cmpop at he
    dsimp only at he
    split at he
    · obtain ⟨t, rfl⟩ := hx; obtain ⟨u, rfl⟩ := hy
      cases he
      exact PySem.P.le_int (hQ os _ _ _ List.prefix_rfl hl rfl)
    · cases he
  | Gt =>
    intro os σ s r σ' hp hl he Q E hQ
    unfold cmpop at he
    dsimp only at he
    split at he
    · obtain ⟨t, rfl⟩ := hx; obtain ⟨u, rfl⟩ := hy
      cases he
      exact PySem.P.gt_int (hQ os _ _ _ List.prefix_rfl hl rfl)
    · cases he
  | GtE =>
    intro os σ s r σ' hp hl he Q E hQ
    unfold cmpop at he
    dsimp only at he
    split at he
    · obtain ⟨t, rfl⟩ := hx; obtain ⟨u, rfl⟩ := hy
      cases he
      exact PySem.P.ge_int (hQ os _ _ _ List.prefix_rfl hl rfl)
    · cases he
  | Is =>
    intro os σ s r σ' hp hl he Q E hQ
    unfold cmpop at he
    dsimp only at he
    split at he
    · cases hy
      cases he
      refine is_none_gen (hQ os _ _ _ List.prefix_rfl hl ?_)
      rw [hx.ne_none]; rfl
    · cases he
  | IsNot =>
    intro os σ s r σ' hp hl he Q E hQ
    unfold cmpop at he
    dsimp only at he
    split at he
    · cases hy
      cases he
      refine isnot_none_gen (hQ os _ _ _ List.prefix_rfl hl ?_)
      rw [hx.ne_none]
      show Value.bool _ = Value.bool _
      simp
    · cases he

end Mine

set_option autoImplicit false
namespace Mine
open PySem PySem.W PySem.Calls PyProof.Rows
variable {S : Sig} {c : Cx} {ρ : List Addr}

theorem idx_some {i : Int} {n j : Nat} (h : idx i n = some j) : 0 ≤ i ∧ i < n ∧ j = i.toNat := by
  unfold idx at h
  split at h
  · rename_i hc; cases h; exact ⟨hc.1, hc.2, rfl⟩
  · cases h
theorem put_at {prog : Program} {w : World} {A : Around} {E : Value → Shared → Prop} {s : Shared} {a : Addr} {vs : Array Value} {n : Nat} {i : Int} {t : Tok} {v : Value} {Q : Unit → Shared → Prop} (ho : s.heap.get? a = some (listOf vs n)) (h0 : 0 ≤ i) (hb : i < 2 ^ 63) (hi : i < vs.size)
    (hQ : Q () { s with heap := s.heap.update a (Obj.mapSeq (·.setIfInBounds i.toNat v)) }) : wpAny (model prog w) A (PySem.setItem (.ref a) (.int i t) v) Q E s := by
  have ty : s.TypeIs (.ref a) "list" := (PySem.IsL.isList (n := n) ho).typeIs
  have fits := fitsIndex_of h0 hb
  clear hb
  unfold PySem.setItem
  try with_reducible refine wpAny_holding ?_
  first | refine wpAny_bind (wpAny_pure ?_) | skip
  refine wpAny_bind (wpAny_sequenceKey ty (by decide) ?_)
  refine wpAny_bind (wpAny_callSpecial?_slot (name := Str.ofString "__setitem__") ty slot_list_setitem (wpAny_call_entry slot_list_setitem ty entry_list_setitem ?_ (args_list_setitem _ _ _)))
  show wpAny _ _ (Builtin.List.listSubscript? (.int i t) >>= _) _ _ s
  refine wpAny_bind (wpAny_listSubscript_int fits ?_)
  clear fits
  obtain ⟨j, rfl⟩ := Int.eq_ofNat_of_zero_le h0
  have there : vs[j]? = some vs[j] := Array.getElem?_eq_getElem (by lia)
  show wpAny _ _ ((seqItemAt a j >>= fun r => pure (r.map (j, ·))) >>= _) _ _ s
  refine wpAny_bind (wpAny_bind (wpAny_seqItemAt ho rfl (wpAny_pure ?_)))
  rw [there]
  show wpAny _ _ (setSeqItemAt a j v >>= _) _ _ s
  refine wpAny_bind (wpAny_setSeqItemAt ho rfl ?_)
  first
    | exact wpAny_pure ⟨.none, rfl, wpAny_pure hQ⟩
    | exact wpAny_bind (wpAny_pure (wpAny_pure ⟨.none, rfl, wpAny_pure hQ⟩))
theorem lim63 : (lim : Int) < 2 ^ 63 := by decide

theorem sm_getItem {value slice : Expr} {x y : V} {a b : Value} (hx : VR ρ x a) (hy : VR ρ y b)
    (hs : ∀ o i, subscripted slice false o i = operate [o, i] (PySem.getItem o i)) : SM S c ρ VR (subscriptTail value slice a b) (getItem S.P x y) := by
  intro os σ s r σ' hp hl he Q E hQ
  unfold getItem at he
  cases x with
  | ref k =>
    dsimp only at he
    cases hk : σ.get k with
    | none => rw [hk] at he; cases he
    | some o =>
      rw [hk] at he
      cases o with
      | list xs =>
        obtain ⟨A, o1, rfl, _, _, ⟨vs, n, rfl, hvs, hz⟩, h1, _⟩ := hl.ref hp hk hx
        cases y with
        | int i =>
          dsimp only at he
          obtain ⟨v, e, he⟩ := Option.map_eq_some_iff.mp he
          cases he
          obtain ⟨j, e1, e2⟩ := Option.bind_eq_some_iff.mp e
          obtain ⟨i0, i1, rfl⟩ := idx_some e1
          obtain ⟨w, hw, hr⟩ := hvs.get e2
          obtain ⟨t, rfl⟩ := hy
          have hL : s.heap.IsList A vs.toArray := PySem.IsL.isList (n := n) h1
          have := lim63
          exact tail_any hL.typeIs slot_list_getitem.lookup (wpAny_getItem_list hL i0 (by lia) (by simpa using hw) (hQ os _ _ _ List.prefix_rfl hl hr)) (hs _ _)
        | _ => cases he
      | tup xs =>
        obtain ⟨A, o1, rfl, _, _, ⟨vs, n, rfl, hvs, hz⟩, h1, _⟩ := hl.ref hp hk hx
        cases y with
        | int i =>
          dsimp only at he
          obtain ⟨v, e, he⟩ := Option.map_eq_some_iff.mp he
          cases he
          obtain ⟨j, e1, e2⟩ := Option.bind_eq_some_iff.mp e
          obtain ⟨i0, i1, rfl⟩ := idx_some e1
          obtain ⟨w, hw, hr⟩ := hvs.get e2
          obtain ⟨t, rfl⟩ := hy
          have hL : IsTup s.heap A vs.toArray := ⟨_, h1, rfl, n, rfl⟩
          have := lim63
          have hlen := hvs.length
          have hj : seqIndex? i vs.length = some i.toNat := by
            have h0 : ¬ i < 0 := by lia
            unfold seqIndex?
            simp only [h0, if_false]
            rw [if_pos (by simp; lia)]
          exact item_tupleT hL (by lia) (by lia) hj hw (hQ os _ _ _ List.prefix_rfl hl hr) (hs _ _)
        | _ => cases he
      | dict es =>
        obtain ⟨A, o1, rfl, _, _, ⟨es', n, kvs, rfl, k1, k2, k3, k4, hz⟩, h1, hL, hn, hb⟩ := hl.ref hp hk hx
        have he : (if isKey y = true then Option.map (fun v => (R.ok v, σ)) (dget es y) else none) = some (r, σ') := by cases y <;> exact he
        split at he
        · rename_i hkey
          obtain ⟨v, e, he⟩ := Option.map_eq_some_iff.mp he
          cases he
          have hd : s.heap.DictOf (vKind S.prog S.w) A kvs := dict_of h1 k1 k2 k3
          rcases valueAt_dget k4 y with ⟨_, e2⟩ | ⟨v', w, e1, e2, e3⟩
          · rw [e2] at e; cases e
          · rw [e] at e1; cases e1
            have hm := hd.mapOf
            exact tail_any hm.typeIs slot_dict_getitem.lookup (wpAny_getItem_of (knd := vKind S.prog S.w) (key_is hy (by rw [hkey]; rfl)) hm e2 (hQ os _ _ _ List.prefix_rfl hl e3)) (hs _ _)
        · cases he
      | _ => cases y <;> cases he
  | top i => exact hx.elim
  | _ => cases he

theorem dset_stored {ρ : List Addr} {k w : V} {x : Value} (hw : VR ρ w x) : ∀ {es : List (V × V)} {kvs : List (V × Value)}, All2 (PR ρ) es kvs → (kvs.map (·.1)).Nodup → All2 (PR ρ) (dset es k w) (stored kvs k x)
  | _, _, .nil, _ => by
    simp only [dset, stored, List.any_nil, Bool.false_eq_true, if_false, List.nil_append]
    exact .one ⟨rfl, hw⟩
  | _, _, .cons (a := (k1, v1)) (b := (k2, x2)) (as := es) (bs := kvs) ⟨h1, h2⟩ hr, nd => by
    dsimp only at h1 h2
    subst h1
    rw [List.map_cons, List.nodup_cons] at nd
    by_cases hk : k1 = k
    · subst hk
      have e : stored ((k1, x2) :: kvs) k1 x = (k1, x) :: kvs := by
        unfold stored
        rw [if_pos (by simp)]
        simp only [List.map_cons, if_true]
        rw [map_store_of_not_mem _ _ _ nd.1]
      rw [e]; simp only [dset, if_true]
      exact .cons ⟨rfl, hw⟩ hr
    · have ih := dset_stored (k := k) hw hr nd.2
      have e : stored ((k1, x2) :: kvs) k x = (k1, x2) :: stored kvs k x := by
        unfold stored
        simp only [List.any_cons, hk, decide_false, Bool.false_or, List.map_cons, if_false]
        split <;> simp
      rw [e]; simp only [dset, hk, if_false]
      exact .cons ⟨rfl, h2⟩ ih
theorem mapSeq_set {vs : List Value} {n j : Nat} {v : Value} : Obj.mapSeq (·.setIfInBounds j v) (listOf vs.toArray n) = listOf (vs.set j v).toArray n := by
  simp [Obj.mapSeq]

abbrev Any {α β : Type} : List Addr → β → α → Prop := fun _ _ _ => True

theorem sm_setItem {x y w : V} {a b v : Value} (hx : VR ρ x a) (hy : VR ρ y b) (hw : VR ρ w v) : SM S c ρ Any (PySem.setItem a b v) (setItem S.P x y w) := by
  intro os σ s r σ' hp hl he Q E hQ
  unfold setItem at he
  cases x with
  | ref k =>
    dsimp only at he
    cases hk : σ.getM S.P k with
    | none => rw [hk] at he; cases he
    | some o =>
      rw [hk] at he
      obtain ⟨hk', hnf⟩ := getM_inv hk
      cases o with
      | list xs =>
        obtain ⟨A, o1, rfl, eA, _, ⟨vs, n, rfl, hvs, hz⟩, h1, _⟩ := hl.ref hp hk' hx
        cases y with
        | int i =>
          dsimp only at he
          obtain ⟨j, e1, he⟩ := Option.map_eq_some_iff.mp he
          cases he
          obtain ⟨i0, i1, rfl⟩ := idx_some e1
          obtain ⟨t, rfl⟩ := hy
          have := lim63
          have hlen := hvs.length
          refine put_at h1 i0 (by lia) (by simp; lia) (hQ (os.set k (A, listOf (vs.set i.toNat v).toArray n)) _ s.toks () ?_ (hl.upd hnf eA (Heap.SameBut.update ..) ?_ ?_) trivial)
          · rw [adr_set eA]; exact List.prefix_rfl
          · rw [← mapSeq_set]; exact Heap.get?_update_self _ h1 rfl
          · exact ⟨vs.set i.toNat v, n, rfl, hvs.set (hw.mono hp) _, by simpa using hz⟩
        | _ => cases he
      | dict es =>
        obtain ⟨A, o1, rfl, eA, _, ⟨es', n, kvs, rfl, k1, k2, k3, k4, hz⟩, h1, hL, hn, hb⟩ := hl.ref hp hk' hx
        have he : (if isKey y = true then (if okO (.dict (dset es y w)) = true then some (R.ok (), σ.put k (.dict (dset es y w))) else none) else none) = some (r, σ') := by cases y <;> exact he
        split at he
        · rename_i hkey
          split at he
          · rename_i hok
            cases he
            have hok : (dset es y w).length ≤ lim := of_decide_eq_true hok
            have hd : s.heap.DictOf (vKind S.prog S.w) A kvs := dict_of h1 k1 k2 k3
            refine wpAny_setItem_pairs (knd := vKind S.prog S.w) (key_is hy (by rw [hkey]; rfl)) hd (fun h' hd' hs' => ?_) ?_
            · obtain ⟨es'', n', g1, g2, g3, g4⟩ := of_dict hd'
              refine hQ (os.set k (A, dictOf es'' n')) _ _ () ?_ (hl.upd hnf eA hs' g1 ?_) trivial
              · rw [adr_set eA]; exact List.prefix_rfl
              · exact ⟨es'', n', _, rfl, g2, g3, g4, dset_stored (hw.mono hp) k4 k3, hok⟩
            · have := k4.length; exact Nat.le_trans (by lia) lim_le
          · cases he
        · cases he
      | _ => cases y <;> cases he
  | _ => cases he

theorem sm_newList {xs : List V} {vs : List Value} (h : All2 (VR ρ) xs vs) : SM S c ρ VR (newList vs) (alloc (.list xs)) := by
  intro os σ s r σ' hp hl he Q E hQ
  unfold alloc at he
  split at he
  · rename_i hk
    cases he
    have hk : xs.length ≤ lim := of_decide_eq_true hk
    refine wpAny_newObj_type (hQ (os ++ [(_, listOf vs.toArray 0)]) _ s.toks _ adr_new (hl.pushed (o := .list xs) ⟨vs, 0, rfl, VRs.mono hp h, hk⟩) (hl.ref_new (p := (_, _)))) ?_
    show vs.toArray.size ≤ sizeLine
    rw [List.size_toArray, ← h.length]; exact Nat.le_trans hk lim_le
  · cases he
theorem sm_newTuple {xs : List V} {vs : List Value} (h : All2 (VR ρ) xs vs) : SM S c ρ VR (newTuple vs) (alloc (.tup xs)) := by
  intro os σ s r σ' hp hl he Q E hQ
  unfold alloc at he
  split at he
  · rename_i hk
    cases he
    have hk : xs.length ≤ lim := of_decide_eq_true hk
    refine wpAny_newObj_type (hQ (os ++ [(_, tupOf vs.toArray 0)]) _ s.toks _ adr_new (hl.pushed (o := .tup xs) ⟨vs, 0, rfl, VRs.mono hp h, hk⟩) (hl.ref_new (p := (_, _)))) ?_
    show vs.toArray.size ≤ sizeLine
    rw [List.size_toArray, ← h.length]; exact Nat.le_trans hk lim_le
  · cases he
theorem keysOf_nil : KeysOf (vKind S.prog S.w) (#[] : Array DictEntry) := fun e he => by simp at he
theorem sm_newDict : SM S c ρ VR newDict (alloc (.dict [])) := by
  intro os σ s r σ' hp hl he Q E hQ
  cases he
  unfold newDict
  exact wpAny_newObj_type (hQ (os ++ [(_, dictOf [] 0)]) _ s.toks _ adr_new (hl.pushed (o := .dict []) ⟨[], 0, [], rfl, keysOf_nil, .nil, by simp, .nil, by decide⟩) (hl.ref_new (p := (_, _))))

end Mine

set_option autoImplicit false
namespace Mine
open PySem PySem.W PySem.Calls PyProof.Rows
variable {S : Sig} {c : Cx} {ρ : List Addr}

noncomputable def NsObj (o : Obj) (m : Str → Option Value) : Prop := ∃ es ep, o.data = .dict es ep ∧ StrKeys es ∧ ∀ name, nsFind es name = m name
theorem ns_obj {h : Heap} {a : Addr} {m : Str → Option Value} (x : h.Ns a m) : ∃ o, h.get? a = some o ∧ NsObj o m := let ⟨o, es, ep, h1, h2, h3, h4⟩ := x; ⟨o, h1, es, ep, h2, h3, h4⟩
theorem NsObj.ns {h : Heap} {a : Addr} {m : Str → Option Value} {o : Obj} (x : NsObj o m) (e : h.get? a = some o) : h.Ns a m := let ⟨es, ep, h2, h3, h4⟩ := x; ⟨o, es, ep, e, h2, h3, h4⟩

theorem Led.frames {h₀ h : Heap} {L : Addr} {m : Str → Option Value} {fs : Fs} {kp os : List (Addr × Obj)} {σ : H} (l : Led S h₀ L m fs kp os σ h) :
    ∃ F : List (Addr × Obj), (∀ f ∈ fs, ∃ o, (f.1, o) ∈ F ∧ NsObj o f.2) ∧ ∀ p ∈ F, h.get? p.1 = some p.2 ∧ p.1 ≠ L ∧ h₀.get? p.1 = none ∧ p.1 ∉ adr (kp ++ os) := by
  have hO := l.outs
  clear l
  induction fs with
  | nil => exact ⟨[], (fun f hf => (nomatch hf)), (fun p hp => (nomatch hp))⟩
  | cons f fs ih =>
    obtain ⟨F, h1, h2⟩ := ih fun g hg => hO g (.tail _ hg)
    have hf := hO f (.head _)
    obtain ⟨o, ho, hn⟩ := ns_obj hf.1
    refine ⟨(f.1, o) :: F, fun g hg => ?_, fun p hp => ?_⟩
    · rcases List.mem_cons.mp hg with rfl | hg
      · exact ⟨o, .head _, hn⟩
      · obtain ⟨o', h3, h4⟩ := h1 g hg
        exact ⟨o', .tail _ h3, h4⟩
    · rcases List.mem_cons.mp hp with rfl | hp
      · exact ⟨ho, hf.2⟩
      · exact h2 p hp
theorem Led.wide {h₀ h : Heap} {L : Addr} {m : Str → Option Value} {fs : Fs} {kp os : List (Addr × Obj)} {σ : H} (l : Led S h₀ L m fs kp os σ h) :
    ∃ F : List (Addr × Obj), News h₀ L h (kp ++ os ++ F) ∧ (∀ p ∈ F, p.1 ∉ adr (kp ++ os)) ∧ ∀ {h' : Heap} {os' : List (Addr × Obj)} {σ' : H}, Fr h₀ L h' m → News h₀ L h' (kp ++ os' ++ F) → adr os' = adr os → S.fz <+: os' →
      All2 (fun o p => OR S (adr os) o p.2) σ' os' → Led S h₀ L m fs kp os' σ' h' := by
  obtain ⟨F, h1, h2⟩ := l.frames
  refine ⟨F, fun p hp => ?_, fun p hp => (h2 p hp).2.2.2, fun {h'} {os'} {σ'} fr nw ad fz ob => ?_⟩
  · rcases List.mem_append.mp hp with hp | hp
    · exact l.news p hp
    · exact ⟨(h2 p hp).1, (h2 p hp).2.1, (h2 p hp).2.2.1⟩
  · have adk : adr (kp ++ os') = adr (kp ++ os) := by
      have : os'.map (·.1) = os.map (·.1) := ad
      simp only [adr, List.map_append, this]
    refine ⟨fr, fun p hp => nw p (List.mem_append_left _ hp), by rw [adk]; exact l.nd, by rw [ad]; exact ob, fun f hf => ?_, l.top, by rw [adk]; exact l.big, fz, l.frz.2⟩
    obtain ⟨o, h3, h4⟩ := h1 f hf
    have := nw _ (List.mem_append_right _ h3)
    exact ⟨h4.ns this.1, this.2.1, this.2.2, by rw [adk]; exact (l.outs f hf).2.2.2⟩

structure AttrOK (S : Sig) (C : Addr) (nm : Str) : Prop where
  g : plainGet S.K C nm = true
  h : hasDictIn S.K C = true
  f : findIn S.K (.ref C) nm = some none
  s : findIn S.K (.ref C) "__setattr__" = some (some (.builtin "object.__setattr__"))
  p : plainOver S.K C = true
  t : takerIn S.K C nm = some none

structure TabOK (S : Sig) : Prop where
  nodup : S.T.Nodup
  attrs : ∀ n ∈ S.P.attrs, ∃ nm, S.T[n]? = some nm ∧ ∀ k C, S.cls k = some C → AttrOK S C nm

theorem T_inj (TV : TabOK S) {i j : Nat} {nm : Str} (h1 : S.T[i]? = some nm) (h2 : S.T[j]? = some nm) : i = j :=
  (List.getElem?_inj (List.getElem?_eq_some_iff.mp h1).1 TV.nodup).mp (h1.trans h2.symm)

theorem attrs_get (TV : TabOK S) {n : Nat} {nm : Str} (hn : S.T[n]? = some nm) : ∀ {es : List (Nat × V)} {es' : List DictEntry}, All2 (AR S ρ) es es' →
    (aget es n = none ∧ getL nm es' = some none) ∨ ∃ v x, aget es n = some v ∧ getL nm es' = some (some x) ∧ VR ρ v x
  | _, _, .nil => .inl ⟨rfl, rfl⟩
  | _, _, .cons (a := (k, v)) (b := e) (as := es) (bs := es') ⟨h1, nm', t, h2, h3, h4⟩ hr => by
    dsimp only at h1 h2 h4
    have ih := attrs_get TV hn hr
    have hk : e.key.isStr nm = decide (k = n) := by
      rw [h3]
      show (nm' == nm) = _
      by_cases hkn : k = n
      · subst hkn; rw [h2] at hn; cases hn; simp
      · have : nm' ≠ nm := fun q => hkn (T_inj TV h2 (q ▸ hn))
        simp [hkn, this]
    have hrk : e.refKey = false := by unfold DictEntry.refKey; rw [h3]
    by_cases hkn : k = n
    · refine .inr ⟨v, e.val, by simp [aget, hkn], ?_, h4⟩
      simp [getL, hk, hkn]
    · rcases ih with ⟨e1, e2⟩ | ⟨v', x, e1, e2, e3⟩
      · refine .inl ⟨by simpa [aget, hkn] using e1, ?_⟩
        unfold getL at e2 ⊢
        simp only [List.find?_cons, hk, decide_eq_false hkn, List.any_cons, hrk, Bool.false_or]
        exact e2
      · refine .inr ⟨v', x, by simpa [aget, hkn] using e1, ?_, e3⟩
        unfold getL at e2 ⊢
        simp only [List.find?_cons, hk, decide_eq_false hkn, List.any_cons, hrk, Bool.false_or]
        exact e2

theorem attrs_set (TV : TabOK S) {n : Nat} {nm : Str} {hsh : Int} {t : Tok} {w : V} {x : Value} (hn : S.T[n]? = some nm) (hm : n ∈ S.P.attrs) (hw : VR ρ w x) : ∀ {es : List (Nat × V)} {es' : List DictEntry}, All2 (AR S ρ) es es' →
    All2 (AR S ρ) (aset es n w) (putL nm hsh (.str nm t) x es')
  | _, _, .nil => .one ⟨hm, nm, t, hn, rfl, hw⟩
  | _, _, .cons (a := (k, v)) (b := e) (as := es) (bs := es') ⟨h1, nm', t', h2, h3, h4⟩ hr => by
    dsimp only at h1 h2 h4
    have ih := attrs_set TV (hsh := hsh) (t := t) hn hm hw hr
    have hk : e.key.isStr nm = decide (k = n) := by
      rw [h3]
      show (nm' == nm) = _
      by_cases hkn : k = n
      · subst hkn; rw [h2] at hn; cases hn; simp
      · have : nm' ≠ nm := fun q => hkn (T_inj TV h2 (q ▸ hn))
        simp [hkn, this]
    by_cases hkn : k = n
    · subst hkn
      simp only [aset, if_true, putL, hk, decide_true]
      exact .cons ⟨h1, nm', t', h2, h3, hw⟩ hr
    · simp only [aset, if_neg hkn, putL, hk, decide_eq_false hkn, Bool.false_eq_true, if_false]
      exact .cons ⟨h1, nm', t', h2, h3, h4⟩ ih
theorem VR.handed {v : V} {x : Value} (h : VR ρ v x) : handedIn x = true := by
  cases v with
  | none => cases h; rfl
  | bool b => cases h; rfl
  | int i => obtain ⟨t, rfl⟩ := h; rfl
  | str s => obtain ⟨t, rfl, _⟩ := h; rfl
  | ref a => obtain ⟨A, _, rfl⟩ := h; rfl
  | top i => exact h.elim

theorem attrs_mem {n : Nat} {v : V} : ∀ {es : List (Nat × V)} {es' : List DictEntry}, All2 (AR S ρ) es es' → aget es n = some v → n ∈ S.P.attrs
  | _, _, .nil, e => by cases e
  | _, _, .cons (a := (k, w)) h hr, e => by
    simp only [aget] at e
    split at e
    · rename_i q; subst q; exact h.1
    · exact attrs_mem hr e
theorem upd_split {d : Addr} {o o' : Obj} : ∀ {pre post : List (Addr × Obj)}, (∀ p ∈ pre, p.1 ≠ d) → (∀ p ∈ post, p.1 ≠ d) → Upd d o o' (pre ++ (d, o) :: post) (pre ++ (d, o') :: post)
  | [], _, _, h2 => .head h2
  | p :: _, _, h1, h2 => .tail (h1 p (.head _)) (upd_split (fun q hq => h1 q (.tail _ hq)) h2)

noncomputable def TopIn (S : Sig) (c : Cx) : Prop := S.K.In c.h₀

theorem sm_getAttr (TV : TabOK S) (KX : TopIn S c) {x : V} {a : Value} {n : Nat} {nm : Str} {ex : Bool} (hn : S.T[n]? = some nm) (hx : VR ρ x a) : SM S c ρ VR (PySem.getAttr a nm ex) (getAttr x n) := by
  intro os σ s r σ' hp hl he Q E hQ
  unfold getAttr at he
  cases x with
  | ref k =>
    dsimp only at he
    cases hk : σ.get k with
    | none => rw [hk] at he; cases he
    | some o =>
      rw [hk] at he
      cases o with
      | inst cl d =>
        dsimp only at he
        obtain ⟨A, o1, rfl, _, _, ⟨C, D, hC, hD, rfl⟩, h1, _⟩ := hl.ref hp hk hx
        cases hd : σ.get d with
        | none => rw [hd] at he; cases he
        | some od =>
          rw [hd] at he
          cases od with
          | attrs es =>
            dsimp only at he
            obtain ⟨v, e, he⟩ := Option.map_eq_some_iff.mp he
            cases he
            obtain ⟨D', o2, _, eD, ⟨es', n', rfl, hes, hz⟩, h2, _⟩ := hl.at hd
            rw [hD] at eD; cases eD
            have hm : n ∈ S.P.attrs := attrs_mem hes e
            obtain ⟨nm', hn', hA⟩ := TV.attrs n hm
            rw [hn] at hn'; cases hn'
            have ok := hA _ _ hC
            rcases attrs_get TV hn hes with ⟨e1, _⟩ | ⟨v', w, e1, e2, e3⟩
            · rw [e1] at e; cases e
            · rw [e] at e1; cases e1
              have I : InstAt s.heap A ⟨.ref C, some D, .plain, #[]⟩ C (some (dictOf es' n')) := ⟨h1, rfl, rfl, h2⟩
              exact get_own (attr := none) hl.fr KX I ok.g ok.h ok.f rfl e2 e3.handed (hQ os _ _ _ List.prefix_rfl hl e3)
          | _ => cases he
      | _ => cases he
  | _ => cases he

theorem split_at {os : List (Addr × Obj)} {a : Nat} {p : Addr × Obj} (e : os[a]? = some p) : os = os.take a ++ p :: os.drop (a + 1) := by
  have h := (List.getElem?_eq_some_iff.mp e)
  obtain ⟨h1, h2⟩ := h
  rw [← h2, List.getElem_cons_drop, List.take_append_drop]
theorem nodup_split {pre post : List (Addr × Obj)} {D : Addr} {x : Obj} (h : (adr (pre ++ (D, x) :: post)).Nodup) : (∀ p ∈ pre, p.1 ≠ D) ∧ ∀ p ∈ post, p.1 ≠ D := by
  rw [adr, List.map_append, List.map_cons] at h
  obtain ⟨h1, h2, h3⟩ := List.nodup_append.mp h
  refine ⟨fun p hp q => h3 p.1 (List.mem_map_of_mem hp) D (.head _) q, fun p hp q => ?_⟩
  exact (List.nodup_cons.mp h2).1 (List.mem_map.mpr ⟨p, hp, q⟩)
theorem set_split {os : List (Addr × Obj)} {a : Nat} {p q : Addr × Obj} (e : os[a]? = some p) : os.set a q = os.take a ++ q :: os.drop (a + 1) := by
  rw [List.set_eq_take_append_cons_drop, if_pos (List.getElem?_eq_some_iff.mp e).1]

theorem sm_setAttr (TV : TabOK S) (KX : TopIn S c) {x w : V} {a v : Value} {n : Nat} {nm : Str} (hn : S.T[n]? = some nm) (hx : VR ρ x a) (hw : VR ρ w v) : SM S c ρ Any (PySem.setAttr a nm v) (setAttr S.P x n w) := by
  intro os σ s r σ' hp hl he Q E hQ
  unfold setAttr at he
  cases x with
  | ref k =>
    dsimp only at he
    cases hk : σ.get k with
    | none => rw [hk] at he; cases he
    | some o =>
      rw [hk] at he
      cases o with
      | inst cl d =>
        dsimp only at he
        obtain ⟨A, o1, rfl, _, _, ⟨C, D, hC, hD, rfl⟩, h1, _⟩ := hl.ref hp hk hx
        cases hd : σ.getM S.P d with
        | none => rw [hd] at he; cases he
        | some od =>
          rw [hd] at he
          obtain ⟨hd', hnf⟩ := getM_inv hd
          cases od with
          | attrs es =>
            dsimp only at he
            split at he
            · rename_i hmem
              cases he
              have hm : n ∈ S.P.attrs := by simpa using (Bool.and_eq_true_iff.mp hmem).1
              obtain ⟨D', o2, eD', eD, ⟨es', n', rfl, hes, hz⟩, h2, hDL, _⟩ := hl.at hd'
              rw [hD] at eD; cases eD
              obtain ⟨nm', hn', hA⟩ := TV.attrs n hm
              rw [hn] at hn'; cases hn'
              have ok := hA _ _ hC
              have I : InstAt s.heap A ⟨.ref C, some D, .plain, #[]⟩ C (some (dictOf es' n')) := ⟨h1, rfl, rfl, h2⟩
              obtain ⟨F, N, NF, back⟩ := hl.wide
              have hlk : (getL nm es').isSome = true := by rcases attrs_get TV hn hes with ⟨_, e2⟩ | ⟨v', w, _, e2, _⟩ <;> rw [e2] <;> rfl
              have hlen := hes.length
              have hmem' := Bool.and_eq_true_iff.mp hmem
              have hz' : (aset es n w).length ≤ 100 := of_decide_eq_true hmem'.2
              have hset := attrs_set TV (hsh := PyData.keyHash S.w.params nm) (t := s.toks + 1) hn hm (hw.mono hp) hes
              have hlen' := hset.length
              have hsp : ∀ q : Obj, c.kp ++ os.set d (D, q) ++ F = (c.kp ++ os.take d) ++ (D, q) :: (os.drop (d + 1) ++ F) := fun q => by
                rw [set_split eD']; simp
              have hsp0 : c.kp ++ os ++ F = (c.kp ++ os.take d) ++ (D, dictOf es' n') :: (os.drop (d + 1) ++ F) := by
                conv => lhs; rw [split_at eD']
                simp
              have nd := hl.nd
              rw [split_at eD', ← List.append_assoc] at nd
              obtain ⟨nd1, nd2⟩ := nodup_split nd
              have hDm : D ∈ adr (c.kp ++ os) := List.mem_map.mpr ⟨_, List.mem_append_right _ (List.mem_of_getElem? eD'), rfl⟩
              have U : Upd D (dictOf es' n') (dictOf (putL nm (PyData.keyHash S.w.params nm) (.str nm (s.toks + 1)) v es') (putN nm es' n')) (c.kp ++ os ++ F) (c.kp ++ os.set d (D, dictOf (putL nm (PyData.keyHash S.w.params nm) (.str nm (s.toks + 1)) v es') (putN nm es' n')) ++ F) := by
                rw [hsp, hsp0]
                refine upd_split nd1 fun p hp => ?_
                rcases List.mem_append.mp hp with hp | hp
                · exact nd2 p hp
                · exact fun q => NF p hp (q ▸ hDm)
              refine set_dict hl.fr KX N I rfl ok.s ok.p ok.t ok.h hlk rfl U (by lia) fun h' F' N' => ?_
              refine hQ _ _ _ () ?_ (back F' N' (adr_set eD') (prefix_set hl.frz.1 (Nat.le_trans hl.frz.2 hnf)) (hl.objs.set (a := .attrs (aset es n w)) (b := (D, dictOf (putL nm (PyData.keyHash S.w.params nm) (.str nm (s.toks + 1)) v es') (putN nm es' n'))) ⟨_, _, rfl, hset, hz'⟩ d)) trivial
              rw [adr_set eD']; exact List.prefix_rfl
            · cases he
          | _ => cases he
      | _ => cases he
  | _ => cases he

end Mine

set_option autoImplicit false
namespace Mine
open PySem PySem.W PySem.Calls PyProof.Rows
variable {S : Sig} {c : Cx} {ρ : List Addr}

theorem insertI_perm (x : Int) (l : List Int) : (insertI x l).Perm (x :: l) := by
  induction l with
  | nil => exact List.Perm.refl _
  | cons y r ih =>
    simp only [insertI]
    split
    · exact List.Perm.refl _
    · exact (ih.cons y).trans (List.Perm.swap x y r)
theorem sortI_perm (l : List Int) : (sortI l).Perm l := by
  induction l with
  | nil => exact List.Perm.refl _
  | cons x r ih => exact (insertI_perm x _).trans (ih.cons x)
theorem insertI_sorted (x : Int) {l : List Int} (h : l.Pairwise (· ≤ ·)) : (insertI x l).Pairwise (· ≤ ·) := by
  induction l with
  | nil => simp [insertI]
  | cons y r ih =>
    simp only [insertI]
    rw [List.pairwise_cons] at h
    split
    · rename_i hxy
      refine List.pairwise_cons.mpr ⟨fun z hz => ?_, List.pairwise_cons.mpr h⟩
      rcases List.mem_cons.mp hz with rfl | hz
      · exact hxy
      · exact Int.le_trans hxy (h.1 z hz)
    · rename_i hxy
      refine List.pairwise_cons.mpr ⟨fun z hz => ?_, ih h.2⟩
      rcases List.mem_cons.mp ((insertI_perm x r).mem_iff.mp hz) with rfl | hz
      · lia
      · exact h.1 z hz
theorem sortI_sorted (l : List Int) : (sortI l).Pairwise (· ≤ ·) := by
  induction l with
  | nil => exact List.Pairwise.nil
  | cons x r ih => exact insertI_sorted x ih
theorem sorted_unique : ∀ {a b : List Int}, a.Perm b → a.Pairwise (· ≤ ·) → b.Pairwise (· ≤ ·) → a = b
  | [], b, p, _, _ => (List.nil_perm.mp p).symm
  | x :: a, [], p, _, _ => absurd p.length_eq (by simp)
  | x :: a, y :: b, p, ha, hb => by
    rw [List.pairwise_cons] at ha hb
    have hxy : x = y := by
      have h1 : x ∈ y :: b := p.mem_iff.mp (.head _)
      have h2 : y ∈ x :: a := p.mem_iff.mpr (.head _)
      rcases List.mem_cons.mp h1 with h1 | h1
      · exact h1
      · rcases List.mem_cons.mp h2 with h2 | h2
        · exact h2.symm
        · have := hb.1 x h1; have := ha.1 y h2; lia
    subst hxy
    rw [sorted_unique (List.Perm.cons_inv p) ha.2 hb.2]

theorem vr_ints {ρ : List Addr} : ∀ {vs : List Value} {ns : List Int}, IntsAre vs ns → All2 (VR ρ) (ns.map V.int) vs
  | _, _, .nil => .nil
  | _, _, .cons n t h => .cons ⟨t, rfl⟩ (vr_ints h)
theorem intsOf_length : ∀ {xs : List V} {ns : List Int}, intsOf xs = some ns → ns.length = xs.length
  | [], _, e => by cases e; rfl
  | x :: xs, ns, e => by
    cases x with
    | int i =>
      simp only [intsOf] at e
      obtain ⟨ms, e1, rfl⟩ := Option.map_eq_some_iff.mp e
      simp [intsOf_length e1]
    | _ => cases e

noncomputable def biVal : Bi → Value
  | .len => .builtin "len"
  | .sorted => .builtin "sorted"
  | .list => .type "list"
  | .tuple => .type "tuple"
  | .str => .type "str"
  | .int => .type "int"
  | .range => .type "range"
  | .min => .builtin "min"
  | .max => .builtin "max"
  | .set => .type "set"
  | .zip => .type "zip"

theorem sort_new {A : Around} {E : Value → Shared → Prop} {s : Shared} {vs : List Value} {ns : List Int} {Q : Value → Shared → Prop} (hI : IntsAre vs ns) (h64 : vs.length < 64)
    (h : ∀ h' (out : List Value) n, (∀ b o, s.heap.get? b = some o → h'.get? b = some o) → h'.get? s.heap.objs.size = some (W.listOf out.toArray n) → IntsAre out (sortI ns) → Q (.ref s.heap.objs.size) { s with heap := h' }) :
    wpAny (model S.prog S.w) A (call (.builtin "list.sort") [.ref s.heap.objs.size]) (fun _ s' => Q (.ref s.heap.objs.size) s') E { s with heap := s.heap.push (W.listOf vs.toArray 0) } := by
  have hoL : (s.heap.push (W.listOf vs.toArray 0)).get? s.heap.objs.size = some (seqObj "list" vs.toArray 0) := Heap.get?_push_size _ rfl
  refine wpAny_call_entry slot_list_sort ⟨_, hoL, rfl⟩ entry_list_sort (list_sort_tree hoL hI h64 fun out ns' a1 a2 a3 => ⟨_, rfl, ?_⟩) (args_list_sort _)
  have e : ns' = sortI ns := sorted_unique (a2.trans (sortI_perm ns).symm) a3 (sortI_sorted ns)
  subst e
  obtain ⟨n, hn⟩ := sortedHeap_at (h := s.heap.push (W.listOf vs.toArray 0)) (out := out) hoL
  refine h _ out.toList n (fun b o hb => ?_) (by simpa using hn) a1
  have hlt := Heap.lt_size hb
  rw [sortedHeap_old (Nat.ne_of_lt hlt) (by rw [Heap.size_push]; exact Nat.lt_succ_of_lt hlt)]
  exact Heap.get?_push_of_some _ hb

theorem dict_hint {prog : Program} {w : World} {A : Around} {E : Value → Shared → Prop} {s : Shared} {d : Addr} {Q : Bool → Shared → Prop} (ty : s.TypeIs (.ref d) "dict") (h : Q false s) : wpAny (model prog w) A (Builtin.List.listLengthHint (.ref d)) Q E s := by
  unfold Builtin.List.listLengthHint
  refine wpAny_bind (wpAny_specialOf ty PySem.F.slot_dict_len.lookup ?_)
  generalize hid : ("dict.__len__" : String) = id0
  wp_delta
  rw [show splitId id0 = some ("dict", "__len__") from by subst hid; decide +kernel]
  subst hid
  refine wpAny_bind (wpAny_isInstance (T := "dict") (b := true) ty (by rw [isSubtype_type]; kernel_rfl) ?_)
  refine wpAny_ite_split (fun q => absurd q (by decide)) fun _ => ?_
  refine wpAny_ite_split (fun _ => wpAny_bind (wpAny_typeOf ty (wpAny_pure h))) fun q => absurd (by decide +kernel) q
theorem gather_dict {prog : Program} {w : World} {K : Type} [DecidableEq K] {knd : KeyKind prog w K} {A : Around} {E : Value → Shared → Prop} {s : Shared} {d : Addr} {kvs : List (K × Value)} {ep : Nat} {R : List Value → Shared → Prop} (lo : (d == sysModules) = false) (hh : A.handled = none) (hat : s.heap.DictAt knd d kvs ep) (hn : kvs.length ≤ sizeLine)
    (h : ∀ (h' : Heap) (tk : Nat) (acc : Array Value), (∀ b o, s.heap.get? b = some o → h'.get? b = some o) → ItemsOf (fun i v => ∃ k x, kvs[i]? = some (k, x) ∧ knd.is k v = true) acc kvs.length → R acc.toList { s with heap := h', toks := tk }) :
    wpAny (model prog w) A (collect (.ref d)) R E s := by
  have old : d < s.heap.objs.size := hat.lt_size
  unfold collect
  refine wpAny_bind (wpAny_runValue (codeAny_builtin entry_proto_collect' ?_))
  rw [Around.under_plainId PySem.F.plain_proto_collect _]
  show wpAny _ A.in1 (newList [] >>= fun l => again (.builtin "list.__iadd__" ⟨[l, .ref d], []⟩)) _ _ s
  refine wpAny_bind (wpAny_newObj_type ?_)
  refine wpAny_pure ⟨plainId_quiet PySem.F.plain_list_iadd _, codeAny_builtin entry_list_iadd' ?_⟩
  rw [Around.under_plainId PySem.F.plain_list_iadd _]
  generalize hN : s.heap.objs.size = N
  have hN1 : (s.heap.push { cls := .type "list", data := .seq ([] : List Value).toArray }).get? N = some { cls := .type "list", data := .seq #[] } := by rw [← hN]; exact Heap.get?_push_size _ rfl
  have keep1 : ∀ b o, s.heap.get? b = some o → (s.heap.push { cls := .type "list", data := .seq ([] : List Value).toArray }).get? b = some o := fun b o e => Heap.get?_push_of_some _ e
  have hat1 := hat.push { cls := .type "list", data := .seq ([] : List Value).toArray }
  generalize s.heap.push { cls := .type "list", data := .seq ([] : List Value).toArray } = g1 at *
  show wpAny _ A.in1 (Builtin.List.listExtendWith (.ref N) (.ref d) (.ref N)) _ _ _
  have hdN : N ≠ d := hN ▸ Nat.ne_of_gt old
  unfold Builtin.List.listExtendWith
  refine wpAny_bind (wpAny_typeOf (T := "dict") (s := { s with heap := g1 }) hat1.dictOf.typeIs ?_)
  have h1 : Builtin.List.listSameRef (.ref N) (.ref d) = false := by simp [Builtin.List.listSameRef, hdN]
  have n1 : (Value.type "dict" == Value.type "list") = false := by decide
  have n2 : (Value.type "dict" == Value.type "tuple") = false := by decide
  simp only [h1, n1, n2, Bool.or_false, Bool.false_eq_true, if_false]
  refine wpAny_bind (wpAny_pyIter_dict (s := { s with heap := g1 }) lo hat1 ?_)
  generalize hI : g1.objs.size = I
  have hIN : N ≠ I := hI ▸ Nat.ne_of_lt (Heap.lt_size hN1)
  have hId : d ≠ I := hI ▸ Nat.ne_of_lt hat1.lt_size
  have W := Walks.dictKeys (prog := prog) (w := w) (A := A.in1) (knd := knd) hh I d hId kvs ep
  have hN2 := Heap.get?_push_of_some { cls := .type "dict_keyiterator", data := .fields #[.ref d, .int 0 0, .int kvs.length 0, .int ep 0] } hN1
  have hat2 := hat1.push { cls := .type "dict_keyiterator", data := .fields #[.ref d, .int 0 0, .int kvs.length 0, .int ep 0] }
  have st2 : (g1.push { cls := .type "dict_keyiterator", data := .fields #[.ref d, .int 0 0, .int kvs.length 0, .int ep 0] }).IsKeyIter I d 0 kvs.length ep := ⟨_, by rw [← hI]; exact Heap.get?_push_size _ rfl, rfl, rfl⟩
  have keep2 : ∀ b o, g1.get? b = some o → (g1.push { cls := .type "dict_keyiterator", data := .fields #[.ref d, .int 0 0, .int kvs.length 0, .int ep 0] }).get? b = some o := fun b o e => Heap.get?_push_of_some _ e
  generalize g1.push { cls := .type "dict_keyiterator", data := .fields #[.ref d, .int 0 0, .int kvs.length 0, .int ep 0] } = g2 at *
  have hNf : N ∉ [I, d] := by simp only [List.mem_cons, List.not_mem_nil, or_false, not_or]; exact ⟨hIN, hdN⟩
  have loop : ∀ (R' : Result → Shared → Prop) (g : Heap) (c₁ tk : Nat), (∀ (h' : Heap) (tk : Nat) (acc : Array Value) (c' : Nat), (∀ b o, s.heap.get? b = some o → h'.get? b = some o) → h'.get? N = some { cls := .type "list", dict := none, data := .seq acc c', slots := #[] } → ItemsOf (fun i v => ∃ k x, kvs[i]? = some (k, x) ∧ knd.is k v = true) acc kvs.length → R' (.ok (.ret (.ref N))) { s with heap := h', toks := tk }) →
      g.IsKeyIter I d 0 kvs.length ep → g.DictAt knd d kvs ep → (∀ b o, b ≠ N → g2.get? b = some o → g.get? b = some o) → g.get? N = some { cls := .type "list", data := .seq #[] c₁ } →
      codeAny (model prog w) A (.builtin "list.extend.loop" ⟨[.ref N, .ref I, .ref N], []⟩) R' { s with heap := g, toks := tk } := by
    intro R' g c₁ tk hR i1 i2 kg gN
    refine codeAny_extend_loopS W.toS hn N hNf (.ref N) kvs.length 0 _ #[] c₁ rfl (Nat.zero_le _) ⟨i1, i2⟩ gN (ItemsOf.nil _) fun s' acc c' hm hS' hacc => ?_
    rw [Moved.eq_with hm]
    refine hR s'.heap s'.toks acc c' (fun b o e => hm.heap b o (fun hmem => ?_) (kg b o (fun q => ?_) (keep2 b o (keep1 b o e)))) hS' hacc
    · rcases List.mem_cons.mp hmem with q | hmem
      · exact absurd (Heap.lt_size e) (by rw [hN, q]; exact Nat.lt_irrefl _)
      · exact absurd (Heap.lt_size (keep1 b o e)) (by rw [hI, List.mem_singleton.mp hmem]; exact Nat.lt_irrefl _)
    · exact absurd (Heap.lt_size e) (by rw [hN, q]; exact Nat.lt_irrefl _)
  refine wpAny_bind (wpAny_holding (dict_hint (s := { s with heap := g2 }) hat2.dictOf.typeIs ?_))
  refine wpAny_ite_split (fun _ => ?_) fun _ => wpAny_pure ⟨plainId_quiet PySem.F.plain_extend_loop _, loop _ g2 0 s.toks (fun h' tk acc c' hk hS' hacc => ?_) st2 hat2 (fun _ _ _ e => e) hN2⟩
  · refine wpAny_bind (wpAny_rule (wpAny_bind ?_))
    show wpAny _ _ (updateSeq N (·.push .none) >>= fun _ => updateSeq N (·.pop)) _ _ _
    refine wpAny_bind (wpAny_updateSeq hN2 rfl ?_)
    have hN3 := Heap.get?_update_self (Obj.mapSeq (·.push Value.none)) hN2 rfl
    refine wpAny_updateSeq (hz := by seq_fits) hN3 rfl ?_
    have hN4 := Heap.get?_update_self (Obj.mapSeq (·.pop)) hN3 rfl
    have kp4 : ∀ b o, b ≠ N → g2.get? b = some o → ((g2.update N (Obj.mapSeq (·.push Value.none))).update N (Obj.mapSeq (·.pop))).get? b = some o := fun b o hb e => (Heap.get?_update_other _ _ (Ne.symm hb)).trans ((Heap.get?_update_other _ _ (Ne.symm hb)).trans e)
    refine wpAny_pure ⟨plainId_quiet PySem.F.plain_extend_loop _, loop _ _ _ s.toks (fun h' tk acc c' hk hS' hacc => ?_) ?_ ?_ kp4 hN4⟩
    · show wpAny _ A (load N >>= _) _ _ _
      exact wpAny_bind (wpAny_load hS' (wpAny_pure (h h' tk acc hk hacc)))
    · exact st2.at fun o e => kp4 I o (Ne.symm hIN) e
    · exact hat2.at' fun o e => kp4 d o (Ne.symm hdN) e
  · show wpAny _ A (load N >>= _) _ _ _
    exact wpAny_bind (wpAny_load hS' (wpAny_pure (h h' tk acc hk hacc)))
theorem sorted_by {A : Around} {E : Value → Shared → Prop} {s : Shared} {r : Addr} {Q : Value → Shared → Prop}
    (hc : ∀ R : List Value → Shared → Prop, (∀ h' tk vs, (∀ b o, s.heap.get? b = some o → h'.get? b = some o) → (∃ ns, IntsAre vs ns ∧ vs.length < 64 ∧ ∀ h'' out n, (∀ b o, h'.get? b = some o → h''.get? b = some o) → h''.get? h'.objs.size = some (W.listOf (List.toArray out) n) → IntsAre out (sortI ns) → Q (.ref h'.objs.size) { s with heap := h'', toks := tk }) → R vs { s with heap := h', toks := tk }) → wpAny (model S.prog S.w) A.in1 (collect (.ref r)) R (fun e s' => E e s') s) :
    wpAny (model S.prog S.w) A (call (.builtin "sorted") [.ref r]) Q E s := by
  refine call_function_entry kind_sorted plain_sorted entry_sorted (args_sorted1 _) ?_
  unfold Builtin.«sorted»
  refine wpAny_bind (m := checkCount "sorted" 1 1 _) (wpAny_pure ?_)
  refine wpAny_bind (hc _ fun h' tk vs hk hv => ?_)
  obtain ⟨ns, hI, h64, hq⟩ := hv
  refine wpAny_bind (wpAny_newList ?_ (by rw [sizeLine_eq]; lia))
  refine wpAny_bind (wpAny_holding (wpAny_mono (sort_new (s := { s with heap := h', toks := tk }) (Q := Q) hI h64 fun h'' out n k1 k2 k3 => hq h'' out n k1 k2 k3) (fun _ s' x => ?_) fun _ _ e => e))
  exact wpAny_pure ⟨_, rfl, x⟩

theorem All2.inv1 {α β : Type} {R : α → β → Prop} {a : α} {bs : List β} (h : All2 R [a] bs) : ∃ b, bs = [b] ∧ R a b := by
  cases h with
  | cons h1 h2 => cases h2; exact ⟨_, rfl, h1⟩
theorem All2.inv2 {α β : Type} {R : α → β → Prop} {a a' : α} {bs : List β} (h : All2 R [a, a'] bs) : ∃ b b', bs = [b, b'] ∧ R a b ∧ R a' b' := by
  cases h with
  | cons h1 h2 => obtain ⟨b', rfl, h3⟩ := h2.inv1; exact ⟨_, _, rfl, h1, h3⟩
theorem sortI_length (l : List Int) : (sortI l).length = l.length := (sortI_perm l).length_eq
theorem Led.keepNew {h₀ h h' h'' : Heap} {L : Addr} {m : Str → Option Value} {fs : Fs} {kp os : List (Addr × Obj)} {σ : H} (l : Led S h₀ L m fs kp os σ h) {x : Obj} {o : O} (k1 : ∀ b o, h.get? b = some o → h'.get? b = some o)
    (k2 : ∀ b o, h'.get? b = some o → h''.get? b = some o) (hx : h''.get? h'.objs.size = some x) (hr : OR S (adr os) o x) : Led S h₀ L m fs kp (os ++ [(h'.objs.size, x)]) (σ.push o) h'' :=
  (l.keep k1).new k2 (get_size h') (l.keep k1).room hx hr

theorem keys_ints {ρ : List Addr} : ∀ {es : List (V × V)} {kvs : List (V × Value)}, All2 (PR ρ) es kvs → ∀ {vs : List Value} {ns : List Int}, vs.length = kvs.length → (∀ (j : Nat) v, vs[j]? = some v → ∃ k x, kvs[j]? = some (k, x) ∧ keyIs k v = true) →
    intsOf (es.map (·.1)) = some ns → IntsAre vs ns
  | _, _, .nil, vs, ns, hl, _, e => by cases e; cases vs with | nil => exact .nil | cons _ _ => simp at hl
  | _, _, .cons (a := (k1, v1)) (b := (k2, x2)) (as := es) (bs := kvs) ⟨h1, _⟩ hr, vs, ns, hl, hk, e => by
    dsimp only at h1
    subst h1
    cases vs with
    | nil => simp at hl
    | cons v vs =>
      simp only [List.map_cons] at e
      cases k1 with
      | int i =>
        simp only [intsOf] at e
        obtain ⟨ms, e1, rfl⟩ := Option.map_eq_some_iff.mp e
        obtain ⟨k, x, h2, h3⟩ := hk 0 v rfl
        simp only [List.getElem?_cons_zero, Option.some.injEq, Prod.mk.injEq] at h2
        obtain ⟨rfl, rfl⟩ := h2
        obtain ⟨t, rfl⟩ := keyIs_int h3
        exact .cons _ _ (keys_ints hr (by simpa using hl) (fun j w hw => hk (j + 1) w (by simpa using hw)) e1)
      | _ => cases e

theorem sortedI_eq {o : Option (List Int)} {h : H} {r : R V × H} (e : sortedI o h = some r) : ∃ ns, o = some ns ∧ ns.length < 64 ∧ r = (.ok (.ref h.length), h.push (.list ((sortI ns).map .int))) := by
  cases o with
  | none => cases e
  | some ns =>
    have e : (if ns.length < 64 then some (R.ok (V.ref h.length), h.push (.list ((sortI ns).map .int))) else none) = some r := e
    split at e
    · rename_i h64; cases e; exact ⟨ns, rfl, h64, rfl⟩
    · cases e
theorem sm_sorted (hh : c.A.handled = none) {x : V} {v : Value} (hv : VR ρ x v) : SM S c ρ VR (call (.builtin "sorted") [v]) (biSorted x) := by
  intro os σ s r σ' hp hl he Q E hQ
  have hq := onRef_eq he
  clear he
  obtain ⟨a, rfl, he⟩ := hq
  split at he
  · rename_i es ha
    obtain ⟨A, o1, rfl, _, _, ⟨es', n, kvs, rfl, k1, k2, k3, k4, hz⟩, h1, hL, hn, hb⟩ := hl.ref hp ha hv
    obtain ⟨ns, hns, h64, e⟩ := sortedI_eq he
    cases e
    have hlen := k4.length
    have hlen2 := intsOf_length hns
    rw [List.length_map] at hlen2
    have hat : s.heap.DictAt (vKind S.prog S.w) A kvs n := ⟨_, _, h1, ⟨rfl, rfl, rfl⟩, rfl, k1, by simpa using k2, k3⟩
    refine sorted_by fun R hR => gather_dict (knd := vKind S.prog S.w) (kvs := kvs) (ep := n) hb hh hat (by rw [sizeLine_eq]; lia) fun h' tk acc hk hacc => hR h' tk acc.toList hk ⟨ns, ?_, ?_, fun h'' out n' k1 k2 k3 => ?_⟩
    · exact keys_ints k4 (by rw [Array.length_toList]; exact hacc.1) (fun j v e => hacc.2 j v (by rw [← Array.getElem?_toList]; exact e)) hns
    · have := hacc.1; rw [Array.length_toList]; lia
    · exact hQ (os ++ [(_, _)]) _ _ _ adr_new (hl.keepNew (o := .list ((sortI ns).map .int)) hk k1 k2 ⟨out, n', rfl, vr_ints k3, by rw [List.length_map, sortI_length]; unfold lim; lia⟩) (hl.ref_new (p := (_, _)))
  · cases he
theorem sm_biLen {x : V} {v : Value} (hv : VR ρ x v) : SM S c ρ VR (call (.builtin "len") [v]) (biLen x) := by
  intro os σ s r σ' hp hl he Q E hQ
  have h63 := lim63
  cases x with
  | ref a =>
    unfold biLen at he
    dsimp only at he
    split at he
    · rename_i xs' ha
      obtain ⟨A, o1, rfl, _, _, ⟨vs, n, rfl, hvs, hz⟩, h1, _⟩ := hl.ref hp ha hv
      cases he
      have hlen := hvs.length
      exact call_len_list (PySem.IsL.isList (n := n) h1) (by simp; lia) (hQ os _ _ _ List.prefix_rfl hl ⟨s.toks + 1, by rw [List.size_toArray, ← hlen]⟩)
    · rename_i es ha
      obtain ⟨A, o1, rfl, _, _, ⟨es', n, kvs, rfl, k1, k2, k3, k4, hz⟩, h1, hL, hn, hb⟩ := hl.ref hp ha hv
      cases he
      have hlen := k4.length
      exact call_len_dict (knd := vKind S.prog S.w) hb (dict_of h1 k1 k2 k3) (by lia) (hQ os _ _ _ List.prefix_rfl hl ⟨s.toks + 1, by rw [hlen]⟩)
    · cases he
  | _ => cases he
theorem sm_biList {x : V} {v : Value} (hv : VR ρ x v) : SM S c ρ VR (call (.type "list") [v]) (biList x) := by
  intro os σ s r σ' hp hl he Q E hQ
  have hq := onRef_eq he
  clear he
  obtain ⟨a, rfl, he⟩ := hq
  split at he
  · rename_i xs' ha
    obtain ⟨A, o1, rfl, _, _, ⟨vs, n, rfl, hvs, hz⟩, h1, _⟩ := hl.ref hp ha hv
    unfold alloc at he
    split at he
    · rename_i hk
      cases he
      have hlen := hvs.length
      exact call_list_seq A (.inl rfl) h1 rfl rfl (fun h' c' k1 k2 => hQ (os ++ [(_, _)]) _ _ _ adr_new (hl.keepNew (o := .list xs') (fun _ _ e => e) k1 k2 ⟨vs, c', rfl, hvs, hz⟩) (hl.ref_new (p := (_, _)))) (by rw [List.size_toArray, ← hlen]; exact Nat.le_trans hz lim_le)
    · cases he
  · cases he
theorem sm_biRange {xs : List V} {vs : List Value} (h : All2 (VR ρ) xs vs) : SM S c ρ VR (call (.type "range") vs) (biRange xs) := by
  intro os σ s r σ' hp hl he Q E hQ
  match xs, h, he with
  | [x], h, he =>
    have hq := onInt_eq (show onInt x _ = some (r, σ') from he)
    clear he
    obtain ⟨n, rfl, he⟩ := hq
    obtain ⟨v, rfl, t, rfl⟩ := h.inv1
    cases he
    exact call_range_1 (hQ (os ++ [(_, _)]) _ _ _ adr_new (hl.pushed (o := .rng 0 _ 1) ⟨_, _, _, rfl⟩) (hl.ref_new (p := (_, _))))
  | [x, y], h, he =>
    have hq := twoInts_eq (show twoInts x y _ = some (r, σ') from he)
    clear he
    obtain ⟨m, n, rfl, rfl, he⟩ := hq
    obtain ⟨v, v', rfl, ⟨t, rfl⟩, ⟨t', rfl⟩⟩ := h.inv2
    cases he
    exact call_range_2 (hQ (os ++ [(_, _)]) _ _ _ adr_new (hl.pushed (o := .rng _ _ 1) ⟨_, _, _, rfl⟩) (hl.ref_new (p := (_, _))))
  | [], _, he => cases he
  | _ :: _ :: _ :: _ :: _, _, he => cases he
theorem sm_one {xs : List V} {vs : List Value} {f : Value} {g : V → X V} (h : All2 (VR ρ) xs vs) (hg : ∀ x v, VR ρ x v → SM S c ρ VR (call f [v]) (g x)) : SM S c ρ VR (call f vs) (fun σ => on1 xs fun x => g x σ) := by
  intro os σ s r σ' hp hl he Q E hQ
  have hq := on1_eq he
  clear he
  obtain ⟨x, rfl, he⟩ := hq
  obtain ⟨v, rfl, hv⟩ := h.inv1
  exact hg x v hv os σ s r σ' hp hl he Q E hQ
theorem sm_builtin (hh : c.A.handled = none) {b : Bi} {xs : List V} {vs : List Value} (h : All2 (VR ρ) xs vs) : SM S c ρ VR (call (biVal b) vs) (builtin b xs) := by
  cases b with
  | len => exact sm_one h fun x v hv => sm_biLen hv
  | sorted => exact sm_one h fun x v hv => sm_sorted hh hv
  | list => exact sm_one h fun x v hv => sm_biList hv
  | range => exact sm_biRange h
  | min =>
    intro os σ s r σ' hp hl he Q E hQ
    have hq := on2_eq he
    clear he
    obtain ⟨x, y, rfl, he⟩ := hq
    have hq := twoInts_eq he
    clear he
    obtain ⟨m, n, rfl, rfl, he⟩ := hq
    obtain ⟨v, v', rfl, ⟨t, rfl⟩, ⟨t', rfl⟩⟩ := h.inv2
    cases he
    refine min_two_ints hh fun h' tk hk => hQ os _ _ _ List.prefix_rfl (hl.keep hk) ?_
    split <;> exact ⟨_, rfl⟩
  | _ => exact SM.none

end Mine

set_option autoImplicit false
namespace Mine
open PySem PySem.W PySem.Calls PyProof.Rows
variable {S : Sig} {c : Cx} {ρ : List Addr}

noncomputable def clsName : Nat → String
  | 0 => "int"
  | 1 => "bool"
  | 2 => "list"
  | 3 => "tuple"
  | _ => "str"

theorem le4 {k : Nat} (h : k ≤ 4) : k = 0 ∨ k = 1 ∨ k = 2 ∨ k = 3 ∨ k = 4 := by lia
theorem sm_isi {k : Nat} {x : V} {v : Value} (hv : VR ρ x v) (hk : k ≤ 4) : SM S c ρ VR (call (.builtin "isinstance") [v, .type (clsName k)]) (X.bind (isinsts S.P x [k]) fun b => X.pure (.bool b)) := by
  intro os σ s r σ' hp hl he Q E hQ
  have hi : isinsts S.P x [k] = isinst S.P x k := by show (if k ≤ 4 then _ else _) = _; rw [if_pos hk]
  rw [hi] at he
  have fin : ∀ b : Bool, isinst S.P x k σ = some (.ok b, σ) → ∀ tk, Q (.bool b) { s with toks := tk } := fun b e tk => by
    unfold X.bind at he; rw [e] at he; cases he
    exact hQ os _ tk _ List.prefix_rfl hl rfl
  have he' : ∃ b, isinst S.P x k σ = some (.ok b, σ) := by
    rcases X.bind_inv he with ⟨b', σ₁, e, _⟩ | ⟨k', e, _⟩
    · unfold isinst at e ⊢
      split at e
      · exact ⟨_, rfl⟩
      · exact ⟨_, rfl⟩
      · exact ⟨_, rfl⟩
      · exact ⟨_, rfl⟩
      · split at e
        · exact ⟨_, rfl⟩
        · exact ⟨_, rfl⟩
        · cases e
      · cases e
    · unfold isinst at e
      split at e
      · cases e
      · cases e
      · cases e
      · cases e
      · split at e <;> cases e
      · cases e
  clear he hQ
  obtain ⟨b, he⟩ := he'
  cases x with
  | none =>
    cases hv
    rcases le4 hk with rfl | rfl | rfl | rfl | rfl
    · exact IsiPair.NoneType_int (fin _ rfl _)
    · exact IsiPair.NoneType_bool (fin _ rfl _)
    · exact IsiPair.NoneType_list (fin _ rfl _)
    · exact IsiPair.NoneType_tuple (fin _ rfl _)
    · exact IsiPair.NoneType_str (fin _ rfl _)
  | bool b =>
    cases hv
    rcases le4 hk with rfl | rfl | rfl | rfl | rfl
    · exact IsiPair.bool_int (fin _ rfl _)
    · exact IsiPair.bool_bool (fin _ rfl _)
    · exact IsiPair.bool_list (fin _ rfl _)
    · exact IsiPair.bool_tuple (fin _ rfl _)
    · exact IsiPair.bool_str (fin _ rfl _)
  | int i =>
    obtain ⟨t, rfl⟩ := hv
    rcases le4 hk with rfl | rfl | rfl | rfl | rfl
    · exact IsiPair.int_int (fin _ rfl _)
    · exact IsiPair.int_bool (fin _ rfl _)
    · exact IsiPair.int_list (fin _ rfl _)
    · exact IsiPair.int_tuple (fin _ rfl _)
    · exact IsiPair.int_str (fin _ rfl _)
  | str st =>
    obtain ⟨t, rfl, _⟩ := hv
    rcases le4 hk with rfl | rfl | rfl | rfl | rfl
    · exact IsiPair.str_int (fin _ rfl _)
    · exact IsiPair.str_bool (fin _ rfl _)
    · exact IsiPair.str_list (fin _ rfl _)
    · exact IsiPair.str_tuple (fin _ rfl _)
    · exact IsiPair.str_str (fin _ rfl _)
  | ref a =>
    unfold isinst at he fin
    dsimp only at he fin
    cases ha : σ.get a with
    | none => rw [ha] at he; cases he
    | some o =>
      rw [ha] at he fin
      cases o with
      | list xs =>
        obtain ⟨A, o1, rfl, _, _, ⟨vs, n, rfl, hvs, hz⟩, h1, _⟩ := hl.ref hp ha hv
        rcases le4 hk with rfl | rfl | rfl | rfl | rfl
        · exact IsiPair.list_int h1 rfl (fin _ rfl _)
        · exact IsiPair.list_bool h1 rfl (fin _ rfl _)
        · exact IsiPair.list_list h1 rfl (fin _ rfl _)
        · exact IsiPair.list_tuple h1 rfl (fin _ rfl _)
        · exact IsiPair.list_str h1 rfl (fin _ rfl _)
      | tup xs =>
        obtain ⟨A, o1, rfl, _, _, ⟨vs, n, rfl, hvs, hz⟩, h1, _⟩ := hl.ref hp ha hv
        rcases le4 hk with rfl | rfl | rfl | rfl | rfl
        · exact IsiPair.tuple_int h1 rfl (fin _ rfl _)
        · exact IsiPair.tuple_bool h1 rfl (fin _ rfl _)
        · exact IsiPair.tuple_list h1 rfl (fin _ rfl _)
        · exact IsiPair.tuple_tuple h1 rfl (fin _ rfl _)
        · exact IsiPair.tuple_str h1 rfl (fin _ rfl _)
      | _ => cases he
  | top i => exact hv.elim

end Mine

set_option autoImplicit false
namespace Mine
open PySem PySem.W PySem.Calls PyProof.Rows
variable {S : Sig} {c : Cx} {ρ : List Addr}

abbrev VRs : List Addr → List V → List Value → Prop := fun ρ => All2 (VR ρ)

theorem sm_append {x : V} {a : Value} {xs : List V} {vs : List Value} (hx : VR ρ x a) (hs : All2 (VR ρ) xs vs) : SM S c ρ VR (call (.builtin "list.append") (a :: vs)) (listMeth S.P x idAppend xs) := by
  intro os σ s r σ' hp hl he Q E hQ
  unfold listMeth at he
  split at he
  · rename_i k
    split at he
    · rename_i ys hk
      obtain ⟨hk, hnf⟩ := getM_inv hk
      rw [if_pos rfl] at he
      split at he
      · obtain ⟨v, rfl, hv⟩ := hs.inv1
        obtain ⟨A, o1, rfl, eA, _, ⟨ws, n, rfl, hws, hz⟩, h1, _⟩ := hl.ref hp hk hx
        unfold grow at he
        split at he
        · rename_i hok
          cases he
          have hok : (ys ++ [_]).length ≤ lim := of_decide_eq_true hok
          have hlen := hws.length
          refine append_at h1 (fun h' hs' ho' => hQ (os.set k (A, _)) _ _ _ ?_ (hl.upd hnf eA hs' ho' ?_) rfl) (by rw [List.size_toArray, ← hlen]; exact Nat.le_trans hz lim_le)
          · rw [adr_set eA]; exact List.prefix_rfl
          · exact ⟨ws ++ [v], n + 1, by simp, hws.append (.one (hv.mono hp)), hok⟩
        · cases he
      · cases he
    · cases he
  · cases he

theorem sm_pop {x : V} {a : Value} {xs : List V} {vs : List Value} (hx : VR ρ x a) (hs : All2 (VR ρ) xs vs) : SM S c ρ VR (call (.builtin "list.pop") (a :: vs)) (listMeth S.P x idPop xs) := by
  intro os σ s r σ' hp hl he Q E hQ
  unfold listMeth at he
  split at he
  · split at he <;> cases he
  · cases he
theorem sm_clear {x : V} {a : Value} {xs : List V} {vs : List Value} (hx : VR ρ x a) (hs : All2 (VR ρ) xs vs) : SM S c ρ VR (call (.builtin "list.clear") (a :: vs)) (listMeth S.P x idClear xs) := by
  intro os σ s r σ' hp hl he Q E hQ
  unfold listMeth at he
  split at he
  · split at he <;> cases he
  · cases he
theorem ddel_without {ρ : List Addr} {k : V} : ∀ {es : List (V × V)} {kvs : List (V × Value)}, All2 (PR ρ) es kvs → (kvs.map (·.1)).Nodup → All2 (PR ρ) (ddel es k) (without kvs k)
  | _, _, .nil, _ => .nil
  | _, _, .cons (a := (k1, v1)) (b := (k2, x2)) (as := es) (bs := kvs) ⟨h1, h2⟩ hr, nd => by
    dsimp only at h1 h2
    subst h1
    rw [List.map_cons, List.nodup_cons] at nd
    by_cases hk : k1 = k
    · subst hk
      have : without ((k1, x2) :: kvs) k1 = kvs := by
        simp only [without, List.filter_cons, ne_eq, not_true_eq_false, decide_false, Bool.false_eq_true, if_false]
        exact without_of_not_mem kvs _ nd.1
      rw [this]; simp only [ddel, if_true]; exact hr
    · have : without ((k1, x2) :: kvs) k = (k1, x2) :: without kvs k := by simp only [without, List.filter_cons, ne_eq, hk, not_false_eq_true, decide_true, if_true]
      rw [this]; simp only [ddel, hk, if_false]
      exact .cons ⟨rfl, h2⟩ (ddel_without hr nd.2)
theorem ddel_length (es : List (V × V)) (k : V) : (ddel es k).length ≤ es.length := by
  induction es with
  | nil => simp [ddel]
  | cons p r ih => obtain ⟨a, b⟩ := p; simp only [ddel]; split <;> simp; exact ih
theorem keyPart_key {k : V} {v : Value} (h : keyIs k v = true) : (keyPart v).isSome = true := by
  rcases keyIs_shape h with ⟨i, t, rfl, rfl⟩ | ⟨x, t, rfl, rfl⟩ | ⟨rfl, rfl⟩ <;> rfl

theorem sm_dpop {x : V} {a : Value} {xs : List V} {vs : List Value} (hx : VR ρ x a) (hs : All2 (VR ρ) xs vs) : SM S c ρ VR (call (.builtin "dict.pop") (a :: vs)) (dictMeth S.P x idPop xs) := by
  intro os σ s r σ' hp hl he Q E hQ
  unfold dictMeth at he
  split at he
  · rename_i k
    split at he
    · rename_i es hk
      obtain ⟨hk, hnf⟩ := getM_inv hk
      rw [if_pos rfl] at he
      obtain ⟨A, o1, rfl, eA, _, ⟨es', n, kvs, rfl, k1, k2, k3, k4, hz⟩, h1, hL, hn, hb⟩ := hl.ref hp hk hx
      have hd : s.heap.DictOf (vKind S.prog S.w) A kvs := dict_of h1 k1 k2 k3
      have hlen := k4.length
      have hsz : kvs.length ≤ sizeLine := by rw [← hlen]; exact Nat.le_trans hz lim_le
      have there : ∀ {y : V} {key : Value} {w : V} {rest : List Value}, VR ρ y key → isKey y = true → dget es y = some w → (rest = [] ∨ ∃ d, rest = [d]) → argsOk "dict.pop" ⟨.ref A :: key :: rest, []⟩ →
          (∀ os' h' tk a, adr os <+: adr os' → c.led S os' (σ.put k (.dict (ddel es y))) h' → VR (adr os') w a → Q a { s with heap := h', toks := tk }) → wpAny (model S.prog S.w) c.A (call (.builtin "dict.pop") (.ref A :: key :: rest)) Q E s := by
        intro y key w rest hy hkey hw hrest hargs hq
        have hki := key_is hy (by rw [hkey]; rfl)
        rcases valueAt_dget k4 y with ⟨_, e2⟩ | ⟨v', x', e1, e2, e3⟩
        · rw [e2] at hw; cases hw
        · rw [hw] at e1; cases e1
          refine call_meetsIn F.slot_dict_pop hd.typeIs F.entry_dict_pop hargs (meets_dict_pop_there (vKind S.prog S.w) A hki rest hrest (keyPart_key hki)) ⟨kvs, x', hd, hsz, e2, fun h' hd' hs' => ?_⟩
          obtain ⟨es'', n', g1, g2, g3, g4⟩ := of_dict hd'
          refine hq (os.set k (A, dictOf es'' n')) _ _ _ ?_ (hl.upd hnf eA hs' g1 ?_) ?_
          · rw [adr_set eA]; exact List.prefix_rfl
          · exact ⟨es'', n', _, rfl, g2, g3, g4, ddel_without k4 k3, Nat.le_trans (ddel_length ..) hz⟩
          · rw [adr_set eA]; exact e3
      split at he
      · obtain ⟨key, rfl, hkey⟩ := hs.inv1
        split at he
        · rename_i hik
          split at he
          · rename_i w hw
            cases he
            exact there hkey hik hw (.inl rfl) (F.args_dict_pop_2 _ _) hQ
          · cases he
        · cases he
      · obtain ⟨key, dv, rfl, hkey, hdv⟩ := hs.inv2
        split at he
        · rename_i hik
          split at he
          · rename_i w hw
            cases he
            exact there hkey hik hw (.inr ⟨_, rfl⟩) (F.args_dict_pop_3 _ _ _) hQ
          · rename_i hw
            cases he
            have hki := key_is hkey (by rw [hik]; rfl)
            rcases valueAt_dget k4 _ with ⟨e1, _⟩ | ⟨v', x', e1, _, _⟩
            · exact call_meetsIn F.slot_dict_pop hd.typeIs F.entry_dict_pop (F.args_dict_pop_3 _ _ _) (meets_dict_pop_default (vKind S.prog S.w) A hki hb (keyPart_key hki) dv) ⟨kvs, hd, e1, hQ os _ _ _ List.prefix_rfl hl (hdv.mono hp)⟩
            · rw [hw] at e1; cases e1
        · cases he
      · cases he
    · cases he
  · cases he

end Mine

set_option autoImplicit false
namespace Mine
open PySem PySem.W PySem.Calls PyProof.Rows
variable {S : Sig} {c : Cx} {ρ : List Addr}

set_option genInjectivity false in
structure Nam where
  T : List Str
  fn : Nat → Option Addr
  me : Nat → Option Addr
  cls : Nat → Option Addr

noncomputable def Sig.nam (S : Sig) : Nam := ⟨S.T, S.fn, S.me, S.cls⟩

noncomputable def biName : Bi → Str
  | .len => "len" | .sorted => "sorted" | .list => "list" | .tuple => "tuple" | .str => "str" | .int => "int" | .range => "range" | .min => "min" | .max => "max" | .set => "set" | .zip => "zip"

noncomputable def isGlob (sc : Scope) (nm : Str) : Bool := decide (sc.names.lookup nm = some .globalImplicit) && !(nm == ("__debug__" : Str))
noncomputable def nameIs (N : Nam) (i : Nat) (nm : Str) : Bool := decide (N.T[i]? = some nm)
noncomputable def plainBase : Expr → Bool
  | .Call (.Name _ _) [] [] _ => false
  | _ => true
noncomputable def isSet : Expr → Bool
  | .Set _ _ _ => true
  | _ => false
noncomputable def isSlice : Expr → Bool
  | .Slice _ _ _ _ => true
  | _ => false
noncomputable def isNone : Ex → Bool
  | .cnone => true
  | _ => false
noncomputable def inScope (sc : Scope) (nm : Str) : Bool := match sc.names.lookup nm with
  | some .local => true
  | some .cell => true
  | some .free => true
  | _ => false
noncomputable def isCell (sc : Scope) (nm : Str) : Bool := match sc.names.lookup nm with
  | some .cell => true
  | some .free => true
  | _ => false
noncomputable def compScope (N : Nam) (sc sc' : Scope) (nm : Str) : Bool :=
  decide (sc'.kind = .function) && sc'.names.all (fun x => decide (x.2 ≠ .cell) && (!decide (x.2 = .local) || (decide (sc'.names.lookup x.1 = some .local) && (decide (x.1 = nm) || !N.T.contains x.1))) && (!decide (x.2 = .free) || isCell sc x.1)) && decide (sc'.names.lookup nm = some .local)

/- parts of expressions -/
noncomputable def tagE : Expr → Nat
  | .BoolOp .. => 0 | .NamedExpr .. => 1 | .BinOp .. => 2 | .UnaryOp .. => 3 | .Lambda .. => 4 | .IfExp .. => 5 | .Dict .. => 6 | .Set .. => 7 | .ListComp .. => 8 | .SetComp .. => 9 | .DictComp .. => 10 | .GeneratorExp .. => 11 | .Await .. => 12 | .Yield .. => 13
  | .YieldFrom .. => 14 | .Compare .. => 15 | .Call .. => 16 | .FormattedValue .. => 17 | .JoinedStr .. => 18 | .Constant .. => 19 | .Attribute .. => 20 | .Subscript .. => 21 | .Starred .. => 22 | .Name .. => 23 | .List .. => 24 | .Tuple .. => 25 | .Slice .. => 26
set_option genInjectivity false in
structure Pt where
  x : Expr
  y : Expr
  xs : List Expr
  pos : Pos
  nm : Str
  k : Nat
  bop : PySem.Operator := .Add
  uop : UnaryOp := .Not
  lop : BoolOp := .And
  cops : List CmpOp := []
  cst : Const := .none
  ds : List (Option Expr) := []
  kws : List Keyword := []
  gs : List Comprehension := []
  sc : Scope := ⟨.function, [], false, false, []⟩
  lo : Option Expr := none
  hi : Option Expr := none
  st : Option Expr := none
noncomputable def noPos : Pos := ⟨0, 0, 0, 0⟩
noncomputable def ptE (e : Expr) : Pt := match e with
  | .BoolOp o xs p => { x := e, y := e, xs := xs, pos := p, nm := "", k := 0, lop := o }
  | .BinOp l o r p => { x := l, y := r, xs := [], pos := p, nm := "", k := 0, bop := o }
  | .UnaryOp o x p => { x := x, y := x, xs := [], pos := p, nm := "", k := 0, uop := o }
  | .Dict ks vs p => { x := e, y := e, xs := vs, pos := p, nm := "", k := 0, ds := ks }
  | .ListComp x gs sc p => { x := x, y := x, xs := [], pos := p, nm := "", k := 0, gs := gs, sc := sc }
  | .Compare l os rs p => { x := l, y := l, xs := rs, pos := p, nm := "", k := 0, cops := os }
  | .Call f xs ks p => { x := f, y := f, xs := xs, pos := p, nm := "", k := 0, kws := ks }
  | .Constant v k p => { x := e, y := e, xs := [], pos := p, nm := "", k := k, cst := v }
  | .Attribute x nm p => { x := x, y := x, xs := [], pos := p, nm := nm, k := 0 }
  | .Subscript x y p => { x := x, y := y, xs := [], pos := p, nm := "", k := 0 }
  | .Name nm p => { x := e, y := e, xs := [], pos := p, nm := nm, k := 0 }
  | .List xs p => { x := e, y := e, xs := xs, pos := p, nm := "", k := 0 }
  | .Tuple xs k p => { x := e, y := e, xs := xs, pos := p, nm := "", k := k }
  | .Slice l u s p => { x := e, y := e, xs := [], pos := p, nm := "", k := 0, lo := l, hi := u, st := s }
  | _ => { x := e, y := e, xs := [], pos := noPos, nm := "", k := 0 }
noncomputable def isC (v w : Const) : Bool := match v, w with
  | .none, .none => true
  | .bool b, .bool b' => b == b'
  | .int i, .int j => decide (i = j)
  | .str s, .str s' => decide (s = s') && okS s
  | _, _ => false
noncomputable def onO {α : Type} (o : Option α) (f : α → Bool) : Bool := match o with
  | some a => f a
  | none => false
theorem onO_eq {α : Type} {o : Option α} {f : α → Bool} (h : onO o f = true) : ∃ a, o = some a ∧ f a = true := by
  cases o with
  | none => exact nomatch (show false = true from h)
  | some a => exact ⟨a, rfl, h⟩
noncomputable def one {α : Type} : List α → Option α
  | [a] => some a
  | _ => none
noncomputable def two {α : Type} : List α → Option (α × α)
  | [a, b] => some (a, b)
  | _ => none
noncomputable def nil? {α : Type} : List α → Bool
  | [] => true
  | _ => false
noncomputable def exsNil : Exs → Bool
  | .nil => true
  | _ => false
noncomputable def isT (e : Expr) (n : Nat) : Bool := decide (tagE e = n)
noncomputable def isCallN (e : Expr) : Bool := isT e 16 && (nil? (ptE e).kws && isT (ptE e).x 23)
noncomputable def cN (e : Expr) : Str := (ptE (ptE e).x).nm
noncomputable def cA (e : Expr) : List Expr := (ptE e).xs

mutual
noncomputable def ckE (N : Nam) : Scope → Ex → Expr → Bool
  | _, .cnone, e => isT e 19 && isC .none (ptE e).cst
  | _, .cbool b, e => isT e 19 && isC (.bool b) (ptE e).cst
  | _, .cint i, e => isT e 19 && isC (.int i) (ptE e).cst
  | _, .cstr s, e => isT e 19 && isC (.str s) (ptE e).cst
  | sc, .loc i, e => isT e 23 && (nameIs N i (ptE e).nm && (inScope sc (ptE e).nm && (!((ptE e).nm == ("__debug__" : Str)) && !((ptE e).nm == ("__classdict__" : Str)))))
  | sc, .glo i, e => isT e 23 && (nameIs N i (ptE e).nm && isGlob sc (ptE e).nm)
  | sc, .bin op a b, e => isT e 2 && (decide (op = (ptE e).bop) && (ckE N sc a (ptE e).x && ckE N sc b (ptE e).y))
  | sc, .neg a, e => isT e 3 && (decide ((ptE e).uop = .USub) && ckE N sc a (ptE e).x)
  | sc, .not a, e => isT e 3 && (decide ((ptE e).uop = .Not) && ckE N sc a (ptE e).x)
  | sc, .band es, e => isT e 0 && (decide ((ptE e).lop = .And) && ckEs N sc es (ptE e).xs)
  | sc, .bor es, e => isT e 0 && (decide ((ptE e).lop = .Or) && ckEs N sc es (ptE e).xs)
  | sc, .cmp op a b, e => isT e 15 && onO (one (ptE e).cops) fun o => onO (one (ptE e).xs) fun r => decide (op = o) && (!behindInMarks o r && (ckE N sc a (ptE e).x && ckE N sc b r))
  | sc, .cmp2 o1 o2 a b d, e => isT e 15 && onO (two (ptE e).cops) fun o => onO (two (ptE e).xs) fun r => decide (o1 = o.1) && (decide (o2 = o.2) && (!behindInMarks o.2 r.2 && (ckE N sc a (ptE e).x && (ckE N sc b r.1 && ckE N sc d r.2))))
  | sc, .list es, e => isT e 24 && ckEs N sc es (ptE e).xs
  | sc, .tup es, e => isT e 25 && ckEs N sc es (ptE e).xs
  | _, .dict ks vs, e => isT e 6 && (exsNil ks && (exsNil vs && (nil? (ptE e).ds && nil? (ptE e).xs)))
  | sc, .attr a n, e => isT e 20 && (nameIs N n (ptE e).nm && (plainBase (ptE e).x && ckE N sc a (ptE e).x))
  | sc, .sub a i, e => isT e 21 && (!isSlice (ptE e).y && (ckE N sc a (ptE e).x && ckE N sc i (ptE e).y))
  | sc, .call f args, e => isCallN e && (nameIs N f (cN e) && (isGlob sc (cN e) && ((N.fn f).isSome && ckEs N sc args (cA e))))
  | sc, .new k, e => isCallN e && (nil? (cA e) && (nameIs N k (cN e) && (isGlob sc (cN e) && (N.cls k).isSome)))
  | sc, .meth o n args, e => isT e 16 && (nil? (ptE e).kws && (isT (ptE e).x 20 && (nameIs N n (ptE (ptE e).x).nm && (plainBase (ptE (ptE e).x).x && (((ptE (ptE e).x).pos.endLine == (ptE e).pos.line) && (decide ((cA e).length < 30) && ((decide (n ≤ 12) || (N.me n).isSome) && (ckE N sc o (ptE (ptE e).x).x && ckEs N sc args (cA e)))))))))
  | sc, .bi b args, e => isCallN e && (decide (cN e = biName b) && (isGlob sc (cN e) && ckEs N sc args (cA e)))
  | sc, .isi a ks, e => isCallN e && onO (one ks) fun k => onO (two (cA e)) fun xs => isT xs.2 23 && (decide (cN e = "isinstance") && (isGlob sc (cN e) && (isGlob sc (ptE xs.2).nm && (decide (k ≤ 4) && (decide ((ptE xs.2).nm = (clsName k : Str)) && ckE N sc a xs.1)))))
  | sc, .comp elt tg tup it conds, e => isT e 8 && onO (one tg) fun i => onO (one (ptE e).gs) fun g => isT g.target 23 && (!tup && (decide (g.is_async = 0) && (nameIs N i (ptE g.target).nm && (compScope N sc (ptE e).sc (ptE g.target).nm && (!isSet g.iter && (ckE N sc it g.iter && (ckE N (ptE e).sc elt (ptE e).x && ckEs N (ptE e).sc conds g.ifs)))))))
termination_by structural _ x => x
noncomputable def ckEs (N : Nam) : Scope → Exs → List Expr → Bool
  | _, .nil, xs => nil? xs
  | sc, .cons e es, xs => match xs with
    | x :: xs => ckE N sc e x && ckEs N sc es xs
    | [] => false
termination_by structural _ x => x
end

end Mine

set_option autoImplicit false
namespace Mine
open PySem PySem.W PySem.Calls PyProof.Rows
variable {S : Sig} {c : Cx} {ρ : List Addr}

structure CtxOK (S : Sig) (n : Nat) (c : Cx) : Prop where
  hand : c.A.handled = none
  units : c.A.units + 2 * n + 200 < cLine
  depth : c.A.depth + n < recursionLimit
  kin : S.K.In c.h₀
  top : ∃ mg mb, c.h₀.Ns mainGlobals mg ∧ c.h₀.Ns builtinsNs mb ∧ ∀ x : Str, x ≠ "__name__" → mb x = bootBuiltins x
  lim : c.h₀.NoLimit
  kind : c.env.scope.kind = .function
  glob : c.env.globals = mainGlobals
  blt : c.env.builtins = builtinsNs
  locs : c.env.locals = c.L

theorem CtxOK.le {n k : Nat} (h : CtxOK S n c) (e : k ≤ n) : CtxOK S k c :=
  ⟨h.hand, by have := h.units; lia, by have := h.depth; lia, h.kin, h.top, h.lim, h.kind, h.glob, h.blt, h.locs⟩
theorem CtxOK.room {n : Nat} (h : CtxOK S n c) : Room c := by unfold Room; have := h.units; lia

noncomputable def VarAt (c : Cx) (nm : Str) (x : Value) : Prop :=
  (c.env.kindOf nm = some .local ∧ c.m nm = some x) ∨
  ((c.env.kindOf nm = some .cell ∨ c.env.kindOf nm = some .free) ∧ ∃ a o, c.env.cells.lookup nm = some a ∧ (a, o) ∈ c.kp ∧ o.data = .cell (some x))
noncomputable def VarsOK (S : Sig) (c : Cx) (sc : Scope) (ρ : List Addr) (loc : Loc) : Prop := ∀ i v nm, loc i = some v → S.T[i]? = some nm → inScope sc nm = true → ∃ x, VarAt c nm x ∧ VR ρ v x
theorem VarsOK.mono {sc : Scope} {loc : Loc} {ρ' : List Addr} (h : VarsOK S c sc ρ loc) (k : ρ <+: ρ') : VarsOK S c sc ρ' loc := fun i v nm e h1 h2 =>
  let ⟨x, h3, h4⟩ := h i v nm e h1 h2; ⟨x, h3, h4.mono k⟩

structure ScOK (sc : Scope) (env : Env) : Prop where
  glob : ∀ nm, sc.names.lookup nm = some .globalImplicit → env.kindOf nm = some .globalImplicit
  loc : ∀ nm, sc.names.lookup nm = some .local → env.kindOf nm = some .local
  cell : ∀ nm, isCell sc nm = true → (env.kindOf nm = some .cell ∨ env.kindOf nm = some .free) ∧ ∃ a, env.cells.lookup nm = some a

section
variable {α β : Type} {RV : List Addr → β → α → Prop}
theorem SM.operate {t : Sem Value} {x : X V} {vs : List Value} {RV : List Addr → V → Value → Prop} (h : SM S c ρ RV t x) : SM S c ρ RV (operate vs t) x :=
  fun os σ s r σ' hp hl hx Q E hQ => wpAny_operate' (h os σ s r σ' hp hl hx Q E hQ)
theorem SM.release {t : Sem α} {x : X β} {vs ws : List Value} (h : SM S c ρ RV t x) : SM S c ρ RV (do release vs ws; t) x :=
  fun os σ s r σ' hp hl hx Q E hQ => wpAny_bind (wpAny_release' (h os σ s r σ' hp hl hx Q E hQ))
theorem SM.via {t t' : Sem α} {x : X β} (h : SM S c ρ RV t x) (k : ∀ Q E s, wpAny (model S.prog S.w) c.A t Q E s → wpAny (model S.prog S.w) c.A t' Q E s) : SM S c ρ RV t' x :=
  fun os σ s r σ' hp hl hx Q E hQ => k _ _ _ (h os σ s r σ' hp hl hx Q E hQ)
end

theorem T_eq {i : Nat} {nm : Str} (h : nameIs S.nam i nm = true) : S.T[i]? = some nm := of_decide_eq_true h

theorem sm_local {n : Nat} (K : CtxOK S n c) {loc : Loc} {sc : Scope} (V : VarsOK S c sc ρ loc) {i : Nat} {nm : Str} {pos : Pos} (hn : S.T[i]? = some nm) (hsc : inScope sc nm = true) (hd : (nm == ("__debug__" : Str)) = false) (hc : (nm == ("__classdict__" : Str)) = false) :
    SM S c ρ VR (eval (.Name nm pos) c.env) (X.lift (loc i)) := by
  intro os σ s r σ' hp hl he Q E hQ
  unfold X.lift at he
  split at he
  · rename_i v hv
    cases he
    obtain ⟨x, h2, h3⟩ := V i v nm hv hn hsc
    have fin := hQ os s.heap s.toks x List.prefix_rfl hl (h3.mono hp)
    refine wpAny_Name ?_ hd
    rcases h2 with ⟨k1, k2⟩ | ⟨k1 | k1, a, o, k2, k3, k4⟩
    · exact wpAny_loadName_local K.kind k1 (K.locs ▸ hl.fr.ns) k2 fin
    · exact wpAny_loadName_cell K.kind k1 k2 ⟨o, (hl.news _ (List.mem_append_left _ k3)).1, k4⟩ fin
    · exact wpAny_loadName_free K.kind k1 k2 ⟨o, (hl.news _ (List.mem_append_left _ k3)).1, k4⟩ fin hc
  · cases he

theorem sm_top {n : Nat} (K : CtxOK S n c) {nm : Str} {pos : Pos} {v : Value} {x : V} {RV : List Addr → V → Value → Prop} (hk : c.env.kindOf nm = some .globalImplicit) (hd : (nm == ("__debug__" : Str)) = false) (e : nsIn S.K mainGlobals nm = some (some v)) (h : ∀ ρ, RV ρ x v) :
    SM S c ρ RV (eval (.Name nm pos) c.env) (X.pure x) := by
  intro os σ s r σ' hp hl he Q E hQ
  cases he
  obtain ⟨mg, mb, h1, h2, h3⟩ := K.top
  exact Name_function_global K.kind hk (loadGlobal_global (K.glob ▸ h1.keeps hl.fr.keep) (mg_of K.kin h1 e) (hQ os s.heap s.toks v List.prefix_rfl hl (h _))) hd
theorem sm_boot {n : Nat} (K : CtxOK S n c) {nm : Str} {pos : Pos} {v : Value} {x : V} {RV : List Addr → V → Value → Prop} (hk : c.env.kindOf nm = some .globalImplicit) (hd : (nm == ("__debug__" : Str)) = false) (e : nsIn S.K mainGlobals nm = some none)
    (hv : bootBuiltins nm = some v) (hn : nm ≠ "__name__") (h : ∀ ρ, RV ρ x v) : SM S c ρ RV (eval (.Name nm pos) c.env) (X.pure x) := by
  intro os σ s r σ' hp hl he Q E hQ
  cases he
  obtain ⟨mg, mb, h1, h2, h3⟩ := K.top
  exact Name_function_global K.kind hk (loadGlobal_builtin (K.glob ▸ h1.keeps hl.fr.keep) (mg_none_of K.kin h1 e) (K.blt ▸ h2.keeps hl.fr.keep) ((h3 nm hn).trans hv) (hQ os s.heap s.toks v List.prefix_rfl hl (h _))) hd

theorem X.pure_bind {α β : Type} (a : α) (f : α → X β) : X.bind (X.pure a) f = f a := by funext σ; rfl
theorem X.bind_assoc {α β γ : Type} (m : X α) (f : α → X β) (g : β → X γ) : X.bind (X.bind m f) g = X.bind m fun a => X.bind (f a) g := by
  funext σ
  unfold X.bind
  cases m σ with
  | none => rfl
  | some p => obtain ⟨r, σ'⟩ := p; cases r <;> rfl

theorem sm_bin {op : Operator} {l r : Expr} {pos : Pos} {x y : X V} (hx : SM S c ρ VR (eval l c.env) x) (hy : SM S c ρ VR (eval r c.env) y) :
    SM S c ρ VR (eval (.BinOp l op r pos) c.env) (X.bind x fun a => X.bind y fun b => binop op a b) := by
  rw [arm_eval_BinOp]
  exact hx.bind fun ρ' a v k ha => (SM.hold (hy.mono k)).bind fun ρ'' b w k' hb => (SM.operate (sm_binop (ha.mono k') hb)).stand

theorem sm_neg {e : Expr} {pos : Pos} {x : X V} (hx : SM S c ρ VR (eval e c.env) x) : SM S c ρ VR (eval (.UnaryOp .USub e pos) c.env) (X.bind x fun a => match a with | .int i => X.pure (.int (-i)) | _ => X.none) := by
  rw [arm_eval_UnaryOp]
  refine hx.bind fun ρ' a v k ha => SM.stand (SM.hold ?_)
  cases a with
  | int i =>
    obtain ⟨t, rfl⟩ := ha
    intro os σ s r σ' hp hl he Q E hQ
    cases he
    exact PySem.P.neg_int (hQ os _ _ _ List.prefix_rfl hl ⟨_, rfl⟩)
  | _ => exact SM.none
theorem sm_not {e : Expr} {pos : Pos} {x : X V} (hx : SM S c ρ VR (eval e c.env) x) : SM S c ρ VR (eval (.UnaryOp .Not e pos) c.env) (X.bind x fun a => X.bind (truth a) fun t => X.pure (.bool (!t))) := by
  rw [arm_eval_UnaryOp]
  refine hx.bind fun ρ' a v k ha => SM.stand (SM.hold ?_)
  refine SM.via (t := truthy v >>= fun b => Pure.pure (.bool (!b))) ((sm_truth ha).bind fun ρ'' b b' k' hb => ?_) fun Q E s h => ?_
  · subst hb; exact SM.pure fun _ _ => rfl
  · unfold unaryOp
    exact wpAny_holding h
theorem sm_cmp (hr : Room c) {op : CmpOp} {l r : Expr} {pos : Pos} {x y : X V} (hm : behindInMarks op r = false) (hx : SM S c ρ VR (eval l c.env) x) (hy : SM S c ρ VR (eval r c.env) y) :
    SM S c ρ VR (eval (.Compare l [op] [r] pos) c.env) (X.bind x fun a => X.bind y fun b => cmpop S.P op a b) := by
  rw [arm_eval_Compare]
  refine hx.bind fun ρ' a v k ha => ?_
  have e : markedEach [op] [r] (evalEach [r] c.env) = [eval r c.env] := by simp only [arm_evalEach_cons, arm_evalEach_nil, markedEach, markedBehindIn_of_false hm]
  rw [e]
  exact (SM.hold (hy.mono k)).bind fun ρ'' b w k' hb => (SM.operate (sm_cmpop hr (ha.mono k') hb)).stand
theorem sm_cmp_test (hr : Room c) {op : CmpOp} {l r : Expr} {pos : Pos} {x y : X V} {whole : Sem Value} (hm : behindInMarks op r = false) (hx : SM S c ρ VR (eval l c.env) x) (hy : SM S c ρ VR (eval r c.env) y) :
    SM S c ρ EqR (isTrue (.Compare l [op] [r] pos) c.env whole) (X.bind (X.bind x fun a => X.bind y fun b => cmpop S.P op a b) truth) := by
  rw [arm_isTrue_Compare, X.bind_assoc]
  refine hx.bind fun ρ' a v k ha => ?_
  have e : markedEach [op] [r] (evalEach [r] c.env) = [eval r c.env] := by simp only [arm_evalEach_cons, arm_evalEach_nil, markedEach, markedBehindIn_of_false hm]
  rw [e, X.bind_assoc]
  exact (SM.hold (hy.mono k)).bind fun ρ'' b w k' hb => SM.stand ((SM.operate (sm_cmpop hr (ha.mono k') hb)).bind fun _ _ _ _ h => SM.hold (sm_truth h))
theorem marked2 {o1 o2 : CmpOp} {r1 r2 : Expr} {env : Env} (hm : behindInMarks o2 r2 = false) : markedEach [o1, o2] [r1, r2] (evalEach [r1, r2] env) = [eval r1 env, eval r2 env] := by
  simp only [arm_evalEach_cons, arm_evalEach_nil, markedEach, markedBehindIn_of_false hm]
theorem sm_cmp2 (hr : Room c) {o1 o2 : CmpOp} {l r1 r2 : Expr} {pos : Pos} {x y z : X V} (hm : behindInMarks o2 r2 = false) (hx : SM S c ρ VR (eval l c.env) x) (hy : SM S c ρ VR (eval r1 c.env) y) (hz : SM S c ρ VR (eval r2 c.env) z) :
    SM S c ρ VR (eval (.Compare l [o1, o2] [r1, r2] pos) c.env) (X.bind x fun a => X.bind y fun b => X.bind (cmpop S.P o1 a b) fun r => X.bind (truth r) fun t => if t then X.bind z fun d => cmpop S.P o2 b d else X.pure r) := by
  rw [arm_eval_Compare]
  refine hx.bind fun ρ' a v k ha => ?_
  rw [marked2 hm]
  show SM S c ρ' VR (do
    let rv ← holding [v] (eval r1 c.env)
    standAt pos
    let cv ← holding [v, rv] (compareOp o1 v rv)
    release [v, rv] [cv]
    if ← holding [cv, rv] (truthy cv) then compareChain pos rv [o2] [eval r2 c.env] else pure cv) _
  refine (SM.hold (hy.mono k)).bind fun ρ'' b w k' hb => SM.stand ((SM.hold (sm_cmpop hr (ha.mono k') hb)).bind fun ρ₃ q qv k₃ hq => SM.release ((SM.hold (sm_truth hq)).bind fun ρ₄ t t' k₄ ht => ?_))
  subst ht
  cases t
  · exact SM.pure fun ρ₅ k₅ => (hq.mono k₄).mono k₅
  · exact (SM.hold (hz.mono (k.trans (k'.trans (k₃.trans k₄))))).bind fun ρ₅ d dv k₅ hd => (SM.operate (sm_cmpop hr (hb.mono (k₃.trans (k₄.trans k₅))) hd)).stand
theorem cmpop_bool {P : Prog} {op : CmpOp} {a b v : V} {σ σ' : H} (h : cmpop P op a b σ = some (.ok v, σ')) : ∃ q, v = .bool q := by
  unfold cmpop at h
  cases op <;> dsimp only at h
  · obtain ⟨q, _, e⟩ := Option.map_eq_some_iff.mp h; cases e; exact ⟨_, rfl⟩
  · obtain ⟨q, _, e⟩ := Option.map_eq_some_iff.mp h; cases e; exact ⟨_, rfl⟩
  all_goals try (split at h <;> cases h <;> exact ⟨_, rfl⟩)
  all_goals
    rcases X.bind_inv h with ⟨q, σ₁, _, e⟩ | ⟨k, _, e⟩
    · cases e; exact ⟨_, rfl⟩
    · cases e
theorem sm_cmp2_test (hr : Room c) {o1 o2 : CmpOp} {l r1 r2 : Expr} {pos : Pos} {x y z : X V} {whole : Sem Value} (hm : behindInMarks o2 r2 = false) (hx : SM S c ρ VR (eval l c.env) x) (hy : SM S c ρ VR (eval r1 c.env) y) (hz : SM S c ρ VR (eval r2 c.env) z) :
    SM S c ρ EqR (isTrue (.Compare l [o1, o2] [r1, r2] pos) c.env whole) (X.bind (X.bind x fun a => X.bind y fun b => X.bind (cmpop S.P o1 a b) fun r => X.bind (truth r) fun t => if t then X.bind z fun d => cmpop S.P o2 b d else X.pure r) truth) := by
  rw [arm_isTrue_Compare, X.bind_assoc]
  refine hx.bind fun ρ' a v k ha => ?_
  rw [marked2 hm, X.bind_assoc]
  show SM S c ρ' EqR (do
    let rv ← holding [v] (eval r1 c.env)
    standAt pos
    let cv ← holding [v, rv] (compareOp o1 v rv)
    release [v, rv] [cv]
    if ← holding [cv, rv] (truthy cv) then testChain pos rv [o2] [eval r2 c.env] else pure false) _
  refine (SM.hold (hy.mono k)).bind fun ρ'' b w k' hb => SM.stand ?_
  have e : (X.bind (X.bind (cmpop S.P o1 a b) fun r => X.bind (truth r) fun t => if t then X.bind z fun d => cmpop S.P o2 b d else X.pure r) truth) =
      (X.bind (cmpop S.P o1 a b) fun r => X.bind (truth r) fun t => if t then X.bind (X.bind z fun d => cmpop S.P o2 b d) truth else X.pure false) := by
    funext σ
    rw [X.bind_assoc]
    unfold X.bind
    cases hq : cmpop S.P o1 a b σ with
    | none => rfl
    | some p =>
      obtain ⟨q, σ₁⟩ := p
      cases q with
      | err k => rfl
      | ok q =>
        obtain ⟨t, rfl⟩ := cmpop_bool hq
        cases t <;> rfl
  rw [e]
  refine (SM.hold (sm_cmpop hr (ha.mono k') hb)).bind fun ρ₃ q qv k₃ hq => SM.release ((SM.hold (sm_truth hq)).bind fun ρ₄ t t' k₄ ht => ?_)
  subst ht
  cases t
  · exact SM.pure fun ρ₅ k₅ => rfl
  · show SM S c ρ₄ EqR (testChain pos w [o2] [eval r2 c.env]) (X.bind (X.bind z fun d => cmpop S.P o2 b d) truth)
    rw [X.bind_assoc]
    exact (SM.hold (hz.mono (k.trans (k'.trans (k₃.trans k₄))))).bind fun ρ₅ d dv k₅ hd => SM.stand ((SM.operate (sm_cmpop hr (hb.mono (k₃.trans (k₄.trans k₅))) hd)).bind fun _ _ _ _ h => SM.hold (sm_truth h))

theorem sm_list {xs : List Expr} {pos : Pos} {x : X (List V)} (h : SM S c ρ VRs (spliced (backTo pos (starEach xs c.env))) x) : SM S c ρ VR (eval (.List xs pos) c.env) (X.bind x fun vs => alloc (.list vs)) := by
  rw [arm_eval_List]
  exact SM.stand (h.bind fun ρ' vs ws k hw => sm_newList hw)
theorem sm_tup {xs : List Expr} {pos : Pos} {k : Nat} {x : X (List V)} (h : SM S c ρ VRs (spliced (backTo pos (starEach xs c.env))) x) : SM S c ρ VR (eval (.Tuple xs k pos) c.env) (X.bind x fun vs => alloc (.tup vs)) := by
  rw [arm_eval_Tuple]
  exact SM.stand (h.bind fun ρ' vs ws k hw => sm_newTuple hw)
theorem sm_dict0 {pos : Pos} : SM S c ρ VR (eval (.Dict [] [] pos) c.env) (alloc (.dict [])) := by
  refine (sm_newDict (S := S) (c := c) (ρ := ρ)).via fun Q E s h => ?_
  rw [arm_eval_Dict]
  exact wpAny_bind (wpAny_standAt h)
theorem base_of {o : Expr} (h : plainBase o = true) (attr : Str) (env : Env) (whole : Sem Value) : attributeBase o attr env whole = whole := by
  unfold attributeBase
  split
  · cases h
  · rfl
theorem sm_attr (TV : TabOK S) {n : Nat} (K : CtxOK S n c) {e : Expr} {nm : Str} {i : Nat} {pos : Pos} {x : X V} (hn : S.T[i]? = some nm) (hb : plainBase e = true) (hx : SM S c ρ VR (eval e c.env) x) :
    SM S c ρ VR (eval (.Attribute e nm pos) c.env) (X.bind x fun o => getAttr o i) := by
  rw [arm_eval_Attribute, base_of hb]
  refine hx.bind fun ρ' a v k ha => SM.stand ?_
  refine (SM.hold (vs := [v]) (sm_getAttr (ex := true) TV K.kin hn ha)).via fun Q E s h => ?_
  exact wpAny_bind (wpAny_mono h (fun r s' hr => wpAny_bind (wpAny_letTemporaryGo (wpAny_pure hr))) fun _ _ h => h)
theorem sm_sub {e i : Expr} {pos : Pos} {x y : X V} (hi : isSlice i = false) (hx : SM S c ρ VR (eval e c.env) x) (hy : SM S c ρ VR (eval i c.env) y) : SM S c ρ VR (eval (.Subscript e i pos) c.env) (X.bind x fun o => X.bind y fun k => getItem S.P o k) := by
  rw [arm_eval_Subscript]
  refine hx.bind fun ρ' a v k ha => (SM.hold (hy.mono k)).bind fun ρ'' b w k' hb => SM.stand ?_
  refine sm_getItem (value := e) (slice := i) (ha.mono k') hb fun o j => ?_
  cases i <;> first | rfl | cases hi
end Mine

set_option autoImplicit false
namespace Mine
open PySem PySem.W PySem.Calls PyProof.Rows
variable {S : Sig} {c : Cx} {ρ : List Addr}

noncomputable def SC (S : Sig) (c : Cx) (ρ₀ : List Addr) (f : Value) (vs : List Value) (x : X V) : Prop :=
  ∀ (os : List (Addr × Obj)) (σ : H) (s : Shared) (r : R V) (σ' : H), ρ₀ <+: adr os → c.led S os σ s.heap → x σ = some (r, σ') →
    ∀ (R : Result → Shared → Prop),
      (match r with
        | .ok b => ∀ os' h' tk a, adr os <+: adr os' → c.led S os' σ' h' → VR (adr os') b a → R (.ok (.ret a)) { s with heap := h', toks := tk }
        | .err k => ∀ os' h' tk e, adr os <+: adr os' → c.led S os' σ' h' → Fly c e k h' → R (.error e) { s with heap := h', toks := tk }) →
      codeAny (model S.prog S.w) c.A (.call f ⟨vs, []⟩) R s
theorem SC.sm {f : Value} {vs : List Value} {x : X V} (h : SC S c ρ f vs x) : SM S c ρ VR (call f vs) x := by
  intro os σ s r σ' hp hl hx Q E hQ
  refine wpAny_call (h os σ s r σ' hp hl hx _ ?_)
  cases r with
  | ok b => exact hQ
  | err k => exact hQ

structure CallsOK (S : Sig) (C : Calls) (n : Nat) : Prop where
  fn : ∀ {c : Cx} {ρ : List Addr} {f : Nat} {A : Addr} {xs : List V} {vs : List Value}, CtxOK S n c → S.fn f = some A → All2 (VR ρ) xs vs → SC S c ρ (.ref A) vs (C false f xs)
  me : ∀ {c : Cx} {ρ : List Addr} {f : Nat} {A : Addr} {xs : List V} {vs : List Value}, CtxOK S n c → S.me f = some A → All2 (VR ρ) xs vs → SC S c ρ (.ref A) vs (C true f xs)

noncomputable def Kept (S : Sig) (f : Value) : Prop := ∀ h, S.K.In h → ∃ k, (k = Keeper.frame ∨ k = Keeper.machine ∨ k = Keeper.boundFrame) ∧ Looks (model S.prog S.w) h (keeperOf f) k
theorem kept_builtin (id : String) : Kept S (.builtin id) := fun _ _ => ⟨.machine, .inr (.inl rfl), Looks.of_pure rfl⟩
theorem kept_type (id : String) : Kept S (.type id) := fun _ _ => ⟨.machine, .inr (.inl rfl), Looks.of_pure rfl⟩
theorem kept_K {f : Value} (h : keepIn S.K f = true) : Kept S f := fun h' X => keeps_K h h' X

noncomputable def NoStar (xs : List Expr) (env : Env) : Prop := (starEach xs env).all (fun x => !x.1) = true
theorem back_noStar {xs : List Expr} {env : Env} {pos : Pos} (h : NoStar xs env) : (backTo pos (starEach xs env)).any (·.1) = false ∧ (backTo pos (starEach xs env)).all (fun x => !x.1) = true := by
  unfold NoStar at h
  have : ∀ l : List (Bool × Sem Value), l.all (fun x => !x.1) = true → (backTo pos l).any (·.1) = false ∧ (backTo pos l).all (fun x => !x.1) = true := by
    intro l
    induction l with
    | nil => intro _; exact ⟨rfl, rfl⟩
    | cons p r ih =>
      intro h
      obtain ⟨b, t⟩ := p
      simp only [List.all_cons, Bool.and_eq_true] at h
      obtain ⟨i1, i2⟩ := ih h.2
      have hb : b = false := by simpa using h.1
      subst hb
      exact ⟨by show (false || _) = false; rw [Bool.false_or]; exact i1, by show (true && _) = true; rw [Bool.true_and]; exact i2⟩
  exact this _ h

theorem sm_callWith {n : Nat} (K : CtxOK S n c) {xs : List Expr} {pos : Pos} {f : Value} {first : List Value} {β : Type} {RA : List Addr → β → List Value → Prop} {ax : X β} {g : β → X V} (hf : Kept S f) (hs : NoStar xs c.env)
    (ha : SM S c ρ RA (spliced (backTo pos (starEach xs c.env))) ax) (hg : ∀ ρ' vs ws, ρ <+: ρ' → RA ρ' vs ws → SM S c ρ' VR (call f (first ++ ws)) (g vs)) :
    SM S c ρ VR (callWith pos f first (backTo pos (starEach xs c.env)) []) (X.bind ax g) := by
  have hb := back_noStar (pos := pos) hs
  have key : SM S c ρ VR (spliced (backTo pos (starEach xs c.env)) >>= fun vs => call f (first ++ vs)) (X.bind ax g) := ha.bind fun ρ' vs ws k h => hg ρ' vs ws k h
  intro os σ s r σ' hp hl hx Q E hQ
  refine callWith_of (P := S.K.In) (by rw [hb.1]; rfl) hf ?_
  have inner : wpAny (model S.prog S.w) c.A (spliced (backTo pos (starEach xs c.env))) (fun ws s' => S.K.In s'.heap ∧ wpAny (model S.prog S.w) c.A (call f (first ++ ws)) Q E s') E s := by
    rcases X.bind_inv hx with ⟨vs, σ₁, e1, e2⟩ | ⟨k, e1, rfl⟩
    · refine ha os σ s _ _ hp hl e1 _ _ fun os' h' tk ws k l' hr => ⟨K.kin.keeps l'.fr.keep, ?_⟩
      refine hg _ vs ws (hp.trans k) hr os' σ₁ { s with heap := h', toks := tk } r σ' List.prefix_rfl l' e2 Q E ?_
      cases r with
      | ok d => exact fun os'' h'' tk' a' k' l'' hr' => hQ os'' h'' tk' a' (k.trans k') l'' hr'
      | err e => exact fun os'' h'' tk' a' k' l'' hr' => hQ os'' h'' tk' a' (k.trans k') l'' hr'
    · exact ha os σ s _ _ hp hl e1 _ _ hQ
  cases hq : backTo pos (starEach xs c.env) with
  | nil =>
    rw [hq] at inner
    unfold evalArgs
    show wpAny _ _ (spliced [] >>= _) _ _ _
    refine wpAny_bind (wpAny_mono inner (fun vs s' h' => ?_) fun _ _ h => h)
    refine wpAny_bind (wpAny_pure (wpAny_holding ?_))
    exact wpAny_bind (wpAny_pure (wpAny_bind (wpAny_pure (wpAny_pure h'))))
  | cons p rest =>
    obtain ⟨b, t⟩ := p
    have hb' : b = false := by
      have := hb.1; rw [hq, List.any_cons] at this
      exact (Bool.or_eq_false_iff.mp this).1
    subst hb'
    rw [hq] at inner
    exact evalArgs_plain inner

theorem sm_splice {β γ : Type} {x : Sem Value} {rest : List (Bool × Sem Value)} {R1 : List Addr → β → Value → Prop} {R2 : List Addr → γ → List Value → Prop} {ax : X β} {bx : β → X γ} (h1 : SM S c ρ R1 x ax)
    (h2 : ∀ ρ' b v, ρ <+: ρ' → R1 ρ' b v → SM S c ρ' (fun ρ'' g ws => R2 ρ'' g (v :: ws)) (spliced rest) (bx b)) : SM S c ρ R2 (spliced ((false, x) :: rest)) (X.bind ax bx) := by
  intro os σ s r σ' hp hl hx Q E hQ
  refine spliced_cons ?_
  rcases X.bind_inv hx with ⟨b, σ₁, e1, e2⟩ | ⟨k, e1, rfl⟩
  · refine h1 os σ s _ _ hp hl e1 _ _ fun os' h' tk v k l' hr => ?_
    refine h2 _ b v (hp.trans k) hr os' σ₁ { s with heap := h', toks := tk } r σ' List.prefix_rfl l' e2 _ E ?_
    cases r with
    | ok d => exact fun os'' h'' tk' a' k' l'' hr' => hQ os'' h'' tk' (v :: a') (k.trans k') l'' hr'
    | err e => exact fun os'' h'' tk' a' k' l'' hr' => hQ os'' h'' tk' a' (k.trans k') l'' hr'
  · exact h1 os σ s _ _ hp hl e1 _ _ hQ

structure SigOK (S : Sig) : Prop where
  tab : TabOK S
  globs : ∀ i v, S.P.globs.lookup i = some v → ∃ nm x, S.T[i]? = some nm ∧ nsIn S.K mainGlobals nm = some (some x) ∧ ∀ ρ, VR ρ v x
  tabs : S.P.tabs = []
  fns : ∀ i A, S.fn i = some A → ∃ nm, S.T[i]? = some nm ∧ nsIn S.K mainGlobals nm = some (some (.ref A)) ∧ keepIn S.K (.ref A) = true
  bis : ∀ b, nsIn S.K mainGlobals (biName b) = some none
  isi : nsIn S.K mainGlobals "isinstance" = some none
  kls : ∀ k ≤ 4, nsIn S.K mainGlobals (clsName k) = some none
  mes : ∀ i A, S.me i = some A → ∃ nm, S.T[i]? = some nm ∧ i ∉ S.P.attrs ∧ keepIn S.K (.ref A) = true ∧ isFn S.K (.ref A) = true ∧ ∀ k C, S.cls k = some C → plainGet S.K C nm = true ∧ findIn S.K (.ref C) nm = some (some (.ref A))
  cls : ∀ i C, S.cls i = some C → ∃ nm, S.T[i]? = some nm ∧ nsIn S.K mainGlobals nm = some (some (.ref C)) ∧ keepIn S.K (.ref C) = true ∧ makesIn S.K C = true
  init : ∃ fI, S.me S.P.init = some fI ∧ ∀ i C, S.cls i = some C → findIn S.K (.ref C) "__init__" = some (some (.ref fI)) ∧ typeIn S.K (.ref fI) = some (.type "function")
  nApp : S.T[idAppend]? = some ("append" : Str)
  nPop : S.T[idPop]? = some ("pop" : Str)
  nClr : S.T[idClear]? = some ("clear" : Str)

theorem bi_boot (b : Bi) : bootBuiltins (biName b) = some (biVal b) := by cases b <;> decide +kernel
theorem cls_boot {k : Nat} (h : k ≤ 4) : bootBuiltins (clsName k) = some (.type (clsName k)) := by
  match k, h with
  | 0, _ => decide +kernel
  | 1, _ => decide +kernel
  | 2, _ => decide +kernel
  | 3, _ => decide +kernel
  | 4, _ => decide +kernel
theorem isi_boot : bootBuiltins "isinstance" = some (.builtin "isinstance") := by decide +kernel
theorem bi_ne (b : Bi) : biName b ≠ "__name__" := by cases b <;> decide +kernel
theorem cls_ne {k : Nat} (h : k ≤ 4) : (clsName k : Str) ≠ "__name__" := by
  match k, h with
  | 0, _ => decide +kernel
  | 1, _ => decide +kernel
  | 2, _ => decide +kernel
  | 3, _ => decide +kernel
  | 4, _ => decide +kernel
theorem kept_bi (b : Bi) : Kept S (biVal b) := by cases b <;> first | exact kept_builtin _ | exact kept_type _

theorem sm_Call {xs : List Expr} {nm : Str} {p pos : Pos} {f : Value} {x : X V} (hn : SM S c ρ (fun _ _ v => v = f) (eval (.Name nm p) c.env) (X.pure V.none))
    (hc : SM S c ρ VR (callWith pos f [] (backTo pos (starEach xs c.env)) []) x) : SM S c ρ VR (eval (.Call (.Name nm p) xs [] pos) c.env) x := by
  have key : SM S c ρ VR (eval (.Name nm p) c.env >>= fun f => callWith pos f [] (backTo pos (starEach xs c.env)) []) (X.bind (X.pure V.none) fun _ => x) :=
    hn.bind fun ρ' _ v k h => by subst h; exact hc.mono k
  rw [X.pure_bind] at key
  exact key.eq (by rw [arm_eval_Call_Name']; rfl)

theorem sm_call {n : Nat} (K : CtxOK S (n + 2) c) (OK : SigOK S) {sc : Scope} (SO : ScOK sc c.env) {C : Calls} (HC : CallsOK S C n) {xs : List Expr} {nm : Str} {p pos : Pos} {f : Nat} {ax : X (List V)} (hn : S.T[f]? = some nm) (hg : isGlob sc nm = true) (hf : (S.fn f).isSome = true)
    (hs : NoStar xs c.env) (ha : SM S c ρ VRs (spliced (backTo pos (starEach xs c.env))) ax) : SM S c ρ VR (eval (.Call (.Name nm p) xs [] pos) c.env) (X.bind ax fun vs => C false f vs) := by
  obtain ⟨A, hA⟩ := Option.isSome_iff_exists.mp hf
  obtain ⟨nm', h1, h2, h3⟩ := OK.fns f A hA
  rw [hn] at h1; cases h1
  have hg' := Bool.and_eq_true_iff.mp hg
  refine sm_Call (f := .ref A) (sm_top K (SO.glob _ (of_decide_eq_true hg'.1)) (by simpa using hg'.2) h2 fun _ => rfl) ?_
  exact sm_callWith K (kept_K h3) hs ha fun ρ' vs ws k h => (HC.fn (K.le (Nat.le_add_right _ _)) hA h).sm
theorem sm_bi {n : Nat} (K : CtxOK S n c) (OK : SigOK S) {sc : Scope} (SO : ScOK sc c.env) {xs : List Expr} {nm : Str} {p pos : Pos} {b : Bi} {ax : X (List V)} (hn : nm = biName b) (hg : isGlob sc nm = true)
    (hs : NoStar xs c.env) (ha : SM S c ρ VRs (spliced (backTo pos (starEach xs c.env))) ax) : SM S c ρ VR (eval (.Call (.Name nm p) xs [] pos) c.env) (X.bind ax fun vs => builtin b vs) := by
  subst hn
  have hg' := Bool.and_eq_true_iff.mp hg
  refine sm_Call (f := biVal b) (sm_boot K (SO.glob _ (of_decide_eq_true hg'.1)) (by simpa using hg'.2) (OK.bis b) (bi_boot b) (bi_ne b) fun _ => rfl) ?_
  exact sm_callWith K (kept_bi b) hs ha fun ρ' vs ws k h => sm_builtin K.hand h
theorem sm_isinst {n : Nat} (K : CtxOK S n c) (OK : SigOK S) {sc : Scope} (SO : ScOK sc c.env) {e : Expr} {cn : Str} {p q pos : Pos} {k : Nat} {x : X V} (hg : isGlob sc "isinstance" = true) (hcg : isGlob sc cn = true) (hk : k ≤ 4) (hcn : cn = (clsName k : Str))
    (hs : NoStar [e, .Name cn q] c.env) (he : starEach [e, .Name cn q] c.env = [(false, eval e c.env), (false, eval (.Name cn q) c.env)]) (hx : SM S c ρ VR (eval e c.env) x) :
    SM S c ρ VR (eval (.Call (.Name "isinstance" p) [e, .Name cn q] [] pos) c.env) (X.bind x fun v => X.bind (isinsts S.P v [k]) fun b => X.pure (.bool b)) := by
  subst hcn
  have hg' := Bool.and_eq_true_iff.mp hg
  have hcg' := Bool.and_eq_true_iff.mp hcg
  refine sm_Call (f := .builtin "isinstance") (sm_boot K (SO.glob _ (of_decide_eq_true hg'.1)) (by simpa using hg'.2) OK.isi isi_boot (by decide +kernel) fun _ => rfl) ?_
  have key : SM S c ρ (fun ρ' v ws => ∃ w, ws = [w, .type (clsName k)] ∧ VR ρ' v w) (spliced (backTo pos (starEach [e, .Name (clsName k) q] c.env))) (X.bind x fun v => X.bind (X.pure V.none) fun _ => X.pure v) := by
    rw [he]
    refine sm_splice hx fun ρ' v w k' hv => ?_
    refine sm_splice (sm_boot (x := V.none) (RV := fun _ _ u => u = .type (clsName k)) K (SO.glob _ (of_decide_eq_true hcg'.1)) (by simpa using hcg'.2) (OK.kls k hk) (cls_boot hk) (cls_ne hk) fun _ => rfl) fun ρ'' _ u k'' hu => ?_
    subst hu
    exact SM.pure fun ρ₃ k₃ => ⟨w, rfl, (hv.mono k'').mono k₃⟩
  refine (sm_callWith (RA := fun ρ' v ws => ∃ w, ws = [w, .type (clsName k)] ∧ VR ρ' v w) (g := fun v => X.bind (isinsts S.P v [k]) fun b => X.pure (.bool b)) K (kept_builtin "isinstance") hs key fun ρ' v ws k' h => ?_).eqx ?_
  · obtain ⟨w, rfl, hw⟩ := h
    exact sm_isi hw hk
  · rw [X.bind_assoc]; rfl
end Mine

set_option autoImplicit false
namespace Mine
open PySem PySem.W PySem.Calls PyProof.Rows
variable {S : Sig} {c : Cx} {ρ : List Addr}

theorem methodCall_of {α : Type} {o : Expr} {name : Str} {apos pos : Pos} {env : Env} {ov : Value} {n : Nat} {args : List (Bool × Sem Value)} {M : Model} {A : Around} {E : Value → Shared → Prop} {s : Shared} {Q : Value → Shared → Prop} {f : Value} {first : List Value}
    (_ : α) (hform : methodCallForm n args [] = true) (hline : (apos.endLine == pos.line) = true)
    (hm : ∀ Q' : Value × List Value → Shared → Prop, Q' (f, first) s → wpAny M A (getMethod ov name (do return (← importBound o env).getD true)) Q' E s)
    (h : wpAny M A (callWith pos f first args []) Q E s) : wpAny M A (methodCall o name apos pos env ov n args []) Q E s := by
  unfold methodCall
  have hpos : methodCallPos true o env apos pos = pure pos := by unfold methodCallPos; simp [hline]
  rw [hform]
  refine wpAny_bind (wpAny_holding ?_)
  show wpAny M A (getMethod ov name _) _ E s
  exact hm _ (wpAny_bind (wpAny_of_eq hpos h))

theorem kdOf_list {v : V} {σ : H} (h : kdOf v σ = .list) : ∃ k xs, v = .ref k ∧ σ.get k = some (.list xs) := by
  unfold kdOf at h
  split at h
  · split at h
    · split at h <;> cases h
    · rename_i e; exact ⟨_, _, rfl, e⟩
    · cases h
    · cases h
  · cases h
  · cases h
theorem kdOf_dict {v : V} {σ : H} (h : kdOf v σ = .dict) : ∃ k xs, v = .ref k ∧ σ.get k = some (.dict xs) := by
  unfold kdOf at h
  split at h
  · split at h
    · split at h <;> cases h
    · cases h
    · rename_i e; exact ⟨_, _, rfl, e⟩
    · cases h
  · cases h
  · cases h
theorem kdOf_inst {v : V} {σ : H} (h : kdOf v σ = .inst) : ∃ k q d es, v = .ref k ∧ σ.get k = some (.inst q d) ∧ σ.get d = some (.attrs es) := by
  unfold kdOf at h
  split at h
  · split at h
    · rename_i e
      split at h
      · rename_i e2; exact ⟨_, _, _, _, rfl, e, e2⟩
      · cases h
    · cases h
    · cases h
    · cases h
  · cases h
  · cases h

theorem sm_meth {n : Nat} (K : CtxOK S (n + 2) c) (OK : SigOK S) {C : Calls} (HC : CallsOK S C n) {o : Expr} {xs : List Expr} {nm : Str} {i : Nat} {apos pos : Pos} {x : X V} {ax : X (List V)} (hn : S.T[i]? = some nm) (hb : plainBase o = true) (hline : (apos.endLine == pos.line) = true)
    (hlen : xs.length < 30) (hi : i ≤ 12 ∨ (S.me i).isSome = true) (hs : NoStar xs c.env) (hx : SM S c ρ VR (eval o c.env) x) (ha : SM S c ρ VRs (spliced (backTo pos (starEach xs c.env))) ax) :
    SM S c ρ VR (eval (.Call (.Attribute o nm apos) xs [] pos) c.env) (X.bind x fun ov => fun h => match kdOf ov h with
      | .inst => if i ≤ 12 then none else X.bind ax (fun vs => C true i (ov :: vs)) h
      | .list => if i = idAppend ∨ i = idPop ∨ i = idClear then X.bind ax (fun vs => listMeth S.P ov i vs) h else none
      | .dict => if i = idPop then X.bind ax (fun vs => dictMeth S.P ov i vs) h else none
      | _ => none) := by
  rw [arm_eval_Call, base_of hb]
  refine hx.bind fun ρ' a v k hv => SM.stand ?_
  show SM S c ρ' VR (methodCall o nm apos pos c.env v (xs.length + 0) (backTo pos (starEach xs c.env)) []) _
  have hform : methodCallForm (xs.length + 0) (backTo pos (starEach xs c.env)) [] = true := by
    unfold methodCallForm
    rw [(back_noStar hs).2]
    simp [hlen]
  have ha' := ha.mono k
  intro os σ s r σ' hp hl he Q E hQ
  cases hk : kdOf a σ with
  | inst =>
    dsimp only at he
    rw [hk] at he
    dsimp only at he
    split at he
    · cases he
    · rename_i hi'
      obtain ⟨A, hA⟩ := Option.isSome_iff_exists.mp (hi.resolve_left hi')
      obtain ⟨nm', h1, h2, h3, h4, h5⟩ := OK.mes i A hA
      rw [hn] at h1; cases h1
      obtain ⟨q, cl, d, es, rfl, e1, e2⟩ := kdOf_inst hk
      obtain ⟨B, o1, rfl, _, _, ⟨Cl, D, hC, hD, rfl⟩, g1, _⟩ := hl.ref hp e1 hv
      obtain ⟨D', o2, _, eD, ⟨es', n', rfl, hes, hz⟩, g2, _⟩ := hl.at e2
      rw [hD] at eD; cases eD
      have I : InstAt s.heap B ⟨.ref Cl, some D, .plain, #[]⟩ Cl (some (dictOf es' n')) := ⟨g1, rfl, rfl, g2⟩
      have hg : getL nm es' = some none := by
        rcases attrs_get OK.tab hn hes with ⟨_, e⟩ | ⟨v', w, e, _, _⟩
        · exact e
        · exact absurd (attrs_mem hes e) h2
      refine methodCall_of () hform hline (fun Q' q' => method_inst hl.fr K.kin I (h5 _ _ hC).1 (h5 _ _ hC).2 h4 hg q') ?_
      exact sm_callWith K (kept_K h3) hs ha' (fun ρ'' vs ws k' h => (HC.me (K.le (Nat.le_add_right _ _)) hA (.cons (hv.mono k') h)).sm) os σ s r σ' hp hl he Q E hQ
  | list =>
    dsimp only at he
    rw [hk] at he
    dsimp only at he
    split at he
    · rename_i hi'
      obtain ⟨q, ys, rfl, e1⟩ := kdOf_list hk
      obtain ⟨B, o1, rfl, _, _, ⟨vs, m, rfl, hvs, _⟩, g1, _⟩ := hl.ref hp e1 hv
      have hT : s.TypeIs (.ref B) "list" := ⟨_, g1, rfl⟩
      have hd : ∀ a, Value.ref B = .ref a → ∃ ob, s.heap.get? a = some ob ∧ ob.dict = none := fun a e => by cases e; exact ⟨_, g1, rfl⟩
      rcases hi' with rfl | rfl | rfl
      · rw [OK.nApp] at hn; cases hn
        refine methodCall_of () hform hline (fun Q' q' => getMethod_builtin hT PySem.F.plainAttrs_list PySem.F.slot_list_append PySem.F.type_list_append hd q') ?_
        exact sm_callWith K (kept_builtin _) hs ha' (fun ρ'' vs ws k' h => sm_append (hv.mono k') h) os σ s r σ' hp hl he Q E hQ
      · rw [OK.nPop] at hn; cases hn
        refine methodCall_of () hform hline (fun Q' q' => getMethod_builtin hT PySem.F.plainAttrs_list PySem.F.slot_list_pop PySem.F.type_list_pop hd q') ?_
        exact sm_callWith K (kept_builtin _) hs ha' (fun ρ'' vs ws k' h => sm_pop (hv.mono k') h) os σ s r σ' hp hl he Q E hQ
      · rw [OK.nClr] at hn; cases hn
        refine methodCall_of () hform hline (fun Q' q' => getMethod_builtin hT PySem.F.plainAttrs_list PySem.F.slot_list_clear PySem.F.type_list_clear hd q') ?_
        exact sm_callWith K (kept_builtin _) hs ha' (fun ρ'' vs ws k' h => sm_clear (hv.mono k') h) os σ s r σ' hp hl he Q E hQ
    · cases he
  | dict =>
    dsimp only at he
    rw [hk] at he
    dsimp only at he
    split at he
    · rename_i hi'
      subst hi'
      obtain ⟨q, ys, rfl, e1⟩ := kdOf_dict hk
      obtain ⟨B, o1, rfl, _, _, ⟨es', m, kvs, rfl, k1, k2, k3, k4, hz⟩, g1, _⟩ := hl.ref hp e1 hv
      have hT : s.TypeIs (.ref B) "dict" := ⟨_, g1, rfl⟩
      have hd : ∀ a, Value.ref B = .ref a → ∃ ob, s.heap.get? a = some ob ∧ ob.dict = none := fun a e => by cases e; exact ⟨_, g1, rfl⟩
      rw [OK.nPop] at hn; cases hn
      refine methodCall_of () hform hline (fun Q' q' => getMethod_builtin hT PySem.F.plainAttrs_dict PySem.F.slot_dict_pop PySem.F.type_dict_pop hd q') ?_
      exact sm_callWith K (kept_builtin _) hs ha' (fun ρ'' vs ws k' h => sm_dpop (hv.mono k') h) os σ s r σ' hp hl he Q E hQ
    · cases he
  | str => dsimp only at he; rw [hk] at he; cases he
  | other => dsimp only at he; rw [hk] at he; cases he

theorem emptyDict_attrs : OR S ρ (.attrs []) emptyDict := ⟨[], 0, rfl, .nil, by decide⟩

theorem CtxOK.under {n : Nat} (K : CtxOK S (n + 2) c) {cd : Code} (hw : cd.weight ≤ 2) (hu : cd.cUnits ≤ 4) : CtxOK S n { c with A := c.A.under cd } := by
  refine ⟨K.hand, ?_, ?_, K.kin, K.top, K.lim, K.kind, K.glob, K.blt, K.locs⟩
  · have := K.units; show c.A.units + cd.cUnits + _ + _ < _; lia
  · have := K.depth; show c.A.depth + cd.weight + _ < _; lia

theorem sm_new {n : Nat} (K : CtxOK S (n + 2) c) (OK : SigOK S) {sc : Scope} (SO : ScOK sc c.env) {C : Calls} (HC : CallsOK S C n) {nm : Str} {p pos : Pos} {f : Nat} (hn : S.T[f]? = some nm) (hg : isGlob sc nm = true) (hf : (S.cls f).isSome = true) :
    SM S c ρ VR (eval (.Call (.Name nm p) [] [] pos) c.env) (X.bind (alloc (.attrs [])) fun d => match d with
    | .ref k => X.bind (alloc (.inst f k)) fun o => X.bind (C true S.P.init [o]) fun r => match r with | .none => X.pure o | _ => X.none
    | _ => X.none) := by
  obtain ⟨Cl, hCl⟩ := Option.isSome_iff_exists.mp hf
  obtain ⟨nm', h1, h2, h3, h4⟩ := OK.cls f Cl hCl
  rw [hn] at h1; cases h1
  obtain ⟨fI, hI, hI'⟩ := OK.init
  have hg' := Bool.and_eq_true_iff.mp hg
  refine sm_Call (f := .ref Cl) (sm_top K (SO.glob _ (of_decide_eq_true hg'.1)) (by simpa using hg'.2) h2 fun _ => rfl) ?_
  generalize hy : (X.bind (alloc (.attrs [])) fun d => match d with
    | .ref k => X.bind (alloc (.inst f k)) fun o => X.bind (C true S.P.init [o]) fun r => match r with | .none => X.pure o | _ => X.none
    | _ => X.none) = y
  refine (sm_callWith (xs := []) (ax := X.pure ()) (RA := fun _ _ ws => ws = []) (g := fun _ => y) K (kept_K h3) (by unfold NoStar; rfl) (SM.pure fun _ _ => rfl) fun ρ' _ ws k hw => ?_).eqx (X.pure_bind () (fun _ => y)).symm
  subst hw hy
  show SM S c ρ' VR (call (.ref Cl) []) _
  intro os σ s r σ' hp hl he Q E hQ
  refine wpAny_call ?_
  obtain ⟨hh, g, d, t, oss⟩ := s
  have KX := K.kin.keeps hl.fr.keep
  refine make_core (makes_of KX h4) (looks_findIn KX (hI' f Cl hCl).1) (fun self => bind_fn KX self (hI' f Cl hCl).2) (.inl rfl) ?_
  have l1 := hl.pushed (o := .attrs []) emptyDict_attrs
  have eD : (adr (os ++ [(hh.objs.size, emptyDict)]))[σ.length]? = some hh.objs.size := by rw [hl.len]; simp [adr]
  have l2 := l1.pushed (x := instObj Cl hh.objs.size) (o := .inst f σ.length) ⟨Cl, hh.objs.size, hCl, eD, rfl⟩
  have hx : (hh.push emptyDict).objs.size = hh.objs.size + 1 := Heap.size_push ..
  have v2 := l1.ref_new (p := ((hh.push emptyDict).objs.size, instObj Cl hh.objs.size))
  have len1 : (σ.push (.attrs [])).length = σ.length + 1 := by simp [H.push]
  have he : X.bind (C true S.P.init [.ref (σ.length + 1)]) (fun r => match r with | .none => X.pure (.ref (σ.length + 1)) | _ => X.none) ((σ.push (.attrs [])).push (.inst f σ.length)) = some (r, σ') := by
    rw [← len1]; exact he
  rw [len1, hx] at v2
  rw [hx] at l2
  have K' : CtxOK S n { c with A := c.A.under (.builtin "type.__call__" ⟨[.ref Cl], []⟩) } := K.under (Nat.le_of_ble_eq_true rfl) (Nat.le_of_ble_eq_true rfl)
  have call := HC.me (c := { c with A := c.A.under (.builtin "type.__call__" ⟨[.ref Cl], []⟩) }) K' hI (All2.one (R := VR (adr (os ++ [(hh.objs.size, emptyDict)] ++ [(hh.objs.size + 1, instObj Cl hh.objs.size)]))) v2)
  rcases X.bind_inv he with ⟨rv, σ₁, e1, e2⟩ | ⟨q, e1, rfl⟩
  · refine call _ _ ⟨(hh.push emptyDict).push (instObj Cl hh.objs.size), g, d, t, oss⟩ _ _ List.prefix_rfl l2 e1 _ fun os' h' tk a k' l' hr => ?_
    cases rv with
    | none =>
      cases e2
      refine ⟨hr, hQ os' h' tk _ ((adr_new.trans adr_new).trans k') l' (v2.mono k')⟩
    | _ => cases e2
  · exact call _ _ ⟨(hh.push emptyDict).push (instObj Cl hh.objs.size), g, d, t, oss⟩ _ _ List.prefix_rfl l2 e1 _ fun os' h' tk e k' l' hr => hr.elim
end Mine

set_option autoImplicit false
namespace Mine
open PySem PySem.W PySem.Calls PyProof.Rows
variable {S : Sig} {c : Cx} {ρ : List Addr}

section
variable {h₀ h h' : Heap} {L : Addr} {m : Str → Option Value} {fs : Fs} {k1 k2 kp os : List (Addr × Obj)} {σ : H} {a I : Addr} {x x' : Obj}

theorem mem_mid {p : Addr × Obj} (hp : p ∈ k1 ++ k2 ++ os) : p ∈ (k1 ++ (a, x) :: k2) ++ os := by
  simp only [List.mem_append, List.mem_cons] at hp ⊢
  rcases hp with (q | q) | q
  · exact .inl (.inl q)
  · exact .inl (.inr (.inr q))
  · exact .inr q
theorem mid_mem {p : Addr × Obj} (hp : p ∈ (k1 ++ (a, x) :: k2) ++ os) : p = (a, x) ∨ p ∈ k1 ++ k2 ++ os := by
  simp only [List.mem_append, List.mem_cons] at hp ⊢
  rcases hp with (q | q | q) | q
  · exact .inr (.inl (.inl q))
  · exact .inl q
  · exact .inr (.inl (.inr q))
  · exact .inr (.inr q)
theorem adr_mid : adr (k1 ++ (a, x) :: k2 ++ os) = adr k1 ++ a :: (adr k2 ++ adr os) := by simp [adr]
theorem Led.kmid (l : Led S h₀ L m fs (k1 ++ (a, x) :: k2) os σ h) : h.get? a = some x ∧ a ≠ L ∧ h₀.get? a = none ∧ (∀ f ∈ fs, f.1 ≠ a) ∧ (∀ p ∈ k1 ++ k2 ++ os, p.1 ≠ a) := by
  have hm : (a, x) ∈ (k1 ++ (a, x) :: k2) ++ os := by simp
  refine ⟨(l.news _ hm).1, (l.news _ hm).2.1, (l.news _ hm).2.2, fun f hf e => (l.outs f hf).2.2.2 (by rw [e]; exact List.mem_map.mpr ⟨_, hm, rfl⟩), fun p hp e => ?_⟩
  have nd := l.nd
  rw [adr_mid] at nd
  obtain ⟨_, n2, n3⟩ := List.nodup_append.mp nd
  rcases List.mem_append.mp hp with hp | hp
  · rcases List.mem_append.mp hp with hp | hp
    · exact n3 p.1 (List.mem_map_of_mem hp) a (.head _) e
    · exact (List.nodup_cons.mp n2).1 (e ▸ List.mem_append_left _ (List.mem_map_of_mem hp))
  · exact (List.nodup_cons.mp n2).1 (e ▸ List.mem_append_right _ (List.mem_map_of_mem hp))
theorem Led.kset (l : Led S h₀ L m fs (k1 ++ (a, x) :: k2) os σ h) (hs : Heap.SameBut a h h') (hx : h'.get? a = some x') : Led S h₀ L m fs (k1 ++ (a, x') :: k2) os σ h' := by
  obtain ⟨g1, g2, g3, g4, g5⟩ := l.kmid
  refine ⟨l.fr.change hs g2 g3, fun p hp => ?_, by have := l.nd; rw [adr_mid] at this ⊢; exact this, l.objs, fun f hf => ?_, l.top, by have := l.big; rw [adr_mid] at this ⊢; exact this, l.frz⟩
  · rcases mid_mem hp with rfl | hp'
    · exact ⟨hx, g2, g3⟩
    · have := l.news p (mem_mid hp')
      exact ⟨(hs.2 _ (g5 p hp')).trans this.1, this.2⟩
  · have := l.outs f hf
    exact ⟨this.1.sameBut hs (g4 f hf), this.2.1, this.2.2.1, by have t := this.2.2.2; rw [adr_mid] at t ⊢; exact t⟩
theorem Led.kdrop (l : Led S h₀ L m fs (k1 ++ (a, x) :: k2) os σ h) : Led S h₀ L m fs (k1 ++ k2) os σ h := by
  have sub : ∀ p, p ∈ k1 ++ k2 ++ os → p ∈ (k1 ++ (a, x) :: k2) ++ os := fun p hp => mem_mid hp
  have suba : ∀ b, b ∈ adr (k1 ++ k2 ++ os) → b ∈ adr ((k1 ++ (a, x) :: k2) ++ os) := fun b hb => by
    obtain ⟨p, hp, rfl⟩ := List.mem_map.mp hb; exact List.mem_map_of_mem (sub p hp)
  refine ⟨l.fr, fun p hp => l.news p (sub p hp), ?_, l.objs, fun f hf => ⟨(l.outs f hf).1, (l.outs f hf).2.1, (l.outs f hf).2.2.1, fun q => (l.outs f hf).2.2.2 (suba _ q)⟩, l.top, fun b hb => l.big b (suba b hb), l.frz⟩
  have nd := l.nd
  refine List.Nodup.sublist ?_ nd
  unfold adr
  refine List.Sublist.map _ ?_
  refine List.Sublist.append_right ?_ _
  exact List.Sublist.append_left (List.sublist_cons_self _ _) _
theorem Led.extBut (l : Led S h₀ L m fs (k1 ++ (a, x) :: k2) os σ h) (hs : Heap.ExtBut a h h') : Led S h₀ L m fs (k1 ++ k2) os σ h' := by
  obtain ⟨g1, g2, g3, g4, g5⟩ := l.kmid
  have l' := l.kdrop
  refine ⟨⟨l'.fr.ns.at' fun o e => hs _ o (Ne.symm g2) e, fun b o e => hs b o (fun q => by rw [q, g3] at e; cases e) (l'.fr.keep b o e), l'.fr.above⟩, fun p hp => ⟨hs _ _ (g5 p hp) (l'.news p hp).1, (l'.news p hp).2⟩, l'.nd, l'.objs,
    fun f hf => ⟨(l'.outs f hf).1.at' fun o e => hs _ o (g4 f hf) e, (l'.outs f hf).2⟩, l'.top, l'.big, l'.frz⟩
theorem Led.knew (l : Led S h₀ L m fs kp os σ h) {q : Addr} (k : ∀ b o, h.get? b = some o → h'.get? b = some o) (hf : h.get? q = none) (hq : mainGlobals < q) (hx : h'.get? q = some x) : Led S h₀ L m fs (kp ++ (q, x) :: []) os σ h' := by
  obtain ⟨q1, q2, q3, q4⟩ := l.free hf
  have l' := l.keep k
  have mem : ∀ p, p ∈ (kp ++ (q, x) :: []) ++ os → p = (q, x) ∨ p ∈ kp ++ os := fun p hp => by
    have := mid_mem hp
    rwa [List.append_nil] at this
  refine ⟨l'.fr, fun p hp => ?_, ?_, l'.objs, fun f hf => ⟨(l'.outs f hf).1, (l'.outs f hf).2.1, (l'.outs f hf).2.2.1, fun hm => ?_⟩, l'.top, fun b hb => ?_, l'.frz⟩
  · rcases mem p hp with rfl | hp
    · exact ⟨hx, q1, q2⟩
    · exact l'.news p hp
  · have nd := l.nd
    unfold adr at nd q3 ⊢
    rw [List.map_append] at nd q3
    obtain ⟨n1, n2, n3⟩ := List.nodup_append.mp nd
    rw [List.append_assoc, List.map_append, List.cons_append, List.nil_append, List.map_cons]
    refine List.nodup_append.mpr ⟨n1, List.nodup_cons.mpr ⟨fun e => q3 (List.mem_append_right _ e), n2⟩, fun b hb d hd e => ?_⟩
    rcases List.mem_cons.mp hd with rfl | hd
    · exact q3 (List.mem_append_left _ (e ▸ hb))
    · exact n3 b hb d hd e
  · obtain ⟨p, hp, e⟩ := List.mem_map.mp hm
    rcases mem p hp with rfl | hp
    · exact q4 f hf e.symm
    · exact (l'.outs f hf).2.2.2 (e ▸ List.mem_map_of_mem hp)
  · obtain ⟨p, hp, rfl⟩ := List.mem_map.mp hb
    rcases mem p hp with rfl | hp
    · exact notMods hq
    · exact l.big _ (List.mem_map_of_mem hp)
theorem Led.kpush (l : Led S h₀ L m fs kp os σ h) (hx : x.isFreed = false) : Led S h₀ L m fs (kp ++ (h.objs.size, x) :: []) os σ (h.push x) :=
  l.knew (fun _ _ e => Heap.get?_push_of_some _ e) (get_size h) l.room (Heap.get?_push_size _ hx)
end

noncomputable def ItAt (h : Heap) (I : Addr) (ρ : List Addr) (v : V) (σ : H) (i : Nat) : Prop := match v with
  | .ref a => ∃ A, ρ[a]? = some A ∧ (match σ.get a with
    | some (.list _) => h.IsListIter I A i
    | some (.tup _) => h.IsTupleIter I A i
    | some (.rng x y z) => IsRangeIter h I (x + (i : Int) * z) (((rangeList x y z).length : Int) - (i : Int)) z
    | _ => False)
  | _ => False
theorem ItAt.at {h h' : Heap} {I : Addr} {ρ ρ' : List Addr} {v : V} {σ σ' : H} {i : Nat} (t : ItAt h I ρ v σ i) (k : ∀ o, h.get? I = some o → h'.get? I = some o) (kρ : ρ <+: ρ') (st : still v σ σ' = true) : ItAt h' I ρ' v σ' i := by
  unfold ItAt at t ⊢
  cases v with
  | ref a =>
    obtain ⟨A, hA, t⟩ := t
    have e : σ'.get a = σ.get a := of_decide_eq_true st
    refine ⟨A, pre_get kρ hA, ?_⟩
    rw [e]
    cases hq : σ.get a with
    | none => rw [hq] at t; exact t
    | some o =>
      rw [hq] at t
      cases o with
      | list xs => obtain ⟨o, q, r⟩ := t; exact ⟨o, k o q, r⟩
      | tup xs => obtain ⟨o, q, r⟩ := t; exact ⟨o, k o q, r⟩
      | rng x y z => exact k _ t
      | _ => exact t
  | _ => exact t

theorem range_len {a b z : Int} (hz : 0 < z) : Builtin.Range.rangeSize a b z = ((rangeList a b z).length : Int) := by
  unfold Builtin.Range.rangeSize rangeList
  rw [if_pos hz, if_pos (show z > 0 from hz), List.length_map, List.length_range]
  split
  · have : 0 ≤ (b - a - 1) / z := Int.ediv_nonneg (by lia) (Int.le_of_lt hz)
    rw [Int.toNat_of_nonneg (by lia)]
  · rfl
theorem range_at {a b z : Int} {i : Nat} {v : V} (hz : 0 < z) (h : ((rangeList a b z).map V.int)[i]? = some v) : v = .int (a + (i : Int) * z) ∧ i < (rangeList a b z).length := by
  unfold rangeList at h ⊢
  rw [if_pos hz] at h ⊢
  simp only [List.map_map, List.getElem?_map] at h
  obtain ⟨k, hk, rfl⟩ := Option.map_eq_some_iff.mp h
  obtain ⟨h1, h2⟩ := List.getElem?_eq_some_iff.mp hk
  simp only [List.getElem_range] at h2
  subst h2
  exact ⟨rfl, by simpa using h1⟩
theorem range_fits {a b z : Int} (ha : small' a = true) (hb : small' b = true) (hc : small' z = true) (hz : 0 < z) : Builtin.Range.small a b z = true := by
  unfold small' at ha hb hc
  simp only [decide_eq_true_eq] at ha hb hc
  have hn : Builtin.Range.rangeFitsLong (Builtin.Range.rangeSize a b z) = true := by
    unfold Builtin.Range.rangeSize Builtin.Range.rangeFitsLong
    rw [if_pos (show z > 0 from hz)]
    split
    · have h1 : 0 ≤ (b - a - 1) / z := Int.ediv_nonneg (by lia) (Int.le_of_lt hz)
      have h2 : (b - a - 1) / z ≤ b - a - 1 := Int.ediv_le_self _ (by lia)
      simp only [Bool.and_eq_true, decide_eq_true_eq]
      lia
    · decide
  unfold Builtin.Range.small
  rw [hn]
  unfold Builtin.Range.rangeFitsLong
  simp only [Bool.and_eq_true, Bool.or_eq_true, decide_eq_true_eq, show z > 0 from hz, if_true]
  refine ⟨⟨⟨⟨⟨?_, ?_⟩, ?_, ?_⟩, ?_, ?_⟩, trivial⟩, .inr ⟨?_, ?_⟩⟩ <;> lia

section
variable {A : Around} {E : Value → Shared → Prop} {s : Shared} {h₀ : Heap} {L : Addr} {m : Str → Option Value} {fs : Fs} {kp k1 k2 os : List (Addr × Obj)} {σ : H}
theorem iter_len (l : Led S h₀ L m fs kp os σ s.heap) {v : V} {vs : List V} (e : iterOf v σ = some vs) : vs.length ≤ lim := by
  unfold iterOf at e
  cases v with
  | ref a =>
    dsimp only at e
    cases hk : σ.get a with
    | none => rw [hk] at e; cases e
    | some o =>
      rw [hk] at e
      obtain ⟨B, o1, _, _, hor, _⟩ := l.at hk
      cases o with
      | list xs => cases e; obtain ⟨_, _, _, _, hz⟩ := hor; exact hz
      | tup xs => cases e; obtain ⟨_, _, _, _, hz⟩ := hor; exact hz
      | rng p q z =>
        dsimp only at e
        split at e
        · rename_i hc
          simp only [Bool.and_eq_true, decide_eq_true_eq] at hc
          cases e
          rw [List.length_map]
          have h1 := range_len (a := p) (b := q) hc.2
          unfold Builtin.Range.rangeSize at h1
          rw [if_pos (show z > 0 from hc.2)] at h1
          split at h1
          · have h2 : (q - p - 1) / z ≤ q - p - 1 := Int.ediv_le_self _ (by lia)
            have := hc.1.2
            lia
          · lia
        · cases e
      | _ => cases e
  | _ => cases e
theorem it_new (l : Led S h₀ L m fs kp os σ s.heap) (hp : ρ <+: adr os) {v : V} {x : Value} {vs : List V} (hx : VR ρ v x) (e : iterOf v σ = some vs) {Q : Value → Shared → Prop}
    (hQ : ∀ I o h', Led S h₀ L m fs (kp ++ (I, o) :: []) os σ h' → ItAt h' I (adr os) v σ 0 → Q (.ref I) { s with heap := h' }) : wpAny (model S.prog S.w) A (pyIter x) Q E s := by
  unfold iterOf at e
  cases v with
  | ref a =>
    dsimp only at e
    cases hk : σ.get a with
    | none => rw [hk] at e; cases e
    | some o =>
      rw [hk] at e
      cases o with
      | list xs =>
        obtain ⟨B, o1, rfl, _, eB, ⟨ws, n, rfl, hws, hz⟩, h1, _⟩ := l.ref hp hk hx
        refine wpAny_pyIter_list (PySem.IsL.isList (n := n) h1) (hQ _ _ _ (l.kpush rfl) ⟨B, eB, ?_⟩)
        rw [hk]
        exact ⟨_, Heap.get?_push_size _ rfl, rfl, rfl⟩
      | tup xs =>
        obtain ⟨B, o1, rfl, _, eB, ⟨ws, n, rfl, hws, hz⟩, h1, _⟩ := l.ref hp hk hx
        refine wpAny_pyIter_tuple ⟨_, h1, rfl, n, rfl⟩ (hQ _ _ _ (l.kpush rfl) ⟨B, eB, ?_⟩)
        rw [hk]
        exact ⟨_, Heap.get?_push_size _ rfl, rfl, rfl⟩
      | rng p q z =>
        obtain ⟨B, o1, rfl, _, eB, ⟨t1, t2, t3, rfl⟩, h1, _⟩ := l.ref hp hk hx
        dsimp only at e
        split at e
        · rename_i hc
          simp only [Bool.and_eq_true, decide_eq_true_eq] at hc
          refine wpAny_pyIter_range h1 (range_fits hc.1.1.1.1 hc.1.1.1.2 hc.1.1.2 hc.2) (hQ _ _ _ (l.kpush rfl) ⟨B, eB, ?_⟩)
          rw [hk]
          dsimp only
          rw [← range_len hc.2]
          have : IsRangeIter (s.heap.push { cls := .type "range_iterator", data := .fields #[rawInt p, rawInt (Builtin.Range.rangeSize p q z), rawInt z] }) s.heap.objs.size p (Builtin.Range.rangeSize p q z) z := Heap.get?_push_size _ rfl
          simpa using this
        · cases e
      | _ => cases e
  | _ => cases e
variable {I : Addr} {o : Obj}
theorem it_next (l : Led S h₀ L m fs (k1 ++ (I, o) :: k2) os σ s.heap) {v : V} {vs : List V} {i : Nat} {y : V} (t : ItAt s.heap I (adr os) v σ i) (e : iterOf v σ = some vs) (hy : vs[i]? = some y) {Q : Option Value → Shared → Prop}
    (hQ : ∀ o' h' tk x, Led S h₀ L m fs (k1 ++ (I, o') :: k2) os σ h' → ItAt h' I (adr os) v σ (i + 1) → VR (adr os) y x → Q (some x) { s with heap := h', toks := tk }) : wpAny (model S.prog S.w) A (pyNext (.ref I)) Q E s := by
  unfold ItAt at t
  unfold iterOf at e
  cases v with
  | ref a =>
    obtain ⟨B, hB, t⟩ := t
    dsimp only at e
    cases hk : σ.get a with
    | none => rw [hk] at e; cases e
    | some ob =>
      rw [hk] at e t
      obtain ⟨B', o1, _, eB, hor, h1, _⟩ := l.at hk
      rw [hB] at eB; cases eB
      cases ob with
      | list xs =>
        cases e
        obtain ⟨ws, n, rfl, hws, hz⟩ := hor
        obtain ⟨x, hx, hr⟩ := hws.get hy
        refine wpAny_pyNext_list_item t (PySem.IsL.isList (n := n) h1) (x := x) (by simpa using hx) fun h' t' hs => ?_
        obtain ⟨o', g1, g2⟩ := id t'
        exact hQ o' h' s.toks x (l.kset hs g1) ⟨B, hB, by rw [hk]; exact t'⟩ hr
      | tup xs =>
        cases e
        obtain ⟨ws, n, rfl, hws, hz⟩ := hor
        obtain ⟨x, hx, hr⟩ := hws.get hy
        refine wpAny_pyNext_tuple_item t ⟨_, h1, rfl, n, rfl⟩ (x := x) (by simpa using hx) fun h' t' hs => ?_
        obtain ⟨o', g1, g2⟩ := id t'
        exact hQ o' h' s.toks x (l.kset hs g1) ⟨B, hB, by rw [hk]; exact t'⟩ hr
      | rng p q z =>
        dsimp only at e
        split at e
        · rename_i hc
          simp only [Bool.and_eq_true, decide_eq_true_eq] at hc
          cases e
          obtain ⟨rfl, hi⟩ := range_at hc.2 hy
          refine wpAny_pyNext_range_item t (by lia) fun h' t' hs => ?_
          refine hQ _ h' _ _ (l.kset hs t') ⟨B, hB, ?_⟩ ⟨_, rfl⟩
          rw [hk]
          dsimp only
          have e1 : p + ((i + 1 : Nat) : Int) * z = p + (i : Int) * z + z := by rw [Int.natCast_add, Int.add_mul]; simp [Int.add_assoc]
          have e2 : ((rangeList p q z).length : Int) - ((i + 1 : Nat) : Int) = ((rangeList p q z).length : Int) - (i : Int) - 1 := by lia
          rw [e1, e2]; exact t'
        · cases e
      | _ => cases e
  | _ => cases e
theorem it_done (hh : A.handled = none) (l : Led S h₀ L m fs (k1 ++ (I, o) :: k2) os σ s.heap) {v : V} {vs : List V} {i : Nat} (t : ItAt s.heap I (adr os) v σ i) (e : iterOf v σ = some vs) (hy : vs[i]? = none) {Q : Option Value → Shared → Prop}
    (hQ : ∀ h', Led S h₀ L m fs (k1 ++ k2) os σ h' → Q none { s with heap := h' }) : wpAny (model S.prog S.w) A (pyNext (.ref I)) Q E s := by
  unfold ItAt at t
  unfold iterOf at e
  cases v with
  | ref a =>
    obtain ⟨B, hB, t⟩ := t
    dsimp only at e
    cases hk : σ.get a with
    | none => rw [hk] at e; cases e
    | some ob =>
      rw [hk] at e t
      obtain ⟨B', o1, _, eB, hor, h1, _⟩ := l.at hk
      rw [hB] at eB; cases eB
      cases ob with
      | list xs =>
        cases e
        obtain ⟨ws, n, rfl, hws, hz⟩ := hor
        refine wpAny_pyNext_list_end hh t (PySem.IsL.isList (n := n) h1) ?_ fun h' hs => hQ h' (l.extBut hs)
        have := hws.length
        rw [List.getElem?_eq_none_iff] at hy
        simp; lia
      | tup xs =>
        cases e
        obtain ⟨ws, n, rfl, hws, hz⟩ := hor
        refine wpAny_pyNext_tuple_end hh t ⟨_, h1, rfl, n, rfl⟩ ?_ fun h' hs => hQ h' (l.extBut hs)
        have := hws.length
        rw [List.getElem?_eq_none_iff] at hy
        simp; lia
      | rng p q z =>
        dsimp only at e
        split at e
        · rename_i hc
          cases e
          rw [List.getElem?_eq_none_iff, List.length_map] at hy
          exact wpAny_pyNext_range_end hh t (by lia) fun h' hs => hQ h' (l.extBut hs)
        · cases e
      | _ => cases e
  | _ => cases e
end
end Mine

set_option autoImplicit false
namespace Mine
open PySem PySem.W PySem.Calls PyProof.Rows
variable {S : Sig} {c : Cx} {ρ : List Addr}

section
variable {h₀ h h' : Heap} {L C : Addr} {m mC : Str → Option Value} {fs : Fs} {kp os : List (Addr × Obj)} {σ : H}
theorem none_above (l : Fr h₀ L h m) : h₀.get? L = none := by
  cases e : h₀.get? L with
  | none => rfl
  | some o => exact absurd (Heap.lt_size e) (Nat.not_lt.mpr l.above)
theorem Led.enter (l : Led S h₀ L m fs kp os σ h) (ns : h'.Ns C mC) (k : ∀ b o, h.get? b = some o → h'.get? b = some o) (hC : h.get? C = none) (hle : h.objs.size ≤ C) : Led S h₀ C mC ((L, m) :: fs) kp os σ h' := by
  have l' := l.keep k
  have ne : ∀ {b : Addr} {o : Obj}, h.get? b = some o → b ≠ C := fun e q => by rw [q, hC] at e; cases e
  obtain ⟨oL, es, ep, hL, _⟩ := id l.fr.ns
  have above : h₀.objs.size ≤ C := Nat.le_trans l.fr.above (Nat.le_trans (Nat.le_of_lt (Heap.lt_size hL)) hle)
  refine ⟨⟨ns, l'.fr.keep, above⟩, fun p hp => ⟨(l'.news p hp).1, ne (l.news p hp).1, (l'.news p hp).2.2⟩, l'.nd, l'.objs, fun f hf => ?_, l'.top, l'.big, l'.frz⟩
  rcases List.mem_cons.mp hf with rfl | hf
  · refine ⟨l'.fr.ns, ne hL, none_above l.fr, fun q => ?_⟩
    obtain ⟨p, hp, e⟩ := List.mem_map.mp q
    exact (l.news p hp).2.1 e
  · obtain ⟨of, _, _, hf', _⟩ := (l.outs f hf).1
    exact ⟨(l'.outs f hf).1, ne hf', (l'.outs f hf).2.2⟩
theorem Led.leave (l : Led S h₀ C mC ((L, m) :: fs) kp os σ h) (ab : h₀.objs.size ≤ L) (ne : ∀ f ∈ fs, f.1 ≠ L) (hs : ∀ b o, b ≠ C → h.get? b = some o → h'.get? b = some o) : Led S h₀ L m fs kp os σ h' := by
  have hL := l.outs _ (.head _)
  have nC := none_above l.fr
  refine ⟨⟨hL.1.at' fun o e => hs _ o hL.2.1 e, fun b o e => hs b o (fun q => by rw [q, nC] at e; cases e) (l.fr.keep b o e), ab⟩,
    fun p hp => ⟨hs _ _ (l.news p hp).2.1 (l.news p hp).1, fun q => hL.2.2.2 (List.mem_map.mpr ⟨p, hp, q⟩), (l.news p hp).2.2⟩, l.nd, l.objs, fun f hf => ?_, l.top, l.big, l.frz⟩
  have hF := l.outs f (.tail _ hf)
  exact ⟨hF.1.at' fun o e => hs _ o hF.2.1 e, ne f hf, hF.2.2⟩
theorem Led.lset (l : Led S h₀ L m fs kp os σ h) (hn : h'.Ns L mC) (hs : Heap.SameBut L h h') : Led S h₀ L mC fs kp os σ h' :=
  ⟨l.fr.set hn hs, fun p hp => ⟨(hs.2 _ (l.news p hp).2.1).trans (l.news p hp).1, (l.news p hp).2⟩, l.nd, l.objs, fun f hf => ⟨(l.outs f hf).1.sameBut hs (l.outs f hf).2.1, (l.outs f hf).2⟩, l.top, l.big, l.frz⟩
theorem Led.kmove {D : Addr} {x : Obj} {o : O} (l : Led S h₀ L m fs (kp ++ (D, x) :: []) os σ h) (hr : OR S (adr os) o x) : Led S h₀ L m fs kp (os ++ [(D, x)]) (σ.push o) h := by
  have hk := l.kmid
  rw [List.append_nil] at hk
  have l' := l.kdrop
  rw [List.append_nil] at l'
  have pf : adr os <+: adr (os ++ [(D, x)]) := adr_new
  have adk : adr (kp ++ (os ++ [(D, x)])) = adr (kp ++ os) ++ [D] := by simp [adr]
  refine ⟨l.fr, fun p hp => ?_, ?_, (l.objs.mono fun _ _ e => e.mono S pf).append (.one (hr.mono S pf)), fun f hf => ⟨(l'.outs f hf).1, (l'.outs f hf).2.1, (l'.outs f hf).2.2.1, ?_⟩, l.top, ?_, l.frz.1.trans (List.prefix_append _ _), l.frz.2⟩
  · rw [← List.append_assoc] at hp
    rcases List.mem_append.mp hp with hp | hp
    · exact l'.news p hp
    · rw [List.mem_singleton.mp hp]; exact ⟨hk.1, hk.2.1, hk.2.2.1⟩
  · rw [adk]
    refine List.nodup_append.mpr ⟨l'.nd, by simp, fun b hb d hd e => ?_⟩
    rw [List.mem_singleton.mp hd] at e
    obtain ⟨p, hp, rfl⟩ := List.mem_map.mp hb
    exact hk.2.2.2.2 p hp e
  · rw [adk]
    intro hm
    rcases List.mem_append.mp hm with hm | hm
    · exact (l'.outs f hf).2.2.2 hm
    · exact hk.2.2.2.1 f hf (List.mem_singleton.mp hm)
  · rw [adk]
    intro b hb
    rcases List.mem_append.mp hb with hb | hb
    · exact l'.big b hb
    · rw [List.mem_singleton.mp hb]
      exact l.big D (List.mem_map.mpr ⟨(D, x), by simp, rfl⟩)
end

theorem lookup_relabel {env : Env} : ∀ {names : List (Str × NameKind)} {x : Str},
    (names.map fun (n, k) => if (k == NameKind.free && env.scope.kind == .function && env.kindOf n == some .cell) then (n, NameKind.cell) else (n, k)).lookup x = (names.lookup x).map fun k => if (k == NameKind.free && env.scope.kind == .function && env.kindOf x == some .cell) then NameKind.cell else k
  | [], _ => rfl
  | (n, k) :: r, x => by
    have ih := @lookup_relabel env r x
    show List.lookup x ((if (k == NameKind.free && env.scope.kind == .function && env.kindOf n == some .cell) = true then (n, NameKind.cell) else (n, k)) :: _) = _
    cases hx : x == n with
    | true =>
      have hxn : x = n := beq_iff_eq.mp hx
      subst hxn
      split <;> simp_all [List.lookup_cons]
    | false =>
      split <;> simp only [List.lookup_cons, hx] <;> exact ih

theorem closure_of {env : Env} {sc' : Scope} (h : ∀ x ∈ sc'.names, x.2 = .free → ∃ a, env.cells.lookup x.1 = some a) :
    ∃ cl, closureFor sc' env = pure cl ∧ ∀ nm, sc'.names.lookup nm = some .free → cl.lookup nm = env.cells.lookup nm := by
  have key : ∀ (l : List (Str × NameKind)) (cs : List (Str × Addr)), (∀ x ∈ l, x.2 = .free → ∃ a, env.cells.lookup x.1 = some a) → (∀ p ∈ cs, env.cells.lookup p.1 = some p.2) →
      ∃ cl, (forIn l cs fun x r => (do
        let (name, kind) := x
        if kind == .free then do
          let y ← cellOf env name
          pure (ForInStep.yield ((name, y) :: r))
        else pure (ForInStep.yield r) : Sem (ForInStep (List (Str × Addr))))) = pure cl ∧ (∀ p ∈ cl, env.cells.lookup p.1 = some p.2) ∧ (∀ p ∈ cs, p ∈ cl) ∧ ∀ x ∈ l, x.2 = .free → ∃ a, (x.1, a) ∈ cl := by
    intro l
    induction l with
    | nil => intro cs _ h2; exact ⟨cs, rfl, h2, fun p hp => hp, fun x hx => nomatch hx⟩
    | cons y r ih =>
      intro cs h1 h2
      obtain ⟨n, k⟩ := y
      rw [List.forIn_cons]
      by_cases hk : k = .free
      · subst hk
        obtain ⟨a, ha⟩ := h1 _ (.head _) rfl
        dsimp only at ha
        obtain ⟨cl, e1, e2, e3, e4⟩ := ih ((n, a) :: cs) (fun x hx => h1 x (.tail _ hx)) (fun p hp => by
          rcases List.mem_cons.mp hp with rfl | hp
          · exact ha
          · exact h2 p hp)
        refine ⟨cl, ?_, e2, fun p hp => e3 p (.tail _ hp), fun x hx hf => ?_⟩
        · have : cellOf env n = pure a := by unfold cellOf; rw [ha]
          simp only [beq_self_eq_true, if_true, this]
          exact e1
        · rcases List.mem_cons.mp hx with rfl | hx
          · exact ⟨a, e3 _ (.head _)⟩
          · exact e4 x hx hf
      · obtain ⟨cl, e1, e2, e3, e4⟩ := ih cs (fun x hx => h1 x (.tail _ hx)) h2
        refine ⟨cl, ?_, e2, e3, fun x hx hf => ?_⟩
        · have : (k == NameKind.free) = false := by simpa using hk
          simp only [this, Bool.false_eq_true, if_false]
          exact e1
        · rcases List.mem_cons.mp hx with rfl | hx
          · exact absurd hf hk
          · exact e4 x hx hf
  obtain ⟨cl, e1, e2, _, e4⟩ := key sc'.names [] h (fun p hp => nomatch hp)
  refine ⟨cl, ?_, fun nm hn => ?_⟩
  · unfold closureFor
    refine Eq.trans (congrArg (fun t => t >>= fun r => pure r) (?_ : _ = forIn sc'.names ([] : List (Str × Addr)) _)) (by rw [e1]; rfl)
    congr 1
  · obtain ⟨a, ha⟩ := e4 (nm, .free) (PySem.mem_of_lookup hn) rfl
    cases hq : cl.lookup nm with
    | none =>
      rw [List.lookup_eq_none_iff] at hq
      have := hq _ ha
      simp at this
    | some b => rw [e2 (nm, b) (PySem.mem_of_lookup hq)]
end Mine

set_option autoImplicit false
namespace Mine
open PySem PySem.W PySem.Calls PyProof.Rows
variable {S : Sig} {c : Cx} {ρ : List Addr}

abbrev condTree (ifs : List Expr) (env : Env) : Sem Bool := forIn ifs true fun c r => if r = true then do let ok ← isTrue c env (eval c env); pure (ForInStep.yield ok) else pure (ForInStep.yield r)

theorem it_self {A : Around} {E : Value → Shared → Prop} {s : Shared} {I : Addr} {v : V} {σ : H} {i : Nat} {Q : Value → Shared → Prop} (t : ItAt s.heap I ρ v σ i) (h : Q (.ref I) s) : wpAny (model S.prog S.w) A (pyIter (.ref I)) Q E s := by
  unfold ItAt at t
  cases v with
  | ref a =>
    obtain ⟨B, _, t⟩ := t
    cases hk : σ.get a with
    | none => rw [hk] at t; exact t.elim
    | some o =>
      rw [hk] at t
      cases o with
      | list xs => exact wpAny_pyIter_listiter t h
      | tup xs => exact wpAny_pyIter_tupleiter t h
      | rng a b z => exact wpAny_pyIter_rangeiter t h
      | _ => exact t.elim
  | _ => exact t.elim

theorem still_iter {v : V} {σ σ' : H} (h : still v σ σ' = true) : iterOf v σ' = iterOf v σ := by
  unfold iterOf
  cases v with
  | ref a => have e : σ'.get a = σ.get a := of_decide_eq_true h; dsimp only; rw [e]
  | _ => rfl
theorem still_refl (v : V) (σ : H) : still v σ σ = true := by cases v <;> simp [still]
theorem still_sym {v : V} {σ σ' : H} (h : still v σ σ' = true) : still v σ' σ = true := by cases v <;> simp_all [still]
theorem still_trans {v : V} {σ σ' σ'' : H} (h : still v σ σ' = true) (h' : still v σ' σ'' = true) : still v σ σ'' = true := by cases v <;> simp_all [still]

noncomputable def rpre (l : List V) : R (List V) → R (List V)
  | .ok ws => .ok (l ++ ws)
  | .err k => .err k

structure CompOK (S : Sig) (sc sc' : Scope) (env : Env) (nm : Str) : Prop where
  kind : sc'.kind = .function
  cells : ∀ x ∈ sc'.names, x.2 ≠ .cell
  locs : ∀ x ∈ sc'.names, x.2 = .local → sc'.names.lookup x.1 = some .local
  only : ∀ x ∈ sc'.names, x.2 = .local → x.1 = nm ∨ x.1 ∉ S.T
  free : ∀ x ∈ sc'.names, x.2 = .free → isCell sc x.1 = true
  own : sc'.names.lookup nm = some .local
theorem compOK {sc sc' : Scope} {env : Env} {nm : Str} (h : compScope S.nam sc sc' nm = true) : CompOK S sc sc' env nm := by
  unfold compScope at h
  simp only [Bool.and_eq_true, decide_eq_true_eq, List.all_eq_true, Bool.or_eq_true, Bool.not_eq_true', decide_eq_false_iff_not] at h
  obtain ⟨⟨h1, h2⟩, h3⟩ := h
  refine ⟨h1, fun x hx => (h2 x hx).1.1, fun x hx e => ?_, fun x hx e => ?_, fun x hx e => ?_, h3⟩
  · rcases (h2 x hx).1.2 with q | q
    · exact absurd e q
    · exact q.1
  · rcases (h2 x hx).1.2 with q | q
    · exact absurd e q
    · rcases q.2 with q | q
      · exact .inl q
      · refine .inr fun hm => ?_
        have : S.nam.T.contains x.1 = true := List.contains_iff_mem.mpr hm
        rw [this] at q; cases q
  · rcases (h2 x hx).2 with q | q
    · exact absurd e q
    · exact q

theorem isCell_in {sc : Scope} {nm : Str} (h : isCell sc nm = true) : inScope sc nm = true := by
  unfold isCell at h
  unfold inScope
  split at h <;> first | rename_i e; rw [e] | cases h

section
variable {n : Nat} {sc sc' : Scope} {nm : Str} {cl : List (Str × Addr)} {C : Addr} {m' : Str → Option Value} {kp' : List (Addr × Obj)}
abbrev compCx (c : Cx) (sc' : Scope) (cl : List (Str × Addr)) (C : Addr) (m' : Str → Option Value) (kp' : List (Addr × Obj)) : Cx := ⟨c.A, compEnvC sc' cl C c.env, c.h₀, C, m', (c.L, c.m) :: c.fs, kp'⟩
theorem comp_ctx (K : CtxOK S n c) (O : CompOK S sc sc' c.env nm) : CtxOK S n (compCx c sc' cl C m' kp') :=
  ⟨K.hand, K.units, K.depth, K.kin, K.top, K.lim, O.kind, K.glob, K.blt, rfl⟩
theorem comp_sc (SO : ScOK sc c.env) (O : CompOK S sc sc' c.env nm) (hcl : ∀ nm, sc'.names.lookup nm = some .free → cl.lookup nm = c.env.cells.lookup nm) : ScOK sc' (compEnvC sc' cl C c.env) := by
  have look : ∀ x, (compEnvC sc' cl C c.env).kindOf x = (sc'.names.lookup x).map fun k => if (k == NameKind.free && c.env.scope.kind == .function && c.env.kindOf x == some .cell) then NameKind.cell else k := fun x => lookup_relabel
  refine ⟨fun x h => ?_, fun x h => ?_, fun x h => ?_⟩
  · rw [look, h]; rfl
  · rw [look, h]; rfl
  · unfold isCell at h
    split at h
    · rename_i e; exact absurd rfl (O.cells _ (PySem.mem_of_lookup e))
    · rename_i e
      refine ⟨?_, ?_⟩
      · rw [look, e]
        simp only [Option.map_some]
        split
        · exact .inl rfl
        · exact .inr rfl
      · show ∃ a, cl.lookup x = some a
        rw [hcl x e]
        exact (SO.cell x (O.free _ (PySem.mem_of_lookup e) rfl)).2
    · cases h
theorem comp_vars (SO : ScOK sc c.env) (O : CompOK S sc sc' c.env nm) (nd : S.T.Nodup) (hcl : ∀ nm, sc'.names.lookup nm = some .free → cl.lookup nm = c.env.cells.lookup nm) {loc : Loc} (Vs : VarsOK S c sc ρ loc) {i : Nat} (hn : S.T[i]? = some nm)
    {v : V} {x : Value} {ρ' : List Addr} (k : ρ <+: ρ') (hv : VR ρ' v x) (hm : m' nm = some x) (hk : ∀ p ∈ c.kp, p ∈ kp') : VarsOK S (compCx c sc' cl C m' kp') sc' ρ' (loc.upd i v) := by
  intro j w nmj hj hT hin
  have SO' := comp_sc (C := C) SO O hcl
  unfold inScope at hin
  split at hin
  · rename_i e
    have hmem := PySem.mem_of_lookup e
    rcases O.only _ hmem rfl with q | q
    · dsimp only at q
      subst q
      have hji : j = i := (List.getElem?_inj (List.getElem?_eq_some_iff.mp hT).1 nd).mp (hT.trans hn.symm)
      subst hji
      simp only [Loc.upd, beq_self_eq_true, cond_true] at hj
      cases hj
      exact ⟨x, .inl ⟨SO'.loc _ e, hm⟩, hv⟩
    · exact absurd (List.mem_of_getElem? hT) q
  · rename_i e; exact absurd rfl (O.cells _ (PySem.mem_of_lookup e))
  · rename_i e
    have hji : j ≠ i := fun q => by
      subst q; rw [hT] at hn; cases hn; rw [O.own] at e; cases e
    simp only [Loc.upd, beq_eq_false_iff_ne.mpr hji, cond_false] at hj
    have hc := O.free _ (PySem.mem_of_lookup e) rfl
    obtain ⟨y, h1, h2⟩ := Vs j w nmj hj hT (isCell_in hc)
    have hk' := (SO.cell nmj hc).1
    rcases h1 with ⟨q, _⟩ | ⟨_, a, o, q1, q2, q3⟩
    · rw [q] at hk'; rcases hk' with q | q <;> cases q
    · exact ⟨y, .inr ⟨(SO'.cell nmj (by unfold isCell; rw [e])).1, a, o, by show cl.lookup nmj = some a; rw [hcl nmj e]; exact q1, hk _ q2, q3⟩, h2.mono k⟩
  · cases hin
end

theorem comp_core {n : Nat} (K : CtxOK S n c) {sc sc' : Scope} (SO : ScOK sc c.env) {loc : Loc} (Vs : VarsOK S c sc ρ loc) (nd : S.T.Nodup) {i : Nat} {nm : Str} {px pos : Pos} {ite elt : Expr} {ifs : List Expr}
    (hn : S.T[i]? = some nm) (O : CompOK S sc sc' c.env nm) {cl : List (Str × Addr)} (hcl : ∀ nm, sc'.names.lookup nm = some .free → cl.lookup nm = c.env.cells.lookup nm) {t : Loc → X Bool} {e : Loc → X V}
    (ht : ∀ (c' : Cx) (ρ' : List Addr) (loc' : Loc), CtxOK S n c' → ScOK sc' c'.env → VarsOK S c' sc' ρ' loc' → SM S c' ρ' EqR (condTree ifs c'.env) (t loc'))
    (he : ∀ (c' : Cx) (ρ' : List Addr) (loc' : Loc), CtxOK S n c' → ScOK sc' c'.env → VarsOK S c' sc' ρ' loc' → SM S c' ρ' VR (eval elt c'.env) (e loc'))
    {os : List (Addr × Obj)} {σ σ' : H} {s : Shared} {v : V} {x : Value} {vs : List V} {r : R (List V)} (hp : ρ <+: adr os) (hl : c.led S os σ s.heap) (hv : VR (adr os) v x) (hi : iterOf v σ = some vs)
    (hL : compL v [i] false t e loc σ vs σ = some (r, σ')) {use : Option (Value → Sem Unit)} {Q : Value → Shared → Prop} {E : Value → Shared → Prop}
    (fin : ∀ ws, r = .ok ws → ∀ (os' : List (Addr × Obj)) (h' : Heap) (tk : Nat) (C : Addr) (mC : Str → Option Value) (D : Addr) (ys : List Value) (k : Nat), adr os <+: adr os' → Led S c.h₀ C mC ((c.L, c.m) :: c.fs) (c.kp ++ (D, W.listOf (List.toArray ys) k) :: []) os' σ' h' →
      All2 (VR (adr os')) ws ys → compPost (model S.prog S.w) c.A E use Q (.ref D) C (.ok .next) { s with heap := h', toks := tk }) :
    wpAny (model S.prog S.w) c.A (pyIter x) (fun it s₂ => wpAny (model S.prog S.w) c.A (newList []) (fun acc s₃ => wpAny (model S.prog S.w) c.A (newFunctionEnv sc' c.env.globals cl [] c.env.qual none .none (some c.env)) (fun cenv s₄ =>
      codeAny (model S.prog S.w) c.A (.compStart (.ListComp elt [⟨.Name nm px, ite, ifs, 0⟩] sc' pos) 0 it acc { cenv with scope := relabel sc' c.env }) (compPost (model S.prog S.w) c.A E use Q acc cenv.locals) s₄) E s₃) E s₂) E s := by
  refine it_new hl List.prefix_rfl hv hi fun I o₀ h₁ l₁ it₁ => ?_
  refine wpAny_newObj_type (wpAny_newFunctionEnv O.cells (by intro y hy; simp at hy) (fun h₂ hns hsb => ?_) O.kind)
  dsimp only at hns hsb ⊢
  have l₂ := l₁.kpush (x := { cls := .type "list", dict := none, data := .seq ([] : List Value).toArray }) rfl
  generalize hH2 : h₁.push { cls := .type "list", dict := none, data := .seq ([] : List Value).toArray } = H2 at hns hsb l₂ ⊢
  have hold : ∀ b ob, H2.get? b = some ob → h₂.get? b = some ob := fun b ob q => hsb.extBut b ob (Nat.ne_of_lt (Heap.lt_size q)) (Heap.get?_push_of_some _ q)
  have l₃ := l₂.enter hns hold (get_size H2) (Nat.le_refl _)
  have it₃ : ItAt h₂ I (adr os) v σ 0 := it₁.at (fun ob q => hold _ _ (hH2 ▸ Heap.get?_push_of_some _ q)) List.prefix_rfl (still_refl v σ)
  generalize hC : H2.objs.size = C at hns hsb l₃ ⊢
  generalize hD : h₁.objs.size = D at l₃ ⊢
  have hle : c.h₀.objs.size ≤ C := l₃.fr.above
  let cenv := compEnvC sc' cl C c.env
  have loop : ∀ s₃ : Shared, s₃ = { s with heap := h₂, toks := s.toks + ([] : List (Str × Value)).length } →
      codeAny (model S.prog S.w) c.A (.compLoop (.ListComp elt [⟨.Name nm px, ite, ifs, 0⟩] sc' pos) 0 (.ref I) (.ref D) cenv) (compPost (model S.prog S.w) c.A E use Q (.ref D) C) s₃ := by
    rintro s₃ rfl
    refine codeAny_compLoop_tests (fun k s' => ∃ h' tk os' σ₁ mC o ys kk done j r', s' = { s with heap := h', toks := tk } ∧ adr os <+: adr os' ∧
        Led S c.h₀ C mC ((c.L, c.m) :: c.fs) (c.kp ++ (I, o) :: (D, W.listOf (List.toArray ys) kk) :: []) os' σ₁ h' ∧ ItAt h' I (adr os') v σ₁ j ∧ still v σ σ₁ = true ∧ All2 (VR (adr os')) done ys ∧
        compL v [i] false t e loc σ (vs.drop j) σ₁ = some (r', σ') ∧ r = rpre done r' ∧ done.length ≤ j ∧ j ≤ vs.length ∧ k = vs.length + 1 - j) ?_ (vs.length + 1)
      ⟨h₂, s.toks, os, σ, _, o₀, [], 0, [], 0, r, rfl, List.prefix_rfl, by simpa using l₃, it₃, still_refl v σ, .nil, by simpa using hL, by cases r <;> rfl, Nat.zero_le _, Nat.zero_le _, rfl⟩
    rintro k s' ⟨h', tk, os', σ₁, mC, o, ys, kk, done, j, r', rfl, kp', l', it', st, hdone, hL', hr, hdl, hj, rfl⟩
    have hi' : iterOf v σ₁ = some vs := (still_iter st).trans hi
    cases hvj : vs[j]? with
    | none =>
      have hjv : vs.length ≤ j := List.getElem?_eq_none_iff.mp hvj
      rw [List.drop_eq_nil_of_le hjv] at hL'
      cases hL'
      refine it_done K.hand l' it' hi' hvj fun h₄ l₄ => ?_
      have hr' : r = .ok done := by rw [hr]; simp [rpre]
      exact fin done hr' os' h₄ tk C mC D ys kk kp' l₄ hdone
    | some y =>
      obtain ⟨hjl, hjy⟩ := List.getElem?_eq_some_iff.mp hvj
      rw [List.drop_eq_getElem_cons hjl, hjy] at hL'
      unfold compL at hL'
      have hb : bindTg [i] false y loc σ₁ = some (loc.upd i y) := rfl
      rw [hb] at hL'
      dsimp only at hL'
      refine it_next l' it' hi' hvj fun o' h₄ tk₄ xv l₄ it₄ hxv => ?_
      refine wpAny_assign_Name (wpAny_storeName_local (env := cenv) (lookup_relabel_local O.own) l₄.fr.ns (fun h₅ hn₅ hs₅ => ?_) (by show (sc'.kind == .class || (sc'.kind == .module && _)) = false; rw [O.kind]; rfl))
      have l₅ := l₄.lset hn₅ hs₅
      have hIL : I ≠ C := (l₄.news (I, o') (by simp)).2.1
      have it₅ := it₄.at (fun ob q => (hs₅.2 _ hIL).trans q) List.prefix_rfl (still_refl v σ₁)
      let c' := compCx c sc' cl C (fun z => if z = nm then some xv else mC z) (c.kp ++ (I, o') :: (D, W.listOf (List.toArray ys) kk) :: [])
      have K' : CtxOK S n c' := comp_ctx K O
      have S' : ScOK sc' c'.env := comp_sc SO O hcl
      have V' : VarsOK S c' sc' (adr os') (loc.upd i y) := comp_vars SO O nd hcl Vs hn (hp.trans kp') hxv (by simp) (fun p hp => List.mem_append_left _ hp)
      have T' := ht c' (adr os') (loc.upd i y) K' S' V'
      have E' := he c' (adr os') (loc.upd i y) K' S' V'
      cases hq : t (loc.upd i y) σ₁ with
      | none => rw [hq] at hL'; cases hL'
      | some p =>
        obtain ⟨tr, σ₂⟩ := p
        rw [hq] at hL'
        cases tr with
        | err q => exact T' os' σ₁ { s with heap := h₅, toks := tk₄ + 1 } _ _ List.prefix_rfl l₅ hq _ _ fun _ _ _ _ _ _ f => f.elim
        | ok b =>
          refine T' os' σ₁ { s with heap := h₅, toks := tk₄ + 1 } _ _ List.prefix_rfl l₅ hq _ _ fun os₆ h₆ tk₆ b' k₆ l₆ hb' => ?_
          subst hb'
          have memI : ∀ {hh : Heap} {oo : List (Addr × Obj)} {ss : H}, Cx.led S c' oo ss hh → hh.get? I = some o' := fun l => (l.news (I, o') (by simp [c'])).1
          cases b with
          | false =>
            dsimp only at hL'
            simp only [Bool.false_eq_true, if_false]
            split at hL'
            · rename_i hst
              refine ⟨vs.length + 1 - (j + 1), by lia, h₆, tk₆, os₆, σ₂, _, o', ys, kk, done, j + 1, r', rfl, kp'.trans k₆, l₆, it₅.at (fun ob q => ?_) k₆ (still_trans (still_sym st) hst), hst, VRs.mono k₆ hdone, hL', hr, by lia, hjl, rfl⟩
              rw [memI l₅] at q; cases q; exact memI l₆
            · cases hL'
          | true =>
            dsimp only at hL'
            simp only [if_true]
            cases hq₂ : e (loc.upd i y) σ₂ with
            | none => rw [hq₂] at hL'; cases hL'
            | some p₂ =>
              obtain ⟨er, σ₃⟩ := p₂
              rw [hq₂] at hL'
              cases er with
              | err q => exact E' os₆ σ₂ { s with heap := h₆, toks := tk₆ } _ _ k₆ l₆ hq₂ _ _ fun _ _ _ _ _ _ f => f.elim
              | ok w =>
                refine E' os₆ σ₂ { s with heap := h₆, toks := tk₆ } _ _ k₆ l₆ hq₂ _ _ fun os₇ h₇ tk₇ wv k₇ l₇ hwv => ?_
                dsimp only at hL'
                split at hL'
                · rename_i hst
                  have hrest : ∃ r'', compL v [i] false t e loc σ (vs.drop (j + 1)) σ₃ = some (r'', σ') ∧ r' = rpre [w] r'' := by
                    split at hL'
                    · cases hL'
                    · rename_i q σ₄ hq₃; cases hL'; exact ⟨.err q, hq₃, rfl⟩
                    · rename_i ws σ₄ hq₃; cases hL'; exact ⟨.ok ws, hq₃, rfl⟩
                  obtain ⟨r'', hL'', hr''⟩ := hrest
                  have hD' : h₇.get? D = some (W.listOf (List.toArray ys) kk) := (l₇.news (D, W.listOf (List.toArray ys) kk) (by simp [c'])).1
                  have hlen : ys.length ≤ lim := by
                    have h1 := hdone.length
                    have h2 := iter_len (s := { s with heap := h' }) l' hi'
                    lia
                  refine append_at hD' (fun h₈ hs₈ hx₈ => ?_) (by rw [List.size_toArray]; exact Nat.le_trans hlen lim_le)
                  have l₇' : Led S c.h₀ C (fun z => if z = nm then some xv else mC z) ((c.L, c.m) :: c.fs) ((c.kp ++ (I, o') :: []) ++ (D, W.listOf (List.toArray ys) kk) :: []) os₇ σ₃ h₇ := by simpa using l₇
                  have l₈ := l₇'.kset hs₈ hx₈
                  have hID : I ≠ D := by
                    have := l₇'.kmid.2.2.2.2 (I, o') (by simp)
                    exact this
                  refine ⟨vs.length + 1 - (j + 1), by lia, h₈, tk₇, os₇, σ₃, _, o', ys ++ [wv], kk + 1, done ++ [w], j + 1, r'', rfl, kp'.trans (k₆.trans k₇), by simpa using l₈, it₅.at (fun ob q => ?_) (k₆.trans k₇) (still_trans (still_sym st) hst), hst,
                    (VRs.mono (k₆.trans k₇) hdone).append (.one hwv), hL'', ?_, by simp; exact hdl, hjl, rfl⟩
                  · rw [memI l₅] at q; cases q; exact (hs₈.2 _ hID).trans (memI l₇)
                  · rw [hr, hr'']; cases r'' <;> simp [rpre]
                · cases hL'
  exact codeAny_compStart_list (loop _ rfl) (it_self (S := S) it₃ (loop _ rfl))
end Mine

set_option autoImplicit false
namespace Mine
open PySem PySem.W PySem.Calls PyProof.Rows
variable {S : Sig} {c : Cx} {ρ : List Addr}

theorem not_set {e : Expr} (h : isSet e = false) (env : Env) (x : Value) : foldedSetIterable e env x = pure x := by
  cases e <;> first | rfl | cases h

section
variable {n : Nat} {sc sc' : Scope} {loc : Loc} {i : Nat} {nm : Str} {px pos : Pos} {ite elt : Expr} {ifs : List Expr} {t : Loc → X Bool} {e : Loc → X V}

theorem comp_run (K : CtxOK S n c) (SO : ScOK sc c.env) (Vs : VarsOK S c sc ρ loc) (nd : S.T.Nodup) (hn : S.T[i]? = some nm) (hsc : compScope S.nam sc sc' nm = true) (hset : isSet ite = false) {xi : X V} (hit : SM S c ρ VR (eval ite c.env) xi)
    (ht : ∀ (c' : Cx) (ρ' : List Addr) (loc' : Loc), CtxOK S n c' → ScOK sc' c'.env → VarsOK S c' sc' ρ' loc' → SM S c' ρ' EqR (condTree ifs c'.env) (t loc'))
    (he : ∀ (c' : Cx) (ρ' : List Addr) (loc' : Loc), CtxOK S n c' → ScOK sc' c'.env → VarsOK S c' sc' ρ' loc' → SM S c' ρ' VR (eval elt c'.env) (e loc'))
    {os : List (Addr × Obj)} {σ σ' : H} {s : Shared} {r : R V} (hp : ρ <+: adr os) (hl : c.led S os σ s.heap)
    (hx : X.bind xi (fun v => fun h => match iterOf v h with | none => none | some vs => X.bind (compL v [i] false t e loc h vs) (fun ws => alloc (.list ws)) h) σ = some (r, σ'))
    {use : Option (Value → Sem Unit)} {Q : Value → Shared → Prop} {E : Value → Shared → Prop}
    (fin : ∀ b, r = .ok b → ∀ (os' : List (Addr × Obj)) (h' : Heap) (tk : Nat) (C : Addr) (mC : Str → Option Value) (D : Addr), adr os <+: adr os' → Led S c.h₀ C mC ((c.L, c.m) :: c.fs) c.kp os' σ' h' → VR (adr os') b (.ref D) →
      compPost (model S.prog S.w) c.A E use Q (.ref D) C (.ok .next) { s with heap := h', toks := tk }) :
    wpAny (model S.prog S.w) c.A (comprehension (.ListComp elt [⟨.Name nm px, ite, ifs, 0⟩] sc' pos) sc' c.env (firstIterPos [⟨.Name nm px, ite, ifs, 0⟩] pos) (newList []) false (eval ite c.env) use) Q E s := by
  have O : CompOK S sc sc' c.env nm := compOK hsc
  obtain ⟨cl, hclos, hcl⟩ := closure_of (env := c.env) (sc' := sc') fun x hx hf => (SO.cell x.1 (O.free x hx hf)).2
  refine wpAny_comprehension_free (use := use) rfl (not_set hset c.env) hclos O.kind O.locs ?_
  rcases X.bind_inv hx with ⟨v, σ₁, e1, e2⟩ | ⟨k, e1, rfl⟩
  · refine hit os σ s _ _ hp hl e1 _ _ fun os₁ h₁ tk₁ xv k₁ l₁ hv => ?_
    cases hi : iterOf v σ₁ with
    | none => rw [hi] at e2; cases e2
    | some vs =>
      rw [hi] at e2
      dsimp only at e2
      rcases X.bind_inv e2 with ⟨ws, σ₂, e3, e4⟩ | ⟨k, e3, rfl⟩
      · refine comp_core K SO (Vs.mono (hp.trans k₁)) nd hn O hcl ht he (s := { s with heap := h₁, toks := tk₁ }) List.prefix_rfl l₁ hv hi e3 fun ws' hw os' h' tk C mC D ys kk k' l' hys => ?_
        cases hw
        unfold alloc at e4
        split at e4
        · rename_i hok
          cases e4
          have hok : ws.length ≤ lim := of_decide_eq_true hok
          have l'' := l'.kmove (o := .list ws) ⟨ys, kk, rfl, hys, hok⟩
          have hv' : VR (adr (os' ++ [(D, W.listOf (List.toArray ys) kk)])) (.ref σ₂.length) (.ref D) := by
            refine ⟨D, ?_, rfl⟩
            rw [l'.len]; simp [adr]
          exact fin _ rfl _ _ _ _ _ _ (k₁.trans (k'.trans adr_new)) l'' hv'
        · cases e4
      · exact comp_core K SO (Vs.mono (hp.trans k₁)) nd hn O hcl ht he (s := { s with heap := h₁, toks := tk₁ }) List.prefix_rfl l₁ hv hi e3 fun ws' hw => by cases hw
  · exact hit os σ s _ _ hp hl e1 _ _ fun _ _ _ _ _ _ f => f.elim

theorem sm_comp (K : CtxOK S n c) (SO : ScOK sc c.env) (Vs : VarsOK S c sc ρ loc) (nd : S.T.Nodup) (hn : S.T[i]? = some nm) (hsc : compScope S.nam sc sc' nm = true) (hset : isSet ite = false) {xi : X V} (hit : SM S c ρ VR (eval ite c.env) xi)
    (ht : ∀ (c' : Cx) (ρ' : List Addr) (loc' : Loc), CtxOK S n c' → ScOK sc' c'.env → VarsOK S c' sc' ρ' loc' → SM S c' ρ' EqR (condTree ifs c'.env) (t loc'))
    (he : ∀ (c' : Cx) (ρ' : List Addr) (loc' : Loc), CtxOK S n c' → ScOK sc' c'.env → VarsOK S c' sc' ρ' loc' → SM S c' ρ' VR (eval elt c'.env) (e loc')) :
    SM S c ρ VR (eval (.ListComp elt [⟨.Name nm px, ite, ifs, 0⟩] sc' pos) c.env)
      (X.bind xi fun v => fun h => match iterOf v h with | none => none | some vs => X.bind (compL v [i] false t e loc h vs) (fun ws => alloc (.list ws)) h) := by
  intro os σ s r σ' hp hl hx Q E hQ
  rw [arm_eval_ListComp]
  refine comp_run K SO Vs nd hn hsc hset hit ht he hp hl hx (use := none) fun b hb os' h' tk C mC D k l hv => ?_
  subst hb
  refine ⟨mC, l.fr.ns, fun h'' hs => ?_⟩
  exact hQ os' h'' tk _ k (l.leave hl.fr.above (fun f hf => (hl.outs f hf).2.1) hs.extBut) hv
end

theorem star_cons {N : Nam} {sc : Scope} {x : Ex} {e : Expr} (h : ckE N sc x e = true) (rest : List Expr) (env : Env) : starEach (e :: rest) env = (false, eval e env) :: starEach rest env := by
  cases e <;> first | rfl | (cases x <;> exact nomatch (show false = true from h))
theorem noStar_of {N : Nam} {sc : Scope} {env : Env} : ∀ {es : Exs} {xs : List Expr}, ckEs N sc es xs = true → NoStar xs env
  | .nil, [], _ => rfl
  | .cons e es, x :: xs, h => by
    have h := (Bool.and_eq_true _ _).mp (show (ckE N sc e x && ckEs N sc es xs) = true from h)
    unfold NoStar
    rw [star_cons h.1, List.all_cons]
    have := noStar_of (env := env) h.2
    unfold NoStar at this
    rw [this]; rfl
  | .nil, _ :: _, h => nomatch (show false = true from h)
  | .cons _ _, [], h => nomatch (show false = true from h)

end Mine

set_option autoImplicit false
namespace Mine
open PySem PySem.W PySem.Calls PyProof.Rows
variable {N : Nam} {sc : Scope}
theorem and_t {a b : Bool} (h : (a && b) = true) : a = true ∧ b = true := (Bool.and_eq_true a b).mp h
theorem not_t {a : Bool} (h : (!a) = true) : a = false := (Bool.not_eq_true' a).mp h
theorem dec_t {p : Prop} [Decidable p] (h : decide p = true) : p := of_decide_eq_true h
theorem one_eq {α : Type} {l : List α} {a : α} (h : one l = some a) : l = [a] := by
  match l, h with
  | [b], h => cases h; rfl
theorem two_eq {α : Type} {l : List α} {a b : α} (h : two l = some (a, b)) : l = [a, b] := by
  match l, h with
  | [c, d], h => cases h; rfl
theorem nil_eq {α : Type} {l : List α} (h : nil? l = true) : l = [] := by
  cases l with
  | nil => rfl
  | cons _ _ => cases h
theorem exsNil_eq {l : Exs} (h : exsNil l = true) : l = .nil := by
  cases l with
  | nil => rfl
  | cons _ _ => cases h
noncomputable def rebE (n : Nat) (e : Expr) : Expr := match n with
  | 19 => .Constant (ptE e).cst (ptE e).k (ptE e).pos
  | 23 => .Name (ptE e).nm (ptE e).pos
  | 2 => .BinOp (ptE e).x (ptE e).bop (ptE e).y (ptE e).pos
  | 3 => .UnaryOp (ptE e).uop (ptE e).x (ptE e).pos
  | 0 => .BoolOp (ptE e).lop (ptE e).xs (ptE e).pos
  | 15 => .Compare (ptE e).x (ptE e).cops (ptE e).xs (ptE e).pos
  | 24 => .List (ptE e).xs (ptE e).pos
  | 25 => .Tuple (ptE e).xs (ptE e).k (ptE e).pos
  | 6 => .Dict (ptE e).ds (ptE e).xs (ptE e).pos
  | 20 => .Attribute (ptE e).x (ptE e).nm (ptE e).pos
  | 21 => .Subscript (ptE e).x (ptE e).y (ptE e).pos
  | 16 => .Call (ptE e).x (ptE e).xs (ptE e).kws (ptE e).pos
  | 8 => .ListComp (ptE e).x (ptE e).gs (ptE e).sc (ptE e).pos
  | _ => e
theorem exp_all (e : Expr) : e = rebE (tagE e) e := by cases e <;> rfl
theorem exp_of {e : Expr} {n : Nat} (h : isT e n = true) : e = rebE n e := by
  have h2 := exp_all e
  rw [dec_t h] at h2
  exact h2
theorem t_const {e : Expr} (h : isT e 19 = true) : e = .Constant (ptE e).cst (ptE e).k (ptE e).pos := exp_of h
theorem t_name {e : Expr} (h : isT e 23 = true) : e = .Name (ptE e).nm (ptE e).pos := exp_of h
theorem t_bin {e : Expr} (h : isT e 2 = true) : e = .BinOp (ptE e).x (ptE e).bop (ptE e).y (ptE e).pos := exp_of h
theorem t_un {e : Expr} (h : isT e 3 = true) : e = .UnaryOp (ptE e).uop (ptE e).x (ptE e).pos := exp_of h
theorem t_bool {e : Expr} (h : isT e 0 = true) : e = .BoolOp (ptE e).lop (ptE e).xs (ptE e).pos := exp_of h
theorem t_cmp {e : Expr} (h : isT e 15 = true) : e = .Compare (ptE e).x (ptE e).cops (ptE e).xs (ptE e).pos := exp_of h
theorem t_list {e : Expr} (h : isT e 24 = true) : e = .List (ptE e).xs (ptE e).pos := exp_of h
theorem t_tup {e : Expr} (h : isT e 25 = true) : e = .Tuple (ptE e).xs (ptE e).k (ptE e).pos := exp_of h
theorem t_dict {e : Expr} (h : isT e 6 = true) : e = .Dict (ptE e).ds (ptE e).xs (ptE e).pos := exp_of h
theorem t_attr {e : Expr} (h : isT e 20 = true) : e = .Attribute (ptE e).x (ptE e).nm (ptE e).pos := exp_of h
theorem t_sub {e : Expr} (h : isT e 21 = true) : e = .Subscript (ptE e).x (ptE e).y (ptE e).pos := exp_of h
theorem t_call {e : Expr} (h : isT e 16 = true) : e = .Call (ptE e).x (ptE e).xs (ptE e).kws (ptE e).pos := exp_of h
theorem t_comp {e : Expr} (h : isT e 8 = true) : e = .ListComp (ptE e).x (ptE e).gs (ptE e).sc (ptE e).pos := exp_of h
theorem callN_eq {e : Expr} (h : isCallN e = true) : ∃ q p, e = .Call (.Name (cN e) q) (cA e) [] p := by
  obtain ⟨h1, h2⟩ := and_t h
  obtain ⟨h2, h3⟩ := and_t h2
  refine ⟨(ptE (ptE e).x).pos, (ptE e).pos, ?_⟩
  have e1 := t_call h1
  rw [nil_eq h2, t_name h3] at e1
  exact e1
theorem isC_none {v : Const} (h : isC .none v = true) : v = .none := by cases v <;> first | rfl | cases h
theorem isC_bool {b : Bool} {v : Const} (h : isC (.bool b) v = true) : v = .bool b := by
  cases v <;> first | (rw [eq_of_beq (show (b == _) = true from h)]) | cases h
theorem isC_int {b : Int} {v : Const} (h : isC (.int b) v = true) : v = .int b := by
  cases v <;> first | (rw [dec_t (show decide (b = _) = true from h)]) | cases h
theorem isC_str {b : Str} {v : Const} (h : isC (.str b) v = true) : v = .str b ∧ okS b = true := by
  cases v <;> first | (obtain ⟨h1, h2⟩ := and_t (show (decide (b = _) && okS b) = true from h); obtain rfl := dec_t h1; exact ⟨rfl, h2⟩) | cases h
theorem ck_cnone  {e : Expr} (h : ckE N sc (.cnone) e = true) : ∃ k p, e = .Constant .none k p := by
  obtain ⟨h1, h2⟩ := and_t (show (_ && _) = true from h)
  exact ⟨_, _, by rw [← isC_none h2] <;> exact t_const h1⟩
theorem ck_cbool {b : Bool} {e : Expr} (h : ckE N sc (.cbool b) e = true) : ∃ k p, e = .Constant (.bool b) k p := by
  obtain ⟨h1, h2⟩ := and_t (show (_ && _) = true from h)
  exact ⟨_, _, by rw [← isC_bool h2] <;> exact t_const h1⟩
theorem ck_cint {i : Int} {e : Expr} (h : ckE N sc (.cint i) e = true) : ∃ k p, e = .Constant (.int i) k p := by
  obtain ⟨h1, h2⟩ := and_t (show (_ && _) = true from h)
  exact ⟨_, _, by rw [← isC_int h2] <;> exact t_const h1⟩
theorem ck_cstr {s : Str} {e : Expr} (h : ckE N sc (.cstr s) e = true) : ∃ k p, e = .Constant (.str s) k p ∧ okS s = true := by
  obtain ⟨h1, h2⟩ := and_t (show (_ && _) = true from h)
  exact ⟨_, _, by rw [← (isC_str h2).1] <;> exact t_const h1, (isC_str h2).2⟩
theorem ck_loc {i : Nat} {e : Expr} (h : ckE N sc (.loc i) e = true) : ∃ nm p, e = .Name nm p ∧ nameIs N i nm = true ∧ inScope sc nm = true ∧ (nm == ("__debug__" : Str)) = false ∧ (nm == ("__classdict__" : Str)) = false := by
  obtain ⟨h1, h2⟩ := and_t (show (_ && _) = true from h)
  obtain ⟨g1, r1⟩ := and_t h2
  obtain ⟨g2, r2⟩ := and_t r1
  obtain ⟨g3, g4⟩ := and_t r2
  exact ⟨_, _, t_name h1, g1, g2, not_t g3, not_t g4⟩
theorem ck_glo {i : Nat} {e : Expr} (h : ckE N sc (.glo i) e = true) : ∃ nm p, e = .Name nm p ∧ nameIs N i nm = true ∧ isGlob sc nm = true := by
  obtain ⟨h1, h2⟩ := and_t (show (_ && _) = true from h)
  obtain ⟨g1, g2⟩ := and_t h2
  exact ⟨_, _, t_name h1, g1, g2⟩
theorem ck_bin {op : PySem.Operator} {a b : Ex} {e : Expr} (h : ckE N sc (.bin op a b) e = true) : ∃ l r p, e = .BinOp l op r p ∧ ckE N sc a l = true ∧ ckE N sc b r = true := by
  obtain ⟨h1, h2⟩ := and_t (show (_ && _) = true from h)
  obtain ⟨g1, r1⟩ := and_t h2
  obtain ⟨g2, g3⟩ := and_t r1
  exact ⟨_, _, _, by rw [dec_t g1] <;> exact t_bin h1, g2, g3⟩
theorem ck_neg {a : Ex} {e : Expr} (h : ckE N sc (.neg a) e = true) : ∃ l p, e = .UnaryOp .USub l p ∧ ckE N sc a l = true := by
  obtain ⟨h1, h2⟩ := and_t (show (_ && _) = true from h)
  obtain ⟨g1, g2⟩ := and_t h2
  exact ⟨_, _, by rw [← dec_t g1] <;> exact t_un h1, g2⟩
theorem ck_not {a : Ex} {e : Expr} (h : ckE N sc (.not a) e = true) : ∃ l p, e = .UnaryOp .Not l p ∧ ckE N sc a l = true := by
  obtain ⟨h1, h2⟩ := and_t (show (_ && _) = true from h)
  obtain ⟨g1, g2⟩ := and_t h2
  exact ⟨_, _, by rw [← dec_t g1] <;> exact t_un h1, g2⟩
theorem ck_band {es : Exs} {e : Expr} (h : ckE N sc (.band es) e = true) : ∃ l p, e = .BoolOp .And l p ∧ ckEs N sc es l = true := by
  obtain ⟨h1, h2⟩ := and_t (show (_ && _) = true from h)
  obtain ⟨g1, g2⟩ := and_t h2
  exact ⟨_, _, by rw [← dec_t g1] <;> exact t_bool h1, g2⟩
theorem ck_bor {es : Exs} {e : Expr} (h : ckE N sc (.bor es) e = true) : ∃ l p, e = .BoolOp .Or l p ∧ ckEs N sc es l = true := by
  obtain ⟨h1, h2⟩ := and_t (show (_ && _) = true from h)
  obtain ⟨g1, g2⟩ := and_t h2
  exact ⟨_, _, by rw [← dec_t g1] <;> exact t_bool h1, g2⟩
theorem ck_cmp {op : CmpOp} {a b : Ex} {e : Expr} (h : ckE N sc (.cmp op a b) e = true) : ∃ l r p, e = .Compare l [op] [r] p ∧ behindInMarks op r = false ∧ ckE N sc a l = true ∧ ckE N sc b r = true := by
  obtain ⟨h1, h2⟩ := and_t (show (_ && _) = true from h)
  obtain ⟨o, h3, h2⟩ := onO_eq h2
  obtain ⟨r, h4, h2⟩ := onO_eq h2
  obtain ⟨g1, r1⟩ := and_t h2
  obtain ⟨g2, r2⟩ := and_t r1
  obtain ⟨g3, g4⟩ := and_t r2
  obtain rfl := dec_t g1
  exact ⟨_, _, _, by rw [← one_eq h3, ← one_eq h4] <;> exact t_cmp h1, not_t g2, g3, g4⟩
theorem ck_cmp2 {o1 o2 : CmpOp} {a b d : Ex} {e : Expr} (h : ckE N sc (.cmp2 o1 o2 a b d) e = true) : ∃ l r1 r2 p, e = .Compare l [o1, o2] [r1, r2] p ∧ behindInMarks o2 r2 = false ∧ ckE N sc a l = true ∧ ckE N sc b r1 = true ∧ ckE N sc d r2 = true := by
  obtain ⟨h1, h2⟩ := and_t (show (_ && _) = true from h)
  obtain ⟨⟨p1, p2⟩, h3, h2⟩ := onO_eq h2
  obtain ⟨⟨r1, r2⟩, h4, h2⟩ := onO_eq h2
  obtain ⟨g1, r1⟩ := and_t h2
  obtain ⟨g2, r2⟩ := and_t r1
  obtain ⟨g3, r3⟩ := and_t r2
  obtain ⟨g4, r4⟩ := and_t r3
  obtain ⟨g5, g6⟩ := and_t r4
  obtain rfl := dec_t g1
  obtain rfl := dec_t g2
  exact ⟨_, _, _, _, by rw [← two_eq h3, ← two_eq h4] <;> exact t_cmp h1, not_t g3, g4, g5, g6⟩
theorem ck_list {es : Exs} {e : Expr} (h : ckE N sc (.list es) e = true) : ∃ l p, e = .List l p ∧ ckEs N sc es l = true := by
  obtain ⟨h1, h2⟩ := and_t (show (_ && _) = true from h)
  exact ⟨_, _, t_list h1, h2⟩
theorem ck_tup {es : Exs} {e : Expr} (h : ckE N sc (.tup es) e = true) : ∃ l k p, e = .Tuple l k p ∧ ckEs N sc es l = true := by
  obtain ⟨h1, h2⟩ := and_t (show (_ && _) = true from h)
  exact ⟨_, _, _, t_tup h1, h2⟩
theorem ck_dict {ks vs : Exs} {e : Expr} (h : ckE N sc (.dict ks vs) e = true) : ∃ p, e = .Dict [] [] p ∧ ks = .nil ∧ vs = .nil := by
  obtain ⟨h1, h2⟩ := and_t (show (_ && _) = true from h)
  obtain ⟨g1, r1⟩ := and_t h2
  obtain ⟨g2, r2⟩ := and_t r1
  obtain ⟨g3, g4⟩ := and_t r2
  exact ⟨_, by rw [← nil_eq g3, ← nil_eq g4] <;> exact t_dict h1, exsNil_eq g1, exsNil_eq g2⟩
theorem ck_attr {a : Ex} {n : Nat} {e : Expr} (h : ckE N sc (.attr a n) e = true) : ∃ l nm p, e = .Attribute l nm p ∧ nameIs N n nm = true ∧ plainBase l = true ∧ ckE N sc a l = true := by
  obtain ⟨h1, h2⟩ := and_t (show (_ && _) = true from h)
  obtain ⟨g1, r1⟩ := and_t h2
  obtain ⟨g2, g3⟩ := and_t r1
  exact ⟨_, _, _, t_attr h1, g1, g2, g3⟩
theorem ck_sub {a i : Ex} {e : Expr} (h : ckE N sc (.sub a i) e = true) : ∃ l r p, e = .Subscript l r p ∧ isSlice r = false ∧ ckE N sc a l = true ∧ ckE N sc i r = true := by
  obtain ⟨h1, h2⟩ := and_t (show (_ && _) = true from h)
  obtain ⟨g1, r1⟩ := and_t h2
  obtain ⟨g2, g3⟩ := and_t r1
  exact ⟨_, _, _, t_sub h1, not_t g1, g2, g3⟩
theorem ck_call {f : Nat} {args : Exs} {e : Expr} (h : ckE N sc (.call f args) e = true) : ∃ nm q l p, e = .Call (.Name nm q) l [] p ∧ nameIs N f nm = true ∧ isGlob sc nm = true ∧ (N.fn f).isSome = true ∧ ckEs N sc args l = true := by
  obtain ⟨h1, h2⟩ := and_t (show (_ && _) = true from h)
  obtain ⟨g1, r1⟩ := and_t h2
  obtain ⟨g2, r2⟩ := and_t r1
  obtain ⟨g3, g4⟩ := and_t r2
  obtain ⟨q, p, he⟩ := callN_eq h1
  exact ⟨_, _, _, _, he, g1, g2, g3, g4⟩
theorem ck_new {k : Nat} {e : Expr} (h : ckE N sc (.new k) e = true) : ∃ nm q p, e = .Call (.Name nm q) [] [] p ∧ nameIs N k nm = true ∧ isGlob sc nm = true ∧ (N.cls k).isSome = true := by
  obtain ⟨h1, h2⟩ := and_t (show (_ && _) = true from h)
  obtain ⟨g1, r1⟩ := and_t h2
  obtain ⟨g2, r2⟩ := and_t r1
  obtain ⟨g3, g4⟩ := and_t r2
  obtain ⟨q, p, he⟩ := callN_eq h1
  exact ⟨_, _, _, by rw [nil_eq g1] at he <;> exact he, g2, g3, g4⟩
theorem ck_meth {o : Ex} {n : Nat} {args : Exs} {e : Expr} (h : ckE N sc (.meth o n args) e = true) : ∃ l nm q xs p, e = .Call (.Attribute l nm q) xs [] p ∧ nameIs N n nm = true ∧ plainBase l = true ∧ (q.endLine == p.line) = true ∧ xs.length < 30 ∧ (n ≤ 12 ∨ (N.me n).isSome = true) ∧ ckE N sc o l = true ∧ ckEs N sc args xs = true := by
  obtain ⟨h1, h2⟩ := and_t (show (_ && _) = true from h)
  obtain ⟨g1, r1⟩ := and_t h2
  obtain ⟨g2, r2⟩ := and_t r1
  obtain ⟨g3, r3⟩ := and_t r2
  obtain ⟨g4, r4⟩ := and_t r3
  obtain ⟨g5, r5⟩ := and_t r4
  obtain ⟨g6, r6⟩ := and_t r5
  obtain ⟨g7, r7⟩ := and_t r6
  obtain ⟨g8, g9⟩ := and_t r7
  exact ⟨_, _, _, _, _, by rw [← nil_eq g1, ← t_attr g2] <;> exact t_call h1, g3, g4, g5, dec_t g6, ((Bool.or_eq_true _ _).mp g7).imp dec_t id, g8, g9⟩
theorem ck_bi {b : Bi} {args : Exs} {e : Expr} (h : ckE N sc (.bi b args) e = true) : ∃ nm q l p, e = .Call (.Name nm q) l [] p ∧ nm = biName b ∧ isGlob sc nm = true ∧ ckEs N sc args l = true := by
  obtain ⟨h1, h2⟩ := and_t (show (_ && _) = true from h)
  obtain ⟨g1, r1⟩ := and_t h2
  obtain ⟨g2, g3⟩ := and_t r1
  obtain ⟨q, p, he⟩ := callN_eq h1
  exact ⟨_, _, _, _, he, dec_t g1, g2, g3⟩
theorem ck_isi {a : Ex} {ks : List Nat} {e : Expr} (h : ckE N sc (.isi a ks) e = true) : ∃ k q l cn q' p, ks = [k] ∧ e = .Call (.Name "isinstance" q) [l, .Name cn q'] [] p ∧ isGlob sc "isinstance" = true ∧ isGlob sc cn = true ∧ k ≤ 4 ∧ cn = (clsName k : Str) ∧ ckE N sc a l = true := by
  obtain ⟨h1, h2⟩ := and_t (show (_ && _) = true from h)
  obtain ⟨k, h3, h2⟩ := onO_eq h2
  obtain ⟨⟨y, z⟩, h4, h2⟩ := onO_eq h2
  obtain ⟨g1, r1⟩ := and_t h2
  obtain ⟨g2, r2⟩ := and_t r1
  obtain ⟨g3, r3⟩ := and_t r2
  obtain ⟨g4, r4⟩ := and_t r3
  obtain ⟨g5, r5⟩ := and_t r4
  obtain ⟨g6, g7⟩ := and_t r5
  obtain ⟨q, p, he⟩ := callN_eq h1
  rw [two_eq h4, dec_t g2] at he
  rw [dec_t g2] at g3
  exact ⟨k, q, y, _, _, p, one_eq h3, by rw [he, ← t_name g1], g3, g4, dec_t g5, dec_t g6, g7⟩
theorem ck_comp {elt : Ex} {tg : List Nat} {tup : Bool} {it : Ex} {conds : Exs} {e : Expr} (h : ckE N sc (.comp elt tg tup it conds) e = true) : ∃ i l nm q ite ifs sc' p, tg = [i] ∧ tup = false ∧ e = .ListComp l [⟨.Name nm q, ite, ifs, 0⟩] sc' p ∧ nameIs N i nm = true ∧ compScope N sc sc' nm = true ∧ isSet ite = false ∧ ckE N sc it ite = true ∧ ckE N sc' elt l = true ∧ ckEs N sc' conds ifs = true := by
  obtain ⟨h1, h2⟩ := and_t (show (_ && _) = true from h)
  obtain ⟨i, h3, h2⟩ := onO_eq h2
  obtain ⟨⟨tgt, ite, ifs, as⟩, h4, h2⟩ := onO_eq h2
  obtain ⟨g1, r1⟩ := and_t h2
  obtain ⟨g2, r2⟩ := and_t r1
  obtain ⟨g3, r3⟩ := and_t r2
  obtain ⟨g4, r4⟩ := and_t r3
  obtain ⟨g5, r5⟩ := and_t r4
  obtain ⟨g6, r6⟩ := and_t r5
  obtain ⟨g7, r7⟩ := and_t r6
  obtain ⟨g8, g9⟩ := and_t r7
  obtain rfl : as = 0 := dec_t g3
  exact ⟨i, _, _, _, ite, ifs, _, _, one_eq h3, not_t g2, by rw [← t_name g1, ← one_eq h4] <;> exact t_comp h1, g4, g5, not_t g6, g7, g8, g9⟩
noncomputable def exTag : Ex → Nat
  | .cnone => 19 | .cbool _ => 19 | .cint _ => 19 | .cstr _ => 19 | .loc _ => 23 | .glo _ => 23 | .bin _ _ _ => 2 | .neg _ => 3 | .not _ => 3 | .band _ => 0 | .bor _ => 0 | .cmp _ _ _ => 15 | .cmp2 _ _ _ _ _ => 15 | .list _ => 24 | .tup _ => 25 | .dict _ _ => 6 | .attr _ _ => 20 | .sub _ _ => 21
  | .call _ _ => 16 | .new _ => 16 | .meth _ _ _ => 16 | .bi _ _ => 16 | .isi _ _ => 16 | .comp _ _ _ _ _ => 8
theorem tag_of {e : Ex} {v : Expr} (h : ckE N sc e v = true) : tagE v = exTag e := by
  cases e <;> first | exact dec_t (and_t (show (_ && _) = true from h)).1 | exact dec_t (and_t (show (_ && _) = true from (and_t (show (_ && _) = true from h)).1)).1
noncomputable def plainTag (n : Nat) : Bool := !(Nat.beq n 0 || (Nat.beq n 3 || (Nat.beq n 5 || Nat.beq n 15)))
theorem pl {e : Ex} {v : Expr} (h : ckE N sc e v = true) (k : plainTag (exTag e) = true) : plainTag (tagE v) = true := (tag_of h) ▸ k
end Mine

set_option autoImplicit false
namespace Mine
open PySem PySem.W PySem.Calls PyProof.Rows
variable {S : Sig}

theorem sm_const_none {c : Cx} {ρ : List Addr} {k : Nat} {p : Pos} : SM S c ρ VR (eval (.Constant .none k p) c.env) (X.pure .none) := SM.pure fun _ _ => rfl
theorem sm_const_bool {c : Cx} {ρ : List Addr} {k : Nat} {p : Pos} {b : Bool} : SM S c ρ VR (eval (.Constant (.bool b) k p) c.env) (X.pure (.bool b)) := SM.pure fun _ _ => rfl
theorem sm_const_int {c : Cx} {ρ : List Addr} {k : Nat} {p : Pos} {i : Int} : SM S c ρ VR (eval (.Constant (.int i) k p) c.env) (X.pure (.int i)) := by
  intro os σ s r σ' hp hl he Q E hQ
  cases he
  exact wpAny_Constant_int (hQ os _ _ _ List.prefix_rfl hl ⟨_, rfl⟩)
theorem sm_const_str {c : Cx} {ρ : List Addr} {k : Nat} {p : Pos} {st : Str} (h : okS st = true) : SM S c ρ VR (eval (.Constant (.str st) k p) c.env) (X.pure (.str st)) := by
  intro os σ s r σ' hp hl he Q E hQ
  cases he
  exact wpAny_Constant_str (hQ os _ _ _ List.prefix_rfl hl ⟨_, rfl, h⟩)
theorem sm_glob (OK : SigOK S) {n : Nat} {c : Cx} {ρ : List Addr} {sc : Scope} (K : CtxOK S n c) (SO : ScOK sc c.env) {i : Nat} {nm : Str} {p : Pos} (h1 : nameIs S.nam i nm = true) (h2 : isGlob sc nm = true) :
    SM S c ρ VR (eval (.Name nm p) c.env) (match S.P.globs.lookup i with | some v => X.pure v | none => match S.P.tabs.lookup i with | some _ => X.pure (.top i) | none => X.none) := by
  have hg' := Bool.and_eq_true_iff.mp h2
  cases hv : S.P.globs.lookup i with
  | none => rw [OK.tabs]; exact SM.none
  | some v =>
    obtain ⟨nm', x, e1, e2, e3⟩ := OK.globs i v hv
    rw [T_eq h1] at e1; cases e1
    exact sm_top K (SO.glob _ (of_decide_eq_true hg'.1)) (by simpa using hg'.2) e2 e3
theorem isTrue_plain {e : Expr} {env : Env} {whole : Sem Value} (h : plainTag (tagE e) = true) : isTrue e env whole = (do let v ← whole; standAt e.pos; holding [v] (truthy v)) := by
  cases e <;> first | rfl | cases h
theorem sm_test' {c : Cx} {ρ : List Addr} {e : Expr} {x : X V} (h : isTrue e c.env (eval e c.env) = (do let v ← eval e c.env; standAt e.pos; holding [v] (truthy v))) (hx : SM S c ρ VR (eval e c.env) x) : SM S c ρ EqR (isTrue e c.env (eval e c.env)) (X.bind x truth) := by
  rw [h]
  exact hx.bind fun ρ' a v k ha => SM.stand (SM.hold (sm_truth ha))
theorem sm_test {c : Cx} {ρ : List Addr} {e : Expr} {x : X V} (h : plainTag (tagE e) = true) (hx : SM S c ρ VR (eval e c.env) x) : SM S c ρ EqR (isTrue e c.env (eval e c.env)) (X.bind x truth) := sm_test' (isTrue_plain h) hx
theorem SM.map {α β γ : Type} {c : Cx} {ρ : List Addr} {R1 : List Addr → β → α → Prop} {R2 : List Addr → γ → α → Prop} {t : Sem α} {x : X β} {f : β → γ} (h : SM S c ρ R1 t x) (k : ∀ ρ' b a, ρ <+: ρ' → R1 ρ' b a → R2 ρ' (f b) a) :
    SM S c ρ R2 t (X.bind x fun b => X.pure (f b)) := by
  intro os σ s r σ' hp hl hx Q E hQ
  rcases X.bind_inv hx with ⟨b, σ₁, e1, e2⟩ | ⟨q, e1, rfl⟩
  · cases e2
    exact h os σ s _ _ hp hl e1 _ _ fun os' h' tk a k' l' hr => hQ os' h' tk a k' l' (k _ _ _ (hp.trans k') hr)
  · exact h os σ s _ _ hp hl e1 _ _ hQ
theorem cond_false (fs : List Expr) (env : Env) : (forIn fs false fun c r => if r = true then do let ok ← isTrue c env (eval c env); pure (ForInStep.yield ok) else pure (ForInStep.yield r) : Sem Bool) = pure false := by
  induction fs with
  | nil => rfl
  | cons f fs ih => rw [List.forIn_cons]; exact ih
theorem sm_cond_cons {c : Cx} {ρ : List Addr} {f : Expr} {fs : List Expr} {x y : X Bool} (h1 : SM S c ρ EqR (isTrue f c.env (eval f c.env)) x) (h2 : SM S c ρ EqR (condTree fs c.env) y) :
    SM S c ρ EqR (condTree (f :: fs) c.env) (X.bind x fun t => if t then y else X.pure false) := by
  unfold condTree
  rw [List.forIn_cons]
  rw [if_pos rfl]
  have e1 : x = X.bind x fun b => X.pure b := by
    funext σ; unfold X.bind
    cases x σ with
    | none => rfl
    | some p => obtain ⟨r, σ'⟩ := p; cases r <;> rfl
  rw [e1]
  have h1' : SM S c ρ (fun _ b st => st = ForInStep.yield b) (isTrue f c.env (eval f c.env) >>= fun ok => (Pure.pure (ForInStep.yield ok) : Sem (ForInStep Bool))) (X.bind x fun b => X.pure b) :=
    h1.bind fun ρ' b b' k hb => by subst hb; exact SM.pure fun _ _ => rfl
  refine h1'.bind fun ρ' b st k hb => ?_
  subst hb
  cases b
  · show SM S c ρ' EqR (forIn fs false fun cc r => if r = true then do let ok ← isTrue cc c.env (eval cc c.env); pure (ForInStep.yield ok) else pure (ForInStep.yield r)) (X.pure false)
    rw [cond_false]; exact SM.pure fun _ _ => rfl
  · exact h2.mono k
theorem sm_bool_cons {c : Cx} {ρ : List Addr} {pos : Pos} {o : BoolOp} {a b : Sem Value} {r : List (Sem Value)} {x : X V} {y : X V} (h1 : SM S c ρ VR a x) (h2 : SM S c ρ VR (boolOp pos o (b :: r)) y) :
    SM S c ρ VR (boolOp pos o (a :: b :: r)) (X.bind x fun v => X.bind (truth v) fun t => if t = (o == .And) then y else X.pure v) := by
  show SM S c ρ VR (do
    let v ← a
    standAt pos
    let t ← holding [v] (truthy v)
    match o, t with
    | .And, false | .Or, true => pure v
    | _, _ => boolOp pos o (b :: r)) _
  refine h1.bind fun ρ' v w k hv => SM.stand ((SM.hold (sm_truth hv)).bind fun ρ'' t t' k' ht => ?_)
  subst ht
  cases o <;> cases t
  · exact SM.pure fun _ k'' => (hv.mono k').mono k''
  · exact h2.mono (k.trans k')
  · exact h2.mono (k.trans k')
  · exact SM.pure fun _ k'' => (hv.mono k').mono k''

mutual
theorem sm_ev (OK : SigOK S) {C : Calls} {n : Nat} (HC : CallsOK S C n) (x : Ex) {c : Cx} {ρ : List Addr} {sc : Scope} {loc : Loc} {e : Expr} (K : CtxOK S (n + 2) c) (SO : ScOK sc c.env) (Vs : VarsOK S c sc ρ loc) (h : ckE S.nam sc x e = true) :
    SM S c ρ VR (eval e c.env) (ev S.P C x loc) := by
  match x, h with
  | .cnone, h => obtain ⟨k, p, rfl⟩ := ck_cnone h; exact sm_const_none
  | .cbool b, h => obtain ⟨k, p, rfl⟩ := ck_cbool h; exact sm_const_bool
  | .cint i, h => obtain ⟨k, p, rfl⟩ := ck_cint h; exact sm_const_int
  | .cstr st, h => obtain ⟨k, p, rfl, h1⟩ := ck_cstr h; exact sm_const_str h1
  | .loc i, h => obtain ⟨nm, p, rfl, h1, h2, h3, h4⟩ := ck_loc h; exact sm_local K Vs (T_eq h1) h2 h3 h4
  | .glo i, h => obtain ⟨nm, p, rfl, h1, h2⟩ := ck_glo h; exact sm_glob OK K SO h1 h2
  | .bin op a b, h => obtain ⟨l, r, p, rfl, h1, h2⟩ := ck_bin h; exact sm_bin (sm_ev OK HC a K SO Vs h1) (sm_ev OK HC b K SO Vs h2)
  | .neg a, h => obtain ⟨l, p, rfl, h1⟩ := ck_neg h; exact sm_neg (sm_ev OK HC a K SO Vs h1)
  | .not a, h => obtain ⟨l, p, rfl, h1⟩ := ck_not h; exact sm_not (sm_ev OK HC a K SO Vs h1)
  | .band es, h => obtain ⟨l, p, rfl, h1⟩ := ck_band h; exact sm_and OK HC es K SO Vs h1
  | .bor es, h => obtain ⟨l, p, rfl, h1⟩ := ck_bor h; exact sm_or OK HC es K SO Vs h1
  | .cmp op a b, h => obtain ⟨l, r, p, rfl, h0, h1, h2⟩ := ck_cmp h; exact sm_cmp K.room h0 (sm_ev OK HC a K SO Vs h1) (sm_ev OK HC b K SO Vs h2)
  | .cmp2 o1 o2 a b d, h => obtain ⟨l, r1, r2, p, rfl, h0, h1, h2, h3⟩ := ck_cmp2 h; exact sm_cmp2 K.room h0 (sm_ev OK HC a K SO Vs h1) (sm_ev OK HC b K SO Vs h2) (sm_ev OK HC d K SO Vs h3)
  | .list es, h => obtain ⟨l, p, rfl, h1⟩ := ck_list h; exact sm_list (sm_evs OK HC es K SO Vs h1)
  | .tup es, h => obtain ⟨l, k, p, rfl, h1⟩ := ck_tup h; exact sm_tup (sm_evs OK HC es K SO Vs h1)
  | .dict ks vs, h => obtain ⟨p, rfl, rfl, rfl⟩ := ck_dict h; exact sm_dict0
  | .attr a i, h => obtain ⟨l, nm, p, rfl, h0, h1, h2⟩ := ck_attr h; exact sm_attr OK.tab K (T_eq h0) h1 (sm_ev OK HC a K SO Vs h2)
  | .sub a i, h => obtain ⟨l, r, p, rfl, h0, h1, h2⟩ := ck_sub h; exact sm_sub h0 (sm_ev OK HC a K SO Vs h1) (sm_ev OK HC i K SO Vs h2)
  | .call f args, h => obtain ⟨nm, q, l, p, rfl, h1, h2, h3, h4⟩ := ck_call h; exact sm_call K OK SO HC (T_eq h1) h2 h3 (noStar_of h4) (sm_evs OK HC args K SO Vs h4)
  | .new k, h => obtain ⟨nm, q, p, rfl, h1, h2, h3⟩ := ck_new h; exact sm_new K OK SO HC (T_eq h1) h2 h3
  | .meth o i args, h => obtain ⟨l, nm, q, xs, p, rfl, h1, h2, h3, h4, h5, h6, h7⟩ := ck_meth h; exact sm_meth K OK HC (T_eq h1) h2 h3 h4 h5 (noStar_of h7) (sm_ev OK HC o K SO Vs h6) (sm_evs OK HC args K SO Vs h7)
  | .bi b args, h => obtain ⟨nm, q, l, p, rfl, h1, h2, h3⟩ := ck_bi h; exact sm_bi K OK SO h1 h2 (noStar_of h3) (sm_evs OK HC args K SO Vs h3)
  | .isi a ks, h =>
    obtain ⟨k, q, l, cn, q', p, rfl, rfl, h1, h2, h3, h4, h5⟩ := ck_isi h
    have he : starEach [l, .Name cn q'] c.env = [(false, eval l c.env), (false, eval (.Name cn q') c.env)] := by rw [star_cons h5]; rfl
    exact sm_isinst K OK SO h1 h2 h3 h4 (by unfold NoStar; rw [he]; rfl) he (sm_ev OK HC a K SO Vs h5)
  | .comp elt tg tup it conds, h =>
    obtain ⟨i, l, nm, q, ite, ifs, sc', p, rfl, rfl, rfl, h1, h2, h3, h4, h5, h6⟩ := ck_comp h
    exact sm_comp K SO Vs OK.tab.nodup (T_eq h1) h2 h3 (sm_ev OK HC it K SO Vs h4) (fun c' ρ' loc' K' SO' V' => sm_conds OK HC conds K' SO' V' h6) (fun c' ρ' loc' K' SO' V' => sm_ev OK HC elt K' SO' V' h5)
termination_by structural x
theorem sm_evs (OK : SigOK S) {C : Calls} {n : Nat} (HC : CallsOK S C n) (x : Exs) {c : Cx} {ρ : List Addr} {sc : Scope} {loc : Loc} {l : List Expr} {pos : Pos} (K : CtxOK S (n + 2) c) (SO : ScOK sc c.env) (Vs : VarsOK S c sc ρ loc) (h : ckEs S.nam sc x l = true) :
    SM S c ρ VRs (spliced (backTo pos (starEach l c.env))) (evs S.P C x loc) := by
  match x, l, h with
  | .nil, [], h => exact SM.pure fun _ _ => .nil
  | .cons e es, a :: as, h =>
    have h := and_t (show (_ && _) = true from h)
    rw [star_cons h.1]
    refine sm_splice (sm_ev OK HC e K SO Vs h.1) fun ρ' v w k hv => ?_
    exact ((sm_evs OK HC es K SO Vs h.2).mono k).map fun ρ'' vs ws k' hw => .cons (hv.mono k') hw
  | .nil, _ :: _, h => exact nomatch (show false = true from h)
  | .cons _ _, [], h => exact nomatch (show false = true from h)
termination_by structural x
theorem sm_and (OK : SigOK S) {C : Calls} {n : Nat} (HC : CallsOK S C n) (x : Exs) {c : Cx} {ρ : List Addr} {sc : Scope} {loc : Loc} {l : List Expr} {pos : Pos} (K : CtxOK S (n + 2) c) (SO : ScOK sc c.env) (Vs : VarsOK S c sc ρ loc) (h : ckEs S.nam sc x l = true) :
    SM S c ρ VR (boolOp pos .And (evalEach l c.env)) (evAnd S.P C x loc) := by
  match x, l, h with
  | .nil, _, h => exact SM.none
  | .cons e .nil, [a], h =>
    have h := and_t (show (_ && _) = true from h)
    exact sm_ev OK HC e K SO Vs h.1
  | .cons e (.cons e2 es), a :: a2 :: as, h =>
    have h := and_t (show (_ && _) = true from h)
    refine (sm_bool_cons (pos := pos) (o := .And) (sm_ev OK HC e K SO Vs h.1) (sm_and OK HC (.cons e2 es) (l := a2 :: as) K SO Vs h.2)).eqx ?_
    show X.bind (ev S.P C e loc) (fun v => X.bind (truth v) fun t => if t then evAnd S.P C (.cons e2 es) loc else X.pure v) = _
    first | rfl | (congr 1; funext v; congr 1; funext t; cases t <;> rfl)
  | .cons _ .nil, [], h => exact nomatch (show false = true from h)
  | .cons _ .nil, _ :: _ :: _, h => exact nomatch (show false = true from (and_t (show (_ && _) = true from h)).2)
  | .cons _ (.cons _ _), [], h => exact nomatch (show false = true from h)
  | .cons _ (.cons _ _), [_], h => exact nomatch (show false = true from (and_t (show (_ && _) = true from h)).2)
termination_by structural x
theorem sm_or (OK : SigOK S) {C : Calls} {n : Nat} (HC : CallsOK S C n) (x : Exs) {c : Cx} {ρ : List Addr} {sc : Scope} {loc : Loc} {l : List Expr} {pos : Pos} (K : CtxOK S (n + 2) c) (SO : ScOK sc c.env) (Vs : VarsOK S c sc ρ loc) (h : ckEs S.nam sc x l = true) :
    SM S c ρ VR (boolOp pos .Or (evalEach l c.env)) (evOr S.P C x loc) := by
  match x, l, h with
  | .nil, _, h => exact SM.none
  | .cons e .nil, [a], h =>
    have h := and_t (show (_ && _) = true from h)
    exact sm_ev OK HC e K SO Vs h.1
  | .cons e (.cons e2 es), a :: a2 :: as, h =>
    have h := and_t (show (_ && _) = true from h)
    refine (sm_bool_cons (pos := pos) (o := .Or) (sm_ev OK HC e K SO Vs h.1) (sm_or OK HC (.cons e2 es) (l := a2 :: as) K SO Vs h.2)).eqx ?_
    show X.bind (ev S.P C e loc) (fun v => X.bind (truth v) fun t => if t then X.pure v else evOr S.P C (.cons e2 es) loc) = _
    first | rfl | (congr 1; funext v; congr 1; funext t; cases t <;> rfl)
  | .cons _ .nil, [], h => exact nomatch (show false = true from h)
  | .cons _ .nil, _ :: _ :: _, h => exact nomatch (show false = true from (and_t (show (_ && _) = true from h)).2)
  | .cons _ (.cons _ _), [], h => exact nomatch (show false = true from h)
  | .cons _ (.cons _ _), [_], h => exact nomatch (show false = true from (and_t (show (_ && _) = true from h)).2)
termination_by structural x
theorem sm_tst (OK : SigOK S) {C : Calls} {n : Nat} (HC : CallsOK S C n) (x : Ex) {c : Cx} {ρ : List Addr} {sc : Scope} {loc : Loc} {e : Expr} (K : CtxOK S (n + 2) c) (SO : ScOK sc c.env) (Vs : VarsOK S c sc ρ loc) (h : ckE S.nam sc x e = true) (hw : SM S c ρ VR (eval e c.env) (ev S.P C x loc)) :
    SM S c ρ EqR (isTrue e c.env (eval e c.env)) (tst S.P C x loc (ev S.P C x loc)) := by
  match x, h, hw with
  | .not a, h, hw =>
    obtain ⟨l, p, rfl, h1⟩ := ck_not h
    rw [arm_isTrue_UnaryOp]
    exact (sm_tst OK HC a K SO Vs h1 (sm_ev OK HC a K SO Vs h1)).bind fun ρ' b b' k hb => by subst hb; exact SM.pure fun _ _ => rfl
  | .band es, h, hw => obtain ⟨l, p, rfl, h1⟩ := ck_band h; rw [arm_isTrue_BoolOp]; exact sm_tstAnd OK HC es K SO Vs h1
  | .bor es, h, hw => obtain ⟨l, p, rfl, h1⟩ := ck_bor h; rw [arm_isTrue_BoolOp]; exact sm_tstOr OK HC es K SO Vs h1
  | .cmp op a b, h, hw => obtain ⟨l, r, p, rfl, h0, h1, h2⟩ := ck_cmp h; exact sm_cmp_test K.room h0 (sm_ev OK HC a K SO Vs h1) (sm_ev OK HC b K SO Vs h2)
  | .cmp2 o1 o2 a b d, h, hw => obtain ⟨l, r1, r2, p, rfl, h0, h1, h2, h3⟩ := ck_cmp2 h; exact sm_cmp2_test K.room h0 (sm_ev OK HC a K SO Vs h1) (sm_ev OK HC b K SO Vs h2) (sm_ev OK HC d K SO Vs h3)
  | .cnone, h, hw => exact sm_test (pl h rfl) hw
  | .cbool b, h, hw => exact sm_test (pl h rfl) hw
  | .cint i, h, hw => exact sm_test (pl h rfl) hw
  | .cstr st, h, hw => exact sm_test (pl h rfl) hw
  | .loc i, h, hw => exact sm_test (pl h rfl) hw
  | .glo i, h, hw => exact sm_test (pl h rfl) hw
  | .bin op a b, h, hw => exact sm_test (pl h rfl) hw
  | .neg a, h, hw => obtain ⟨l, p, rfl, h1⟩ := ck_neg h; exact sm_test' rfl hw
  | .list es, h, hw => exact sm_test (pl h rfl) hw
  | .tup es, h, hw => exact sm_test (pl h rfl) hw
  | .dict ks vs, h, hw => exact sm_test (pl h rfl) hw
  | .attr a i, h, hw => exact sm_test (pl h rfl) hw
  | .sub a i, h, hw => exact sm_test (pl h rfl) hw
  | .call f args, h, hw => exact sm_test (pl h rfl) hw
  | .new k, h, hw => exact sm_test (pl h rfl) hw
  | .meth o i args, h, hw => exact sm_test (pl h rfl) hw
  | .bi b args, h, hw => exact sm_test (pl h rfl) hw
  | .isi a ks, h, hw => exact sm_test (pl h rfl) hw
  | .comp elt tg tup it conds, h, hw => exact sm_test (pl h rfl) hw
termination_by structural x
theorem sm_tstAnd (OK : SigOK S) {C : Calls} {n : Nat} (HC : CallsOK S C n) (x : Exs) {c : Cx} {ρ : List Addr} {sc : Scope} {loc : Loc} {l : List Expr} (K : CtxOK S (n + 2) c) (SO : ScOK sc c.env) (Vs : VarsOK S c sc ρ loc) (h : ckEs S.nam sc x l = true) :
    SM S c ρ EqR (allTrue .And l c.env) (tstAnd S.P C x loc) := by
  match x, l, h with
  | .nil, [], h => exact SM.pure fun _ _ => rfl
  | .cons e es, a :: as, h =>
    have h := and_t (show (_ && _) = true from h)
    rw [arm_allTrue_cons]
    refine (sm_tst OK HC e K SO Vs h.1 (sm_ev OK HC e K SO Vs h.1)).bind fun ρ' b b' k hb => ?_
    subst hb
    cases b
    · exact SM.pure fun _ _ => rfl
    · exact (sm_tstAnd OK HC es K SO Vs h.2).mono k
  | .nil, _ :: _, h => exact nomatch (show false = true from h)
  | .cons _ _, [], h => exact nomatch (show false = true from h)
termination_by structural x
theorem sm_tstOr (OK : SigOK S) {C : Calls} {n : Nat} (HC : CallsOK S C n) (x : Exs) {c : Cx} {ρ : List Addr} {sc : Scope} {loc : Loc} {l : List Expr} (K : CtxOK S (n + 2) c) (SO : ScOK sc c.env) (Vs : VarsOK S c sc ρ loc) (h : ckEs S.nam sc x l = true) :
    SM S c ρ EqR (allTrue .Or l c.env) (tstOr S.P C x loc) := by
  match x, l, h with
  | .nil, [], h => exact SM.pure fun _ _ => rfl
  | .cons e es, a :: as, h =>
    have h := and_t (show (_ && _) = true from h)
    rw [arm_allTrue_cons]
    refine (sm_tst OK HC e K SO Vs h.1 (sm_ev OK HC e K SO Vs h.1)).bind fun ρ' b b' k hb => ?_
    subst hb
    cases b
    · exact (sm_tstOr OK HC es K SO Vs h.2).mono k
    · exact SM.pure fun _ _ => rfl
  | .nil, _ :: _, h => exact nomatch (show false = true from h)
  | .cons _ _, [], h => exact nomatch (show false = true from h)
termination_by structural x
theorem sm_conds (OK : SigOK S) {C : Calls} {n : Nat} (HC : CallsOK S C n) (x : Exs) {c : Cx} {ρ : List Addr} {sc : Scope} {loc : Loc} {l : List Expr} (K : CtxOK S (n + 2) c) (SO : ScOK sc c.env) (Vs : VarsOK S c sc ρ loc) (h : ckEs S.nam sc x l = true) :
    SM S c ρ EqR (condTree l c.env) (tstAnd S.P C x loc) := by
  match x, l, h with
  | .nil, [], h => exact SM.pure fun _ _ => rfl
  | .cons e es, a :: as, h =>
    have h := and_t (show (_ && _) = true from h)
    exact sm_cond_cons (sm_tst OK HC e K SO Vs h.1 (sm_ev OK HC e K SO Vs h.1)) (sm_conds OK HC es K SO Vs h.2)
  | .nil, _ :: _, h => exact nomatch (show false = true from h)
  | .cons _ _, [], h => exact nomatch (show false = true from h)
termination_by structural x
end
end Mine

set_option autoImplicit false
namespace Mine
open PySem PySem.W PySem.Calls PyProof.Rows
variable {S : Sig}

set_option genInjectivity false in
structure Dx where
  A : Around
  env : Env
  h₀ : Heap
  L : Addr
  fs : Fs
  kp : List (Addr × Obj)
abbrev Dx.cx (d : Dx) (m : Str → Option Value) (cs : List (Addr × Obj)) : Cx := ⟨d.A, d.env, d.h₀, d.L, m, d.fs, d.kp ++ cs⟩

structure CellsOK (env : Env) (cs : List (Addr × Obj)) : Prop where
  all : All2 (fun (p : Str × Addr) (q : Addr × Obj) => p.2 = q.1 ∧ ∃ v, q.2.data = .cell v) env.cells cs
  nd : (env.cells.map (·.1)).Nodup

structure Fm (S : Sig) (d : Dx) (sc : Scope) (loc : Loc) (os : List (Addr × Obj)) (σ : H) (h : Heap) (m : Str → Option Value) (cs : List (Addr × Obj)) : Prop where
  vars : VarsOK S (d.cx m cs) sc (adr os) loc
  cells : CellsOK d.env cs
  led : (d.cx m cs).led S os σ h

abbrev XS := Loc → H → Option (R (Option V) × Loc × H)
noncomputable def SX (S : Sig) (d : Dx) (sc : Scope) (t : Sem Flow) (x : XS) : Prop :=
  ∀ (loc : Loc) (m : Str → Option Value) (cs os : List (Addr × Obj)) (σ : H) (s : Shared) (r : R (Option V)) (loc' : Loc) (σ' : H), Fm S d sc loc os σ s.heap m cs → x loc σ = some (r, loc', σ') →
    ∀ (Q : Flow → Shared → Prop) (E : Value → Shared → Prop),
      (∀ (m' : Str → Option Value) (cs' os' : List (Addr × Obj)) (h' : Heap) (tk : Nat), adr os <+: adr os' → Fm S d sc loc' os' σ' h' m' cs' → match r with
        | .ok none => Q .next { s with heap := h', toks := tk }
        | .ok (some v) => ∀ a, VR (adr os') v a → Q (.ret a) { s with heap := h', toks := tk }
        | .err k => ∀ e, Fly (d.cx m' cs') e k h' → E e { s with heap := h', toks := tk }) →
      wpAny (model S.prog S.w) d.A t Q E s

theorem onX_inv {α : Type} {m : X α} {loc loc' : Loc} {f : α → H → Option (R (Option V) × Loc × H)} {σ σ' : H} {r : R (Option V)} (h : onX m loc f σ = some (r, loc', σ')) :
    (∃ a σ₁, m σ = some (.ok a, σ₁) ∧ f a σ₁ = some (r, loc', σ')) ∨ (∃ k, m σ = some (.err k, σ') ∧ r = .err k ∧ loc' = loc) := by
  unfold onX at h
  split at h
  · cases h
  · rename_i k σ₁ e; cases h; exact .inr ⟨k, e, rfl, rfl⟩
  · rename_i a σ₁ e; exact .inl ⟨a, σ₁, e, h⟩

section
variable {d : Dx} {sc : Scope} {loc : Loc} {os os' : List (Addr × Obj)} {σ σ' : H} {h h' : Heap} {m : Str → Option Value} {cs : List (Addr × Obj)}
theorem Fm.step (f : Fm S d sc loc os σ h m cs) (k : adr os <+: adr os') (l : (d.cx m cs).led S os' σ' h') : Fm S d sc loc os' σ' h' m cs := ⟨f.vars.mono k, f.cells, l⟩

theorem sx_on {α β : Type} {RV : List Addr → β → α → Prop} {t : Sem α} {x : X β} {s : Shared} {r : R (Option V)} {loc' : Loc} {f : β → H → Option (R (Option V) × Loc × H)}
    (F : Fm S d sc loc os σ s.heap m cs) (hx : SM S (d.cx m cs) (adr os) RV t x) (e : onX x loc f σ = some (r, loc', σ')) {Q : α → Shared → Prop} {E : Value → Shared → Prop}
    (hQ : ∀ (b : β) (σ₁ : H), f b σ₁ = some (r, loc', σ') → ∀ (os₁ : List (Addr × Obj)) (h₁ : Heap) (tk : Nat) (a : α), adr os <+: adr os₁ → Fm S d sc loc os₁ σ₁ h₁ m cs → RV (adr os₁) b a → Q a { s with heap := h₁, toks := tk }) :
    wpAny (model S.prog S.w) d.A t Q E s := by
  rcases onX_inv e with ⟨b, σ₁, e1, e2⟩ | ⟨k, e1, rfl, rfl⟩
  · exact hx os σ s _ _ List.prefix_rfl F.led e1 _ _ fun os₁ h₁ tk a k l hr => hQ b σ₁ e2 os₁ h₁ tk a k (F.step k l) hr
  · exact hx os σ s _ _ List.prefix_rfl F.led e1 _ _ fun _ _ _ _ _ _ f => f.elim
end

section
variable {d : Dx} {sc : Scope}
noncomputable def isComp (v : Expr) : Bool := Nat.ble 8 (tagE v) && Nat.ble (tagE v) 10
theorem no_swap {v : Expr} (h : isComp v = false) (t : Option Expr) (line : Nat) (env : Env) : swapsWith v t line env = pure false := by
  cases v <;> first | rfl | cases h

theorem sx_expr (hk : d.env.scope.kind = .function) {v : Expr} {pos : Pos} {x : Loc → X V} (hc : isComp v = false) (hx : ∀ m cs ρ loc, VarsOK S (d.cx m cs) sc ρ loc → SM S (d.cx m cs) ρ VR (eval v d.env) (x loc)) :
    SX S d sc (exec (.Expr v pos) d.env) (fun loc h => onX (x loc) loc (fun _ h₁ => some (.ok none, loc, h₁)) h) := by
  intro loc m cs os σ s r loc' σ' F e Q E hQ
  refine wpAny_Expr_any (sx_on F (hx _ _ _ _ F.vars) e fun b σ₁ e2 os₁ h₁ tk a k F₁ hr => ?_) (by unfold interactive; rw [hk]; rfl) (no_swap hc _ _ _)
  cases e2
  exact hQ m cs os₁ h₁ tk k F₁
theorem sx_ret {v : Expr} {pos : Pos} {x : Loc → X V} (hx : ∀ m cs ρ loc, VarsOK S (d.cx m cs) sc ρ loc → SM S (d.cx m cs) ρ VR (eval v d.env) (x loc)) :
    SX S d sc (exec (.Return (some v) pos) d.env) (fun loc h => onX (x loc) loc (fun v h₁ => some (.ok (some v), loc, h₁)) h) := by
  intro loc m cs os σ s r loc' σ' F e Q E hQ
  refine wpAny_Return_some (sx_on F (hx _ _ _ _ F.vars) e fun b σ₁ e2 os₁ h₁ tk a k F₁ hr => ?_)
  cases e2
  exact hQ m cs os₁ h₁ tk k F₁ a hr
theorem sx_ret0 {pos : Pos} : SX S d sc (exec (.Return none pos) d.env) (fun loc h => some (.ok (some .none), loc, h)) := by
  intro loc m cs os σ s r loc' σ' F e Q E hQ
  cases e
  exact wpAny_Return_none (hQ m cs os s.heap s.toks List.prefix_rfl F .none rfl)
theorem sx_pass {pos : Pos} : SX S d sc (exec (.Pass pos) d.env) (fun loc h => some (.ok none, loc, h)) := by
  intro loc m cs os σ s r loc' σ' F e Q E hQ
  cases e
  exact wpAny_Pass (hQ m cs os s.heap s.toks List.prefix_rfl F)
theorem sx_nil : SX S d sc (execs [] d.env) (fun loc h => some (.ok none, loc, h)) := by
  intro loc m cs os σ s r loc' σ' F e Q E hQ
  cases e
  exact wpAny_execs_nil (hQ m cs os s.heap s.toks List.prefix_rfl F)
theorem sx_cons {st : Stmt} {rest : List Stmt} {x y : XS} (h1 : SX S d sc (exec st d.env) x) (h2 : SX S d sc (execs rest d.env) y) :
    SX S d sc (execs (st :: rest) d.env) (fun loc h => match x loc h with | some (.ok none, l₁, h₁) => y l₁ h₁ | r => r) := by
  intro loc m cs os σ s r loc' σ' F e Q E hQ
  refine wpAny_execs_cons ?_
  cases hx : x loc σ with
  | none => dsimp only at e; rw [hx] at e; cases e
  | some p =>
    obtain ⟨rr, l₁, σ₁⟩ := p
    dsimp only at e
    rw [hx] at e
    refine h1 loc m cs os σ s rr l₁ σ₁ F hx _ _ fun m₁ cs₁ os₁ h₁ tk₁ k₁ F₁ => ?_
    cases rr with
    | err q => exact fun _ f => f.elim
    | ok o =>
      cases o with
      | none => exact h2 l₁ m₁ cs₁ os₁ σ₁ { s with heap := h₁, toks := tk₁ } r loc' σ' F₁ e Q E fun m₂ cs₂ os₂ h₂ tk₂ k₂ F₂ => hQ m₂ cs₂ os₂ h₂ tk₂ (k₁.trans k₂) F₂
      | some v =>
        cases e
        exact hQ m₁ cs₁ os₁ h₁ tk₁ k₁ F₁
theorem sx_if {c : Expr} {a b : List Stmt} {pos : Pos} {x : Loc → X Bool} {y z : XS} (hx : ∀ m cs ρ loc, VarsOK S (d.cx m cs) sc ρ loc → SM S (d.cx m cs) ρ EqR (isTrue c d.env (eval c d.env)) (x loc)) (hy : SX S d sc (execs a d.env) y) (hz : SX S d sc (execs b d.env) z) :
    SX S d sc (exec (.If c a b pos) d.env) (fun loc h => onX (x loc) loc (fun t h₁ => if t then y loc h₁ else z loc h₁) h) := by
  intro loc m cs os σ s r loc' σ' F e Q E hQ
  refine wpAny_If (sx_on F (hx _ _ _ _ F.vars) e fun t σ₁ e2 os₁ h₁ tk a k F₁ hr => ?_)
  subst hr
  cases t
  · exact hz loc m cs os₁ σ₁ { s with heap := h₁, toks := tk } r loc' σ' F₁ e2 Q E fun m₂ cs₂ os₂ h₂ tk₂ k₂ F₂ => hQ m₂ cs₂ os₂ h₂ tk₂ (k.trans k₂) F₂
  · exact hy loc m cs os₁ σ₁ { s with heap := h₁, toks := tk } r loc' σ' F₁ e2 Q E fun m₂ cs₂ os₂ h₂ tk₂ k₂ F₂ => hQ m₂ cs₂ os₂ h₂ tk₂ (k.trans k₂) F₂
theorem sx_while {c : Expr} {a : List Stmt} {pos : Pos} {x : Loc → X Bool} {y : XS} {fuel : Nat} (hx : ∀ m cs ρ loc, VarsOK S (d.cx m cs) sc ρ loc → SM S (d.cx m cs) ρ EqR (isTrue c d.env (eval c d.env)) (x loc)) (hy : SX S d sc (execs a d.env) y) :
    SX S d sc (exec (.While c a [] pos) d.env) (fun loc h => whileL x y fuel loc h) := by
  intro loc m cs os σ s r loc' σ' F e Q E hQ
  refine wpAny_While ?_
  refine codeAny_whileLoop (fun k s' => ∃ h' tk os' σ₁ m' cs' l', s' = { s with heap := h', toks := tk } ∧ adr os <+: adr os' ∧ Fm S d sc l' os' σ₁ h' m' cs' ∧ whileL x y k l' σ₁ = some (r, loc', σ')) ?_ fuel ⟨s.heap, s.toks, os, σ, m, cs, loc, rfl, List.prefix_rfl, F, e⟩
  rintro k s' ⟨h', tk, os', σ₁, m', cs', l', rfl, k', F', e'⟩
  cases k with
  | zero => cases e'
  | succ k =>
    unfold whileL at e'
    cases ht : x l' σ₁ with
    | none => rw [ht] at e'; cases e'
    | some p =>
      obtain ⟨tr, σ₂⟩ := p
      rw [ht] at e'
      cases tr with
      | err q => exact hx _ _ _ _ F'.vars os' σ₁ { s with heap := h', toks := tk } _ _ List.prefix_rfl F'.led ht _ _ fun _ _ _ _ _ _ f => f.elim
      | ok t =>
        refine hx _ _ _ _ F'.vars os' σ₁ { s with heap := h', toks := tk } _ _ List.prefix_rfl F'.led ht _ _ fun os₂ h₂ tk₂ t' k₂ l₂ hb => ?_
        subst hb
        have F₂ := F'.step k₂ l₂
        cases t with
        | false =>
          cases e'
          simp only [Bool.false_eq_true, if_false]
          exact wpAny_execs_nil (hQ m' cs' os₂ h₂ tk₂ (k'.trans k₂) F₂)
        | true =>
          simp only [if_true]
          dsimp only at e'
          cases hb : y l' σ₂ with
          | none => rw [hb] at e'; cases e'
          | some p₂ =>
            obtain ⟨rr, l₃, σ₃⟩ := p₂
            rw [hb] at e'
            refine hy l' m' cs' os₂ σ₂ { s with heap := h₂, toks := tk₂ } rr l₃ σ₃ F₂ hb _ _ fun m₃ cs₃ os₃ h₃ tk₃ k₃ F₃ => ?_
            cases rr with
            | err q => exact fun _ f => f.elim
            | ok o =>
              cases o with
              | none => exact ⟨k, Nat.lt_succ_self k, h₃, tk₃, os₃, σ₃, m₃, cs₃, l₃, rfl, k'.trans (k₂.trans k₃), F₃, e'⟩
              | some v => cases e'; exact hQ m₃ cs₃ os₃ h₃ tk₃ (k'.trans (k₂.trans k₃)) F₃
end
end Mine

set_option autoImplicit false
namespace Mine
open PySem PySem.W PySem.Calls PyProof.Rows
variable {S : Sig}

theorem lookup_idx {α : Type} : ∀ {l : List (Str × α)} {n : Str} {a : α}, l.lookup n = some a → ∃ i : Nat, l[i]? = some (n, a)
  | [], _, _, h => by simp at h
  | (k, b) :: r, n, a, h => by
    by_cases hk : n = k
    · subst hk
      simp at h; subst h; exact ⟨0, rfl⟩
    · have : (n == k) = false := by simpa using hk
      rw [List.lookup_cons, this] at h
      obtain ⟨i, hi⟩ := lookup_idx h
      exact ⟨i + 1, hi⟩

theorem Led.kperm {h₀ h : Heap} {L : Addr} {m : Str → Option Value} {fs : Fs} {kp kp' os : List (Addr × Obj)} {σ : H} (l : Led S h₀ L m fs kp os σ h) (p : kp.Perm kp') : Led S h₀ L m fs kp' os σ h := by
  have p' : (kp ++ os).Perm (kp' ++ os) := p.append_right os
  have pa : (adr (kp ++ os)).Perm (adr (kp' ++ os)) := p'.map _
  exact ⟨l.fr, fun q hq => l.news q (p'.mem_iff.mpr hq), pa.nodup_iff.mp l.nd, l.objs, fun f hf => ⟨(l.outs f hf).1, (l.outs f hf).2.1, (l.outs f hf).2.2.1, fun q => (l.outs f hf).2.2.2 (pa.mem_iff.mpr q)⟩, l.top, fun b hb => l.big b (pa.mem_iff.mpr hb), l.frz⟩
theorem set_self {α : Type} : ∀ {l : List α} {i : Nat} {a : α}, l[i]? = some a → l.set i a = l
  | [], _, _, e => by simp at e
  | x :: r, 0, _, e => by simp only [List.getElem?_cons_zero, Option.some.injEq] at e; rw [e]; rfl
  | x :: r, i + 1, _, e => by simp only [List.getElem?_cons_succ] at e; rw [List.set_cons_succ, set_self e]
section
variable {d : Dx} {sc : Scope} {loc : Loc} {os : List (Addr × Obj)} {σ : H} {h : Heap} {m : Str → Option Value} {cs : List (Addr × Obj)}
theorem nd_parts {S : Sig} {h₀ : Heap} {L : Addr} {fs : Fs} {kp : List (Addr × Obj)} (l : Led S h₀ L m fs (kp ++ cs) os σ h) : (adr cs).Nodup ∧ ∀ p ∈ kp, ∀ q ∈ cs, p.1 ≠ q.1 := by
  have nd := l.nd
  simp only [adr, List.map_append] at nd
  obtain ⟨n1, _, _⟩ := List.nodup_append.mp nd
  obtain ⟨_, n2, n3⟩ := List.nodup_append.mp n1
  exact ⟨n2, fun p hp q hq e => n3 p.1 (List.mem_map_of_mem hp) q.1 (List.mem_map_of_mem hq) e⟩
theorem CellsOK.at {env : Env} (C : CellsOK env cs) {nm : Str} {a : Addr} (e : env.cells.lookup nm = some a) : ∃ (i : Nat) (o : Obj) (v : Option Value), env.cells[i]? = some (nm, a) ∧ cs[i]? = some (a, o) ∧ o.data = .cell v := by
  obtain ⟨i, hi⟩ := lookup_idx e
  obtain ⟨q, hq, h1, v, h2⟩ := C.all.get hi
  obtain ⟨b, o⟩ := q
  dsimp only at h1 h2
  subst h1
  exact ⟨i, o, v, hi, hq, h2⟩
theorem cell_mem {S : Sig} {h₀ : Heap} {L : Addr} {fs : Fs} {kp : List (Addr × Obj)} {env : Env} (l : Led S h₀ L m fs (kp ++ cs) os σ h) (C : CellsOK env cs) {nm : Str} {a : Addr} {o : Obj} (e : env.cells.lookup nm = some a) (hm : (a, o) ∈ kp ++ cs) : (a, o) ∈ cs := by
  obtain ⟨i, o', v, _, h2, _⟩ := C.at e
  rcases List.mem_append.mp hm with hm | hm
  · exact absurd rfl ((nd_parts l).2 (a, o) hm (a, o') (List.mem_of_getElem? h2))
  · exact hm
theorem vars_kp {kp' : List (Addr × Obj)} (F : Fm S d sc loc os σ h m cs) : VarsOK S ({ d with kp := kp' }.cx m cs) sc (adr os) loc := by
  intro i v nm h1 h2 h3
  obtain ⟨x, h4, h5⟩ := F.vars i v nm h1 h2 h3
  refine ⟨x, ?_, h5⟩
  rcases h4 with ⟨q1, q2⟩ | ⟨q1, a, o, q2, q3, q4⟩
  · exact .inl ⟨q1, q2⟩
  · exact .inr ⟨q1, a, o, q2, List.mem_append_right _ (cell_mem F.led F.cells q2 q3), q4⟩

theorem upd_ne {loc : Loc} {i j : Nat} {v : V} (h : j ≠ i) : loc.upd i v j = loc j := by rw [Loc.upd, beq_eq_false_iff_ne.mpr h]; rfl
theorem upd_eq {loc : Loc} {i : Nat} {v : V} : loc.upd i v i = some v := by rw [Loc.upd, beq_self_eq_true]; rfl

theorem store_var (nd : S.T.Nodup) (SO : ScOK sc d.env) (hk : d.env.scope.kind = .function) (hloc : d.env.locals = d.L) {s : Shared} (F : Fm S d sc loc os σ s.heap m cs) {i : Nat} {nm : Str} {v : V} {x : Value} (hn : S.T[i]? = some nm)
    (hs : sc.names.lookup nm = some .local ∨ (sc.names.lookup nm = some .cell ∧ d.env.kindOf nm = some .cell)) (hv : VR (adr os) v x) {Q : Unit → Shared → Prop} {E : Value → Shared → Prop}
    (hQ : ∀ m' cs' h' tk, Fm S d sc (loc.upd i v) os σ h' m' cs' → Q () { s with heap := h', toks := tk }) : wpAny (model S.prog S.w) d.A (storeName d.env nm x) Q E s := by
  have inj : ∀ {j : Nat} {nmj : Str}, S.T[j]? = some nmj → j ≠ i → nmj ≠ nm := fun {j nmj} hj hji q => hji ((List.getElem?_inj (List.getElem?_eq_some_iff.mp hj).1 nd).mp (by rw [hj, hn, q]))
  rcases hs with hs | ⟨hs, hkc⟩
  · have kind := SO.loc nm hs
    have hns : s.heap.Ns d.env.locals m := by rw [hloc]; exact F.led.fr.ns
    refine wpAny_storeName_local kind hns (fun h' hn' hs' => ?_) (by rw [hk]; rfl)
    rw [hloc] at hn' hs'
    refine hQ (fun y => if y = nm then some x else m y) cs h' _ ⟨fun j w nmj h1 h2 h3 => ?_, F.cells, F.led.lset hn' hs'⟩
    by_cases hji : j = i
    · subst hji
      rw [upd_eq] at h1; cases h1
      rw [hn] at h2; cases h2
      exact ⟨x, .inl ⟨kind, by simp⟩, hv⟩
    · rw [upd_ne hji] at h1
      obtain ⟨y, h4, h5⟩ := F.vars j w nmj h1 h2 h3
      refine ⟨y, ?_, h5⟩
      rcases h4 with ⟨q1, q2⟩ | q
      · exact .inl ⟨q1, by show (if nmj = nm then some x else m nmj) = some y; rw [if_neg (inj h2 hji)]; exact q2⟩
      · exact .inr q
  · obtain ⟨a, ha⟩ := (SO.cell nm (by unfold isCell; rw [hs])).2
    obtain ⟨p, o, v₀, hp, hcs, hd⟩ := F.cells.at ha
    have hmem : (a, o) ∈ d.kp ++ cs := List.mem_append_right _ (List.mem_of_getElem? hcs)
    refine wpAny_storeName_cell hk hkc ha ⟨o, (F.led.news (a, o) (List.mem_append_left _ hmem)).1, hd⟩ fun h' hv' hs' => ?_
    obtain ⟨o', ho', hd'⟩ := hv'
    have sp : cs = cs.take p ++ (a, o) :: cs.drop (p + 1) := split_at hcs
    have sp' : cs.set p (a, o') = cs.take p ++ (a, o') :: cs.drop (p + 1) := set_split hcs
    have l' : (d.cx m (cs.set p (a, o'))).led S os σ h' := by
      have l := F.led
      show Led S d.h₀ d.L m d.fs (d.kp ++ cs.set p (a, o')) os σ h'
      rw [sp', ← List.append_assoc]
      refine Led.kset (x := o) ?_ hs' ho'
      rw [List.append_assoc, ← sp]; exact l
    have ndc := nd_parts F.led
    have mem' : ∀ {b : Addr} {ob : Obj}, b ≠ a → (b, ob) ∈ d.kp ++ cs → (b, ob) ∈ d.kp ++ cs.set p (a, o') := by
      intro b ob hb hm
      rcases List.mem_append.mp hm with hm | hm
      · exact List.mem_append_left _ hm
      · refine List.mem_append_right _ ?_
        rw [sp'] ; rw [sp] at hm
        simp only [List.mem_append, List.mem_cons] at hm ⊢
        rcases hm with hm | hm | hm
        · exact .inl hm
        · cases hm; exact absurd rfl hb
        · exact .inr (.inr hm)
    refine hQ m (cs.set p (a, o')) h' s.toks ⟨fun j w nmj h1 h2 h3 => ?_, ⟨?_, F.cells.nd⟩, l'⟩
    · by_cases hji : j = i
      · subst hji
        rw [upd_eq] at h1; cases h1
        rw [hn] at h2; cases h2
        refine ⟨x, .inr ⟨.inl hkc, a, o', ha, List.mem_append_right _ ?_, hd'⟩, hv⟩
        rw [sp']; simp
      · rw [upd_ne hji] at h1
        obtain ⟨y, h4, h5⟩ := F.vars j w nmj h1 h2 h3
        refine ⟨y, ?_, h5⟩
        rcases h4 with q | ⟨q1, b, ob, q2, q3, q4⟩
        · exact .inl q
        · refine .inr ⟨q1, b, ob, q2, mem' (fun q => ?_) q3, q4⟩
          subst q
          obtain ⟨p', _, _, hp', hcs', _⟩ := F.cells.at q2
          have e1 : (adr cs)[p]? = some b := by simp [adr, hcs]
          have e2 : (adr cs)[p']? = some b := by simp [adr, hcs']
          have : p = p' := (List.getElem?_inj (List.getElem?_eq_some_iff.mp e1).1 ndc.1).mp (e1.trans e2.symm)
          subst this
          rw [hp] at hp'; cases hp'
          exact inj h2 hji rfl
    · have := F.cells.all.set (a := (nm, a)) (b := (a, o')) ⟨rfl, some x, hd'⟩ p
      have e : d.env.cells.set p (nm, a) = d.env.cells := set_self hp
      rwa [e] at this
end

section
variable {d : Dx} {sc : Scope} {n : Nat}
noncomputable def StoreOK (sc : Scope) (env : Env) (nm : Str) : Prop := sc.names.lookup nm = some .local ∨ (sc.names.lookup nm = some .cell ∧ env.kindOf nm = some .cell)

theorem sx_asg_var (nd : S.T.Nodup) (SO : ScOK sc d.env) (hk : d.env.scope.kind = .function) (hloc : d.env.locals = d.L) {v : Expr} {nm : Str} {px pos : Pos} {i : Nat} {x : Loc → X V} (hn : S.T[i]? = some nm) (hs : StoreOK sc d.env nm)
    (hsw : swapsWith v (some (.Name nm px)) pos.line d.env = pure false) (hx : ∀ m cs ρ loc, VarsOK S (d.cx m cs) sc ρ loc → SM S (d.cx m cs) ρ VR (eval v d.env) (x loc)) :
    SX S d sc (exec (.Assign [.Name nm px] v pos) d.env) (fun loc h => onX (x loc) loc (fun v h₁ => some (.ok none, loc.upd i v, h₁)) h) := by
  intro loc m cs os σ s r loc' σ' F e Q E hQ
  refine wpAny_Assign_Name (sx_on F (hx _ _ _ _ F.vars) e fun b σ₁ e2 os₁ h₁ tk a k F₁ hr => ?_) hsw
  cases e2
  exact store_var nd SO hk hloc (s := { s with heap := h₁, toks := tk }) F₁ hn hs hr fun m' cs' h' tk' F' => hQ m' cs' os₁ h' tk' k F'

theorem assign_arm {t v : Expr} {pos : Pos} {env : Env} (hs : swapsWith v (some t) pos.line env = pure false) (hw : swappedStores [t] v env = pure none) (he : (assignEach [t] env).map (·.2) = [assign t env]) {M : Model} {A : Around} {E : Value → Shared → Prop} {s : Shared} {Q : Flow → Shared → Prop}
    (h : wpAny M A (eval v env) (fun x s₁ => wpAny M A (assign t env x) (fun _ => Q .next) E s₁) E s) : wpAny M A (exec (.Assign [t] v pos) env) Q E s := by
  refine wpAny_Assign_stores (wpAny_mono h (fun x s₁ h₁ => ?_) fun _ _ y => y) hs hw
  rw [he]; exact h₁
theorem swap_attr {v o : Expr} {nm : Str} {p : Pos} {line : Nat} {env : Env} : swapsWith v (some (.Attribute o nm p)) line env = pure false := by cases v <;> rfl
theorem swap_sub {v o i : Expr} {p : Pos} {line : Nat} {env : Env} : swapsWith v (some (.Subscript o i p)) line env = pure false := by cases v <;> rfl
theorem stores_attr {v o : Expr} {nm : Str} {p : Pos} {env : Env} : swappedStores [.Attribute o nm p] v env = pure none := by cases v <;> rfl
theorem stores_sub {v o i : Expr} {p : Pos} {env : Env} : swappedStores [.Subscript o i p] v env = pure none := by cases v <;> rfl

theorem sx_asg_attr (TV : TabOK S) (K : ∀ m cs, CtxOK S n (d.cx m cs)) {v o : Expr} {nm : Str} {px pos : Pos} {i : Nat} {x y : Loc → X V} (hn : S.T[i]? = some nm)
    (hx : ∀ m cs ρ loc, VarsOK S (d.cx m cs) sc ρ loc → SM S (d.cx m cs) ρ VR (eval v d.env) (x loc)) (hy : ∀ m cs ρ loc, VarsOK S (d.cx m cs) sc ρ loc → SM S (d.cx m cs) ρ VR (eval o d.env) (y loc)) :
    SX S d sc (exec (.Assign [.Attribute o nm px] v pos) d.env) (fun loc h => onX (x loc) loc (fun v h₁ => onX (y loc) loc (fun ov h₂ => onX (setAttr S.P ov i v) loc (fun _ h₃ => some (.ok none, loc, h₃)) h₂) h₁) h) := by
  intro loc m cs os σ s r loc' σ' F e Q E hQ
  refine assign_arm swap_attr stores_attr rfl (sx_on F (hx _ _ _ _ F.vars) e fun b σ₁ e2 os₁ h₁ tk a k F₁ hr => ?_)
  rw [arm_assign_Attribute]
  refine wpAny_bind (wpAny_holding (sx_on (s := { s with heap := h₁, toks := tk }) F₁ (hy _ _ _ _ F₁.vars) e2 fun ob σ₂ e3 os₂ h₂ tk₂ oa k₂ F₂ hr₂ => wpAny_bind (wpAny_standAt (wpAny_bind (wpAny_holding ?_)))))
  refine sx_on (s := { s with heap := h₂, toks := tk₂ }) F₂ (sm_setAttr TV (K m cs).kin hn hr₂ (hr.mono k₂)) e3 fun _ σ₃ e4 os₃ h₃ tk₃ _ k₃ F₃ _ => wpAny_release' ?_
  cases e4
  exact hQ m cs os₃ h₃ tk₃ (k.trans (k₂.trans k₃)) F₃
theorem sx_asg_sub {v o j : Expr} {px pos : Pos} {x y z : Loc → X V}
    (hx : ∀ m cs ρ loc, VarsOK S (d.cx m cs) sc ρ loc → SM S (d.cx m cs) ρ VR (eval v d.env) (x loc)) (hy : ∀ m cs ρ loc, VarsOK S (d.cx m cs) sc ρ loc → SM S (d.cx m cs) ρ VR (eval o d.env) (y loc)) (hz : ∀ m cs ρ loc, VarsOK S (d.cx m cs) sc ρ loc → SM S (d.cx m cs) ρ VR (eval j d.env) (z loc)) :
    SX S d sc (exec (.Assign [.Subscript o j px] v pos) d.env) (fun loc h => onX (x loc) loc (fun v h₁ => onX (y loc) loc (fun ov h₂ => onX (z loc) loc (fun iv h₃ => onX (setItem S.P ov iv v) loc (fun _ h₄ => some (.ok none, loc, h₄)) h₃) h₂) h₁) h) := by
  intro loc m cs os σ s r loc' σ' F e Q E hQ
  refine assign_arm swap_sub stores_sub rfl (sx_on F (hx _ _ _ _ F.vars) e fun b σ₁ e2 os₁ h₁ tk a k F₁ hr => ?_)
  rw [arm_assign_Subscript]
  refine wpAny_bind (wpAny_holding (sx_on (s := { s with heap := h₁, toks := tk }) F₁ (hy _ _ _ _ F₁.vars) e2 fun ob σ₂ e3 os₂ h₂ tk₂ oa k₂ F₂ hr₂ => wpAny_bind (wpAny_holding ?_)))
  refine sx_on (s := { s with heap := h₂, toks := tk₂ }) F₂ (hz _ _ _ _ F₂.vars) e3 fun jb σ₃ e4 os₃ h₃ tk₃ ja k₃ F₃ hr₃ => wpAny_bind (wpAny_standAt (wpAny_bind (wpAny_holding ?_)))
  refine sx_on (s := { s with heap := h₃, toks := tk₃ }) F₃ (sm_setItem (hr₂.mono k₃) hr₃ (hr.mono (k₂.trans k₃))) e4 fun _ σ₄ e5 os₄ h₄ tk₄ _ k₄ F₄ _ => wpAny_release' ?_
  cases e5
  exact hQ m cs os₄ h₄ tk₄ (k.trans (k₂.trans (k₃.trans k₄))) F₄

theorem sx_for (nd : S.T.Nodup) (SO : ScOK sc d.env) (hk : d.env.scope.kind = .function) (hloc : d.env.locals = d.L) (hh : d.A.handled = none) {it : Expr} {nm : Str} {px pos : Pos} {b : List Stmt} {i : Nat} {x : Loc → X V} {y : XS} (hn : S.T[i]? = some nm) (hs : StoreOK sc d.env nm) (hset : isSet it = false)
    (hx : ∀ m cs ρ loc, VarsOK S (d.cx m cs) sc ρ loc → SM S (d.cx m cs) ρ VR (eval it d.env) (x loc)) (hy : ∀ kp', SX S { d with kp := kp' } sc (execs b d.env) y) :
    SX S d sc (exec (.For (.Name nm px) it b [] pos) d.env) (fun loc h => onX (x loc) loc (fun v h₁ => match iterOf v h₁ with | none => none | some vs => forL v [i] false y h₁ vs loc h₁) h) := by
  intro loc m cs os σ s r loc' σE F e Q E hQ
  refine wpAny_For (sx_on F (hx _ _ _ _ F.vars) e fun v σ₁ e2 os₁ h₁ tk xv k F₁ hv => ?_) (not_set hset d.env)
  cases hi : iterOf v σ₁ with
  | none => rw [hi] at e2; cases e2
  | some vs =>
    rw [hi] at e2
    dsimp only at e2
    refine it_new (s := { s with heap := h₁, toks := tk }) F₁.led List.prefix_rfl hv hi fun I o₀ h₂ l₂ it₂ => ?_
    have l₂' : Led S d.h₀ d.L m d.fs (d.kp ++ (I, o₀) :: cs) os₁ σ₁ h₂ := l₂.kperm (by simpa using (List.perm_append_comm (l₁ := cs) (l₂ := [(I, o₀)])).append_left d.kp)
    refine codeAny_forLoop (fun kk s' => ∃ h' tk' os' σ' m' cs' l' o j, s' = { s with heap := h', toks := tk' } ∧ adr os₁ <+: adr os' ∧ VarsOK S (d.cx m' cs') sc (adr os') l' ∧ CellsOK d.env cs' ∧ Led S d.h₀ d.L m' d.fs (d.kp ++ (I, o) :: cs') os' σ' h' ∧
        ItAt h' I (adr os') v σ' j ∧ still v σ₁ σ' = true ∧ forL v [i] false y σ₁ (vs.drop j) l' σ' = some (r, loc', σE) ∧ j ≤ vs.length ∧ kk = vs.length + 1 - j) ?_ (vs.length + 1)
      ⟨h₂, tk, os₁, σ₁, m, cs, loc, o₀, 0, rfl, List.prefix_rfl, F₁.vars, F₁.cells, l₂', it₂, still_refl v σ₁, by simpa using e2, Nat.zero_le _, rfl⟩
    rintro kk s' ⟨h', tk', os', σ', m', cs', l', o, j, rfl, k', V', C', L', it', st, hL', hj, rfl⟩
    have hi' : iterOf v σ' = some vs := (still_iter st).trans hi
    cases hvj : vs[j]? with
    | none =>
      have hjv : vs.length ≤ j := List.getElem?_eq_none_iff.mp hvj
      rw [List.drop_eq_nil_of_le hjv] at hL'
      cases hL'
      refine it_done (s := { s with heap := h', toks := tk' }) hh L' it' hi' hvj fun h₄ l₄ => ?_
      exact wpAny_execs_nil (hQ m' cs' os' h₄ tk' (k.trans k') ⟨V', C', l₄⟩)
    | some yv =>
      obtain ⟨hjl, hjy⟩ := List.getElem?_eq_some_iff.mp hvj
      rw [List.drop_eq_getElem_cons hjl, hjy] at hL'
      unfold forL at hL'
      have hb : bindTg [i] false yv l' σ' = some (l'.upd i yv) := rfl
      rw [hb] at hL'
      dsimp only at hL'
      refine it_next (s := { s with heap := h', toks := tk' }) L' it' hi' hvj fun o' h₄ tk₄ xw l₄ it₄ hxw => ?_
      have l₄' : ({ d with kp := d.kp ++ (I, o') :: [] }.cx m' cs').led S os' σ' h₄ := by
        show Led S d.h₀ d.L m' d.fs ((d.kp ++ (I, o') :: []) ++ cs') os' σ' h₄
        simpa using l₄
      have Vk : VarsOK S ({ d with kp := d.kp ++ (I, o') :: [] }.cx m' cs') sc (adr os') l' := by
        intro a w nma h1 h2 h3
        obtain ⟨z, q, hz⟩ := V' a w nma h1 h2 h3
        refine ⟨z, ?_, hz⟩
        rcases q with q | ⟨q1, b, ob, q2, q3, q4⟩
        · exact .inl q
        · refine .inr ⟨q1, b, ob, q2, ?_, q4⟩
          simp only [List.mem_append] at q3 ⊢
          rcases q3 with q3 | q3
          · exact .inl (.inl q3)
          · exact .inr q3
      refine wpAny_assign_Name (store_var (d := { d with kp := d.kp ++ (I, o') :: [] }) nd SO hk hloc (s := { s with heap := h₄, toks := tk₄ }) ⟨Vk, C', l₄'⟩ hn hs hxw fun m₅ cs₅ h₅ tk₅ F₅ => ?_)
      have memI : ∀ {hh : Heap} {oo : List (Addr × Obj)} {ss : H} {mm : Str → Option Value} {cc : List (Addr × Obj)}, ({ d with kp := d.kp ++ (I, o') :: [] }.cx mm cc).led S oo ss hh → hh.get? I = some o' := fun l => (l.news (I, o') (by simp)).1
      cases hq : y (l'.upd i yv) σ' with
      | none => rw [hq] at hL'; cases hL'
      | some p =>
        obtain ⟨rr, l₆, σ₆⟩ := p
        rw [hq] at hL'
        refine hy (d.kp ++ (I, o') :: []) (l'.upd i yv) m₅ cs₅ os' σ' { s with heap := h₅, toks := tk₅ } rr l₆ σ₆ F₅ hq _ _ fun m₆ cs₆ os₆ h₆ tk₆ k₆ F₆ => ?_
        have L₆ : Led S d.h₀ d.L m₆ d.fs (d.kp ++ (I, o') :: cs₆) os₆ σ₆ h₆ := by
          have this : Led S d.h₀ d.L m₆ d.fs ((d.kp ++ (I, o') :: []) ++ cs₆) os₆ σ₆ h₆ := F₆.led
          simpa using this
        have V₆ : VarsOK S (d.cx m₆ cs₆) sc (adr os₆) l₆ := vars_kp (d := { d with kp := d.kp ++ (I, o') :: [] }) (kp' := d.kp) F₆
        cases rr with
        | err q => exact fun _ f => f.elim
        | ok ov =>
          cases ov with
          | none =>
            dsimp only at hL'
            split at hL'
            · rename_i hst
              refine ⟨vs.length + 1 - (j + 1), by lia, h₆, tk₆, os₆, σ₆, m₆, cs₆, l₆, o', j + 1, rfl, k'.trans k₆, V₆, F₆.cells, L₆, it₄.at (fun ob q => ?_) k₆ (still_trans (still_sym st) hst), hst, hL', hjl, rfl⟩
              rw [memI l₄'] at q; cases q; exact memI F₆.led
            · cases hL'
          | some w =>
            cases hL'
            exact hQ m₆ cs₆ os₆ h₆ tk₆ (k.trans (k'.trans k₆)) ⟨V₆, F₆.cells, L₆.kdrop⟩
end
end Mine

set_option autoImplicit false
namespace Mine
open PySem PySem.W PySem.Calls PyProof.Rows
variable {S : Sig}

theorem Led.kadd {h₀ h : Heap} {L : Addr} {m : Str → Option Value} {fs : Fs} {kp os : List (Addr × Obj)} {σ : H} (l : Led S h₀ L m fs kp os σ h) {q : Addr} {x : Obj} (hx : h.get? q = some x) (q1 : q ≠ L) (q2 : h₀.get? q = none) (q3 : q ∉ adr (kp ++ os)) (q4 : ∀ f ∈ fs, f.1 ≠ q) (hq : mainGlobals < q) :
    Led S h₀ L m fs (kp ++ (q, x) :: []) os σ h := by
  have mem : ∀ p, p ∈ (kp ++ (q, x) :: []) ++ os → p = (q, x) ∨ p ∈ kp ++ os := fun p hp => by
    have := mid_mem hp
    rwa [List.append_nil] at this
  refine ⟨l.fr, fun p hp => ?_, ?_, l.objs, fun f hf => ⟨(l.outs f hf).1, (l.outs f hf).2.1, (l.outs f hf).2.2.1, fun hm => ?_⟩, l.top, fun b hb => ?_, l.frz⟩
  · rcases mem p hp with rfl | hp
    · exact ⟨hx, q1, q2⟩
    · exact l.news p hp
  · have nd := l.nd
    unfold adr at nd q3 ⊢
    rw [List.map_append] at nd q3
    obtain ⟨n1, n2, n3⟩ := List.nodup_append.mp nd
    rw [List.append_assoc, List.map_append, List.cons_append, List.nil_append, List.map_cons]
    refine List.nodup_append.mpr ⟨n1, List.nodup_cons.mpr ⟨fun e => q3 (List.mem_append_right _ e), n2⟩, fun b hb d hd e => ?_⟩
    rcases List.mem_cons.mp hd with rfl | hd
    · exact q3 (List.mem_append_left _ (e ▸ hb))
    · exact n3 b hb d hd e
  · obtain ⟨p, hp, e⟩ := List.mem_map.mp hm
    rcases mem p hp with rfl | hp
    · exact q4 f hf e.symm
    · exact (l.outs f hf).2.2.2 (e ▸ List.mem_map_of_mem hp)
  · obtain ⟨p, hp, rfl⟩ := List.mem_map.mp hb
    rcases mem p hp with rfl | hp
    · exact notMods hq
    · exact l.big _ (List.mem_map_of_mem hp)
theorem Led.leaveK {h₀ h : Heap} {L C : Addr} {m mC : Str → Option Value} {fs : Fs} {kp os : List (Addr × Obj)} {σ : H} (l : Led S h₀ C mC ((L, m) :: fs) kp os σ h) (ab : h₀.objs.size ≤ L) (ne : ∀ f ∈ fs, f.1 ≠ L) :
    ∃ oC, NsObj oC mC ∧ Led S h₀ L m fs (kp ++ (C, oC) :: []) os σ h := by
  obtain ⟨oC, hC, hN⟩ := ns_obj l.fr.ns
  have l' := l.leave ab ne (h' := h) fun b o _ e => e
  refine ⟨oC, hN, l'.kadd hC (Ne.symm (l.outs _ (.head _)).2.1) (none_above l.fr) (fun hm => ?_) (fun f hf => (l.outs f (.tail _ hf)).2.1) ?_⟩
  · obtain ⟨p, hp, e⟩ := List.mem_map.mp hm
    exact (l.news p hp).2.1 e
  · obtain ⟨o, ho⟩ := l.top
    exact Nat.lt_of_lt_of_le (Heap.lt_size ho) l.fr.above

section
variable {d : Dx} {sc sc' : Scope} {n : Nat}
theorem sx_asg_used (nd : S.T.Nodup) (SO : ScOK sc d.env) (K : ∀ m cs, CtxOK S n (d.cx m cs)) {nm nm' : Str} {px q pos pos' : Pos} {i i' : Nat} {ite elt : Expr} {ifs : List Expr} (hn : S.T[i]? = some nm) (hs : StoreOK sc d.env nm)
    (hsw : swapsWith (.ListComp elt [⟨.Name nm' q, ite, ifs, 0⟩] sc' pos') (some (.Name nm px)) pos.line d.env = pure true)
    (hn' : S.T[i']? = some nm') (hsc : compScope S.nam sc sc' nm' = true) (hset : isSet ite = false) {xi : Loc → X V} {t : Loc → X Bool} {e : Loc → X V}
    (hit : ∀ m cs ρ loc, VarsOK S (d.cx m cs) sc ρ loc → SM S (d.cx m cs) ρ VR (eval ite d.env) (xi loc))
    (ht : ∀ (c' : Cx) (ρ' : List Addr) (loc' : Loc), CtxOK S n c' → ScOK sc' c'.env → VarsOK S c' sc' ρ' loc' → SM S c' ρ' EqR (condTree ifs c'.env) (t loc'))
    (he : ∀ (c' : Cx) (ρ' : List Addr) (loc' : Loc), CtxOK S n c' → ScOK sc' c'.env → VarsOK S c' sc' ρ' loc' → SM S c' ρ' VR (eval elt c'.env) (e loc')) :
    SX S d sc (exec (.Assign [.Name nm px] (.ListComp elt [⟨.Name nm' q, ite, ifs, 0⟩] sc' pos') pos) d.env)
      (fun loc h => onX (X.bind (xi loc) fun v => fun h => match iterOf v h with | none => none | some vs => X.bind (compL v [i'] false t e loc h vs) (fun ws => alloc (.list ws)) h) loc (fun v h₁ => some (.ok none, loc.upd i v, h₁)) h) := by
  intro loc m cs os σ s r loc' σ' F ee Q E hQ
  rw [exec_Assign_Name_used _ _ _ _ hsw]
  refine wpAny_bind (wpAny_standAt (wpAny_bind ?_))
  show wpAny _ d.A (do let _ ← comprehension (.ListComp elt [⟨.Name nm' q, ite, ifs, 0⟩] sc' pos') sc' d.env _ (newList []) false (eval ite d.env) (some (assign (.Name nm px) d.env))) _ _ s
  have fin : ∀ (rr : R V), X.bind (xi loc) (fun v => fun h => match iterOf v h with | none => none | some vs => X.bind (compL v [i'] false t e loc h vs) (fun ws => alloc (.list ws)) h) σ = some (rr, σ') → (∀ b, rr = .ok b → r = .ok none ∧ loc' = loc.upd i b) →
      wpAny (model S.prog S.w) d.A (comprehension (.ListComp elt [⟨.Name nm' q, ite, ifs, 0⟩] sc' pos') sc' d.env (firstIterPos [⟨.Name nm' q, ite, ifs, 0⟩] pos') (newList []) false (eval ite d.env) (some (assign (.Name nm px) d.env))) (fun _ s' => Q .next s') E s := by
    intro rr hx hrr
    refine comp_run (c := d.cx m cs) (K m cs) SO F.vars nd hn' hsc hset (hit _ _ _ _ F.vars) ht he List.prefix_rfl F.led hx (use := some (assign (.Name nm px) d.env)) (Q := fun _ s' => Q .next s') fun b hb os₁ h₁ tk₁ C mC D k₁ l₁ hD => ?_
    obtain ⟨rfl, rfl⟩ := hrr b hb
    obtain ⟨oC, hN, l₂⟩ := l₁.leaveK F.led.fr.above fun f hf => (F.led.outs f hf).2.1
    have l₃ : ({ d with kp := d.kp ++ (C, oC) :: [] }.cx m cs).led S os₁ σ' h₁ := by
      show Led S d.h₀ d.L m d.fs ((d.kp ++ (C, oC) :: []) ++ cs) os₁ σ' h₁
      refine l₂.kperm ?_
      have := (List.perm_append_comm (l₁ := cs) (l₂ := [(C, oC)])).append_left d.kp
      simpa using this
    have V₃ : VarsOK S ({ d with kp := d.kp ++ (C, oC) :: [] }.cx m cs) sc (adr os₁) loc := by
      have := vars_kp (kp' := d.kp ++ (C, oC) :: []) F
      exact this.mono k₁
    show wpAny _ d.A (assign (.Name nm px) d.env (.ref D)) _ _ _
    refine wpAny_assign_Name (store_var (d := { d with kp := d.kp ++ (C, oC) :: [] }) nd SO (K m cs).kind (K m cs).locs (s := { s with heap := h₁, toks := tk₁ }) ⟨V₃, F.cells, l₃⟩ hn hs hD fun m₅ cs₅ h₅ tk₅ F₅ => ?_)
    have L₅ : Led S d.h₀ d.L m₅ d.fs (d.kp ++ (C, oC) :: cs₅) os₁ σ' h₅ := by
      have this : Led S d.h₀ d.L m₅ d.fs ((d.kp ++ (C, oC) :: []) ++ cs₅) os₁ σ' h₅ := F₅.led
      simpa using this
    refine ⟨mC, hN.ns L₅.kmid.1, fun h₆ hs₆ => ?_⟩
    exact hQ m₅ cs₅ os₁ h₆ tk₅ k₁ ⟨vars_kp (d := { d with kp := d.kp ++ (C, oC) :: [] }) (kp' := d.kp) F₅, F₅.cells, L₅.extBut hs₆.extBut⟩
  rcases onX_inv ee with ⟨b, σ₁, e1, e2⟩ | ⟨k, e1, rfl, rfl⟩
  · cases e2
    refine wpAny_bind (wpAny_mono (fin _ e1 fun b' hb => ?_) (fun _ s' hq => wpAny_pure (wpAny_pure hq)) fun _ _ z => z)
    cases hb; exact ⟨rfl, rfl⟩
  · exact wpAny_bind (wpAny_mono (fin _ e1 fun b' hb => by cases hb) (fun _ s' hq => wpAny_pure (wpAny_pure hq)) fun _ _ z => z)
end

noncomputable def storable (sc : Scope) (nm : Str) : Bool := match sc.names.lookup nm with
  | some .local => true
  | some .cell => true
  | _ => false
/- parts of statements -/
noncomputable def tagS : Stmt → Nat
  | .FunctionDef .. => 0 | .AsyncFunctionDef .. => 1 | .ClassDef .. => 2 | .Return .. => 3 | .Delete .. => 4 | .Assign .. => 5 | .TypeAlias .. => 6 | .AugAssign .. => 7 | .AnnAssign .. => 8 | .For .. => 9 | .AsyncFor .. => 10 | .While .. => 11 | .If .. => 12 | .With .. => 13 | .AsyncWith .. => 14
  | .Match .. => 15 | .Raise .. => 16 | .Try .. => 17 | .TryStar .. => 18 | .Assert .. => 19 | .Import .. => 20 | .ImportFrom .. => 21 | .Global .. => 22 | .Nonlocal .. => 23 | .Expr .. => 24 | .Pass .. => 25 | .Break .. => 26 | .Continue .. => 27
set_option genInjectivity false in
structure Ps where
  x : Expr
  y : Expr
  ts : List Expr
  a : List Stmt
  b : List Stmt
  v : Option Expr
  pos : Pos
noncomputable def noE : Expr := .Name "" noPos
noncomputable def ptS (t : Stmt) : Ps := match t with
  | .Return v p => ⟨noE, noE, [], [], [], v, p⟩
  | .Assign ts v p => ⟨v, v, ts, [], [], none, p⟩
  | .For g e a b p => ⟨g, e, [], a, b, none, p⟩
  | .While e a b p => ⟨e, e, [], a, b, none, p⟩
  | .If e a b p => ⟨e, e, [], a, b, none, p⟩
  | .Expr v p => ⟨v, v, [], [], [], none, p⟩
  | .Pass p => ⟨noE, noE, [], [], [], none, p⟩
  | _ => ⟨noE, noE, [], [], [], none, noPos⟩
noncomputable def isTS (t : Stmt) (n : Nat) : Bool := decide (tagS t = n)
noncomputable def ckT (N : Nam) (sc : Scope) (t : Tg) (x : Expr) : Bool := match t with
  | .var i => isT x 23 && (nameIs N i (ptE x).nm && storable sc (ptE x).nm)
  | .attr o i => isT x 20 && (nameIs N i (ptE x).nm && ckE N sc o (ptE x).x)
  | .sub o i => isT x 21 && (ckE N sc o (ptE x).x && ckE N sc i (ptE x).y)
mutual
noncomputable def ckS (N : Nam) (sc : Scope) : St → Stmt → Bool
  | .expr e, t => isTS t 24 && (!isComp (ptS t).x && ckE N sc e (ptS t).x)
  | .asg g e, t => isTS t 5 && onO (one (ptS t).ts) fun x => ckT N sc g x && ckE N sc e (ptS t).x
  | .ite c a b, t => isTS t 12 && (ckE N sc c (ptS t).x && (ckSs N sc a (ptS t).a && ckSs N sc b (ptS t).b))
  | .whl c b, t => isTS t 11 && (nil? (ptS t).b && (ckE N sc c (ptS t).x && ckSs N sc b (ptS t).a))
  | .for tg tup e b, t => isTS t 9 && onO (one tg) fun i => isT (ptS t).x 23 && (!tup && (nil? (ptS t).b && (nameIs N i (ptE (ptS t).x).nm && (storable sc (ptE (ptS t).x).nm && (!isSet (ptS t).y && (ckE N sc e (ptS t).y && ckSs N sc b (ptS t).a))))))
  | .ret e, t => isTS t 3 && onO (ptS t).v fun v => ckE N sc e v
  | .ret0, t => isTS t 3 && (ptS t).v.isNone
  | .pass, t => isTS t 25
  | .rais _ _, t => isTS t 16
  | .try _ _, _ => false
termination_by structural x => x
noncomputable def ckSs (N : Nam) (sc : Scope) : Sts → List Stmt → Bool
  | .nil, xs => nil? xs
  | .cons s ss, xs => match xs with
    | x :: xs => ckS N sc s x && ckSs N sc ss xs
    | [] => false
termination_by structural x => x
end

end Mine

set_option autoImplicit false
namespace Mine
open PySem PySem.W PySem.Calls PyProof.Rows
variable {S : Sig}

theorem store_ok {env : Env} {nm : Str} (h : storable env.scope nm = true) : StoreOK env.scope env nm := by
  unfold storable at h
  split at h
  · rename_i e; exact .inl e
  · rename_i e; exact .inr ⟨e, e⟩
  · cases h
theorem ctx_kp {n : Nat} {d : Dx} (K : ∀ m cs, CtxOK S n (d.cx m cs)) (kp' : List (Addr × Obj)) : ∀ m cs, CtxOK S n ({ d with kp := kp' }.cx m cs) := fun m cs =>
  let k := K m cs; ⟨k.hand, k.units, k.depth, k.kin, k.top, k.lim, k.kind, k.glob, k.blt, k.locs⟩
theorem swap_pure {v : Expr} {nm : Str} {p : Pos} {line : Nat} {env : Env} : ∃ b, swapsWith v (some (.Name nm p)) line env = pure b ∧ (isComp v = false → b = false) := by
  cases v <;> exact ⟨_, rfl, fun h => by first | rfl | cases h⟩

section
variable {N : Nam} {sc : Scope}
noncomputable def rebS (n : Nat) (t : Stmt) : Stmt := match n with
  | 24 => .Expr (ptS t).x (ptS t).pos
  | 5 => .Assign (ptS t).ts (ptS t).x (ptS t).pos
  | 12 => .If (ptS t).x (ptS t).a (ptS t).b (ptS t).pos
  | 11 => .While (ptS t).x (ptS t).a (ptS t).b (ptS t).pos
  | 9 => .For (ptS t).x (ptS t).y (ptS t).a (ptS t).b (ptS t).pos
  | 3 => .Return (ptS t).v (ptS t).pos
  | 25 => .Pass (ptS t).pos
  | _ => t
theorem stm_all (t : Stmt) : t = rebS (tagS t) t := by cases t <;> rfl
theorem stm_of {t : Stmt} {n : Nat} (h : isTS t n = true) : t = rebS n t := by
  have h2 := stm_all t
  rw [dec_t h] at h2
  exact h2
theorem u_expr {t : Stmt} (h : isTS t 24 = true) : t = .Expr (ptS t).x (ptS t).pos := stm_of h
theorem u_asg {t : Stmt} (h : isTS t 5 = true) : t = .Assign (ptS t).ts (ptS t).x (ptS t).pos := stm_of h
theorem u_if {t : Stmt} (h : isTS t 12 = true) : t = .If (ptS t).x (ptS t).a (ptS t).b (ptS t).pos := stm_of h
theorem u_while {t : Stmt} (h : isTS t 11 = true) : t = .While (ptS t).x (ptS t).a (ptS t).b (ptS t).pos := stm_of h
theorem u_for {t : Stmt} (h : isTS t 9 = true) : t = .For (ptS t).x (ptS t).y (ptS t).a (ptS t).b (ptS t).pos := stm_of h
theorem u_ret {t : Stmt} (h : isTS t 3 = true) : t = .Return (ptS t).v (ptS t).pos := stm_of h
theorem u_pass {t : Stmt} (h : isTS t 25 = true) : t = .Pass (ptS t).pos := stm_of h
theorem cs_expr {e : Ex} {t : Stmt} (h : ckS N sc (.expr e) t = true) : ∃ v p, t = .Expr v p ∧ isComp v = false ∧ ckE N sc e v = true := by
  obtain ⟨h1, h2⟩ := and_t (show (_ && _) = true from h)
  obtain ⟨g1, g2⟩ := and_t h2
  exact ⟨_, _, u_expr h1, not_t g1, g2⟩
theorem cs_asg {tg : Tg} {e : Ex} {t : Stmt} (h : ckS N sc (.asg tg e) t = true) : ∃ x v p, t = .Assign [x] v p ∧ ckT N sc tg x = true ∧ ckE N sc e v = true := by
  obtain ⟨h1, h2⟩ := and_t (show (_ && _) = true from h)
  obtain ⟨x, h3, h2⟩ := onO_eq h2
  obtain ⟨g1, g2⟩ := and_t h2
  exact ⟨x, _, _, by rw [← one_eq h3] <;> exact u_asg h1, g1, g2⟩
theorem cs_ite {c : Ex} {a b : Sts} {t : Stmt} (h : ckS N sc (.ite c a b) t = true) : ∃ e x y p, t = .If e x y p ∧ ckE N sc c e = true ∧ ckSs N sc a x = true ∧ ckSs N sc b y = true := by
  obtain ⟨h1, h2⟩ := and_t (show (_ && _) = true from h)
  obtain ⟨g1, r1⟩ := and_t h2
  obtain ⟨g2, g3⟩ := and_t r1
  exact ⟨_, _, _, _, u_if h1, g1, g2, g3⟩
theorem cs_whl {c : Ex} {b : Sts} {t : Stmt} (h : ckS N sc (.whl c b) t = true) : ∃ e x p, t = .While e x [] p ∧ ckE N sc c e = true ∧ ckSs N sc b x = true := by
  obtain ⟨h1, h2⟩ := and_t (show (_ && _) = true from h)
  obtain ⟨g1, r1⟩ := and_t h2
  obtain ⟨g2, g3⟩ := and_t r1
  exact ⟨_, _, _, by rw [← nil_eq g1] <;> exact u_while h1, g2, g3⟩
theorem cs_for {tg : List Nat} {tup : Bool} {e : Ex} {b : Sts} {t : Stmt} (h : ckS N sc (.for tg tup e b) t = true) : ∃ i nm q it x p, tg = [i] ∧ tup = false ∧ t = .For (.Name nm q) it x [] p ∧ nameIs N i nm = true ∧ storable sc nm = true ∧ isSet it = false ∧ ckE N sc e it = true ∧ ckSs N sc b x = true := by
  obtain ⟨h1, h2⟩ := and_t (show (_ && _) = true from h)
  obtain ⟨i, h3, h2⟩ := onO_eq h2
  obtain ⟨g1, r1⟩ := and_t h2
  obtain ⟨g2, r2⟩ := and_t r1
  obtain ⟨g3, r3⟩ := and_t r2
  obtain ⟨g4, r4⟩ := and_t r3
  obtain ⟨g5, r5⟩ := and_t r4
  obtain ⟨g6, r6⟩ := and_t r5
  obtain ⟨g7, g8⟩ := and_t r6
  exact ⟨i, _, _, _, _, _, one_eq h3, not_t g2, by rw [← nil_eq g3, ← t_name g1] <;> exact u_for h1, g4, g5, not_t g6, g7, g8⟩
theorem cs_ret {e : Ex} {t : Stmt} (h : ckS N sc (.ret e) t = true) : ∃ v p, t = .Return (some v) p ∧ ckE N sc e v = true := by
  obtain ⟨h1, h2⟩ := and_t (show (_ && _) = true from h)
  obtain ⟨w, h3, h2⟩ := onO_eq h2
  exact ⟨w, _, by rw [← h3] <;> exact u_ret h1, h2⟩
theorem cs_ret0  {t : Stmt} (h : ckS N sc .ret0 t = true) : ∃ p, t = .Return none p := by
  obtain ⟨h1, h2⟩ := and_t (show (_ && _) = true from h)
  exact ⟨_, by rw [← Option.isNone_iff_eq_none.mp h2] <;> exact u_ret h1⟩
theorem ct_var {i : Nat} {t : Expr} (h : ckT N sc (.var i) t = true) : ∃ nm p, t = .Name nm p ∧ nameIs N i nm = true ∧ storable sc nm = true := by
  obtain ⟨h1, h2⟩ := and_t (show (_ && _) = true from h)
  obtain ⟨g1, g2⟩ := and_t h2
  exact ⟨_, _, t_name h1, g1, g2⟩
theorem ct_attr {o : Ex} {i : Nat} {t : Expr} (h : ckT N sc (.attr o i) t = true) : ∃ x nm p, t = .Attribute x nm p ∧ nameIs N i nm = true ∧ ckE N sc o x = true := by
  obtain ⟨h1, h2⟩ := and_t (show (_ && _) = true from h)
  obtain ⟨g1, g2⟩ := and_t h2
  exact ⟨_, _, _, t_attr h1, g1, g2⟩
theorem ct_sub {o i : Ex} {t : Expr} (h : ckT N sc (.sub o i) t = true) : ∃ x y p, t = .Subscript x y p ∧ ckE N sc o x = true ∧ ckE N sc i y = true := by
  obtain ⟨h1, h2⟩ := and_t (show (_ && _) = true from h)
  obtain ⟨g1, g2⟩ := and_t h2
  exact ⟨_, _, _, t_sub h1, g1, g2⟩
theorem cs_pass {t : Stmt} (h : ckS N sc .pass t = true) : ∃ p, t = .Pass p := ⟨_, u_pass h⟩
theorem comp_tag {v : Expr} (h : isComp v = true) : 8 ≤ tagE v ∧ tagE v ≤ 11 := by
  have h := and_t h
  exact ⟨Nat.le_of_ble_eq_true h.1, Nat.le_succ_of_le (Nat.le_of_ble_eq_true h.2)⟩
theorem comp_of {e : Ex} {v : Expr} (hc : isComp v = true) (h : ckE N sc e v = true) : ∃ elt tg tup it conds, e = .comp elt tg tup it conds := by
  have h1 := comp_tag hc
  rw [tag_of h] at h1
  cases e <;> first | exact ⟨_, _, _, _, _, rfl⟩ | exact absurd (show 8 ≤ 19 ∧ 19 ≤ 11 from h1) (by decide) | exact absurd (show 8 ≤ 23 ∧ 23 ≤ 11 from h1) (by decide) | exact absurd (show 8 ≤ 2 ∧ 2 ≤ 11 from h1) (by decide) | exact absurd (show 8 ≤ 3 ∧ 3 ≤ 11 from h1) (by decide) | exact absurd (show 8 ≤ 0 ∧ 0 ≤ 11 from h1) (by decide) | exact absurd (show 8 ≤ 15 ∧ 15 ≤ 11 from h1) (by decide) | exact absurd (show 8 ≤ 24 ∧ 24 ≤ 11 from h1) (by decide) | exact absurd (show 8 ≤ 25 ∧ 25 ≤ 11 from h1) (by decide) | exact absurd (show 8 ≤ 6 ∧ 6 ≤ 11 from h1) (by decide) | exact absurd (show 8 ≤ 20 ∧ 20 ≤ 11 from h1) (by decide) | exact absurd (show 8 ≤ 21 ∧ 21 ≤ 11 from h1) (by decide) | exact absurd (show 8 ≤ 16 ∧ 16 ≤ 11 from h1) (by decide)
end

mutual
theorem sx_st (OK : SigOK S) (hxc : S.P.xc = false) {C : Calls} {n : Nat} (HC : CallsOK S C n) (fuel : Nat) (x : St) {d : Dx} {t : Stmt} (K : ∀ m cs, CtxOK S (n + 2) (d.cx m cs)) (SO : ScOK d.env.scope d.env) (h : ckS S.nam d.env.scope x t = true) :
    SX S d d.env.scope (exec t d.env) (ex S.P C fuel x) := by
  match x, h with
  | .expr e, h =>
    obtain ⟨v, p, rfl, h1, h2⟩ := cs_expr h
    exact sx_expr (K (fun _ => none) []).kind h1 fun m cs ρ loc V => sm_ev OK HC e (K m cs) SO V h2
  | .asg (.var i) e, h =>
    obtain ⟨tx, v, pos, rfl, h1, h2⟩ := cs_asg h
    obtain ⟨nm, px, rfl, h3, h4⟩ := ct_var h1
    obtain ⟨b, hb, hb'⟩ := swap_pure (v := v) (nm := nm) (p := px) (line := pos.line) (env := d.env)
    cases b with
    | false => exact sx_asg_var OK.tab.nodup SO (K (fun _ => none) []).kind (K (fun _ => none) []).locs (T_eq h3) (store_ok h4) hb fun m cs ρ loc V => sm_ev OK HC e (K m cs) SO V h2
    | true =>
      have hc : isComp v = true := by
        cases q : isComp v with
        | true => rfl
        | false => exact (Bool.false_ne_true (hb' q).symm).elim
      have hcomp := comp_of hc h2
      obtain ⟨elt, tg, tup, it, conds, rfl⟩ := hcomp
      obtain ⟨i', l, nm', q, ite, ifs, sc', p, rfl, rfl, rfl, g1, g2, g3, g4, g5, g6⟩ := ck_comp h2
      exact sx_asg_used OK.tab.nodup SO K (T_eq h3) (store_ok h4) hb (T_eq g1) g2 g3 (fun m cs ρ loc V => sm_ev OK HC it (K m cs) SO V g4)
        (fun c' ρ' loc' K' SO' V' => sm_conds OK HC conds K' SO' V' g6) (fun c' ρ' loc' K' SO' V' => sm_ev OK HC elt K' SO' V' g5)
  | .asg (.attr o i) e, h =>
    obtain ⟨tx, v, pos, rfl, h1, h2⟩ := cs_asg h
    obtain ⟨y, nm, px, rfl, h3, h4⟩ := ct_attr h1
    exact sx_asg_attr OK.tab K (T_eq h3) (fun m cs ρ loc V => sm_ev OK HC e (K m cs) SO V h2) fun m cs ρ loc V => sm_ev OK HC o (K m cs) SO V h4
  | .asg (.sub o i) e, h =>
    obtain ⟨tx, v, pos, rfl, h1, h2⟩ := cs_asg h
    obtain ⟨y, z, px, rfl, h3, h4⟩ := ct_sub h1
    exact sx_asg_sub (fun m cs ρ loc V => sm_ev OK HC e (K m cs) SO V h2) (fun m cs ρ loc V => sm_ev OK HC o (K m cs) SO V h3) fun m cs ρ loc V => sm_ev OK HC i (K m cs) SO V h4
  | .ite c a b, h =>
    obtain ⟨e, y, z, p, rfl, h1, h2, h3⟩ := cs_ite h
    exact sx_if (fun m cs ρ loc V => sm_tst OK HC c (K m cs) SO V h1 (sm_ev OK HC c (K m cs) SO V h1)) (sx_sts OK hxc HC fuel a K SO h2) (sx_sts OK hxc HC fuel b K SO h3)
  | .whl c b, h =>
    obtain ⟨e, y, p, rfl, h1, h2⟩ := cs_whl h
    exact sx_while (fun m cs ρ loc V => sm_tst OK HC c (K m cs) SO V h1 (sm_ev OK HC c (K m cs) SO V h1)) (sx_sts OK hxc HC fuel b K SO h2)
  | .for tg tup e b, h =>
    obtain ⟨i, nm, q, it, y, p, rfl, rfl, rfl, h1, h2, h3, h4, h5⟩ := cs_for h
    exact sx_for OK.tab.nodup SO (K (fun _ => none) []).kind (K (fun _ => none) []).locs (K (fun _ => none) []).hand (T_eq h1) (store_ok h2) h3 (fun m cs ρ loc V => sm_ev OK HC e (K m cs) SO V h4)
      fun kp' => sx_sts OK hxc HC fuel b (d := { d with kp := kp' }) (ctx_kp K kp') SO h5
  | .ret e, h =>
    obtain ⟨v, p, rfl, h1⟩ := cs_ret h
    exact sx_ret fun m cs ρ loc V => sm_ev OK HC e (K m cs) SO V h1
  | .ret0, h =>
    obtain ⟨p, rfl⟩ := cs_ret0 h
    exact sx_ret0
  | .pass, h =>
    obtain ⟨p, rfl⟩ := cs_pass h
    exact sx_pass
  | .rais c msg, h =>
    intro loc m cs os σ s r loc' σ' F e
    have e : (if S.P.xc = true then some (R.err c, loc, σ) else none) = some (r, loc', σ') := e
    rw [hxc] at e; cases e
  | .try b hs, h => exact nomatch (show false = true from h)
termination_by structural x
theorem sx_sts (OK : SigOK S) (hxc : S.P.xc = false) {C : Calls} {n : Nat} (HC : CallsOK S C n) (fuel : Nat) (x : Sts) {d : Dx} {t : List Stmt} (K : ∀ m cs, CtxOK S (n + 2) (d.cx m cs)) (SO : ScOK d.env.scope d.env) (h : ckSs S.nam d.env.scope x t = true) :
    SX S d d.env.scope (execs t d.env) (exs S.P C fuel x) := by
  match x, t, h with
  | .nil, [], h => exact sx_nil
  | .cons s ss, a :: as, h =>
    have h := and_t (show (_ && _) = true from h)
    exact sx_cons (sx_st OK hxc HC fuel s K SO h.1) (sx_sts OK hxc HC fuel ss K SO h.2)
  | .nil, _ :: _, h => exact nomatch (show false = true from h)
  | .cons _ _, [], h => exact nomatch (show false = true from h)
termination_by structural x
end
end Mine

set_option autoImplicit false
namespace Mine
open PySem PySem.W PySem.Calls PyProof.Rows
variable {S : Sig}

theorem cellsFrom_has {nm : Str} : ∀ (l : List (Str × NameKind)) (n : Nat) (acc : List (Str × Addr)), ((nm, NameKind.cell) ∈ l ∨ ∃ a, (nm, a) ∈ acc) → ∃ a, (nm, a) ∈ cellsFrom n l acc
  | [], n, acc, h => by
    rcases h with h | h
    · cases h
    · exact h
  | (x, k) :: r, n, acc, h => by
    unfold cellsFrom
    split
    · rename_i hk
      refine cellsFrom_has r (n + 1) _ ?_
      rcases h with h | ⟨a, h⟩
      · rcases List.mem_cons.mp h with h | h
        · cases h; exact .inr ⟨n, .head _⟩
        · exact .inl h
      · exact .inr ⟨a, .tail _ h⟩
    · rename_i hk
      refine cellsFrom_has r n acc ?_
      rcases h with h | h
      · rcases List.mem_cons.mp h with h | h
        · cases h; exact absurd rfl hk
        · exact .inl h
      · exact .inr h
theorem lookup_of_mem {α : Type} {nm : Str} : ∀ {l : List (Str × α)}, (∃ a, (nm, a) ∈ l) → ∃ a, l.lookup nm = some a
  | [], h => by obtain ⟨_, h⟩ := h; cases h
  | (x, b) :: r, h => by
    rw [List.lookup_cons]
    split
    · exact ⟨b, rfl⟩
    · rename_i hx
      refine lookup_of_mem ?_
      obtain ⟨a, h⟩ := h
      rcases List.mem_cons.mp h with h | h
      · cases h; simp at hx
      · exact ⟨a, h⟩
theorem lookup_nodup {α : Type} : ∀ {l : List (Str × α)} {n : Str} {a : α}, (l.map (·.1)).Nodup → (n, a) ∈ l → l.lookup n = some a
  | [], _, _, _, h => by cases h
  | (x, b) :: r, n, a, nd, h => by
    rw [List.map_cons, List.nodup_cons] at nd
    rw [List.lookup_cons]
    rcases List.mem_cons.mp h with h | h
    · cases h; simp
    · have : (n == x) = false := by
        refine beq_eq_false_iff_ne.mpr fun q => nd.1 ?_
        rw [← q]; exact List.mem_map.mpr ⟨(n, a), h, rfl⟩
      rw [this]; exact lookup_nodup nd.2 h

theorem scOK_fn {env : Env} {n : Nat} (hcells : env.cells = cellsFrom n env.scope.names []) (hfree : ∀ x ∈ env.scope.names, x.2 ≠ .free) : ScOK env.scope env := by
  refine ⟨fun nm h => h, fun nm h => h, fun nm h => ?_⟩
  unfold isCell at h
  split at h
  · rename_i e
    refine ⟨.inl e, ?_⟩
    rw [hcells]
    exact lookup_of_mem (cellsFrom_has _ _ _ (.inl (PySem.mem_of_lookup e)))
  · rename_i e; exact absurd rfl (hfree _ (PySem.mem_of_lookup e))
  · cases h

theorem loc_of {ps : List Nat} {xs : List V} {i : Nat} {v : V} : ∀ {l₀ : Loc}, (ps.zip xs).foldl (fun l p => l.upd p.1 p.2) l₀ i = some v → l₀ i = some v ∨ ∃ k : Nat, ps[k]? = some i ∧ xs[k]? = some v := by
  induction ps generalizing xs with
  | nil => intro l₀ h; exact .inl h
  | cons p ps ih =>
    intro l₀ h
    cases xs with
    | nil => exact .inl h
    | cons x xs =>
      simp only [List.zip_cons_cons, List.foldl_cons] at h
      rcases ih h with h | ⟨k, h1, h2⟩
      · by_cases hp : i = p
        · subst hp; rw [upd_eq] at h; exact .inr ⟨0, rfl, h⟩
        · rw [upd_ne hp] at h; exact .inl h
      · exact .inr ⟨k + 1, h1, h2⟩
theorem bindL_skip {kd : Str → Option NameKind} {nm : Str} : ∀ {bs : List (Str × Value)} {m : Str → Option Value}, (∀ p ∈ bs, p.1 ≠ nm) → bindL kd bs m nm = m nm
  | [], m, _ => rfl
  | (n, v) :: r, m, h => by
    unfold bindL
    rw [bindL_skip fun p hp => h p (.tail _ hp)]
    split
    · exact if_neg (Ne.symm (h _ (.head _)))
    · rfl
theorem bindC_skip {kd : Str → Option NameKind} {nm : Str} : ∀ {bs : List (Str × Value)} {m : Str → Option Value}, (∀ p ∈ bs, p.1 ≠ nm) → bindC kd bs m nm = m nm
  | [], m, _ => rfl
  | (n, v) :: r, m, h => by
    unfold bindC
    rw [bindC_skip fun p hp => h p (.tail _ hp)]
    split
    · rfl
    · exact if_neg (Ne.symm (h _ (.head _)))
theorem bindL_of {kd : Str → Option NameKind} {nm : Str} {x : Value} (hk : kd nm = some .local) : ∀ {bs : List (Str × Value)} {m : Str → Option Value}, (bs.map (·.1)).Nodup → (nm, x) ∈ bs → bindL kd bs m nm = some x
  | [], m, _, h => by cases h
  | (n, v) :: r, m, nd, h => by
    rw [List.map_cons, List.nodup_cons] at nd
    unfold bindL
    rcases List.mem_cons.mp h with h | h
    · cases h
      rw [bindL_skip fun p hp q => nd.1 (List.mem_map.mpr ⟨p, hp, q⟩), if_pos hk]
      simp
    · exact bindL_of hk nd.2 h
theorem bindC_of {kd : Str → Option NameKind} {nm : Str} {x : Value} (hk : kd nm = some .cell) : ∀ {bs : List (Str × Value)} {m : Str → Option Value}, (bs.map (·.1)).Nodup → (nm, x) ∈ bs → bindC kd bs m nm = some x
  | [], m, _, h => by cases h
  | (n, v) :: r, m, nd, h => by
    rw [List.map_cons, List.nodup_cons] at nd
    unfold bindC
    rcases List.mem_cons.mp h with h | h
    · cases h
      rw [bindC_skip fun p hp q => nd.1 (List.mem_map.mpr ⟨p, hp, q⟩), if_neg (by rw [hk]; simp)]
      simp
    · exact bindC_of hk nd.2 h

theorem cells_are {h : Heap} : ∀ (l : List (Str × Addr)), (∀ p ∈ l, ∃ o v, h.get? p.2 = some o ∧ o.data = .cell v) → ∃ cs : List (Addr × Obj), All2 (fun (p : Str × Addr) (q : Addr × Obj) => p.2 = q.1 ∧ ∃ v, q.2.data = .cell v) l cs ∧ ∀ q ∈ cs, h.get? q.1 = some q.2 ∧ ∃ p ∈ l, p.2 = q.1
  | [], _ => ⟨[], .nil, fun q hq => nomatch hq⟩
  | p :: r, hl => by
    obtain ⟨cs, h1, h2⟩ := cells_are r fun q hq => hl q (.tail _ hq)
    obtain ⟨o, v, ho, hv⟩ := hl p (.head _)
    refine ⟨(p.2, o) :: cs, .cons ⟨rfl, v, hv⟩ h1, fun q hq => ?_⟩
    rcases List.mem_cons.mp hq with rfl | hq
    · exact ⟨ho, p, .head _, rfl⟩
    · obtain ⟨g1, p', g2, g3⟩ := h2 q hq
      exact ⟨g1, p', .tail _ g2, g3⟩
theorem Led.kadds {h₀ h : Heap} {L : Addr} {m : Str → Option Value} {fs : Fs} {os : List (Addr × Obj)} {σ : H} : ∀ {cs kp : List (Addr × Obj)}, Led S h₀ L m fs kp os σ h → (adr cs).Nodup → (∀ q ∈ cs, h.get? q.1 = some q.2 ∧ q.1 ≠ L ∧ h₀.get? q.1 = none ∧ q.1 ∉ adr (kp ++ os) ∧ (∀ f ∈ fs, f.1 ≠ q.1) ∧ mainGlobals < q.1) →
    Led S h₀ L m fs (kp ++ cs) os σ h
  | [], kp, l, _, _ => by simpa using l
  | q :: cs, kp, l, nd, hq => by
    obtain ⟨a, x⟩ := q
    obtain ⟨g1, g2, g3, g4, g5, g6⟩ := hq _ (.head _)
    have l' := l.kadd g1 g2 g3 g4 g5 g6
    simp only [adr, List.map_cons, List.nodup_cons] at nd
    have := Led.kadds (cs := cs) l' nd.2 fun q' hq' => by
      obtain ⟨e1, e2, e3, e4, e5, e6⟩ := hq q' (.tail _ hq')
      refine ⟨e1, e2, e3, fun hm => ?_, e5, e6⟩
      obtain ⟨p, hp, e⟩ := List.mem_map.mp hm
      rcases mid_mem hp with rfl | hp
      · exact nd.1 (List.mem_map.mpr ⟨q', hq', e.symm⟩)
      · rw [List.append_nil] at hp
        exact e4 (e ▸ List.mem_map_of_mem hp)
    simpa using this
theorem Led.kdrops {h₀ h : Heap} {L : Addr} {m : Str → Option Value} {fs : Fs} {os : List (Addr × Obj)} {σ : H} : ∀ {cs kp : List (Addr × Obj)}, Led S h₀ L m fs (kp ++ cs) os σ h → Led S h₀ L m fs kp os σ h
  | [], kp, l => by simpa using l
  | (a, x) :: cs, kp, l => Led.kdrops (cs := cs) l.kdrop

theorem cells_adr {l : List (Str × Addr)} {cs : List (Addr × Obj)} (h : All2 (fun (p : Str × Addr) (q : Addr × Obj) => p.2 = q.1 ∧ ∃ v, q.2.data = .cell v) l cs) : l.map (·.2) = adr cs := by
  induction h with
  | nil => rfl
  | cons h1 _ ih => simp only [List.map_cons, adr, h1.1]; rw [ih]

structure FnOK (S : Sig) (A : Addr) (fd : FD) (fo : Obj) (name qual : Str) (params : Arguments) (body : List Stmt) (scope : Scope) (dV kV doc pm : Value) (an : Option Addr) (cdv ct : Value) (names : List Str) : Prop where
  look : S.K.lookup A = some fo
  data : fo.data = .func (fnX name qual params body scope [] dV kV doc pm an cdv ct)
  code : codeIn S.K cdv qual = true
  co : scope.isCoroutine = false
  gen : scope.isGenerator = false
  kind : scope.kind = .function
  bind : ∀ vs : List Value, vs.length = names.length → bindArgs (fnX name qual params body scope [] dV kV doc pm an cdv ct) ⟨vs, []⟩ = pure (names.zip vs)
  pars : All2 (fun i nm => S.T[i]? = some nm) fd.params names
  nd : names.Nodup
  stor : ∀ nm ∈ names, storable scope nm = true
  cells : ((cellsFrom 0 scope.names []).map (·.1)).Nodup
  free : ∀ x ∈ scope.names, x.2 ≠ .free
  ck : ckSs S.nam scope fd.body body = true

theorem zip_map_fst {names : List Str} : ∀ {vs : List Value}, vs.length = names.length → (names.zip vs).map (·.1) = names := by
  induction names with
  | nil => intro vs _; simp
  | cons n r ih =>
    intro vs h
    cases vs with
    | nil => simp at h
    | cons v vs => simp only [List.zip_cons_cons, List.map_cons]; rw [ih (by simpa using h)]

theorem body_ok (OK : SigOK S) (hxc : S.P.xc = false) {C : Calls} {n : Nat} (HC : CallsOK S C n) (fuel : Nat) {A : Addr} {fd : FD} {fo : Obj} {name qual : Str} {params : Arguments} {body : List Stmt} {scope : Scope} {dV kV doc pm : Value} {an : Option Addr} {cdv ct : Value} {names : List Str}
    (O : FnOK S A fd fo name qual params body scope dV kV doc pm an cdv ct names) {Ar : Around} {h₀ : Heap} {L : Addr} {fs : Fs} {kp os : List (Addr × Obj)} {σ σ' : H} {s : Shared} {xs : List V} {vs : List Value} {r : R (Option V)} {loc' : Loc}
    (K : ∀ m cs, CtxOK S (n + 2) ⟨Ar, envOfC qual scope L A cdv, h₀, L, m, fs, kp ++ cs⟩) (hlen : xs.length = fd.params.length) (hvs : All2 (VR (adr os)) xs vs)
    (l : Led S h₀ L (bindL (envOfC qual scope L A cdv).kindOf (names.zip vs) fun _ => none) fs kp os σ s.heap)
    (hcell : ∀ nm a, (envOfC qual scope L A cdv).cells.lookup nm = some a → s.heap.IsCell a (bindC (envOfC qual scope L A cdv).kindOf (names.zip vs) (fun _ => none) nm))
    (apart : (envOfC qual scope L A cdv).cells.Pairwise fun x y => x.2 ≠ y.2) (hnew : ∀ nm a, (nm, a) ∈ (envOfC qual scope L A cdv).cells → L < a ∧ (∀ p ∈ kp ++ os, p.1 < a) ∧ ∀ f ∈ fs, f.1 < a)
    (he : exs S.P C fuel fd.body ((fd.params.zip xs).foldl (fun l p => l.upd p.1 p.2) fun _ => none) σ = some (r, loc', σ')) {Q : Flow → Shared → Prop} {E : Value → Shared → Prop}
    (hQ : ∀ (m' : Str → Option Value) (os' : List (Addr × Obj)) (h' : Heap) (tk : Nat), adr os <+: adr os' → Led S h₀ L m' fs kp os' σ' h' → ∀ o, r = .ok o → ∀ f, (match o with | none => f = Flow.next | some v => ∃ a, f = .ret a ∧ VR (adr os') v a) → Q f { s with heap := h', toks := tk }) :
    wpAny (model S.prog S.w) Ar (execs body (envOfC qual scope L A cdv)) Q E s := by
  have hcn : ((envOfC qual scope L A cdv).cells.map (·.1)).Nodup := cellsFrom_names scope.names 0 (L + 1) [] [] rfl ▸ O.cells
  obtain ⟨cs, ca, cb⟩ := cells_are (h := s.heap) (envOfC qual scope L A cdv).cells fun p hp => by
    obtain ⟨o, ho, hd⟩ := hcell p.1 p.2 (lookup_nodup hcn hp)
    exact ⟨o, _, ho, hd⟩
  have hl2 := hvs.length
  have hl1 := O.pars.length
  have hvl : vs.length = names.length := by lia
  have nda : (adr cs).Nodup := by
    have e : (envOfC qual scope L A cdv).cells.map (·.2) = adr cs := cells_adr ca
    rw [← e]
    exact List.pairwise_map.mpr apart
  have top := l.room
  have Lc : Led S h₀ L (bindL (envOfC qual scope L A cdv).kindOf (names.zip vs) fun _ => none) fs (kp ++ cs) os σ s.heap := by
    refine l.kadds nda fun q hq => ?_
    obtain ⟨g1, ⟨pn, pa⟩, g2, g3⟩ := cb q hq
    dsimp only at g3
    subst g3
    obtain ⟨n1, n2, n3⟩ := hnew pn q.1 g2
    refine ⟨g1, Nat.ne_of_gt n1, ?_, fun hm => ?_, fun f hf => Nat.ne_of_lt (n3 f hf), ?_⟩
    · cases e : h₀.get? q.1 with
      | none => rfl
      | some o => exact absurd (Heap.lt_size e) (Nat.not_lt.mpr (Nat.le_trans l.fr.above (Nat.le_of_lt n1)))
    · obtain ⟨p, hp, e⟩ := List.mem_map.mp hm
      exact absurd e (Nat.ne_of_lt (n2 p hp))
    · obtain ⟨o, ho⟩ := l.top
      exact Nat.lt_trans (Nat.lt_of_lt_of_le (Heap.lt_size ho) l.fr.above) n1
  let d : Dx := ⟨Ar, envOfC qual scope L A cdv, h₀, L, fs, kp⟩
  have CO : CellsOK d.env cs := ⟨ca, hcn⟩
  have SO : ScOK d.env.scope d.env := scOK_fn rfl O.free
  have Vs : VarsOK S (d.cx (bindL (envOfC qual scope L A cdv).kindOf (names.zip vs) fun _ => none) cs) d.env.scope (adr os) ((fd.params.zip xs).foldl (fun l p => l.upd p.1 p.2) fun _ => none) := by
    intro i v nm h1 h2 h3
    rcases loc_of h1 with h | ⟨k, k1, k2⟩
    · cases h
    · obtain ⟨nm', k3, k4⟩ := O.pars.get k1
      rw [h2] at k4; cases k4
      obtain ⟨x, k5, k6⟩ := hvs.get k2
      have hmem : (nm, x) ∈ names.zip vs := by
        refine List.mem_of_getElem? (i := k) ?_
        rw [List.getElem?_zip_eq_some]; exact ⟨k3, k5⟩
      have hnz : ((names.zip vs).map (·.1)).Nodup := by rw [zip_map_fst hvl]; exact O.nd
      have hst := O.stor nm (List.mem_of_getElem? k3)
      unfold storable at hst
      split at hst
      · rename_i e
        exact ⟨x, .inl ⟨e, bindL_of e hnz hmem⟩, k6⟩
      · rename_i e
        obtain ⟨a, ha⟩ := (SO.cell nm (by unfold isCell; rw [show d.env.scope.names.lookup nm = some .cell from e])).2
        obtain ⟨o, ho, hd⟩ := hcell nm a ha
        obtain ⟨p, o', v', p1, p2, p3⟩ := CO.at ha
        have hoo : o = o' := by
          have := (cb _ (List.mem_of_getElem? p2)).1
          dsimp only at this
          rw [ho] at this; cases this; rfl
        subst hoo
        refine ⟨x, .inr ⟨.inl e, a, o, ha, List.mem_append_right _ (List.mem_of_getElem? p2), ?_⟩, k6⟩
        rw [hd, bindC_of e hnz hmem]
      · cases hst
  refine sx_sts OK hxc HC fuel fd.body (d := d) K SO O.ck _ _ cs os σ s r loc' σ' ⟨Vs, CO, Lc⟩ he Q E fun m' cs' os' h' tk k F => ?_
  cases r with
  | err q => exact fun _ f => f.elim
  | ok o =>
    have fin := fun f hf => hQ m' os' h' tk k (Led.kdrops (cs := cs') F.led) o rfl f hf
    cases o with
    | none => exact fin .next rfl
    | some v => exact fun a ha => fin (.ret a) ⟨a, rfl, ha⟩

noncomputable def FnAll (S : Sig) : Prop :=
  (∀ f A, S.fn f = some A → ∃ fd, S.P.funs.lookup f = some fd ∧ ∃ fo name qual params body scope dV kV doc pm an cdv ct names, FnOK S A fd fo name qual params body scope dV kV doc pm an cdv ct names) ∧
  (∀ f A, S.me f = some A → ∃ fd, S.P.meths.lookup f = some fd ∧ ∃ fo name qual params body scope dV kV doc pm an cdv ct names, FnOK S A fd fo name qual params body scope dV kV doc pm an cdv ct names)

theorem call_ok (OK : SigOK S) (hxc : S.P.xc = false) {C : Calls} {n : Nat} (HC : CallsOK S C n) (fuel : Nat) {A : Addr} {fd : FD} {fo : Obj} {name qual : Str} {params : Arguments} {body : List Stmt} {scope : Scope} {dV kV doc pm : Value} {an : Option Addr} {cdv ct : Value} {names : List Str}
    (O : FnOK S A fd fo name qual params body scope dV kV doc pm an cdv ct names) {c : Cx} {ρ : List Addr} (K : CtxOK S (n + 5) c) {xs : List V} {vs : List Value} (hvs : All2 (VR ρ) xs vs) :
    SC S c ρ (.ref A) vs (fun h => if xs.length = fd.params.length then
        match exs S.P C fuel fd.body ((fd.params.zip xs).foldl (fun l p => l.upd p.1 p.2) (fun _ => none)) h with
        | none => none
        | some (.err c, _, h₁) => some (.err c, h₁)
        | some (.ok r, _, h₁) => some (.ok (r.getD .none), h₁)
      else none) := by
  intro os σ s r σ' hp hl hx R hR
  dsimp only at hx
  split at hx
  · rename_i hlen
    have hl1 := O.pars.length
    have hl2 := hvs.length
    have hvl : vs.length = names.length := by lia
    cases hb : exs S.P C fuel fd.body ((fd.params.zip xs).foldl (fun l p => l.upd p.1 p.2) (fun _ => none)) σ with
    | none => rw [hb] at hx; cases hx
    | some p =>
      obtain ⟨rr, loc', σ₁⟩ := p
      rw [hb] at hx
      have KX := K.kin.keeps hl.fr.keep
      refine codeAny_call_function (by have := K.depth; lia) (KX _ _ O.look) O.data O.co O.gen rfl (codeRec_of KX O.code) (BindsTo.of_eq (s := s) (O.bind vs hvl) _ _ _ _ ?_)
      refine wpAny_newFunctionEnv_cells O.kind (fun x hx => ?_) fun env' he s' x => ?_
      · have hm : x.1 ∈ names := by rw [← zip_map_fst hvl]; exact List.mem_map_of_mem hx
        have hst := O.stor x.1 hm
        unfold storable at hst
        split at hst
        · rename_i e; exact .inl e
        · rename_i e
          refine .inr ⟨e, ?_⟩
          obtain ⟨a, ha⟩ := lookup_of_mem (cellsFrom_has scope.names (s.heap.objs.size + 1) [] (.inl (PySem.mem_of_lookup e)))
          rw [ha]; rfl
        · cases hst
      · have he' : env' = envOfC qual scope s.heap.objs.size A cdv := he
        subst he'
        refine ⟨(K.lim.keeps hl.fr.keep).keeps x.toInCall.keep, codeAny_func ?_⟩
        obtain ⟨h₁, tk, rfl, hk₁⟩ := x.done
        have lE : Led S c.h₀ s.heap.objs.size (bindL (envOfC qual scope s.heap.objs.size A cdv).kindOf (names.zip vs) fun _ => none) ((c.L, c.m) :: c.fs) c.kp os σ h₁ := hl.enter x.toInCall.ns hk₁ (get_size _) (Nat.le_refl _)
        refine body_ok OK hxc HC fuel O (s := { s with heap := h₁, toks := tk }) (Ar := c.A.deeper (envOfC qual scope s.heap.objs.size A cdv)) (fun m cs => ?_) hlen (VRs.mono hp hvs) lE x.cell x.apart (fun nm a hm => ?_) hb fun m' os' h' tk' k l' o ho f hf => ?_
        · refine ⟨K.hand, ?_, ?_, K.kin, K.top, K.lim, O.kind, rfl, rfl, rfl⟩
          · have := K.units; show c.A.units + 3 + _ + _ < _; lia
          · have := K.depth; show c.A.depth + 1 + _ < _; lia
        · have hlt : s.heap.objs.size < a := x.above nm a hm
          refine ⟨hlt, fun p hp' => Nat.lt_trans (Heap.lt_size (hl.news p hp').1) hlt, fun f hf => ?_⟩
          rcases List.mem_cons.mp hf with rfl | hf
          · obtain ⟨oL, _, _, hL, _⟩ := hl.fr.ns
            exact Nat.lt_trans (Heap.lt_size hL) hlt
          · obtain ⟨oL, _, _, hL, _⟩ := (hl.outs f hf).1
            exact Nat.lt_trans (Heap.lt_size hL) hlt
        · subst ho
          cases hx
          have lB := l'.leave hl.fr.above (fun f hf => (hl.outs f hf).2.1) (h' := h') fun b o _ e => e
          cases o with
          | none => subst hf; exact hR os' h' tk' .none k lB rfl
          | some v => obtain ⟨a, rfl, ha⟩ := hf; exact hR os' h' tk' a k lB ha
  · cases hx

theorem run_ok (OK : SigOK S) (hxc : S.P.xc = false) (hA : FnAll S) (fuel : Nat) : ∀ d, CallsOK S (run S.P fuel d) (5 * d)
  | 0 => ⟨fun _ _ _ => (fun os σ s r σ' _ _ hx => by cases hx), fun _ _ _ => (fun os σ s r σ' _ _ hx => by cases hx)⟩
  | d + 1 => by
    have ih := run_ok OK hxc hA fuel d
    refine ⟨fun {c ρ f A xs vs} K hf hvs => ?_, fun {c ρ f A xs vs} K hf hvs => ?_⟩
    · obtain ⟨fd, hfd, fo, name, qual, params, body, scope, dV, kV, doc, pm, an, cdv, ct, names, O⟩ := hA.1 f A hf
      have := call_ok OK hxc ih fuel O (c := c) K hvs
      intro os σ s r σ' hp hl hx
      refine this os σ s r σ' hp hl ?_
      rw [← hx]
      have e : run S.P fuel (d + 1) false f xs σ = (match S.P.funs.lookup f with
        | none => none
        | some fd => if xs.length = fd.params.length then
            match exs S.P (run S.P fuel d) fuel fd.body ((fd.params.zip xs).foldl (fun l p => l.upd p.1 p.2) (fun _ => none)) σ with
            | none => none
            | some (.err c, _, h₁) => some (.err c, h₁)
            | some (.ok r, _, h₁) => some (.ok (r.getD .none), h₁)
          else none) := rfl
      rw [e, hfd]
    · obtain ⟨fd, hfd, fo, name, qual, params, body, scope, dV, kV, doc, pm, an, cdv, ct, names, O⟩ := hA.2 f A hf
      have := call_ok OK hxc ih fuel O (c := c) K hvs
      intro os σ s r σ' hp hl hx
      refine this os σ s r σ' hp hl ?_
      rw [← hx]
      have e : run S.P fuel (d + 1) true f xs σ = (match S.P.meths.lookup f with
        | none => none
        | some fd => if xs.length = fd.params.length then
            match exs S.P (run S.P fuel d) fuel fd.body ((fd.params.zip xs).foldl (fun l p => l.upd p.1 p.2) (fun _ => none)) σ with
            | none => none
            | some (.err c, _, h₁) => some (.err c, h₁)
            | some (.ok r, _, h₁) => some (.ok (r.getD .none), h₁)
          else none) := rfl
      rw [e, hfd]
end Mine

set_option autoImplicit false
namespace Mine
open PySem PySem.W PySem.Calls PyProof.Rows

theorem lookup_zip {names : List Str} : ∀ {vs : List Value} {k : Nat} {nm : Str} {v : Value}, names.Nodup → names[k]? = some nm → vs[k]? = some v → (names.zip vs).lookup nm = some v := by
  induction names with
  | nil => intro vs k nm v _ h; simp at h
  | cons n r ih =>
    intro vs k nm v nd h1 h2
    rw [List.nodup_cons] at nd
    cases vs with
    | nil => simp at h2
    | cons x xs =>
      cases k with
      | zero => simp at h1 h2; subst h1 h2; simp
      | succ k =>
        simp only [List.getElem?_cons_succ] at h1 h2
        have : (nm == n) = false := beq_eq_false_iff_ne.mpr fun q => nd.1 (q ▸ List.mem_of_getElem? h1)
        simp only [List.zip_cons_cons, List.lookup_cons, this]
        exact ih nd.2 h1 h2
theorem filterMap_zip {names : List Str} : ∀ {vs : List Value} {f : Str → Option Value}, vs.length = names.length → (∀ (k : Nat) nm v, names[k]? = some nm → vs[k]? = some v → f nm = some v) → names.filterMap (fun n => (f n).map (n, ·)) = names.zip vs := by
  induction names with
  | nil => intro vs f _ _; simp
  | cons n r ih =>
    intro vs f h1 h2
    cases vs with
    | nil => simp at h1
    | cons x xs =>
      have e := h2 0 n x rfl rfl
      rw [List.filterMap_cons, e]
      simp only [Option.map_some, List.zip_cons_cons]
      rw [ih (by simpa using h1) fun k nm v a b => h2 (k + 1) nm v a b]
theorem bind_plain {fd : FuncData} {vs : List Value} (h1 : fd.params.posonlyargs = []) (h2 : fd.params.kwonlyargs = []) (h3 : fd.params.vararg = none) (h4 : fd.params.kwarg = none) (h5 : fd.defaults = .none)
    (nd : (fd.params.args.map (·.arg)).Nodup) (hl : vs.length = (fd.params.args.map (·.arg)).length) : bindArgs fd ⟨vs, []⟩ = pure ((fd.params.args.map (·.arg)).zip vs) := by
  have look : ∀ k nm v, (fd.params.args.map (·.arg))[k]? = some nm → vs[k]? = some v → ((fd.params.args.map (·.arg)).zip vs).lookup nm = some v := fun k nm v a b => lookup_zip nd a b
  have mis : ((fd.params.args.map (·.arg)).take (fd.params.args.map (·.arg)).length).filter (fun n => (((fd.params.args.map (·.arg)).zip vs).lookup n).isNone) = [] := by
    rw [List.filter_eq_nil_iff]
    intro nm hm
    rw [List.take_length] at hm
    obtain ⟨k, hk⟩ := List.getElem?_of_mem hm
    have hk' := (List.getElem?_eq_some_iff.mp hk).1
    rw [← hl] at hk'
    rw [look k nm vs[k] hk (List.getElem?_eq_getElem hk')]
    simp
  have fm := filterMap_zip (f := fun n => ((fd.params.args.map (·.arg)).zip vs).lookup n) hl look
  unfold bindArgs
  simp only [h1, h2, h3, h4, h5, List.map_nil, List.nil_append, List.append_nil, List.forIn_nil, pure_bind]
  have hs : seqItems? Value.none = pure none := rfl
  have hd : decide (vs.length > (fd.params.args.map (·.arg)).length) = false := by simp [hl]
  have e0 : (Option.getD (none : Option (Array Value)) #[]).toList = [] := rfl
  simp only [hs, pure_bind, e0, hd, Bool.false_and, Bool.false_eq_true, if_false, List.drop_nil, List.length_nil, Nat.sub_zero, mis, List.isEmpty_nil, Bool.not_true, List.zip_nil_right, List.forIn_nil, List.nil_append, List.append_nil]
  rw [fm]

noncomputable def vIs : V → Value → Bool
  | .none, .none => true
  | .bool b, .bool b' => b == b'
  | .int i, .int j _ => decide (i = j)
  | .str s, .str s' _ => decide (s = s') && okS s
  | _, _ => false
theorem vIs_vr {v : V} {x : Value} (h : vIs v x = true) (ρ : List Addr) : VR ρ v x := by
  cases v with
  | none => cases x <;> first | rfl | exact (Bool.false_ne_true h).elim
  | bool b => cases x <;> first | exact (Bool.false_ne_true h).elim | (have := beq_iff_eq.mp h; subst this; rfl)
  | int i => cases x <;> first | exact (Bool.false_ne_true h).elim | (have := of_decide_eq_true h; subst this; exact ⟨_, rfl⟩)
  | str s =>
    cases x with
    | str s' o =>
      have h : (decide (s = s') && okS s) = true := h
      simp only [Bool.and_eq_true, decide_eq_true_eq] at h
      obtain ⟨rfl, h2⟩ := h; exact ⟨_, rfl, h2⟩
    | _ => exact (Bool.false_ne_true h).elim
  | _ => exact (Bool.false_ne_true h).elim
noncomputable def isRef (x : Option (Option Value)) (A : Addr) : Bool := decide (x = some (some (.ref A)))
theorem isRef_eq {x : Option (Option Value)} {A : Addr} (h : isRef x A = true) : x = some (some (.ref A)) := of_decide_eq_true h
noncomputable def isNo {α : Type} (x : Option (Option α)) : Bool := match x with
  | some none => true
  | some (some _) => false
  | none => false
theorem isNo_eq {α : Type} {x : Option (Option α)} (h : isNo x = true) : x = some none := by
  rcases x with _ | _ | _
  · exact (Bool.false_ne_true h).elim
  · rfl
  · exact (Bool.false_ne_true h).elim
noncomputable def isBi (x : Option (Option Value)) (id : String) : Bool := decide (x = some (some (.builtin id)))
theorem isBi_eq {x : Option (Option Value)} {id : String} (h : isBi x id = true) : x = some (some (.builtin id)) := of_decide_eq_true h
noncomputable def isTy (x : Option Value) (id : String) : Bool := decide (x = some (.type id))
theorem isTy_eq {x : Option Value} {id : String} (h : isTy x id = true) : x = some (.type id) := of_decide_eq_true h
noncomputable def onS {α : Type} (x : Option α) (f : α → Bool) : Bool := match x with
  | some a => f a
  | none => false
theorem onS_eq {α : Type} {x : Option α} {f : α → Bool} (h : onS x f = true) : ∃ a, x = some a ∧ f a = true := by
  cases x with
  | none => exact (Bool.false_ne_true h).elim
  | some a => exact ⟨a, rfl, h⟩

noncomputable def ckAttr (K : Frag) (C : Addr) (nm : Str) : Bool :=
  plainGet K C nm && hasDictIn K C && isNo (findIn K (.ref C) nm) && isBi (findIn K (.ref C) "__setattr__") "object.__setattr__" && plainOver K C && isNo (takerIn K C nm)
theorem attr_ok {S : Sig} {C : Addr} {nm : Str} (h : ckAttr S.K C nm = true) : AttrOK S C nm := by
  have ⟨h, h6⟩ := and_t h
  have ⟨h, h5⟩ := and_t h
  have ⟨h, h4⟩ := and_t h
  have ⟨h, h3⟩ := and_t h
  have ⟨h1, h2⟩ := and_t h
  exact ⟨h1, h2, isNo_eq h3, isBi_eq h4, h5, isNo_eq h6⟩

noncomputable def ckFn (N : Nam) (K : Frag) (A : Addr) (fd : FD) : Bool := match K.lookup A with
  | some ⟨_, _, .func ⟨_, qual, ⟨[], args, none, [], _, none, _⟩, .stmts body, scope, gl, [], .none, _, _, _, _, cdv, _, bl⟩, _⟩ =>
    decide (gl = mainGlobals) && decide (bl = builtinsNs) && codeIn K cdv qual && !scope.isCoroutine && !scope.isGenerator && decide (scope.kind = .function) && decide (fd.params.map (fun i => N.T[i]?) = (args.map (·.arg)).map some) &&
    decide (args.map (·.arg)).Nodup && (args.map (·.arg)).all (storable scope) && decide ((cellsFrom 0 scope.names []).map (·.1)).Nodup && scope.names.all (fun x => decide (x.2 ≠ .free)) && ckSs N scope fd.body body
  | _ => false
theorem all2_map {T : List Str} : ∀ {ps : List Nat} {ns : List Str}, ps.map (fun i => T[i]?) = ns.map some → All2 (fun i nm => T[i]? = some nm) ps ns
  | [], [], _ => .nil
  | [], _ :: _, h => by simp at h
  | _ :: _, [], h => by simp at h
  | p :: ps, n :: ns, h => by
    simp only [List.map_cons, List.cons.injEq] at h
    exact .cons h.1 (all2_map h.2)
theorem fn_ok {S : Sig} {A : Addr} {fd : FD} (h : ckFn S.nam S.K A fd = true) : ∃ fo name qual params body scope dV kV doc pm an cdv ct names, FnOK S A fd fo name qual params body scope dV kV doc pm an cdv ct names := by
  unfold ckFn at h
  cases hk : S.K.lookup A with
  | none => rw [hk] at h; exact (Bool.false_ne_true h).elim
  | some o =>
    rw [hk] at h
    obtain ⟨cl, dt, data, sl⟩ := o
    cases data with
    | func f =>
      obtain ⟨name, qual, params, body, scope, gl, dfl, clo, kV, doc, pm, an, cdv, ct, bl⟩ := f
      obtain ⟨po, args, va, ko, kwd, kw, df⟩ := params
      cases po with
      | cons => exact (Bool.false_ne_true h).elim
      | nil =>
      cases va with
      | some => exact (Bool.false_ne_true h).elim
      | none =>
      cases ko with
      | cons => exact (Bool.false_ne_true h).elim
      | nil =>
      cases kw with
      | some => exact (Bool.false_ne_true h).elim
      | none =>
      cases body with
      | stmts body =>
        cases dfl with
        | cons => exact (Bool.false_ne_true h).elim
        | nil =>
        cases clo with
        | none =>
          dsimp only at h
          simp only [Bool.and_eq_true, decide_eq_true_eq, Bool.not_eq_true', List.all_eq_true] at h
          obtain ⟨⟨⟨⟨⟨⟨⟨⟨⟨⟨⟨h1, h2⟩, h3⟩, h4⟩, h5⟩, h6⟩, h7⟩, h8⟩, h9⟩, h10⟩, h11⟩, h12⟩ := h
          subst h1 h2
          refine ⟨_, name, qual, ⟨[], args, none, [], kwd, none, df⟩, body, scope, .none, kV, doc, pm, an, cdv, ct, args.map (·.arg), ⟨hk, rfl, h3, h4, h5, h6, fun vs hl => ?_, all2_map (ns := args.map (·.arg)) h7, h8, h9, h10, h11, h12⟩⟩
          exact bind_plain rfl rfl rfl rfl rfl h8 hl
        | _ => exact (Bool.false_ne_true h).elim
      | _ => exact (Bool.false_ne_true h).elim
    | _ => exact (Bool.false_ne_true h).elim

abbrev mkSig (prog : Program) (w : World) (K : Frag) (T : List Str) (P : Prog) (clsL fnL meL : List (Nat × Addr)) (fz : List (Addr × Obj)) : Sig :=
  { prog := prog, w := w, K := K, T := T, P := P, cls := fun i => clsL.lookup i, fn := fun i => fnL.lookup i, me := fun i => meL.lookup i, fz := fz }
abbrev mkNam (T : List Str) (clsL fnL meL : List (Nat × Addr)) : Nam := ⟨T, fun i => fnL.lookup i, fun i => meL.lookup i, fun i => clsL.lookup i⟩

noncomputable def allBi : List Bi := [.len, .sorted, .list, .tuple, .str, .int, .range, .min, .max, .set, .zip]
noncomputable def ckTop (K : Frag) (T : List Str) (P : Prog) (clsL fnL meL : List (Nat × Addr)) : Bool :=
  decide T.Nodup && P.attrs.all (fun n => onS T[n]? fun nm => clsL.all fun q => ckAttr K q.2 nm) &&
  P.globs.all (fun q => onS T[q.1]? fun nm => onS (nsIn K mainGlobals nm) fun y => onS y fun x => vIs q.2 x) && P.tabs.isEmpty &&
  fnL.all (fun q => onS T[q.1]? fun nm => isRef (nsIn K mainGlobals nm) q.2 && keepIn K (.ref q.2)) &&
  allBi.all (fun b => isNo (nsIn K mainGlobals (biName b))) && isNo (nsIn K mainGlobals "isinstance") && [0, 1, 2, 3, 4].all (fun k => isNo (nsIn K mainGlobals (clsName k))) &&
  meL.all (fun q => onS T[q.1]? fun nm => !P.attrs.contains q.1 && keepIn K (.ref q.2) && isFn K (.ref q.2) && clsL.all (fun r => plainGet K r.2 nm && isRef (findIn K (.ref r.2) nm) q.2)) &&
  clsL.all (fun q => onS T[q.1]? fun nm => isRef (nsIn K mainGlobals nm) q.2 && keepIn K (.ref q.2) && makesIn K q.2) &&
  (onS (meL.lookup P.init) fun fI => isTy (typeIn K (.ref fI)) "function" && clsL.all (fun r => isRef (findIn K (.ref r.2) "__init__") fI)) &&
  decide (T[idAppend]? = some ("append" : Str)) && decide (T[idPop]? = some ("pop" : Str)) && decide (T[idClear]? = some ("clear" : Str))
noncomputable def ckFuns (K : Frag) (T : List Str) (P : Prog) (clsL fnL meL : List (Nat × Addr)) : Bool :=
  fnL.all (fun q => onS (P.funs.lookup q.1) fun fd => ckFn (mkNam T clsL fnL meL) K q.2 fd) &&
  meL.all (fun q => onS (P.meths.lookup q.1) fun fd => ckFn (mkNam T clsL fnL meL) K q.2 fd)

theorem mem_lookup {α : Type} : ∀ {l : List (Nat × α)} {i : Nat} {a : α}, l.lookup i = some a → (i, a) ∈ l
  | [], _, _, h => by simp at h
  | (k, b) :: r, i, a, h => by
    rw [List.lookup_cons] at h
    split at h
    · rename_i e; cases h; rw [beq_iff_eq.mp e]; exact .head _
    · exact .tail _ (mem_lookup h)

section
variable {prog : Program} {w : World} {K : Frag} {T : List Str} {P : Prog} {clsL fnL meL : List (Nat × Addr)} {fz : List (Addr × Obj)}
theorem funs_ok (h : ckFuns K T P clsL fnL meL = true) : FnAll (mkSig prog w K T P clsL fnL meL fz) := by
  have h := and_t h
  refine ⟨fun f A hf => ?_, fun f A hf => ?_⟩
  · obtain ⟨fd, hfd, this⟩ := onS_eq (List.all_eq_true.mp h.1 _ (mem_lookup hf))
    exact ⟨fd, hfd, fn_ok (S := mkSig prog w K T P clsL fnL meL fz) this⟩
  · obtain ⟨fd, hfd, this⟩ := onS_eq (List.all_eq_true.mp h.2 _ (mem_lookup hf))
    exact ⟨fd, hfd, fn_ok (S := mkSig prog w K T P clsL fnL meL fz) this⟩
theorem top_ok (h : ckTop K T P clsL fnL meL = true) : SigOK (mkSig prog w K T P clsL fnL meL fz) := by
  have ⟨h, h14⟩ := and_t h
  have ⟨h, h13⟩ := and_t h
  have ⟨h, h12⟩ := and_t h
  have ⟨h, h11⟩ := and_t h
  have ⟨h, h10⟩ := and_t h
  have ⟨h, h9⟩ := and_t h
  have ⟨h, h8⟩ := and_t h
  have ⟨h, h7⟩ := and_t h
  have ⟨h, h6⟩ := and_t h
  have ⟨h, h5⟩ := and_t h
  have ⟨h, h4⟩ := and_t h
  have ⟨h, h3⟩ := and_t h
  have ⟨h1, h2⟩ := and_t h
  refine ⟨⟨of_decide_eq_true h1, fun n hn => ?_⟩, fun i v hv => ?_, List.isEmpty_iff.mp h4, fun i A hA => ?_, fun b => ?_, isNo_eq h7, fun k hk => ?_, fun i A hA => ?_, fun i C hC => ?_, ?_, of_decide_eq_true h12, of_decide_eq_true h13, of_decide_eq_true h14⟩
  · obtain ⟨nm, e, this⟩ := onS_eq (List.all_eq_true.mp h2 n hn)
    refine ⟨nm, e, fun k C hC => attr_ok (S := mkSig prog w K T P clsL fnL meL fz) ?_⟩
    exact (List.all_eq_true.mp this) _ (mem_lookup hC)
  · obtain ⟨nm, e, this⟩ := onS_eq (List.all_eq_true.mp h3 _ (mem_lookup hv))
    obtain ⟨y, e2, this⟩ := onS_eq this
    obtain ⟨x, rfl, this⟩ := onS_eq this
    exact ⟨nm, x, e, e2, vIs_vr this⟩
  · obtain ⟨nm, e, this⟩ := onS_eq (List.all_eq_true.mp h5 _ (mem_lookup hA))
    have this := and_t this
    exact ⟨nm, e, isRef_eq this.1, this.2⟩
  · exact isNo_eq (List.all_eq_true.mp h6 b (by cases b <;> decide))
  · have : k ∈ [0, 1, 2, 3, 4] := by
      match k, hk with
      | 0, _ => decide
      | 1, _ => decide
      | 2, _ => decide
      | 3, _ => decide
      | 4, _ => decide
    exact isNo_eq (List.all_eq_true.mp h8 k this)
  · obtain ⟨nm, e, this⟩ := onS_eq (List.all_eq_true.mp h9 _ (mem_lookup hA))
    have ⟨this, g4⟩ := and_t this
    have ⟨this, g3⟩ := and_t this
    have ⟨g1, g2⟩ := and_t this
    refine ⟨nm, e, fun hm => ?_, g2, g3, fun k C hC => ?_⟩
    · have : P.attrs.contains i = true := List.contains_iff_mem.mpr hm
      rw [this] at g1; exact (Bool.false_ne_true g1).elim
    · have := and_t (List.all_eq_true.mp g4 _ (mem_lookup hC))
      exact ⟨this.1, isRef_eq this.2⟩
  · obtain ⟨nm, e, this⟩ := onS_eq (List.all_eq_true.mp h10 _ (mem_lookup hC))
    have ⟨this, g3⟩ := and_t this
    have ⟨g1, g2⟩ := and_t this
    exact ⟨nm, e, isRef_eq g1, g2, g3⟩
  · obtain ⟨fI, e, this⟩ := onS_eq h11
    have this := and_t this
    exact ⟨fI, e, fun i C hC => ⟨isRef_eq (List.all_eq_true.mp this.2 _ (mem_lookup hC)), isTy_eq this.1⟩⟩
end
end Mine

set_option autoImplicit false
namespace Mine
open PySem PySem.W PySem.Calls PyProof.Rows

noncomputable def noList (K : Frag) : Bool := K.all fun p => match p.2.cls with | .type s => !(s == "list") | _ => true
theorem noList_of {K : Frag} (h : noList K = true) {a : Addr} {o : Obj} (e : K.lookup a = some o) : o.cls ≠ .type "list" := by
  intro q
  have := (List.all_eq_true.mp h) (a, o) (mem_lookup e)
  dsimp only at this
  rw [q] at this
  simp at this

theorem ns_hide {h : Heap} {a A : Addr} {m : Str → Option Value} {vs : Array Value} {n : Nat} (x : h.Ns a m) (hA : h.get? A = some (W.listOf vs n)) : (hideAll h [A]).Ns a m ∧ a ≠ A := by
  obtain ⟨o, es, ep, h1, h2, h3⟩ := x
  have hne : a ≠ A := fun q => by
    subst q; rw [hA] at h1; cases h1; cases h2
  exact ⟨⟨o, es, ep, hideAll_get _ h1 (by simpa using hne), h2, h3⟩, hne⟩

theorem ints_vr {ρ : List Addr} {vs : List Value} {ns : List Int} (h : IntsAre vs ns) : All2 (VR ρ) (ns.map V.int) vs := by
  induction h with
  | nil => exact .nil
  | cons n t _ ih => exact .cons ⟨t, rfl⟩ ih

theorem law_main {prog : Program} {w : World} {K : Frag} {T : List Str} {P : Prog} {clsL fnL meL : List (Nat × Addr)} (hT : ckTop K T P clsL fnL meL = true) (hF : ckFuns K T P clsL fnL meL = true) (hN : noList K = true) (hxc : P.xc = false) (hnf : P.nf = 1)
    {lid : Nat} {fa : Addr} (hfa : fnL.lookup lid = some fa) {s₁ : Shared} (KX : K.In s₁.heap) {mg mb : Str → Option Value} (hmg : s₁.heap.Ns mainGlobals mg) (hmb : s₁.heap.Ns builtinsNs mb) (hbt : ∀ x : Str, x ≠ "__name__" → mb x = bootBuiltins x) (hlim : s₁.heap.NoLimit)
    {A : Addr} {vs : List Value} {ns : List Int} (hL : s₁.heap.get? A = some (W.listOf vs.toArray 0)) (hA : (A == sysModules) = false) (hI : IntsAre vs ns) (hlen : ns.length ≤ lim) {fuel d : Nat} (hd : d ≤ 50) {σ' : H}
    (hrun : run P fuel (d + 1) false lid [.ref 0] [.list (ns.map .int)] = some (.ok (.bool true), σ')) {R : Result → Shared → Prop}
    (hR : ∀ h' tk, (∀ b o, s₁.heap.get? b = some o → h'.get? b = some o) → R (.ok (.ret (.bool true))) { s₁ with heap := h', toks := tk }) :
    codeAny (model prog w) callerA (.call (.ref fa) ⟨[.ref A], []⟩) R s₁ := by
  let S : Sig := mkSig prog w K T P clsL fnL meL [(A, W.listOf vs.toArray 0)]
  have OK : SigOK S := top_ok hT
  have FA : FnAll S := funs_ok hF
  have HC : CallsOK S (run P fuel d) (5 * d) := run_ok (S := S) OK hxc FA fuel d
  obtain ⟨fd, hfd, fo, name, qual, params, body, scope, dV, kV, doc, pm, an, cdv, ct, names, O⟩ := FA.1 lid fa hfa
  have e : run P fuel (d + 1) false lid [.ref 0] [.list (ns.map .int)] = (match P.funs.lookup lid with
        | none => none
        | some fd => if [V.ref 0].length = fd.params.length then
            match exs P (run P fuel d) fuel fd.body ((fd.params.zip [V.ref 0]).foldl (fun l p => l.upd p.1 p.2) (fun _ => none)) [.list (ns.map .int)] with
            | none => none
            | some (.err c, _, h₁) => some (.err c, h₁)
            | some (.ok r, _, h₁) => some (.ok (r.getD .none), h₁)
          else none) := rfl
  rw [e, hfd] at hrun
  dsimp only at hrun
  split at hrun
  · rename_i hpl
    cases hb : exs P (run P fuel d) fuel fd.body ((fd.params.zip [V.ref 0]).foldl (fun l p => l.upd p.1 p.2) (fun _ => none)) [.list (ns.map .int)] with
    | none => rw [hb] at hrun; cases hrun
    | some p =>
      obtain ⟨rr, loc', σ₁⟩ := p
      rw [hb] at hrun
      cases rr with
      | err q => cases hrun
      | ok ov =>
        simp only [Option.some.injEq, Prod.mk.injEq, Mine.R.ok.injEq] at hrun
        obtain ⟨hov, rfl⟩ := hrun
        have hov : ov = some (.bool true) := by
          cases ov with
          | none => cases hov
          | some v => exact congrArg some hov
        subst hov
        have hl1 := O.pars.length
        have hvl : [Value.ref A].length = names.length := by rw [← hl1, ← hpl]; rfl
        refine codeAny_call_function (by decide) (KX _ _ O.look) O.data O.co O.gen rfl (codeRec_of KX O.code) (BindsTo.of_eq (s := s₁) (O.bind [.ref A] hvl) _ _ _ _ ?_)
        refine wpAny_newFunctionEnv_cells O.kind (fun x hx => ?_) fun env' he s' x => ?_
        · have hm : x.1 ∈ names := by rw [← zip_map_fst hvl]; exact List.mem_map_of_mem hx
          have hst := O.stor x.1 hm
          unfold storable at hst
          split at hst
          · rename_i e; exact .inl e
          · rename_i e
            refine .inr ⟨e, ?_⟩
            obtain ⟨a, ha⟩ := lookup_of_mem (cellsFrom_has scope.names (s₁.heap.objs.size + 1) [] (.inl (PySem.mem_of_lookup e)))
            rw [ha]; rfl
          · cases hst
        · have he' : env' = envOfC qual scope s₁.heap.objs.size fa cdv := he
          subst he'
          refine ⟨hlim.keeps x.toInCall.keep, codeAny_func ?_⟩
          obtain ⟨h₁, tk, rfl, hk₁⟩ := x.done
          have g1 := ns_hide hmg hL
          have g2 := ns_hide hmb hL
          obtain ⟨mc, hc1, hc2⟩ := hlim
          have g3 := ns_hide hc1 hL
          have hlt := Heap.lt_size hL
          have hv0 : VR (adr [(A, W.listOf vs.toArray 0)]) (.ref 0) (.ref A) := ⟨A, rfl, rfl⟩
          have lE : Led S (hideAll s₁.heap [A]) s₁.heap.objs.size (bindL (envOfC qual scope s₁.heap.objs.size fa cdv).kindOf (names.zip [.ref A]) fun _ => none) [] [] [(A, W.listOf vs.toArray 0)] [.list (ns.map .int)] h₁ := by
            refine ⟨⟨x.toInCall.ns, fun b o q => hk₁ b o (of_hideAll _ q), Nat.le_of_eq (hideAll_size _ _)⟩, fun p hp => ?_, by simp [adr], .one ⟨vs, 0, rfl, ints_vr hI, by simpa using hlen⟩, (fun f hf => nomatch hf), ?_, fun b hb => ?_, List.prefix_rfl, by show 1 ≤ P.nf; rw [hnf]; exact Nat.le_refl _⟩
            · simp only [List.nil_append, List.mem_singleton] at hp
              subst hp
              exact ⟨hk₁ _ _ hL, Nat.ne_of_lt hlt, hideAll_none _ (by simp)⟩
            · obtain ⟨o, _, _, q, _⟩ := g1.1; exact ⟨o, q⟩
            · simp [adr] at hb; subst hb; exact hA
          refine body_ok (S := S) OK hxc HC fuel O (s := { s₁ with heap := h₁, toks := tk }) (Ar := callerA.deeper (envOfC qual scope s₁.heap.objs.size fa cdv)) (fun m cs => ?_) hpl (.one hv0) lE x.cell x.apart (fun nm a hm => ?_) hb fun m' os' h' tk' k l' o ho f hf => ?_
          · refine ⟨rfl, ?_, ?_, fun a o q => ?_, ⟨mg, mb, g1.1, g2.1, hbt⟩, ⟨mc, g3.1, hc2⟩, O.kind, rfl, rfl, rfl⟩
            · show 4 + 3 + 2 * (5 * d + 2) + 200 < 9900; lia
            · show 1 + 300 + 1 + (5 * d + 2) < 1000; lia
            · refine hideAll_get _ (KX a o q) ?_
              simp only [List.mem_singleton]
              intro qq; subst qq
              have := KX _ _ q
              rw [hL] at this; cases this
              exact noList_of hN q rfl
          · have hlt' : s₁.heap.objs.size < a := x.above nm a hm
            refine ⟨hlt', fun p hp => ?_, (fun f hf => nomatch hf)⟩
            simp only [List.nil_append, List.mem_singleton] at hp
            subst hp
            exact Nat.lt_trans hlt hlt'
          · cases ho
            obtain ⟨a, rfl, ha⟩ := hf
            cases ha
            refine hR h' tk' fun b ob q => ?_
            by_cases hbA : b = A
            · subst hbA
              obtain ⟨t, ht⟩ := l'.frz.1
              have hm : (b, W.listOf vs.toArray 0) ∈ os' := by rw [← ht]; exact List.mem_append_left _ (.head _)
              rw [hL] at q; cases q
              exact (l'.news _ hm).1
            · exact l'.fr.keep b ob (hideAll_get _ q (by simpa using hbA))
  · cases hrun
end Mine

set_option autoImplicit false
namespace Mine
open PySem (Str PyData)

noncomputable def okR {α : Type} (Q : α → H → Prop) : Option (R α × H) → Prop
  | some (.ok a, σ) => Q a σ
  | _ => False
noncomputable def Ok {α : Type} (x : X α) (σ : H) (Q : α → H → Prop) : Prop := okR Q (x σ)
noncomputable def okL (Q : Option V → Loc → H → Prop) : Option (R (Option V) × Loc × H) → Prop
  | some (.ok a, l, σ) => Q a l σ
  | _ => False
noncomputable def OkS (x : Option (R (Option V) × Loc × H)) (Q : Option V → Loc → H → Prop) : Prop := okL Q x
theorem ok_iff {α : Type} {x : X α} {σ : H} {Q : α → H → Prop} : Ok x σ Q ↔ ∃ a σ', x σ = some (.ok a, σ') ∧ Q a σ' := by
  unfold Ok
  constructor
  · intro h
    cases e : x σ with
    | none => rw [e] at h; exact h.elim
    | some p => obtain ⟨r, σ'⟩ := p; rw [e] at h; cases r with | ok a => exact ⟨a, σ', rfl, h⟩ | err c => exact h.elim
  · rintro ⟨a, σ', h, q⟩; rw [h]; exact q
theorem oks_iff {x : Option (R (Option V) × Loc × H)} {Q : Option V → Loc → H → Prop} : OkS x Q ↔ ∃ r l σ', x = some (.ok r, l, σ') ∧ Q r l σ' := by
  unfold OkS
  constructor
  · intro h
    cases x with
    | none => exact h.elim
    | some p => obtain ⟨r, l, σ'⟩ := p; cases r with | ok a => exact ⟨a, l, σ', rfl, h⟩ | err c => exact h.elim
  · rintro ⟨a, l, σ', h, q⟩; rw [h]; exact q

noncomputable def bindK {α β : Type} (f : α → X β) (Q : β → H → Prop) : α → H → Prop := fun a σ => Ok (f a) σ Q
theorem bindK_at {α β : Type} {f : α → X β} {Q : β → H → Prop} {a : α} {σ : H} : bindK f Q a σ = Ok (f a) σ Q := rfl
theorem ok_bind {α β : Type} {x : X α} {f : α → X β} {σ : H} {Q : β → H → Prop} : Ok (X.bind x f) σ Q = Ok x σ (bindK f Q) := by
  unfold Ok X.bind
  cases x σ with
  | none => rfl
  | some p => obtain ⟨r, σ₁⟩ := p; cases r <;> rfl
theorem bind_pure {α β : Type} {a : α} {f : α → X β} : X.bind (X.pure a) f = f a := rfl
theorem bind_lift {α β : Type} {a : α} {f : α → X β} : X.bind (X.lift (some a)) f = f a := rfl
theorem ok_pure {α : Type} {a : α} {σ : H} {Q : α → H → Prop} : Ok (X.pure a) σ Q = Q a σ := rfl
theorem ok_lift {α : Type} {a : α} {σ : H} {Q : α → H → Prop} : Ok (X.lift (some a)) σ Q = Q a σ := rfl
theorem ok_some {α : Type} {x : X α} {σ σ' : H} {a : α} {Q : α → H → Prop} (h : x σ = some (.ok a, σ')) : Ok x σ Q = Q a σ' := by unfold Ok; rw [h]; rfl

theorem oks_nil {P : Prog} {C : Calls} {F : Nat} {loc : Loc} {σ : H} {Q : Option V → Loc → H → Prop} : OkS (exs P C F .nil loc σ) Q = Q none loc σ := rfl
noncomputable def andThen (P : Prog) (C : Calls) (F : Nat) (ss : Sts) (Q : Option V → Loc → H → Prop) : Option V → Loc → H → Prop := fun r l σ => match r with
  | none => OkS (exs P C F ss l σ) Q
  | some v => Q (some v) l σ
theorem oks_cons {P : Prog} {C : Calls} {F : Nat} {s : St} {ss : Sts} {loc : Loc} {σ : H} {Q : Option V → Loc → H → Prop} : OkS (exs P C F (.cons s ss) loc σ) Q = OkS (ex P C F s loc σ) (andThen P C F ss Q) := by
  show OkS (match ex P C F s loc σ with | some (.ok none, l₁, h₁) => exs P C F ss l₁ h₁ | r => r) Q = _
  cases ex P C F s loc σ with
  | none => rfl
  | some p =>
    obtain ⟨rr, l₁, σ₁⟩ := p
    cases rr with
    | err k => rfl
    | ok o => cases o <;> rfl
theorem then_none {P : Prog} {C : Calls} {F : Nat} {ss : Sts} {Q : Option V → Loc → H → Prop} {l : Loc} {σ : H} : andThen P C F ss Q none l σ = OkS (exs P C F ss l σ) Q := rfl
theorem then_some {P : Prog} {C : Calls} {F : Nat} {ss : Sts} {Q : Option V → Loc → H → Prop} {l : Loc} {σ : H} {v : V} : andThen P C F ss Q (some v) l σ = Q (some v) l σ := rfl
theorem oks_step {P : Prog} {C : Calls} {F : Nat} {t : Sts} {s : St} {ss : Sts} {loc : Loc} {σ : H} {Q : Option V → Loc → H → Prop} (h : t = .cons s ss) (k : OkS (ex P C F s loc σ) (andThen P C F ss Q)) : OkS (exs P C F t loc σ) Q := by
  subst h; exact oks_cons.mpr k
theorem then_step {P : Prog} {C : Calls} {F : Nat} {t : Sts} {s : St} {ss : Sts} {loc : Loc} {σ : H} {Q : Option V → Loc → H → Prop} (h : t = .cons s ss) (k : OkS (ex P C F s loc σ) (andThen P C F ss Q)) : andThen P C F t Q none loc σ := oks_step h k
noncomputable def onK {α : Type} (f : α → H → Option (R (Option V) × Loc × H)) (Q : Option V → Loc → H → Prop) : α → H → Prop := fun a σ => OkS (f a σ) Q
theorem oks_on {α : Type} {m : X α} {loc : Loc} {f : α → H → Option (R (Option V) × Loc × H)} {σ : H} {Q : Option V → Loc → H → Prop} : OkS (onX m loc f σ) Q = Ok m σ (onK f Q) := by
  unfold Ok onX
  cases m σ with
  | none => rfl
  | some p => obtain ⟨r, σ₁⟩ := p; cases r <;> rfl
section
variable {P : Prog} {C : Calls} {F : Nat} {loc : Loc} {σ : H} {Q : Option V → Loc → H → Prop}
noncomputable def exprK {α : Type} (loc : Loc) (Q : Option V → Loc → H → Prop) : α → H → Prop := fun _ σ => Q none loc σ
theorem exprK_at {α : Type} {a : α} : exprK loc Q a σ = Q none loc σ := rfl
theorem s_expr {e : Ex} : OkS (ex P C F (.expr e) loc σ) Q = Ok (ev P C e loc) σ (exprK loc Q) := oks_on
noncomputable def varK (i : Nat) (loc : Loc) (Q : Option V → Loc → H → Prop) : V → H → Prop := fun v σ => Q none (loc.upd i v) σ
theorem varK_at {i : Nat} {v : V} : varK i loc Q v σ = Q none (loc.upd i v) σ := rfl
theorem s_var {i : Nat} {e : Ex} : OkS (ex P C F (.asg (.var i) e) loc σ) Q = Ok (ev P C e loc) σ (varK i loc Q) := oks_on
noncomputable def attrK2 (P : Prog) (n : Nat) (v : V) (loc : Loc) (Q : Option V → Loc → H → Prop) : V → H → Prop := fun ov σ => Ok (setAttr P ov n v) σ (exprK loc Q)
theorem attrK2_at {n : Nat} {v ov : V} : attrK2 P n v loc Q ov σ = Ok (setAttr P ov n v) σ (exprK loc Q) := rfl
noncomputable def attrK (P : Prog) (C : Calls) (o : Ex) (n : Nat) (loc : Loc) (Q : Option V → Loc → H → Prop) : V → H → Prop := fun v σ => Ok (ev P C o loc) σ (attrK2 P n v loc Q)
theorem attrK_at {o : Ex} {n : Nat} {v : V} : attrK P C o n loc Q v σ = Ok (ev P C o loc) σ (attrK2 P n v loc Q) := rfl
theorem s_attr {o e : Ex} {n : Nat} : OkS (ex P C F (.asg (.attr o n) e) loc σ) Q = Ok (ev P C e loc) σ (attrK P C o n loc Q) := by
  refine oks_on.trans (congrArg _ ?_); funext v σ₁; refine oks_on.trans (congrArg _ ?_); funext ov σ₂; exact oks_on
noncomputable def subK3 (P : Prog) (ov v : V) (loc : Loc) (Q : Option V → Loc → H → Prop) : V → H → Prop := fun iv σ => Ok (setItem P ov iv v) σ (exprK loc Q)
theorem subK3_at {ov v iv : V} : subK3 P ov v loc Q iv σ = Ok (setItem P ov iv v) σ (exprK loc Q) := rfl
noncomputable def subK2 (P : Prog) (C : Calls) (i : Ex) (v : V) (loc : Loc) (Q : Option V → Loc → H → Prop) : V → H → Prop := fun ov σ => Ok (ev P C i loc) σ (subK3 P ov v loc Q)
theorem subK2_at {i : Ex} {v ov : V} : subK2 P C i v loc Q ov σ = Ok (ev P C i loc) σ (subK3 P ov v loc Q) := rfl
noncomputable def subK (P : Prog) (C : Calls) (o i : Ex) (loc : Loc) (Q : Option V → Loc → H → Prop) : V → H → Prop := fun v σ => Ok (ev P C o loc) σ (subK2 P C i v loc Q)
theorem subK_at {o i : Ex} {v : V} : subK P C o i loc Q v σ = Ok (ev P C o loc) σ (subK2 P C i v loc Q) := rfl
theorem s_sub {o i e : Ex} : OkS (ex P C F (.asg (.sub o i) e) loc σ) Q = Ok (ev P C e loc) σ (subK P C o i loc Q) := by
  refine oks_on.trans (congrArg _ ?_); funext v σ₁; refine oks_on.trans (congrArg _ ?_); funext ov σ₂; refine oks_on.trans (congrArg _ ?_); funext iv σ₂; exact oks_on
noncomputable def iteK (P : Prog) (C : Calls) (F : Nat) (a b : Sts) (loc : Loc) (Q : Option V → Loc → H → Prop) : Bool → H → Prop := fun t σ => bif t then OkS (exs P C F a loc σ) Q else OkS (exs P C F b loc σ) Q
theorem iteK_t {a b : Sts} : iteK P C F a b loc Q true σ = OkS (exs P C F a loc σ) Q := rfl
theorem iteK_f {a b : Sts} : iteK P C F a b loc Q false σ = OkS (exs P C F b loc σ) Q := rfl
theorem s_ite {c : Ex} {a b : Sts} : OkS (ex P C F (.ite c a b) loc σ) Q = Ok (tst P C c loc (ev P C c loc)) σ (iteK P C F a b loc Q) := by
  refine oks_on.trans (congrArg _ ?_); funext t σ₁; cases t <;> rfl
noncomputable def retK (loc : Loc) (Q : Option V → Loc → H → Prop) : V → H → Prop := fun v σ => Q (some v) loc σ
theorem retK_at {v : V} : retK loc Q v σ = Q (some v) loc σ := rfl
theorem s_ret {e : Ex} : OkS (ex P C F (.ret e) loc σ) Q = Ok (ev P C e loc) σ (retK loc Q) := oks_on
theorem s_ret0 : OkS (ex P C F .ret0 loc σ) Q = Q (some .none) loc σ := rfl
theorem s_pass : OkS (ex P C F .pass loc σ) Q = Q none loc σ := rfl
end

noncomputable def runK (Q : V → H → Prop) : Option V → Loc → H → Prop := fun r _ σ => Q (r.getD .none) σ
theorem runK_some {Q : V → H → Prop} {v : V} {l : Loc} {σ : H} : runK Q (some v) l σ = Q v σ := rfl
theorem runK_none {Q : V → H → Prop} {l : Loc} {σ : H} : runK Q none l σ = Q .none σ := rfl
theorem ok_run {P : Prog} {F d f : Nat} {m : Bool} {fd : FD} {args : List V} {σ : H} {Q : V → H → Prop} (h : (if m then P.meths else P.funs).lookup f = some fd) (hl : args.length = fd.params.length) :
    Ok (run P F (d + 1) m f args) σ Q = OkS (exs P (run P F d) F fd.body ((fd.params.zip args).foldl (fun l p => l.upd p.1 p.2) (fun _ => none)) σ) (runK Q) := by
  unfold Ok run
  simp only [h, hl, if_true]
  cases exs P (run P F d) F fd.body ((fd.params.zip args).foldl (fun l p => l.upd p.1 p.2) (fun _ => none)) σ with
  | none => rfl
  | some p => obtain ⟨r, l, σ₁⟩ := p; cases r <;> rfl

/- the heap -/
theorem get_put_ne {σ : H} {a b : Nat} {o : O} (h : a ≠ b) : (H.put σ a o).get b = σ.get b := List.getElem?_set_ne h
theorem get_put_eq {σ : H} {a : Nat} {o : O} (h : a < σ.length) : (H.put σ a o).get a = some o := List.getElem?_set_self h
theorem get_push_lt {σ : H} {a : Nat} {o : O} (h : a < σ.length) : (H.push σ o).get a = σ.get a := List.getElem?_append_left h
theorem get_push_eq {σ : H} {o : O} : (H.push σ o).get σ.length = some o := List.getElem?_concat_length
theorem len_put {σ : H} {a : Nat} {o : O} : (H.put σ a o).length = σ.length := List.length_set
theorem len_push {σ : H} {o : O} : (H.push σ o).length = σ.length + 1 := List.length_append

noncomputable def methX (P : Prog) (C : Calls) (ax : X (List V)) (i : Nat) (ov : V) : X V := fun h => match kdOf ov h with
  | .inst => if i ≤ 12 then none else X.bind ax (fun vs => C true i (ov :: vs)) h
  | .list => if i = idAppend ∨ i = idPop ∨ i = idClear then X.bind ax (fun vs => listMeth P ov i vs) h else none
  | .dict => if i = idPop then X.bind ax (fun vs => dictMeth P ov i vs) h else none
  | _ => none
noncomputable def compX (tg : List Nat) (tup : Bool) (t : Loc → X Bool) (e : Loc → X V) (loc : Loc) (v : V) : X V := fun h => match iterOf v h with
  | none => none
  | some vs => X.bind (compL v tg tup t e loc h vs) (fun ws => alloc (.list ws)) h
section
variable {P : Prog} {C : Calls} {loc : Loc}
theorem bif_t {α : Type} {a b : α} : (bif true then a else b) = a := rfl
theorem bif_f {α : Type} {a b : α} : (bif false then a else b) = b := rfl
theorem upd_def {l : Loc} {i j : Nat} {v : V} : l.upd i v j = bif j == i then some v else l j := rfl
theorem e_none : ev P C .cnone loc = X.pure .none := rfl
theorem e_bool {b : Bool} : ev P C (.cbool b) loc = X.pure (.bool b) := rfl
theorem e_int {i : Int} : ev P C (.cint i) loc = X.pure (.int i) := rfl
theorem e_str {s : Str} : ev P C (.cstr s) loc = X.pure (.str s) := rfl
theorem e_loc {i : Nat} : ev P C (.loc i) loc = X.lift (loc i) := rfl
noncomputable def binF (P : Prog) (C : Calls) (op : PySem.Operator) (b : Ex) (loc : Loc) : V → X V := fun x => X.bind (ev P C b loc) (binop op x)
theorem binF_at {op : PySem.Operator} {b : Ex} {x : V} : binF P C op b loc x = X.bind (ev P C b loc) (binop op x) := rfl
theorem e_bin {op : PySem.Operator} {a b : Ex} : ev P C (.bin op a b) loc = X.bind (ev P C a loc) (binF P C op b loc) := rfl
noncomputable def notF2 : Bool → X V := fun t => X.pure (.bool (!t))
theorem notF2_t : notF2 true = X.pure (.bool false) := rfl
theorem notF2_f : notF2 false = X.pure (.bool true) := rfl
noncomputable def notF : V → X V := fun x => X.bind (truth x) notF2
theorem notF_at {x : V} : notF x = X.bind (truth x) notF2 := rfl
theorem e_not {a : Ex} : ev P C (.not a) loc = X.bind (ev P C a loc) notF := rfl
theorem e_band {es : Exs} : ev P C (.band es) loc = evAnd P C es loc := rfl
theorem e_bor {es : Exs} : ev P C (.bor es) loc = evOr P C es loc := rfl
noncomputable def cmpF (P : Prog) (C : Calls) (op : PySem.CmpOp) (b : Ex) (loc : Loc) : V → X V := fun x => X.bind (ev P C b loc) (cmpop P op x)
theorem cmpF_at {op : PySem.CmpOp} {b : Ex} {x : V} : cmpF P C op b loc x = X.bind (ev P C b loc) (cmpop P op x) := rfl
theorem e_cmp {op : PySem.CmpOp} {a b : Ex} : ev P C (.cmp op a b) loc = X.bind (ev P C a loc) (cmpF P C op b loc) := rfl
noncomputable def cmpG (P : Prog) (C : Calls) (o2 : PySem.CmpOp) (c : Ex) (loc : Loc) (y r : V) : Bool → X V := fun t => bif t then X.bind (ev P C c loc) (cmpop P o2 y) else X.pure r
theorem cmpG_t {o2 : PySem.CmpOp} {c : Ex} {y r : V} : cmpG P C o2 c loc y r true = X.bind (ev P C c loc) (cmpop P o2 y) := rfl
theorem cmpG_f {o2 : PySem.CmpOp} {c : Ex} {y r : V} : cmpG P C o2 c loc y r false = X.pure r := rfl
theorem e_cmp2 {o1 o2 : PySem.CmpOp} {a b c : Ex} : ev P C (.cmp2 o1 o2 a b c) loc = X.bind (ev P C a loc) fun x => X.bind (ev P C b loc) fun y => X.bind (cmpop P o1 x y) fun r => X.bind (truth r) (cmpG P C o2 c loc y r) := by
  show (X.bind _ fun x => X.bind _ fun y => X.bind _ fun r => X.bind _ fun t => _) = _
  refine congrArg _ (funext fun x => congrArg _ (funext fun y => congrArg _ (funext fun r => congrArg _ (funext fun t => ?_))))
  cases t <;> rfl
noncomputable def listF : List V → X V := fun vs => alloc (.list vs)
theorem listF_at {vs : List V} : listF vs = alloc (.list vs) := rfl
theorem e_list {es : Exs} : ev P C (.list es) loc = X.bind (evs P C es loc) listF := rfl
noncomputable def tupF : List V → X V := fun vs => alloc (.tup vs)
theorem tupF_at {vs : List V} : tupF vs = alloc (.tup vs) := rfl
theorem e_tup {es : Exs} : ev P C (.tup es) loc = X.bind (evs P C es loc) tupF := rfl
theorem e_dict0 : ev P C (.dict .nil .nil) loc = alloc (.dict []) := rfl
noncomputable def attrF (n : Nat) : V → X V := fun o => getAttr o n
theorem attrF_at {n : Nat} {o : V} : attrF n o = getAttr o n := rfl
theorem e_attr {a : Ex} {n : Nat} : ev P C (.attr a n) loc = X.bind (ev P C a loc) (attrF n) := rfl
noncomputable def subF (P : Prog) (C : Calls) (i : Ex) (loc : Loc) : V → X V := fun o => X.bind (ev P C i loc) (getItem P o)
theorem subF_at {i : Ex} {o : V} : subF P C i loc o = X.bind (ev P C i loc) (getItem P o) := rfl
theorem e_sub {a i : Ex} : ev P C (.sub a i) loc = X.bind (ev P C a loc) (subF P C i loc) := rfl
theorem e_call {f : Nat} {args : Exs} : ev P C (.call f args) loc = X.bind (evs P C args loc) (C false f) := rfl
theorem e_meth {o : Ex} {i : Nat} {args : Exs} : ev P C (.meth o i args) loc = X.bind (ev P C o loc) (methX P C (evs P C args loc) i) := rfl
theorem e_bi {b : Bi} {args : Exs} : ev P C (.bi b args) loc = X.bind (evs P C args loc) (builtin b) := rfl
noncomputable def boolF : Bool → X V := fun b => X.pure (.bool b)
theorem boolF_at {b : Bool} : boolF b = X.pure (.bool b) := rfl
noncomputable def isiF (P : Prog) (cs : List Nat) : V → X V := fun v => X.bind (isinsts P v cs) boolF
theorem isiF_at {cs : List Nat} {v : V} : isiF P cs v = X.bind (isinsts P v cs) boolF := rfl
theorem e_isi {a : Ex} {cs : List Nat} : ev P C (.isi a cs) loc = X.bind (ev P C a loc) (isiF P cs) := rfl
theorem e_comp {elt it : Ex} {tg : List Nat} {tup : Bool} {conds : Exs} : ev P C (.comp elt tg tup it conds) loc = X.bind (ev P C it loc) (compX tg tup (tstAnd P C conds) (ev P C elt) loc) := rfl
theorem es_nil : evs P C .nil loc = X.pure [] := rfl
noncomputable def consF2 (v : V) : List V → X (List V) := fun vs => X.pure (v :: vs)
theorem consF2_at {v : V} {vs : List V} : consF2 v vs = X.pure (v :: vs) := rfl
noncomputable def consF (P : Prog) (C : Calls) (es : Exs) (loc : Loc) : V → X (List V) := fun v => X.bind (evs P C es loc) (consF2 v)
theorem consF_at {es : Exs} {v : V} : consF P C es loc v = X.bind (evs P C es loc) (consF2 v) := rfl
theorem es_cons {e : Ex} {es : Exs} : evs P C (.cons e es) loc = X.bind (ev P C e loc) (consF P C es loc) := rfl
noncomputable def eandF (P : Prog) (C : Calls) (es : Exs) (loc : Loc) (v : V) : Bool → X V := fun t => bif t then evAnd P C es loc else X.pure v
theorem eandF_t {es : Exs} {v : V} : eandF P C es loc v true = evAnd P C es loc := rfl
theorem eandF_f {es : Exs} {v : V} : eandF P C es loc v false = X.pure v := rfl
theorem ea_one {e : Ex} : evAnd P C (.cons e .nil) loc = ev P C e loc := rfl
theorem ea_cons {e e' : Ex} {es : Exs} : evAnd P C (.cons e (.cons e' es)) loc = X.bind (ev P C e loc) fun v => X.bind (truth v) (eandF P C (.cons e' es) loc v) := by
  show (X.bind _ fun v => X.bind _ fun t => _) = _
  refine congrArg _ (funext fun v => congrArg _ (funext fun t => ?_)); cases t <;> rfl
/- tests -/
section
variable {w : X V}
noncomputable def tnotF : Bool → X Bool := fun t => X.pure (!t)
theorem tnotF_t : tnotF true = X.pure false := rfl
theorem tnotF_f : tnotF false = X.pure true := rfl
theorem tt_not {a : Ex} : tst P C (.not a) loc w = X.bind (tst P C a loc (ev P C a loc)) tnotF := rfl
theorem tt_band {es : Exs} : tst P C (.band es) loc w = tstAnd P C es loc := rfl
theorem tt_bor {es : Exs} : tst P C (.bor es) loc w = tstOr P C es loc := rfl
theorem tt_bool {b : Bool} : tst P C (.cbool b) loc w = X.bind w truth := rfl
theorem tt_loc {i : Nat} : tst P C (.loc i) loc w = X.bind w truth := rfl
theorem tt_cmp {op : PySem.CmpOp} {a b : Ex} : tst P C (.cmp op a b) loc w = X.bind w truth := rfl
theorem tt_cmp2 {o1 o2 : PySem.CmpOp} {a b c : Ex} : tst P C (.cmp2 o1 o2 a b c) loc w = X.bind w truth := rfl
theorem tt_call {f : Nat} {args : Exs} : tst P C (.call f args) loc w = X.bind w truth := rfl
theorem tt_meth {o : Ex} {i : Nat} {args : Exs} : tst P C (.meth o i args) loc w = X.bind w truth := rfl
theorem tt_isi {a : Ex} {cs : List Nat} : tst P C (.isi a cs) loc w = X.bind w truth := rfl
theorem tt_attr {a : Ex} {n : Nat} : tst P C (.attr a n) loc w = X.bind w truth := rfl
theorem tt_sub {a i : Ex} : tst P C (.sub a i) loc w = X.bind w truth := rfl
theorem tt_bin {op : PySem.Operator} {a b : Ex} : tst P C (.bin op a b) loc w = X.bind w truth := rfl
noncomputable def andF (P : Prog) (C : Calls) (es : Exs) (loc : Loc) : Bool → X Bool := fun t => bif t then tstAnd P C es loc else X.pure false
theorem andF_t {es : Exs} : andF P C es loc true = tstAnd P C es loc := rfl
theorem andF_f {es : Exs} : andF P C es loc false = X.pure false := rfl
theorem ta_nil : tstAnd P C .nil loc = X.pure true := rfl
theorem ta_cons {e : Ex} {es : Exs} : tstAnd P C (.cons e es) loc = X.bind (tst P C e loc (ev P C e loc)) (andF P C es loc) := by
  show (X.bind _ fun t => _) = _
  refine congrArg _ (funext fun t => ?_); cases t <;> rfl
noncomputable def orF (P : Prog) (C : Calls) (es : Exs) (loc : Loc) : Bool → X Bool := fun t => bif t then X.pure true else tstOr P C es loc
theorem orF_t {es : Exs} : orF P C es loc true = X.pure true := rfl
theorem orF_f {es : Exs} : orF P C es loc false = tstOr P C es loc := rfl
theorem to_nil : tstOr P C .nil loc = X.pure false := rfl
theorem to_cons {e : Ex} {es : Exs} : tstOr P C (.cons e es) loc = X.bind (tst P C e loc (ev P C e loc)) (orF P C es loc) := by
  show (X.bind _ fun t => _) = _
  refine congrArg _ (funext fun t => ?_); cases t <;> rfl
end
end
section
variable {P : Prog} {C : Calls} {σ : H} {ax : X (List V)} {Q : V → H → Prop}
theorem ok_of_eq {α : Type} {x y : X α} {Q : α → H → Prop} (h : x σ = y σ) : Ok x σ Q = Ok y σ Q := by unfold Ok; rw [h]
noncomputable def methF (C : Calls) (i : Nat) (ov : V) : List V → X V := fun vs => C true i (ov :: vs)
theorem methF_at {i : Nat} {ov : V} {vs : List V} : methF C i ov vs = C true i (ov :: vs) := rfl
theorem mx_inst {i p c d : Nat} {es : List (Nat × V)} (h1 : σ.get p = some (.inst c d)) (h2 : σ.get d = some (.attrs es)) (hi : 12 < i) : Ok (methX P C ax i (.ref p)) σ Q = Ok ax σ (bindK (methF C i (.ref p)) Q) := by
  rw [← ok_bind]
  refine ok_of_eq ?_
  have hk : kdOf (.ref p) σ = .inst := by unfold kdOf; simp only [h1, h2]
  unfold methX
  rw [hk]
  exact if_neg (Nat.not_le_of_lt hi)
theorem mx_list {i a : Nat} {xs : List V} (h1 : σ.get a = some (.list xs)) (hi : i = 6 ∨ i = 7 ∨ i = 8) : Ok (methX P C ax i (.ref a)) σ Q = Ok ax σ (bindK (listMeth P (.ref a) i) Q) := by
  rw [← ok_bind]
  refine ok_of_eq ?_
  have hk : kdOf (.ref a) σ = .list := by unfold kdOf; simp only [h1]
  unfold methX
  rw [hk]
  exact if_pos hi
theorem mx_dict {a : Nat} {es : List (V × V)} (h1 : σ.get a = some (.dict es)) : Ok (methX P C ax 7 (.ref a)) σ Q = Ok ax σ (bindK (dictMeth P (.ref a) 7) Q) := by
  rw [← ok_bind]
  refine ok_of_eq ?_
  have hk : kdOf (.ref a) σ = .dict := by unfold kdOf; simp only [h1]
  unfold methX
  rw [hk]
  exact if_pos rfl
end

noncomputable def OkW (P : Prog) (C : Calls) (F n : Nat) (c : Ex) (b : Sts) (loc : Loc) (σ : H) (Q : Option V → Loc → H → Prop) : Prop := OkS (whileL (fun l => tst P C c l (ev P C c l)) (exs P C F b) n loc σ) Q
noncomputable def OkF (P : Prog) (C : Calls) (F : Nat) (v : V) (tg : List Nat) (tup : Bool) (b : Sts) (h₀ : H) (vs : List V) (loc : Loc) (σ : H) (Q : Option V → Loc → H → Prop) : Prop := OkS (forL v tg tup (exs P C F b) h₀ vs loc σ) Q
section
variable {P : Prog} {C : Calls} {F : Nat} {loc : Loc} {σ : H} {Q : Option V → Loc → H → Prop}
theorem s_whl {c : Ex} {b : Sts} : OkS (ex P C F (.whl c b) loc σ) Q = OkW P C F F c b loc σ Q := rfl
noncomputable def turnK (P : Prog) (C : Calls) (F n : Nat) (c : Ex) (b : Sts) (Q : Option V → Loc → H → Prop) : Option V → Loc → H → Prop := fun r l σ => match r with | none => OkW P C F n c b l σ Q | some v => Q (some v) l σ
theorem turnK_none {n : Nat} {c : Ex} {b : Sts} : turnK P C F n c b Q none loc σ = OkW P C F n c b loc σ Q := rfl
theorem turnK_some {n : Nat} {c : Ex} {b : Sts} {v : V} : turnK P C F n c b Q (some v) loc σ = Q (some v) loc σ := rfl
noncomputable def whlK (P : Prog) (C : Calls) (F n : Nat) (c : Ex) (b : Sts) (loc : Loc) (Q : Option V → Loc → H → Prop) : Bool → H → Prop := fun t σ => bif t then OkS (exs P C F b loc σ) (turnK P C F n c b Q) else Q none loc σ
theorem whlK_t {n : Nat} {c : Ex} {b : Sts} : whlK P C F n c b loc Q true σ = OkS (exs P C F b loc σ) (turnK P C F n c b Q) := rfl
theorem whlK_f {n : Nat} {c : Ex} {b : Sts} : whlK P C F n c b loc Q false σ = Q none loc σ := rfl
theorem w_step {n : Nat} {c : Ex} {b : Sts} : OkW P C F (n + 1) c b loc σ Q = Ok (tst P C c loc (ev P C c loc)) σ (whlK P C F n c b loc Q) := by
  unfold OkW Ok whileL
  cases tst P C c loc (ev P C c loc) σ with
  | none => rfl
  | some p =>
    obtain ⟨tr, σ₁⟩ := p
    cases tr with
    | err k => rfl
    | ok t =>
      cases t with
      | false => rfl
      | true =>
        show OkS (match exs P C F b loc σ₁ with | none => none | some (.ok none, l₂, h₂) => _ | some r => some r) Q = OkS (exs P C F b loc σ₁) _
        cases exs P C F b loc σ₁ with
        | none => rfl
        | some p₂ => obtain ⟨rr, l₂, σ₂⟩ := p₂; cases rr with
          | err k => rfl
          | ok o => cases o <;> rfl
noncomputable def forK (P : Prog) (C : Calls) (F : Nat) (tg : List Nat) (tup : Bool) (b : Sts) (loc : Loc) (Q : Option V → Loc → H → Prop) : V → H → Prop := fun v σ => ∃ vs, iterOf v σ = some vs ∧ OkF P C F v tg tup b σ vs loc σ Q
theorem forK_at {tg : List Nat} {tup : Bool} {b : Sts} {v : V} : forK P C F tg tup b loc Q v σ = ∃ vs, iterOf v σ = some vs ∧ OkF P C F v tg tup b σ vs loc σ Q := rfl
theorem s_for {tg : List Nat} {tup : Bool} {e : Ex} {b : Sts} : OkS (ex P C F (.for tg tup e b) loc σ) Q = Ok (ev P C e loc) σ (forK P C F tg tup b loc Q) := by
  refine oks_on.trans (congrArg _ ?_)
  funext v σ₁
  refine propext ⟨fun h => ?_, ?_⟩
  · unfold onK at h
    dsimp only at h
    cases hi : iterOf v σ₁ with
    | none => rw [hi] at h; exact h.elim
    | some vs => rw [hi] at h; exact ⟨vs, hi, h⟩
  · rintro ⟨vs, hi, h⟩
    unfold onK; dsimp only; rw [hi]; exact h
theorem f_nil {v : V} {tg : List Nat} {tup : Bool} {b : Sts} {h₀ : H} : OkF P C F v tg tup b h₀ [] loc σ Q = Q none loc σ := rfl
theorem f_inv {v : V} {i : Nat} {b : Sts} {h₀ : H} {vs : List V} (I : Nat → Loc → H → Prop) (h0 : I 0 loc σ)
    (step : ∀ j l s y, vs[j]? = some y → I j l s → OkS (exs P C F b (l.upd i y) s) (fun r l' s' => r = none ∧ still v h₀ s' = true ∧ I (j + 1) l' s')) (fin : ∀ l s, I vs.length l s → Q none l s) : OkF P C F v [i] false b h₀ vs loc σ Q := by
  have key : ∀ (rest : List V) (j : Nat) (l : Loc) (s : H), j ≤ vs.length → vs.drop j = rest → I j l s → OkF P C F v [i] false b h₀ rest l s Q := by
    intro rest
    induction rest with
    | nil =>
      intro j l s hle hd hI
      rw [f_nil]
      have hj : vs.length ≤ j := List.drop_eq_nil_iff.mp hd
      have hje : j = vs.length := Nat.le_antisymm hle hj
      subst hje; exact fin l s hI
    | cons y ys ih =>
      intro j l s hle hd hI
      have hj : vs[j]? = some y := by
        have : (vs.drop j)[0]? = some y := by rw [hd]; rfl
        simpa using this
      obtain ⟨r, l', s', hb, rfl, hst, hI'⟩ := oks_iff.mp (step j l s y hj hI)
      have hd' : vs.drop (j + 1) = ys := by
        have : (vs.drop j).drop 1 = ys := by rw [hd]; rfl
        simpa [Nat.add_comm] using this
      have h2 := ih (j + 1) l' s' (List.getElem?_eq_some_iff.mp hj).1 hd' hI'
      unfold OkF forL
      have hbt : bindTg [i] false y l s = some (l.upd i y) := rfl
      rw [hbt]
      dsimp only
      rw [hb]
      dsimp only
      rw [if_pos hst]
      exact h2
  exact key vs 0 loc σ (Nat.zero_le _) rfl h0
theorem compL_pure {v : V} {i : Nat} {t : Loc → X Bool} {e : Loc → X V} {h₀ : H} (p : V → Bool) (g : V → V) (hst : still v h₀ σ = true) : ∀ vs : List V, (∀ y ∈ vs, t (loc.upd i y) σ = some (.ok (p y), σ)) → (∀ y ∈ vs, p y = true → e (loc.upd i y) σ = some (.ok (g y), σ)) →
    compL v [i] false t e loc h₀ vs σ = some (.ok ((vs.filter p).map g), σ)
  | [], _, _ => rfl
  | y :: ys, h1, h2 => by
    have ih := compL_pure p g hst ys (fun z hz => h1 z (.tail _ hz)) (fun z hz => h2 z (.tail _ hz))
    unfold compL
    have hbt : bindTg [i] false y loc σ = some (loc.upd i y) := rfl
    rw [hbt]
    dsimp only
    rw [h1 y (.head _)]
    cases hp : p y with
    | false => dsimp only; rw [if_pos hst, ih, List.filter_cons, hp]; rfl
    | true => dsimp only; rw [h2 y (.head _) hp]; dsimp only; rw [if_pos hst, ih, List.filter_cons, hp]; rfl
theorem c_pure {v : V} {i : Nat} {t : Loc → X Bool} {e : Loc → X V} {vs : List V} {Q : V → H → Prop} (p : V → Bool) (g : V → V) (hi : iterOf v σ = some vs) (h1 : ∀ y ∈ vs, t (loc.upd i y) σ = some (.ok (p y), σ)) (h2 : ∀ y ∈ vs, p y = true → e (loc.upd i y) σ = some (.ok (g y), σ))
    (hl : ((vs.filter p).map g).length ≤ lim) : Ok (compX [i] false t e loc v) σ Q = Q (.ref σ.length) (σ.push (.list ((vs.filter p).map g))) := by
  refine ok_some ?_
  unfold compX
  rw [hi]
  have hst : still v σ σ = true := by cases v <;> simp [still]
  dsimp only
  unfold X.bind
  rw [compL_pure p g hst vs h1 h2]
  dsimp only
  unfold alloc
  rw [if_pos (by simpa [okO] using hl)]
theorem ok_alloc {o : O} {Q : V → H → Prop} (h : okO o = true) : Ok (alloc o) σ Q = Q (.ref σ.length) (σ.push o) := ok_some (by unfold alloc; rw [if_pos h])
theorem ok_eq {α : Type} {x : X α} {a : α} {σ' : H} (h : Ok x σ (fun b s => b = a ∧ s = σ')) : x σ = some (.ok a, σ') := by
  obtain ⟨b, s, h', rfl, rfl⟩ := ok_iff.mp h; exact h'
theorem it_list {a : Nat} {xs : List V} (h : σ.get a = some (.list xs)) : iterOf (.ref a) σ = some xs := by unfold iterOf; simp [h]
theorem it_range {a : Nat} {n : Int} (h : σ.get a = some (.rng 0 n 1)) (h0 : 0 ≤ n) (h1 : n ≤ 1000000) : iterOf (.ref a) σ = some ((List.range n.toNat).map fun (k : Nat) => V.int (k : Int)) := by
  unfold iterOf
  simp only [h]
  have c1 : small' 0 = true := by decide
  have c2 : small' n = true := by unfold small'; simp; lia
  have c3 : small' 1 = true := by decide
  rw [c1, c2, c3, if_pos (by simp [lim]; lia)]
  congr 1
  unfold rangeList
  rw [if_pos (by decide)]
  by_cases hn : 0 < n
  · rw [if_pos hn]
    have : ((n - 0 - 1) / 1 + 1).toNat = n.toNat := by lia
    rw [this, List.map_map]
    apply List.map_congr_left
    intro k _
    simp
  · have : n = 0 := by lia
    subst this; rfl
theorem still_get {a : Nat} {h h' : H} (e : h'.get a = h.get a) : still (.ref a) h h' = true := by simp [still, e]
end
end Mine

set_option autoImplicit false
namespace Mine.PP
open PySem Mine
noncomputable def m___init___5 : Sts := .cons (.asg (.attr (.loc 46) 51) (.cint 0)) .nil
noncomputable def m___init___4 : Sts := .cons (.asg (.attr (.loc 46) 50) (.dict .nil .nil)) m___init___5
noncomputable def m___init___3 : Sts := .cons (.asg (.attr (.loc 46) 49) (.dict .nil .nil)) m___init___4
noncomputable def m___init___2 : Sts := .cons (.asg (.attr (.loc 46) 48) (.dict .nil .nil)) m___init___3
noncomputable def m___init___1 : Sts := .cons (.asg (.attr (.loc 46) 47) (.comp .cnone [14] false (.bi .range (.cons (.glo 21) .nil)) .nil)) m___init___2
noncomputable def m___init__ : FD := ⟨[46], m___init___1⟩
noncomputable def m_need_hand : FD := ⟨[46, 52],
  (.cons (.ite (.not (.cmp2 .LtE .Lt (.cint 0) (.loc 52) (.glo 21)))
    (.cons (.rais 17 (.ofString "no such hand"))
    .nil)
    .nil)
  .nil)⟩
noncomputable def m_need_box : FD := ⟨[46, 53],
  (.cons (.ite (.cmp .NotIn (.loc 53) (.attr (.loc 46) 48))
    (.cons (.rais 20 (.ofString "no such box"))
    .nil)
    .nil)
  .nil)⟩
noncomputable def m_box_with_slot : FD := ⟨[46, 52, 54],
  (.cons (.asg (.var 53) (.sub (.attr (.loc 46) 47) (.loc 52)))
  (.cons (.ite (.cmp .Is (.loc 53) .cnone)
    (.cons (.rais 20 (.ofString "the hand holds none"))
    .nil)
    .nil)
  (.cons (.ite (.not (.cmp2 .LtE .Lt (.cint 0) (.loc 54) (.bi .len (.cons (.sub (.attr (.loc 46) 48) (.loc 53)) .nil))))
    (.cons (.rais 85 (.ofString "no such slot"))
    .nil)
    .nil)
  (.cons (.ret (.loc 53))
  .nil))))⟩
noncomputable def m_counted : FD := ⟨[46, 53],
  (.cons (.ite (.cmp .IsNot (.loc 53) .cnone)
    (.cons (.asg (.sub (.attr (.loc 46) 49) (.loc 53)) (.bin .Add (.sub (.attr (.loc 46) 49) (.loc 53)) (.cint 1)))
    .nil)
    .nil)
  .nil)⟩
noncomputable def m_let_go_5 : Sts := .cons (.ret (.loc 55)) .nil
noncomputable def m_let_go_4w_3 : Sts := .cons (.asg (.var 56) (.bin .Add (.loc 56) (.cint 1))) .nil
noncomputable def m_let_go_4w_2f_1 : Sts := .cons (.expr (.meth (.loc 46) 31 (.cons (.loc 60) (.cons (.loc 55) .nil)))) .nil
noncomputable def m_let_go_4w_2 : Sts := .cons (.for [60] false (.loc 62) m_let_go_4w_2f_1) m_let_go_4w_3
noncomputable def m_let_go_4w_1 : Sts := .cons (.asg (.var 62) (.meth (.attr (.loc 46) 48) 7 (.cons (.sub (.loc 55) (.loc 56)) .nil))) m_let_go_4w_2
noncomputable def m_let_go_4 : Sts := .cons (.whl (.cmp .Lt (.loc 56) (.bi .len (.cons (.loc 55) .nil))) m_let_go_4w_1) m_let_go_5
noncomputable def m_let_go_3 : Sts := .cons (.asg (.var 56) (.cint 0)) m_let_go_4
noncomputable def m_let_go_2 : Sts := .cons (.expr (.meth (.loc 46) 31 (.cons (.loc 53) (.cons (.loc 55) .nil)))) m_let_go_3
noncomputable def m_let_go_1 : Sts := .cons (.asg (.var 55) (.list .nil)) m_let_go_2
noncomputable def m_let_go : FD := ⟨[46, 53], m_let_go_1⟩
noncomputable def m_lighter : FD := ⟨[46, 53, 55],
  (.cons (.ite (.cmp .Is (.loc 53) .cnone)
    (.cons .ret0
    .nil)
    .nil)
  (.cons (.asg (.sub (.attr (.loc 46) 49) (.loc 53)) (.bin .Sub (.sub (.attr (.loc 46) 49) (.loc 53)) (.cint 1)))
  (.cons (.ite (.cmp .Gt (.sub (.attr (.loc 46) 49) (.loc 53)) (.cint 0))
    (.cons (.asg (.sub (.attr (.loc 46) 50) (.loc 53)) (.cbool true))
    (.cons .ret0
    .nil))
    .nil)
  (.cons (.expr (.meth (.attr (.loc 46) 49) 7 (.cons (.loc 53) .nil)))
  (.cons (.expr (.meth (.attr (.loc 46) 50) 7 (.cons (.loc 53) (.cons (.cbool false) .nil))))
  (.cons (.expr (.meth (.loc 55) 6 (.cons (.loc 53) .nil)))
  .nil))))))⟩
noncomputable def m_handed_4 : Sts := .cons (.ret (.meth (.loc 46) 30 (.cons (.loc 57) .nil))) .nil
noncomputable def m_handed_3 : Sts := .cons (.asg (.sub (.attr (.loc 46) 47) (.loc 52)) (.loc 53)) m_handed_4
noncomputable def m_handed_2 : Sts := .cons (.asg (.var 57) (.sub (.attr (.loc 46) 47) (.loc 52))) m_handed_3
noncomputable def m_handed_1 : Sts := .cons (.expr (.meth (.loc 46) 29 (.cons (.loc 53) .nil))) m_handed_2
noncomputable def m_handed : FD := ⟨[46, 52, 53], m_handed_1⟩
noncomputable def m_pointed_4 : Sts := .cons (.ret (.meth (.loc 46) 30 (.cons (.loc 57) .nil))) .nil
noncomputable def m_pointed_3 : Sts := .cons (.asg (.sub (.sub (.attr (.loc 46) 48) (.loc 58)) (.loc 54)) (.loc 53)) m_pointed_4
noncomputable def m_pointed_2 : Sts := .cons (.asg (.var 57) (.sub (.sub (.attr (.loc 46) 48) (.loc 58)) (.loc 54))) m_pointed_3
noncomputable def m_pointed_1 : Sts := .cons (.expr (.meth (.loc 46) 29 (.cons (.loc 53) .nil))) m_pointed_2
noncomputable def m_pointed : FD := ⟨[46, 58, 54, 53], m_pointed_1⟩
noncomputable def m_make_8 : Sts := .cons (.ret (.meth (.loc 46) 32 (.cons (.loc 52) (.cons (.loc 53) .nil)))) .nil
noncomputable def m_make_7 : Sts := .cons (.asg (.sub (.attr (.loc 46) 49) (.loc 53)) (.cint 0)) m_make_8
noncomputable def m_make_6 : Sts := .cons (.asg (.sub (.attr (.loc 46) 48) (.loc 53)) (.comp .cnone [14] false (.bi .range (.cons (.loc 59) .nil)) .nil)) m_make_7
noncomputable def m_make_5 : Sts := .cons (.asg (.attr (.loc 46) 51) (.bin .Add (.loc 53) (.cint 1))) m_make_6
noncomputable def m_make_4 : Sts := .cons (.asg (.var 53) (.attr (.loc 46) 51)) m_make_5
noncomputable def m_make_3a_1 : Sts := .cons (.rais 19 (.ofString "as many boxes as may be are alive")) .nil
noncomputable def m_make_3 : Sts := .cons (.ite (.cmp .Eq (.bi .len (.cons (.attr (.loc 46) 48) .nil)) (.glo 23)) m_make_3a_1 .nil) m_make_4
noncomputable def m_make_2a_1 : Sts := .cons (.rais 18 (.ofString "no such size")) .nil
noncomputable def m_make_2 : Sts := .cons (.ite (.not (.cmp2 .LtE .LtE (.cint 0) (.loc 59) (.glo 22))) m_make_2a_1 .nil) m_make_3
noncomputable def m_make_1 : Sts := .cons (.expr (.meth (.loc 46) 26 (.cons (.loc 52) .nil))) m_make_2
noncomputable def m_make : FD := ⟨[46, 52, 59], m_make_1⟩
noncomputable def m_hold : FD := ⟨[46, 52, 60],
  (.cons (.expr (.meth (.loc 46) 26 (.cons (.loc 52) .nil)))
  (.cons (.expr (.meth (.loc 46) 26 (.cons (.loc 60) .nil)))
  (.cons (.ret (.meth (.loc 46) 32 (.cons (.loc 52) (.cons (.sub (.attr (.loc 46) 47) (.loc 60)) .nil))))
  .nil)))⟩
noncomputable def m_drop : FD := ⟨[46, 52],
  (.cons (.expr (.meth (.loc 46) 26 (.cons (.loc 52) .nil)))
  (.cons (.ret (.meth (.loc 46) 32 (.cons (.loc 52) (.cons .cnone .nil))))
  .nil))⟩
noncomputable def m_put : FD := ⟨[46, 52, 54, 60],
  (.cons (.expr (.meth (.loc 46) 26 (.cons (.loc 52) .nil)))
  (.cons (.expr (.meth (.loc 46) 26 (.cons (.loc 60) .nil)))
  (.cons (.asg (.var 58) (.meth (.loc 46) 28 (.cons (.loc 52) (.cons (.loc 54) .nil))))
  (.cons (.ret (.meth (.loc 46) 33 (.cons (.loc 58) (.cons (.loc 54) (.cons (.sub (.attr (.loc 46) 47) (.loc 60)) .nil)))))
  .nil))))⟩
noncomputable def m_empty : FD := ⟨[46, 52, 54],
  (.cons (.expr (.meth (.loc 46) 26 (.cons (.loc 52) .nil)))
  (.cons (.asg (.var 58) (.meth (.loc 46) 28 (.cons (.loc 52) (.cons (.loc 54) .nil))))
  (.cons (.ret (.meth (.loc 46) 33 (.cons (.loc 58) (.cons (.loc 54) (.cons .cnone .nil)))))
  .nil)))⟩
noncomputable def m_take : FD := ⟨[46, 52, 60, 54],
  (.cons (.expr (.meth (.loc 46) 26 (.cons (.loc 52) .nil)))
  (.cons (.expr (.meth (.loc 46) 26 (.cons (.loc 60) .nil)))
  (.cons (.asg (.var 58) (.meth (.loc 46) 28 (.cons (.loc 60) (.cons (.loc 54) .nil))))
  (.cons (.ret (.meth (.loc 46) 32 (.cons (.loc 52) (.cons (.sub (.sub (.attr (.loc 46) 48) (.loc 58)) (.loc 54)) .nil))))
  .nil))))⟩
noncomputable def m_holds : FD := ⟨[46, 52],
  (.cons (.expr (.meth (.loc 46) 26 (.cons (.loc 52) .nil)))
  (.cons (.ret (.sub (.attr (.loc 46) 47) (.loc 52)))
  .nil))⟩
noncomputable def m_points : FD := ⟨[46, 53],
  (.cons (.expr (.meth (.loc 46) 27 (.cons (.loc 53) .nil)))
  (.cons (.ret (.bi .list (.cons (.sub (.attr (.loc 46) 48) (.loc 53)) .nil)))
  .nil))⟩
noncomputable def m_weighs : FD := ⟨[46, 53],
  (.cons (.expr (.meth (.loc 46) 27 (.cons (.loc 53) .nil)))
  (.cons (.ret (.sub (.attr (.loc 46) 49) (.loc 53)))
  .nil))⟩
noncomputable def m_alive : FD := ⟨[46],
  (.cons (.ret (.bi .sorted (.cons (.attr (.loc 46) 48) .nil)))
  .nil)⟩
noncomputable def m_suspects : FD := ⟨[46],
  (.cons (.ret (.bi .sorted (.cons (.attr (.loc 46) 50) .nil)))
  .nil)⟩
noncomputable def f__law_whole : FD := ⟨[67],
  (.cons (.ret (.band (.cons (.isi (.loc 67) [0]) (.cons (.not (.isi (.loc 67) [1])) .nil))))
  .nil)⟩
noncomputable def f__law_cell_at : FD := ⟨[70, 71],
  (.cons (.ite (.cmp .Lt (.loc 71) (.bi .len (.cons (.loc 70) .nil)))
    (.cons (.ret (.sub (.loc 70) (.loc 71)))
    .nil)
    .nil)
  (.cons (.ret (.cint 0))
  .nil))⟩
noncomputable def f__law_numbers : FD := ⟨[67, 73],
  (.cons (.ite (.bor (.cons (.not (.isi (.loc 67) [2])) (.cons (.cmp .NotEq (.bi .len (.cons (.loc 67) .nil)) (.bi .len (.cons (.loc 73) .nil))) .nil)))
    (.cons (.ret (.cbool false))
    .nil)
    .nil)
  (.cons (.for [71] false (.bi .range (.cons (.bi .len (.cons (.loc 73) .nil)) .nil))
    (.cons (.ite (.cmp .Is (.sub (.loc 73) (.loc 71)) .cnone)
      (.cons (.ite (.cmp .IsNot (.sub (.loc 67) (.loc 71)) .cnone)
        (.cons (.ret (.cbool false))
        .nil)
        .nil)
      .nil)
      (.cons (.ite (.bor (.cons (.not (.call 66 (.cons (.sub (.loc 67) (.loc 71)) .nil))) (.cons (.cmp .NotEq (.sub (.loc 67) (.loc 71)) (.sub (.loc 73) (.loc 71))) .nil)))
        (.cons (.ret (.cbool false))
        .nil)
        .nil)
      .nil))
    .nil))
  (.cons (.ret (.cbool true))
  .nil)))⟩
end Mine.PP

set_option autoImplicit false
namespace Mine

/- assoc lists by Nat keys -/
noncomputable def aGet {β : Type} : List (Nat × β) → Nat → Option β
  | [], _ => none
  | (k', v) :: r, k => if k' = k then some v else aGet r k
noncomputable def aSet {β : Type} : List (Nat × β) → Nat → β → List (Nat × β)
  | [], k, v => [(k, v)]
  | (k', v') :: r, k, v => if k' = k then (k', v) :: r else (k', v') :: aSet r k v
noncomputable def aDel {β : Type} : List (Nat × β) → Nat → List (Nat × β)
  | [], _ => []
  | (k', v') :: r, k => if k' = k then r else (k', v') :: aDel r k
noncomputable def keys {β : Type} (l : List (Nat × β)) : List Nat := l.map (·.1)

section
variable {β : Type} {l : List (Nat × β)} {k j : Nat} {v w : β}
theorem aGet_some_mem : ∀ {l : List (Nat × β)}, aGet l k = some v → (k, v) ∈ l
  | [], h => by cases h
  | (a, b) :: r, h => by
    unfold aGet at h
    split at h
    · rename_i e; cases h; subst e; exact .head _
    · exact .tail _ (aGet_some_mem h)
theorem keys_mem (h : (k, v) ∈ l) : k ∈ keys l := List.mem_map.mpr ⟨_, h, rfl⟩
theorem aGet_none : ∀ {l : List (Nat × β)}, aGet l k = none ↔ k ∉ keys l
  | [] => by simp [aGet, keys]
  | (a, b) :: r => by
    have ih := aGet_none (l := r)
    unfold aGet
    by_cases e : a = k
    · simp [e, keys]
    · rw [if_neg e, ih]; simp [keys, Ne.symm e]
theorem aGet_of_mem : ∀ {l : List (Nat × β)}, (keys l).Nodup → (k, v) ∈ l → aGet l k = some v
  | [], _, h => by cases h
  | (a, b) :: r, nd, h => by
    simp only [keys, List.map_cons, List.nodup_cons] at nd
    unfold aGet
    rcases List.mem_cons.mp h with e | h
    · cases e; rw [if_pos rfl]
    · rw [if_neg (fun e => nd.1 (by subst e; exact keys_mem h))]; exact aGet_of_mem nd.2 h
theorem aGet_key (h : k ∈ keys l) : ∃ v, aGet l k = some v := by
  cases e : aGet l k with
  | some v => exact ⟨v, rfl⟩
  | none => exact absurd h (aGet_none.mp e)
theorem aGet_aSet_same : ∀ {l : List (Nat × β)}, aGet (aSet l k v) k = some v
  | [] => by simp [aSet, aGet]
  | (a, b) :: r => by unfold aSet; split <;> simp_all [aGet, aGet_aSet_same]
theorem aGet_aSet_ne (h : j ≠ k) : ∀ {l : List (Nat × β)}, aGet (aSet l k v) j = aGet l j
  | [] => by simp [aSet, aGet, Ne.symm h]
  | (a, b) :: r => by
    unfold aSet
    split
    · rename_i e; subst e; simp [aGet, Ne.symm h]
    · simp only [aGet]; rw [aGet_aSet_ne h]
theorem aGet_aDel_ne (h : j ≠ k) : ∀ {l : List (Nat × β)}, aGet (aDel l k) j = aGet l j
  | [] => rfl
  | (a, b) :: r => by
    unfold aDel
    split
    · rename_i e; subst e; simp [aGet, Ne.symm h]
    · simp only [aGet]; rw [aGet_aDel_ne h]
theorem keys_aSet : ∀ {l : List (Nat × β)}, k ∈ keys l → keys (aSet l k v) = keys l
  | [], h => by simp [keys] at h
  | (a, b) :: r, h => by
    unfold aSet
    split
    · rfl
    · rename_i e
      have : k ∈ keys r := by
        simp only [keys, List.map_cons, List.mem_cons] at h
        rcases h with h | h
        · exact absurd h.symm e
        · exact h
      show a :: keys (aSet r k v) = a :: keys r
      rw [keys_aSet this]
theorem keys_aDel : ∀ {l : List (Nat × β)}, keys (aDel l k) = (keys l).erase k
  | [] => rfl
  | (a, b) :: r => by
    unfold aDel
    show _ = (a :: keys r).erase k
    rw [List.erase_cons]
    by_cases e : a = k
    · simp [e]
    · simp only [e, if_false, beq_iff_eq]
      show a :: keys (aDel r k) = _
      rw [keys_aDel]
theorem aGet_aDel_same (nd : (keys l).Nodup) : aGet (aDel l k) k = none := by
  rw [aGet_none, keys_aDel]
  intro h
  exact (List.Nodup.mem_erase_iff nd).mp h |>.1 rfl
theorem aDel_mem : ∀ {l : List (Nat × β)} {p : Nat × β}, p ∈ aDel l k → p ∈ l
  | [], p, h => h
  | (a, b) :: r, p, h => by
    unfold aDel at h
    split at h
    · exact .tail _ h
    · rcases List.mem_cons.mp h with e | h
      · subst e; exact .head _
      · exact .tail _ (aDel_mem h)
theorem aSet_mem : ∀ {l : List (Nat × β)} {p : Nat × β}, p ∈ aSet l k v → p = (k, v) ∨ p ∈ l
  | [], p, h => by simp [aSet] at h; exact .inl h
  | (a, b) :: r, p, h => by
    unfold aSet at h
    split at h
    · rename_i e; subst e
      rcases List.mem_cons.mp h with h | h
      · exact .inl h
      · exact .inr (.tail _ h)
    · rcases List.mem_cons.mp h with e | h
      · subst e; exact .inr (.head _)
      · rcases aSet_mem h with h | h
        · exact .inl h
        · exact .inr (.tail _ h)
theorem aSet_absent : ∀ {l : List (Nat × β)}, k ∉ keys l → aSet l k v = l ++ [(k, v)]
  | [], _ => rfl
  | (a, b) :: r, h => by
    simp only [keys, List.map_cons, List.mem_cons, not_or] at h
    unfold aSet
    rw [if_neg (fun e => h.1 e.symm), aSet_absent h.2]; rfl
theorem aSet_len (h : k ∈ keys l) : (aSet l k v).length = l.length := by
  have := congrArg List.length (keys_aSet (v := v) h)
  simpa [keys] using this
theorem aDel_len (h : k ∈ keys l) : (aDel l k).length + 1 = l.length := by
  have e := congrArg List.length (keys_aDel (k := k) (l := l))
  rw [List.length_erase_of_mem h] at e
  have hp : 0 < (keys l).length := List.length_pos_of_mem h
  simp only [keys, List.length_map] at e hp
  lia
end

structure PS where
  hands : List (Option Nat)
  boxes : List (Nat × List (Option Nat))
  weights : List (Nat × Nat)
  doubted : List Nat
  made : Nat

noncomputable def ptrs (s : PS) : List (Option Nat) := s.hands ++ s.boxes.flatMap (·.2)
noncomputable def addN (l : List Nat) (k : Nat) : List Nat := if k ∈ l then l else l ++ [k]
noncomputable def wt (s : PS) (k : Nat) : Nat := (aGet s.weights k).getD 0

noncomputable def lightS (s : PS) : Option Nat → PS × List Nat
  | none => (s, [])
  | some k => if 1 < wt s k then ({ s with weights := aSet s.weights k (wt s k - 1), doubted := addN s.doubted k }, [])
    else ({ s with weights := aDel s.weights k, doubted := s.doubted.erase k }, [k])
noncomputable def lightAll : PS → List (Option Nat) → PS × List Nat
  | s, [] => (s, [])
  | s, x :: xs => ((lightAll (lightS s x).1 xs).1, (lightS s x).2 ++ (lightAll (lightS s x).1 xs).2)
noncomputable def popS (s : PS) (k : Nat) : PS := { s with boxes := aDel s.boxes k }
noncomputable def slotsOf (s : PS) (k : Nat) : List (Option Nat) := (aGet s.boxes k).getD []
noncomputable def fallS : Nat → PS → List Nat → PS × List Nat
  | 0, s, left => (s, left)
  | _ + 1, s, [] => (s, [])
  | n + 1, s, k :: rest => ((fallS n (lightAll (popS s k) (slotsOf s k)).1 (rest ++ (lightAll (popS s k) (slotsOf s k)).2)).1, k :: (fallS n (lightAll (popS s k) (slotsOf s k)).1 (rest ++ (lightAll (popS s k) (slotsOf s k)).2)).2)
noncomputable def letgoS (s : PS) (x : Option Nat) : PS × List Nat := fallS s.boxes.length (lightS s x).1 (lightS s x).2
noncomputable def countS (s : PS) : Option Nat → PS
  | none => s
  | some k => { s with weights := aSet s.weights k (wt s k + 1) }
noncomputable def handOf (s : PS) (h : Nat) : Option Nat := (s.hands[h]?).getD none
noncomputable def handedS (s : PS) (h : Nat) (x : Option Nat) : PS × List Nat := letgoS { countS s x with hands := s.hands.set h x } (handOf s h)
noncomputable def slotOf (s : PS) (b i : Nat) : Option Nat := ((slotsOf s b)[i]?).getD none
noncomputable def pointedS (s : PS) (b i : Nat) (x : Option Nat) : PS × List Nat := letgoS { countS s x with boxes := aSet s.boxes b ((slotsOf s b).set i x) } (slotOf s b i)
noncomputable def bornS (s : PS) (size : Nat) : PS := { s with made := s.made + 1, boxes := s.boxes ++ [(s.made, List.replicate size none)], weights := s.weights ++ [(s.made, 0)] }
noncomputable def makeS (s : PS) (h size : Nat) : PS × List Nat := handedS (bornS s size) h (some s.made)
noncomputable def newS : PS := ⟨List.replicate 8 none, [], [], [], 0⟩

structure PGood (s : PS) (pend : List (Option Nat)) (left : List Nat) : Prop where
  hl : s.hands.length = 8
  ct : ∀ k, wt s k = (ptrs s ++ pend).count (some k)
  pos : ∀ k w, aGet s.weights k = some w → 1 ≤ w
  pm : (keys s.weights ++ left).Perm (keys s.boxes)
  nd : (keys s.boxes).Nodup
  dn : s.doubted.Nodup
  dw : ∀ k ∈ s.doubted, k ∈ keys s.weights
  md : ∀ k ∈ keys s.boxes, k < s.made
  sl : ∀ k xs, (k, xs) ∈ s.boxes → xs.length ≤ 6

section
variable {s : PS} {pend : List (Option Nat)} {left : List Nat}
theorem PGood.ndw (I : PGood s pend left) : (keys s.weights ++ left).Nodup := I.pm.nodup_iff.mpr I.nd
theorem PGood.wnd (I : PGood s pend left) : (keys s.weights).Nodup := (List.nodup_append.mp I.ndw).1
theorem PGood.key (_I : PGood s pend left) {k : Nat} (h : 0 < wt s k) : ∃ w, aGet s.weights k = some (w + 1) := by
  unfold wt at h
  cases e : aGet s.weights k with
  | none => rw [e] at h; simp at h
  | some w => rw [e] at h; simp at h; exact ⟨w - 1, by congr 1; lia⟩
theorem addN_nodup {l : List Nat} {k : Nat} (h : l.Nodup) : (addN l k).Nodup := by
  unfold addN
  split
  · exact h
  · rename_i hk; exact List.nodup_append.mpr ⟨h, by simp, fun a ha b hb e => by simp at hb; subst hb; subst e; exact hk ha⟩
theorem addN_mem {l : List Nat} {k j : Nat} : j ∈ addN l k ↔ j ∈ l ∨ j = k := by
  unfold addN
  split
  · rename_i h; constructor
    · exact .inl
    · rintro (h' | rfl)
      · exact h'
      · exact h
  · simp
theorem light_boxes {x : Option Nat} : (lightS s x).1.boxes = s.boxes ∧ (lightS s x).1.hands = s.hands ∧ (lightS s x).1.made = s.made := by
  cases x with
  | none => exact ⟨rfl, rfl, rfl⟩
  | some k => simp only [lightS]; split <;> exact ⟨rfl, rfl, rfl⟩
theorem light_inv {x : Option Nat} (I : PGood s (x :: pend) left) : PGood (lightS s x).1 pend (left ++ (lightS s x).2) := by
  cases x with
  | none =>
    show PGood s pend (left ++ [])
    refine ⟨I.hl, fun k => ?_, I.pos, by simpa using I.pm, I.nd, I.dn, I.dw, I.md, I.sl⟩
    have := I.ct k
    simp only [List.count_append, List.count_cons] at this ⊢
    simpa using this
  | some k =>
    have hc := I.ct k
    simp only [List.count_append, List.count_cons, beq_self_eq_true, if_true] at hc
    obtain ⟨w, hw⟩ := I.key (k := k) (by lia)
    have hwt : wt s k = w + 1 := by unfold wt; rw [hw]; rfl
    have hk : k ∈ keys s.weights := keys_mem (aGet_some_mem hw)
    unfold lightS
    by_cases h1 : 1 < wt s k
    · simp only [h1, if_true, List.append_nil]
      refine ⟨I.hl, fun j => ?_, fun j v hv => ?_, ?_, I.nd, addN_nodup I.dn, fun j hj => ?_, I.md, I.sl⟩
      · have hj := I.ct j
        simp only [List.count_append, List.count_cons] at hj ⊢
        show (aGet (aSet s.weights k (wt s k - 1)) j).getD 0 = List.count (some j) (ptrs s) + List.count (some j) pend
        by_cases e : j = k
        · subst e; rw [aGet_aSet_same]; simp at hj ⊢; lia
        · rw [aGet_aSet_ne e]
          have : (some k == some j) = false := by simp [Ne.symm e]
          simp only [this] at hj
          unfold wt at hj; simpa using hj
      · by_cases e : j = k
        · subst e; simp only [aGet_aSet_same, Option.some.injEq] at hv; lia
        · simp only [aGet_aSet_ne e] at hv; exact I.pos j v hv
      · show (keys (aSet s.weights k _) ++ left).Perm _
        rw [keys_aSet hk]; exact I.pm
      · show j ∈ keys (aSet s.weights k _)
        rw [keys_aSet hk]
        rcases addN_mem.mp hj with hj | rfl
        · exact I.dw j hj
        · exact hk
    · simp only [h1, if_false]
      have hw0 : w = 0 := by lia
      subst hw0
      refine ⟨I.hl, fun j => ?_, fun j v hv => ?_, ?_, I.nd, I.dn.erase k, fun j hj => ?_, I.md, I.sl⟩
      · have hj := I.ct j
        simp only [List.count_append, List.count_cons] at hj ⊢
        show (aGet (aDel s.weights k) j).getD 0 = List.count (some j) (ptrs s) + List.count (some j) pend
        by_cases e : j = k
        · subst e; rw [aGet_aDel_same I.wnd]; simp at hj ⊢; lia
        · rw [aGet_aDel_ne e]
          have : (some k == some j) = false := by simp [Ne.symm e]
          simp only [this] at hj
          unfold wt at hj; simpa using hj
      · by_cases e : j = k
        · subst e; simp only [aGet_aDel_same I.wnd] at hv; cases hv
        · simp only [aGet_aDel_ne e] at hv; exact I.pos j v hv
      · show (keys (aDel s.weights k) ++ (left ++ [k])).Perm _
        rw [keys_aDel]
        refine List.Perm.trans ?_ I.pm
        have h1 : (keys s.weights).Perm (k :: (keys s.weights).erase k) := List.perm_cons_erase hk
        have h2 : ((keys s.weights).erase k ++ (left ++ [k])).Perm (k :: (keys s.weights).erase k ++ left) := by
          rw [← List.append_assoc]; exact List.perm_append_singleton k _
        exact h2.trans (h1.symm.append_right left)
      · show j ∈ keys (aDel s.weights k)
        rw [keys_aDel]
        have := (List.Nodup.mem_erase_iff I.dn).mp hj
        exact (List.Nodup.mem_erase_iff I.wnd).mpr ⟨this.1, I.dw j this.2⟩
theorem lightAll_boxes : ∀ (xs : List (Option Nat)) (s : PS), (lightAll s xs).1.boxes = s.boxes ∧ (lightAll s xs).1.hands = s.hands ∧ (lightAll s xs).1.made = s.made
  | [], s => ⟨rfl, rfl, rfl⟩
  | x :: xs, s => by
    have h := lightAll_boxes xs (lightS s x).1
    have h' := light_boxes (s := s) (x := x)
    exact ⟨h.1.trans h'.1, h.2.1.trans h'.2.1, h.2.2.trans h'.2.2⟩
theorem lightAll_inv : ∀ (xs : List (Option Nat)) (s : PS) (left : List Nat), PGood s (xs ++ pend) left → PGood (lightAll s xs).1 pend (left ++ (lightAll s xs).2)
  | [], s, left, I => by simpa [lightAll] using I
  | x :: xs, s, left, I => by
    have h := lightAll_inv xs (lightS s x).1 (left ++ (lightS s x).2) (light_inv I)
    simpa [lightAll] using h
theorem count_flat_aDel {k : Nat} {xs : List (Option Nat)} {x : Option Nat} : ∀ {l : List (Nat × List (Option Nat))}, aGet l k = some xs → (l.flatMap (·.2)).count x = ((aDel l k).flatMap (·.2)).count x + xs.count x
  | [], h => by cases h
  | (a, b) :: r, h => by
    unfold aGet at h
    unfold aDel
    split at h
    · rename_i e; cases h; rw [if_pos e]; simp [List.count_append, Nat.add_comm]
    · rename_i e; rw [if_neg e]
      have := count_flat_aDel (x := x) h
      simp only [List.flatMap_cons, List.count_append] at this ⊢
      lia
theorem pop_inv {k : Nat} {rest : List Nat} (I : PGood s [] (k :: rest)) : (∃ xs, aGet s.boxes k = some xs) ∧ PGood (popS s k) (slotsOf s k) rest := by
  have hk : k ∈ keys s.boxes := I.pm.mem_iff.mp (by simp)
  obtain ⟨xs, hx⟩ := aGet_key hk
  refine ⟨⟨xs, hx⟩, I.hl, fun j => ?_, I.pos, ?_, ?_, I.dn, I.dw, fun j hj => ?_, fun j ys hj => I.sl j ys (aDel_mem hj)⟩
  · have := I.ct j
    simp only [ptrs, List.count_append, List.append_nil] at this ⊢
    unfold slotsOf popS
    rw [hx]
    rw [count_flat_aDel (x := some j) hx] at this
    show wt s j = _
    simp only [Option.getD_some]
    lia
  · show (keys s.weights ++ rest).Perm (keys (aDel s.boxes k))
    rw [keys_aDel]
    have h1 : (keys s.boxes).Perm (k :: (keys s.boxes).erase k) := List.perm_cons_erase hk
    have h2 : (keys s.weights ++ k :: rest).Perm (k :: (keys s.weights ++ rest)) := List.perm_middle
    exact ((h2.symm.trans I.pm).trans h1).cons_inv
  · show (keys (aDel s.boxes k)).Nodup
    rw [keys_aDel]; exact I.nd.erase k
  · have hj : j ∈ keys (aDel s.boxes k) := hj
    rw [keys_aDel] at hj
    exact I.md j (List.mem_of_mem_erase hj)
theorem pop_len {k : Nat} (h : k ∈ keys s.boxes) : (popS s k).boxes.length + 1 = s.boxes.length := aDel_len h
theorem PGood.left_key {k : Nat} {rest : List Nat} (I : PGood s pend (k :: rest)) : k ∈ keys s.boxes := I.pm.mem_iff.mp (by simp)
theorem step_inv {k : Nat} {rest : List Nat} (I : PGood s [] (k :: rest)) : PGood (lightAll (popS s k) (slotsOf s k)).1 [] (rest ++ (lightAll (popS s k) (slotsOf s k)).2) := by
  have := (pop_inv I).2
  exact lightAll_inv _ _ _ (by simpa using this)
theorem fall_inv : ∀ (n : Nat) (s : PS) (left : List Nat), s.boxes.length ≤ n → PGood s [] left → PGood (fallS n s left).1 [] []
  | 0, s, left, hn, I => by
    have : left = [] := by
      cases left with
      | nil => rfl
      | cons k r =>
        have := I.left_key
        have hz : s.boxes = [] := List.length_eq_zero_iff.mp (by lia)
        rw [hz] at this; cases this
    subst this; exact I
  | n + 1, s, [], hn, I => I
  | n + 1, s, k :: rest, hn, I => by
    refine fall_inv n _ _ ?_ (step_inv I)
    rw [(lightAll_boxes _ _).1]
    have := pop_len I.left_key
    lia
theorem letgo_inv {x : Option Nat} (I : PGood s [x] []) : PGood (letgoS s x).1 [] [] := by
  have := light_inv I
  simp only [List.nil_append] at this
  exact fall_inv _ _ _ (by rw [light_boxes.1]; exact Nat.le_refl _) this
theorem count_set {xs : List (Option Nat)} {i : Nat} {x y : Option Nat} (h : i < xs.length) : (xs.set i x).count y + (if (xs[i]?).getD none == y then 1 else 0) = xs.count y + (if x == y then 1 else 0) := by
  induction xs generalizing i with
  | nil => simp at h
  | cons a r ih =>
    cases i with
    | zero => simp only [List.set_cons_zero, List.count_cons, List.getElem?_cons_zero, Option.getD_some]; lia
    | succ i =>
      have := ih (i := i) (by simpa using h)
      simp only [List.set_cons_succ, List.count_cons, List.getElem?_cons_succ]; lia
theorem count_mem {k : Nat} (I : PGood s [] []) : k ∈ keys s.boxes ↔ k ∈ keys s.weights := by
  have := I.pm.mem_iff (a := k); simpa using this.symm
theorem wt_count {x : Option Nat} {j : Nat} : wt (countS s x) j = wt s j + (if x = some j then 1 else 0) := by
  cases x with
  | none => simp [countS]
  | some k =>
    unfold countS
    show (aGet (aSet s.weights k (wt s k + 1)) j).getD 0 = _
    by_cases e : j = k
    · subst e; rw [aGet_aSet_same]; simp
    · rw [aGet_aSet_ne e]; simp [Ne.symm e]; rfl
theorem keys_count {x : Option Nat} (hx : ∀ k, x = some k → k ∈ keys s.weights) : keys (countS s x).weights = keys s.weights := by
  cases x with
  | none => rfl
  | some k => exact keys_aSet (hx k rfl)
theorem count_pos {x : Option Nat} (h : ∀ k w, aGet s.weights k = some w → 1 ≤ w ∨ x = some k) : ∀ k w, aGet (countS s x).weights k = some w → 1 ≤ w := by
  intro k w hw
  cases x with
  | none => rcases h k w hw with h | h
            · exact h
            · cases h
  | some j =>
    unfold countS at hw
    by_cases e : k = j
    · subst e; simp only [aGet_aSet_same, Option.some.injEq] at hw; lia
    · simp only [aGet_aSet_ne e] at hw
      rcases h k w hw with h | h
      · exact h
      · cases h; exact absurd rfl e
theorem handed_inv' {h : Nat} {x : Option Nat} (h8 : h < 8) (hl : s.hands.length = 8) (ct : ∀ k, wt s k = (ptrs s).count (some k)) (pos : ∀ k w, aGet s.weights k = some w → 1 ≤ w ∨ x = some k)
    (pm : (keys s.weights).Perm (keys s.boxes)) (nd : (keys s.boxes).Nodup) (dn : s.doubted.Nodup) (dw : ∀ k ∈ s.doubted, k ∈ keys s.weights) (md : ∀ k ∈ keys s.boxes, k < s.made) (sl : ∀ k xs, (k, xs) ∈ s.boxes → xs.length ≤ 6)
    (hx : ∀ k, x = some k → k ∈ keys s.weights) : PGood { countS s x with hands := s.hands.set h x } [handOf s h] [] := by
  have hb : (countS s x).boxes = s.boxes ∧ (countS s x).doubted = s.doubted ∧ (countS s x).made = s.made := by cases x <;> exact ⟨rfl, rfl, rfl⟩
  refine ⟨by simpa using hl, fun j => ?_, count_pos pos, ?_, by simpa [hb.1] using nd, by simpa [hb.2.1] using dn, fun k hk => ?_, fun k hk => ?_, fun k xs hk => ?_⟩
  · show wt (countS s x) j = _
    rw [wt_count, ct j]
    simp only [ptrs, hb.1, List.count_append, List.count_cons, List.count_nil]
    have := count_set (x := x) (y := some j) (show h < s.hands.length by lia)
    unfold handOf
    simp only [beq_iff_eq] at this ⊢
    lia
  · show (keys (countS s x).weights ++ []).Perm (keys (countS s x).boxes)
    rw [keys_count hx, hb.1, List.append_nil]; exact pm
  · show k ∈ keys (countS s x).weights
    rw [keys_count hx]; exact dw k (by simpa [hb.2.1] using hk)
  · show k < (countS s x).made
    rw [hb.2.2]; exact md k (by simpa [hb.1] using hk)
  · exact sl k xs (by simpa [hb.1] using hk)
theorem handed_inv {h : Nat} {x : Option Nat} (I : PGood s [] []) (h8 : h < 8) (hx : ∀ k, x = some k → k ∈ keys s.boxes) : PGood { countS s x with hands := s.hands.set h x } [handOf s h] [] :=
  handed_inv' h8 I.hl (fun k => by simpa using I.ct k) (fun k w hw => .inl (I.pos k w hw)) (by simpa using I.pm) I.nd I.dn I.dw I.md I.sl (fun k hk => (count_mem I).mp (hx k hk))
theorem PGood.hand_key (I : PGood s [] []) {h k : Nat} (e : handOf s h = some k) : k ∈ keys s.boxes := by
  rw [count_mem I]
  have hm : some k ∈ s.hands := by
    unfold handOf at e
    cases g : s.hands[h]? with
    | none => rw [g] at e; cases e
    | some y => rw [g] at e; simp at e; subst e; exact List.mem_of_getElem? g
  have hc : 0 < wt s k := by
    rw [I.ct k]; exact List.count_pos_iff.mpr (by simp [ptrs, hm])
  obtain ⟨w, hw⟩ := I.key hc
  exact keys_mem (aGet_some_mem hw)
theorem PGood.slot_key (I : PGood s [] []) {b i k : Nat} (e : slotOf s b i = some k) : k ∈ keys s.boxes := by
  rw [count_mem I]
  have hm : some k ∈ ptrs s := by
    unfold slotOf slotsOf at e
    cases g : aGet s.boxes b with
    | none => rw [g] at e; simp at e
    | some xs =>
      rw [g] at e
      simp only [Option.getD_some] at e
      cases g2 : xs[i]? with
      | none => rw [g2] at e; cases e
      | some y => rw [g2] at e; simp at e; subst e; simp only [ptrs, List.mem_append, List.mem_flatMap]; exact .inr ⟨_, aGet_some_mem g, List.mem_of_getElem? g2⟩
  have hc : 0 < wt s k := by
    rw [I.ct k]; exact List.count_pos_iff.mpr (by simp [hm])
  obtain ⟨w, hw⟩ := I.key hc
  exact keys_mem (aGet_some_mem hw)
theorem count_flat_aSet {k : Nat} {xs ys : List (Option Nat)} {x : Option Nat} : ∀ {l : List (Nat × List (Option Nat))}, aGet l k = some xs → ((aSet l k ys).flatMap (·.2)).count x + xs.count x = (l.flatMap (·.2)).count x + ys.count x
  | [], h => by cases h
  | (a, b) :: r, h => by
    unfold aGet at h
    unfold aSet
    split at h
    · rename_i e; cases h; rw [if_pos e]; simp [List.count_append]; lia
    · rename_i e; rw [if_neg e]
      have := count_flat_aSet (x := x) (ys := ys) h
      simp only [List.flatMap_cons, List.count_append] at this ⊢
      lia
theorem pointed_inv {b i : Nat} {x : Option Nat} {xs : List (Option Nat)} (I : PGood s [] []) (hb : aGet s.boxes b = some xs) (hi : i < xs.length) (hx : ∀ k, x = some k → k ∈ keys s.boxes) : PGood { countS s x with boxes := aSet s.boxes b ((slotsOf s b).set i x) } [slotOf s b i] [] := by
  have hs : slotsOf s b = xs := by unfold slotsOf; rw [hb]; rfl
  have hk : b ∈ keys s.boxes := keys_mem (aGet_some_mem hb)
  have hx' : ∀ k, x = some k → k ∈ keys s.weights := fun k e => (count_mem I).mp (hx k e)
  have hc : (countS s x).hands = s.hands ∧ (countS s x).doubted = s.doubted ∧ (countS s x).made = s.made := by cases x <;> exact ⟨rfl, rfl, rfl⟩
  refine ⟨by simpa [hc.1] using I.hl, fun j => ?_, count_pos (fun k w hw => .inl (I.pos k w hw)), ?_, ?_, by simpa [hc.2.1] using I.dn, fun k hk' => ?_, fun k hk' => ?_, fun k ys hk' => ?_⟩
  · show wt (countS s x) j = _
    rw [wt_count, I.ct j]
    simp only [ptrs, hc.1, List.count_append, List.count_cons, List.count_nil]
    have h1 := count_flat_aSet (x := some j) (ys := xs.set i x) hb
    have h2 := count_set (x := x) (y := some j) hi
    unfold slotOf
    rw [hs]
    simp only [beq_iff_eq] at h2 ⊢
    lia
  · show (keys (countS s x).weights ++ []).Perm (keys (aSet s.boxes b _))
    rw [keys_count hx', keys_aSet hk]; exact I.pm
  · show (keys (aSet s.boxes b _)).Nodup
    rw [keys_aSet hk]; exact I.nd
  · show k ∈ keys (countS s x).weights
    rw [keys_count hx']; exact I.dw k (by simpa [hc.2.1] using hk')
  · have hk' : k ∈ keys (aSet s.boxes b ((slotsOf s b).set i x)) := hk'
    rw [keys_aSet hk] at hk'
    show k < (countS s x).made
    rw [hc.2.2]; exact I.md k hk'
  · rcases aSet_mem hk' with e | hk'
    · cases e; rw [hs]; simpa using I.sl b xs (aGet_some_mem hb)
    · exact I.sl k ys hk'
theorem born_inv {h size : Nat} (I : PGood s [] []) (h8 : h < 8) (hz : size ≤ 6) : PGood { countS (bornS s size) (some s.made) with hands := s.hands.set h (some s.made) } [handOf s h] [] := by
  have hn : s.made ∉ keys s.boxes := fun h => Nat.lt_irrefl _ (I.md _ h)
  have hnw : s.made ∉ keys s.weights := fun h => hn ((count_mem I).mpr h)
  have hg : aGet s.weights s.made = none := aGet_none.mpr hnw
  have hap : ∀ j, aGet (s.weights ++ [(s.made, 0)]) j = if j = s.made then some 0 else aGet s.weights j := by
    intro j
    have : s.weights ++ [(s.made, 0)] = aSet s.weights s.made 0 := (aSet_absent hnw).symm
    rw [this]
    by_cases e : j = s.made
    · subst e; rw [aGet_aSet_same]; simp
    · rw [aGet_aSet_ne e]; simp [e]
  have hw0 : ∀ j, wt (bornS s size) j = wt s j := by
    intro j
    unfold wt bornS
    rw [hap]
    split
    · rename_i e; subst e; rw [hg]; rfl
    · rfl
  refine handed_inv' (s := bornS s size) (x := some s.made) h8 I.hl (fun j => ?_) (fun k w hw => ?_) ?_ ?_ I.dn (fun k hk => ?_) (fun k hk => ?_) (fun k xs hk => ?_) (fun k e => ?_)
  · rw [hw0, I.ct j]
    simp [ptrs, bornS, List.count_append, List.count_replicate]
  · unfold bornS at hw
    rw [hap] at hw
    split at hw
    · rename_i e; subst e; exact .inr rfl
    · exact .inl (I.pos k w hw)
  · show (keys (s.weights ++ [(s.made, 0)])).Perm (keys (s.boxes ++ [(s.made, _)]))
    simp only [keys, List.map_append, List.map_cons, List.map_nil]
    have := I.pm
    simp only [List.append_nil] at this
    exact this.append_right _
  · show (keys (s.boxes ++ [(s.made, List.replicate size none)])).Nodup
    simp only [keys, List.map_append, List.map_cons, List.map_nil]
    exact List.nodup_append.mpr ⟨I.nd, by simp, fun a ha b hb e => by simp at hb; subst hb; subst e; exact hn ha⟩
  · show k ∈ keys (s.weights ++ [(s.made, 0)])
    simp only [keys, List.map_append, List.mem_append]
    exact .inl (I.dw k hk)
  · have hk : k ∈ keys (s.boxes ++ [(s.made, List.replicate size none)]) := hk
    simp only [keys, List.map_append, List.mem_append, List.map_cons, List.map_nil, List.mem_singleton] at hk
    show k < s.made + 1
    rcases hk with hk | rfl
    · exact Nat.lt_succ_of_lt (I.md k hk)
    · exact Nat.lt_succ_self _
  · have hk : (k, xs) ∈ s.boxes ++ [(s.made, List.replicate size none)] := hk
    rcases List.mem_append.mp hk with hk | hk
    · exact I.sl k xs hk
    · simp only [List.mem_singleton, Prod.mk.injEq] at hk; rw [hk.2]; simpa using hz
  · cases e
    show s.made ∈ keys (s.weights ++ [(s.made, 0)])
    simp [keys]
theorem new_inv : PGood newS [] [] := by
  refine ⟨rfl, fun k => ?_, fun k w h => (by cases h), .nil, .nil, .nil, fun k h => (by cases h), fun k h => (by cases h), fun k xs h => (by cases h)⟩
  simp [newS, ptrs, wt, aGet]
end
theorem len_le_of_nodup {l m : List Nat} (nd : l.Nodup) (h : ∀ x ∈ l, x ∈ m) : l.length ≤ m.length := by
  induction l generalizing m with
  | nil => simp
  | cons a r ih =>
    simp only [List.nodup_cons] at nd
    have ha : a ∈ m := h a (.head _)
    have := ih (m := m.erase a) nd.2 (fun x hx => (List.mem_erase_of_ne (fun e : x = a => nd.1 (e ▸ hx))).mpr (h x (.tail _ hx)))
    rw [List.length_erase_of_mem ha] at this
    have : 0 < m.length := List.length_pos_of_mem ha
    simp only [List.length_cons]; lia
section
variable {s : PS} {pend : List (Option Nat)} {left : List Nat}
theorem PGood.wlen (I : PGood s pend left) : s.weights.length ≤ s.boxes.length := by
  have := I.pm.length_eq
  simp only [keys, List.length_append, List.length_map] at this
  lia
theorem PGood.dlen (I : PGood s pend left) : s.doubted.length ≤ s.boxes.length := by
  have := len_le_of_nodup I.dn I.dw
  simp only [keys, List.length_map] at this
  exact Nat.le_trans this I.wlen
theorem PGood.llen (I : PGood s pend left) : left.length ≤ s.boxes.length := by
  have := I.pm.length_eq
  simp only [keys, List.length_append, List.length_map] at this
  lia
end
end Mine

set_option autoImplicit false
set_option linter.unusedSimpArgs false
set_option linter.unusedVariables false
namespace Mine
open PySem (Str PyData)

theorem upd_at {l : Loc} {i : Nat} {v : V} : l.upd i v i = some v := by rw [upd_def, beq_self_eq_true]; rfl
theorem upd_no {l : Loc} {i j : Nat} {v : V} (h : j ≠ i) : l.upd i v j = l j := by rw [upd_def, beq_eq_false_iff_ne.mpr h]; rfl
section
variable {P : Prog} {σ : H}
theorem ok_getAttr {p d n : Nat} {c : Nat} {es : List (Nat × V)} {v : V} {Q : V → H → Prop} (h1 : σ.get p = some (.inst c d)) (h2 : σ.get d = some (.attrs es)) (h3 : aget es n = some v) : Ok (getAttr (.ref p) n) σ Q = Q v σ :=
  ok_some (by unfold getAttr; simp [h1, h2, h3])
theorem ok_setAttr {p d n : Nat} {c : Nat} {es : List (Nat × V)} {v : V} {Q : Unit → H → Prop} (h1 : σ.get p = some (.inst c d)) (h2 : σ.get d = some (.attrs es)) (hd : P.nf ≤ d) (ha : P.attrs.contains n = true) (hl : (aset es n v).length ≤ 100) : Ok (setAttr P (.ref p) n v) σ Q = Q () (σ.put d (.attrs (aset es n v))) :=
  ok_some (by
    have : σ.getM P d = some (.attrs es) := by unfold H.getM; rw [if_pos hd]; exact h2
    unfold setAttr; simp only [h1, this]; rw [if_pos (by rw [ha]; simpa using hl)])
theorem ok_is {a : V} {Q : V → H → Prop} : Ok (cmpop P .Is a .none) σ Q = Q (.bool (decide (a = .none))) σ := rfl
theorem ok_isNot {a : V} {Q : V → H → Prop} : Ok (cmpop P .IsNot a .none) σ Q = Q (.bool (decide (a ≠ .none))) σ := rfl
theorem ok_gt {a b : Int} {Q : V → H → Prop} : Ok (cmpop P .Gt (.int a) (.int b)) σ Q = Q (.bool (decide (a > b))) σ := rfl
theorem ok_lt {a b : Int} {Q : V → H → Prop} : Ok (cmpop P .Lt (.int a) (.int b)) σ Q = Q (.bool (decide (a < b))) σ := rfl
theorem ok_le {a b : Int} {Q : V → H → Prop} : Ok (cmpop P .LtE (.int a) (.int b)) σ Q = Q (.bool (decide (a ≤ b))) σ := rfl
theorem eqv_int {a b : Int} : PyData.eqv (.int a) (.int b) = decide (a = b) := rfl
theorem ok_eqI {a b : Int} {Q : V → H → Prop} : Ok (cmpop P .Eq (.int a) (.int b)) σ Q = Q (.bool (decide (a = b))) σ := ok_some (by
  show some (R.ok (V.bool (PyData.eqv (.int a) (.int b))), σ) = _
  rw [eqv_int])
theorem ok_neI {a b : Int} {Q : V → H → Prop} : Ok (cmpop P .NotEq (.int a) (.int b)) σ Q = Q (.bool (!decide (a = b))) σ := ok_some (by
  show some (R.ok (V.bool (!PyData.eqv (.int a) (.int b))), σ) = _
  rw [eqv_int])
theorem ok_truthb {b : Bool} {Q : Bool → H → Prop} : Ok (truth (.bool b)) σ Q = Q b σ := rfl
theorem ok_add {a b : Int} {Q : V → H → Prop} : Ok (binop .Add (.int a) (.int b)) σ Q = Q (.int (a + b)) σ := rfl
theorem ok_sub {a b : Int} {Q : V → H → Prop} : Ok (binop .Sub (.int a) (.int b)) σ Q = Q (.int (a - b)) σ := rfl
theorem ok_getDict {a : Nat} {es : List (V × V)} {k v : V} {Q : V → H → Prop} (h1 : σ.get a = some (.dict es)) (hk : isKey k = true) (h3 : dget es k = some v) : Ok (getItem P (.ref a) k) σ Q = Q v σ :=
  ok_some (by unfold getItem; cases k <;> simp_all [isKey])
theorem ok_getList {a : Nat} {xs : List V} {k : Int} {v : V} {Q : V → H → Prop} (h1 : σ.get a = some (.list xs)) (hk : 0 ≤ k) (h3 : xs[k.toNat]? = some v) : Ok (getItem P (.ref a) (.int k)) σ Q = Q v σ := by
  refine ok_some ?_
  have : k < xs.length := by have := (List.getElem?_eq_some_iff.mp h3).1; lia
  unfold getItem idx; simp only [h1, hk, this, and_self, if_true, Option.bind_some, h3, Option.map_some]
theorem getM_of {a : Nat} {o : O} (h1 : σ.get a = some o) (ha : P.nf ≤ a) : σ.getM P a = some o := by unfold H.getM; rw [if_pos ha]; exact h1
theorem ok_setDict {a : Nat} {es : List (V × V)} {k v : V} {Q : Unit → H → Prop} (h1 : σ.get a = some (.dict es)) (ha : P.nf ≤ a) (hk : isKey k = true) (h3 : (dset es k v).length ≤ lim) : Ok (setItem P (.ref a) k v) σ Q = Q () (σ.put a (.dict (dset es k v))) :=
  ok_some (by
    have := getM_of h1 ha
    unfold setItem; cases k <;> simp_all [isKey, okO])
theorem ok_setList {a : Nat} {xs : List V} {k : Int} {v : V} {Q : Unit → H → Prop} (h1 : σ.get a = some (.list xs)) (ha : P.nf ≤ a) (hk : 0 ≤ k) (h3 : k < xs.length) : Ok (setItem P (.ref a) (.int k) v) σ Q = Q () (σ.put a (.list (xs.set k.toNat v))) :=
  ok_some (by
    have := getM_of h1 ha
    unfold setItem idx; simp [this, hk, h3])
theorem ok_append {a : Nat} {xs : List V} {v : V} {Q : V → H → Prop} (h1 : σ.get a = some (.list xs)) (ha : P.nf ≤ a) (h3 : (xs ++ [v]).length ≤ lim) : Ok (listMeth P (.ref a) 6 [v]) σ Q = Q .none (σ.put a (.list (xs ++ [v]))) :=
  ok_some (by
    have := getM_of h1 ha
    unfold listMeth; simp only [this]
    show grow a (.list (xs ++ [v])) .none σ = _
    unfold grow; rw [if_pos (by simpa [okO] using h3)])
theorem ok_dpop1 {a : Nat} {es : List (V × V)} {k v : V} {Q : V → H → Prop} (h1 : σ.get a = some (.dict es)) (ha : P.nf ≤ a) (hk : isKey k = true) (h3 : dget es k = some v) : Ok (dictMeth P (.ref a) 7 [k]) σ Q = Q v (σ.put a (.dict (ddel es k))) :=
  ok_some (by
    have := getM_of h1 ha
    unfold dictMeth; simp [this, hk, h3, idPop])
theorem ok_dpop2 {a : Nat} {es : List (V × V)} {k d : V} {Q : V → H → Prop} (h1 : σ.get a = some (.dict es)) (ha : P.nf ≤ a) (hk : isKey k = true) (h3 : dget es k = none) : Ok (dictMeth P (.ref a) 7 [k, d]) σ Q = Q d σ :=
  ok_some (by
    have := getM_of h1 ha
    unfold dictMeth; simp [this, hk, h3, idPop])
theorem put_same {a : Nat} {o : O} (h : σ.get a = some o) : σ.put a o = σ := by
  unfold H.put H.get at *
  apply List.ext_getElem?
  intro i
  rw [List.getElem?_set]
  split
  · rename_i e; subst e; split
    · exact h.symm
    · rename_i hl; exact absurd (List.getElem?_eq_some_iff.mp h).1 hl
  · rfl
theorem ok_lenL {a : Nat} {xs : List V} {Q : V → H → Prop} (h : σ.get a = some (.list xs)) : Ok (builtin .len [.ref a]) σ Q = Q (.int xs.length) σ := ok_some (by show biLen (.ref a) σ = _; unfold biLen; simp [h])
theorem ok_lenD {a : Nat} {xs : List (V × V)} {Q : V → H → Prop} (h : σ.get a = some (.dict xs)) : Ok (builtin .len [.ref a]) σ Q = Q (.int xs.length) σ := ok_some (by show biLen (.ref a) σ = _; unfold biLen; simp [h])
theorem ok_range1 {n : Int} {Q : V → H → Prop} : Ok (builtin .range [.int n]) σ Q = Q (.ref σ.length) (σ.push (.rng 0 n 1)) := rfl
theorem ok_range2 {m n : Int} {Q : V → H → Prop} : Ok (builtin .range [.int m, .int n]) σ Q = Q (.ref σ.length) (σ.push (.rng m n 1)) := rfl
theorem ok_sortedD {a : Nat} {es : List (V × V)} {ns : List Int} {Q : V → H → Prop} (h1 : σ.get a = some (.dict es)) (h2 : intsOf (es.map (·.1)) = some ns) (h3 : ns.length < 64) : Ok (builtin .sorted [.ref a]) σ Q = Q (.ref σ.length) (σ.push (.list ((sortI ns).map .int))) := ok_some (by
  show biSorted (.ref a) σ = _; simp [biSorted, onRef, sortedI, h1, h2, h3])
theorem ok_listL {a : Nat} {xs : List V} {Q : V → H → Prop} (h1 : σ.get a = some (.list xs)) (hl : xs.length ≤ lim) : Ok (builtin .list [.ref a]) σ Q = Q (.ref σ.length) (σ.push (.list xs)) := ok_some (by
  show biList (.ref a) σ = _; simp only [biList, onRef, h1]; unfold alloc; rw [if_pos (by simpa [okO] using hl)])
theorem ok_notInD {a : Nat} {es : List (V × V)} {k : V} {Q : V → H → Prop} (h1 : σ.get a = some (.dict es)) (hk : isKey k = true) : Ok (cmpop P .NotIn k (.ref a)) σ Q = Q (.bool (!(dget es k).isSome)) σ := ok_some (by
  unfold cmpop contains X.bind; simp [h1, hk, X.pure])
end

/- dicts whose keys are numbers -/
section
variable {β : Type} {f : Nat → β → V}
noncomputable def encD (f : Nat → β → V) (l : List (Nat × β)) : List (V × V) := l.map fun p => (.int p.1, f p.1 p.2)
theorem enc_get {k : Nat} : ∀ {l : List (Nat × β)}, dget (encD f l) (.int k) = (aGet l k).map (f k)
  | [] => rfl
  | (a, b) :: r => by
    have ih := enc_get (k := k) (l := r)
    unfold aGet
    show (if V.int a = V.int k then some (f a b) else dget (encD f r) (.int k)) = _
    rw [ih]
    by_cases e : a = k
    · subst e; simp
    · have : ¬ (V.int (a : Int) = V.int (k : Int)) := fun h => e (by injection h with h; exact Int.ofNat.inj h)
      rw [if_neg this, if_neg e]
theorem enc_set {k : Nat} {b : β} : ∀ {l : List (Nat × β)}, dset (encD f l) (.int k) (f k b) = encD f (aSet l k b)
  | [] => rfl
  | (a, c) :: r => by
    have ih := enc_set (k := k) (b := b) (l := r)
    unfold aSet
    show (if V.int a = V.int k then (V.int a, f k b) :: encD f r else (V.int a, f a c) :: dset (encD f r) (.int k) (f k b)) = _
    rw [ih]
    by_cases e : a = k
    · subst e; simp [encD]
    · have : ¬ (V.int (a : Int) = V.int (k : Int)) := fun h => e (by injection h with h; exact Int.ofNat.inj h)
      rw [if_neg this, if_neg e]; rfl
theorem enc_del {k : Nat} : ∀ {l : List (Nat × β)}, ddel (encD f l) (.int k) = encD f (aDel l k)
  | [] => rfl
  | (a, c) :: r => by
    have ih := enc_del (k := k) (l := r)
    unfold aDel
    show (if V.int a = V.int k then encD f r else (V.int a, f a c) :: ddel (encD f r) (.int k)) = _
    rw [ih]
    by_cases e : a = k
    · subst e; simp
    · have : ¬ (V.int (a : Int) = V.int (k : Int)) := fun h => e (by injection h with h; exact Int.ofNat.inj h)
      rw [if_neg this, if_neg e]; rfl
theorem enc_len {l : List (Nat × β)} : (encD f l).length = l.length := by simp [encD]
theorem enc_keys {l : List (Nat × β)} : intsOf ((encD f l).map (·.1)) = some ((keys l).map Int.ofNat) := by
  induction l with
  | nil => rfl
  | cons p r ih => unfold encD at *; simp only [List.map_cons, intsOf, ih, keys] at *; simp [ih]
end
noncomputable def bD (α : Nat → Nat) (b : List (Nat × List (Option Nat))) : List (V × V) := encD (fun k _ => .ref (α k)) b
noncomputable def wD (w : List (Nat × Nat)) : List (V × V) := encD (fun _ (w : Nat) => .int (w : Int)) w
noncomputable def dD (q : List Nat) : List (V × V) := q.map fun (k : Nat) => (V.int (k : Int), V.bool true)
theorem dD_set {k : Nat} : ∀ {q : List Nat}, dset (dD q) (.int k) (.bool true) = dD (addN q k)
  | [] => rfl
  | a :: r => by
    have ih := dD_set (k := k) (q := r)
    show (if V.int a = V.int k then (V.int a, V.bool true) :: dD r else (V.int a, V.bool true) :: dset (dD r) (.int k) (.bool true)) = _
    rw [ih]
    by_cases e : a = k
    · subst e; simp [addN, dD]
    · have : ¬ (V.int (a : Int) = V.int (k : Int)) := fun h => e (by injection h with h; exact Int.ofNat.inj h)
      rw [if_neg this]
      unfold addN
      by_cases hk : k ∈ r
      · simp [hk, dD]
      · simp [hk, Ne.symm e, dD]
theorem dD_del {k : Nat} : ∀ {q : List Nat}, ddel (dD q) (.int k) = dD (q.erase k)
  | [] => rfl
  | a :: r => by
    have ih := dD_del (k := k) (q := r)
    show (if V.int a = V.int k then dD r else (V.int a, V.bool true) :: ddel (dD r) (.int k)) = _
    rw [ih, List.erase_cons]
    by_cases e : a = k
    · subst e; simp
    · have : ¬ (V.int (a : Int) = V.int (k : Int)) := fun h => e (by injection h with h; exact Int.ofNat.inj h)
      rw [if_neg this]; simp [e, dD]
theorem ddel_none {es : List (V × V)} {k : V} (h : dget es k = none) : ddel es k = es := by
  induction es with
  | nil => rfl
  | cons p r ih =>
    obtain ⟨a, b⟩ := p
    simp only [dget, ddel] at h ⊢
    split at h
    · cases h
    · rename_i e; rw [if_neg e, ih h]
theorem ok_dpopD {P : Prog} {σ : H} {a : Nat} {es : List (V × V)} {k d : V} {Q : V → H → Prop} (h1 : σ.get a = some (.dict es)) (ha : P.nf ≤ a) (hk : isKey k = true) (h : ∀ v, Q v (σ.put a (.dict (ddel es k)))) : Ok (dictMeth P (.ref a) 7 [k, d]) σ Q := by
  cases hd : dget es k with
  | none =>
    rw [ok_dpop2 h1 ha hk hd]
    have := h d
    rwa [ddel_none hd, put_same h1] at this
  | some v =>
    refine (ok_some (σ' := σ.put a (.dict (ddel es k))) (a := v) ?_).mpr (h v)
    have := getM_of h1 ha
    unfold dictMeth; simp [this, hk, hd, idPop]

noncomputable def ov : Option Nat → V
  | none => .none
  | some k => .int (k : Int)

structure PileP (P : Prog) : Prop where
  nf : 1 ≤ P.nf
  ats : P.attrs = [47, 48, 49, 50, 51]
  ini : P.init = 25
  g21 : P.globs.lookup 21 = some (.int 8)
  g22 : P.globs.lookup 22 = some (.int 6)
  g23 : P.globs.lookup 23 = some (.int 60)
  m25 : P.meths.lookup 25 = some PP.m___init__
  m26 : P.meths.lookup 26 = some PP.m_need_hand
  m27 : P.meths.lookup 27 = some PP.m_need_box
  m29 : P.meths.lookup 29 = some PP.m_counted
  m30 : P.meths.lookup 30 = some PP.m_let_go
  m31 : P.meths.lookup 31 = some PP.m_lighter
  m32 : P.meths.lookup 32 = some PP.m_handed
  m34 : P.meths.lookup 34 = some PP.m_make
  m35 : P.meths.lookup 35 = some PP.m_hold
  m41 : P.meths.lookup 41 = some PP.m_holds
  m43 : P.meths.lookup 43 = some PP.m_weighs
  m44 : P.meths.lookup 44 = some PP.m_alive
  m45 : P.meths.lookup 45 = some PP.m_suspects

structure At (P : Prog) (σ : H) (n q : Nat) (α : Nat → Nat) (s : PS) : Prop where
  len : n + 6 ≤ σ.length
  nf : P.nf ≤ n
  qn : n + 6 ≤ q
  d : σ.get n = some (.attrs [(47, .ref (n + 3)), (48, .ref (n + 4)), (49, .ref (n + 5)), (50, .ref q), (51, .int s.made)])
  p : σ.get (n + 1) = some (.inst 24 n)
  h : σ.get (n + 3) = some (.list (s.hands.map ov))
  b : σ.get (n + 4) = some (.dict (bD α s.boxes))
  w : σ.get (n + 5) = some (.dict (wD s.weights))
  q' : σ.get q = some (.dict (dD s.doubted))
  bx : ∀ k sl, (k, sl) ∈ s.boxes → σ.get (α k) = some (.list (sl.map ov)) ∧ n + 7 ≤ α k ∧ α k ≠ q
  inj : ∀ k ∈ keys s.boxes, ∀ j ∈ keys s.boxes, α k = α j → k = j

noncomputable def Own (n q : Nat) (α : Nat → Nat) (s : PS) (a : Nat) : Prop := a = n ∨ a = n + 1 ∨ a = n + 3 ∨ a = n + 4 ∨ a = n + 5 ∨ a = q ∨ ∃ k ∈ keys s.boxes, a = α k

theorem get_lt {σ : H} {a : Nat} {o : O} (h : σ.get a = some o) : a < σ.length := (List.getElem?_eq_some_iff.mp h).1

section
variable {P : Prog} {σ σ' : H} {n q : Nat} {α : Nat → Nat} {s : PS}
theorem At.keep (A : At P σ n q α s) (hk : ∀ a, Own n q α s a → σ'.get a = σ.get a) (hl : σ.length ≤ σ'.length) : At P σ' n q α s :=
  ⟨Nat.le_trans A.len hl, A.nf, A.qn, by rw [hk _ (.inl rfl)]; exact A.d, by rw [hk _ (.inr (.inl rfl))]; exact A.p, by rw [hk _ (.inr (.inr (.inl rfl)))]; exact A.h, by rw [hk _ (.inr (.inr (.inr (.inl rfl))))]; exact A.b,
    by rw [hk _ (.inr (.inr (.inr (.inr (.inl rfl)))))]; exact A.w, by rw [hk _ (.inr (.inr (.inr (.inr (.inr (.inl rfl))))))]; exact A.q',
    fun k sl h => by rw [hk _ (.inr (.inr (.inr (.inr (.inr (.inr ⟨k, keys_mem h, rfl⟩))))))]; exact A.bx k sl h, A.inj⟩
theorem At.lt (A : At P σ n q α s) {a : Nat} (h : Own n q α s a) : a < σ.length := by
  rcases h with rfl | rfl | rfl | rfl | rfl | rfl | ⟨k, hk, rfl⟩
  · exact get_lt A.d
  · exact get_lt A.p
  · exact get_lt A.h
  · exact get_lt A.b
  · exact get_lt A.w
  · exact get_lt A.q'
  · obtain ⟨v, hv⟩ := aGet_key hk; exact get_lt (A.bx k v (aGet_some_mem hv)).1
theorem At.push (A : At P σ n q α s) (o : O) : At P (σ.push o) n q α s := A.keep (fun a h => get_push_lt (A.lt h)) (by rw [len_push]; lia)
theorem At.put (A : At P σ n q α s) {a : Nat} (h : ¬ Own n q α s a) (o : O) : At P (σ.put a o) n q α s := A.keep (fun b hb => get_put_ne (fun e => h (e ▸ hb))) (by rw [len_put]; exact Nat.le_refl _)
theorem At.setW (A : At P σ n q α s) (w' : List (Nat × Nat)) : At P (σ.put (n + 5) (.dict (wD w'))) n q α { s with weights := w' } := by
  have := A.len
  have hq := A.qn
  exact ⟨by rw [len_put]; exact A.len, A.nf, A.qn, by rw [get_put_ne (by lia)]; exact A.d, by rw [get_put_ne (by lia)]; exact A.p, by rw [get_put_ne (by lia)]; exact A.h, by rw [get_put_ne (by lia)]; exact A.b, get_put_eq (by lia),
    by rw [get_put_ne (by lia)]; exact A.q', fun k sl h => by have := A.bx k sl h; rw [get_put_ne (by lia)]; exact this, A.inj⟩
theorem At.setQ (A : At P σ n q α s) (w' : List Nat) : At P (σ.put q (.dict (dD w'))) n q α { s with doubted := w' } := by
  have := A.len
  have hq := A.qn
  exact ⟨by rw [len_put]; exact A.len, A.nf, A.qn, by rw [get_put_ne (by lia)]; exact A.d, by rw [get_put_ne (by lia)]; exact A.p, by rw [get_put_ne (by lia)]; exact A.h, by rw [get_put_ne (by lia)]; exact A.b, by rw [get_put_ne (by lia)]; exact A.w,
    get_put_eq (get_lt A.q'), fun k sl h => by have := A.bx k sl h; rw [get_put_ne (Ne.symm this.2.2)]; exact this, A.inj⟩
theorem At.setH (A : At P σ n q α s) (w' : List (Option Nat)) : At P (σ.put (n + 3) (.list (w'.map ov))) n q α { s with hands := w' } := by
  have := A.len
  have hq := A.qn
  exact ⟨by rw [len_put]; exact A.len, A.nf, A.qn, by rw [get_put_ne (by lia)]; exact A.d, by rw [get_put_ne (by lia)]; exact A.p, get_put_eq (by lia), by rw [get_put_ne (by lia)]; exact A.b, by rw [get_put_ne (by lia)]; exact A.w,
    by rw [get_put_ne (by lia)]; exact A.q', fun k sl h => by have := A.bx k sl h; rw [get_put_ne (by lia)]; exact this, A.inj⟩
theorem At.pop (A : At P σ n q α s) (k : Nat) : At P (σ.put (n + 4) (.dict (bD α (aDel s.boxes k)))) n q α (popS s k) := by
  have := A.len
  have hq := A.qn
  refine ⟨by rw [len_put]; exact A.len, A.nf, A.qn, by rw [get_put_ne (by lia)]; exact A.d, by rw [get_put_ne (by lia)]; exact A.p, by rw [get_put_ne (by lia)]; exact A.h, get_put_eq (by lia), by rw [get_put_ne (by lia)]; exact A.w,
    by rw [get_put_ne (by lia)]; exact A.q', fun k sl h => by have := A.bx k sl (aDel_mem h); rw [get_put_ne (by lia)]; exact this, fun k hk j hj => A.inj k ?_ j ?_⟩
  · have hk : k ∈ keys (aDel s.boxes _) := hk
    rw [keys_aDel] at hk; exact List.mem_of_mem_erase hk
  · have hj : j ∈ keys (aDel s.boxes _) := hj
    rw [keys_aDel] at hj; exact List.mem_of_mem_erase hj
theorem At.setS (A : At P σ n q α s) (nd : (keys s.boxes).Nodup) {b : Nat} (hb : b ∈ keys s.boxes) (xs : List (Option Nat)) : At P (σ.put (α b) (.list (xs.map ov))) n q α { s with boxes := aSet s.boxes b xs } := by
  have := A.len
  have hq := A.qn
  obtain ⟨v, hv⟩ := aGet_key hb
  have hx := A.bx b v (aGet_some_mem hv)
  have bde : bD α (aSet s.boxes b xs) = bD α s.boxes := by
    have h1 : ∀ l : List (Nat × List (Option Nat)), bD α l = (keys l).map fun (k : Nat) => (V.int (k : Int), V.ref (α k)) := fun l => by simp [bD, encD, keys, List.map_map, Function.comp_def]
    rw [h1, h1, keys_aSet hb]
  refine ⟨by rw [len_put]; exact A.len, A.nf, A.qn, by rw [get_put_ne (by lia)]; exact A.d, by rw [get_put_ne (by lia)]; exact A.p, by rw [get_put_ne (by lia)]; exact A.h, by rw [get_put_ne (by lia)]; rw [bde]; exact A.b, by rw [get_put_ne (by lia)]; exact A.w,
    by rw [get_put_ne hx.2.2]; exact A.q', fun k sl h => ?_, fun k hk j hj => A.inj k ?_ j ?_⟩
  · by_cases e : k = b
    · subst e
      have hg : aGet (aSet s.boxes k xs) k = some sl := aGet_of_mem (by rw [keys_aSet hb]; exact nd) h
      rw [aGet_aSet_same] at hg; cases hg
      exact ⟨get_put_eq (get_lt hx.1), hx.2⟩
    · rcases aSet_mem h with h' | h'
      · cases h'; exact absurd rfl e
      · have hy := A.bx k sl h'
        rw [get_put_ne (fun e' => e (A.inj b hb k (keys_mem h') e').symm)]; exact hy
  · have hk : k ∈ keys (aSet s.boxes b xs) := hk
    rw [keys_aSet hb] at hk; exact hk
  · have hj : j ∈ keys (aSet s.boxes b xs) := hj
    rw [keys_aSet hb] at hj; exact hj
end

section
variable {P : Prog} {σ : H} {n q : Nat} {α : Nat → Nat} {s : PS} {F d : Nat} {Q : V → H → Prop} (hP : PileP P)
include hP
theorem eg21 {C : Calls} {loc : Loc} : ev P C (.glo 21) loc = X.pure (.int 8) := by
  show (match P.globs.lookup 21 with | some v => X.pure v | none => _) = _
  rw [hP.g21]
theorem eg22 {C : Calls} {loc : Loc} : ev P C (.glo 22) loc = X.pure (.int 6) := by
  show (match P.globs.lookup 22 with | some v => X.pure v | none => _) = _
  rw [hP.g22]
theorem eg23 {C : Calls} {loc : Loc} : ev P C (.glo 23) loc = X.pure (.int 60) := by
  show (match P.globs.lookup 23 with | some v => X.pure v | none => _) = _
  rw [hP.g23]
theorem lighter_none {f : Nat} (h : Q .none σ) : Ok (run P F (d + 1) true 31 [.ref (n + 1), .none, .ref f]) σ Q := by
  rw [ok_run (fd := PP.m_lighter) hP.m31 rfl]
  simp (disch := decide) only [PP.m_lighter, ok_is, ok_truthb, oks_cons, oks_nil, then_none, then_some, s_expr, exprK_at, s_var, varK_at, s_attr, attrK_at, attrK2_at, s_sub, subK_at, subK2_at, subK3_at, s_ite, iteK_t, iteK_f, s_ret, retK_at, s_ret0, s_pass, runK_some, runK_none, forK_at, turnK_none, turnK_some, whlK_t, whlK_f, tt_not, tt_band, tt_bor, tt_bool, tt_loc, tt_cmp, tt_cmp2, tt_call, tt_meth, tt_isi, tt_attr, tt_sub, tt_bin, tnotF_t, tnotF_f, ta_nil, ta_cons, andF_t, andF_f, to_nil, to_cons, orF_t, orF_f, e_none, e_bool, e_int, e_str, e_loc, e_bin, binF_at, e_not, notF_at, notF2_t, notF2_f, e_band, e_bor, e_cmp, cmpF_at, e_cmp2, cmpG_t, cmpG_f, e_list, listF_at, e_tup, tupF_at, e_dict0, e_attr, attrF_at, e_sub, subF_at, e_call, e_meth, methF_at, e_bi, e_isi, isiF_at, boolF_at, e_comp, es_nil, es_cons, consF_at, consF2_at, ok_bind, bindK_at, bind_pure, bind_lift, ok_pure, ok_lift, List.zip_cons_cons, List.zip_nil_right, List.zip_nil_left, List.foldl_cons, List.foldl_nil, upd_def, Nat.reduceBEq, bif_t, bif_f, if_true, if_false, Bool.false_eq_true, reduceCtorEq, Nat.reduceEqDiff, ne_eq, not_false_eq_true, not_true_eq_false, decide_true, decide_false, Bool.not_true, Bool.not_false]
  exact h
theorem lighter_ok {f : Nat} {x : Option Nat} {fr : List Nat} (A : At P σ n q α s) (hx : ∀ k, x = some k → 0 < wt s k) (hf : σ.get f = some (.list (fr.map fun (k : Nat) => V.int (k : Int)))) (hfo : ¬ Own n q α s f) (hfn : P.nf ≤ f)
    (hl : s.weights.length ≤ 100000) (hl2 : s.doubted.length ≤ 100000) (hl3 : fr.length ≤ 100000)
    (h : ∀ σ', At P σ' n q α (lightS s x).1 → σ'.get f = some (.list ((fr ++ (lightS s x).2).map fun (k : Nat) => V.int (k : Int))) → σ'.length = σ.length → (∀ a, a ≠ n + 5 → a ≠ q → a ≠ f → σ'.get a = σ.get a) → Q .none σ') :
    Ok (run P F (d + 1) true 31 [.ref (n + 1), ov x, .ref f]) σ Q := by
  cases x with
  | none => exact lighter_none hP (h σ A (by simpa [lightS] using hf) rfl fun _ _ _ _ => rfl)
  | some k =>
    have hw : wt s k = wt s k := rfl
    have h0 := hx k rfl
    have hg : aGet s.weights k = some (wt s k) := by
      unfold wt at *
      cases e : aGet s.weights k with
      | none => rw [e] at h0; simp at h0
      | some w => rfl
    have hk : k ∈ keys s.weights := keys_mem (aGet_some_mem hg)
    have hlim : lim = 1000000 := rfl
    generalize hW : wt s k = W at *
    have nfW : P.nf ≤ n + 5 := by have := A.nf; lia
    have nfQ : P.nf ≤ q := by have := A.nf; have := A.qn; lia
    have dg : dget (wD s.weights) (.int (k : Int)) = some (.int (W : Int)) := by unfold wD; rw [enc_get, hg]; rfl
    have ds : dset (wD s.weights) (.int (k : Int)) (.int ((W : Int) - 1)) = wD (aSet s.weights k (W - 1)) := by
      unfold wD
      have : ((W : Int) - 1) = ((W - 1 : Nat) : Int) := by lia
      rw [this]; exact enc_set (f := fun _ w => V.int ((w : Nat) : Int))
    have A1 := A.setW (aSet s.weights k (W - 1))
    have dg1 : dget (wD (aSet s.weights k (W - 1))) (.int (k : Int)) = some (.int ((W - 1 : Nat) : Int)) := by unfold wD; rw [enc_get, aGet_aSet_same]; rfl
    have hl1 : (wD (aSet s.weights k (W - 1))).length ≤ lim := by unfold wD; rw [enc_len, aSet_len hk, hlim]; lia
    have len := A.len
    rw [ok_run (fd := PP.m_lighter) hP.m31 rfl]
    show OkS (exs P _ F _ (Loc.upd (Loc.upd (Loc.upd (fun _ => none) 46 (.ref (n + 1))) 53 (.int (k : Int))) 55 (.ref f)) σ) _
    have nW : f ≠ n + 5 := fun e => hfo (e ▸ .inr (.inr (.inr (.inr (.inl rfl)))))
    have nQ : f ≠ q := fun e => hfo (e ▸ .inr (.inr (.inr (.inr (.inr (.inl rfl))))))
    have hlS : (dset (wD s.weights) (.int (k : Int)) (.int ((W : Int) - 1))).length ≤ lim := by rw [ds]; exact hl1
    simp (disch := decide) only [PP.m_lighter, ok_is, ok_truthb, ok_getAttr A.p A.d (n := 49) (v := .ref (n + 5)) rfl, ok_getDict A.w rfl dg, ok_sub, ok_setDict A.w nfW rfl hlS, ds,
      ok_getAttr A1.p A1.d (n := 49) (v := .ref (n + 5)) rfl, ok_getDict A1.w rfl dg1, ok_gt, oks_cons, oks_nil, then_none, then_some, s_expr, exprK_at, s_var, varK_at, s_attr, attrK_at, attrK2_at, s_sub, subK_at, subK2_at, subK3_at, s_ite, iteK_t, iteK_f, s_ret, retK_at, s_ret0, s_pass, runK_some, runK_none, forK_at, turnK_none, turnK_some, whlK_t, whlK_f, tt_not, tt_band, tt_bor, tt_bool, tt_loc, tt_cmp, tt_cmp2, tt_call, tt_meth, tt_isi, tt_attr, tt_sub, tt_bin, tnotF_t, tnotF_f, ta_nil, ta_cons, andF_t, andF_f, to_nil, to_cons, orF_t, orF_f, e_none, e_bool, e_int, e_str, e_loc, e_bin, binF_at, e_not, notF_at, notF2_t, notF2_f, e_band, e_bor, e_cmp, cmpF_at, e_cmp2, cmpG_t, cmpG_f, e_list, listF_at, e_tup, tupF_at, e_dict0, e_attr, attrF_at, e_sub, subF_at, e_call, e_meth, methF_at, e_bi, e_isi, isiF_at, boolF_at, e_comp, es_nil, es_cons, consF_at, consF2_at, ok_bind, bindK_at, bind_pure, bind_lift, ok_pure, ok_lift, List.zip_cons_cons, List.zip_nil_right, List.zip_nil_left, List.foldl_cons, List.foldl_nil, upd_def, Nat.reduceBEq, bif_t, bif_f, if_true, if_false, Bool.false_eq_true, reduceCtorEq, Nat.reduceEqDiff, ne_eq, not_false_eq_true, not_true_eq_false, decide_true, decide_false, Bool.not_true, Bool.not_false]
    by_cases h1 : 1 < W
    · have hgt : ((W - 1 : Nat) : Int) > 0 := by lia
      have hqs : (dset (dD s.doubted) (.int (k : Int)) (.bool true)).length ≤ lim := by
        rw [dD_set]; unfold dD addN; split <;> simp [hlim] <;> lia
      simp (disch := decide) only [hgt, ok_getAttr A1.p A1.d (n := 50) (v := .ref q) rfl, ok_setDict A1.q' nfQ rfl hqs, oks_cons, oks_nil, then_none, then_some, s_expr, exprK_at, s_var, varK_at, s_attr, attrK_at, attrK2_at, s_sub, subK_at, subK2_at, subK3_at, s_ite, iteK_t, iteK_f, s_ret, retK_at, s_ret0, s_pass, runK_some, runK_none, forK_at, turnK_none, turnK_some, whlK_t, whlK_f, tt_not, tt_band, tt_bor, tt_bool, tt_loc, tt_cmp, tt_cmp2, tt_call, tt_meth, tt_isi, tt_attr, tt_sub, tt_bin, tnotF_t, tnotF_f, ta_nil, ta_cons, andF_t, andF_f, to_nil, to_cons, orF_t, orF_f, e_none, e_bool, e_int, e_str, e_loc, e_bin, binF_at, e_not, notF_at, notF2_t, notF2_f, e_band, e_bor, e_cmp, cmpF_at, e_cmp2, cmpG_t, cmpG_f, e_list, listF_at, e_tup, tupF_at, e_dict0, e_attr, attrF_at, e_sub, subF_at, e_call, e_meth, methF_at, e_bi, e_isi, isiF_at, boolF_at, e_comp, es_nil, es_cons, consF_at, consF2_at, ok_bind, bindK_at, bind_pure, bind_lift, ok_pure, ok_lift, List.zip_cons_cons, List.zip_nil_right, List.zip_nil_left, List.foldl_cons, List.foldl_nil, upd_def, Nat.reduceBEq, bif_t, bif_f, if_true, if_false, Bool.false_eq_true, reduceCtorEq, Nat.reduceEqDiff, ne_eq, not_false_eq_true, not_true_eq_false, decide_true, decide_false, Bool.not_true, Bool.not_false]
      rw [dD_set]
      have e : (lightS s (some k)) = ({ s with weights := aSet s.weights k (W - 1), doubted := addN s.doubted k }, []) := by simp only [lightS, hW, h1, if_true]
      refine h _ ?_ ?_ ?_ ?_
      · rw [e]; exact A1.setQ (addN s.doubted k)
      · rw [e, get_put_ne (Ne.symm nQ), get_put_ne (Ne.symm nW)]; simpa using hf
      · rw [len_put, len_put]
      · intro a h1 h2 h3; rw [get_put_ne (Ne.symm h2), get_put_ne (Ne.symm h1)]
    · have hW1 : W = 1 := by lia
      subst hW1
      have hgt : ¬ (((1 - 1 : Nat) : Int) > 0) := by decide
      have A2 := A1.setW (aDel s.weights k)
      have dd : ddel (wD (aSet s.weights k (1 - 1))) (.int (k : Int)) = wD (aDel s.weights k) := by
        unfold wD; rw [enc_del]
        congr 1
        have : ∀ l : List (Nat × Nat), aDel (aSet l k (1 - 1)) k = aDel l k := by
          intro l
          induction l with
          | nil => simp [aSet, aDel]
          | cons p r ih => obtain ⟨a, b⟩ := p; simp only [aSet, aDel]; split <;> simp_all [aDel]
        exact this _
      simp (disch := decide) only [hgt, ok_getAttr A1.p A1.d (n := 49) (v := .ref (n + 5)) rfl, mx_dict A1.w, ok_dpop1 A1.w nfW rfl dg1, dd, ok_getAttr A2.p A2.d (n := 50) (v := .ref q) rfl, mx_dict A2.q', oks_cons, oks_nil, then_none, then_some, s_expr, exprK_at, s_var, varK_at, s_attr, attrK_at, attrK2_at, s_sub, subK_at, subK2_at, subK3_at, s_ite, iteK_t, iteK_f, s_ret, retK_at, s_ret0, s_pass, runK_some, runK_none, forK_at, turnK_none, turnK_some, whlK_t, whlK_f, tt_not, tt_band, tt_bor, tt_bool, tt_loc, tt_cmp, tt_cmp2, tt_call, tt_meth, tt_isi, tt_attr, tt_sub, tt_bin, tnotF_t, tnotF_f, ta_nil, ta_cons, andF_t, andF_f, to_nil, to_cons, orF_t, orF_f, e_none, e_bool, e_int, e_str, e_loc, e_bin, binF_at, e_not, notF_at, notF2_t, notF2_f, e_band, e_bor, e_cmp, cmpF_at, e_cmp2, cmpG_t, cmpG_f, e_list, listF_at, e_tup, tupF_at, e_dict0, e_attr, attrF_at, e_sub, subF_at, e_call, e_meth, methF_at, e_bi, e_isi, isiF_at, boolF_at, e_comp, es_nil, es_cons, consF_at, consF2_at, ok_bind, bindK_at, bind_pure, bind_lift, ok_pure, ok_lift, List.zip_cons_cons, List.zip_nil_right, List.zip_nil_left, List.foldl_cons, List.foldl_nil, upd_def, Nat.reduceBEq, bif_t, bif_f, if_true, if_false, Bool.false_eq_true, reduceCtorEq, Nat.reduceEqDiff, ne_eq, not_false_eq_true, not_true_eq_false, decide_true, decide_false, Bool.not_true, Bool.not_false]
      refine ok_dpopD A2.q' nfQ rfl fun _ => ?_
      rw [dD_del]
      have A3 := A2.setQ (s.doubted.erase k)
      have hf3 : (((σ.put (n + 5) (.dict (wD (aSet s.weights k (1 - 1))))).put (n + 5) (.dict (wD (aDel s.weights k)))).put q (.dict (dD (s.doubted.erase k)))).get f = some (.list (fr.map fun (k : Nat) => V.int (k : Int))) := by
        rw [get_put_ne (Ne.symm nQ), get_put_ne (Ne.symm nW), get_put_ne (Ne.symm nW)]; exact hf
      simp (disch := decide) only [mx_list hf3 (.inl rfl), ok_append hf3 hfn (show ((fr.map fun (k : Nat) => V.int (k : Int)) ++ [V.int (k : Int)]).length ≤ lim by simp [hlim]; lia), oks_cons, oks_nil, then_none, then_some, s_expr, exprK_at, s_var, varK_at, s_attr, attrK_at, attrK2_at, s_sub, subK_at, subK2_at, subK3_at, s_ite, iteK_t, iteK_f, s_ret, retK_at, s_ret0, s_pass, runK_some, runK_none, forK_at, turnK_none, turnK_some, whlK_t, whlK_f, tt_not, tt_band, tt_bor, tt_bool, tt_loc, tt_cmp, tt_cmp2, tt_call, tt_meth, tt_isi, tt_attr, tt_sub, tt_bin, tnotF_t, tnotF_f, ta_nil, ta_cons, andF_t, andF_f, to_nil, to_cons, orF_t, orF_f, e_none, e_bool, e_int, e_str, e_loc, e_bin, binF_at, e_not, notF_at, notF2_t, notF2_f, e_band, e_bor, e_cmp, cmpF_at, e_cmp2, cmpG_t, cmpG_f, e_list, listF_at, e_tup, tupF_at, e_dict0, e_attr, attrF_at, e_sub, subF_at, e_call, e_meth, methF_at, e_bi, e_isi, isiF_at, boolF_at, e_comp, es_nil, es_cons, consF_at, consF2_at, ok_bind, bindK_at, bind_pure, bind_lift, ok_pure, ok_lift, List.zip_cons_cons, List.zip_nil_right, List.zip_nil_left, List.foldl_cons, List.foldl_nil, upd_def, Nat.reduceBEq, bif_t, bif_f, if_true, if_false, Bool.false_eq_true, reduceCtorEq, Nat.reduceEqDiff, ne_eq, not_false_eq_true, not_true_eq_false, decide_true, decide_false, Bool.not_true, Bool.not_false]
      have e : (lightS s (some k)) = ({ s with weights := aDel s.weights k, doubted := s.doubted.erase k }, [k]) := by simp [lightS, hW]
      have A4 := A3.put (a := f) hfo (.list ((fr.map fun (k : Nat) => V.int (k : Int)) ++ [V.int (k : Int)]))
      refine h _ ?_ ?_ ?_ ?_
      · rw [e]; exact A4
      · rw [e, get_put_eq (get_lt hf3)]; simp
      · simp only [len_put]
      · intro a h1 h2 h3; rw [get_put_ne (Ne.symm h3), get_put_ne (Ne.symm h2), get_put_ne (Ne.symm h1), get_put_ne (Ne.symm h1)]
end
end Mine

set_option autoImplicit false
set_option linter.unusedSimpArgs false
set_option linter.unusedVariables false
namespace Mine
open PySem (Str PyData)

abbrev iN (l : List Nat) : List V := l.map fun (k : Nat) => V.int (k : Int)

theorem lightAll_snoc : ∀ (xs : List (Option Nat)) (s : PS) (x : Option Nat), lightAll s (xs ++ [x]) = ((lightS (lightAll s xs).1 x).1, (lightAll s xs).2 ++ (lightS (lightAll s xs).1 x).2)
  | [], s, x => by simp [lightAll]
  | y :: xs, s, x => by
    have := lightAll_snoc xs (lightS s y).1 x
    simp only [List.cons_append, lightAll, this, List.append_assoc]
theorem light_own {n q : Nat} {α : Nat → Nat} {s : PS} {x : Option Nat} {a : Nat} : Own n q α (lightS s x).1 a ↔ Own n q α s a := by unfold Own; rw [light_boxes.1]
theorem lightAll_own {n q : Nat} {α : Nat → Nat} {s : PS} {xs : List (Option Nat)} {a : Nat} : Own n q α (lightAll s xs).1 a ↔ Own n q α s a := by unfold Own; rw [(lightAll_boxes xs s).1]
theorem pop_own {n q : Nat} {α : Nat → Nat} {s : PS} {k a : Nat} (h : Own n q α (popS s k) a) : Own n q α s a := by
  unfold Own at *
  rcases h with h | h | h | h | h | h | ⟨j, hj, e⟩
  · exact .inl h
  · exact .inr (.inl h)
  · exact .inr (.inr (.inl h))
  · exact .inr (.inr (.inr (.inl h)))
  · exact .inr (.inr (.inr (.inr (.inl h))))
  · exact .inr (.inr (.inr (.inr (.inr (.inl h)))))
  · have hj : j ∈ keys (aDel s.boxes k) := hj
    rw [keys_aDel] at hj
    exact .inr (.inr (.inr (.inr (.inr (.inr ⟨j, List.mem_of_mem_erase hj, e⟩)))))

noncomputable def fallC : Ex := (.cmp .Lt (.loc 56) (.bi .len (.cons (.loc 55) .nil)))
noncomputable abbrev fallB : Sts := PP.m_let_go_4w_1

section
variable {P : Prog} {n q : Nat} {α : Nat → Nat} {d : Nat} (hP : PileP P)
include hP
theorem fall_ok {f : Nat} {F : Nat} {Q : Option V → Loc → H → Prop} (hfn : P.nf ≤ f) : ∀ (m b : Nat) (s : PS) (σ : H) (fr left : List Nat) (loc : Loc), loc 46 = some (.ref (n + 1)) → loc 55 = some (.ref f) → loc 56 = some (.int (fr.length : Int)) →
    At P σ n q α s → PGood s [] left → ¬ Own n q α s f → s.boxes.length ≤ b → b < m → s.boxes.length ≤ 100000 → fr.length + s.boxes.length ≤ 10000 → σ.get f = some (.list (iN (fr ++ left))) →
    (∀ loc' σ', At P σ' n q α (fallS b s left).1 → loc' 55 = some (.ref f) → σ'.get f = some (.list (iN (fr ++ (fallS b s left).2))) → σ'.length = σ.length → (∀ a, a ≠ n + 4 → a ≠ n + 5 → a ≠ q → a ≠ f → σ'.get a = σ.get a) → Q none loc' σ') →
    OkW P (run P 1000 (d + 1)) F m fallC fallB loc σ Q := by
  intro m
  induction m with
  | zero => intro b s σ fr left loc _ _ _ _ _ _ _ hm; lia
  | succ m ih =>
    intro b s σ fr left loc l46 l55 l56 A I hfo hb hm hbl hfl hf h
    rw [w_step]
    unfold fallC
    simp (disch := decide) only [l56, l55, ok_lenL hf, ok_lt, ok_truthb, List.length_map, List.length_append, oks_cons, oks_nil, then_none, then_some, s_expr, exprK_at, s_var, varK_at, s_attr, attrK_at, attrK2_at, s_sub, subK_at, subK2_at, subK3_at, s_ite, iteK_t, iteK_f, s_ret, retK_at, s_ret0, s_pass, runK_some, runK_none, forK_at, turnK_none, turnK_some, whlK_t, whlK_f, tt_not, tt_band, tt_bor, tt_bool, tt_loc, tt_cmp, tt_cmp2, tt_call, tt_meth, tt_isi, tt_attr, tt_sub, tt_bin, tnotF_t, tnotF_f, ta_nil, ta_cons, andF_t, andF_f, to_nil, to_cons, orF_t, orF_f, e_none, e_bool, e_int, e_str, e_loc, e_bin, binF_at, e_not, notF_at, notF2_t, notF2_f, e_band, e_bor, e_cmp, cmpF_at, e_cmp2, cmpG_t, cmpG_f, e_list, listF_at, e_tup, tupF_at, e_dict0, e_attr, attrF_at, e_sub, subF_at, e_call, e_meth, methF_at, e_bi, e_isi, isiF_at, boolF_at, e_comp, es_nil, es_cons, consF_at, consF2_at, ok_bind, bindK_at, bind_pure, bind_lift, ok_pure, ok_lift, List.zip_cons_cons, List.zip_nil_right, List.zip_nil_left, List.foldl_cons, List.foldl_nil, upd_def, Nat.reduceBEq, bif_t, bif_f, if_true, if_false, Bool.false_eq_true, reduceCtorEq, Nat.reduceEqDiff, ne_eq, not_false_eq_true, not_true_eq_false, decide_true, decide_false, Bool.not_true, Bool.not_false]
    cases left with
    | nil =>
      have : ¬ ((fr.length : Int) < ((fr.length + 0 : Nat) : Int)) := by lia
      simp only [List.length_nil, this, decide_false, Bool.false_eq_true, if_false]
      refine h loc σ ?_ l55 ?_ rfl fun _ _ _ _ _ => rfl
      · cases b <;> exact A
      · cases b <;> simpa [fallS] using hf
    | cons k rest =>
      have hlt : (fr.length : Int) < ((fr.length + (k :: rest).length : Nat) : Int) := by simp only [List.length_cons]; lia
      simp only [hlt, decide_true, if_true]
      have hk := I.left_key
      obtain ⟨⟨xs, hx⟩, I1⟩ := pop_inv I
      have hxs : slotsOf s k = xs := by unfold slotsOf; rw [hx]; rfl
      have hbx := A.bx k xs (aGet_some_mem hx)
      have hxl : xs.length ≤ 6 := I.sl k xs (aGet_some_mem hx)
      rw [hxs] at I1
      have bpos : 0 < s.boxes.length := by
        cases e : s.boxes with
        | nil => rw [e] at hk; cases hk
        | cons _ _ => simp
      obtain ⟨b', rfl⟩ : ∃ b', b = b' + 1 := ⟨b - 1, by lia⟩
      have nfB : P.nf ≤ n + 4 := by have := A.nf; lia
      have hgx : (iN (fr ++ k :: rest))[((fr.length : Int)).toNat]? = some (.int (k : Int)) := by simp [iN]
      have dg : dget (bD α s.boxes) (.int (k : Int)) = some (.ref (α k)) := by unfold bD; rw [enc_get, hx]; rfl
      have dd : ddel (bD α s.boxes) (.int (k : Int)) = bD α (aDel s.boxes k) := by unfold bD; rw [enc_del]
      refine oks_step rfl ?_
      simp (disch := decide) only [l46, l55, l56, ok_getAttr A.p A.d (n := 48) (v := .ref (n + 4)) rfl, mx_dict A.b, ok_getList hf (Int.natCast_nonneg _) hgx, ok_dpop1 A.b nfB rfl dg, dd, s_expr, exprK_at, s_var, varK_at, s_attr, attrK_at, attrK2_at, s_sub, subK_at, subK2_at, subK3_at, s_ite, iteK_t, iteK_f, s_ret, retK_at, s_ret0, s_pass, runK_some, runK_none, forK_at, turnK_none, turnK_some, whlK_t, whlK_f, tt_not, tt_band, tt_bor, tt_bool, tt_loc, tt_cmp, tt_cmp2, tt_call, tt_meth, tt_isi, tt_attr, tt_sub, tt_bin, tnotF_t, tnotF_f, ta_nil, ta_cons, andF_t, andF_f, to_nil, to_cons, orF_t, orF_f, e_none, e_bool, e_int, e_str, e_loc, e_bin, binF_at, e_not, notF_at, notF2_t, notF2_f, e_band, e_bor, e_cmp, cmpF_at, e_cmp2, cmpG_t, cmpG_f, e_list, listF_at, e_tup, tupF_at, e_dict0, e_attr, attrF_at, e_sub, subF_at, e_call, e_meth, methF_at, e_bi, e_isi, isiF_at, boolF_at, e_comp, es_nil, es_cons, consF_at, consF2_at, ok_bind, bindK_at, bind_pure, bind_lift, ok_pure, ok_lift, List.zip_cons_cons, List.zip_nil_right, List.zip_nil_left, List.foldl_cons, List.foldl_nil, upd_def, Nat.reduceBEq, bif_t, bif_f, if_true, if_false, Bool.false_eq_true, reduceCtorEq, Nat.reduceEqDiff, ne_eq, not_false_eq_true, not_true_eq_false, decide_true, decide_false, Bool.not_true, Bool.not_false]
      refine then_step rfl ?_
      rw [s_for]
      simp (disch := decide) only [s_expr, exprK_at, s_var, varK_at, s_attr, attrK_at, attrK2_at, s_sub, subK_at, subK2_at, subK3_at, s_ite, iteK_t, iteK_f, s_ret, retK_at, s_ret0, s_pass, runK_some, runK_none, forK_at, turnK_none, turnK_some, whlK_t, whlK_f, tt_not, tt_band, tt_bor, tt_bool, tt_loc, tt_cmp, tt_cmp2, tt_call, tt_meth, tt_isi, tt_attr, tt_sub, tt_bin, tnotF_t, tnotF_f, ta_nil, ta_cons, andF_t, andF_f, to_nil, to_cons, orF_t, orF_f, e_none, e_bool, e_int, e_str, e_loc, e_bin, binF_at, e_not, notF_at, notF2_t, notF2_f, e_band, e_bor, e_cmp, cmpF_at, e_cmp2, cmpG_t, cmpG_f, e_list, listF_at, e_tup, tupF_at, e_dict0, e_attr, attrF_at, e_sub, subF_at, e_call, e_meth, methF_at, e_bi, e_isi, isiF_at, boolF_at, e_comp, es_nil, es_cons, consF_at, consF2_at, ok_bind, bindK_at, bind_pure, bind_lift, ok_pure, ok_lift, List.zip_cons_cons, List.zip_nil_right, List.zip_nil_left, List.foldl_cons, List.foldl_nil, upd_def, Nat.reduceBEq, bif_t, bif_f, if_true, if_false, Bool.false_eq_true, reduceCtorEq, Nat.reduceEqDiff, ne_eq, not_false_eq_true, not_true_eq_false, decide_true, decide_false, Bool.not_true, Bool.not_false]
      have A1 := A.pop k
      have fa : f ≠ n + 4 := fun e => hfo (e ▸ .inr (.inr (.inr (.inl rfl))))
      have fw : f ≠ n + 5 := fun e => hfo (e ▸ .inr (.inr (.inr (.inr (.inl rfl)))))
      have fq : f ≠ q := fun e => hfo (e ▸ .inr (.inr (.inr (.inr (.inr (.inl rfl))))))
      have fk : f ≠ α k := fun e => hfo (e ▸ .inr (.inr (.inr (.inr (.inr (.inr ⟨k, hk, rfl⟩))))))
      have hs1 : (σ.put (n + 4) (.dict (bD α (aDel s.boxes k)))).get (α k) = some (.list (xs.map ov)) := by rw [get_put_ne (by lia)]; exact hbx.1
      have hf1 : (σ.put (n + 4) (.dict (bD α (aDel s.boxes k)))).get f = some (.list (iN (fr ++ k :: rest))) := by rw [get_put_ne (Ne.symm fa)]; exact hf
      have keep1 : ∀ a, a ≠ n + 4 → (σ.put (n + 4) (.dict (bD α (aDel s.boxes k)))).get a = σ.get a := fun a ha => get_put_ne (Ne.symm ha)
      have len1 : (σ.put (n + 4) (.dict (bD α (aDel s.boxes k)))).length = σ.length := len_put
      have hfo1 : ¬ Own n q α (popS s k) f := fun e => hfo (pop_own e)
      have pl := pop_len hk
      generalize hτ : σ.put (n + 4) (.dict (bD α (aDel s.boxes k))) = τ at *
      refine ⟨xs.map ov, it_list hs1, ?_⟩
      refine f_inv (fun j l σj => j ≤ xs.length ∧ l 46 = some (.ref (n + 1)) ∧ l 55 = some (.ref f) ∧ l 56 = some (.int (fr.length : Int)) ∧ At P σj n q α (lightAll (popS s k) (xs.take j)).1 ∧ PGood (lightAll (popS s k) (xs.take j)).1 (xs.drop j) (rest ++ (lightAll (popS s k) (xs.take j)).2) ∧
        σj.get f = some (.list (iN (fr ++ k :: rest ++ (lightAll (popS s k) (xs.take j)).2))) ∧ σj.length = σ.length ∧ (∀ a, a ≠ n + 4 → a ≠ n + 5 → a ≠ q → a ≠ f → σj.get a = σ.get a)) ?_ ?_ ?_
      · refine ⟨Nat.zero_le _, l46, l55, l56, ?_, ?_, ?_, len1, fun a h1 h2 h3 h4 => keep1 a h1⟩
        · simpa [lightAll] using A1
        · simpa [lightAll] using I1
        · simpa [lightAll] using hf1
      · rintro j l σj y hy ⟨hj, m46, m55, m56, Aj, Ij, hfj, lenj, kj⟩
        have hjx : j < xs.length := by have := (List.getElem?_eq_some_iff.mp hy).1; simpa using this
        have hyx : y = ov xs[j] := by
          have : (xs.map ov)[j]? = some (ov xs[j]) := by simp [hjx]
          rw [this] at hy; cases hy; rfl
        subst hyx
        have tk : xs.take (j + 1) = xs.take j ++ [xs[j]] := List.take_succ_eq_append_getElem hjx
        have dr : xs.drop j = xs[j] :: xs.drop (j + 1) := List.drop_eq_getElem_cons hjx
        rw [dr] at Ij
        have I2 := light_inv Ij
        have hbj : (lightAll (popS s k) (xs.take j)).1.boxes = (popS s k).boxes := (lightAll_boxes _ _).1
        have wl := Ij.wlen
        have dl := Ij.dlen
        have ll := Ij.llen
        rw [hbj] at wl dl ll
        have hllen : (rest ++ (lightAll (popS s k) (xs.take j)).2).length = rest.length + (lightAll (popS s k) (xs.take j)).2.length := List.length_append
        rw [hllen] at ll
        refine oks_step rfl ?_
        simp (disch := decide) only [m46, m55, mx_inst Aj.p Aj.d, oks_cons, oks_nil, then_none, then_some, s_expr, exprK_at, s_var, varK_at, s_attr, attrK_at, attrK2_at, s_sub, subK_at, subK2_at, subK3_at, s_ite, iteK_t, iteK_f, s_ret, retK_at, s_ret0, s_pass, runK_some, runK_none, forK_at, turnK_none, turnK_some, whlK_t, whlK_f, tt_not, tt_band, tt_bor, tt_bool, tt_loc, tt_cmp, tt_cmp2, tt_call, tt_meth, tt_isi, tt_attr, tt_sub, tt_bin, tnotF_t, tnotF_f, ta_nil, ta_cons, andF_t, andF_f, to_nil, to_cons, orF_t, orF_f, e_none, e_bool, e_int, e_str, e_loc, e_bin, binF_at, e_not, notF_at, notF2_t, notF2_f, e_band, e_bor, e_cmp, cmpF_at, e_cmp2, cmpG_t, cmpG_f, e_list, listF_at, e_tup, tupF_at, e_dict0, e_attr, attrF_at, e_sub, subF_at, e_call, e_meth, methF_at, e_bi, e_isi, isiF_at, boolF_at, e_comp, es_nil, es_cons, consF_at, consF2_at, ok_bind, bindK_at, bind_pure, bind_lift, ok_pure, ok_lift, List.zip_cons_cons, List.zip_nil_right, List.zip_nil_left, List.foldl_cons, List.foldl_nil, upd_def, Nat.reduceBEq, bif_t, bif_f, if_true, if_false, Bool.false_eq_true, reduceCtorEq, Nat.reduceEqDiff, ne_eq, not_false_eq_true, not_true_eq_false, decide_true, decide_false, Bool.not_true, Bool.not_false]
        refine lighter_ok hP Aj (fun k' e => ?_) hfj (fun e => hfo1 (lightAll_own.mp e)) hfn (by lia) (by lia) ?_ fun σ' A' hf' len' k' => ?_
        · rw [Ij.ct k']; simp [List.count_append, List.count_cons, e]; lia
        · simp only [List.length_append, List.length_cons]; lia
        · refine ⟨rfl, still_get ?_, by lia, m46, m55, m56, ?_, ?_, ?_, by lia, ?_⟩
          · rw [k' _ (by lia) hbx.2.2 (Ne.symm fk), kj _ (by lia) (by lia) hbx.2.2 (Ne.symm fk)]; exact hbx.1.trans hs1.symm
          · rw [tk, lightAll_snoc]; exact A'
          · rw [tk, lightAll_snoc]; simpa using I2
          · rw [tk, lightAll_snoc]; simpa [List.append_assoc] using hf'
          · intro a h1 h2 h3 h4; rw [k' a h2 h3 h4]; exact kj a h1 h2 h3 h4
      · rintro l σj ⟨_, m46, m55, m56, Aj, Ij, hfj, lenj, kj⟩
        simp only [List.length_map, List.take_length, List.drop_length] at Aj Ij hfj
        refine then_step rfl ?_
        simp (disch := decide) only [m56, ok_add, s_expr, exprK_at, s_var, varK_at, s_attr, attrK_at, attrK2_at, s_sub, subK_at, subK2_at, subK3_at, s_ite, iteK_t, iteK_f, s_ret, retK_at, s_ret0, s_pass, runK_some, runK_none, forK_at, turnK_none, turnK_some, whlK_t, whlK_f, tt_not, tt_band, tt_bor, tt_bool, tt_loc, tt_cmp, tt_cmp2, tt_call, tt_meth, tt_isi, tt_attr, tt_sub, tt_bin, tnotF_t, tnotF_f, ta_nil, ta_cons, andF_t, andF_f, to_nil, to_cons, orF_t, orF_f, e_none, e_bool, e_int, e_str, e_loc, e_bin, binF_at, e_not, notF_at, notF2_t, notF2_f, e_band, e_bor, e_cmp, cmpF_at, e_cmp2, cmpG_t, cmpG_f, e_list, listF_at, e_tup, tupF_at, e_dict0, e_attr, attrF_at, e_sub, subF_at, e_call, e_meth, methF_at, e_bi, e_isi, isiF_at, boolF_at, e_comp, es_nil, es_cons, consF_at, consF2_at, ok_bind, bindK_at, bind_pure, bind_lift, ok_pure, ok_lift, List.zip_cons_cons, List.zip_nil_right, List.zip_nil_left, List.foldl_cons, List.foldl_nil, upd_def, Nat.reduceBEq, bif_t, bif_f, if_true, if_false, Bool.false_eq_true, reduceCtorEq, Nat.reduceEqDiff, ne_eq, not_false_eq_true, not_true_eq_false, decide_true, decide_false, Bool.not_true, Bool.not_false]
        rw [then_none, oks_nil]
        have hbj : (lightAll (popS s k) xs).1.boxes = (popS s k).boxes := (lightAll_boxes _ _).1
        refine ih b' (lightAll (popS s k) xs).1 σj (fr ++ [k]) (rest ++ (lightAll (popS s k) xs).2) _ (m46) (m55) (by rw [upd_at]; simp) Aj Ij (fun e => hfo1 (lightAll_own.mp e)) (by rw [hbj]; lia) (by lia) (by rw [hbj]; lia) (by rw [hbj]; simp only [List.length_append, List.length_cons, List.length_nil]; lia) (by rw [hfj]; simp [List.append_assoc]) ?_
        intro loc' σ' A' l55' hf' len' k'
        have e1 : fallS (b' + 1) s (k :: rest) = ((fallS b' (lightAll (popS s k) xs).1 (rest ++ (lightAll (popS s k) xs).2)).1, k :: (fallS b' (lightAll (popS s k) xs).1 (rest ++ (lightAll (popS s k) xs).2)).2) := by simp only [fallS, hxs]
        refine h loc' σ' ?_ l55' ?_ (by lia) fun a h1 h2 h3 h4 => ?_
        · rw [e1]; exact A'
        · rw [e1]; simpa [List.append_assoc] using hf'
        · rw [k' a h1 h2 h3 h4]; exact kj a h1 h2 h3 h4
theorem letgo_ok {σ : H} {s : PS} {x : Option Nat} {Q : V → H → Prop} (A : At P σ n q α s) (I : PGood s [x] []) (hb : s.boxes.length ≤ 900)
    (h : ∀ σ', At P σ' n q α (letgoS s x).1 → σ'.get σ.length = some (.list (iN (letgoS s x).2)) → σ'.length = σ.length + 1 → (∀ a, a < σ.length → a ≠ n + 4 → a ≠ n + 5 → a ≠ q → σ'.get a = σ.get a) → Q (.ref σ.length) σ') :
    Ok (run P 1000 (d + 2) true 30 [.ref (n + 1), ov x]) σ Q := by
  rw [ok_run (fd := PP.m_let_go) hP.m30 rfl]
  have A1 := A.push (.list [])
  have g1 : (σ.push (.list [])).get σ.length = some (.list (iN [])) := get_push_eq
  have k1 : ∀ a, a < σ.length → (σ.push (.list [])).get a = σ.get a := fun a h => get_push_lt h
  have l1 : (σ.push (.list [])).length = σ.length + 1 := len_push
  have hfo : ¬ Own n q α s σ.length := fun e => Nat.lt_irrefl _ (A.lt e)
  have nfl : P.nf ≤ σ.length := by have := A.nf; have := A.len; lia
  have wl := I.wlen
  have dl := I.dlen
  unfold PP.m_let_go
  refine oks_step rfl ?_
  simp (disch := decide) only [ok_alloc (o := .list []) rfl, s_expr, exprK_at, s_var, varK_at, s_attr, attrK_at, attrK2_at, s_sub, subK_at, subK2_at, subK3_at, s_ite, iteK_t, iteK_f, s_ret, retK_at, s_ret0, s_pass, runK_some, runK_none, forK_at, turnK_none, turnK_some, whlK_t, whlK_f, tt_not, tt_band, tt_bor, tt_bool, tt_loc, tt_cmp, tt_cmp2, tt_call, tt_meth, tt_isi, tt_attr, tt_sub, tt_bin, tnotF_t, tnotF_f, ta_nil, ta_cons, andF_t, andF_f, to_nil, to_cons, orF_t, orF_f, e_none, e_bool, e_int, e_str, e_loc, e_bin, binF_at, e_not, notF_at, notF2_t, notF2_f, e_band, e_bor, e_cmp, cmpF_at, e_cmp2, cmpG_t, cmpG_f, e_list, listF_at, e_tup, tupF_at, e_dict0, e_attr, attrF_at, e_sub, subF_at, e_call, e_meth, methF_at, e_bi, e_isi, isiF_at, boolF_at, e_comp, es_nil, es_cons, consF_at, consF2_at, ok_bind, bindK_at, bind_pure, bind_lift, ok_pure, ok_lift, List.zip_cons_cons, List.zip_nil_right, List.zip_nil_left, List.foldl_cons, List.foldl_nil, upd_def, Nat.reduceBEq, bif_t, bif_f, if_true, if_false, Bool.false_eq_true, reduceCtorEq, Nat.reduceEqDiff, ne_eq, not_false_eq_true, not_true_eq_false, decide_true, decide_false, Bool.not_true, Bool.not_false]
  refine then_step rfl ?_
  generalize σ.push (.list []) = τ at *
  simp (disch := decide) only [mx_inst A1.p A1.d, s_expr, exprK_at, s_var, varK_at, s_attr, attrK_at, attrK2_at, s_sub, subK_at, subK2_at, subK3_at, s_ite, iteK_t, iteK_f, s_ret, retK_at, s_ret0, s_pass, runK_some, runK_none, forK_at, turnK_none, turnK_some, whlK_t, whlK_f, tt_not, tt_band, tt_bor, tt_bool, tt_loc, tt_cmp, tt_cmp2, tt_call, tt_meth, tt_isi, tt_attr, tt_sub, tt_bin, tnotF_t, tnotF_f, ta_nil, ta_cons, andF_t, andF_f, to_nil, to_cons, orF_t, orF_f, e_none, e_bool, e_int, e_str, e_loc, e_bin, binF_at, e_not, notF_at, notF2_t, notF2_f, e_band, e_bor, e_cmp, cmpF_at, e_cmp2, cmpG_t, cmpG_f, e_list, listF_at, e_tup, tupF_at, e_dict0, e_attr, attrF_at, e_sub, subF_at, e_call, e_meth, methF_at, e_bi, e_isi, isiF_at, boolF_at, e_comp, es_nil, es_cons, consF_at, consF2_at, ok_bind, bindK_at, bind_pure, bind_lift, ok_pure, ok_lift, List.zip_cons_cons, List.zip_nil_right, List.zip_nil_left, List.foldl_cons, List.foldl_nil, upd_def, Nat.reduceBEq, bif_t, bif_f, if_true, if_false, Bool.false_eq_true, reduceCtorEq, Nat.reduceEqDiff, ne_eq, not_false_eq_true, not_true_eq_false, decide_true, decide_false, Bool.not_true, Bool.not_false]
  refine lighter_ok hP A1 (fun k e => ?_) g1 hfo nfl (by lia) (by lia) (by simp) fun τ' A2 g2 l2 k2 => ?_
  · rw [I.ct k]; simp [List.count_append, e]
  · refine then_step rfl ?_
    simp (disch := decide) only [s_expr, exprK_at, s_var, varK_at, s_attr, attrK_at, attrK2_at, s_sub, subK_at, subK2_at, subK3_at, s_ite, iteK_t, iteK_f, s_ret, retK_at, s_ret0, s_pass, runK_some, runK_none, forK_at, turnK_none, turnK_some, whlK_t, whlK_f, tt_not, tt_band, tt_bor, tt_bool, tt_loc, tt_cmp, tt_cmp2, tt_call, tt_meth, tt_isi, tt_attr, tt_sub, tt_bin, tnotF_t, tnotF_f, ta_nil, ta_cons, andF_t, andF_f, to_nil, to_cons, orF_t, orF_f, e_none, e_bool, e_int, e_str, e_loc, e_bin, binF_at, e_not, notF_at, notF2_t, notF2_f, e_band, e_bor, e_cmp, cmpF_at, e_cmp2, cmpG_t, cmpG_f, e_list, listF_at, e_tup, tupF_at, e_dict0, e_attr, attrF_at, e_sub, subF_at, e_call, e_meth, methF_at, e_bi, e_isi, isiF_at, boolF_at, e_comp, es_nil, es_cons, consF_at, consF2_at, ok_bind, bindK_at, bind_pure, bind_lift, ok_pure, ok_lift, List.zip_cons_cons, List.zip_nil_right, List.zip_nil_left, List.foldl_cons, List.foldl_nil, upd_def, Nat.reduceBEq, bif_t, bif_f, if_true, if_false, Bool.false_eq_true, reduceCtorEq, Nat.reduceEqDiff, ne_eq, not_false_eq_true, not_true_eq_false, decide_true, decide_false, Bool.not_true, Bool.not_false]
    refine then_step rfl ?_
    rw [s_whl]
    have I2 := light_inv I
    refine fall_ok hP nfl 1000 s.boxes.length (lightS s x).1 τ' [] (lightS s x).2 _ (rfl) (rfl) (rfl) A2 (by simpa using I2) (fun e => hfo (light_own.mp e)) (by rw [light_boxes.1]; exact Nat.le_refl _) (by lia) (by rw [light_boxes.1]; lia) (by rw [light_boxes.1]; simp; lia) (by simpa using g2) ?_
    intro loc' σ' A3 l55 g3 l3 k3
    refine then_step rfl ?_
    simp (disch := decide) only [l55, then_some, s_expr, exprK_at, s_var, varK_at, s_attr, attrK_at, attrK2_at, s_sub, subK_at, subK2_at, subK3_at, s_ite, iteK_t, iteK_f, s_ret, retK_at, s_ret0, s_pass, runK_some, runK_none, forK_at, turnK_none, turnK_some, whlK_t, whlK_f, tt_not, tt_band, tt_bor, tt_bool, tt_loc, tt_cmp, tt_cmp2, tt_call, tt_meth, tt_isi, tt_attr, tt_sub, tt_bin, tnotF_t, tnotF_f, ta_nil, ta_cons, andF_t, andF_f, to_nil, to_cons, orF_t, orF_f, e_none, e_bool, e_int, e_str, e_loc, e_bin, binF_at, e_not, notF_at, notF2_t, notF2_f, e_band, e_bor, e_cmp, cmpF_at, e_cmp2, cmpG_t, cmpG_f, e_list, listF_at, e_tup, tupF_at, e_dict0, e_attr, attrF_at, e_sub, subF_at, e_call, e_meth, methF_at, e_bi, e_isi, isiF_at, boolF_at, e_comp, es_nil, es_cons, consF_at, consF2_at, ok_bind, bindK_at, bind_pure, bind_lift, ok_pure, ok_lift, List.zip_cons_cons, List.zip_nil_right, List.zip_nil_left, List.foldl_cons, List.foldl_nil, upd_def, Nat.reduceBEq, bif_t, bif_f, if_true, if_false, Bool.false_eq_true, reduceCtorEq, Nat.reduceEqDiff, ne_eq, not_false_eq_true, not_true_eq_false, decide_true, decide_false, Bool.not_true, Bool.not_false]
    refine h σ' A3 (by simpa [letgoS] using g3) (by lia) fun a h1 h2 h3 h4 => ?_
    rw [k3 a h2 h3 h4 (by lia), k2 a h3 h4 (by lia), k1 a h1]
end
end Mine

set_option autoImplicit false
set_option linter.unusedSimpArgs false
set_option linter.unusedVariables false
namespace Mine
open PySem (Str PyData)

theorem fall_keys : ∀ (b : Nat) (s : PS) (left : List Nat) (k : Nat), k ∈ keys (fallS b s left).1.boxes → k ∈ keys s.boxes
  | 0, s, left, k, h => h
  | b + 1, s, [], k, h => h
  | b + 1, s, j :: rest, k, h => by
    have := fall_keys b _ _ k h
    rw [(lightAll_boxes _ _).1] at this
    have this : k ∈ keys (aDel s.boxes j) := this
    rw [keys_aDel] at this
    exact List.mem_of_mem_erase this
theorem letgo_keys {s : PS} {x : Option Nat} {k : Nat} (h : k ∈ keys (letgoS s x).1.boxes) : k ∈ keys s.boxes := by
  have := fall_keys _ _ _ _ h
  rwa [light_boxes.1] at this
theorem own_mono {n q : Nat} {α : Nat → Nat} {s s' : PS} {a : Nat} (k : ∀ k, k ∈ keys s'.boxes → k ∈ keys s.boxes) (h : Own n q α s' a) : Own n q α s a := by
  rcases h with h | h | h | h | h | h | ⟨j, hj, e⟩
  · exact .inl h
  · exact .inr (.inl h)
  · exact .inr (.inr (.inl h))
  · exact .inr (.inr (.inr (.inl h)))
  · exact .inr (.inr (.inr (.inr (.inl h))))
  · exact .inr (.inr (.inr (.inr (.inr (.inl h)))))
  · exact .inr (.inr (.inr (.inr (.inr (.inr ⟨j, k j hj, e⟩)))))
theorem count_boxes {s : PS} {x : Option Nat} : (countS s x).boxes = s.boxes ∧ (countS s x).hands = s.hands ∧ (countS s x).doubted = s.doubted ∧ (countS s x).made = s.made := by cases x <;> exact ⟨rfl, rfl, rfl, rfl⟩
theorem handed_keys {s : PS} {h : Nat} {x : Option Nat} {k : Nat} (e : k ∈ keys (handedS s h x).1.boxes) : k ∈ keys s.boxes := by
  have := letgo_keys e
  have this : k ∈ keys (countS s x).boxes := this
  rwa [count_boxes.1] at this
theorem pointed_keys {s : PS} {b i : Nat} {x : Option Nat} {k : Nat} (hb : b ∈ keys s.boxes) (e : k ∈ keys (pointedS s b i x).1.boxes) : k ∈ keys s.boxes := by
  have := letgo_keys e
  have this : k ∈ keys (aSet s.boxes b _) := this
  rwa [keys_aSet hb] at this
theorem ov_at {xs : List (Option Nat)} {i : Nat} (h : i < xs.length) : (xs.map ov)[i]? = some (ov ((xs[i]?).getD none)) := by simp [h]

structure Did (P : Prog) (σ σ' : H) (n q : Nat) (α : Nat → Nat) (s : PS) (α' : Nat → Nat) (r : PS × List Nat) (f : Nat) : Prop where
  at' : At P σ' n q α' r.1
  fr : σ'.get f = some (.list (iN r.2))
  len : σ'.length = f + 1
  le : σ.length ≤ f
  kp : ∀ a, a < σ.length → ¬ Own n q α s a → σ'.get a = σ.get a
  own : ∀ a, Own n q α' r.1 a → Own n q α s a ∨ (σ.length ≤ a ∧ a < f)

section
variable {P : Prog} {n q : Nat} {α : Nat → Nat} {d : Nat} {σ : H} {s : PS} {Q : V → H → Prop} (hP : PileP P)
include hP
theorem need_hand_ok {k : Nat} (h1 : k < 8) (h : Q .none σ) : Ok (run P 1000 (d + 1) true 26 [.ref (n + 1), .int (k : Int)]) σ Q := by
  rw [ok_run (fd := PP.m_need_hand) hP.m26 rfl]
  have h0' : (0 : Int) ≤ (k : Int) := Int.natCast_nonneg _
  have h1' : (k : Int) < 8 := by lia
  simp (disch := decide) only [PP.m_need_hand, eg21 hP, ok_le, ok_lt, ok_truthb, h0', h1', oks_cons, oks_nil, then_none, then_some, s_expr, exprK_at, s_var, varK_at, s_attr, attrK_at, attrK2_at, s_sub, subK_at, subK2_at, subK3_at, s_ite, iteK_t, iteK_f, s_ret, retK_at, s_ret0, s_pass, runK_some, runK_none, forK_at, turnK_none, turnK_some, whlK_t, whlK_f, tt_not, tt_band, tt_bor, tt_bool, tt_loc, tt_cmp, tt_cmp2, tt_call, tt_meth, tt_isi, tt_attr, tt_sub, tt_bin, tnotF_t, tnotF_f, ta_nil, ta_cons, andF_t, andF_f, to_nil, to_cons, orF_t, orF_f, e_none, e_bool, e_int, e_str, e_loc, e_bin, binF_at, e_not, notF_at, notF2_t, notF2_f, e_band, e_bor, e_cmp, cmpF_at, e_cmp2, cmpG_t, cmpG_f, e_list, listF_at, e_tup, tupF_at, e_dict0, e_attr, attrF_at, e_sub, subF_at, e_call, e_meth, methF_at, e_bi, e_isi, isiF_at, boolF_at, e_comp, es_nil, es_cons, consF_at, consF2_at, ok_bind, bindK_at, bind_pure, bind_lift, ok_pure, ok_lift, List.zip_cons_cons, List.zip_nil_right, List.zip_nil_left, List.foldl_cons, List.foldl_nil, upd_def, Nat.reduceBEq, bif_t, bif_f, if_true, if_false, Bool.false_eq_true, reduceCtorEq, Nat.reduceEqDiff, ne_eq, not_false_eq_true, not_true_eq_false, decide_true, decide_false, Bool.not_true, Bool.not_false]
  exact h
theorem need_box_ok {k : Nat} (A : At P σ n q α s) (hk : k ∈ keys s.boxes) (h : Q .none σ) : Ok (run P 1000 (d + 1) true 27 [.ref (n + 1), .int (k : Int)]) σ Q := by
  rw [ok_run (fd := PP.m_need_box) hP.m27 rfl]
  obtain ⟨v, hv⟩ := aGet_key hk
  have hg : dget (bD α s.boxes) (.int (k : Int)) = some (.ref (α k)) := by unfold bD; rw [enc_get, hv]; rfl
  simp (disch := decide) only [PP.m_need_box, ok_getAttr A.p A.d (n := 48) (v := .ref (n + 4)) rfl, ok_notInD A.b (k := .int (k : Int)) rfl, hg, Option.isSome_some, ok_truthb, oks_cons, oks_nil, then_none, then_some, s_expr, exprK_at, s_var, varK_at, s_attr, attrK_at, attrK2_at, s_sub, subK_at, subK2_at, subK3_at, s_ite, iteK_t, iteK_f, s_ret, retK_at, s_ret0, s_pass, runK_some, runK_none, forK_at, turnK_none, turnK_some, whlK_t, whlK_f, tt_not, tt_band, tt_bor, tt_bool, tt_loc, tt_cmp, tt_cmp2, tt_call, tt_meth, tt_isi, tt_attr, tt_sub, tt_bin, tnotF_t, tnotF_f, ta_nil, ta_cons, andF_t, andF_f, to_nil, to_cons, orF_t, orF_f, e_none, e_bool, e_int, e_str, e_loc, e_bin, binF_at, e_not, notF_at, notF2_t, notF2_f, e_band, e_bor, e_cmp, cmpF_at, e_cmp2, cmpG_t, cmpG_f, e_list, listF_at, e_tup, tupF_at, e_dict0, e_attr, attrF_at, e_sub, subF_at, e_call, e_meth, methF_at, e_bi, e_isi, isiF_at, boolF_at, e_comp, es_nil, es_cons, consF_at, consF2_at, ok_bind, bindK_at, bind_pure, bind_lift, ok_pure, ok_lift, List.zip_cons_cons, List.zip_nil_right, List.zip_nil_left, List.foldl_cons, List.foldl_nil, upd_def, Nat.reduceBEq, bif_t, bif_f, if_true, if_false, Bool.false_eq_true, reduceCtorEq, Nat.reduceEqDiff, ne_eq, not_false_eq_true, not_true_eq_false, decide_true, decide_false, Bool.not_true, Bool.not_false]
  exact h
theorem holds_ok {k : Nat} (A : At P σ n q α s) (hl : s.hands.length = 8) (h1 : k < 8) (h : Q (ov (handOf s k)) σ) : Ok (run P 1000 (d + 2) true 41 [.ref (n + 1), .int (k : Int)]) σ Q := by
  rw [ok_run (fd := PP.m_holds) hP.m41 rfl]
  simp (disch := decide) only [PP.m_holds, mx_inst A.p A.d, oks_cons, oks_nil, then_none, then_some, s_expr, exprK_at, s_var, varK_at, s_attr, attrK_at, attrK2_at, s_sub, subK_at, subK2_at, subK3_at, s_ite, iteK_t, iteK_f, s_ret, retK_at, s_ret0, s_pass, runK_some, runK_none, forK_at, turnK_none, turnK_some, whlK_t, whlK_f, tt_not, tt_band, tt_bor, tt_bool, tt_loc, tt_cmp, tt_cmp2, tt_call, tt_meth, tt_isi, tt_attr, tt_sub, tt_bin, tnotF_t, tnotF_f, ta_nil, ta_cons, andF_t, andF_f, to_nil, to_cons, orF_t, orF_f, e_none, e_bool, e_int, e_str, e_loc, e_bin, binF_at, e_not, notF_at, notF2_t, notF2_f, e_band, e_bor, e_cmp, cmpF_at, e_cmp2, cmpG_t, cmpG_f, e_list, listF_at, e_tup, tupF_at, e_dict0, e_attr, attrF_at, e_sub, subF_at, e_call, e_meth, methF_at, e_bi, e_isi, isiF_at, boolF_at, e_comp, es_nil, es_cons, consF_at, consF2_at, ok_bind, bindK_at, bind_pure, bind_lift, ok_pure, ok_lift, List.zip_cons_cons, List.zip_nil_right, List.zip_nil_left, List.foldl_cons, List.foldl_nil, upd_def, Nat.reduceBEq, bif_t, bif_f, if_true, if_false, Bool.false_eq_true, reduceCtorEq, Nat.reduceEqDiff, ne_eq, not_false_eq_true, not_true_eq_false, decide_true, decide_false, Bool.not_true, Bool.not_false]
  refine need_hand_ok hP h1 ?_
  have hv : (s.hands.map ov)[((k : Int)).toNat]? = some (ov (handOf s k)) := ov_at (by lia)
  simp (disch := decide) only [ok_getAttr A.p A.d (n := 47) (v := .ref (n + 3)) rfl, ok_getList A.h (Int.natCast_nonneg _) hv, oks_cons, oks_nil, then_none, then_some, s_expr, exprK_at, s_var, varK_at, s_attr, attrK_at, attrK2_at, s_sub, subK_at, subK2_at, subK3_at, s_ite, iteK_t, iteK_f, s_ret, retK_at, s_ret0, s_pass, runK_some, runK_none, forK_at, turnK_none, turnK_some, whlK_t, whlK_f, tt_not, tt_band, tt_bor, tt_bool, tt_loc, tt_cmp, tt_cmp2, tt_call, tt_meth, tt_isi, tt_attr, tt_sub, tt_bin, tnotF_t, tnotF_f, ta_nil, ta_cons, andF_t, andF_f, to_nil, to_cons, orF_t, orF_f, e_none, e_bool, e_int, e_str, e_loc, e_bin, binF_at, e_not, notF_at, notF2_t, notF2_f, e_band, e_bor, e_cmp, cmpF_at, e_cmp2, cmpG_t, cmpG_f, e_list, listF_at, e_tup, tupF_at, e_dict0, e_attr, attrF_at, e_sub, subF_at, e_call, e_meth, methF_at, e_bi, e_isi, isiF_at, boolF_at, e_comp, es_nil, es_cons, consF_at, consF2_at, ok_bind, bindK_at, bind_pure, bind_lift, ok_pure, ok_lift, List.zip_cons_cons, List.zip_nil_right, List.zip_nil_left, List.foldl_cons, List.foldl_nil, upd_def, Nat.reduceBEq, bif_t, bif_f, if_true, if_false, Bool.false_eq_true, reduceCtorEq, Nat.reduceEqDiff, ne_eq, not_false_eq_true, not_true_eq_false, decide_true, decide_false, Bool.not_true, Bool.not_false]
  exact h
theorem points_ok {k : Nat} (hm : P.meths.lookup 42 = some PP.m_points) (A : At P σ n q α s) (hk : k ∈ keys s.boxes) (hs : (slotsOf s k).length ≤ 6) (h : Q (.ref σ.length) (σ.push (.list ((slotsOf s k).map ov)))) :
    Ok (run P 1000 (d + 2) true 42 [.ref (n + 1), .int (k : Int)]) σ Q := by
  rw [ok_run (fd := PP.m_points) hm rfl]
  simp (disch := decide) only [PP.m_points, mx_inst A.p A.d, oks_cons, oks_nil, then_none, then_some, s_expr, exprK_at, s_var, varK_at, s_attr, attrK_at, attrK2_at, s_sub, subK_at, subK2_at, subK3_at, s_ite, iteK_t, iteK_f, s_ret, retK_at, s_ret0, s_pass, runK_some, runK_none, forK_at, turnK_none, turnK_some, whlK_t, whlK_f, tt_not, tt_band, tt_bor, tt_bool, tt_loc, tt_cmp, tt_cmp2, tt_call, tt_meth, tt_isi, tt_attr, tt_sub, tt_bin, tnotF_t, tnotF_f, ta_nil, ta_cons, andF_t, andF_f, to_nil, to_cons, orF_t, orF_f, e_none, e_bool, e_int, e_str, e_loc, e_bin, binF_at, e_not, notF_at, notF2_t, notF2_f, e_band, e_bor, e_cmp, cmpF_at, e_cmp2, cmpG_t, cmpG_f, e_list, listF_at, e_tup, tupF_at, e_dict0, e_attr, attrF_at, e_sub, subF_at, e_call, e_meth, methF_at, e_bi, e_isi, isiF_at, boolF_at, e_comp, es_nil, es_cons, consF_at, consF2_at, ok_bind, bindK_at, bind_pure, bind_lift, ok_pure, ok_lift, List.zip_cons_cons, List.zip_nil_right, List.zip_nil_left, List.foldl_cons, List.foldl_nil, upd_def, Nat.reduceBEq, bif_t, bif_f, if_true, if_false, Bool.false_eq_true, reduceCtorEq, Nat.reduceEqDiff, ne_eq, not_false_eq_true, not_true_eq_false, decide_true, decide_false, Bool.not_true, Bool.not_false]
  refine need_box_ok hP A hk ?_
  obtain ⟨v, hv⟩ := aGet_key hk
  have hg : dget (bD α s.boxes) (.int (k : Int)) = some (.ref (α k)) := by unfold bD; rw [enc_get, hv]; rfl
  have hx : slotsOf s k = v := by unfold slotsOf; rw [hv]; rfl
  rw [hx] at h hs
  have hlim : lim = 1000000 := rfl
  simp (disch := decide) only [ok_getAttr A.p A.d (n := 48) (v := .ref (n + 4)) rfl, ok_getDict A.b rfl hg, ok_listL (A.bx k v (aGet_some_mem hv)).1 (by simp [hlim]; lia), oks_cons, oks_nil, then_none, then_some, s_expr, exprK_at, s_var, varK_at, s_attr, attrK_at, attrK2_at, s_sub, subK_at, subK2_at, subK3_at, s_ite, iteK_t, iteK_f, s_ret, retK_at, s_ret0, s_pass, runK_some, runK_none, forK_at, turnK_none, turnK_some, whlK_t, whlK_f, tt_not, tt_band, tt_bor, tt_bool, tt_loc, tt_cmp, tt_cmp2, tt_call, tt_meth, tt_isi, tt_attr, tt_sub, tt_bin, tnotF_t, tnotF_f, ta_nil, ta_cons, andF_t, andF_f, to_nil, to_cons, orF_t, orF_f, e_none, e_bool, e_int, e_str, e_loc, e_bin, binF_at, e_not, notF_at, notF2_t, notF2_f, e_band, e_bor, e_cmp, cmpF_at, e_cmp2, cmpG_t, cmpG_f, e_list, listF_at, e_tup, tupF_at, e_dict0, e_attr, attrF_at, e_sub, subF_at, e_call, e_meth, methF_at, e_bi, e_isi, isiF_at, boolF_at, e_comp, es_nil, es_cons, consF_at, consF2_at, ok_bind, bindK_at, bind_pure, bind_lift, ok_pure, ok_lift, List.zip_cons_cons, List.zip_nil_right, List.zip_nil_left, List.foldl_cons, List.foldl_nil, upd_def, Nat.reduceBEq, bif_t, bif_f, if_true, if_false, Bool.false_eq_true, reduceCtorEq, Nat.reduceEqDiff, ne_eq, not_false_eq_true, not_true_eq_false, decide_true, decide_false, Bool.not_true, Bool.not_false]
  exact h
theorem weighs_ok {k : Nat} (A : At P σ n q α s) (hk : k ∈ keys s.boxes) (hw : k ∈ keys s.weights) (h : Q (.int (wt s k : Int)) σ) : Ok (run P 1000 (d + 2) true 43 [.ref (n + 1), .int (k : Int)]) σ Q := by
  rw [ok_run (fd := PP.m_weighs) hP.m43 rfl]
  simp (disch := decide) only [PP.m_weighs, mx_inst A.p A.d, oks_cons, oks_nil, then_none, then_some, s_expr, exprK_at, s_var, varK_at, s_attr, attrK_at, attrK2_at, s_sub, subK_at, subK2_at, subK3_at, s_ite, iteK_t, iteK_f, s_ret, retK_at, s_ret0, s_pass, runK_some, runK_none, forK_at, turnK_none, turnK_some, whlK_t, whlK_f, tt_not, tt_band, tt_bor, tt_bool, tt_loc, tt_cmp, tt_cmp2, tt_call, tt_meth, tt_isi, tt_attr, tt_sub, tt_bin, tnotF_t, tnotF_f, ta_nil, ta_cons, andF_t, andF_f, to_nil, to_cons, orF_t, orF_f, e_none, e_bool, e_int, e_str, e_loc, e_bin, binF_at, e_not, notF_at, notF2_t, notF2_f, e_band, e_bor, e_cmp, cmpF_at, e_cmp2, cmpG_t, cmpG_f, e_list, listF_at, e_tup, tupF_at, e_dict0, e_attr, attrF_at, e_sub, subF_at, e_call, e_meth, methF_at, e_bi, e_isi, isiF_at, boolF_at, e_comp, es_nil, es_cons, consF_at, consF2_at, ok_bind, bindK_at, bind_pure, bind_lift, ok_pure, ok_lift, List.zip_cons_cons, List.zip_nil_right, List.zip_nil_left, List.foldl_cons, List.foldl_nil, upd_def, Nat.reduceBEq, bif_t, bif_f, if_true, if_false, Bool.false_eq_true, reduceCtorEq, Nat.reduceEqDiff, ne_eq, not_false_eq_true, not_true_eq_false, decide_true, decide_false, Bool.not_true, Bool.not_false]
  refine need_box_ok hP A hk ?_
  obtain ⟨v, hv⟩ := aGet_key hw
  have hg : dget (wD s.weights) (.int (k : Int)) = some (.int (wt s k : Int)) := by unfold wD wt; rw [enc_get, hv]; rfl
  simp (disch := decide) only [ok_getAttr A.p A.d (n := 49) (v := .ref (n + 5)) rfl, ok_getDict A.w rfl hg, oks_cons, oks_nil, then_none, then_some, s_expr, exprK_at, s_var, varK_at, s_attr, attrK_at, attrK2_at, s_sub, subK_at, subK2_at, subK3_at, s_ite, iteK_t, iteK_f, s_ret, retK_at, s_ret0, s_pass, runK_some, runK_none, forK_at, turnK_none, turnK_some, whlK_t, whlK_f, tt_not, tt_band, tt_bor, tt_bool, tt_loc, tt_cmp, tt_cmp2, tt_call, tt_meth, tt_isi, tt_attr, tt_sub, tt_bin, tnotF_t, tnotF_f, ta_nil, ta_cons, andF_t, andF_f, to_nil, to_cons, orF_t, orF_f, e_none, e_bool, e_int, e_str, e_loc, e_bin, binF_at, e_not, notF_at, notF2_t, notF2_f, e_band, e_bor, e_cmp, cmpF_at, e_cmp2, cmpG_t, cmpG_f, e_list, listF_at, e_tup, tupF_at, e_dict0, e_attr, attrF_at, e_sub, subF_at, e_call, e_meth, methF_at, e_bi, e_isi, isiF_at, boolF_at, e_comp, es_nil, es_cons, consF_at, consF2_at, ok_bind, bindK_at, bind_pure, bind_lift, ok_pure, ok_lift, List.zip_cons_cons, List.zip_nil_right, List.zip_nil_left, List.foldl_cons, List.foldl_nil, upd_def, Nat.reduceBEq, bif_t, bif_f, if_true, if_false, Bool.false_eq_true, reduceCtorEq, Nat.reduceEqDiff, ne_eq, not_false_eq_true, not_true_eq_false, decide_true, decide_false, Bool.not_true, Bool.not_false]
  exact h
theorem alive_ok (A : At P σ n q α s) (hl : s.boxes.length < 64) (h : Q (.ref σ.length) (σ.push (.list ((sortI ((keys s.boxes).map Int.ofNat)).map .int)))) : Ok (run P 1000 (d + 1) true 44 [.ref (n + 1)]) σ Q := by
  rw [ok_run (fd := PP.m_alive) hP.m44 rfl]
  simp (disch := decide) only [PP.m_alive, ok_getAttr A.p A.d (n := 48) (v := .ref (n + 4)) rfl, ok_sortedD A.b enc_keys (by simpa [keys] using hl), oks_cons, oks_nil, then_none, then_some, s_expr, exprK_at, s_var, varK_at, s_attr, attrK_at, attrK2_at, s_sub, subK_at, subK2_at, subK3_at, s_ite, iteK_t, iteK_f, s_ret, retK_at, s_ret0, s_pass, runK_some, runK_none, forK_at, turnK_none, turnK_some, whlK_t, whlK_f, tt_not, tt_band, tt_bor, tt_bool, tt_loc, tt_cmp, tt_cmp2, tt_call, tt_meth, tt_isi, tt_attr, tt_sub, tt_bin, tnotF_t, tnotF_f, ta_nil, ta_cons, andF_t, andF_f, to_nil, to_cons, orF_t, orF_f, e_none, e_bool, e_int, e_str, e_loc, e_bin, binF_at, e_not, notF_at, notF2_t, notF2_f, e_band, e_bor, e_cmp, cmpF_at, e_cmp2, cmpG_t, cmpG_f, e_list, listF_at, e_tup, tupF_at, e_dict0, e_attr, attrF_at, e_sub, subF_at, e_call, e_meth, methF_at, e_bi, e_isi, isiF_at, boolF_at, e_comp, es_nil, es_cons, consF_at, consF2_at, ok_bind, bindK_at, bind_pure, bind_lift, ok_pure, ok_lift, List.zip_cons_cons, List.zip_nil_right, List.zip_nil_left, List.foldl_cons, List.foldl_nil, upd_def, Nat.reduceBEq, bif_t, bif_f, if_true, if_false, Bool.false_eq_true, reduceCtorEq, Nat.reduceEqDiff, ne_eq, not_false_eq_true, not_true_eq_false, decide_true, decide_false, Bool.not_true, Bool.not_false]
  exact h
theorem counted_ok {x : Option Nat} (A : At P σ n q α s) (hx : ∀ k, x = some k → k ∈ keys s.weights) (hl : s.weights.length ≤ 100000)
    (h : ∀ σ', At P σ' n q α (countS s x) → σ'.length = σ.length → (∀ a, a ≠ n + 5 → σ'.get a = σ.get a) → Q .none σ') : Ok (run P 1000 (d + 1) true 29 [.ref (n + 1), ov x]) σ Q := by
  rw [ok_run (fd := PP.m_counted) hP.m29 rfl]
  cases x with
  | none =>
    simp (disch := decide) only [PP.m_counted, ov, ok_isNot, ok_truthb, oks_cons, oks_nil, then_none, then_some, s_expr, exprK_at, s_var, varK_at, s_attr, attrK_at, attrK2_at, s_sub, subK_at, subK2_at, subK3_at, s_ite, iteK_t, iteK_f, s_ret, retK_at, s_ret0, s_pass, runK_some, runK_none, forK_at, turnK_none, turnK_some, whlK_t, whlK_f, tt_not, tt_band, tt_bor, tt_bool, tt_loc, tt_cmp, tt_cmp2, tt_call, tt_meth, tt_isi, tt_attr, tt_sub, tt_bin, tnotF_t, tnotF_f, ta_nil, ta_cons, andF_t, andF_f, to_nil, to_cons, orF_t, orF_f, e_none, e_bool, e_int, e_str, e_loc, e_bin, binF_at, e_not, notF_at, notF2_t, notF2_f, e_band, e_bor, e_cmp, cmpF_at, e_cmp2, cmpG_t, cmpG_f, e_list, listF_at, e_tup, tupF_at, e_dict0, e_attr, attrF_at, e_sub, subF_at, e_call, e_meth, methF_at, e_bi, e_isi, isiF_at, boolF_at, e_comp, es_nil, es_cons, consF_at, consF2_at, ok_bind, bindK_at, bind_pure, bind_lift, ok_pure, ok_lift, List.zip_cons_cons, List.zip_nil_right, List.zip_nil_left, List.foldl_cons, List.foldl_nil, upd_def, Nat.reduceBEq, bif_t, bif_f, if_true, if_false, Bool.false_eq_true, reduceCtorEq, Nat.reduceEqDiff, ne_eq, not_false_eq_true, not_true_eq_false, decide_true, decide_false, Bool.not_true, Bool.not_false]
    exact h σ A rfl fun _ _ => rfl
  | some k =>
    have hk := hx k rfl
    obtain ⟨v, hv⟩ := aGet_key hk
    have nfW : P.nf ≤ n + 5 := by have := A.nf; lia
    have hg : dget (wD s.weights) (.int (k : Int)) = some (.int (wt s k : Int)) := by unfold wD wt; rw [enc_get, hv]; rfl
    have hs : dset (wD s.weights) (.int (k : Int)) (.int ((wt s k : Int) + 1)) = wD (aSet s.weights k (wt s k + 1)) := by
      unfold wD; exact enc_set (f := fun _ w => V.int ((w : Nat) : Int))
    have hlim : lim = 1000000 := rfl
    have hl1 : (dset (wD s.weights) (.int (k : Int)) (.int ((wt s k : Int) + 1))).length ≤ lim := by rw [hs]; unfold wD; rw [enc_len, aSet_len hk, hlim]; lia
    simp (disch := decide) only [PP.m_counted, ov, ok_isNot, ok_truthb, ok_getAttr A.p A.d (n := 49) (v := .ref (n + 5)) rfl, ok_getDict A.w rfl hg, ok_add, ok_setDict A.w nfW rfl hl1, oks_cons, oks_nil, then_none, then_some, s_expr, exprK_at, s_var, varK_at, s_attr, attrK_at, attrK2_at, s_sub, subK_at, subK2_at, subK3_at, s_ite, iteK_t, iteK_f, s_ret, retK_at, s_ret0, s_pass, runK_some, runK_none, forK_at, turnK_none, turnK_some, whlK_t, whlK_f, tt_not, tt_band, tt_bor, tt_bool, tt_loc, tt_cmp, tt_cmp2, tt_call, tt_meth, tt_isi, tt_attr, tt_sub, tt_bin, tnotF_t, tnotF_f, ta_nil, ta_cons, andF_t, andF_f, to_nil, to_cons, orF_t, orF_f, e_none, e_bool, e_int, e_str, e_loc, e_bin, binF_at, e_not, notF_at, notF2_t, notF2_f, e_band, e_bor, e_cmp, cmpF_at, e_cmp2, cmpG_t, cmpG_f, e_list, listF_at, e_tup, tupF_at, e_dict0, e_attr, attrF_at, e_sub, subF_at, e_call, e_meth, methF_at, e_bi, e_isi, isiF_at, boolF_at, e_comp, es_nil, es_cons, consF_at, consF2_at, ok_bind, bindK_at, bind_pure, bind_lift, ok_pure, ok_lift, List.zip_cons_cons, List.zip_nil_right, List.zip_nil_left, List.foldl_cons, List.foldl_nil, upd_def, Nat.reduceBEq, bif_t, bif_f, if_true, if_false, Bool.false_eq_true, reduceCtorEq, Nat.reduceEqDiff, ne_eq, not_false_eq_true, not_true_eq_false, decide_true, decide_false, Bool.not_true, Bool.not_false]
    rw [hs]
    exact h _ (A.setW _) len_put fun a ha => get_put_ne (Ne.symm ha)
theorem handed_ok {k : Nat} {x : Option Nat} (A : At P σ n q α s) (h8 : k < 8) (hl : s.hands.length = 8) (hx : ∀ k, x = some k → k ∈ keys s.weights) (I : PGood { countS s x with hands := s.hands.set k x } [handOf s k] []) (hb : s.boxes.length ≤ 900)
    (h : ∀ σ', Did P σ σ' n q α s α (handedS s k x) σ.length → Q (.ref σ.length) σ') : Ok (run P 1000 (d + 3) true 32 [.ref (n + 1), .int (k : Int), ov x]) σ Q := by
  rw [ok_run (fd := PP.m_handed) hP.m32 rfl]
  have wl : s.weights.length ≤ s.boxes.length := by
    have := I.wlen
    have h1 := congrArg List.length (keys_count hx)
    simp only [keys, List.length_map] at h1
    simp only [count_boxes.1] at this
    lia
  unfold PP.m_handed
  refine oks_step rfl ?_
  simp (disch := decide) only [mx_inst A.p A.d, s_expr, exprK_at, s_var, varK_at, s_attr, attrK_at, attrK2_at, s_sub, subK_at, subK2_at, subK3_at, s_ite, iteK_t, iteK_f, s_ret, retK_at, s_ret0, s_pass, runK_some, runK_none, forK_at, turnK_none, turnK_some, whlK_t, whlK_f, tt_not, tt_band, tt_bor, tt_bool, tt_loc, tt_cmp, tt_cmp2, tt_call, tt_meth, tt_isi, tt_attr, tt_sub, tt_bin, tnotF_t, tnotF_f, ta_nil, ta_cons, andF_t, andF_f, to_nil, to_cons, orF_t, orF_f, e_none, e_bool, e_int, e_str, e_loc, e_bin, binF_at, e_not, notF_at, notF2_t, notF2_f, e_band, e_bor, e_cmp, cmpF_at, e_cmp2, cmpG_t, cmpG_f, e_list, listF_at, e_tup, tupF_at, e_dict0, e_attr, attrF_at, e_sub, subF_at, e_call, e_meth, methF_at, e_bi, e_isi, isiF_at, boolF_at, e_comp, es_nil, es_cons, consF_at, consF2_at, ok_bind, bindK_at, bind_pure, bind_lift, ok_pure, ok_lift, List.zip_cons_cons, List.zip_nil_right, List.zip_nil_left, List.foldl_cons, List.foldl_nil, upd_def, Nat.reduceBEq, bif_t, bif_f, if_true, if_false, Bool.false_eq_true, reduceCtorEq, Nat.reduceEqDiff, ne_eq, not_false_eq_true, not_true_eq_false, decide_true, decide_false, Bool.not_true, Bool.not_false]
  refine counted_ok hP A hx (by lia) fun σ1 A1 l1 k1 => ?_
  refine then_step rfl ?_
  have hv : ((countS s x).hands.map ov)[((k : Int)).toNat]? = some (ov (handOf s k)) := by rw [count_boxes.2.1]; exact ov_at (by lia)
  have nfH : P.nf ≤ n + 3 := by have := A.nf; lia
  have hset : ((countS s x).hands.map ov).set ((k : Int)).toNat (ov x) = (s.hands.set k x).map ov := by rw [count_boxes.2.1, List.map_set]; rfl
  have hlen : (k : Int) < (((countS s x).hands.map ov).length : Int) := by rw [count_boxes.2.1, List.length_map]; lia
  simp (disch := decide) only [ok_getAttr A1.p A1.d (n := 47) (v := .ref (n + 3)) rfl, ok_getList A1.h (Int.natCast_nonneg _) hv, s_expr, exprK_at, s_var, varK_at, s_attr, attrK_at, attrK2_at, s_sub, subK_at, subK2_at, subK3_at, s_ite, iteK_t, iteK_f, s_ret, retK_at, s_ret0, s_pass, runK_some, runK_none, forK_at, turnK_none, turnK_some, whlK_t, whlK_f, tt_not, tt_band, tt_bor, tt_bool, tt_loc, tt_cmp, tt_cmp2, tt_call, tt_meth, tt_isi, tt_attr, tt_sub, tt_bin, tnotF_t, tnotF_f, ta_nil, ta_cons, andF_t, andF_f, to_nil, to_cons, orF_t, orF_f, e_none, e_bool, e_int, e_str, e_loc, e_bin, binF_at, e_not, notF_at, notF2_t, notF2_f, e_band, e_bor, e_cmp, cmpF_at, e_cmp2, cmpG_t, cmpG_f, e_list, listF_at, e_tup, tupF_at, e_dict0, e_attr, attrF_at, e_sub, subF_at, e_call, e_meth, methF_at, e_bi, e_isi, isiF_at, boolF_at, e_comp, es_nil, es_cons, consF_at, consF2_at, ok_bind, bindK_at, bind_pure, bind_lift, ok_pure, ok_lift, List.zip_cons_cons, List.zip_nil_right, List.zip_nil_left, List.foldl_cons, List.foldl_nil, upd_def, Nat.reduceBEq, bif_t, bif_f, if_true, if_false, Bool.false_eq_true, reduceCtorEq, Nat.reduceEqDiff, ne_eq, not_false_eq_true, not_true_eq_false, decide_true, decide_false, Bool.not_true, Bool.not_false]
  refine then_step rfl ?_
  simp (disch := decide) only [ok_getAttr A1.p A1.d (n := 47) (v := .ref (n + 3)) rfl, ok_setList A1.h nfH (Int.natCast_nonneg _) hlen, s_expr, exprK_at, s_var, varK_at, s_attr, attrK_at, attrK2_at, s_sub, subK_at, subK2_at, subK3_at, s_ite, iteK_t, iteK_f, s_ret, retK_at, s_ret0, s_pass, runK_some, runK_none, forK_at, turnK_none, turnK_some, whlK_t, whlK_f, tt_not, tt_band, tt_bor, tt_bool, tt_loc, tt_cmp, tt_cmp2, tt_call, tt_meth, tt_isi, tt_attr, tt_sub, tt_bin, tnotF_t, tnotF_f, ta_nil, ta_cons, andF_t, andF_f, to_nil, to_cons, orF_t, orF_f, e_none, e_bool, e_int, e_str, e_loc, e_bin, binF_at, e_not, notF_at, notF2_t, notF2_f, e_band, e_bor, e_cmp, cmpF_at, e_cmp2, cmpG_t, cmpG_f, e_list, listF_at, e_tup, tupF_at, e_dict0, e_attr, attrF_at, e_sub, subF_at, e_call, e_meth, methF_at, e_bi, e_isi, isiF_at, boolF_at, e_comp, es_nil, es_cons, consF_at, consF2_at, ok_bind, bindK_at, bind_pure, bind_lift, ok_pure, ok_lift, List.zip_cons_cons, List.zip_nil_right, List.zip_nil_left, List.foldl_cons, List.foldl_nil, upd_def, Nat.reduceBEq, bif_t, bif_f, if_true, if_false, Bool.false_eq_true, reduceCtorEq, Nat.reduceEqDiff, ne_eq, not_false_eq_true, not_true_eq_false, decide_true, decide_false, Bool.not_true, Bool.not_false]
  rw [hset]
  refine then_step rfl ?_
  have A2 := A1.setH (s.hands.set k x)
  have l2 : (σ1.put (n + 3) (.list ((s.hands.set k x).map ov))).length = σ1.length := len_put
  have k2 : ∀ a, a ≠ n + 3 → (σ1.put (n + 3) (.list ((s.hands.set k x).map ov))).get a = σ1.get a := fun a ha => get_put_ne (Ne.symm ha)
  generalize σ1.put (n + 3) (.list ((s.hands.set k x).map ov)) = σ2 at *
  simp (disch := decide) only [mx_inst A2.p A2.d, s_expr, exprK_at, s_var, varK_at, s_attr, attrK_at, attrK2_at, s_sub, subK_at, subK2_at, subK3_at, s_ite, iteK_t, iteK_f, s_ret, retK_at, s_ret0, s_pass, runK_some, runK_none, forK_at, turnK_none, turnK_some, whlK_t, whlK_f, tt_not, tt_band, tt_bor, tt_bool, tt_loc, tt_cmp, tt_cmp2, tt_call, tt_meth, tt_isi, tt_attr, tt_sub, tt_bin, tnotF_t, tnotF_f, ta_nil, ta_cons, andF_t, andF_f, to_nil, to_cons, orF_t, orF_f, e_none, e_bool, e_int, e_str, e_loc, e_bin, binF_at, e_not, notF_at, notF2_t, notF2_f, e_band, e_bor, e_cmp, cmpF_at, e_cmp2, cmpG_t, cmpG_f, e_list, listF_at, e_tup, tupF_at, e_dict0, e_attr, attrF_at, e_sub, subF_at, e_call, e_meth, methF_at, e_bi, e_isi, isiF_at, boolF_at, e_comp, es_nil, es_cons, consF_at, consF2_at, ok_bind, bindK_at, bind_pure, bind_lift, ok_pure, ok_lift, List.zip_cons_cons, List.zip_nil_right, List.zip_nil_left, List.foldl_cons, List.foldl_nil, upd_def, Nat.reduceBEq, bif_t, bif_f, if_true, if_false, Bool.false_eq_true, reduceCtorEq, Nat.reduceEqDiff, ne_eq, not_false_eq_true, not_true_eq_false, decide_true, decide_false, Bool.not_true, Bool.not_false]
  refine letgo_ok hP A2 I (by show (countS s x).boxes.length ≤ 900; rw [count_boxes.1]; exact hb) fun σ3 A3 g3 l3 k3 => ?_
  have e : σ2.length = σ.length := by lia
  rw [e] at g3 l3 k3 ⊢
  refine h σ3 ⟨A3, g3, l3, Nat.le_refl _, fun a ha ho => ?_, fun a ho => .inl (own_mono (fun k => handed_keys) ho)⟩
  rw [k3 a ha (fun e => ho (e ▸ .inr (.inr (.inr (.inl rfl))))) (fun e => ho (e ▸ .inr (.inr (.inr (.inr (.inl rfl)))))) (fun e => ho (e ▸ .inr (.inr (.inr (.inr (.inr (.inl rfl))))))),
    k2 a (fun e => ho (e ▸ .inr (.inr (.inl rfl)))), k1 a (fun e => ho (e ▸ .inr (.inr (.inr (.inr (.inl rfl))))))]
theorem drop_ok {k : Nat} (hm : P.meths.lookup 36 = some PP.m_drop) (A : At P σ n q α s) (I : PGood s [] []) (h8 : k < 8) (hb : s.boxes.length ≤ 900)
    (h : ∀ σ', Did P σ σ' n q α s α (handedS s k none) σ.length → Q (.ref σ.length) σ') : Ok (run P 1000 (d + 4) true 36 [.ref (n + 1), .int (k : Int)]) σ Q := by
  rw [ok_run (fd := PP.m_drop) hm rfl]
  simp (disch := decide) only [PP.m_drop, mx_inst A.p A.d, oks_cons, oks_nil, then_none, then_some, s_expr, exprK_at, s_var, varK_at, s_attr, attrK_at, attrK2_at, s_sub, subK_at, subK2_at, subK3_at, s_ite, iteK_t, iteK_f, s_ret, retK_at, s_ret0, s_pass, runK_some, runK_none, forK_at, turnK_none, turnK_some, whlK_t, whlK_f, tt_not, tt_band, tt_bor, tt_bool, tt_loc, tt_cmp, tt_cmp2, tt_call, tt_meth, tt_isi, tt_attr, tt_sub, tt_bin, tnotF_t, tnotF_f, ta_nil, ta_cons, andF_t, andF_f, to_nil, to_cons, orF_t, orF_f, e_none, e_bool, e_int, e_str, e_loc, e_bin, binF_at, e_not, notF_at, notF2_t, notF2_f, e_band, e_bor, e_cmp, cmpF_at, e_cmp2, cmpG_t, cmpG_f, e_list, listF_at, e_tup, tupF_at, e_dict0, e_attr, attrF_at, e_sub, subF_at, e_call, e_meth, methF_at, e_bi, e_isi, isiF_at, boolF_at, e_comp, es_nil, es_cons, consF_at, consF2_at, ok_bind, bindK_at, bind_pure, bind_lift, ok_pure, ok_lift, List.zip_cons_cons, List.zip_nil_right, List.zip_nil_left, List.foldl_cons, List.foldl_nil, upd_def, Nat.reduceBEq, bif_t, bif_f, if_true, if_false, Bool.false_eq_true, reduceCtorEq, Nat.reduceEqDiff, ne_eq, not_false_eq_true, not_true_eq_false, decide_true, decide_false, Bool.not_true, Bool.not_false]
  refine need_hand_ok hP h8 ?_
  simp (disch := decide) only [mx_inst A.p A.d, oks_cons, oks_nil, then_none, then_some, s_expr, exprK_at, s_var, varK_at, s_attr, attrK_at, attrK2_at, s_sub, subK_at, subK2_at, subK3_at, s_ite, iteK_t, iteK_f, s_ret, retK_at, s_ret0, s_pass, runK_some, runK_none, forK_at, turnK_none, turnK_some, whlK_t, whlK_f, tt_not, tt_band, tt_bor, tt_bool, tt_loc, tt_cmp, tt_cmp2, tt_call, tt_meth, tt_isi, tt_attr, tt_sub, tt_bin, tnotF_t, tnotF_f, ta_nil, ta_cons, andF_t, andF_f, to_nil, to_cons, orF_t, orF_f, e_none, e_bool, e_int, e_str, e_loc, e_bin, binF_at, e_not, notF_at, notF2_t, notF2_f, e_band, e_bor, e_cmp, cmpF_at, e_cmp2, cmpG_t, cmpG_f, e_list, listF_at, e_tup, tupF_at, e_dict0, e_attr, attrF_at, e_sub, subF_at, e_call, e_meth, methF_at, e_bi, e_isi, isiF_at, boolF_at, e_comp, es_nil, es_cons, consF_at, consF2_at, ok_bind, bindK_at, bind_pure, bind_lift, ok_pure, ok_lift, List.zip_cons_cons, List.zip_nil_right, List.zip_nil_left, List.foldl_cons, List.foldl_nil, upd_def, Nat.reduceBEq, bif_t, bif_f, if_true, if_false, Bool.false_eq_true, reduceCtorEq, Nat.reduceEqDiff, ne_eq, not_false_eq_true, not_true_eq_false, decide_true, decide_false, Bool.not_true, Bool.not_false]
  exact handed_ok hP (x := none) A h8 I.hl (fun k e => by cases e) (handed_inv I h8 (fun k e => by cases e)) hb h
theorem hold_ok {k j : Nat} (A : At P σ n q α s) (I : PGood s [] []) (h8 : k < 8) (hj : j < 8) (hb : s.boxes.length ≤ 900)
    (h : ∀ σ', Did P σ σ' n q α s α (handedS s k (handOf s j)) σ.length → Q (.ref σ.length) σ') : Ok (run P 1000 (d + 4) true 35 [.ref (n + 1), .int (k : Int), .int (j : Int)]) σ Q := by
  rw [ok_run (fd := PP.m_hold) hP.m35 rfl]
  simp (disch := decide) only [PP.m_hold, mx_inst A.p A.d, oks_cons, oks_nil, then_none, then_some, s_expr, exprK_at, s_var, varK_at, s_attr, attrK_at, attrK2_at, s_sub, subK_at, subK2_at, subK3_at, s_ite, iteK_t, iteK_f, s_ret, retK_at, s_ret0, s_pass, runK_some, runK_none, forK_at, turnK_none, turnK_some, whlK_t, whlK_f, tt_not, tt_band, tt_bor, tt_bool, tt_loc, tt_cmp, tt_cmp2, tt_call, tt_meth, tt_isi, tt_attr, tt_sub, tt_bin, tnotF_t, tnotF_f, ta_nil, ta_cons, andF_t, andF_f, to_nil, to_cons, orF_t, orF_f, e_none, e_bool, e_int, e_str, e_loc, e_bin, binF_at, e_not, notF_at, notF2_t, notF2_f, e_band, e_bor, e_cmp, cmpF_at, e_cmp2, cmpG_t, cmpG_f, e_list, listF_at, e_tup, tupF_at, e_dict0, e_attr, attrF_at, e_sub, subF_at, e_call, e_meth, methF_at, e_bi, e_isi, isiF_at, boolF_at, e_comp, es_nil, es_cons, consF_at, consF2_at, ok_bind, bindK_at, bind_pure, bind_lift, ok_pure, ok_lift, List.zip_cons_cons, List.zip_nil_right, List.zip_nil_left, List.foldl_cons, List.foldl_nil, upd_def, Nat.reduceBEq, bif_t, bif_f, if_true, if_false, Bool.false_eq_true, reduceCtorEq, Nat.reduceEqDiff, ne_eq, not_false_eq_true, not_true_eq_false, decide_true, decide_false, Bool.not_true, Bool.not_false]
  refine need_hand_ok hP h8 ?_
  simp (disch := decide) only [mx_inst A.p A.d, oks_cons, oks_nil, then_none, then_some, s_expr, exprK_at, s_var, varK_at, s_attr, attrK_at, attrK2_at, s_sub, subK_at, subK2_at, subK3_at, s_ite, iteK_t, iteK_f, s_ret, retK_at, s_ret0, s_pass, runK_some, runK_none, forK_at, turnK_none, turnK_some, whlK_t, whlK_f, tt_not, tt_band, tt_bor, tt_bool, tt_loc, tt_cmp, tt_cmp2, tt_call, tt_meth, tt_isi, tt_attr, tt_sub, tt_bin, tnotF_t, tnotF_f, ta_nil, ta_cons, andF_t, andF_f, to_nil, to_cons, orF_t, orF_f, e_none, e_bool, e_int, e_str, e_loc, e_bin, binF_at, e_not, notF_at, notF2_t, notF2_f, e_band, e_bor, e_cmp, cmpF_at, e_cmp2, cmpG_t, cmpG_f, e_list, listF_at, e_tup, tupF_at, e_dict0, e_attr, attrF_at, e_sub, subF_at, e_call, e_meth, methF_at, e_bi, e_isi, isiF_at, boolF_at, e_comp, es_nil, es_cons, consF_at, consF2_at, ok_bind, bindK_at, bind_pure, bind_lift, ok_pure, ok_lift, List.zip_cons_cons, List.zip_nil_right, List.zip_nil_left, List.foldl_cons, List.foldl_nil, upd_def, Nat.reduceBEq, bif_t, bif_f, if_true, if_false, Bool.false_eq_true, reduceCtorEq, Nat.reduceEqDiff, ne_eq, not_false_eq_true, not_true_eq_false, decide_true, decide_false, Bool.not_true, Bool.not_false]
  refine need_hand_ok hP hj ?_
  have hv : (s.hands.map ov)[((j : Int)).toNat]? = some (ov (handOf s j)) := ov_at (by have := I.hl; lia)
  simp (disch := decide) only [mx_inst A.p A.d, ok_getAttr A.p A.d (n := 47) (v := .ref (n + 3)) rfl, ok_getList A.h (Int.natCast_nonneg _) hv, oks_cons, oks_nil, then_none, then_some, s_expr, exprK_at, s_var, varK_at, s_attr, attrK_at, attrK2_at, s_sub, subK_at, subK2_at, subK3_at, s_ite, iteK_t, iteK_f, s_ret, retK_at, s_ret0, s_pass, runK_some, runK_none, forK_at, turnK_none, turnK_some, whlK_t, whlK_f, tt_not, tt_band, tt_bor, tt_bool, tt_loc, tt_cmp, tt_cmp2, tt_call, tt_meth, tt_isi, tt_attr, tt_sub, tt_bin, tnotF_t, tnotF_f, ta_nil, ta_cons, andF_t, andF_f, to_nil, to_cons, orF_t, orF_f, e_none, e_bool, e_int, e_str, e_loc, e_bin, binF_at, e_not, notF_at, notF2_t, notF2_f, e_band, e_bor, e_cmp, cmpF_at, e_cmp2, cmpG_t, cmpG_f, e_list, listF_at, e_tup, tupF_at, e_dict0, e_attr, attrF_at, e_sub, subF_at, e_call, e_meth, methF_at, e_bi, e_isi, isiF_at, boolF_at, e_comp, es_nil, es_cons, consF_at, consF2_at, ok_bind, bindK_at, bind_pure, bind_lift, ok_pure, ok_lift, List.zip_cons_cons, List.zip_nil_right, List.zip_nil_left, List.foldl_cons, List.foldl_nil, upd_def, Nat.reduceBEq, bif_t, bif_f, if_true, if_false, Bool.false_eq_true, reduceCtorEq, Nat.reduceEqDiff, ne_eq, not_false_eq_true, not_true_eq_false, decide_true, decide_false, Bool.not_true, Bool.not_false]
  exact handed_ok hP A h8 I.hl (fun k e => (count_mem I).mp (I.hand_key e)) (handed_inv I h8 (fun k e => I.hand_key e)) hb h
theorem pointed_ok {b i : Nat} {x : Option Nat} {xs : List (Option Nat)} (hm : P.meths.lookup 33 = some PP.m_pointed) (A : At P σ n q α s) (I : PGood s [] []) (hbx : aGet s.boxes b = some xs) (hi : i < xs.length) (hx : ∀ k, x = some k → k ∈ keys s.boxes) (hb : s.boxes.length ≤ 900)
    (h : ∀ σ', Did P σ σ' n q α s α (pointedS s b i x) σ.length → Q (.ref σ.length) σ') : Ok (run P 1000 (d + 3) true 33 [.ref (n + 1), .int (b : Int), .int (i : Int), ov x]) σ Q := by
  rw [ok_run (fd := PP.m_pointed) hm rfl]
  have wl := I.wlen
  have hk : b ∈ keys s.boxes := keys_mem (aGet_some_mem hbx)
  unfold PP.m_pointed
  refine oks_step rfl ?_
  simp (disch := decide) only [mx_inst A.p A.d, s_expr, exprK_at, s_var, varK_at, s_attr, attrK_at, attrK2_at, s_sub, subK_at, subK2_at, subK3_at, s_ite, iteK_t, iteK_f, s_ret, retK_at, s_ret0, s_pass, runK_some, runK_none, forK_at, turnK_none, turnK_some, whlK_t, whlK_f, tt_not, tt_band, tt_bor, tt_bool, tt_loc, tt_cmp, tt_cmp2, tt_call, tt_meth, tt_isi, tt_attr, tt_sub, tt_bin, tnotF_t, tnotF_f, ta_nil, ta_cons, andF_t, andF_f, to_nil, to_cons, orF_t, orF_f, e_none, e_bool, e_int, e_str, e_loc, e_bin, binF_at, e_not, notF_at, notF2_t, notF2_f, e_band, e_bor, e_cmp, cmpF_at, e_cmp2, cmpG_t, cmpG_f, e_list, listF_at, e_tup, tupF_at, e_dict0, e_attr, attrF_at, e_sub, subF_at, e_call, e_meth, methF_at, e_bi, e_isi, isiF_at, boolF_at, e_comp, es_nil, es_cons, consF_at, consF2_at, ok_bind, bindK_at, bind_pure, bind_lift, ok_pure, ok_lift, List.zip_cons_cons, List.zip_nil_right, List.zip_nil_left, List.foldl_cons, List.foldl_nil, upd_def, Nat.reduceBEq, bif_t, bif_f, if_true, if_false, Bool.false_eq_true, reduceCtorEq, Nat.reduceEqDiff, ne_eq, not_false_eq_true, not_true_eq_false, decide_true, decide_false, Bool.not_true, Bool.not_false]
  refine counted_ok hP A (fun k e => (count_mem I).mp (hx k e)) (by lia) fun σ1 A1 l1 k1 => ?_
  refine then_step rfl ?_
  have hs : slotsOf s b = xs := by unfold slotsOf; rw [hbx]; rfl
  have hg : dget (bD α (countS s x).boxes) (.int (b : Int)) = some (.ref (α b)) := by rw [count_boxes.1]; unfold bD; rw [enc_get, hbx]; rfl
  have hB := A1.bx b xs (by rw [count_boxes.1]; exact aGet_some_mem hbx)
  have hv : (xs.map ov)[((i : Int)).toNat]? = some (ov (slotOf s b i)) := by unfold slotOf; rw [hs]; exact ov_at hi
  have nfB : P.nf ≤ α b := by have := A.nf; lia
  have hset : (xs.map ov).set ((i : Int)).toNat (ov x) = (xs.set i x).map ov := by rw [List.map_set]; rfl
  have hlen : (i : Int) < ((xs.map ov).length : Int) := by rw [List.length_map]; lia
  simp (disch := decide) only [ok_getAttr A1.p A1.d (n := 48) (v := .ref (n + 4)) rfl, ok_getDict A1.b rfl hg, ok_getList hB.1 (Int.natCast_nonneg _) hv, s_expr, exprK_at, s_var, varK_at, s_attr, attrK_at, attrK2_at, s_sub, subK_at, subK2_at, subK3_at, s_ite, iteK_t, iteK_f, s_ret, retK_at, s_ret0, s_pass, runK_some, runK_none, forK_at, turnK_none, turnK_some, whlK_t, whlK_f, tt_not, tt_band, tt_bor, tt_bool, tt_loc, tt_cmp, tt_cmp2, tt_call, tt_meth, tt_isi, tt_attr, tt_sub, tt_bin, tnotF_t, tnotF_f, ta_nil, ta_cons, andF_t, andF_f, to_nil, to_cons, orF_t, orF_f, e_none, e_bool, e_int, e_str, e_loc, e_bin, binF_at, e_not, notF_at, notF2_t, notF2_f, e_band, e_bor, e_cmp, cmpF_at, e_cmp2, cmpG_t, cmpG_f, e_list, listF_at, e_tup, tupF_at, e_dict0, e_attr, attrF_at, e_sub, subF_at, e_call, e_meth, methF_at, e_bi, e_isi, isiF_at, boolF_at, e_comp, es_nil, es_cons, consF_at, consF2_at, ok_bind, bindK_at, bind_pure, bind_lift, ok_pure, ok_lift, List.zip_cons_cons, List.zip_nil_right, List.zip_nil_left, List.foldl_cons, List.foldl_nil, upd_def, Nat.reduceBEq, bif_t, bif_f, if_true, if_false, Bool.false_eq_true, reduceCtorEq, Nat.reduceEqDiff, ne_eq, not_false_eq_true, not_true_eq_false, decide_true, decide_false, Bool.not_true, Bool.not_false]
  refine then_step rfl ?_
  simp (disch := decide) only [ok_getAttr A1.p A1.d (n := 48) (v := .ref (n + 4)) rfl, ok_getDict A1.b rfl hg, ok_setList hB.1 nfB (Int.natCast_nonneg _) hlen, s_expr, exprK_at, s_var, varK_at, s_attr, attrK_at, attrK2_at, s_sub, subK_at, subK2_at, subK3_at, s_ite, iteK_t, iteK_f, s_ret, retK_at, s_ret0, s_pass, runK_some, runK_none, forK_at, turnK_none, turnK_some, whlK_t, whlK_f, tt_not, tt_band, tt_bor, tt_bool, tt_loc, tt_cmp, tt_cmp2, tt_call, tt_meth, tt_isi, tt_attr, tt_sub, tt_bin, tnotF_t, tnotF_f, ta_nil, ta_cons, andF_t, andF_f, to_nil, to_cons, orF_t, orF_f, e_none, e_bool, e_int, e_str, e_loc, e_bin, binF_at, e_not, notF_at, notF2_t, notF2_f, e_band, e_bor, e_cmp, cmpF_at, e_cmp2, cmpG_t, cmpG_f, e_list, listF_at, e_tup, tupF_at, e_dict0, e_attr, attrF_at, e_sub, subF_at, e_call, e_meth, methF_at, e_bi, e_isi, isiF_at, boolF_at, e_comp, es_nil, es_cons, consF_at, consF2_at, ok_bind, bindK_at, bind_pure, bind_lift, ok_pure, ok_lift, List.zip_cons_cons, List.zip_nil_right, List.zip_nil_left, List.foldl_cons, List.foldl_nil, upd_def, Nat.reduceBEq, bif_t, bif_f, if_true, if_false, Bool.false_eq_true, reduceCtorEq, Nat.reduceEqDiff, ne_eq, not_false_eq_true, not_true_eq_false, decide_true, decide_false, Bool.not_true, Bool.not_false]
  rw [hset]
  refine then_step rfl ?_
  have A2 := A1.setS (by rw [count_boxes.1]; exact I.nd) (b := b) (by rw [count_boxes.1]; exact hk) (xs.set i x)
  have I2 := pointed_inv (x := x) I hbx hi hx
  rw [hs] at I2
  have l2 : (σ1.put (α b) (.list ((xs.set i x).map ov))).length = σ1.length := len_put
  have k2 : ∀ a, a ≠ α b → (σ1.put (α b) (.list ((xs.set i x).map ov))).get a = σ1.get a := fun a ha => get_put_ne (Ne.symm ha)
  generalize σ1.put (α b) (.list ((xs.set i x).map ov)) = σ2 at *
  rw [count_boxes.1] at A2
  simp (disch := decide) only [mx_inst A2.p A2.d, s_expr, exprK_at, s_var, varK_at, s_attr, attrK_at, attrK2_at, s_sub, subK_at, subK2_at, subK3_at, s_ite, iteK_t, iteK_f, s_ret, retK_at, s_ret0, s_pass, runK_some, runK_none, forK_at, turnK_none, turnK_some, whlK_t, whlK_f, tt_not, tt_band, tt_bor, tt_bool, tt_loc, tt_cmp, tt_cmp2, tt_call, tt_meth, tt_isi, tt_attr, tt_sub, tt_bin, tnotF_t, tnotF_f, ta_nil, ta_cons, andF_t, andF_f, to_nil, to_cons, orF_t, orF_f, e_none, e_bool, e_int, e_str, e_loc, e_bin, binF_at, e_not, notF_at, notF2_t, notF2_f, e_band, e_bor, e_cmp, cmpF_at, e_cmp2, cmpG_t, cmpG_f, e_list, listF_at, e_tup, tupF_at, e_dict0, e_attr, attrF_at, e_sub, subF_at, e_call, e_meth, methF_at, e_bi, e_isi, isiF_at, boolF_at, e_comp, es_nil, es_cons, consF_at, consF2_at, ok_bind, bindK_at, bind_pure, bind_lift, ok_pure, ok_lift, List.zip_cons_cons, List.zip_nil_right, List.zip_nil_left, List.foldl_cons, List.foldl_nil, upd_def, Nat.reduceBEq, bif_t, bif_f, if_true, if_false, Bool.false_eq_true, reduceCtorEq, Nat.reduceEqDiff, ne_eq, not_false_eq_true, not_true_eq_false, decide_true, decide_false, Bool.not_true, Bool.not_false]
  have e2 : pointedS s b i x = letgoS { countS s x with boxes := aSet s.boxes b (xs.set i x) } (slotOf s b i) := by unfold pointedS; rw [hs]
  refine letgo_ok hP A2 I2 (by show (aSet s.boxes b _).length ≤ 900; rw [aSet_len hk]; exact hb) fun σ3 A3 g3 l3 k3 => ?_
  have e : σ2.length = σ.length := by lia
  rw [e] at g3 l3 k3 ⊢
  rw [← e2] at A3 g3
  refine h σ3 ⟨A3, g3, l3, Nat.le_refl _, fun a ha ho => ?_, fun a ho => .inl (own_mono (fun k => pointed_keys hk) ho)⟩
  rw [k3 a ha (fun e => ho (e ▸ .inr (.inr (.inr (.inl rfl))))) (fun e => ho (e ▸ .inr (.inr (.inr (.inr (.inl rfl)))))) (fun e => ho (e ▸ .inr (.inr (.inr (.inr (.inr (.inl rfl))))))),
    k2 a (fun e => ho (e ▸ .inr (.inr (.inr (.inr (.inr (.inr ⟨b, hk, rfl⟩))))))), k1 a (fun e => ho (e ▸ .inr (.inr (.inr (.inr (.inl rfl))))))]
theorem slot_ok {k i b : Nat} {xs : List (Option Nat)} (hm : P.meths.lookup 28 = some PP.m_box_with_slot) (A : At P σ n q α s) (hl : s.hands.length = 8) (h8 : k < 8) (hk : handOf s k = some b) (hbx : aGet s.boxes b = some xs) (hi : i < xs.length) (h : Q (.int (b : Int)) σ) :
    Ok (run P 1000 (d + 1) true 28 [.ref (n + 1), .int (k : Int), .int (i : Int)]) σ Q := by
  rw [ok_run (fd := PP.m_box_with_slot) hm rfl]
  have hv : (s.hands.map ov)[((k : Int)).toNat]? = some (.int (b : Int)) := by have := ov_at (i := k) (show k < s.hands.length by lia); unfold handOf at hk; rw [hk] at this; exact this
  have hg : dget (bD α s.boxes) (.int (b : Int)) = some (.ref (α b)) := by unfold bD; rw [enc_get, hbx]; rfl
  have hB := (A.bx b xs (aGet_some_mem hbx)).1
  have h0' : (0 : Int) ≤ (i : Int) := Int.natCast_nonneg _
  have h1' : (i : Int) < ((xs.map ov).length : Int) := by rw [List.length_map]; lia
  simp (disch := decide) only [PP.m_box_with_slot, ok_getAttr A.p A.d (n := 47) (v := .ref (n + 3)) rfl, ok_getList A.h (Int.natCast_nonneg _) hv, ok_is, ok_truthb, ok_getAttr A.p A.d (n := 48) (v := .ref (n + 4)) rfl, ok_getDict A.b rfl hg, ok_lenL hB, ok_le, ok_lt, h0', h1', oks_cons, oks_nil, then_none, then_some, s_expr, exprK_at, s_var, varK_at, s_attr, attrK_at, attrK2_at, s_sub, subK_at, subK2_at, subK3_at, s_ite, iteK_t, iteK_f, s_ret, retK_at, s_ret0, s_pass, runK_some, runK_none, forK_at, turnK_none, turnK_some, whlK_t, whlK_f, tt_not, tt_band, tt_bor, tt_bool, tt_loc, tt_cmp, tt_cmp2, tt_call, tt_meth, tt_isi, tt_attr, tt_sub, tt_bin, tnotF_t, tnotF_f, ta_nil, ta_cons, andF_t, andF_f, to_nil, to_cons, orF_t, orF_f, e_none, e_bool, e_int, e_str, e_loc, e_bin, binF_at, e_not, notF_at, notF2_t, notF2_f, e_band, e_bor, e_cmp, cmpF_at, e_cmp2, cmpG_t, cmpG_f, e_list, listF_at, e_tup, tupF_at, e_dict0, e_attr, attrF_at, e_sub, subF_at, e_call, e_meth, methF_at, e_bi, e_isi, isiF_at, boolF_at, e_comp, es_nil, es_cons, consF_at, consF2_at, ok_bind, bindK_at, bind_pure, bind_lift, ok_pure, ok_lift, List.zip_cons_cons, List.zip_nil_right, List.zip_nil_left, List.foldl_cons, List.foldl_nil, upd_def, Nat.reduceBEq, bif_t, bif_f, if_true, if_false, Bool.false_eq_true, reduceCtorEq, Nat.reduceEqDiff, ne_eq, not_false_eq_true, not_true_eq_false, decide_true, decide_false, Bool.not_true, Bool.not_false]
  exact h
theorem put_ok {k i j b : Nat} {xs : List (Option Nat)} (hm : P.meths.lookup 28 = some PP.m_box_with_slot) (hm2 : P.meths.lookup 33 = some PP.m_pointed) (hm3 : P.meths.lookup 37 = some PP.m_put) (A : At P σ n q α s) (I : PGood s [] []) (h8 : k < 8) (hj : j < 8) (hk : handOf s k = some b) (hbx : aGet s.boxes b = some xs) (hi : i < xs.length) (hb : s.boxes.length ≤ 900)
    (h : ∀ σ', Did P σ σ' n q α s α (pointedS s b i (handOf s j)) σ.length → Q (.ref σ.length) σ') : Ok (run P 1000 (d + 4) true 37 [.ref (n + 1), .int (k : Int), .int (i : Int), .int (j : Int)]) σ Q := by
  rw [ok_run (fd := PP.m_put) hm3 rfl]
  simp (disch := decide) only [PP.m_put, mx_inst A.p A.d, oks_cons, oks_nil, then_none, then_some, s_expr, exprK_at, s_var, varK_at, s_attr, attrK_at, attrK2_at, s_sub, subK_at, subK2_at, subK3_at, s_ite, iteK_t, iteK_f, s_ret, retK_at, s_ret0, s_pass, runK_some, runK_none, forK_at, turnK_none, turnK_some, whlK_t, whlK_f, tt_not, tt_band, tt_bor, tt_bool, tt_loc, tt_cmp, tt_cmp2, tt_call, tt_meth, tt_isi, tt_attr, tt_sub, tt_bin, tnotF_t, tnotF_f, ta_nil, ta_cons, andF_t, andF_f, to_nil, to_cons, orF_t, orF_f, e_none, e_bool, e_int, e_str, e_loc, e_bin, binF_at, e_not, notF_at, notF2_t, notF2_f, e_band, e_bor, e_cmp, cmpF_at, e_cmp2, cmpG_t, cmpG_f, e_list, listF_at, e_tup, tupF_at, e_dict0, e_attr, attrF_at, e_sub, subF_at, e_call, e_meth, methF_at, e_bi, e_isi, isiF_at, boolF_at, e_comp, es_nil, es_cons, consF_at, consF2_at, ok_bind, bindK_at, bind_pure, bind_lift, ok_pure, ok_lift, List.zip_cons_cons, List.zip_nil_right, List.zip_nil_left, List.foldl_cons, List.foldl_nil, upd_def, Nat.reduceBEq, bif_t, bif_f, if_true, if_false, Bool.false_eq_true, reduceCtorEq, Nat.reduceEqDiff, ne_eq, not_false_eq_true, not_true_eq_false, decide_true, decide_false, Bool.not_true, Bool.not_false]
  refine need_hand_ok hP h8 ?_
  simp (disch := decide) only [mx_inst A.p A.d, oks_cons, oks_nil, then_none, then_some, s_expr, exprK_at, s_var, varK_at, s_attr, attrK_at, attrK2_at, s_sub, subK_at, subK2_at, subK3_at, s_ite, iteK_t, iteK_f, s_ret, retK_at, s_ret0, s_pass, runK_some, runK_none, forK_at, turnK_none, turnK_some, whlK_t, whlK_f, tt_not, tt_band, tt_bor, tt_bool, tt_loc, tt_cmp, tt_cmp2, tt_call, tt_meth, tt_isi, tt_attr, tt_sub, tt_bin, tnotF_t, tnotF_f, ta_nil, ta_cons, andF_t, andF_f, to_nil, to_cons, orF_t, orF_f, e_none, e_bool, e_int, e_str, e_loc, e_bin, binF_at, e_not, notF_at, notF2_t, notF2_f, e_band, e_bor, e_cmp, cmpF_at, e_cmp2, cmpG_t, cmpG_f, e_list, listF_at, e_tup, tupF_at, e_dict0, e_attr, attrF_at, e_sub, subF_at, e_call, e_meth, methF_at, e_bi, e_isi, isiF_at, boolF_at, e_comp, es_nil, es_cons, consF_at, consF2_at, ok_bind, bindK_at, bind_pure, bind_lift, ok_pure, ok_lift, List.zip_cons_cons, List.zip_nil_right, List.zip_nil_left, List.foldl_cons, List.foldl_nil, upd_def, Nat.reduceBEq, bif_t, bif_f, if_true, if_false, Bool.false_eq_true, reduceCtorEq, Nat.reduceEqDiff, ne_eq, not_false_eq_true, not_true_eq_false, decide_true, decide_false, Bool.not_true, Bool.not_false]
  refine need_hand_ok hP hj ?_
  simp (disch := decide) only [mx_inst A.p A.d, oks_cons, oks_nil, then_none, then_some, s_expr, exprK_at, s_var, varK_at, s_attr, attrK_at, attrK2_at, s_sub, subK_at, subK2_at, subK3_at, s_ite, iteK_t, iteK_f, s_ret, retK_at, s_ret0, s_pass, runK_some, runK_none, forK_at, turnK_none, turnK_some, whlK_t, whlK_f, tt_not, tt_band, tt_bor, tt_bool, tt_loc, tt_cmp, tt_cmp2, tt_call, tt_meth, tt_isi, tt_attr, tt_sub, tt_bin, tnotF_t, tnotF_f, ta_nil, ta_cons, andF_t, andF_f, to_nil, to_cons, orF_t, orF_f, e_none, e_bool, e_int, e_str, e_loc, e_bin, binF_at, e_not, notF_at, notF2_t, notF2_f, e_band, e_bor, e_cmp, cmpF_at, e_cmp2, cmpG_t, cmpG_f, e_list, listF_at, e_tup, tupF_at, e_dict0, e_attr, attrF_at, e_sub, subF_at, e_call, e_meth, methF_at, e_bi, e_isi, isiF_at, boolF_at, e_comp, es_nil, es_cons, consF_at, consF2_at, ok_bind, bindK_at, bind_pure, bind_lift, ok_pure, ok_lift, List.zip_cons_cons, List.zip_nil_right, List.zip_nil_left, List.foldl_cons, List.foldl_nil, upd_def, Nat.reduceBEq, bif_t, bif_f, if_true, if_false, Bool.false_eq_true, reduceCtorEq, Nat.reduceEqDiff, ne_eq, not_false_eq_true, not_true_eq_false, decide_true, decide_false, Bool.not_true, Bool.not_false]
  refine slot_ok hP hm A I.hl h8 hk hbx hi ?_
  have hv : (s.hands.map ov)[((j : Int)).toNat]? = some (ov (handOf s j)) := ov_at (by have := I.hl; lia)
  simp (disch := decide) only [mx_inst A.p A.d, ok_getAttr A.p A.d (n := 47) (v := .ref (n + 3)) rfl, ok_getList A.h (Int.natCast_nonneg _) hv, oks_cons, oks_nil, then_none, then_some, s_expr, exprK_at, s_var, varK_at, s_attr, attrK_at, attrK2_at, s_sub, subK_at, subK2_at, subK3_at, s_ite, iteK_t, iteK_f, s_ret, retK_at, s_ret0, s_pass, runK_some, runK_none, forK_at, turnK_none, turnK_some, whlK_t, whlK_f, tt_not, tt_band, tt_bor, tt_bool, tt_loc, tt_cmp, tt_cmp2, tt_call, tt_meth, tt_isi, tt_attr, tt_sub, tt_bin, tnotF_t, tnotF_f, ta_nil, ta_cons, andF_t, andF_f, to_nil, to_cons, orF_t, orF_f, e_none, e_bool, e_int, e_str, e_loc, e_bin, binF_at, e_not, notF_at, notF2_t, notF2_f, e_band, e_bor, e_cmp, cmpF_at, e_cmp2, cmpG_t, cmpG_f, e_list, listF_at, e_tup, tupF_at, e_dict0, e_attr, attrF_at, e_sub, subF_at, e_call, e_meth, methF_at, e_bi, e_isi, isiF_at, boolF_at, e_comp, es_nil, es_cons, consF_at, consF2_at, ok_bind, bindK_at, bind_pure, bind_lift, ok_pure, ok_lift, List.zip_cons_cons, List.zip_nil_right, List.zip_nil_left, List.foldl_cons, List.foldl_nil, upd_def, Nat.reduceBEq, bif_t, bif_f, if_true, if_false, Bool.false_eq_true, reduceCtorEq, Nat.reduceEqDiff, ne_eq, not_false_eq_true, not_true_eq_false, decide_true, decide_false, Bool.not_true, Bool.not_false]
  exact pointed_ok hP hm2 A I hbx hi (fun k e => I.hand_key e) hb h
end
end Mine

set_option autoImplicit false
set_option linter.unusedSimpArgs false
set_option linter.unusedVariables false
namespace Mine
open PySem (Str PyData)

noncomputable def updF (α : Nat → Nat) (k a : Nat) : Nat → Nat := fun j => if j = k then a else α j
theorem updF_at {α : Nat → Nat} {k a : Nat} : updF α k a k = a := by simp [updF]
theorem updF_no {α : Nat → Nat} {k a j : Nat} (h : j ≠ k) : updF α k a j = α j := by simp [updF, h]

section
variable {P : Prog} {n q : Nat} {α : Nat → Nat} {σ : H} {s : PS}
theorem At.setM (A : At P σ n q α s) (m : Nat) : At P (σ.put n (.attrs [(47, .ref (n + 3)), (48, .ref (n + 4)), (49, .ref (n + 5)), (50, .ref q), (51, .int (m : Int))])) n q α { s with made := m } := by
  have := A.len
  have hq := A.qn
  exact ⟨by rw [len_put]; exact A.len, A.nf, A.qn, get_put_eq (by lia), by rw [get_put_ne (by lia)]; exact A.p, by rw [get_put_ne (by lia)]; exact A.h, by rw [get_put_ne (by lia)]; exact A.b, by rw [get_put_ne (by lia)]; exact A.w,
    by rw [get_put_ne (by lia)]; exact A.q', fun k sl h => by have := A.bx k sl h; rw [get_put_ne (by lia)]; exact this, A.inj⟩
theorem At.setB (A : At P σ n q α s) {k a : Nat} {xs : List (Option Nat)} (hk : k ∉ keys s.boxes) (ha : σ.get a = some (.list (xs.map ov))) (ho : ¬ Own n q α s a) (hn : n + 7 ≤ a) : At P (σ.put (n + 4) (.dict (bD (updF α k a) (s.boxes ++ [(k, xs)])))) n q (updF α k a) { s with boxes := s.boxes ++ [(k, xs)] } := by
  have := A.len
  have hq := A.qn
  have ne : ∀ j, j ∈ keys s.boxes → j ≠ k := fun j hj e => hk (e ▸ hj)
  refine ⟨by rw [len_put]; exact A.len, A.nf, A.qn, by rw [get_put_ne (by lia)]; exact A.d, by rw [get_put_ne (by lia)]; exact A.p, by rw [get_put_ne (by lia)]; exact A.h, get_put_eq (by lia), by rw [get_put_ne (by lia)]; exact A.w,
    by rw [get_put_ne (by lia)]; exact A.q', fun j sl h => ?_, fun i hi j hj e => ?_⟩
  · rcases List.mem_append.mp h with h | h
    · have h1 := A.bx j sl h
      rw [updF_no (ne j (keys_mem h)), get_put_ne (by lia)]; exact h1
    · simp only [List.mem_singleton, Prod.mk.injEq] at h
      obtain ⟨rfl, rfl⟩ := h
      rw [updF_at, get_put_ne (by lia)]
      exact ⟨ha, hn, fun e => ho (e ▸ .inr (.inr (.inr (.inr (.inr (.inl rfl))))))⟩
  · simp only [keys, List.map_append, List.map_cons, List.map_nil, List.mem_append, List.mem_singleton] at hi hj
    rcases hi with hi | rfl <;> rcases hj with hj | rfl
    · rw [updF_no (ne i hi), updF_no (ne j hj)] at e; exact A.inj i hi j hj e
    · rw [updF_no (ne i hi), updF_at] at e; exact absurd (.inr (.inr (.inr (.inr (.inr (.inr ⟨i, hi, e.symm⟩)))))) ho
    · rw [updF_at, updF_no (ne j hj)] at e; exact absurd (.inr (.inr (.inr (.inr (.inr (.inr ⟨j, hj, e⟩)))))) ho
    · rfl
theorem bD_updF {a k : Nat} {l : List (Nat × List (Option Nat))} (hk : k ∉ keys l) : bD (updF α k a) l = bD α l := by
  unfold bD encD
  refine List.map_congr_left fun p hp => ?_
  have hne : p.1 ≠ k := fun e => hk (e ▸ List.mem_map.mpr ⟨p, hp, rfl⟩)
  show (V.int (p.1 : Int), V.ref (updF α k a p.1)) = _
  rw [updF_no hne]
end

theorem compX_none {P : Prog} {C : Calls} {σ : H} {loc : Loc} {a i : Nat} {m : Int} {Q : V → H → Prop} (h : σ.get a = some (.rng 0 m 1)) (h0 : 0 ≤ m) (h1 : m ≤ 1000) : Ok (compX [i] false (tstAnd P C .nil) (ev P C .cnone) loc (.ref a)) σ Q = Q (.ref σ.length) (σ.push (.list ((List.replicate m.toNat (none : Option Nat)).map ov))) := by
  have hlim : lim = 1000000 := rfl
  have e : List.map (fun _ => V.none) (List.filter (fun _ => true) (List.map (fun (k : Nat) => V.int (k : Int)) (List.range m.toNat))) = List.map ov (List.replicate m.toNat none) := by
    have : List.filter (fun _ => true) (List.map (fun (k : Nat) => V.int (k : Int)) (List.range m.toNat)) = List.map (fun (k : Nat) => V.int (k : Int)) (List.range m.toNat) := List.filter_eq_self.mpr (fun _ _ => rfl)
    rw [this, List.map_map, List.map_replicate]
    rw [List.eq_replicate_iff]
    simp [ov]
  rw [c_pure (fun _ => true) (fun _ => .none) (it_range h h0 (by lia)) (fun y _ => rfl) (fun y _ _ => rfl) (by rw [e]; simp [hlim]; lia), e]

section
variable {P : Prog} {n q : Nat} {α : Nat → Nat} {d : Nat} {σ : H} {s : PS} {Q : V → H → Prop} (hP : PileP P)
include hP
theorem make_ok {k size : Nat} (A : At P σ n q α s) (I : PGood s [] []) (h8 : k < 8) (hz : size ≤ 6) (hf : s.boxes.length < 60)
    (h : ∀ σ', Did P σ σ' n q α s (updF α s.made (σ.length + 1)) (makeS s k size) (σ.length + 2) → Q (.ref (σ.length + 2)) σ') : Ok (run P 1000 (d + 4) true 34 [.ref (n + 1), .int (k : Int), .int (size : Int)]) σ Q := by
  rw [ok_run (fd := PP.m_make) hP.m34 rfl]
  have hn : s.made ∉ keys s.boxes := fun h => Nat.lt_irrefl _ (I.md _ h)
  have hnw : s.made ∉ keys s.weights := fun h => hn ((count_mem I).mpr h)
  have z0 : (0 : Int) ≤ (size : Int) := Int.natCast_nonneg _
  have z6 : (size : Int) ≤ 6 := by lia
  have hlim : lim = 1000000 := rfl
  have wl := I.wlen
  have nf := A.nf
  have len := A.len
  unfold PP.m_make
  refine oks_step rfl ?_
  simp (disch := decide) only [mx_inst A.p A.d, s_expr, exprK_at, s_var, varK_at, s_attr, attrK_at, attrK2_at, s_sub, subK_at, subK2_at, subK3_at, s_ite, iteK_t, iteK_f, s_ret, retK_at, s_ret0, s_pass, runK_some, runK_none, forK_at, turnK_none, turnK_some, whlK_t, whlK_f, tt_not, tt_band, tt_bor, tt_bool, tt_loc, tt_cmp, tt_cmp2, tt_call, tt_meth, tt_isi, tt_attr, tt_sub, tt_bin, tnotF_t, tnotF_f, ta_nil, ta_cons, andF_t, andF_f, to_nil, to_cons, orF_t, orF_f, e_none, e_bool, e_int, e_str, e_loc, e_bin, binF_at, e_not, notF_at, notF2_t, notF2_f, e_band, e_bor, e_cmp, cmpF_at, e_cmp2, cmpG_t, cmpG_f, e_list, listF_at, e_tup, tupF_at, e_dict0, e_attr, attrF_at, e_sub, subF_at, e_call, e_meth, methF_at, e_bi, e_isi, isiF_at, boolF_at, e_comp, es_nil, es_cons, consF_at, consF2_at, ok_bind, bindK_at, bind_pure, bind_lift, ok_pure, ok_lift, List.zip_cons_cons, List.zip_nil_right, List.zip_nil_left, List.foldl_cons, List.foldl_nil, upd_def, Nat.reduceBEq, bif_t, bif_f, if_true, if_false, Bool.false_eq_true, reduceCtorEq, Nat.reduceEqDiff, ne_eq, not_false_eq_true, not_true_eq_false, decide_true, decide_false, Bool.not_true, Bool.not_false]
  refine need_hand_ok hP h8 ?_
  refine then_step rfl ?_
  simp (disch := decide) only [eg22 hP, ok_le, ok_truthb, z0, z6, s_expr, exprK_at, s_var, varK_at, s_attr, attrK_at, attrK2_at, s_sub, subK_at, subK2_at, subK3_at, s_ite, iteK_t, iteK_f, s_ret, retK_at, s_ret0, s_pass, runK_some, runK_none, forK_at, turnK_none, turnK_some, whlK_t, whlK_f, tt_not, tt_band, tt_bor, tt_bool, tt_loc, tt_cmp, tt_cmp2, tt_call, tt_meth, tt_isi, tt_attr, tt_sub, tt_bin, tnotF_t, tnotF_f, ta_nil, ta_cons, andF_t, andF_f, to_nil, to_cons, orF_t, orF_f, e_none, e_bool, e_int, e_str, e_loc, e_bin, binF_at, e_not, notF_at, notF2_t, notF2_f, e_band, e_bor, e_cmp, cmpF_at, e_cmp2, cmpG_t, cmpG_f, e_list, listF_at, e_tup, tupF_at, e_dict0, e_attr, attrF_at, e_sub, subF_at, e_call, e_meth, methF_at, e_bi, e_isi, isiF_at, boolF_at, e_comp, es_nil, es_cons, consF_at, consF2_at, ok_bind, bindK_at, bind_pure, bind_lift, ok_pure, ok_lift, List.zip_cons_cons, List.zip_nil_right, List.zip_nil_left, List.foldl_cons, List.foldl_nil, upd_def, Nat.reduceBEq, bif_t, bif_f, if_true, if_false, Bool.false_eq_true, reduceCtorEq, Nat.reduceEqDiff, ne_eq, not_false_eq_true, not_true_eq_false, decide_true, decide_false, Bool.not_true, Bool.not_false]
  rw [oks_nil]
  refine then_step rfl ?_
  have n60 : ¬ (((bD α s.boxes).length : Int) = 60) := by unfold bD; rw [enc_len]; lia
  simp (disch := decide) only [ok_getAttr A.p A.d (n := 48) (v := .ref (n + 4)) rfl, ok_lenD A.b, eg23 hP, ok_eqI, n60, ok_truthb, s_expr, exprK_at, s_var, varK_at, s_attr, attrK_at, attrK2_at, s_sub, subK_at, subK2_at, subK3_at, s_ite, iteK_t, iteK_f, s_ret, retK_at, s_ret0, s_pass, runK_some, runK_none, forK_at, turnK_none, turnK_some, whlK_t, whlK_f, tt_not, tt_band, tt_bor, tt_bool, tt_loc, tt_cmp, tt_cmp2, tt_call, tt_meth, tt_isi, tt_attr, tt_sub, tt_bin, tnotF_t, tnotF_f, ta_nil, ta_cons, andF_t, andF_f, to_nil, to_cons, orF_t, orF_f, e_none, e_bool, e_int, e_str, e_loc, e_bin, binF_at, e_not, notF_at, notF2_t, notF2_f, e_band, e_bor, e_cmp, cmpF_at, e_cmp2, cmpG_t, cmpG_f, e_list, listF_at, e_tup, tupF_at, e_dict0, e_attr, attrF_at, e_sub, subF_at, e_call, e_meth, methF_at, e_bi, e_isi, isiF_at, boolF_at, e_comp, es_nil, es_cons, consF_at, consF2_at, ok_bind, bindK_at, bind_pure, bind_lift, ok_pure, ok_lift, List.zip_cons_cons, List.zip_nil_right, List.zip_nil_left, List.foldl_cons, List.foldl_nil, upd_def, Nat.reduceBEq, bif_t, bif_f, if_true, if_false, Bool.false_eq_true, reduceCtorEq, Nat.reduceEqDiff, ne_eq, not_false_eq_true, not_true_eq_false, decide_true, decide_false, Bool.not_true, Bool.not_false]
  rw [oks_nil]
  refine then_step rfl ?_
  simp (disch := decide) only [ok_getAttr A.p A.d (n := 51) (v := .int (s.made : Int)) rfl, s_expr, exprK_at, s_var, varK_at, s_attr, attrK_at, attrK2_at, s_sub, subK_at, subK2_at, subK3_at, s_ite, iteK_t, iteK_f, s_ret, retK_at, s_ret0, s_pass, runK_some, runK_none, forK_at, turnK_none, turnK_some, whlK_t, whlK_f, tt_not, tt_band, tt_bor, tt_bool, tt_loc, tt_cmp, tt_cmp2, tt_call, tt_meth, tt_isi, tt_attr, tt_sub, tt_bin, tnotF_t, tnotF_f, ta_nil, ta_cons, andF_t, andF_f, to_nil, to_cons, orF_t, orF_f, e_none, e_bool, e_int, e_str, e_loc, e_bin, binF_at, e_not, notF_at, notF2_t, notF2_f, e_band, e_bor, e_cmp, cmpF_at, e_cmp2, cmpG_t, cmpG_f, e_list, listF_at, e_tup, tupF_at, e_dict0, e_attr, attrF_at, e_sub, subF_at, e_call, e_meth, methF_at, e_bi, e_isi, isiF_at, boolF_at, e_comp, es_nil, es_cons, consF_at, consF2_at, ok_bind, bindK_at, bind_pure, bind_lift, ok_pure, ok_lift, List.zip_cons_cons, List.zip_nil_right, List.zip_nil_left, List.foldl_cons, List.foldl_nil, upd_def, Nat.reduceBEq, bif_t, bif_f, if_true, if_false, Bool.false_eq_true, reduceCtorEq, Nat.reduceEqDiff, ne_eq, not_false_eq_true, not_true_eq_false, decide_true, decide_false, Bool.not_true, Bool.not_false]
  refine then_step rfl ?_
  have hat : P.attrs.contains 51 = true := by rw [hP.ats]; rfl
  simp (disch := decide) only [ok_add, ok_setAttr A.p A.d A.nf hat (show (aset [(47, V.ref (n + 3)), (48, .ref (n + 4)), (49, .ref (n + 5)), (50, .ref q), (51, .int (s.made : Int))] 51 (.int ((s.made : Int) + 1))).length ≤ 100 by simp [aset]), s_expr, exprK_at, s_var, varK_at, s_attr, attrK_at, attrK2_at, s_sub, subK_at, subK2_at, subK3_at, s_ite, iteK_t, iteK_f, s_ret, retK_at, s_ret0, s_pass, runK_some, runK_none, forK_at, turnK_none, turnK_some, whlK_t, whlK_f, tt_not, tt_band, tt_bor, tt_bool, tt_loc, tt_cmp, tt_cmp2, tt_call, tt_meth, tt_isi, tt_attr, tt_sub, tt_bin, tnotF_t, tnotF_f, ta_nil, ta_cons, andF_t, andF_f, to_nil, to_cons, orF_t, orF_f, e_none, e_bool, e_int, e_str, e_loc, e_bin, binF_at, e_not, notF_at, notF2_t, notF2_f, e_band, e_bor, e_cmp, cmpF_at, e_cmp2, cmpG_t, cmpG_f, e_list, listF_at, e_tup, tupF_at, e_dict0, e_attr, attrF_at, e_sub, subF_at, e_call, e_meth, methF_at, e_bi, e_isi, isiF_at, boolF_at, e_comp, es_nil, es_cons, consF_at, consF2_at, ok_bind, bindK_at, bind_pure, bind_lift, ok_pure, ok_lift, List.zip_cons_cons, List.zip_nil_right, List.zip_nil_left, List.foldl_cons, List.foldl_nil, upd_def, Nat.reduceBEq, bif_t, bif_f, if_true, if_false, Bool.false_eq_true, reduceCtorEq, Nat.reduceEqDiff, ne_eq, not_false_eq_true, not_true_eq_false, decide_true, decide_false, Bool.not_true, Bool.not_false]
  refine then_step rfl ?_
  have A1 := A.setM (s.made + 1)
  have l1 : (σ.put n (.attrs [(47, .ref (n + 3)), (48, .ref (n + 4)), (49, .ref (n + 5)), (50, .ref q), (51, .int ((s.made + 1 : Nat) : Int))])).length = σ.length := len_put
  have k1 : ∀ a, a ≠ n → (σ.put n (.attrs [(47, .ref (n + 3)), (48, .ref (n + 4)), (49, .ref (n + 5)), (50, .ref q), (51, .int ((s.made + 1 : Nat) : Int))])).get a = σ.get a := fun a ha => get_put_ne (Ne.symm ha)
  have e1 : σ.put n (.attrs (aset [(47, V.ref (n + 3)), (48, .ref (n + 4)), (49, .ref (n + 5)), (50, .ref q), (51, .int (s.made : Int))] 51 (.int ((s.made : Int) + 1)))) = σ.put n (.attrs [(47, .ref (n + 3)), (48, .ref (n + 4)), (49, .ref (n + 5)), (50, .ref q), (51, .int ((s.made + 1 : Nat) : Int))]) := rfl
  rw [e1]
  generalize σ.put n (.attrs [(47, .ref (n + 3)), (48, .ref (n + 4)), (49, .ref (n + 5)), (50, .ref q), (51, .int ((s.made + 1 : Nat) : Int))]) = σ1 at *
  -- the slots
  have A2 := A1.push (.rng 0 (size : Int) 1)
  have g2 : (σ1.push (.rng 0 (size : Int) 1)).get σ1.length = some (.rng 0 (size : Int) 1) := get_push_eq
  have l2 : (σ1.push (.rng 0 (size : Int) 1)).length = σ1.length + 1 := len_push
  have k2 : ∀ a, a < σ1.length → (σ1.push (.rng 0 (size : Int) 1)).get a = σ1.get a := fun a ha => get_push_lt ha
  simp (disch := decide) only [ok_range1, s_expr, exprK_at, s_var, varK_at, s_attr, attrK_at, attrK2_at, s_sub, subK_at, subK2_at, subK3_at, s_ite, iteK_t, iteK_f, s_ret, retK_at, s_ret0, s_pass, runK_some, runK_none, forK_at, turnK_none, turnK_some, whlK_t, whlK_f, tt_not, tt_band, tt_bor, tt_bool, tt_loc, tt_cmp, tt_cmp2, tt_call, tt_meth, tt_isi, tt_attr, tt_sub, tt_bin, tnotF_t, tnotF_f, ta_nil, ta_cons, andF_t, andF_f, to_nil, to_cons, orF_t, orF_f, e_none, e_bool, e_int, e_str, e_loc, e_bin, binF_at, e_not, notF_at, notF2_t, notF2_f, e_band, e_bor, e_cmp, cmpF_at, e_cmp2, cmpG_t, cmpG_f, e_list, listF_at, e_tup, tupF_at, e_dict0, e_attr, attrF_at, e_sub, subF_at, e_call, e_meth, methF_at, e_bi, e_isi, isiF_at, boolF_at, e_comp, es_nil, es_cons, consF_at, consF2_at, ok_bind, bindK_at, bind_pure, bind_lift, ok_pure, ok_lift, List.zip_cons_cons, List.zip_nil_right, List.zip_nil_left, List.foldl_cons, List.foldl_nil, upd_def, Nat.reduceBEq, bif_t, bif_f, if_true, if_false, Bool.false_eq_true, reduceCtorEq, Nat.reduceEqDiff, ne_eq, not_false_eq_true, not_true_eq_false, decide_true, decide_false, Bool.not_true, Bool.not_false]
  generalize σ1.push (.rng 0 (size : Int) 1) = σ2 at *
  rw [compX_none g2 z0 (by lia)]
  have A3 := A2.push (.list ((List.replicate ((size : Int)).toNat (none : Option Nat)).map ov))
  have g3 : (σ2.push (.list ((List.replicate ((size : Int)).toNat (none : Option Nat)).map ov))).get σ2.length = some (.list ((List.replicate ((size : Int)).toNat (none : Option Nat)).map ov)) := get_push_eq
  have l3 : (σ2.push (.list ((List.replicate ((size : Int)).toNat (none : Option Nat)).map ov))).length = σ2.length + 1 := len_push
  have k3 : ∀ a, a < σ2.length → (σ2.push (.list ((List.replicate ((size : Int)).toNat (none : Option Nat)).map ov))).get a = σ2.get a := fun a ha => get_push_lt ha
  generalize σ2.push (.list ((List.replicate ((size : Int)).toNat (none : Option Nat)).map ov)) = σ3 at *
  have ho3 : ¬ Own n q α { s with made := s.made + 1 } σ2.length := fun e => Nat.lt_irrefl _ (A2.lt e)
  have hs2 : σ2.length = σ.length + 1 := by lia
  have dset2 : dset (bD α s.boxes) (.int (s.made : Int)) (.ref σ2.length) = bD (updF α s.made σ2.length) (s.boxes ++ [(s.made, List.replicate ((size : Int)).toNat none)]) := by
    have h1 : bD (updF α s.made σ2.length) (s.boxes ++ [(s.made, List.replicate ((size : Int)).toNat none)]) = encD (fun k _ => .ref (updF α s.made σ2.length k)) (aSet s.boxes s.made (List.replicate ((size : Int)).toNat none)) := by rw [aSet_absent hn]; rfl
    rw [h1, ← enc_set]
    show _ = dset (bD (updF α s.made σ2.length) s.boxes) _ (V.ref (updF α s.made σ2.length s.made))
    rw [bD_updF hn, updF_at]
  have hl3 : (dset (bD α s.boxes) (.int (s.made : Int)) (.ref σ2.length)).length ≤ lim := by rw [dset2]; unfold bD; rw [enc_len, hlim]; simp; lia
  simp (disch := decide) only [ok_getAttr A3.p A3.d (n := 48) (v := .ref (n + 4)) rfl, ok_setDict A3.b (show P.nf ≤ n + 4 by lia) rfl hl3, s_expr, exprK_at, s_var, varK_at, s_attr, attrK_at, attrK2_at, s_sub, subK_at, subK2_at, subK3_at, s_ite, iteK_t, iteK_f, s_ret, retK_at, s_ret0, s_pass, runK_some, runK_none, forK_at, turnK_none, turnK_some, whlK_t, whlK_f, tt_not, tt_band, tt_bor, tt_bool, tt_loc, tt_cmp, tt_cmp2, tt_call, tt_meth, tt_isi, tt_attr, tt_sub, tt_bin, tnotF_t, tnotF_f, ta_nil, ta_cons, andF_t, andF_f, to_nil, to_cons, orF_t, orF_f, e_none, e_bool, e_int, e_str, e_loc, e_bin, binF_at, e_not, notF_at, notF2_t, notF2_f, e_band, e_bor, e_cmp, cmpF_at, e_cmp2, cmpG_t, cmpG_f, e_list, listF_at, e_tup, tupF_at, e_dict0, e_attr, attrF_at, e_sub, subF_at, e_call, e_meth, methF_at, e_bi, e_isi, isiF_at, boolF_at, e_comp, es_nil, es_cons, consF_at, consF2_at, ok_bind, bindK_at, bind_pure, bind_lift, ok_pure, ok_lift, List.zip_cons_cons, List.zip_nil_right, List.zip_nil_left, List.foldl_cons, List.foldl_nil, upd_def, Nat.reduceBEq, bif_t, bif_f, if_true, if_false, Bool.false_eq_true, reduceCtorEq, Nat.reduceEqDiff, ne_eq, not_false_eq_true, not_true_eq_false, decide_true, decide_false, Bool.not_true, Bool.not_false]
  rw [dset2]
  refine then_step rfl ?_
  have A4 := A3.setB (k := s.made) (a := σ2.length) hn g3 ho3 (by lia)
  have l4 : (σ3.put (n + 4) (.dict (bD (updF α s.made σ2.length) (s.boxes ++ [(s.made, List.replicate ((size : Int)).toNat none)])))).length = σ3.length := len_put
  have k4 : ∀ a, a ≠ n + 4 → (σ3.put (n + 4) (.dict (bD (updF α s.made σ2.length) (s.boxes ++ [(s.made, List.replicate ((size : Int)).toNat none)])))).get a = σ3.get a := fun a ha => get_put_ne (Ne.symm ha)
  dsimp only at A4
  generalize σ3.put (n + 4) (.dict (bD (updF α s.made σ2.length) (s.boxes ++ [(s.made, List.replicate ((size : Int)).toNat none)]))) = σ4 at *
  have dset3 : dset (wD s.weights) (.int (s.made : Int)) (.int 0) = wD (s.weights ++ [(s.made, 0)]) := by
    rw [← aSet_absent hnw]; exact enc_set (f := fun _ w => V.int ((w : Nat) : Int)) (b := 0)
  have hl4 : (dset (wD s.weights) (.int (s.made : Int)) (.int 0)).length ≤ lim := by rw [dset3]; unfold wD; rw [enc_len, hlim]; simp; lia
  simp (disch := decide) only [ok_getAttr A4.p A4.d (n := 49) (v := .ref (n + 5)) rfl, ok_setDict A4.w (show P.nf ≤ n + 5 by lia) rfl hl4, s_expr, exprK_at, s_var, varK_at, s_attr, attrK_at, attrK2_at, s_sub, subK_at, subK2_at, subK3_at, s_ite, iteK_t, iteK_f, s_ret, retK_at, s_ret0, s_pass, runK_some, runK_none, forK_at, turnK_none, turnK_some, whlK_t, whlK_f, tt_not, tt_band, tt_bor, tt_bool, tt_loc, tt_cmp, tt_cmp2, tt_call, tt_meth, tt_isi, tt_attr, tt_sub, tt_bin, tnotF_t, tnotF_f, ta_nil, ta_cons, andF_t, andF_f, to_nil, to_cons, orF_t, orF_f, e_none, e_bool, e_int, e_str, e_loc, e_bin, binF_at, e_not, notF_at, notF2_t, notF2_f, e_band, e_bor, e_cmp, cmpF_at, e_cmp2, cmpG_t, cmpG_f, e_list, listF_at, e_tup, tupF_at, e_dict0, e_attr, attrF_at, e_sub, subF_at, e_call, e_meth, methF_at, e_bi, e_isi, isiF_at, boolF_at, e_comp, es_nil, es_cons, consF_at, consF2_at, ok_bind, bindK_at, bind_pure, bind_lift, ok_pure, ok_lift, List.zip_cons_cons, List.zip_nil_right, List.zip_nil_left, List.foldl_cons, List.foldl_nil, upd_def, Nat.reduceBEq, bif_t, bif_f, if_true, if_false, Bool.false_eq_true, reduceCtorEq, Nat.reduceEqDiff, ne_eq, not_false_eq_true, not_true_eq_false, decide_true, decide_false, Bool.not_true, Bool.not_false]
  rw [dset3]
  refine then_step rfl ?_
  have A5 := A4.setW (s.weights ++ [(s.made, 0)])
  have l5 : (σ4.put (n + 5) (.dict (wD (s.weights ++ [(s.made, 0)])))).length = σ4.length := len_put
  have k5 : ∀ a, a ≠ n + 5 → (σ4.put (n + 5) (.dict (wD (s.weights ++ [(s.made, 0)])))).get a = σ4.get a := fun a ha => get_put_ne (Ne.symm ha)
  generalize σ4.put (n + 5) (.dict (wD (s.weights ++ [(s.made, 0)]))) = σ5 at *
  have A6 : At P σ5 n q (updF α s.made σ2.length) (bornS s size) := A5
  simp (disch := decide) only [mx_inst A6.p A6.d, s_expr, exprK_at, s_var, varK_at, s_attr, attrK_at, attrK2_at, s_sub, subK_at, subK2_at, subK3_at, s_ite, iteK_t, iteK_f, s_ret, retK_at, s_ret0, s_pass, runK_some, runK_none, forK_at, turnK_none, turnK_some, whlK_t, whlK_f, tt_not, tt_band, tt_bor, tt_bool, tt_loc, tt_cmp, tt_cmp2, tt_call, tt_meth, tt_isi, tt_attr, tt_sub, tt_bin, tnotF_t, tnotF_f, ta_nil, ta_cons, andF_t, andF_f, to_nil, to_cons, orF_t, orF_f, e_none, e_bool, e_int, e_str, e_loc, e_bin, binF_at, e_not, notF_at, notF2_t, notF2_f, e_band, e_bor, e_cmp, cmpF_at, e_cmp2, cmpG_t, cmpG_f, e_list, listF_at, e_tup, tupF_at, e_dict0, e_attr, attrF_at, e_sub, subF_at, e_call, e_meth, methF_at, e_bi, e_isi, isiF_at, boolF_at, e_comp, es_nil, es_cons, consF_at, consF2_at, ok_bind, bindK_at, bind_pure, bind_lift, ok_pure, ok_lift, List.zip_cons_cons, List.zip_nil_right, List.zip_nil_left, List.foldl_cons, List.foldl_nil, upd_def, Nat.reduceBEq, bif_t, bif_f, if_true, if_false, Bool.false_eq_true, reduceCtorEq, Nat.reduceEqDiff, ne_eq, not_false_eq_true, not_true_eq_false, decide_true, decide_false, Bool.not_true, Bool.not_false]
  refine handed_ok hP (x := some s.made) A6 h8 I.hl (fun k e => by cases e; show s.made ∈ keys (s.weights ++ [(s.made, 0)]); simp [keys]) (born_inv I h8 hz) (by show (s.boxes ++ [_]).length ≤ 900; simp; lia) fun σ6 D => ?_
  have hs5 : σ5.length = σ.length + 2 := by lia
  rw [hs5] at D ⊢
  rw [hs2] at D A6
  have own6 : ∀ a, Own n q (updF α s.made (σ.length + 1)) (bornS s size) a → Own n q α s a ∨ a = σ.length + 1 := by
    rintro a (e | e | e | e | e | e | ⟨j, hj, e⟩)
    · exact .inl (.inl e)
    · exact .inl (.inr (.inl e))
    · exact .inl (.inr (.inr (.inl e)))
    · exact .inl (.inr (.inr (.inr (.inl e))))
    · exact .inl (.inr (.inr (.inr (.inr (.inl e)))))
    · exact .inl (.inr (.inr (.inr (.inr (.inr (.inl e))))))
    · simp only [bornS, keys, List.map_append, List.map_cons, List.map_nil, List.mem_append, List.mem_singleton] at hj
      by_cases ej : j = s.made
      · subst ej; rw [updF_at] at e; exact .inr e
      · rw [updF_no ej] at e
        rcases hj with hj | hj
        · exact .inl (.inr (.inr (.inr (.inr (.inr (.inr ⟨j, hj, e⟩))))))
        · exact absurd hj ej
  refine h σ6 ⟨D.at', D.fr, D.len, by lia, fun a ha ho => ?_, fun a ha => ?_⟩
  · have n0 : a ≠ n := fun e => ho (.inl e)
    have n4 : a ≠ n + 4 := fun e => ho (.inr (.inr (.inr (.inl e))))
    have n5 : a ≠ n + 5 := fun e => ho (.inr (.inr (.inr (.inr (.inl e)))))
    rw [D.kp a (by lia) (fun e => ?_), k5 a n5, k4 a n4, k3 a (by lia), k2 a (by lia), k1 a n0]
    rcases own6 a e with e | e
    · exact ho e
    · lia
  · rcases D.own a ha with e | ⟨e, e'⟩
    · rcases own6 a e with e | e
      · exact .inl e
      · exact .inr ⟨by lia, by lia⟩
    · lia
theorem new_ok {C : Nat} {loc : Loc} (hnf : P.nf ≤ σ.length) (h : ∀ σ', At P σ' σ.length (σ.length + 6) α newS → σ'.length = σ.length + 7 → (∀ a, a < σ.length → σ'.get a = σ.get a) → Q (.ref (σ.length + 1)) σ') : Ok (ev P (run P 1000 (d + 1)) (.new 24) loc) σ Q := by
  have hd : ∀ Q' : V → H → Prop, Ok (ev P (run P 1000 (d + 1)) (.new 24) loc) σ Q' = Ok (run P 1000 (d + 1) true P.init [.ref (σ.length + 1)]) ((σ.push (.attrs [])).push (.inst 24 σ.length)) (fun r σ' => match r with | .none => Q' (.ref (σ.length + 1)) σ' | _ => False) := by
    intro Q'
    show Ok (X.bind _ _) σ Q' = _
    rw [ok_bind, ok_alloc rfl]
    show Ok (X.bind _ _) _ Q' = _
    rw [ok_bind, ok_alloc rfl]
    show Ok (X.bind _ _) _ Q' = _
    rw [ok_bind, len_push]
    refine congrArg (Ok _ _) (funext fun r => funext fun σ' => ?_)
    cases r <;> rfl
  rw [hd, hP.ini, ok_run (fd := PP.m___init__) hP.m25 rfl]
  have l0 : ((σ.push (.attrs [])).push (.inst 24 σ.length)).length = σ.length + 2 := by simp only [len_push]
  have p0 : ((σ.push (.attrs [])).push (.inst 24 σ.length)).get (σ.length + 1) = some (.inst 24 σ.length) := by have := get_push_eq (σ := σ.push (.attrs [])) (o := .inst 24 σ.length); rwa [len_push] at this
  have d0 : ((σ.push (.attrs [])).push (.inst 24 σ.length)).get σ.length = some (.attrs []) := by rw [get_push_lt (by rw [len_push]; lia)]; exact get_push_eq
  have k0 : ∀ a, a < σ.length → ((σ.push (.attrs [])).push (.inst 24 σ.length)).get a = σ.get a := fun a ha => by rw [get_push_lt (by rw [len_push]; lia), get_push_lt ha]
  generalize (σ.push (.attrs [])).push (.inst 24 σ.length) = τ0 at *
  have a47 : P.attrs.contains 47 = true := by rw [hP.ats]; rfl
  have a48 : P.attrs.contains 48 = true := by rw [hP.ats]; rfl
  have a49 : P.attrs.contains 49 = true := by rw [hP.ats]; rfl
  have a50 : P.attrs.contains 50 = true := by rw [hP.ats]; rfl
  have a51 : P.attrs.contains 51 = true := by rw [hP.ats]; rfl
  unfold PP.m___init__
  -- in_hands
  refine oks_step rfl ?_
  have g1 : (τ0.push (.rng 0 8 1)).get τ0.length = some (.rng 0 8 1) := get_push_eq
  have l1 : (τ0.push (.rng 0 8 1)).length = σ.length + 3 := by rw [len_push]; lia
  have k1 : ∀ a, a < τ0.length → (τ0.push (.rng 0 8 1)).get a = τ0.get a := fun a ha => get_push_lt ha
  simp (disch := decide) only [eg21 hP, ok_range1, s_expr, exprK_at, s_var, varK_at, s_attr, attrK_at, attrK2_at, s_sub, subK_at, subK2_at, subK3_at, s_ite, iteK_t, iteK_f, s_ret, retK_at, s_ret0, s_pass, runK_some, runK_none, forK_at, turnK_none, turnK_some, whlK_t, whlK_f, tt_not, tt_band, tt_bor, tt_bool, tt_loc, tt_cmp, tt_cmp2, tt_call, tt_meth, tt_isi, tt_attr, tt_sub, tt_bin, tnotF_t, tnotF_f, ta_nil, ta_cons, andF_t, andF_f, to_nil, to_cons, orF_t, orF_f, e_none, e_bool, e_int, e_str, e_loc, e_bin, binF_at, e_not, notF_at, notF2_t, notF2_f, e_band, e_bor, e_cmp, cmpF_at, e_cmp2, cmpG_t, cmpG_f, e_list, listF_at, e_tup, tupF_at, e_dict0, e_attr, attrF_at, e_sub, subF_at, e_call, e_meth, methF_at, e_bi, e_isi, isiF_at, boolF_at, e_comp, es_nil, es_cons, consF_at, consF2_at, ok_bind, bindK_at, bind_pure, bind_lift, ok_pure, ok_lift, List.zip_cons_cons, List.zip_nil_right, List.zip_nil_left, List.foldl_cons, List.foldl_nil, upd_def, Nat.reduceBEq, bif_t, bif_f, if_true, if_false, Bool.false_eq_true, reduceCtorEq, Nat.reduceEqDiff, ne_eq, not_false_eq_true, not_true_eq_false, decide_true, decide_false, Bool.not_true, Bool.not_false]
  generalize τ0.push (.rng 0 8 1) = τ1 at *
  rw [compX_none g1 (by decide) (by decide)]
  have g2 : (τ1.push (.list ((List.replicate ((8 : Int)).toNat (none : Option Nat)).map ov))).get (σ.length + 3) = some (.list ((List.replicate 8 (none : Option Nat)).map ov)) := by have := get_push_eq (σ := τ1) (o := .list ((List.replicate ((8 : Int)).toNat (none : Option Nat)).map ov)); rwa [l1] at this
  have l2 : (τ1.push (.list ((List.replicate ((8 : Int)).toNat (none : Option Nat)).map ov))).length = σ.length + 4 := by rw [len_push]; lia
  have k2 : ∀ a, a < τ1.length → (τ1.push (.list ((List.replicate ((8 : Int)).toNat (none : Option Nat)).map ov))).get a = τ1.get a := fun a ha => get_push_lt ha
  rw [l1]
  generalize τ1.push (.list ((List.replicate ((8 : Int)).toNat (none : Option Nat)).map ov)) = τ2 at *
  have p2 : τ2.get (σ.length + 1) = some (.inst 24 σ.length) := by rw [k2 _ (by lia), k1 _ (by lia)]; exact p0
  have d2 : τ2.get σ.length = some (.attrs []) := by rw [k2 _ (by lia), k1 _ (by lia)]; exact d0
  simp (disch := decide) only [ok_setAttr p2 d2 hnf a47 (show (aset [] 47 (V.ref (σ.length + 3))).length ≤ 100 by simp [aset]), s_expr, exprK_at, s_var, varK_at, s_attr, attrK_at, attrK2_at, s_sub, subK_at, subK2_at, subK3_at, s_ite, iteK_t, iteK_f, s_ret, retK_at, s_ret0, s_pass, runK_some, runK_none, forK_at, turnK_none, turnK_some, whlK_t, whlK_f, tt_not, tt_band, tt_bor, tt_bool, tt_loc, tt_cmp, tt_cmp2, tt_call, tt_meth, tt_isi, tt_attr, tt_sub, tt_bin, tnotF_t, tnotF_f, ta_nil, ta_cons, andF_t, andF_f, to_nil, to_cons, orF_t, orF_f, e_none, e_bool, e_int, e_str, e_loc, e_bin, binF_at, e_not, notF_at, notF2_t, notF2_f, e_band, e_bor, e_cmp, cmpF_at, e_cmp2, cmpG_t, cmpG_f, e_list, listF_at, e_tup, tupF_at, e_dict0, e_attr, attrF_at, e_sub, subF_at, e_call, e_meth, methF_at, e_bi, e_isi, isiF_at, boolF_at, e_comp, es_nil, es_cons, consF_at, consF2_at, ok_bind, bindK_at, bind_pure, bind_lift, ok_pure, ok_lift, List.zip_cons_cons, List.zip_nil_right, List.zip_nil_left, List.foldl_cons, List.foldl_nil, upd_def, Nat.reduceBEq, bif_t, bif_f, if_true, if_false, Bool.false_eq_true, reduceCtorEq, Nat.reduceEqDiff, ne_eq, not_false_eq_true, not_true_eq_false, decide_true, decide_false, Bool.not_true, Bool.not_false]
  have kk2 : ∀ a, a < σ.length → τ2.get a = σ.get a := fun a ha => by rw [k2 a (by lia), k1 a (by lia), k0 a ha]
  -- boxes
  refine then_step rfl ?_
  have e3 : aset [] 47 (V.ref (σ.length + 3)) = [(47, V.ref (σ.length + 3))] := rfl
  rw [e3]
  have d3 : ((τ2.put σ.length (.attrs [(47, V.ref (σ.length + 3))])).push (.dict [])).get σ.length = some (.attrs [(47, V.ref (σ.length + 3))]) := by rw [get_push_lt (by rw [len_put]; lia)]; exact get_put_eq (by lia)
  have p3 : ((τ2.put σ.length (.attrs [(47, V.ref (σ.length + 3))])).push (.dict [])).get (σ.length + 1) = some (.inst 24 σ.length) := by rw [get_push_lt (by rw [len_put]; lia), get_put_ne (by lia)]; exact p2
  have h3 : ((τ2.put σ.length (.attrs [(47, V.ref (σ.length + 3))])).push (.dict [])).get (σ.length + 3) = some (.list ((List.replicate 8 (none : Option Nat)).map ov)) := by rw [get_push_lt (by rw [len_put]; lia), get_put_ne (by lia)]; exact g2
  have b3 : ((τ2.put σ.length (.attrs [(47, V.ref (σ.length + 3))])).push (.dict [])).get (σ.length + 4) = some (.dict []) := by have := get_push_eq (σ := τ2.put σ.length (.attrs [(47, V.ref (σ.length + 3))])) (o := .dict []); rwa [len_put, l2] at this
  have l3 : ((τ2.put σ.length (.attrs [(47, V.ref (σ.length + 3))])).push (.dict [])).length = σ.length + 5 := by rw [len_push, len_put]; lia
  have k3 : ∀ a, a < σ.length → ((τ2.put σ.length (.attrs [(47, V.ref (σ.length + 3))])).push (.dict [])).get a = σ.get a := fun a ha => by rw [get_push_lt (by rw [len_put]; lia), get_put_ne (by lia)]; exact kk2 a ha
  simp (disch := decide) only [ok_alloc (o := .dict []) rfl, len_put, l2, s_expr, exprK_at, s_var, varK_at, s_attr, attrK_at, attrK2_at, s_sub, subK_at, subK2_at, subK3_at, s_ite, iteK_t, iteK_f, s_ret, retK_at, s_ret0, s_pass, runK_some, runK_none, forK_at, turnK_none, turnK_some, whlK_t, whlK_f, tt_not, tt_band, tt_bor, tt_bool, tt_loc, tt_cmp, tt_cmp2, tt_call, tt_meth, tt_isi, tt_attr, tt_sub, tt_bin, tnotF_t, tnotF_f, ta_nil, ta_cons, andF_t, andF_f, to_nil, to_cons, orF_t, orF_f, e_none, e_bool, e_int, e_str, e_loc, e_bin, binF_at, e_not, notF_at, notF2_t, notF2_f, e_band, e_bor, e_cmp, cmpF_at, e_cmp2, cmpG_t, cmpG_f, e_list, listF_at, e_tup, tupF_at, e_dict0, e_attr, attrF_at, e_sub, subF_at, e_call, e_meth, methF_at, e_bi, e_isi, isiF_at, boolF_at, e_comp, es_nil, es_cons, consF_at, consF2_at, ok_bind, bindK_at, bind_pure, bind_lift, ok_pure, ok_lift, List.zip_cons_cons, List.zip_nil_right, List.zip_nil_left, List.foldl_cons, List.foldl_nil, upd_def, Nat.reduceBEq, bif_t, bif_f, if_true, if_false, Bool.false_eq_true, reduceCtorEq, Nat.reduceEqDiff, ne_eq, not_false_eq_true, not_true_eq_false, decide_true, decide_false, Bool.not_true, Bool.not_false]
  generalize (τ2.put σ.length (.attrs [(47, V.ref (σ.length + 3))])).push (.dict []) = τ3 at *
  simp (disch := decide) only [ok_setAttr p3 d3 hnf a48 (show (aset [(47, V.ref (σ.length + 3))] 48 (V.ref (σ.length + 4))).length ≤ 100 by simp [aset]), s_expr, exprK_at, s_var, varK_at, s_attr, attrK_at, attrK2_at, s_sub, subK_at, subK2_at, subK3_at, s_ite, iteK_t, iteK_f, s_ret, retK_at, s_ret0, s_pass, runK_some, runK_none, forK_at, turnK_none, turnK_some, whlK_t, whlK_f, tt_not, tt_band, tt_bor, tt_bool, tt_loc, tt_cmp, tt_cmp2, tt_call, tt_meth, tt_isi, tt_attr, tt_sub, tt_bin, tnotF_t, tnotF_f, ta_nil, ta_cons, andF_t, andF_f, to_nil, to_cons, orF_t, orF_f, e_none, e_bool, e_int, e_str, e_loc, e_bin, binF_at, e_not, notF_at, notF2_t, notF2_f, e_band, e_bor, e_cmp, cmpF_at, e_cmp2, cmpG_t, cmpG_f, e_list, listF_at, e_tup, tupF_at, e_dict0, e_attr, attrF_at, e_sub, subF_at, e_call, e_meth, methF_at, e_bi, e_isi, isiF_at, boolF_at, e_comp, es_nil, es_cons, consF_at, consF2_at, ok_bind, bindK_at, bind_pure, bind_lift, ok_pure, ok_lift, List.zip_cons_cons, List.zip_nil_right, List.zip_nil_left, List.foldl_cons, List.foldl_nil, upd_def, Nat.reduceBEq, bif_t, bif_f, if_true, if_false, Bool.false_eq_true, reduceCtorEq, Nat.reduceEqDiff, ne_eq, not_false_eq_true, not_true_eq_false, decide_true, decide_false, Bool.not_true, Bool.not_false]
  -- weights
  refine then_step rfl ?_
  have e4 : aset [(47, V.ref (σ.length + 3))] 48 (V.ref (σ.length + 4)) = [(47, V.ref (σ.length + 3)), (48, V.ref (σ.length + 4))] := rfl
  rw [e4]
  have d4 : ((τ3.put σ.length (.attrs [(47, V.ref (σ.length + 3)), (48, V.ref (σ.length + 4))])).push (.dict [])).get σ.length = some (.attrs [(47, V.ref (σ.length + 3)), (48, V.ref (σ.length + 4))]) := by rw [get_push_lt (by rw [len_put]; lia)]; exact get_put_eq (by lia)
  have p4 : ((τ3.put σ.length (.attrs [(47, V.ref (σ.length + 3)), (48, V.ref (σ.length + 4))])).push (.dict [])).get (σ.length + 1) = some (.inst 24 σ.length) := by rw [get_push_lt (by rw [len_put]; lia), get_put_ne (by lia)]; exact p3
  have h4 : ((τ3.put σ.length (.attrs [(47, V.ref (σ.length + 3)), (48, V.ref (σ.length + 4))])).push (.dict [])).get (σ.length + 3) = some (.list ((List.replicate 8 (none : Option Nat)).map ov)) := by rw [get_push_lt (by rw [len_put]; lia), get_put_ne (by lia)]; exact h3
  have b4 : ((τ3.put σ.length (.attrs [(47, V.ref (σ.length + 3)), (48, V.ref (σ.length + 4))])).push (.dict [])).get (σ.length + 4) = some (.dict []) := by rw [get_push_lt (by rw [len_put]; lia), get_put_ne (by lia)]; exact b3
  have w4 : ((τ3.put σ.length (.attrs [(47, V.ref (σ.length + 3)), (48, V.ref (σ.length + 4))])).push (.dict [])).get (σ.length + 5) = some (.dict []) := by have := get_push_eq (σ := τ3.put σ.length (.attrs [(47, V.ref (σ.length + 3)), (48, V.ref (σ.length + 4))])) (o := .dict []); rwa [len_put, l3] at this
  have l4 : ((τ3.put σ.length (.attrs [(47, V.ref (σ.length + 3)), (48, V.ref (σ.length + 4))])).push (.dict [])).length = σ.length + 6 := by rw [len_push, len_put]; lia
  have k4 : ∀ a, a < σ.length → ((τ3.put σ.length (.attrs [(47, V.ref (σ.length + 3)), (48, V.ref (σ.length + 4))])).push (.dict [])).get a = σ.get a := fun a ha => by rw [get_push_lt (by rw [len_put]; lia), get_put_ne (by lia)]; exact k3 a ha
  simp (disch := decide) only [ok_alloc (o := .dict []) rfl, len_put, l3, s_expr, exprK_at, s_var, varK_at, s_attr, attrK_at, attrK2_at, s_sub, subK_at, subK2_at, subK3_at, s_ite, iteK_t, iteK_f, s_ret, retK_at, s_ret0, s_pass, runK_some, runK_none, forK_at, turnK_none, turnK_some, whlK_t, whlK_f, tt_not, tt_band, tt_bor, tt_bool, tt_loc, tt_cmp, tt_cmp2, tt_call, tt_meth, tt_isi, tt_attr, tt_sub, tt_bin, tnotF_t, tnotF_f, ta_nil, ta_cons, andF_t, andF_f, to_nil, to_cons, orF_t, orF_f, e_none, e_bool, e_int, e_str, e_loc, e_bin, binF_at, e_not, notF_at, notF2_t, notF2_f, e_band, e_bor, e_cmp, cmpF_at, e_cmp2, cmpG_t, cmpG_f, e_list, listF_at, e_tup, tupF_at, e_dict0, e_attr, attrF_at, e_sub, subF_at, e_call, e_meth, methF_at, e_bi, e_isi, isiF_at, boolF_at, e_comp, es_nil, es_cons, consF_at, consF2_at, ok_bind, bindK_at, bind_pure, bind_lift, ok_pure, ok_lift, List.zip_cons_cons, List.zip_nil_right, List.zip_nil_left, List.foldl_cons, List.foldl_nil, upd_def, Nat.reduceBEq, bif_t, bif_f, if_true, if_false, Bool.false_eq_true, reduceCtorEq, Nat.reduceEqDiff, ne_eq, not_false_eq_true, not_true_eq_false, decide_true, decide_false, Bool.not_true, Bool.not_false]
  generalize (τ3.put σ.length (.attrs [(47, V.ref (σ.length + 3)), (48, V.ref (σ.length + 4))])).push (.dict []) = τ4 at *
  simp (disch := decide) only [ok_setAttr p4 d4 hnf a49 (show (aset [(47, V.ref (σ.length + 3)), (48, V.ref (σ.length + 4))] 49 (V.ref (σ.length + 5))).length ≤ 100 by simp [aset]), s_expr, exprK_at, s_var, varK_at, s_attr, attrK_at, attrK2_at, s_sub, subK_at, subK2_at, subK3_at, s_ite, iteK_t, iteK_f, s_ret, retK_at, s_ret0, s_pass, runK_some, runK_none, forK_at, turnK_none, turnK_some, whlK_t, whlK_f, tt_not, tt_band, tt_bor, tt_bool, tt_loc, tt_cmp, tt_cmp2, tt_call, tt_meth, tt_isi, tt_attr, tt_sub, tt_bin, tnotF_t, tnotF_f, ta_nil, ta_cons, andF_t, andF_f, to_nil, to_cons, orF_t, orF_f, e_none, e_bool, e_int, e_str, e_loc, e_bin, binF_at, e_not, notF_at, notF2_t, notF2_f, e_band, e_bor, e_cmp, cmpF_at, e_cmp2, cmpG_t, cmpG_f, e_list, listF_at, e_tup, tupF_at, e_dict0, e_attr, attrF_at, e_sub, subF_at, e_call, e_meth, methF_at, e_bi, e_isi, isiF_at, boolF_at, e_comp, es_nil, es_cons, consF_at, consF2_at, ok_bind, bindK_at, bind_pure, bind_lift, ok_pure, ok_lift, List.zip_cons_cons, List.zip_nil_right, List.zip_nil_left, List.foldl_cons, List.foldl_nil, upd_def, Nat.reduceBEq, bif_t, bif_f, if_true, if_false, Bool.false_eq_true, reduceCtorEq, Nat.reduceEqDiff, ne_eq, not_false_eq_true, not_true_eq_false, decide_true, decide_false, Bool.not_true, Bool.not_false]
  -- doubted
  refine then_step rfl ?_
  have e5 : aset [(47, V.ref (σ.length + 3)), (48, V.ref (σ.length + 4))] 49 (V.ref (σ.length + 5)) = [(47, V.ref (σ.length + 3)), (48, V.ref (σ.length + 4)), (49, V.ref (σ.length + 5))] := rfl
  rw [e5]
  have d5 : ((τ4.put σ.length (.attrs [(47, V.ref (σ.length + 3)), (48, V.ref (σ.length + 4)), (49, V.ref (σ.length + 5))])).push (.dict [])).get σ.length = some (.attrs [(47, V.ref (σ.length + 3)), (48, V.ref (σ.length + 4)), (49, V.ref (σ.length + 5))]) := by rw [get_push_lt (by rw [len_put]; lia)]; exact get_put_eq (by lia)
  have p5 : ((τ4.put σ.length (.attrs [(47, V.ref (σ.length + 3)), (48, V.ref (σ.length + 4)), (49, V.ref (σ.length + 5))])).push (.dict [])).get (σ.length + 1) = some (.inst 24 σ.length) := by rw [get_push_lt (by rw [len_put]; lia), get_put_ne (by lia)]; exact p4
  have h5 : ((τ4.put σ.length (.attrs [(47, V.ref (σ.length + 3)), (48, V.ref (σ.length + 4)), (49, V.ref (σ.length + 5))])).push (.dict [])).get (σ.length + 3) = some (.list ((List.replicate 8 (none : Option Nat)).map ov)) := by rw [get_push_lt (by rw [len_put]; lia), get_put_ne (by lia)]; exact h4
  have b5 : ((τ4.put σ.length (.attrs [(47, V.ref (σ.length + 3)), (48, V.ref (σ.length + 4)), (49, V.ref (σ.length + 5))])).push (.dict [])).get (σ.length + 4) = some (.dict []) := by rw [get_push_lt (by rw [len_put]; lia), get_put_ne (by lia)]; exact b4
  have w5 : ((τ4.put σ.length (.attrs [(47, V.ref (σ.length + 3)), (48, V.ref (σ.length + 4)), (49, V.ref (σ.length + 5))])).push (.dict [])).get (σ.length + 5) = some (.dict []) := by rw [get_push_lt (by rw [len_put]; lia), get_put_ne (by lia)]; exact w4
  have q5 : ((τ4.put σ.length (.attrs [(47, V.ref (σ.length + 3)), (48, V.ref (σ.length + 4)), (49, V.ref (σ.length + 5))])).push (.dict [])).get (σ.length + 6) = some (.dict []) := by have := get_push_eq (σ := τ4.put σ.length (.attrs [(47, V.ref (σ.length + 3)), (48, V.ref (σ.length + 4)), (49, V.ref (σ.length + 5))])) (o := .dict []); rwa [len_put, l4] at this
  have l5 : ((τ4.put σ.length (.attrs [(47, V.ref (σ.length + 3)), (48, V.ref (σ.length + 4)), (49, V.ref (σ.length + 5))])).push (.dict [])).length = σ.length + 7 := by rw [len_push, len_put]; lia
  have k5 : ∀ a, a < σ.length → ((τ4.put σ.length (.attrs [(47, V.ref (σ.length + 3)), (48, V.ref (σ.length + 4)), (49, V.ref (σ.length + 5))])).push (.dict [])).get a = σ.get a := fun a ha => by rw [get_push_lt (by rw [len_put]; lia), get_put_ne (by lia)]; exact k4 a ha
  simp (disch := decide) only [ok_alloc (o := .dict []) rfl, len_put, l4, s_expr, exprK_at, s_var, varK_at, s_attr, attrK_at, attrK2_at, s_sub, subK_at, subK2_at, subK3_at, s_ite, iteK_t, iteK_f, s_ret, retK_at, s_ret0, s_pass, runK_some, runK_none, forK_at, turnK_none, turnK_some, whlK_t, whlK_f, tt_not, tt_band, tt_bor, tt_bool, tt_loc, tt_cmp, tt_cmp2, tt_call, tt_meth, tt_isi, tt_attr, tt_sub, tt_bin, tnotF_t, tnotF_f, ta_nil, ta_cons, andF_t, andF_f, to_nil, to_cons, orF_t, orF_f, e_none, e_bool, e_int, e_str, e_loc, e_bin, binF_at, e_not, notF_at, notF2_t, notF2_f, e_band, e_bor, e_cmp, cmpF_at, e_cmp2, cmpG_t, cmpG_f, e_list, listF_at, e_tup, tupF_at, e_dict0, e_attr, attrF_at, e_sub, subF_at, e_call, e_meth, methF_at, e_bi, e_isi, isiF_at, boolF_at, e_comp, es_nil, es_cons, consF_at, consF2_at, ok_bind, bindK_at, bind_pure, bind_lift, ok_pure, ok_lift, List.zip_cons_cons, List.zip_nil_right, List.zip_nil_left, List.foldl_cons, List.foldl_nil, upd_def, Nat.reduceBEq, bif_t, bif_f, if_true, if_false, Bool.false_eq_true, reduceCtorEq, Nat.reduceEqDiff, ne_eq, not_false_eq_true, not_true_eq_false, decide_true, decide_false, Bool.not_true, Bool.not_false]
  generalize (τ4.put σ.length (.attrs [(47, V.ref (σ.length + 3)), (48, V.ref (σ.length + 4)), (49, V.ref (σ.length + 5))])).push (.dict []) = τ5 at *
  simp (disch := decide) only [ok_setAttr p5 d5 hnf a50 (show (aset [(47, V.ref (σ.length + 3)), (48, V.ref (σ.length + 4)), (49, V.ref (σ.length + 5))] 50 (V.ref (σ.length + 6))).length ≤ 100 by simp [aset]), s_expr, exprK_at, s_var, varK_at, s_attr, attrK_at, attrK2_at, s_sub, subK_at, subK2_at, subK3_at, s_ite, iteK_t, iteK_f, s_ret, retK_at, s_ret0, s_pass, runK_some, runK_none, forK_at, turnK_none, turnK_some, whlK_t, whlK_f, tt_not, tt_band, tt_bor, tt_bool, tt_loc, tt_cmp, tt_cmp2, tt_call, tt_meth, tt_isi, tt_attr, tt_sub, tt_bin, tnotF_t, tnotF_f, ta_nil, ta_cons, andF_t, andF_f, to_nil, to_cons, orF_t, orF_f, e_none, e_bool, e_int, e_str, e_loc, e_bin, binF_at, e_not, notF_at, notF2_t, notF2_f, e_band, e_bor, e_cmp, cmpF_at, e_cmp2, cmpG_t, cmpG_f, e_list, listF_at, e_tup, tupF_at, e_dict0, e_attr, attrF_at, e_sub, subF_at, e_call, e_meth, methF_at, e_bi, e_isi, isiF_at, boolF_at, e_comp, es_nil, es_cons, consF_at, consF2_at, ok_bind, bindK_at, bind_pure, bind_lift, ok_pure, ok_lift, List.zip_cons_cons, List.zip_nil_right, List.zip_nil_left, List.foldl_cons, List.foldl_nil, upd_def, Nat.reduceBEq, bif_t, bif_f, if_true, if_false, Bool.false_eq_true, reduceCtorEq, Nat.reduceEqDiff, ne_eq, not_false_eq_true, not_true_eq_false, decide_true, decide_false, Bool.not_true, Bool.not_false]
  -- made
  refine then_step rfl ?_
  have e6 : aset [(47, V.ref (σ.length + 3)), (48, V.ref (σ.length + 4)), (49, V.ref (σ.length + 5))] 50 (V.ref (σ.length + 6)) = [(47, V.ref (σ.length + 3)), (48, V.ref (σ.length + 4)), (49, V.ref (σ.length + 5)), (50, V.ref (σ.length + 6))] := rfl
  rw [e6]
  have d6 : (τ5.put σ.length (.attrs [(47, V.ref (σ.length + 3)), (48, V.ref (σ.length + 4)), (49, V.ref (σ.length + 5)), (50, V.ref (σ.length + 6))])).get σ.length = some (.attrs [(47, V.ref (σ.length + 3)), (48, V.ref (σ.length + 4)), (49, V.ref (σ.length + 5)), (50, V.ref (σ.length + 6))]) := get_put_eq (by lia)
  have p6 : (τ5.put σ.length (.attrs [(47, V.ref (σ.length + 3)), (48, V.ref (σ.length + 4)), (49, V.ref (σ.length + 5)), (50, V.ref (σ.length + 6))])).get (σ.length + 1) = some (.inst 24 σ.length) := by rw [get_put_ne (by lia)]; exact p5
  simp (disch := decide) only [ok_setAttr p6 d6 hnf a51 (show (aset [(47, V.ref (σ.length + 3)), (48, V.ref (σ.length + 4)), (49, V.ref (σ.length + 5)), (50, V.ref (σ.length + 6))] 51 (V.int 0)).length ≤ 100 by simp [aset]), s_expr, exprK_at, s_var, varK_at, s_attr, attrK_at, attrK2_at, s_sub, subK_at, subK2_at, subK3_at, s_ite, iteK_t, iteK_f, s_ret, retK_at, s_ret0, s_pass, runK_some, runK_none, forK_at, turnK_none, turnK_some, whlK_t, whlK_f, tt_not, tt_band, tt_bor, tt_bool, tt_loc, tt_cmp, tt_cmp2, tt_call, tt_meth, tt_isi, tt_attr, tt_sub, tt_bin, tnotF_t, tnotF_f, ta_nil, ta_cons, andF_t, andF_f, to_nil, to_cons, orF_t, orF_f, e_none, e_bool, e_int, e_str, e_loc, e_bin, binF_at, e_not, notF_at, notF2_t, notF2_f, e_band, e_bor, e_cmp, cmpF_at, e_cmp2, cmpG_t, cmpG_f, e_list, listF_at, e_tup, tupF_at, e_dict0, e_attr, attrF_at, e_sub, subF_at, e_call, e_meth, methF_at, e_bi, e_isi, isiF_at, boolF_at, e_comp, es_nil, es_cons, consF_at, consF2_at, ok_bind, bindK_at, bind_pure, bind_lift, ok_pure, ok_lift, List.zip_cons_cons, List.zip_nil_right, List.zip_nil_left, List.foldl_cons, List.foldl_nil, upd_def, Nat.reduceBEq, bif_t, bif_f, if_true, if_false, Bool.false_eq_true, reduceCtorEq, Nat.reduceEqDiff, ne_eq, not_false_eq_true, not_true_eq_false, decide_true, decide_false, Bool.not_true, Bool.not_false]
  simp only [then_none, oks_nil, Option.getD_none]
  refine h _ ?_ ?_ fun a ha => ?_
  · refine ⟨?_, hnf, by lia, ?_, ?_, ?_, ?_, ?_, ?_, fun k sl h => (by cases h), fun k h => (by cases h)⟩
    · simp only [len_put]; lia
    · exact get_put_eq (by rw [len_put]; lia)
    · rw [get_put_ne (by lia), get_put_ne (by lia)]; exact p5
    · rw [get_put_ne (by lia), get_put_ne (by lia)]; exact h5
    · rw [get_put_ne (by lia), get_put_ne (by lia)]; exact b5
    · rw [get_put_ne (by lia), get_put_ne (by lia)]; exact w5
    · rw [get_put_ne (by lia), get_put_ne (by lia)]; exact q5
  · simp only [len_put]; lia
  · rw [get_put_ne (by lia), get_put_ne (by lia)]; exact k5 a ha
end
end Mine

set_option autoImplicit false
set_option linter.unusedSimpArgs false
set_option linter.unusedVariables false
namespace Mine
open PySem (Str PyData)

structure LawP (P : Prog) : Prop where
  f66 : P.funs.lookup 66 = some PP.f__law_whole
  f69 : P.funs.lookup 69 = some PP.f__law_cell_at
  f72 : P.funs.lookup 72 = some PP.f__law_numbers

section
variable {P : Prog} {σ : H}
theorem ok_isi {x : V} {k : Nat} {b : Bool} {Q : Bool → H → Prop} (h : isinsts P x [k] σ = some (.ok b, σ)) : Ok (isinsts P x [k]) σ Q = Q b σ := ok_some h
theorem isi_int {i : Int} : isinsts P (.int i) [0] σ = some (.ok true, σ) := rfl
theorem isi_intb {i : Int} : isinsts P (.int i) [1] σ = some (.ok false, σ) := rfl
theorem isi_list {a : Nat} {xs : List V} (h : σ.get a = some (.list xs)) : isinsts P (.ref a) [2] σ = some (.ok true, σ) := by
  show (if 2 ≤ 4 then isinst P (.ref a) 2 else X.none) σ = _
  rw [if_pos (by decide)]
  unfold isinst; simp [h, idList]
theorem whole_ok (hL : LawP P) {d : Nat} {i : Int} {Q : V → H → Prop} (h : Q (.bool true) σ) : Ok (run P 1000 (d + 1) false 66 [.int i]) σ Q := by
  rw [ok_run (fd := PP.f__law_whole) hL.f66 rfl]
  simp (disch := decide) only [PP.f__law_whole, ea_cons, ea_one, eandF_t, eandF_f, ok_isi isi_int, ok_isi isi_intb, ok_truthb, oks_cons, oks_nil, then_none, then_some, s_expr, exprK_at, s_var, varK_at, s_attr, attrK_at, attrK2_at, s_sub, subK_at, subK2_at, subK3_at, s_ite, iteK_t, iteK_f, s_ret, retK_at, s_ret0, s_pass, runK_some, runK_none, forK_at, turnK_none, turnK_some, whlK_t, whlK_f, tt_not, tt_band, tt_bor, tt_bool, tt_loc, tt_cmp, tt_cmp2, tt_call, tt_meth, tt_isi, tt_attr, tt_sub, tt_bin, tnotF_t, tnotF_f, ta_nil, ta_cons, andF_t, andF_f, to_nil, to_cons, orF_t, orF_f, e_none, e_bool, e_int, e_str, e_loc, e_bin, binF_at, e_not, notF_at, notF2_t, notF2_f, e_band, e_bor, e_cmp, cmpF_at, e_cmp2, cmpG_t, cmpG_f, e_list, listF_at, e_tup, tupF_at, e_dict0, e_attr, attrF_at, e_sub, subF_at, e_call, e_meth, methF_at, e_bi, e_isi, isiF_at, boolF_at, e_comp, es_nil, es_cons, consF_at, consF2_at, ok_bind, bindK_at, bind_pure, bind_lift, ok_pure, ok_lift, List.zip_cons_cons, List.zip_nil_right, List.zip_nil_left, List.foldl_cons, List.foldl_nil, upd_def, Nat.reduceBEq, bif_t, bif_f, if_true, if_false, Bool.false_eq_true, reduceCtorEq, Nat.reduceEqDiff, ne_eq, not_false_eq_true, not_true_eq_false, decide_true, decide_false, Bool.not_true, Bool.not_false]
  exact h
theorem rng_at {n : Int} {j : Nat} {y : V} (h : ((List.range n.toNat).map fun (k : Nat) => V.int (k : Int))[j]? = some y) : (j : Int) < n ∧ y = .int (j : Int) := by
  rw [List.getElem?_map] at h
  obtain ⟨q, hq, rfl⟩ := Option.map_eq_some_iff.mp h
  obtain ⟨q1, q2⟩ := List.getElem?_eq_some_iff.mp hq
  simp at q1 q2
  subst q2
  exact ⟨by lia, rfl⟩
theorem numbers_ok (hL : LawP P) {d a b : Nat} {xs : List V} {Q : V → H → Prop} (ha : σ.get a = some (.list xs)) (hb : σ.get b = some (.list xs)) (hx : ∀ x ∈ xs, x = V.none ∨ ∃ i, x = V.int i) (hl : xs.length ≤ 1000) (h : Q (.bool true) (σ.push (.rng 0 xs.length 1))) :
    Ok (run P 1000 (d + 2) false 72 [.ref a, .ref b]) σ Q := by
  have alt := get_lt ha
  have blt := get_lt hb
  rw [ok_run (fd := PP.f__law_numbers) hL.f72 rfl]
  simp (disch := decide) only [PP.f__law_numbers, ok_isi (isi_list ha), ok_truthb, ok_lenL ha, ok_lenL hb, ok_neI, ok_range1, s_for, oks_cons, oks_nil, then_none, then_some, s_expr, exprK_at, s_var, varK_at, s_attr, attrK_at, attrK2_at, s_sub, subK_at, subK2_at, subK3_at, s_ite, iteK_t, iteK_f, s_ret, retK_at, s_ret0, s_pass, runK_some, runK_none, forK_at, turnK_none, turnK_some, whlK_t, whlK_f, tt_not, tt_band, tt_bor, tt_bool, tt_loc, tt_cmp, tt_cmp2, tt_call, tt_meth, tt_isi, tt_attr, tt_sub, tt_bin, tnotF_t, tnotF_f, ta_nil, ta_cons, andF_t, andF_f, to_nil, to_cons, orF_t, orF_f, e_none, e_bool, e_int, e_str, e_loc, e_bin, binF_at, e_not, notF_at, notF2_t, notF2_f, e_band, e_bor, e_cmp, cmpF_at, e_cmp2, cmpG_t, cmpG_f, e_list, listF_at, e_tup, tupF_at, e_dict0, e_attr, attrF_at, e_sub, subF_at, e_call, e_meth, methF_at, e_bi, e_isi, isiF_at, boolF_at, e_comp, es_nil, es_cons, consF_at, consF2_at, ok_bind, bindK_at, bind_pure, bind_lift, ok_pure, ok_lift, List.zip_cons_cons, List.zip_nil_right, List.zip_nil_left, List.foldl_cons, List.foldl_nil, upd_def, Nat.reduceBEq, bif_t, bif_f, if_true, if_false, Bool.false_eq_true, reduceCtorEq, Nat.reduceEqDiff, ne_eq, not_false_eq_true, not_true_eq_false, decide_true, decide_false, Bool.not_true, Bool.not_false]
  have ha1 : (σ.push (.rng 0 xs.length 1)).get a = some (.list xs) := by rw [get_push_lt alt]; exact ha
  have hb1 : (σ.push (.rng 0 xs.length 1)).get b = some (.list xs) := by rw [get_push_lt blt]; exact hb
  refine ⟨_, it_range get_push_eq (by lia) (by lia), f_inv (fun _ l s => s = σ.push (.rng 0 xs.length 1) ∧ l 67 = some (.ref a) ∧ l 73 = some (.ref b)) ⟨rfl, rfl, rfl⟩ (fun j l s y hy ⟨e, e1, e2⟩ => ?_) fun l s ⟨e, e1, e2⟩ => ?_⟩
  · subst e
    have hj := rng_at hy
    obtain ⟨hj, rfl⟩ := hj
    have hj : j < xs.length := by lia
    have hg : xs[(j : Int).toNat]? = some xs[j] := by simp
    rcases hx xs[j] (List.getElem_mem hj) with hn | ⟨i, hi⟩
    · rw [hn] at hg
      simp (disch := decide) only [e1, e2, ok_getList hb1 (Int.natCast_nonneg j) hg, ok_getList ha1 (Int.natCast_nonneg j) hg, ok_is, ok_isNot, ok_truthb, oks_cons, oks_nil, then_none, then_some, s_expr, exprK_at, s_var, varK_at, s_attr, attrK_at, attrK2_at, s_sub, subK_at, subK2_at, subK3_at, s_ite, iteK_t, iteK_f, s_ret, retK_at, s_ret0, s_pass, runK_some, runK_none, forK_at, turnK_none, turnK_some, whlK_t, whlK_f, tt_not, tt_band, tt_bor, tt_bool, tt_loc, tt_cmp, tt_cmp2, tt_call, tt_meth, tt_isi, tt_attr, tt_sub, tt_bin, tnotF_t, tnotF_f, ta_nil, ta_cons, andF_t, andF_f, to_nil, to_cons, orF_t, orF_f, e_none, e_bool, e_int, e_str, e_loc, e_bin, binF_at, e_not, notF_at, notF2_t, notF2_f, e_band, e_bor, e_cmp, cmpF_at, e_cmp2, cmpG_t, cmpG_f, e_list, listF_at, e_tup, tupF_at, e_dict0, e_attr, attrF_at, e_sub, subF_at, e_call, e_meth, methF_at, e_bi, e_isi, isiF_at, boolF_at, e_comp, es_nil, es_cons, consF_at, consF2_at, ok_bind, bindK_at, bind_pure, bind_lift, ok_pure, ok_lift, List.zip_cons_cons, List.zip_nil_right, List.zip_nil_left, List.foldl_cons, List.foldl_nil, upd_def, Nat.reduceBEq, bif_t, bif_f, if_true, if_false, Bool.false_eq_true, reduceCtorEq, Nat.reduceEqDiff, ne_eq, not_false_eq_true, not_true_eq_false, decide_true, decide_false, Bool.not_true, Bool.not_false]
      exact ⟨trivial, still_get rfl, trivial, trivial, trivial⟩
    · rw [hi] at hg
      simp (disch := decide) only [e1, e2, ok_getList hb1 (Int.natCast_nonneg j) hg, ok_getList ha1 (Int.natCast_nonneg j) hg, ok_is, ok_isNot, ok_truthb, oks_cons, oks_nil, then_none, then_some, s_expr, exprK_at, s_var, varK_at, s_attr, attrK_at, attrK2_at, s_sub, subK_at, subK2_at, subK3_at, s_ite, iteK_t, iteK_f, s_ret, retK_at, s_ret0, s_pass, runK_some, runK_none, forK_at, turnK_none, turnK_some, whlK_t, whlK_f, tt_not, tt_band, tt_bor, tt_bool, tt_loc, tt_cmp, tt_cmp2, tt_call, tt_meth, tt_isi, tt_attr, tt_sub, tt_bin, tnotF_t, tnotF_f, ta_nil, ta_cons, andF_t, andF_f, to_nil, to_cons, orF_t, orF_f, e_none, e_bool, e_int, e_str, e_loc, e_bin, binF_at, e_not, notF_at, notF2_t, notF2_f, e_band, e_bor, e_cmp, cmpF_at, e_cmp2, cmpG_t, cmpG_f, e_list, listF_at, e_tup, tupF_at, e_dict0, e_attr, attrF_at, e_sub, subF_at, e_call, e_meth, methF_at, e_bi, e_isi, isiF_at, boolF_at, e_comp, es_nil, es_cons, consF_at, consF2_at, ok_bind, bindK_at, bind_pure, bind_lift, ok_pure, ok_lift, List.zip_cons_cons, List.zip_nil_right, List.zip_nil_left, List.foldl_cons, List.foldl_nil, upd_def, Nat.reduceBEq, bif_t, bif_f, if_true, if_false, Bool.false_eq_true, reduceCtorEq, Nat.reduceEqDiff, ne_eq, not_false_eq_true, not_true_eq_false, decide_true, decide_false, Bool.not_true, Bool.not_false]
      refine whole_ok hL ?_
      simp (disch := decide) only [e1, e2, ok_getList hb1 (Int.natCast_nonneg j) hg, ok_getList ha1 (Int.natCast_nonneg j) hg, ok_neI, ok_truthb, oks_cons, oks_nil, then_none, then_some, s_expr, exprK_at, s_var, varK_at, s_attr, attrK_at, attrK2_at, s_sub, subK_at, subK2_at, subK3_at, s_ite, iteK_t, iteK_f, s_ret, retK_at, s_ret0, s_pass, runK_some, runK_none, forK_at, turnK_none, turnK_some, whlK_t, whlK_f, tt_not, tt_band, tt_bor, tt_bool, tt_loc, tt_cmp, tt_cmp2, tt_call, tt_meth, tt_isi, tt_attr, tt_sub, tt_bin, tnotF_t, tnotF_f, ta_nil, ta_cons, andF_t, andF_f, to_nil, to_cons, orF_t, orF_f, e_none, e_bool, e_int, e_str, e_loc, e_bin, binF_at, e_not, notF_at, notF2_t, notF2_f, e_band, e_bor, e_cmp, cmpF_at, e_cmp2, cmpG_t, cmpG_f, e_list, listF_at, e_tup, tupF_at, e_dict0, e_attr, attrF_at, e_sub, subF_at, e_call, e_meth, methF_at, e_bi, e_isi, isiF_at, boolF_at, e_comp, es_nil, es_cons, consF_at, consF2_at, ok_bind, bindK_at, bind_pure, bind_lift, ok_pure, ok_lift, List.zip_cons_cons, List.zip_nil_right, List.zip_nil_left, List.foldl_cons, List.foldl_nil, upd_def, Nat.reduceBEq, bif_t, bif_f, if_true, if_false, Bool.false_eq_true, reduceCtorEq, Nat.reduceEqDiff, ne_eq, not_false_eq_true, not_true_eq_false, decide_true, decide_false, Bool.not_true, Bool.not_false]
      exact ⟨trivial, still_get rfl, trivial, trivial, trivial⟩
  · subst e
    simp (disch := decide) only [oks_cons, oks_nil, then_none, then_some, s_expr, exprK_at, s_var, varK_at, s_attr, attrK_at, attrK2_at, s_sub, subK_at, subK2_at, subK3_at, s_ite, iteK_t, iteK_f, s_ret, retK_at, s_ret0, s_pass, runK_some, runK_none, forK_at, turnK_none, turnK_some, whlK_t, whlK_f, tt_not, tt_band, tt_bor, tt_bool, tt_loc, tt_cmp, tt_cmp2, tt_call, tt_meth, tt_isi, tt_attr, tt_sub, tt_bin, tnotF_t, tnotF_f, ta_nil, ta_cons, andF_t, andF_f, to_nil, to_cons, orF_t, orF_f, e_none, e_bool, e_int, e_str, e_loc, e_bin, binF_at, e_not, notF_at, notF2_t, notF2_f, e_band, e_bor, e_cmp, cmpF_at, e_cmp2, cmpG_t, cmpG_f, e_list, listF_at, e_tup, tupF_at, e_dict0, e_attr, attrF_at, e_sub, subF_at, e_call, e_meth, methF_at, e_bi, e_isi, isiF_at, boolF_at, e_comp, es_nil, es_cons, consF_at, consF2_at, ok_bind, bindK_at, bind_pure, bind_lift, ok_pure, ok_lift, List.zip_cons_cons, List.zip_nil_right, List.zip_nil_left, List.foldl_cons, List.foldl_nil, upd_def, Nat.reduceBEq, bif_t, bif_f, if_true, if_false, Bool.false_eq_true, reduceCtorEq, Nat.reduceEqDiff, ne_eq, not_false_eq_true, not_true_eq_false, decide_true, decide_false, Bool.not_true, Bool.not_false]
    exact h
noncomputable def cellAt (ns : List Int) (k : Nat) : Int := (ns[k]?).getD 0
theorem cell_ok (hL : LawP P) {d k : Nat} {ns : List Int} {Q : V → H → Prop} (hz : σ.get 0 = some (.list (ns.map .int))) (h : Q (.int (cellAt ns k)) σ) : Ok (run P 1000 (d + 1) false 69 [.ref 0, .int (k : Int)]) σ Q := by
  rw [ok_run (fd := PP.f__law_cell_at) hL.f69 rfl]
  by_cases hk : k < ns.length
  · have hlt : (k : Int) < ((ns.map V.int).length : Int) := by rw [List.length_map]; lia
    have hg : (ns.map V.int)[((k : Int)).toNat]? = some (.int (cellAt ns k)) := by simp [cellAt, hk]
    simp (disch := decide) only [PP.f__law_cell_at, ok_lenL hz, ok_lt, hlt, ok_truthb, ok_getList hz (Int.natCast_nonneg _) hg, oks_cons, oks_nil, then_none, then_some, s_expr, exprK_at, s_var, varK_at, s_attr, attrK_at, attrK2_at, s_sub, subK_at, subK2_at, subK3_at, s_ite, iteK_t, iteK_f, s_ret, retK_at, s_ret0, s_pass, runK_some, runK_none, forK_at, turnK_none, turnK_some, whlK_t, whlK_f, tt_not, tt_band, tt_bor, tt_bool, tt_loc, tt_cmp, tt_cmp2, tt_call, tt_meth, tt_isi, tt_attr, tt_sub, tt_bin, tnotF_t, tnotF_f, ta_nil, ta_cons, andF_t, andF_f, to_nil, to_cons, orF_t, orF_f, e_none, e_bool, e_int, e_str, e_loc, e_bin, binF_at, e_not, notF_at, notF2_t, notF2_f, e_band, e_bor, e_cmp, cmpF_at, e_cmp2, cmpG_t, cmpG_f, e_list, listF_at, e_tup, tupF_at, e_dict0, e_attr, attrF_at, e_sub, subF_at, e_call, e_meth, methF_at, e_bi, e_isi, isiF_at, boolF_at, e_comp, es_nil, es_cons, consF_at, consF2_at, ok_bind, bindK_at, bind_pure, bind_lift, ok_pure, ok_lift, List.zip_cons_cons, List.zip_nil_right, List.zip_nil_left, List.foldl_cons, List.foldl_nil, upd_def, Nat.reduceBEq, bif_t, bif_f, if_true, if_false, Bool.false_eq_true, reduceCtorEq, Nat.reduceEqDiff, ne_eq, not_false_eq_true, not_true_eq_false, decide_true, decide_false, Bool.not_true, Bool.not_false]
    exact h
  · have hlt : ¬ ((k : Int) < ((ns.map V.int).length : Int)) := by rw [List.length_map]; lia
    have hg : cellAt ns k = 0 := by unfold cellAt; rw [List.getElem?_eq_none (by lia)]; rfl
    rw [hg] at h
    simp (disch := decide) only [PP.f__law_cell_at, ok_lenL hz, ok_lt, hlt, ok_truthb, oks_cons, oks_nil, then_none, then_some, s_expr, exprK_at, s_var, varK_at, s_attr, attrK_at, attrK2_at, s_sub, subK_at, subK2_at, subK3_at, s_ite, iteK_t, iteK_f, s_ret, retK_at, s_ret0, s_pass, runK_some, runK_none, forK_at, turnK_none, turnK_some, whlK_t, whlK_f, tt_not, tt_band, tt_bor, tt_bool, tt_loc, tt_cmp, tt_cmp2, tt_call, tt_meth, tt_isi, tt_attr, tt_sub, tt_bin, tnotF_t, tnotF_f, ta_nil, ta_cons, andF_t, andF_f, to_nil, to_cons, orF_t, orF_f, e_none, e_bool, e_int, e_str, e_loc, e_bin, binF_at, e_not, notF_at, notF2_t, notF2_f, e_band, e_bor, e_cmp, cmpF_at, e_cmp2, cmpG_t, cmpG_f, e_list, listF_at, e_tup, tupF_at, e_dict0, e_attr, attrF_at, e_sub, subF_at, e_call, e_meth, methF_at, e_bi, e_isi, isiF_at, boolF_at, e_comp, es_nil, es_cons, consF_at, consF2_at, ok_bind, bindK_at, bind_pure, bind_lift, ok_pure, ok_lift, List.zip_cons_cons, List.zip_nil_right, List.zip_nil_left, List.foldl_cons, List.foldl_nil, upd_def, Nat.reduceBEq, bif_t, bif_f, if_true, if_false, Bool.false_eq_true, reduceCtorEq, Nat.reduceEqDiff, ne_eq, not_false_eq_true, not_true_eq_false, decide_true, decide_false, Bool.not_true, Bool.not_false]
    exact h
theorem data_ints {h : H} {n : Nat} : ∀ {ns : List Int}, optAll (dataOf h (n + 1)) (ns.map V.int) = some (ns.map PyData.int)
  | [] => rfl
  | i :: r => by
    have ih := data_ints (h := h) (n := n) (ns := r)
    have e : dataOf h (n + 1) (V.int i) = some (.int i) := rfl
    simp only [List.map_cons, optAll, ih, e]
theorem any_ints {ns : List Int} {i : Int} : (ns.map PyData.int).any (fun y => PyData.eqv y (.int i)) = decide (i ∈ ns) := by
  induction ns with
  | nil => rfl
  | cons a r ih => 
    simp only [List.map_cons, List.any_cons, ih]
    by_cases e : a = i
    · subst e; simp [eqv_int]
    · simp [eqv_int, e, Ne.symm e]
theorem ok_notInL {a : Nat} {ns : List Int} {i : Int} {Q : V → H → Prop} (h1 : σ.get a = some (.list (ns.map .int))) : Ok (cmpop P .NotIn (.int i) (.ref a)) σ Q = Q (.bool (!decide (i ∈ ns))) σ := ok_some (by
  have e : dataOf σ 5 (V.int i) = some (.int i) := rfl
  unfold cmpop contains X.bind inList
  simp only [h1, data_ints, e, any_ints, Option.map_some, X.pure])
theorem ok_mod {a b : Int} {Q : V → H → Prop} (h : b ≠ 0) : Ok (binop .Mod (.int a) (.int b)) σ Q = Q (.int (Int.fmod a b)) σ := ok_some (by simp [binop, twoInts, onInt, h])
theorem ok_div {a b : Int} {Q : V → H → Prop} (h : b ≠ 0) (hs : small b = true) : Ok (binop .FloorDiv (.int a) (.int b)) σ Q = Q (.int (Int.fdiv a b)) σ := ok_some (by simp [binop, twoInts, onInt, h, hs])
theorem ok_mul {a b : Int} {Q : V → H → Prop} (hs : small a = true ∨ small b = true) : Ok (binop .Mult (.int a) (.int b)) σ Q = Q (.int (a * b)) σ := ok_some (by
  show (if (small a || small b) = true then _ else _) = _; rw [if_pos (by rcases hs with h | h <;> simp [h])])
theorem fmod_range {a b : Int} (h : 0 < b) : 0 ≤ Int.fmod a b ∧ Int.fmod a b < b := ⟨Int.fmod_nonneg_of_pos _ h, Int.fmod_lt_of_pos _ h⟩
theorem fmod_nat {a b : Int} (h : 0 < b) : ∃ k : Nat, Int.fmod a b = (k : Int) ∧ (k : Int) < b := by
  obtain ⟨h1, h2⟩ := fmod_range (a := a) h
  exact ⟨(Int.fmod a b).toNat, by lia, by lia⟩
end

/- sorting -/
theorem insertI_le {x : Int} : ∀ {l : List Int}, (∀ y ∈ l, x ≤ y) → insertI x l = x :: l
  | [], _ => rfl
  | a :: r, h => by unfold insertI; rw [if_pos (h a (.head _))]
theorem sortI_id : ∀ {l : List Int}, l.Pairwise (· ≤ ·) → sortI l = l
  | [], _ => rfl
  | a :: r, h => by
    have h' := List.pairwise_cons.mp h
    unfold sortI
    rw [sortI_id h'.2, insertI_le h'.1]
end Mine

set_option autoImplicit false
set_option linter.unusedSimpArgs false
set_option linter.unusedVariables false
namespace Mine
open PySem (Str PyData)

/- deeds that free nothing -/
section
variable {s : PS}
theorem fall_nil (b : Nat) (s : PS) : fallS b s [] = (s, []) := by cases b <;> rfl
theorem letgo_quiet {x : Option Nat} (h : ∀ k, x = some k → 1 < wt s k) : letgoS s x = ((lightS s x).1, []) := by
  unfold letgoS
  have : (lightS s x).2 = [] := by
    cases x with
    | none => rfl
    | some k => simp only [lightS, h k rfl, if_true]
  rw [this, fall_nil]
theorem handed_quiet {h : Nat} {x : Option Nat} (hq : ∀ k, handOf s h = some k → 1 < wt s k ∨ (x = some k ∧ 0 < wt s k)) :
    (handedS s h x).2 = [] ∧ (handedS s h x).1.boxes = s.boxes ∧ (handedS s h x).1.hands = s.hands.set h x ∧ (handedS s h x).1.made = s.made := by
  have e : handedS s h x = ((lightS { countS s x with hands := s.hands.set h x } (handOf s h)).1, []) := by
    refine letgo_quiet fun k hk => ?_
    show 1 < wt (countS s x) k
    rw [wt_count]
    rcases hq k hk with h | ⟨h, h'⟩
    · lia
    · rw [if_pos h]; lia
  rw [e]
  refine ⟨rfl, ?_, ?_, ?_⟩
  · rw [light_boxes.1]; exact count_boxes.1
  · rw [light_boxes.2.1]
  · rw [light_boxes.2.2]; exact count_boxes.2.2.2
theorem make_quiet {h size : Nat} (hq : handOf s h = none) :
    (makeS s h size).2 = [] ∧ (makeS s h size).1.boxes = s.boxes ++ [(s.made, List.replicate size none)] ∧ (makeS s h size).1.hands = s.hands.set h (some s.made) ∧ (makeS s h size).1.made = s.made + 1 :=
  handed_quiet (s := bornS s size) (fun k hk => by rw [show handOf (bornS s size) h = handOf s h from rfl, hq] at hk; cases hk)
theorem pointed_quiet {b i : Nat} {x : Option Nat} (hq : ∀ k, slotOf s b i = some k → 1 < wt s k ∨ (x = some k ∧ 0 < wt s k)) :
    (pointedS s b i x).2 = [] ∧ (pointedS s b i x).1.boxes = aSet s.boxes b ((slotsOf s b).set i x) ∧ (pointedS s b i x).1.hands = s.hands ∧ (pointedS s b i x).1.made = s.made := by
  have e : pointedS s b i x = ((lightS { countS s x with boxes := aSet s.boxes b ((slotsOf s b).set i x) } (slotOf s b i)).1, []) := by
    refine letgo_quiet fun k hk => ?_
    show 1 < wt (countS s x) k
    rw [wt_count]
    rcases hq k hk with h | ⟨h, h'⟩
    · lia
    · rw [if_pos h]; lia
  rw [e]
  refine ⟨rfl, ?_, ?_, ?_⟩
  · rw [light_boxes.1]
  · rw [light_boxes.2.1]; exact count_boxes.2.1
  · rw [light_boxes.2.2]; exact count_boxes.2.2.2
theorem handed_good {h : Nat} {x : Option Nat} (I : PGood s [] []) (h8 : h < 8) (hx : ∀ k, x = some k → k ∈ keys s.boxes) : PGood (handedS s h x).1 [] [] := letgo_inv (handed_inv I h8 hx)
theorem make_good {h size : Nat} (I : PGood s [] []) (h8 : h < 8) (hz : size ≤ 6) : PGood (makeS s h size).1 [] [] := letgo_inv (born_inv I h8 hz)
theorem pointed_good {b i : Nat} {x : Option Nat} {xs : List (Option Nat)} (I : PGood s [] []) (hb : aGet s.boxes b = some xs) (hi : i < xs.length) (hx : ∀ k, x = some k → k ∈ keys s.boxes) : PGood (pointedS s b i x).1 [] [] := letgo_inv (pointed_inv I hb hi hx)
theorem two_ptrs {i b k : Nat} {xs : List (Option Nat)} (I : PGood s [] []) (h : s.hands[i]? = some (some k)) (hb : aGet s.boxes b = some xs) (hk : some k ∈ xs) : 1 < wt s k := by
  rw [I.ct k]
  simp only [ptrs, List.append_nil, List.count_append]
  have h1 : 0 < s.hands.count (some k) := List.count_pos_iff.mpr (List.mem_of_getElem? h)
  have h2 : 0 < (s.boxes.flatMap (·.2)).count (some k) := List.count_pos_iff.mpr (List.mem_flatMap.mpr ⟨_, aGet_some_mem hb, hk⟩)
  lia
end

noncomputable def mkB : Nat → List (List (Option Nat)) → List (Nat × List (Option Nat))
  | _, [] => []
  | k, x :: r => (k, x) :: mkB (k + 1) r
theorem mkB_keys : ∀ (L : List (List (Option Nat))) (k : Nat), keys (mkB k L) = List.range' k L.length
  | [], k => rfl
  | x :: r, k => by
    show k :: keys (mkB (k + 1) r) = _
    rw [mkB_keys r (k + 1)]; rfl
theorem mkB_len : ∀ (L : List (List (Option Nat))) (k : Nat), (mkB k L).length = L.length
  | [], k => rfl
  | x :: r, k => by simp [mkB, mkB_len r]
theorem mkB_get : ∀ (L : List (List (Option Nat))) (k i : Nat), aGet (mkB k L) (k + i) = L[i]?
  | [], k, i => rfl
  | x :: r, k, 0 => by simp [mkB, aGet]
  | x :: r, k, i + 1 => by
    have := mkB_get r (k + 1) i
    unfold mkB aGet
    rw [if_neg (by lia)]
    rw [show k + (i + 1) = k + 1 + i by lia, this]; simp
theorem mkB_set : ∀ (L : List (List (Option Nat))) (k i : Nat) (x : List (Option Nat)), i < L.length → aSet (mkB k L) (k + i) x = mkB k (L.set i x)
  | [], k, i, x, h => by simp at h
  | y :: r, k, 0, x, h => by simp [mkB, aSet]
  | y :: r, k, i + 1, x, h => by
    have := mkB_set r (k + 1) i x (by simpa using h)
    unfold mkB aSet
    rw [if_neg (by lia)]
    rw [show k + (i + 1) = k + 1 + i by lia, this]; rfl
theorem mkB_push : ∀ (L : List (List (Option Nat))) (k : Nat) (x : List (Option Nat)), mkB k L ++ [(k + L.length, x)] = mkB k (L ++ [x])
  | [], k, x => rfl
  | y :: r, k, x => by
    have := mkB_push r (k + 1) x
    show (k, y) :: (mkB (k + 1) r ++ [(k + (r.length + 1), x)]) = (k, y) :: mkB (k + 1) (r ++ [x])
    rw [← this, show k + (r.length + 1) = k + 1 + r.length by lia]
theorem mkB_flat : ∀ (L : List (List (Option Nat))) (k : Nat), (mkB k L).flatMap (·.2) = L.flatten
  | [], k => rfl
  | x :: r, k => by simp [mkB, mkB_flat r]

/- what a fall leaves -/
theorem aDel_filter {β : Type} {k : Nat} : ∀ {l : List (Nat × β)}, (keys l).Nodup → aDel l k = l.filter (fun p => !decide (p.1 = k))
  | [], _ => rfl
  | (a, b) :: r, nd => by
    simp only [keys, List.map_cons, List.nodup_cons] at nd
    unfold aDel
    by_cases e : a = k
    · subst e
      rw [if_pos rfl, List.filter_cons]
      simp only [decide_true, Bool.not_true, Bool.false_eq_true, if_false]
      refine (List.filter_eq_self.mpr fun p hp => ?_).symm
      simp only [Bool.not_eq_true', decide_eq_false_iff_not]
      intro e; exact nd.1 (e ▸ List.mem_map.mpr ⟨p, hp, rfl⟩)
    · rw [if_neg e, List.filter_cons]
      simp only [e, decide_false, Bool.not_false, if_true]
      rw [aDel_filter nd.2]
theorem fall_boxes : ∀ (b : Nat) (s : PS) (left : List Nat), s.boxes.length ≤ b → PGood s [] left → (fallS b s left).1.boxes = s.boxes.filter (fun p => !decide (p.1 ∈ (fallS b s left).2))
  | 0, s, left, hb, I => by
    have hz : s.boxes = [] := List.length_eq_zero_iff.mp (by lia)
    show s.boxes = _
    rw [hz]; rfl
  | b + 1, s, [], hb, I => by
    show s.boxes = s.boxes.filter (fun p => !decide (p.1 ∈ ([] : List Nat)))
    exact (List.filter_eq_self.mpr (fun p _ => by simp)).symm
  | b + 1, s, k :: rest, hb, I => by
    have hk := I.left_key
    have pl := pop_len hk
    have hbx : (lightAll (popS s k) (slotsOf s k)).1.boxes = aDel s.boxes k := (lightAll_boxes _ _).1
    have ih := fall_boxes b (lightAll (popS s k) (slotsOf s k)).1 (rest ++ (lightAll (popS s k) (slotsOf s k)).2) (by rw [hbx]; have : (popS s k).boxes = aDel s.boxes k := rfl; rw [this] at pl; lia) (step_inv I)
    show (fallS b _ _).1.boxes = s.boxes.filter (fun p => !decide (p.1 ∈ k :: (fallS b _ _).2))
    rw [ih, hbx, aDel_filter I.nd, List.filter_filter]
    refine List.filter_congr fun p _ => ?_
    simp only [List.mem_cons]
    by_cases e : p.1 = k <;> simp [e]
theorem letgo_boxes {s : PS} {x : Option Nat} (I : PGood s [x] []) : (letgoS s x).1.boxes = s.boxes.filter (fun p => !decide (p.1 ∈ (letgoS s x).2)) := by
  have := fall_boxes s.boxes.length (lightS s x).1 (lightS s x).2 (by rw [light_boxes.1]; exact Nat.le_refl _) (by simpa using light_inv I)
  rw [light_boxes.1] at this
  exact this
theorem fall_len : ∀ (b : Nat) (s : PS) (left : List Nat), s.boxes.length ≤ b → PGood s [] left → (fallS b s left).2.length ≤ s.boxes.length
  | 0, s, left, hb, I => by have := I.llen; exact this
  | b + 1, s, [], hb, I => by simp [fallS]
  | b + 1, s, k :: rest, hb, I => by
    have hk := I.left_key
    have pl := pop_len hk
    have hbx : (lightAll (popS s k) (slotsOf s k)).1.boxes = (popS s k).boxes := (lightAll_boxes _ _).1
    have ih := fall_len b (lightAll (popS s k) (slotsOf s k)).1 (rest ++ (lightAll (popS s k) (slotsOf s k)).2) (by rw [hbx]; lia) (step_inv I)
    rw [hbx] at ih
    show (k :: (fallS b _ _).2).length ≤ _
    simp only [List.length_cons]; lia
theorem letgo_freed_len {s : PS} {x : Option Nat} (I : PGood s [x] []) : (letgoS s x).2.length ≤ s.boxes.length := by
  have := fall_len s.boxes.length (lightS s x).1 (lightS s x).2 (by rw [light_boxes.1]; exact Nat.le_refl _) (by simpa using light_inv I)
  rwa [light_boxes.1] at this
end Mine

set_option autoImplicit false
namespace Mine.L04
open PySem Mine
noncomputable def f__wall : FD := ⟨[14],
  (.cons (.whl (.cbool true)
    (.cons .pass
    .nil))
  .nil)⟩
noncomputable def f__law_built_3 : Sts := .cons (.ret (.meth (.loc 75) 41 (.cons (.cint 3) .nil))) .nil
noncomputable def f__law_built_2f_12a_1 : Sts := .cons (.expr (.meth (.loc 75) 35 (.cons (.cint 3) (.cons (.cint 1) .nil)))) .nil
noncomputable def f__law_built_2f_12 : Sts := .cons (.ite (.band (.cons (.cmp .Eq (.loc 71) (.loc 183)) (.cons (.cmp .Eq (.bin .Mod (.bin .FloorDiv (.call 69 (.cons (.loc 70) (.cons (.cint 1) .nil))) (.loc 90)) (.cint 2)) (.cint 1)) .nil))) f__law_built_2f_12a_1 .nil) .nil
noncomputable def f__law_built_2f_11 : Sts := .cons (.asg (.sub (.loc 89) (.cint 0)) (.loc 184)) f__law_built_2f_12
noncomputable def f__law_built_2f_10 : Sts := .cons (.expr (.meth (.loc 75) 36 (.cons (.cint 0) .nil))) f__law_built_2f_11
noncomputable def f__law_built_2f_9 : Sts := .cons (.expr (.meth (.loc 75) 35 (.cons (.cint 1) (.cons (.cint 0) .nil)))) f__law_built_2f_10
noncomputable def f__law_built_2f_8f_2a_1a_2 : Sts := .cons (.expr (.meth (.loc 75) 37 (.cons (.cint 0) (.cons (.loc 96) (.cons (.cint 1) .nil))))) .nil
noncomputable def f__law_built_2f_8f_2a_1a_1 : Sts := .cons (.asg (.sub (.loc 91) (.loc 96)) (.sub (.loc 89) (.cint 0))) f__law_built_2f_8f_2a_1a_2
noncomputable def f__law_built_2f_8f_2a_1b_5 : Sts := .cons (.expr (.meth (.loc 75) 36 (.cons (.cint 2) .nil))) .nil
noncomputable def f__law_built_2f_8f_2a_1b_4 : Sts := .cons (.expr (.meth (.loc 75) 37 (.cons (.cint 0) (.cons (.loc 96) (.cons (.cint 2) .nil))))) f__law_built_2f_8f_2a_1b_5
noncomputable def f__law_built_2f_8f_2a_1b_3 : Sts := .cons (.expr (.meth (.loc 75) 34 (.cons (.cint 2) (.cons (.cint 0) .nil)))) f__law_built_2f_8f_2a_1b_4
noncomputable def f__law_built_2f_8f_2a_1b_2 : Sts := .cons (.expr (.meth (.loc 89) 6 (.cons (.list .nil) .nil))) f__law_built_2f_8f_2a_1b_3
noncomputable def f__law_built_2f_8f_2a_1b_1 : Sts := .cons (.asg (.sub (.loc 91) (.loc 96)) (.bi .len (.cons (.loc 89) .nil))) f__law_built_2f_8f_2a_1b_2
noncomputable def f__law_built_2f_8f_2a_1 : Sts := .cons (.ite (.band (.cons (.cmp .Gt (.loc 71) (.cint 0)) (.cons (.cmp .Eq (.bin .Mod (.bin .FloorDiv (.loc 94) (.cint 648)) (.cint 3)) (.loc 162)) .nil))) f__law_built_2f_8f_2a_1a_1 f__law_built_2f_8f_2a_1b_1) .nil
noncomputable def f__law_built_2f_8f_2 : Sts := .cons (.ite (.band (.cons (.cmp .Lt (.loc 96) (.loc 80)) (.cons (.cmp .Is (.sub (.loc 91) (.loc 96)) .cnone) .nil))) f__law_built_2f_8f_2a_1 .nil) .nil
noncomputable def f__law_built_2f_8f_1 : Sts := .cons (.asg (.var 96) (.bin .Add (.bin .Mod (.bin .FloorDiv (.loc 94) (.cint 108)) (.cint 6)) (.bin .Mult (.cint 2) (.loc 162)))) f__law_built_2f_8f_2
noncomputable def f__law_built_2f_8 : Sts := .cons (.for [162] false (.bi .range (.cons (.bin .Mod (.bin .FloorDiv (.loc 94) (.cint 36)) (.cint 3)) .nil)) f__law_built_2f_8f_1) f__law_built_2f_9
noncomputable def f__law_built_2f_7a_2 : Sts := .cons (.expr (.meth (.loc 75) 37 (.cons (.cint 0) (.cons (.bin .Mod (.bin .FloorDiv (.loc 94) (.cint 6)) (.loc 80)) (.cons (.cint 1) .nil))))) .nil
noncomputable def f__law_built_2f_7a_1 : Sts := .cons (.asg (.sub (.loc 91) (.bin .Mod (.bin .FloorDiv (.loc 94) (.cint 6)) (.loc 80))) (.sub (.loc 89) (.cint 0))) f__law_built_2f_7a_2
noncomputable def f__law_built_2f_7 : Sts := .cons (.ite (.cmp .Gt (.loc 71) (.cint 0)) f__law_built_2f_7a_1 .nil) f__law_built_2f_8
noncomputable def f__law_built_2f_6 : Sts := .cons (.expr (.meth (.loc 75) 34 (.cons (.cint 0) (.cons (.loc 80) .nil)))) f__law_built_2f_7
noncomputable def f__law_built_2f_5 : Sts := .cons (.expr (.meth (.loc 89) 6 (.cons (.loc 91) .nil))) f__law_built_2f_6
noncomputable def f__law_built_2f_4 : Sts := .cons (.asg (.var 91) (.comp .cnone [96] false (.bi .range (.cons (.loc 80) .nil)) .nil)) f__law_built_2f_5
noncomputable def f__law_built_2f_3 : Sts := .cons (.asg (.var 184) (.bi .len (.cons (.loc 89) .nil))) f__law_built_2f_4
noncomputable def f__law_built_2f_2 : Sts := .cons (.asg (.var 80) (.bin .Add (.cint 1) (.bin .Mod (.loc 94) (.cint 6)))) f__law_built_2f_3
noncomputable def f__law_built_2f_1 : Sts := .cons (.asg (.var 94) (.call 69 (.cons (.loc 70) (.cons (.bin .Add (.cint 2) (.loc 71)) .nil)))) f__law_built_2f_2
noncomputable def f__law_built_2 : Sts := .cons (.for [71] false (.bi .range (.cons (.loc 90) .nil)) f__law_built_2f_1) f__law_built_3
noncomputable def f__law_built_1 : Sts := .cons (.asg (.var 183) (.bin .Mod (.call 69 (.cons (.loc 70) (.cons (.cint 1) .nil))) (.loc 90))) f__law_built_2
noncomputable def f__law_built : FD := ⟨[75, 70, 89, 90], f__law_built_1⟩
noncomputable def f__law_weights_3 : Sts := .cons (.ret (.loc 186)) .nil
noncomputable def f__law_weights_2f_1f_1a_1 : Sts := .cons (.asg (.sub (.loc 186) (.loc 92)) (.bin .Add (.sub (.loc 186) (.loc 92)) (.cint 1))) .nil
noncomputable def f__law_weights_2f_1f_1 : Sts := .cons (.ite (.cmp .IsNot (.loc 92) .cnone) f__law_weights_2f_1f_1a_1 .nil) .nil
noncomputable def f__law_weights_2f_1 : Sts := .cons (.for [92] false (.loc 91) f__law_weights_2f_1f_1) .nil
noncomputable def f__law_weights_2 : Sts := .cons (.for [91] false (.loc 89) f__law_weights_2f_1) f__law_weights_3
noncomputable def f__law_weights_1 : Sts := .cons (.asg (.var 186) (.comp (.cint 0) [91] false (.loc 89) .nil)) f__law_weights_2
noncomputable def f__law_weights : FD := ⟨[89], f__law_weights_1⟩
noncomputable def f__law_fallen_5 : Sts := .cons (.ret (.loc 165)) .nil
noncomputable def f__law_fallen_4w_3f_1a_2a_2 : Sts := .cons (.expr (.meth (.loc 188) 6 (.cons (.sub (.loc 89) (.loc 92)) .nil))) .nil
noncomputable def f__law_fallen_4w_3f_1a_2a_1 : Sts := .cons (.expr (.meth (.loc 165) 6 (.cons (.loc 92) .nil))) f__law_fallen_4w_3f_1a_2a_2
noncomputable def f__law_fallen_4w_3f_1a_2 : Sts := .cons (.ite (.cmp .Eq (.sub (.loc 186) (.loc 92)) (.cint 0)) f__law_fallen_4w_3f_1a_2a_1 .nil) .nil
noncomputable def f__law_fallen_4w_3f_1a_1 : Sts := .cons (.asg (.sub (.loc 186) (.loc 92)) (.bin .Sub (.sub (.loc 186) (.loc 92)) (.cint 1))) f__law_fallen_4w_3f_1a_2
noncomputable def f__law_fallen_4w_3f_1 : Sts := .cons (.ite (.cmp .IsNot (.loc 92) .cnone) f__law_fallen_4w_3f_1a_1 .nil) .nil
noncomputable def f__law_fallen_4w_3 : Sts := .cons (.for [92] false (.loc 91) f__law_fallen_4w_3f_1) .nil
noncomputable def f__law_fallen_4w_2 : Sts := .cons (.asg (.var 167) (.bin .Add (.loc 167) (.cint 1))) f__law_fallen_4w_3
noncomputable def f__law_fallen_4w_1 : Sts := .cons (.asg (.var 91) (.sub (.loc 188) (.loc 167))) f__law_fallen_4w_2
noncomputable def f__law_fallen_4 : Sts := .cons (.whl (.cmp .Lt (.loc 167) (.bi .len (.cons (.loc 188) .nil))) f__law_fallen_4w_1) f__law_fallen_5
noncomputable def f__law_fallen_3 : Sts := .cons (.asg (.var 167) (.cint 0)) f__law_fallen_4
noncomputable def f__law_fallen_2 : Sts := .cons (.asg (.var 188) (.list (.cons (.list (.cons (.loc 139) .nil)) .nil))) f__law_fallen_3
noncomputable def f__law_fallen_1 : Sts := .cons (.asg (.var 165) (.list .nil)) f__law_fallen_2
noncomputable def f__law_fallen : FD := ⟨[89, 186, 139], f__law_fallen_1⟩
noncomputable def f_law_17 : Sts := .cons (.ret (.cbool true)) .nil
noncomputable def f_law_16f_1a_1 : Sts := .cons (.ret (.cbool false)) .nil
noncomputable def f_law_16f_1 : Sts := .cons (.ite (.bor (.cons (.cmp .NotEq (.meth (.loc 75) 43 (.cons (.loc 78) .nil)) (.sub (.loc 186) (.loc 78))) (.cons (.not (.call 72 (.cons (.meth (.loc 75) 42 (.cons (.loc 78) .nil)) (.cons (.sub (.loc 89) (.loc 78)) .nil)))) .nil))) f_law_16f_1a_1 .nil) .nil
noncomputable def f_law_16 : Sts := .cons (.for [78] false (.loc 149) f_law_16f_1) f_law_17
noncomputable def f_law_15a_1 : Sts := .cons (.ret (.cbool false)) .nil
noncomputable def f_law_15 : Sts := .cons (.ite (.not (.call 72 (.cons (.meth (.loc 75) 44 .nil) (.cons (.loc 149) .nil)))) f_law_15a_1 .nil) f_law_16
noncomputable def f_law_14 : Sts := .cons (.asg (.var 149) (.comp (.loc 78) [78] false (.bi .range (.cons (.cint 1) (.cons (.bi .len (.cons (.loc 89) .nil)) .nil))) (.cons (.cmp .NotIn (.loc 78) (.loc 73)) .nil))) f_law_15
noncomputable def f_law_13a_1 : Sts := .cons (.ret (.cbool false)) .nil
noncomputable def f_law_13 : Sts := .cons (.ite (.not (.call 72 (.cons (.meth (.loc 75) 36 (.cons (.cint 1) .nil)) (.cons (.loc 73) .nil)))) f_law_13a_1 .nil) f_law_14
noncomputable def f_law_12 : Sts := .cons (.asg (.var 73) (.call 187 (.cons (.loc 89) (.cons (.loc 186) (.cons (.loc 189) .nil))))) f_law_13
noncomputable def f_law_11a_2 : Sts := .cons (.asg (.sub (.loc 186) (.loc 178)) (.bin .Add (.sub (.loc 186) (.loc 178)) (.cint 1))) .nil
noncomputable def f_law_11a_1a_1 : Sts := .cons (.ret (.cbool false)) .nil
noncomputable def f_law_11a_1 : Sts := .cons (.ite (.not (.call 66 (.cons (.loc 178) .nil))) f_law_11a_1a_1 .nil) f_law_11a_2
noncomputable def f_law_11 : Sts := .cons (.ite (.cmp .IsNot (.loc 178) .cnone) f_law_11a_1 .nil) f_law_12
noncomputable def f_law_10 : Sts := .cons (.asg (.sub (.loc 186) (.loc 189)) (.bin .Add (.sub (.loc 186) (.loc 189)) (.cint 1))) f_law_11
noncomputable def f_law_9 : Sts := .cons (.asg (.var 186) (.call 185 (.cons (.loc 89) .nil))) f_law_10
noncomputable def f_law_8 : Sts := .cons (.asg (.sub (.loc 89) (.cint 0)) (.list .nil)) f_law_9
noncomputable def f_law_7 : Sts := .cons (.asg (.var 189) (.sub (.loc 89) (.cint 0))) f_law_8
noncomputable def f_law_6 : Sts := .cons (.asg (.var 178) (.call 182 (.cons (.loc 75) (.cons (.loc 70) (.cons (.loc 89) (.cons (.loc 90) .nil)))))) f_law_7
noncomputable def f_law_5 : Sts := .cons (.expr (.meth (.loc 75) 36 (.cons (.cint 0) .nil))) f_law_6
noncomputable def f_law_4 : Sts := .cons (.expr (.meth (.loc 75) 34 (.cons (.cint 0) (.cons (.cint 0) .nil)))) f_law_5
noncomputable def f_law_3 : Sts := .cons (.asg (.var 89) (.list (.cons .cnone .nil))) f_law_4
noncomputable def f_law_2 : Sts := .cons (.asg (.var 90) (.bin .Add (.cint 1) (.bin .Mod (.call 69 (.cons (.loc 70) (.cons (.cint 0) .nil))) (.cint 18)))) f_law_3
noncomputable def f_law_1 : Sts := .cons (.asg (.var 75) (.new 24)) f_law_2
noncomputable def f_law : FD := ⟨[70], f_law_1⟩
noncomputable def m_empty : FD := ⟨[46, 52, 54],
  (.cons (.expr (.call 13 (.cons (.cint 0) .nil)))
  .nil)⟩
noncomputable def m_take : FD := ⟨[46, 52, 60, 54],
  (.cons (.expr (.call 13 (.cons (.cint 1) .nil)))
  .nil)⟩
noncomputable def m_swept : FD := ⟨[46, 61],
  (.cons (.expr (.call 13 (.cons (.cint 2) .nil)))
  .nil)⟩
noncomputable def prog : Prog := { funs := [(13, f__wall), (66, PP.f__law_whole), (69, PP.f__law_cell_at), (72, PP.f__law_numbers), (182, f__law_built), (185, f__law_weights), (187, f__law_fallen), (74, f_law)], meths := [(25, PP.m___init__), (26, PP.m_need_hand), (27, PP.m_need_box), (28, PP.m_box_with_slot), (29, PP.m_counted), (30, PP.m_let_go), (31, PP.m_lighter), (32, PP.m_handed), (33, PP.m_pointed), (34, PP.m_make), (35, PP.m_hold), (36, PP.m_drop), (37, PP.m_put), (38, m_empty), (39, m_take), (40, m_swept), (41, PP.m_holds), (42, PP.m_points), (43, PP.m_weighs), (44, PP.m_alive), (45, PP.m_suspects)], globs := [(21, .int 8), (22, .int 6), (23, .int 60)], tabs := [], excs := [(16, [16, 5]), (17, [17, 16, 5]), (18, [18, 16, 5]), (19, [19, 16, 5]), (20, [20, 16, 5]), (85, [85, 16, 5])], init := 25, attrs := [47, 48, 49, 50, 51], xc := false, nf := 1 }
noncomputable def T04 : List Str := [Str.ofString "int", Str.ofString "bool", Str.ofString "list", Str.ofString "tuple", Str.ofString "str", Str.ofString "ValueError", Str.ofString "append", Str.ofString "pop", Str.ofString "clear", Str.ofString "remove", Str.ofString "split", Str.ofString "join", Str.ofString "replace", Str.ofString "_wall", Str.ofString "k", Str.ofString "__name__", Str.ofString "PileError", Str.ofString "NoHand", Str.ofString "NoSize", Str.ofString "Full", Str.ofString "NoBox", Str.ofString "HANDS", Str.ofString "MOST_SLOTS", Str.ofString "MOST_ALIVE", Str.ofString "Pile", Str.ofString "__init__", Str.ofString "need_hand", Str.ofString "need_box", Str.ofString "box_with_slot", Str.ofString "counted", Str.ofString "let_go", Str.ofString "lighter", Str.ofString "handed", Str.ofString "pointed", Str.ofString "make", Str.ofString "hold", Str.ofString "drop", Str.ofString "put", Str.ofString "empty", Str.ofString "take", Str.ofString "swept", Str.ofString "holds", Str.ofString "points", Str.ofString "weighs", Str.ofString "alive", Str.ofString "suspects", Str.ofString "self", Str.ofString "in_hands", Str.ofString "boxes", Str.ofString "weights", Str.ofString "doubted", Str.ofString "made", Str.ofString "hand", Str.ofString "number", Str.ofString "slot", Str.ofString "freed", Str.ofString "at", Str.ofString "old", Str.ofString "box", Str.ofString "size", Str.ofString "other", Str.ofString "numbers", Str.ofString "slots", Str.ofString "sorted", Str.ofString "len", Str.ofString "range", Str.ofString "_law_whole", Str.ofString "_law_found", Str.ofString "isinstance", Str.ofString "_law_cell_at", Str.ofString "_law_script", Str.ofString "_law_k", Str.ofString "_law_numbers", Str.ofString "_law_due", Str.ofString "law", Str.ofString "_law_pile", Str.ofString "_law_hands", Str.ofString "_law_begin", Str.ofString "_law_number", Str.ofString "_law_hand", Str.ofString "_law_size", Str.ofString "_law_freed", Str.ofString "min", Str.ofString "_law_one", Str.ofString "_law_held", Str.ofString "NoSlot", Str.ofString "_law_done", Str.ofString "_law_deed", Str.ofString "_law_pointers", Str.ofString "_law_rooms", Str.ofString "_law_many", Str.ofString "_law_room", Str.ofString "_law_other", Str.ofString "_law_stands", Str.ofString "_law_cell", Str.ofString "_law_which", Str.ofString "_law_slot", Str.ofString "NoDeed", Str.ofString "gone", Str.ofString "reached", Str.ofString "pile", Str.ofString "found", Str.ofString "waiting", Str.ofString "trials", Str.ofString "looked", Str.ofString "left", Str.ofString "tidy", Str.ofString "rows", Str.ofString "kept", Str.ofString "row", Str.ofString "WORDS", Str.ofString "MOST_FIGURES", Str.ofString "number_of", Str.ofString "word", Str.ofString "sign", Str.ofString "read", Str.ofString "line", Str.ofString "parts", Str.ofString "done", Str.ofString "deed", Str.ofString "answer", Str.ofString "played", Str.ofString "lines", Str.ofString "way_to", Str.ofString "ways", Str.ofString "held", Str.ofString "led", Str.ofString "way", Str.ofString "here", Str.ofString "_law_due_here", Str.ofString "_law_deed_by", Str.ofString "_law_two", Str.ofString "_law_few", Str.ofString "_law_words", Str.ofString "_law_word", Str.ofString "_law_ring", Str.ofString "_law_closed", Str.ofString "_law_star", Str.ofString "_law_begun", Str.ofString "_law_first", Str.ofString "_law_seen", Str.ofString "_law_seen_here", Str.ofString "_law_word_of", Str.ofString "e", Str.ofString "_law_some", Str.ofString "_law_fits", Str.ofString "_law_hand_wrong", Str.ofString "_law_slot_due", Str.ofString "_law_led_due", Str.ofString "_law_alive", Str.ofString "_law_filled", Str.ofString "_law_full_told", Str.ofString "_law_lines", Str.ofString "_law_told", Str.ofString "_law_full_by", Str.ofString "_law_number_by", Str.ofString "_law_asked", Str.ofString "_law_cells", Str.ofString "_law_pick", Str.ofString "_law_numbers_here", Str.ofString "_law_way", Str.ofString "_law_good", Str.ofString "_law_turn", Str.ofString "max", Str.ofString "_law_closure", Str.ofString "_law_row", Str.ofString "_law_met", Str.ofString "_law_at", Str.ofString "_law_ring_deeds", Str.ofString "_law_deeds_here", Str.ofString "_law_star_deeds", Str.ofString "_law_deeds", Str.ofString "_law_most", Str.ofString "_law_near", Str.ofString "zip", Str.ofString "_law_held_by", Str.ofString "_law_made", Str.ofString "_law_doubts", Str.ofString "_law_kept", Str.ofString "_law_old", Str.ofString "_law_new", Str.ofString "set", Str.ofString "_law_built", Str.ofString "_law_keep", Str.ofString "_law_mine", Str.ofString "_law_weights", Str.ofString "_law_weights_here", Str.ofString "_law_fallen", Str.ofString "_law_waiting", Str.ofString "_law_top", Str.ofString "shown", Str.ofString "part", Str.ofString "_law_forms", Str.ofString "_law_name"]
noncomputable def clsL : List (Nat × PySem.Addr) := [(24, 247)]
noncomputable def fnL : List (Nat × PySem.Addr) := [(13, 21), (66, 258), (69, 265), (72, 272), (182, 277), (185, 282), (187, 289), (74, 294)]
noncomputable def meL : List (Nat × PySem.Addr) := [(25, 106), (26, 113), (27, 120), (28, 127), (29, 134), (30, 141), (31, 148), (32, 155), (33, 162), (34, 167), (35, 174), (36, 181), (37, 188), (38, 195), (39, 202), (40, 209), (41, 216), (42, 223), (43, 230), (44, 237), (45, 244)]
end Mine.L04

set_option autoImplicit false
set_option linter.unusedSimpArgs false
set_option linter.unusedVariables false
namespace Mine.L04
open Mine
open PySem (Str PyData)

theorem hP : PileP prog := ⟨by decide, rfl, rfl, rfl, rfl, rfl, rfl, rfl, rfl, rfl, rfl, rfl, rfl, rfl, rfl, rfl, rfl, rfl, rfl⟩
theorem hL : LawP prog := ⟨rfl, rfl, rfl⟩
theorem nf1 : prog.nf = 1 := rfl

structure R4 (σ : H) (n q : Nat) (α : Nat → Nat) (s : PS) (L K : List (List (Option Nat))) (ras : List Nat) (RA : Nat) (t : V) (C : List (Nat × O)) : Prop where
  A : At prog σ n q α s
  I : PGood s [] []
  bx : s.boxes = mkB 1 L
  md : s.made = L.length + 1
  r : σ.get RA = some (.list (t :: ras.map .ref))
  rl : ras.length = K.length
  ro : ∀ (i a : Nat) (xs : List (Option Nat)), ras[i]? = some a → K[i]? = some xs → σ.get a = some (.list (xs.map ov))
  nd : (RA :: ras).Nodup
  no : ∀ a, a ∈ RA :: ras → ¬ Own n q α s a ∧ 1 ≤ a ∧ a < σ.length
  cs : ∀ p ∈ C, σ.get p.1 = some p.2 ∧ ¬ Own n q α s p.1 ∧ p.1 ∉ RA :: ras

section
variable {σ σ' : H} {n q : Nat} {α α' : Nat → Nat} {s : PS} {L K : List (List (Option Nat))} {ras : List Nat} {RA : Nat} {t : V} {C : List (Nat × O)}
theorem R4.n1 (R : R4 σ n q α s L K ras RA t C) : 1 ≤ n := by have := R.A.nf; rwa [nf1] at this
theorem R4.did {r : PS × List Nat} {f : Nat} {L' : List (List (Option Nat))} (R : R4 σ n q α s L K ras RA t C) (D : Did prog σ σ' n q α s α' r f) (hb : r.1.boxes = mkB 1 L') (hm : r.1.made = L'.length + 1) (I' : PGood r.1 [] []) : R4 σ' n q α' r.1 L' K ras RA t C := by
  have n1 := R.n1
  have kp : ∀ a, a ∈ RA :: ras → σ'.get a = σ.get a := fun a ha => D.kp a (R.no a ha).2.2 (R.no a ha).1
  refine ⟨D.at', I', hb, hm, by rw [kp RA (.head _)]; exact R.r, R.rl, fun i a xs h1 h2 => by rw [kp a (.tail _ (List.mem_of_getElem? h1))]; exact R.ro i a xs h1 h2, R.nd, fun a ha => ⟨fun ho => ?_, (R.no a ha).2.1, ?_⟩, fun p hp => ⟨?_, fun ho => ?_, (R.cs p hp).2.2⟩⟩
  · rcases D.own a ho with h | h
    · exact (R.no a ha).1 h
    · have := (R.no a ha).2.2; lia
  · have := (R.no a ha).2.2; have := D.len; have := D.le; lia
  · rw [D.kp p.1 (get_lt (R.cs p hp).1) (R.cs p hp).2.1]; exact (R.cs p hp).1
  · rcases D.own p.1 ho with h | h
    · exact (R.cs p hp).2.1 h
    · have := get_lt (R.cs p hp).1; lia
theorem R4.push (R : R4 σ n q α s L K ras RA t C) (o : O) : R4 (σ.push o) n q α s L K ras RA t C :=
  ⟨R.A.push o, R.I, R.bx, R.md, by rw [get_push_lt (get_lt R.r)]; exact R.r, R.rl, fun i a xs h1 h2 => by have := R.ro i a xs h1 h2; rw [get_push_lt (get_lt this)]; exact this, R.nd,
    fun a ha => ⟨(R.no a ha).1, (R.no a ha).2.1, by have := (R.no a ha).2.2; rw [len_push]; lia⟩, fun p hp => ⟨by rw [get_push_lt (get_lt (R.cs p hp).1)]; exact (R.cs p hp).1, (R.cs p hp).2⟩⟩
theorem R4.add {a : Nat} {xs : List (Option Nat)} (R : R4 σ n q α s L K ras RA t C) (ha : σ.get a = some (.list (xs.map ov))) (ho : ¬ Own n q α s a) (h1 : 1 ≤ a) (hn : a ∉ RA :: ras) (hc : ∀ p ∈ C, p.1 ≠ a) : R4 (σ.put RA (.list (t :: (ras ++ [a]).map .ref))) n q α s L (K ++ [xs]) (ras ++ [a]) RA t C := by
  have nRA := R.no RA (.head _)
  have hRA : a ≠ RA := fun e => hn (e ▸ .head _)
  have nd := R.nd
  simp only [List.nodup_cons] at nd
  refine ⟨R.A.put nRA.1 _, R.I, R.bx, R.md, get_put_eq nRA.2.2, by simp [R.rl], fun i b ys h1 h2 => ?_, ?_, fun b hb => ?_, fun p hp => ⟨by rw [get_put_ne (fun e : RA = p.1 => (R.cs p hp).2.2 (e ▸ .head _))]; exact (R.cs p hp).1, (R.cs p hp).2.1, fun hm => ?_⟩⟩
  · by_cases hi : i < ras.length
    · rw [List.getElem?_append_left hi] at h1
      rw [List.getElem?_append_left (by rw [← R.rl]; exact hi)] at h2
      have := List.mem_of_getElem? h1
      rw [get_put_ne (fun e : RA = b => nd.1 (e ▸ this))]
      exact R.ro i b ys h1 h2
    · rw [List.getElem?_append_right (by lia)] at h1
      rw [List.getElem?_append_right (by rw [← R.rl]; lia)] at h2
      rw [R.rl] at h1
      cases hd : i - K.length with
      | zero => rw [hd] at h1 h2; simp at h1 h2; subst h1; subst h2; rw [get_put_ne (Ne.symm hRA)]; exact ha
      | succ j => rw [hd] at h1; simp at h1
  · rw [show RA :: (ras ++ [a]) = (RA :: ras) ++ [a] from rfl]
    exact List.nodup_append.mpr ⟨R.nd, by simp, fun b hb c hc e => by simp at hc; subst hc; subst e; exact hn hb⟩
  · rw [show RA :: (ras ++ [a]) = (RA :: ras) ++ [a] from rfl] at hb
    rcases List.mem_append.mp hb with hb | hb
    · exact ⟨(R.no b hb).1, (R.no b hb).2.1, by rw [len_put]; exact (R.no b hb).2.2⟩
    · simp at hb; subst hb; exact ⟨ho, h1, by rw [len_put]; exact get_lt ha⟩
  · rw [show RA :: (ras ++ [a]) = (RA :: ras) ++ [a] from rfl] at hm
    rcases List.mem_append.mp hm with hm | hm
    · exact (R.cs p hp).2.2 hm
    · simp at hm; exact hc p hp hm
theorem R4.setK {i a : Nat} {xs ys : List (Option Nat)} (R : R4 σ n q α s L K ras RA t C) (h1 : ras[i]? = some a) (h2 : K[i]? = some xs) : R4 (σ.put a (.list (ys.map ov))) n q α s L (K.set i ys) ras RA t C := by
  have nd := R.nd
  simp only [List.nodup_cons] at nd
  have ham := List.mem_of_getElem? h1
  have na := R.no a (.tail _ ham)
  refine ⟨R.A.put na.1 _, R.I, R.bx, R.md, by rw [get_put_ne (fun e : a = RA => nd.1 (e ▸ ham))]; exact R.r, by simp [R.rl], fun j b zs h3 h4 => ?_, R.nd, fun b hb => ⟨(R.no b hb).1, (R.no b hb).2.1, by rw [len_put]; exact (R.no b hb).2.2⟩, fun p hp => ⟨by rw [get_put_ne (fun e : a = p.1 => (R.cs p hp).2.2 (e ▸ .tail _ ham))]; exact (R.cs p hp).1, (R.cs p hp).2⟩⟩
  by_cases e : j = i
  · subst e
    rw [h1] at h3; cases h3
    have hi : j < K.length := (List.getElem?_eq_some_iff.mp h2).1
    rw [List.getElem?_set_self hi] at h4; cases h4
    exact get_put_eq na.2.2
  · rw [List.getElem?_set_ne (Ne.symm e)] at h4
    have hne : a ≠ b := fun eb => e (by
      have hi : i < ras.length := (List.getElem?_eq_some_iff.mp h1).1
      subst eb
      exact ((List.getElem?_inj hi nd.2).mp (h1.trans h3.symm)).symm)
    rw [get_put_ne hne]; exact R.ro j b zs h3 h4
theorem R4.setT (R : R4 σ n q α s L K ras RA t C) (t' : V) : R4 (σ.put RA (.list (t' :: ras.map .ref))) n q α s L K ras RA t' C := by
  have nd := R.nd
  simp only [List.nodup_cons] at nd
  have na := R.no RA (.head _)
  exact ⟨R.A.put na.1 _, R.I, R.bx, R.md, get_put_eq na.2.2, R.rl, fun j b zs h3 h4 => by rw [get_put_ne (fun e : RA = b => nd.1 (e ▸ List.mem_of_getElem? h3))]; exact R.ro j b zs h3 h4, R.nd, fun b hb => ⟨(R.no b hb).1, (R.no b hb).2.1, by rw [len_put]; exact (R.no b hb).2.2⟩, fun p hp => ⟨by rw [get_put_ne (fun e : RA = p.1 => (R.cs p hp).2.2 (e ▸ .head _))]; exact (R.cs p hp).1, (R.cs p hp).2⟩⟩
theorem R4.more {a : Nat} {o : O} (R : R4 σ n q α s L K ras RA t C) (h : σ.get a = some o) (ho : ¬ Own n q α s a) (hn : a ∉ RA :: ras) : R4 σ n q α s L K ras RA t ((a, o) :: C) :=
  ⟨R.A, R.I, R.bx, R.md, R.r, R.rl, R.ro, R.nd, R.no, fun p hp => by
    rcases List.mem_cons.mp hp with rfl | hp
    · exact ⟨h, ho, hn⟩
    · exact R.cs p hp⟩
theorem R4.less {C' : List (Nat × O)} (R : R4 σ n q α s L K ras RA t C) (h : ∀ p ∈ C', p ∈ C) : R4 σ n q α s L K ras RA t C' :=
  ⟨R.A, R.I, R.bx, R.md, R.r, R.rl, R.ro, R.nd, R.no, fun p hp => R.cs p (h p hp)⟩
theorem R4.fresh (R : R4 σ n q α s L K ras RA t C) (o : O) : R4 (σ.push o) n q α s L K ras RA t ((σ.length, o) :: C) :=
  (R.push o).more get_push_eq (fun e => Nat.lt_irrefl _ (R.A.lt e)) (fun e => Nat.lt_irrefl _ (R.no _ e).2.2)
theorem R4.get (R : R4 σ n q α s L K ras RA t C) {i : Nat} : aGet s.boxes (1 + i) = L[i]? := by rw [R.bx, mkB_get]
theorem R4.blen (R : R4 σ n q α s L K ras RA t C) : s.boxes.length = L.length := by rw [R.bx, mkB_len]
end

noncomputable abbrev turnB : Sts := f__law_built_2f_8f_1

abbrev hs8 (a b c d : Option Nat) : List (Option Nat) := [a, b, c, d, none, none, none, none]

structure Inn (σ : H) (n q : Nat) (α : Nat → Nat) (s : PS) (L : List (List (Option Nat))) (ras : List Nat) (RA : Nat) (top kept : Option Nat) (C : List (Nat × O)) (i0 a size : Nat) (xs : List (Option Nat)) : Prop where
  R : R4 σ n q α s L L ras RA (ov top) C
  hh : s.hands = hs8 (some (1 + i0)) top none kept
  ha : ras[i0]? = some a
  hx : L[i0]? = some xs
  sz : xs.length = size
  tp : ∀ k, top = some k → some k ∈ xs

theorem mem_set_none {xs : List (Option Nat)} {i k : Nat} {y : Option Nat} (h : some k ∈ xs) (hi : xs[i]? = some none) : some k ∈ xs.set i y := by
  obtain ⟨j, hj⟩ := List.getElem?_of_mem h
  have hne : i ≠ j := fun e => by subst e; rw [hi] at hj; cases hj
  exact List.mem_of_getElem? (by rw [List.getElem?_set_ne hne]; exact hj)

theorem turn_ok {σ : H} {n q : Nat} {α : Nat → Nat} {s : PS} {L : List (List (Option Nat))} {ras : List Nat} {RA : Nat} {top kept : Option Nat} {C : List (Nat × O)} {i0 a size : Nat} {xs : List (Option Nat)} {l : Loc} {cell : Int} {k u d : Nat} {Q : Option V → Loc → H → Prop}
    (N : Inn σ n q α s L ras RA top kept C i0 a size xs) (hz : size ≤ 6) (hk : 0 < k → ∃ m, top = some m) (hlen : L.length < 59)
    (l94 : l 94 = some (.int cell)) (l162 : l 162 = some (.int (u : Int))) (l80 : l 80 = some (.int (size : Int))) (l91 : l 91 = some (.ref a)) (l71 : l 71 = some (.int (k : Int))) (l89 : l 89 = some (.ref RA)) (l75 : l 75 = some (.ref (n + 1)))
    (h : ∀ l' σ' α' s' L' ras' xs', (∀ i, i ≠ 96 → l' i = l i) → Inn σ' n q α' s' L' ras' RA top kept C i0 a size xs' → L'.length ≤ L.length + 1 → σ.length ≤ σ'.length → Q none l' σ') :
    OkS (exs prog (run prog 1000 (d + 4)) 1000 turnB l σ) Q := by
  obtain ⟨R, hh, ha, hx, sz, tp⟩ := N
  obtain ⟨u1, hu1, hu2⟩ := fmod_nat (a := Int.fdiv cell 108) (b := 6) (by decide)
  have esl : Int.fmod (Int.fdiv cell 108) 6 + 2 * (u : Int) = ((u1 + 2 * u : Nat) : Int) := by rw [hu1]; lia
  refine oks_step rfl ?_
  simp (disch := decide) only [l94, l162, ok_div (b := 108) (by decide) (by decide), ok_mod (b := 6) (by decide), ok_mul (a := 2) (.inl (by decide)), ok_add, esl, s_expr, exprK_at, s_var, varK_at, s_attr, attrK_at, attrK2_at, s_sub, subK_at, subK2_at, subK3_at, s_ite, iteK_t, iteK_f, s_ret, retK_at, s_ret0, s_pass, runK_some, runK_none, forK_at, turnK_none, turnK_some, whlK_t, whlK_f, tt_not, tt_band, tt_bor, tt_bool, tt_loc, tt_cmp, tt_cmp2, tt_call, tt_meth, tt_isi, tt_attr, tt_sub, tt_bin, tnotF_t, tnotF_f, ta_nil, ta_cons, andF_t, andF_f, to_nil, to_cons, orF_t, orF_f, e_none, e_bool, e_int, e_str, e_loc, e_bin, binF_at, e_not, notF_at, notF2_t, notF2_f, e_band, e_bor, e_cmp, cmpF_at, e_cmp2, cmpG_t, cmpG_f, e_list, listF_at, e_tup, tupF_at, e_dict0, e_attr, attrF_at, e_sub, subF_at, e_call, e_meth, methF_at, e_bi, e_isi, isiF_at, boolF_at, e_comp, es_nil, es_cons, consF_at, consF2_at, ok_bind, bindK_at, bind_pure, bind_lift, ok_pure, ok_lift, List.zip_cons_cons, List.zip_nil_right, List.zip_nil_left, List.foldl_cons, List.foldl_nil, upd_def, Nat.reduceBEq, bif_t, bif_f, if_true, if_false, Bool.false_eq_true, reduceCtorEq, Nat.reduceEqDiff, ne_eq, not_false_eq_true, not_true_eq_false, decide_true, decide_false, Bool.not_true, Bool.not_false]
  generalize u1 + 2 * u = sl
  refine then_step rfl ?_
  have n1 := R.n1
  have haR := R.ro i0 a xs ha hx
  have hno := R.no a (.tail _ (List.mem_of_getElem? ha))
  have hlast : ∀ i, i ≠ 96 → (l.upd 96 (.int (sl : Int))) i = l i := fun i hi => upd_no hi
  by_cases h1 : sl < size
  · have h1' : (sl : Int) < (size : Int) := by lia
    have hg : (xs.map ov)[((sl : Int)).toNat]? = some (ov ((xs[sl]?).getD none)) := ov_at (by lia)
    cases hv : (xs[sl]?).getD none with
    | some j =>
      rw [hv] at hg
      simp (disch := decide) only [l80, l91, ok_lt, h1', ok_truthb, ok_getList haR (Int.natCast_nonneg _) hg, ok_is, ov, s_expr, exprK_at, s_var, varK_at, s_attr, attrK_at, attrK2_at, s_sub, subK_at, subK2_at, subK3_at, s_ite, iteK_t, iteK_f, s_ret, retK_at, s_ret0, s_pass, runK_some, runK_none, forK_at, turnK_none, turnK_some, whlK_t, whlK_f, tt_not, tt_band, tt_bor, tt_bool, tt_loc, tt_cmp, tt_cmp2, tt_call, tt_meth, tt_isi, tt_attr, tt_sub, tt_bin, tnotF_t, tnotF_f, ta_nil, ta_cons, andF_t, andF_f, to_nil, to_cons, orF_t, orF_f, e_none, e_bool, e_int, e_str, e_loc, e_bin, binF_at, e_not, notF_at, notF2_t, notF2_f, e_band, e_bor, e_cmp, cmpF_at, e_cmp2, cmpG_t, cmpG_f, e_list, listF_at, e_tup, tupF_at, e_dict0, e_attr, attrF_at, e_sub, subF_at, e_call, e_meth, methF_at, e_bi, e_isi, isiF_at, boolF_at, e_comp, es_nil, es_cons, consF_at, consF2_at, ok_bind, bindK_at, bind_pure, bind_lift, ok_pure, ok_lift, List.zip_cons_cons, List.zip_nil_right, List.zip_nil_left, List.foldl_cons, List.foldl_nil, upd_def, Nat.reduceBEq, bif_t, bif_f, if_true, if_false, Bool.false_eq_true, reduceCtorEq, Nat.reduceEqDiff, ne_eq, not_false_eq_true, not_true_eq_false, decide_true, decide_false, Bool.not_true, Bool.not_false]
      exact h _ σ α s L ras xs hlast ⟨R, hh, ha, hx, sz, tp⟩ (by lia) (Nat.le_refl _)
    | none =>
      rw [hv] at hg
      have hxs : xs[sl]? = some none := by
        rw [List.getElem?_eq_getElem (by lia)] at hv ⊢
        simp at hv; rw [hv]
      have hset : (xs.map ov).set ((sl : Int)).toNat (ov top) = (xs.set sl top).map ov := by rw [List.map_set]; rfl
      have hlt : (sl : Int) < ((xs.map ov).length : Int) := by rw [List.length_map]; lia
      have hb0 : aGet s.boxes (1 + i0) = some xs := by rw [R.get]; exact hx
      have hslot : slotOf s (1 + i0) sl = none := by unfold slotOf slotsOf; rw [hb0]; exact hv
      have hslots : slotsOf s (1 + i0) = xs := by unfold slotsOf; rw [hb0]; rfl
      have hi0 : i0 < L.length := (List.getElem?_eq_some_iff.mp hx).1
      have hand0 : handOf s 0 = some (1 + i0) := by simp [handOf, hh]
      have hand1 : handOf s 1 = top := by simp [handOf, hh]
      have hand2 : handOf s 2 = none := by simp [handOf, hh]
      have hblen : s.boxes.length ≤ 900 := by rw [R.blen]; lia
      simp (disch := decide) only [l80, l91, ok_lt, h1', ok_truthb, ok_getList haR (Int.natCast_nonneg _) hg, ok_is, ov, s_expr, exprK_at, s_var, varK_at, s_attr, attrK_at, attrK2_at, s_sub, subK_at, subK2_at, subK3_at, s_ite, iteK_t, iteK_f, s_ret, retK_at, s_ret0, s_pass, runK_some, runK_none, forK_at, turnK_none, turnK_some, whlK_t, whlK_f, tt_not, tt_band, tt_bor, tt_bool, tt_loc, tt_cmp, tt_cmp2, tt_call, tt_meth, tt_isi, tt_attr, tt_sub, tt_bin, tnotF_t, tnotF_f, ta_nil, ta_cons, andF_t, andF_f, to_nil, to_cons, orF_t, orF_f, e_none, e_bool, e_int, e_str, e_loc, e_bin, binF_at, e_not, notF_at, notF2_t, notF2_f, e_band, e_bor, e_cmp, cmpF_at, e_cmp2, cmpG_t, cmpG_f, e_list, listF_at, e_tup, tupF_at, e_dict0, e_attr, attrF_at, e_sub, subF_at, e_call, e_meth, methF_at, e_bi, e_isi, isiF_at, boolF_at, e_comp, es_nil, es_cons, consF_at, consF2_at, ok_bind, bindK_at, bind_pure, bind_lift, ok_pure, ok_lift, List.zip_cons_cons, List.zip_nil_right, List.zip_nil_left, List.foldl_cons, List.foldl_nil, upd_def, Nat.reduceBEq, bif_t, bif_f, if_true, if_false, Bool.false_eq_true, reduceCtorEq, Nat.reduceEqDiff, ne_eq, not_false_eq_true, not_true_eq_false, decide_true, decide_false, Bool.not_true, Bool.not_false]
      refine oks_step rfl ?_
      have caseB : OkS (exs prog (run prog 1000 (d + 4)) 1000 f__law_built_2f_8f_2a_1b_1 (l.upd 96 (.int (sl : Int))) σ) (andThen prog (run prog 1000 (d + 4)) 1000 .nil (andThen prog (run prog 1000 (d + 4)) 1000 .nil Q)) := by
        -- room[slot] = len(rooms)
        refine oks_step rfl ?_
        have elen : (((ov top :: ras.map V.ref) : List V).length : Int) = (s.made : Int) := by rw [R.md]; simp [R.rl]
        have hsetB : (xs.map ov).set ((sl : Int)).toNat (.int (s.made : Int)) = (xs.set sl (some s.made)).map ov := by rw [List.map_set]; rfl
        simp (disch := decide) only [l89, l91, ok_lenL R.r, elen, ok_setList haR (show prog.nf ≤ a from hno.2.1) (Int.natCast_nonneg _) hlt, hsetB, s_expr, exprK_at, s_var, varK_at, s_attr, attrK_at, attrK2_at, s_sub, subK_at, subK2_at, subK3_at, s_ite, iteK_t, iteK_f, s_ret, retK_at, s_ret0, s_pass, runK_some, runK_none, forK_at, turnK_none, turnK_some, whlK_t, whlK_f, tt_not, tt_band, tt_bor, tt_bool, tt_loc, tt_cmp, tt_cmp2, tt_call, tt_meth, tt_isi, tt_attr, tt_sub, tt_bin, tnotF_t, tnotF_f, ta_nil, ta_cons, andF_t, andF_f, to_nil, to_cons, orF_t, orF_f, e_none, e_bool, e_int, e_str, e_loc, e_bin, binF_at, e_not, notF_at, notF2_t, notF2_f, e_band, e_bor, e_cmp, cmpF_at, e_cmp2, cmpG_t, cmpG_f, e_list, listF_at, e_tup, tupF_at, e_dict0, e_attr, attrF_at, e_sub, subF_at, e_call, e_meth, methF_at, e_bi, e_isi, isiF_at, boolF_at, e_comp, es_nil, es_cons, consF_at, consF2_at, ok_bind, bindK_at, bind_pure, bind_lift, ok_pure, ok_lift, List.zip_cons_cons, List.zip_nil_right, List.zip_nil_left, List.foldl_cons, List.foldl_nil, upd_def, Nat.reduceBEq, bif_t, bif_f, if_true, if_false, Bool.false_eq_true, reduceCtorEq, Nat.reduceEqDiff, ne_eq, not_false_eq_true, not_true_eq_false, decide_true, decide_false, Bool.not_true, Bool.not_false]
        have R1 := R.setK (ys := xs.set sl (some s.made)) ha hx
        have ln1 : (σ.put a (.list ((xs.set sl (some s.made)).map ov))).length = σ.length := len_put
        generalize σ.put a (.list ((xs.set sl (some s.made)).map ov)) = σ1 at *
        -- rooms.append([])
        refine then_step rfl ?_
        have R2 := R1.push (.list [])
        have g2 : (σ1.push (.list [])).get σ1.length = some (.list (([] : List (Option Nat)).map ov)) := get_push_eq
        have ln2 : (σ1.push (.list [])).length = σ1.length + 1 := len_push
        have f2 : ¬ Own n q α s σ1.length := fun e => Nat.lt_irrefl _ (R1.A.lt e)
        have fr2 : σ1.length ∉ RA :: ras := fun e => Nat.lt_irrefl _ (R1.no _ e).2.2
        have app : (ov top :: ras.map V.ref) ++ [V.ref σ1.length] = ov top :: (ras ++ [σ1.length]).map V.ref := by simp
        have hlim : lim = 1000000 := rfl
        have rl := R.rl
        simp (disch := decide) only [l89, mx_list R1.r (.inl rfl), ok_alloc (o := .list []) rfl, ok_append R2.r (show prog.nf ≤ RA from (R.no RA (.head _)).2.1) (show ((ov top :: ras.map V.ref) ++ [V.ref σ1.length]).length ≤ lim by simp [hlim, rl]; lia), app, s_expr, exprK_at, s_var, varK_at, s_attr, attrK_at, attrK2_at, s_sub, subK_at, subK2_at, subK3_at, s_ite, iteK_t, iteK_f, s_ret, retK_at, s_ret0, s_pass, runK_some, runK_none, forK_at, turnK_none, turnK_some, whlK_t, whlK_f, tt_not, tt_band, tt_bor, tt_bool, tt_loc, tt_cmp, tt_cmp2, tt_call, tt_meth, tt_isi, tt_attr, tt_sub, tt_bin, tnotF_t, tnotF_f, ta_nil, ta_cons, andF_t, andF_f, to_nil, to_cons, orF_t, orF_f, e_none, e_bool, e_int, e_str, e_loc, e_bin, binF_at, e_not, notF_at, notF2_t, notF2_f, e_band, e_bor, e_cmp, cmpF_at, e_cmp2, cmpG_t, cmpG_f, e_list, listF_at, e_tup, tupF_at, e_dict0, e_attr, attrF_at, e_sub, subF_at, e_call, e_meth, methF_at, e_bi, e_isi, isiF_at, boolF_at, e_comp, es_nil, es_cons, consF_at, consF2_at, ok_bind, bindK_at, bind_pure, bind_lift, ok_pure, ok_lift, List.zip_cons_cons, List.zip_nil_right, List.zip_nil_left, List.foldl_cons, List.foldl_nil, upd_def, Nat.reduceBEq, bif_t, bif_f, if_true, if_false, Bool.false_eq_true, reduceCtorEq, Nat.reduceEqDiff, ne_eq, not_false_eq_true, not_true_eq_false, decide_true, decide_false, Bool.not_true, Bool.not_false]
        have R3 := R2.add (xs := []) g2 f2 (by lia) fr2 (fun p hp e => Nat.lt_irrefl _ (e ▸ get_lt (R1.cs p hp).1))
        have ln3 : ((σ1.push (.list [])).put RA (.list (ov top :: (ras ++ [σ1.length]).map V.ref))).length = σ1.length + 1 := by rw [len_put]; exact ln2
        generalize (σ1.push (.list [])).put RA (.list (ov top :: (ras ++ [σ1.length]).map V.ref)) = σ3 at *
        -- make(2, 0)
        refine then_step rfl ?_
        simp (disch := decide) only [l75, mx_inst R3.A.p R3.A.d, s_expr, exprK_at, s_var, varK_at, s_attr, attrK_at, attrK2_at, s_sub, subK_at, subK2_at, subK3_at, s_ite, iteK_t, iteK_f, s_ret, retK_at, s_ret0, s_pass, runK_some, runK_none, forK_at, turnK_none, turnK_some, whlK_t, whlK_f, tt_not, tt_band, tt_bor, tt_bool, tt_loc, tt_cmp, tt_cmp2, tt_call, tt_meth, tt_isi, tt_attr, tt_sub, tt_bin, tnotF_t, tnotF_f, ta_nil, ta_cons, andF_t, andF_f, to_nil, to_cons, orF_t, orF_f, e_none, e_bool, e_int, e_str, e_loc, e_bin, binF_at, e_not, notF_at, notF2_t, notF2_f, e_band, e_bor, e_cmp, cmpF_at, e_cmp2, cmpG_t, cmpG_f, e_list, listF_at, e_tup, tupF_at, e_dict0, e_attr, attrF_at, e_sub, subF_at, e_call, e_meth, methF_at, e_bi, e_isi, isiF_at, boolF_at, e_comp, es_nil, es_cons, consF_at, consF2_at, ok_bind, bindK_at, bind_pure, bind_lift, ok_pure, ok_lift, List.zip_cons_cons, List.zip_nil_right, List.zip_nil_left, List.foldl_cons, List.foldl_nil, upd_def, Nat.reduceBEq, bif_t, bif_f, if_true, if_false, Bool.false_eq_true, reduceCtorEq, Nat.reduceEqDiff, ne_eq, not_false_eq_true, not_true_eq_false, decide_true, decide_false, Bool.not_true, Bool.not_false]
        refine make_ok hP (k := 2) (size := 0) R3.A R.I (by decide) (by decide) (by rw [R.blen]; lia) fun σ4 D4 => ?_
        obtain ⟨q1, q2, q3, q4⟩ := make_quiet (size := 0) hand2
        have b4 : (makeS s 2 0).1.boxes = mkB 1 (L ++ [[]]) := by rw [q2, R.bx, R.md, Nat.add_comm, mkB_push]; rfl
        have R4' := R3.did (L' := L ++ [[]]) D4 b4 (by rw [q4, R.md]; simp) (make_good R.I (by decide) (by decide))
        have l4 : σ.length ≤ σ4.length := by have := D4.len; have := D4.le; lia
        -- put(0, slot, 2)
        refine then_step rfl ?_
        have hx4 : (L ++ [[]])[i0]? = some xs := by rw [List.getElem?_append_left hi0]; exact hx
        have hb4 : aGet (makeS s 2 0).1.boxes (1 + i0) = some xs := by rw [R4'.get]; exact hx4
        have h40 : handOf (makeS s 2 0).1 0 = some (1 + i0) := by simp [handOf, q3, hh]
        have h42 : handOf (makeS s 2 0).1 2 = some s.made := by simp [handOf, q3, hh]
        simp (disch := decide) only [l75, mx_inst R4'.A.p R4'.A.d, s_expr, exprK_at, s_var, varK_at, s_attr, attrK_at, attrK2_at, s_sub, subK_at, subK2_at, subK3_at, s_ite, iteK_t, iteK_f, s_ret, retK_at, s_ret0, s_pass, runK_some, runK_none, forK_at, turnK_none, turnK_some, whlK_t, whlK_f, tt_not, tt_band, tt_bor, tt_bool, tt_loc, tt_cmp, tt_cmp2, tt_call, tt_meth, tt_isi, tt_attr, tt_sub, tt_bin, tnotF_t, tnotF_f, ta_nil, ta_cons, andF_t, andF_f, to_nil, to_cons, orF_t, orF_f, e_none, e_bool, e_int, e_str, e_loc, e_bin, binF_at, e_not, notF_at, notF2_t, notF2_f, e_band, e_bor, e_cmp, cmpF_at, e_cmp2, cmpG_t, cmpG_f, e_list, listF_at, e_tup, tupF_at, e_dict0, e_attr, attrF_at, e_sub, subF_at, e_call, e_meth, methF_at, e_bi, e_isi, isiF_at, boolF_at, e_comp, es_nil, es_cons, consF_at, consF2_at, ok_bind, bindK_at, bind_pure, bind_lift, ok_pure, ok_lift, List.zip_cons_cons, List.zip_nil_right, List.zip_nil_left, List.foldl_cons, List.foldl_nil, upd_def, Nat.reduceBEq, bif_t, bif_f, if_true, if_false, Bool.false_eq_true, reduceCtorEq, Nat.reduceEqDiff, ne_eq, not_false_eq_true, not_true_eq_false, decide_true, decide_false, Bool.not_true, Bool.not_false]
        refine put_ok hP (k := 0) (i := sl) (j := 2) rfl rfl rfl R4'.A R4'.I (by decide) (by decide) h40 hb4 (by lia) (by rw [R4'.blen]; simp; lia) fun σ5 D5 => ?_
        rw [h42] at D5
        have hs4 : slotsOf (makeS s 2 0).1 (1 + i0) = xs := by unfold slotsOf; rw [hb4]; rfl
        have hslot4 : slotOf (makeS s 2 0).1 (1 + i0) sl = none := by unfold slotOf; rw [hs4]; exact hv
        obtain ⟨p1, p2, p3, p4⟩ := pointed_quiet (s := (makeS s 2 0).1) (b := 1 + i0) (i := sl) (x := some s.made) (fun k e => by rw [hslot4] at e; cases e)
        have b5 : (pointedS (makeS s 2 0).1 (1 + i0) sl (some s.made)).1.boxes = mkB 1 ((L ++ [[]]).set i0 (xs.set sl (some s.made))) := by rw [p2, hs4, b4, mkB_set _ _ _ _ (by simp; lia)]
        have made4 : s.made ∈ keys (makeS s 2 0).1.boxes := by rw [q2]; simp [keys]
        have R5 := R4'.did (L' := (L ++ [[]]).set i0 (xs.set sl (some s.made))) D5 b5 (by rw [p4, q4, R.md]; simp) (pointed_good R4'.I hb4 (by lia) (fun k e => by cases e; exact made4))
        have l5 : σ.length ≤ σ5.length := by have := D5.len; have := D5.le; lia
        -- drop(2)
        refine then_step rfl ?_
        simp (disch := decide) only [l75, mx_inst R5.A.p R5.A.d, s_expr, exprK_at, s_var, varK_at, s_attr, attrK_at, attrK2_at, s_sub, subK_at, subK2_at, subK3_at, s_ite, iteK_t, iteK_f, s_ret, retK_at, s_ret0, s_pass, runK_some, runK_none, forK_at, turnK_none, turnK_some, whlK_t, whlK_f, tt_not, tt_band, tt_bor, tt_bool, tt_loc, tt_cmp, tt_cmp2, tt_call, tt_meth, tt_isi, tt_attr, tt_sub, tt_bin, tnotF_t, tnotF_f, ta_nil, ta_cons, andF_t, andF_f, to_nil, to_cons, orF_t, orF_f, e_none, e_bool, e_int, e_str, e_loc, e_bin, binF_at, e_not, notF_at, notF2_t, notF2_f, e_band, e_bor, e_cmp, cmpF_at, e_cmp2, cmpG_t, cmpG_f, e_list, listF_at, e_tup, tupF_at, e_dict0, e_attr, attrF_at, e_sub, subF_at, e_call, e_meth, methF_at, e_bi, e_isi, isiF_at, boolF_at, e_comp, es_nil, es_cons, consF_at, consF2_at, ok_bind, bindK_at, bind_pure, bind_lift, ok_pure, ok_lift, List.zip_cons_cons, List.zip_nil_right, List.zip_nil_left, List.foldl_cons, List.foldl_nil, upd_def, Nat.reduceBEq, bif_t, bif_f, if_true, if_false, Bool.false_eq_true, reduceCtorEq, Nat.reduceEqDiff, ne_eq, not_false_eq_true, not_true_eq_false, decide_true, decide_false, Bool.not_true, Bool.not_false]
        refine drop_ok hP (k := 2) rfl R5.A R5.I (by decide) (by rw [R5.blen]; simp; lia) fun σ6 D6 => ?_
        have hx5 : ((L ++ [[]]).set i0 (xs.set sl (some s.made)))[i0]? = some (xs.set sl (some s.made)) := List.getElem?_set_self (by simp; lia)
        have hb5 : aGet (pointedS (makeS s 2 0).1 (1 + i0) sl (some s.made)).1.boxes (1 + i0) = some (xs.set sl (some s.made)) := by rw [R5.get]; exact hx5
        have hh5 : (pointedS (makeS s 2 0).1 (1 + i0) sl (some s.made)).1.hands = hs8 (some (1 + i0)) top (some s.made) kept := by rw [p3, q3, hh]; rfl
        have w5 : 1 < wt (pointedS (makeS s 2 0).1 (1 + i0) sl (some s.made)).1 s.made := two_ptrs (i := 2) R5.I (by rw [hh5]; rfl) hb5 (List.mem_of_getElem? (List.getElem?_set_self (by lia)))
        obtain ⟨d1, d2, d3, d4⟩ := handed_quiet (s := (pointedS (makeS s 2 0).1 (1 + i0) sl (some s.made)).1) (h := 2) (x := none) (fun k e => by rw [show handOf (pointedS (makeS s 2 0).1 (1 + i0) sl (some s.made)).1 2 = some s.made by simp [handOf, hh5]] at e; cases e; exact .inl w5)
        have R6 := R5.did (L' := (L ++ [[]]).set i0 (xs.set sl (some s.made))) D6 (by rw [d2]; exact R5.bx) (by rw [d4]; exact R5.md) (handed_good R5.I (by decide) (fun k e => by cases e))
        have eK : L.set i0 (xs.set sl (some s.made)) ++ [[]] = (L ++ [[]]).set i0 (xs.set sl (some s.made)) := by rw [List.set_append_left _ _ hi0]
        rw [eK] at R6
        refine h _ σ6 _ _ _ _ (xs.set sl (some s.made)) hlast ⟨R6, by rw [d3, hh5]; rfl, by rw [List.getElem?_append_left (by rw [rl]; exact hi0)]; exact ha, hx5, by simp [sz], fun k e => mem_set_none (tp k e) hxs⟩ (by simp) (by have := D6.len; have := D6.le; lia)
      by_cases h2 : 0 < k
      · have h2' : (k : Int) > 0 := by lia
        by_cases h3 : Int.fmod (Int.fdiv cell 648) 3 = (u : Int)
        · simp (disch := decide) only [l71, l94, l162, ok_gt, h2', ok_truthb, ok_div (b := 648) (by decide) (by decide), ok_mod (b := 3) (by decide), ok_eqI, h3, s_expr, exprK_at, s_var, varK_at, s_attr, attrK_at, attrK2_at, s_sub, subK_at, subK2_at, subK3_at, s_ite, iteK_t, iteK_f, s_ret, retK_at, s_ret0, s_pass, runK_some, runK_none, forK_at, turnK_none, turnK_some, whlK_t, whlK_f, tt_not, tt_band, tt_bor, tt_bool, tt_loc, tt_cmp, tt_cmp2, tt_call, tt_meth, tt_isi, tt_attr, tt_sub, tt_bin, tnotF_t, tnotF_f, ta_nil, ta_cons, andF_t, andF_f, to_nil, to_cons, orF_t, orF_f, e_none, e_bool, e_int, e_str, e_loc, e_bin, binF_at, e_not, notF_at, notF2_t, notF2_f, e_band, e_bor, e_cmp, cmpF_at, e_cmp2, cmpG_t, cmpG_f, e_list, listF_at, e_tup, tupF_at, e_dict0, e_attr, attrF_at, e_sub, subF_at, e_call, e_meth, methF_at, e_bi, e_isi, isiF_at, boolF_at, e_comp, es_nil, es_cons, consF_at, consF2_at, ok_bind, bindK_at, bind_pure, bind_lift, ok_pure, ok_lift, List.zip_cons_cons, List.zip_nil_right, List.zip_nil_left, List.foldl_cons, List.foldl_nil, upd_def, Nat.reduceBEq, bif_t, bif_f, if_true, if_false, Bool.false_eq_true, reduceCtorEq, Nat.reduceEqDiff, ne_eq, not_false_eq_true, not_true_eq_false, decide_true, decide_false, Bool.not_true, Bool.not_false]
          refine oks_step rfl ?_
          obtain ⟨m, rfl⟩ := hk h2
          have gT : (ov (some m) :: ras.map V.ref)[((0 : Int)).toNat]? = some (ov (some m)) := rfl
          simp (disch := decide) only [l89, l91, ok_getList R.r (by decide) gT, ok_setList haR (show prog.nf ≤ a from hno.2.1) (Int.natCast_nonneg _) hlt, hset, s_expr, exprK_at, s_var, varK_at, s_attr, attrK_at, attrK2_at, s_sub, subK_at, subK2_at, subK3_at, s_ite, iteK_t, iteK_f, s_ret, retK_at, s_ret0, s_pass, runK_some, runK_none, forK_at, turnK_none, turnK_some, whlK_t, whlK_f, tt_not, tt_band, tt_bor, tt_bool, tt_loc, tt_cmp, tt_cmp2, tt_call, tt_meth, tt_isi, tt_attr, tt_sub, tt_bin, tnotF_t, tnotF_f, ta_nil, ta_cons, andF_t, andF_f, to_nil, to_cons, orF_t, orF_f, e_none, e_bool, e_int, e_str, e_loc, e_bin, binF_at, e_not, notF_at, notF2_t, notF2_f, e_band, e_bor, e_cmp, cmpF_at, e_cmp2, cmpG_t, cmpG_f, e_list, listF_at, e_tup, tupF_at, e_dict0, e_attr, attrF_at, e_sub, subF_at, e_call, e_meth, methF_at, e_bi, e_isi, isiF_at, boolF_at, e_comp, es_nil, es_cons, consF_at, consF2_at, ok_bind, bindK_at, bind_pure, bind_lift, ok_pure, ok_lift, List.zip_cons_cons, List.zip_nil_right, List.zip_nil_left, List.foldl_cons, List.foldl_nil, upd_def, Nat.reduceBEq, bif_t, bif_f, if_true, if_false, Bool.false_eq_true, reduceCtorEq, Nat.reduceEqDiff, ne_eq, not_false_eq_true, not_true_eq_false, decide_true, decide_false, Bool.not_true, Bool.not_false]
          have R1 := R.setK (ys := xs.set sl (some m)) ha hx
          have ln1 : (σ.put a (.list ((xs.set sl (some m)).map ov))).length = σ.length := len_put
          generalize σ.put a (.list ((xs.set sl (some m)).map ov)) = σ1 at *
          refine then_step rfl ?_
          simp (disch := decide) only [l75, mx_inst R1.A.p R1.A.d, s_expr, exprK_at, s_var, varK_at, s_attr, attrK_at, attrK2_at, s_sub, subK_at, subK2_at, subK3_at, s_ite, iteK_t, iteK_f, s_ret, retK_at, s_ret0, s_pass, runK_some, runK_none, forK_at, turnK_none, turnK_some, whlK_t, whlK_f, tt_not, tt_band, tt_bor, tt_bool, tt_loc, tt_cmp, tt_cmp2, tt_call, tt_meth, tt_isi, tt_attr, tt_sub, tt_bin, tnotF_t, tnotF_f, ta_nil, ta_cons, andF_t, andF_f, to_nil, to_cons, orF_t, orF_f, e_none, e_bool, e_int, e_str, e_loc, e_bin, binF_at, e_not, notF_at, notF2_t, notF2_f, e_band, e_bor, e_cmp, cmpF_at, e_cmp2, cmpG_t, cmpG_f, e_list, listF_at, e_tup, tupF_at, e_dict0, e_attr, attrF_at, e_sub, subF_at, e_call, e_meth, methF_at, e_bi, e_isi, isiF_at, boolF_at, e_comp, es_nil, es_cons, consF_at, consF2_at, ok_bind, bindK_at, bind_pure, bind_lift, ok_pure, ok_lift, List.zip_cons_cons, List.zip_nil_right, List.zip_nil_left, List.foldl_cons, List.foldl_nil, upd_def, Nat.reduceBEq, bif_t, bif_f, if_true, if_false, Bool.false_eq_true, reduceCtorEq, Nat.reduceEqDiff, ne_eq, not_false_eq_true, not_true_eq_false, decide_true, decide_false, Bool.not_true, Bool.not_false]
          refine put_ok hP (k := 0) (i := sl) (j := 1) rfl rfl rfl R1.A R1.I (by decide) (by decide) hand0 hb0 (by lia) hblen fun σ2 D2 => ?_
          rw [hand1] at D2
          obtain ⟨p1, p2, p3, p4⟩ := pointed_quiet (s := s) (b := 1 + i0) (i := sl) (x := some m) (fun k e => by rw [hslot] at e; cases e)
          have b2 : (pointedS s (1 + i0) sl (some m)).1.boxes = mkB 1 (L.set i0 (xs.set sl (some m))) := by rw [p2, hslots, R.bx, mkB_set _ _ _ _ hi0]
          have R2 := R1.did (L' := L.set i0 (xs.set sl (some m))) D2 b2 (by rw [p4, R.md]; simp) (pointed_good R.I hb0 (by lia) (fun k e => R.I.hand_key (h := 1) (by rw [hand1]; exact e)))
          refine h _ σ2 _ _ _ _ (xs.set sl (some m)) hlast ⟨R2, by rw [p3]; exact hh, ha, List.getElem?_set_self hi0, by simp [sz], fun k e => mem_set_none (tp k e) hxs⟩ (by simp) (by have := D2.len; have := D2.le; lia)
        · simp (disch := decide) only [l71, l94, l162, ok_gt, h2', ok_truthb, ok_div (b := 648) (by decide) (by decide), ok_mod (b := 3) (by decide), ok_eqI, h3, s_expr, exprK_at, s_var, varK_at, s_attr, attrK_at, attrK2_at, s_sub, subK_at, subK2_at, subK3_at, s_ite, iteK_t, iteK_f, s_ret, retK_at, s_ret0, s_pass, runK_some, runK_none, forK_at, turnK_none, turnK_some, whlK_t, whlK_f, tt_not, tt_band, tt_bor, tt_bool, tt_loc, tt_cmp, tt_cmp2, tt_call, tt_meth, tt_isi, tt_attr, tt_sub, tt_bin, tnotF_t, tnotF_f, ta_nil, ta_cons, andF_t, andF_f, to_nil, to_cons, orF_t, orF_f, e_none, e_bool, e_int, e_str, e_loc, e_bin, binF_at, e_not, notF_at, notF2_t, notF2_f, e_band, e_bor, e_cmp, cmpF_at, e_cmp2, cmpG_t, cmpG_f, e_list, listF_at, e_tup, tupF_at, e_dict0, e_attr, attrF_at, e_sub, subF_at, e_call, e_meth, methF_at, e_bi, e_isi, isiF_at, boolF_at, e_comp, es_nil, es_cons, consF_at, consF2_at, ok_bind, bindK_at, bind_pure, bind_lift, ok_pure, ok_lift, List.zip_cons_cons, List.zip_nil_right, List.zip_nil_left, List.foldl_cons, List.foldl_nil, upd_def, Nat.reduceBEq, bif_t, bif_f, if_true, if_false, Bool.false_eq_true, reduceCtorEq, Nat.reduceEqDiff, ne_eq, not_false_eq_true, not_true_eq_false, decide_true, decide_false, Bool.not_true, Bool.not_false]
          exact caseB
      · have h2' : ¬ ((k : Int) > 0) := by lia
        simp (disch := decide) only [l71, ok_gt, h2', ok_truthb, s_expr, exprK_at, s_var, varK_at, s_attr, attrK_at, attrK2_at, s_sub, subK_at, subK2_at, subK3_at, s_ite, iteK_t, iteK_f, s_ret, retK_at, s_ret0, s_pass, runK_some, runK_none, forK_at, turnK_none, turnK_some, whlK_t, whlK_f, tt_not, tt_band, tt_bor, tt_bool, tt_loc, tt_cmp, tt_cmp2, tt_call, tt_meth, tt_isi, tt_attr, tt_sub, tt_bin, tnotF_t, tnotF_f, ta_nil, ta_cons, andF_t, andF_f, to_nil, to_cons, orF_t, orF_f, e_none, e_bool, e_int, e_str, e_loc, e_bin, binF_at, e_not, notF_at, notF2_t, notF2_f, e_band, e_bor, e_cmp, cmpF_at, e_cmp2, cmpG_t, cmpG_f, e_list, listF_at, e_tup, tupF_at, e_dict0, e_attr, attrF_at, e_sub, subF_at, e_call, e_meth, methF_at, e_bi, e_isi, isiF_at, boolF_at, e_comp, es_nil, es_cons, consF_at, consF2_at, ok_bind, bindK_at, bind_pure, bind_lift, ok_pure, ok_lift, List.zip_cons_cons, List.zip_nil_right, List.zip_nil_left, List.foldl_cons, List.foldl_nil, upd_def, Nat.reduceBEq, bif_t, bif_f, if_true, if_false, Bool.false_eq_true, reduceCtorEq, Nat.reduceEqDiff, ne_eq, not_false_eq_true, not_true_eq_false, decide_true, decide_false, Bool.not_true, Bool.not_false]
        exact caseB
  · have h1' : ¬ ((sl : Int) < (size : Int)) := by lia
    simp (disch := decide) only [l80, ok_lt, h1', ok_truthb, s_expr, exprK_at, s_var, varK_at, s_attr, attrK_at, attrK2_at, s_sub, subK_at, subK2_at, subK3_at, s_ite, iteK_t, iteK_f, s_ret, retK_at, s_ret0, s_pass, runK_some, runK_none, forK_at, turnK_none, turnK_some, whlK_t, whlK_f, tt_not, tt_band, tt_bor, tt_bool, tt_loc, tt_cmp, tt_cmp2, tt_call, tt_meth, tt_isi, tt_attr, tt_sub, tt_bin, tnotF_t, tnotF_f, ta_nil, ta_cons, andF_t, andF_f, to_nil, to_cons, orF_t, orF_f, e_none, e_bool, e_int, e_str, e_loc, e_bin, binF_at, e_not, notF_at, notF2_t, notF2_f, e_band, e_bor, e_cmp, cmpF_at, e_cmp2, cmpG_t, cmpG_f, e_list, listF_at, e_tup, tupF_at, e_dict0, e_attr, attrF_at, e_sub, subF_at, e_call, e_meth, methF_at, e_bi, e_isi, isiF_at, boolF_at, e_comp, es_nil, es_cons, consF_at, consF2_at, ok_bind, bindK_at, bind_pure, bind_lift, ok_pure, ok_lift, List.zip_cons_cons, List.zip_nil_right, List.zip_nil_left, List.foldl_cons, List.foldl_nil, upd_def, Nat.reduceBEq, bif_t, bif_f, if_true, if_false, Bool.false_eq_true, reduceCtorEq, Nat.reduceEqDiff, ne_eq, not_false_eq_true, not_true_eq_false, decide_true, decide_false, Bool.not_true, Bool.not_false]
    exact h _ σ α s L ras xs hlast ⟨R, hh, ha, hx, sz, tp⟩ (by lia) (Nat.le_refl _)
end Mine.L04

set_option autoImplicit false
set_option linter.unusedSimpArgs false
set_option linter.unusedVariables false
namespace Mine.L04
open Mine
open PySem (Str PyData)

theorem it_range0 {σ : H} {a m : Nat} (h : σ.get a = some (.rng 0 (m : Int) 1)) (h1 : m ≤ 1000) : iterOf (.ref a) σ = some ((List.range m).map fun (k : Nat) => V.int (k : Int)) := by
  have := it_range h (Int.natCast_nonneg _) (by lia)
  rwa [Int.toNat_natCast] at this
theorem range0_at {m j : Nat} {y : V} (h : ((List.range m).map fun (k : Nat) => V.int (k : Int))[j]? = some y) : j < m ∧ y = .int (j : Int) := by
  have := rng_at (n := (m : Int)) (j := j) (y := y) (by simpa using h)
  exact ⟨by lia, this.2⟩

noncomputable def Out (n q RA : Nat) (C : List (Nat × O)) (many keep : Nat) (j : Nat) (l : Loc) (σ : H) : Prop :=
  j ≤ many ∧ l 75 = some (.ref (n + 1)) ∧ l 70 = some (.ref 0) ∧ l 89 = some (.ref RA) ∧ l 90 = some (.int (many : Int)) ∧ l 183 = some (.int (keep : Int)) ∧
    ∃ α s L ras top kept, R4 σ n q α s L L ras RA (ov top) C ∧ s.hands = hs8 none top none kept ∧ (0 < j → ∃ m, top = some m) ∧ (j = 0 → top = none) ∧ L.length ≤ 3 * j ∧ (j ≤ keep → kept = none)

theorem built_ok {σ : H} {n q : Nat} {α : Nat → Nat} {s : PS} {RA : Nat} {ns : List Int} {many d : Nat} {C : List (Nat × O)} {Q : V → H → Prop} (R : R4 σ n q α s [] [] [] RA .none C) (hC : (0, O.list (ns.map .int)) ∈ C) (hh : s.hands = hs8 none none none none) (hm1 : 1 ≤ many) (hm : many ≤ 18)
    (h : ∀ σ' α' s' L ras top kept, R4 σ' n q α' s' L L ras RA (ov (some top)) C → s'.hands = hs8 none (some top) none kept → L.length ≤ 54 → Q (ov kept) σ') :
    Ok (run prog 1000 (d + 6) false 182 [.ref (n + 1), .ref 0, .ref RA, .int (many : Int)]) σ Q := by
  rw [ok_run (fd := f__law_built) rfl rfl]
  unfold f__law_built
  refine oks_step rfl ?_
  obtain ⟨keep, hkp, hkp2⟩ := fmod_nat (a := cellAt ns 1) (b := (many : Int)) (by lia)
  simp (disch := decide) only [s_expr, exprK_at, s_var, varK_at, s_attr, attrK_at, attrK2_at, s_sub, subK_at, subK2_at, subK3_at, s_ite, iteK_t, iteK_f, s_ret, retK_at, s_ret0, s_pass, runK_some, runK_none, forK_at, turnK_none, turnK_some, whlK_t, whlK_f, tt_not, tt_band, tt_bor, tt_bool, tt_loc, tt_cmp, tt_cmp2, tt_call, tt_meth, tt_isi, tt_attr, tt_sub, tt_bin, tnotF_t, tnotF_f, ta_nil, ta_cons, andF_t, andF_f, to_nil, to_cons, orF_t, orF_f, e_none, e_bool, e_int, e_str, e_loc, e_bin, binF_at, e_not, notF_at, notF2_t, notF2_f, e_band, e_bor, e_cmp, cmpF_at, e_cmp2, cmpG_t, cmpG_f, e_list, listF_at, e_tup, tupF_at, e_dict0, e_attr, attrF_at, e_sub, subF_at, e_call, e_meth, methF_at, e_bi, e_isi, isiF_at, boolF_at, e_comp, es_nil, es_cons, consF_at, consF2_at, ok_bind, bindK_at, bind_pure, bind_lift, ok_pure, ok_lift, List.zip_cons_cons, List.zip_nil_right, List.zip_nil_left, List.foldl_cons, List.foldl_nil, upd_def, Nat.reduceBEq, bif_t, bif_f, if_true, if_false, Bool.false_eq_true, reduceCtorEq, Nat.reduceEqDiff, ne_eq, not_false_eq_true, not_true_eq_false, decide_true, decide_false, Bool.not_true, Bool.not_false]
  refine cell_ok hL (k := 1) (R.cs _ hC).1 ?_
  simp (disch := decide) only [ok_mod (show (many : Int) ≠ 0 by lia), hkp, s_expr, exprK_at, s_var, varK_at, s_attr, attrK_at, attrK2_at, s_sub, subK_at, subK2_at, subK3_at, s_ite, iteK_t, iteK_f, s_ret, retK_at, s_ret0, s_pass, runK_some, runK_none, forK_at, turnK_none, turnK_some, whlK_t, whlK_f, tt_not, tt_band, tt_bor, tt_bool, tt_loc, tt_cmp, tt_cmp2, tt_call, tt_meth, tt_isi, tt_attr, tt_sub, tt_bin, tnotF_t, tnotF_f, ta_nil, ta_cons, andF_t, andF_f, to_nil, to_cons, orF_t, orF_f, e_none, e_bool, e_int, e_str, e_loc, e_bin, binF_at, e_not, notF_at, notF2_t, notF2_f, e_band, e_bor, e_cmp, cmpF_at, e_cmp2, cmpG_t, cmpG_f, e_list, listF_at, e_tup, tupF_at, e_dict0, e_attr, attrF_at, e_sub, subF_at, e_call, e_meth, methF_at, e_bi, e_isi, isiF_at, boolF_at, e_comp, es_nil, es_cons, consF_at, consF2_at, ok_bind, bindK_at, bind_pure, bind_lift, ok_pure, ok_lift, List.zip_cons_cons, List.zip_nil_right, List.zip_nil_left, List.foldl_cons, List.foldl_nil, upd_def, Nat.reduceBEq, bif_t, bif_f, if_true, if_false, Bool.false_eq_true, reduceCtorEq, Nat.reduceEqDiff, ne_eq, not_false_eq_true, not_true_eq_false, decide_true, decide_false, Bool.not_true, Bool.not_false]
  refine then_step rfl ?_
  rw [s_for]
  simp (disch := decide) only [ok_range1, s_expr, exprK_at, s_var, varK_at, s_attr, attrK_at, attrK2_at, s_sub, subK_at, subK2_at, subK3_at, s_ite, iteK_t, iteK_f, s_ret, retK_at, s_ret0, s_pass, runK_some, runK_none, forK_at, turnK_none, turnK_some, whlK_t, whlK_f, tt_not, tt_band, tt_bor, tt_bool, tt_loc, tt_cmp, tt_cmp2, tt_call, tt_meth, tt_isi, tt_attr, tt_sub, tt_bin, tnotF_t, tnotF_f, ta_nil, ta_cons, andF_t, andF_f, to_nil, to_cons, orF_t, orF_f, e_none, e_bool, e_int, e_str, e_loc, e_bin, binF_at, e_not, notF_at, notF2_t, notF2_f, e_band, e_bor, e_cmp, cmpF_at, e_cmp2, cmpG_t, cmpG_f, e_list, listF_at, e_tup, tupF_at, e_dict0, e_attr, attrF_at, e_sub, subF_at, e_call, e_meth, methF_at, e_bi, e_isi, isiF_at, boolF_at, e_comp, es_nil, es_cons, consF_at, consF2_at, ok_bind, bindK_at, bind_pure, bind_lift, ok_pure, ok_lift, List.zip_cons_cons, List.zip_nil_right, List.zip_nil_left, List.foldl_cons, List.foldl_nil, upd_def, Nat.reduceBEq, bif_t, bif_f, if_true, if_false, Bool.false_eq_true, reduceCtorEq, Nat.reduceEqDiff, ne_eq, not_false_eq_true, not_true_eq_false, decide_true, decide_false, Bool.not_true, Bool.not_false]
  have R0 := R.fresh (.rng 0 (many : Int) 1)
  have hC0 : (0, O.list (ns.map .int)) ∈ (σ.length, O.rng 0 (many : Int) 1) :: C := .tail _ hC
  have hr0 : (σ.length, O.rng 0 (many : Int) 1) ∈ (σ.length, O.rng 0 (many : Int) 1) :: C := .head _
  have hCC : ∀ p ∈ C, p ∈ (σ.length, O.rng 0 (many : Int) 1) :: C := fun p hp => .tail _ hp
  generalize (σ.length, O.rng 0 (many : Int) 1) :: C = C0 at *
  have gr := (R0.cs _ hr0).1
  generalize σ.push (.rng 0 (many : Int) 1) = τ at *
  generalize σ.length = ra at *
  refine ⟨_, it_range0 gr (by lia), ?_⟩
  refine f_inv (fun j l σj => Out n q RA C0 many keep j l σj) ?_ ?_ ?_
  · refine ⟨Nat.zero_le _, rfl, rfl, rfl, rfl, rfl, α, s, [], [], none, none, R0, hh, fun h => absurd h (by lia), fun _ => rfl, by simp, fun _ => rfl⟩
  · rintro j l σj y hy ⟨hj, l75, l70, l89, l90, l183, α1, s1, L, ras, top, kept, R1, hh1, ht, ht0, hLl, hkept⟩
    obtain ⟨hjm, rfl⟩ := range0_at hy
    have hand0 : handOf s1 0 = none := by simp [handOf, hh1]
    have rl := R1.rl
    have hlim : lim = 1000000 := rfl
    -- cell
    refine oks_step rfl ?_
    have e2 : (2 : Int) + (j : Int) = ((2 + j : Nat) : Int) := by lia
    simp (disch := decide) only [l70, ok_add, e2, s_expr, exprK_at, s_var, varK_at, s_attr, attrK_at, attrK2_at, s_sub, subK_at, subK2_at, subK3_at, s_ite, iteK_t, iteK_f, s_ret, retK_at, s_ret0, s_pass, runK_some, runK_none, forK_at, turnK_none, turnK_some, whlK_t, whlK_f, tt_not, tt_band, tt_bor, tt_bool, tt_loc, tt_cmp, tt_cmp2, tt_call, tt_meth, tt_isi, tt_attr, tt_sub, tt_bin, tnotF_t, tnotF_f, ta_nil, ta_cons, andF_t, andF_f, to_nil, to_cons, orF_t, orF_f, e_none, e_bool, e_int, e_str, e_loc, e_bin, binF_at, e_not, notF_at, notF2_t, notF2_f, e_band, e_bor, e_cmp, cmpF_at, e_cmp2, cmpG_t, cmpG_f, e_list, listF_at, e_tup, tupF_at, e_dict0, e_attr, attrF_at, e_sub, subF_at, e_call, e_meth, methF_at, e_bi, e_isi, isiF_at, boolF_at, e_comp, es_nil, es_cons, consF_at, consF2_at, ok_bind, bindK_at, bind_pure, bind_lift, ok_pure, ok_lift, List.zip_cons_cons, List.zip_nil_right, List.zip_nil_left, List.foldl_cons, List.foldl_nil, upd_def, Nat.reduceBEq, bif_t, bif_f, if_true, if_false, Bool.false_eq_true, reduceCtorEq, Nat.reduceEqDiff, ne_eq, not_false_eq_true, not_true_eq_false, decide_true, decide_false, Bool.not_true, Bool.not_false]
    refine cell_ok hL (k := 2 + j) (R1.cs _ hC0).1 ?_
    generalize cellAt ns (2 + j) = cell
    -- size
    refine then_step rfl ?_
    obtain ⟨z, hz, hz6⟩ := fmod_nat (a := cell) (b := 6) (by decide)
    have ez : (1 : Int) + (z : Int) = ((1 + z : Nat) : Int) := by lia
    simp (disch := decide) only [ok_mod (b := 6) (by decide), ok_add, hz, ez, s_expr, exprK_at, s_var, varK_at, s_attr, attrK_at, attrK2_at, s_sub, subK_at, subK2_at, subK3_at, s_ite, iteK_t, iteK_f, s_ret, retK_at, s_ret0, s_pass, runK_some, runK_none, forK_at, turnK_none, turnK_some, whlK_t, whlK_f, tt_not, tt_band, tt_bor, tt_bool, tt_loc, tt_cmp, tt_cmp2, tt_call, tt_meth, tt_isi, tt_attr, tt_sub, tt_bin, tnotF_t, tnotF_f, ta_nil, ta_cons, andF_t, andF_f, to_nil, to_cons, orF_t, orF_f, e_none, e_bool, e_int, e_str, e_loc, e_bin, binF_at, e_not, notF_at, notF2_t, notF2_f, e_band, e_bor, e_cmp, cmpF_at, e_cmp2, cmpG_t, cmpG_f, e_list, listF_at, e_tup, tupF_at, e_dict0, e_attr, attrF_at, e_sub, subF_at, e_call, e_meth, methF_at, e_bi, e_isi, isiF_at, boolF_at, e_comp, es_nil, es_cons, consF_at, consF2_at, ok_bind, bindK_at, bind_pure, bind_lift, ok_pure, ok_lift, List.zip_cons_cons, List.zip_nil_right, List.zip_nil_left, List.foldl_cons, List.foldl_nil, upd_def, Nat.reduceBEq, bif_t, bif_f, if_true, if_false, Bool.false_eq_true, reduceCtorEq, Nat.reduceEqDiff, ne_eq, not_false_eq_true, not_true_eq_false, decide_true, decide_false, Bool.not_true, Bool.not_false]
    -- mine
    refine then_step rfl ?_
    have elen : (((ov top :: ras.map V.ref) : List V).length : Int) = (s1.made : Int) := by rw [R1.md]; simp [rl]
    simp (disch := decide) only [l89, ok_lenL R1.r, elen, s_expr, exprK_at, s_var, varK_at, s_attr, attrK_at, attrK2_at, s_sub, subK_at, subK2_at, subK3_at, s_ite, iteK_t, iteK_f, s_ret, retK_at, s_ret0, s_pass, runK_some, runK_none, forK_at, turnK_none, turnK_some, whlK_t, whlK_f, tt_not, tt_band, tt_bor, tt_bool, tt_loc, tt_cmp, tt_cmp2, tt_call, tt_meth, tt_isi, tt_attr, tt_sub, tt_bin, tnotF_t, tnotF_f, ta_nil, ta_cons, andF_t, andF_f, to_nil, to_cons, orF_t, orF_f, e_none, e_bool, e_int, e_str, e_loc, e_bin, binF_at, e_not, notF_at, notF2_t, notF2_f, e_band, e_bor, e_cmp, cmpF_at, e_cmp2, cmpG_t, cmpG_f, e_list, listF_at, e_tup, tupF_at, e_dict0, e_attr, attrF_at, e_sub, subF_at, e_call, e_meth, methF_at, e_bi, e_isi, isiF_at, boolF_at, e_comp, es_nil, es_cons, consF_at, consF2_at, ok_bind, bindK_at, bind_pure, bind_lift, ok_pure, ok_lift, List.zip_cons_cons, List.zip_nil_right, List.zip_nil_left, List.foldl_cons, List.foldl_nil, upd_def, Nat.reduceBEq, bif_t, bif_f, if_true, if_false, Bool.false_eq_true, reduceCtorEq, Nat.reduceEqDiff, ne_eq, not_false_eq_true, not_true_eq_false, decide_true, decide_false, Bool.not_true, Bool.not_false]
    -- room
    refine then_step rfl ?_
    have Ra := R1.push (.rng 0 ((1 + z : Nat) : Int) 1)
    have ga : (σj.push (.rng 0 ((1 + z : Nat) : Int) 1)).get σj.length = some (.rng 0 ((1 + z : Nat) : Int) 1) := get_push_eq
    simp (disch := decide) only [ok_range1, s_expr, exprK_at, s_var, varK_at, s_attr, attrK_at, attrK2_at, s_sub, subK_at, subK2_at, subK3_at, s_ite, iteK_t, iteK_f, s_ret, retK_at, s_ret0, s_pass, runK_some, runK_none, forK_at, turnK_none, turnK_some, whlK_t, whlK_f, tt_not, tt_band, tt_bor, tt_bool, tt_loc, tt_cmp, tt_cmp2, tt_call, tt_meth, tt_isi, tt_attr, tt_sub, tt_bin, tnotF_t, tnotF_f, ta_nil, ta_cons, andF_t, andF_f, to_nil, to_cons, orF_t, orF_f, e_none, e_bool, e_int, e_str, e_loc, e_bin, binF_at, e_not, notF_at, notF2_t, notF2_f, e_band, e_bor, e_cmp, cmpF_at, e_cmp2, cmpG_t, cmpG_f, e_list, listF_at, e_tup, tupF_at, e_dict0, e_attr, attrF_at, e_sub, subF_at, e_call, e_meth, methF_at, e_bi, e_isi, isiF_at, boolF_at, e_comp, es_nil, es_cons, consF_at, consF2_at, ok_bind, bindK_at, bind_pure, bind_lift, ok_pure, ok_lift, List.zip_cons_cons, List.zip_nil_right, List.zip_nil_left, List.foldl_cons, List.foldl_nil, upd_def, Nat.reduceBEq, bif_t, bif_f, if_true, if_false, Bool.false_eq_true, reduceCtorEq, Nat.reduceEqDiff, ne_eq, not_false_eq_true, not_true_eq_false, decide_true, decide_false, Bool.not_true, Bool.not_false]
    generalize σj.push (.rng 0 ((1 + z : Nat) : Int) 1) = σa at *
    rw [compX_none ga (Int.natCast_nonneg _) (by lia)]
    have Rb := Ra.push (.list ((List.replicate (((1 + z : Nat) : Int)).toNat (none : Option Nat)).map ov))
    have gb : (σa.push (.list ((List.replicate (((1 + z : Nat) : Int)).toNat (none : Option Nat)).map ov))).get σa.length = some (.list ((List.replicate (1 + z) (none : Option Nat)).map ov)) := get_push_eq
    have fb : ¬ Own n q α1 s1 σa.length := fun e => Nat.lt_irrefl _ (Ra.A.lt e)
    have frb : σa.length ∉ RA :: ras := fun e => Nat.lt_irrefl _ (Ra.no _ e).2.2
    have fcb : ∀ p ∈ C0, p.1 ≠ σa.length := fun p hp e => Nat.lt_irrefl _ (e ▸ get_lt (Ra.cs p hp).1)
    have pos1 : 1 ≤ σa.length := by have := (Ra.no RA (.head _)).2.2; lia
    generalize σa.push (.list ((List.replicate (((1 + z : Nat) : Int)).toNat (none : Option Nat)).map ov)) = σb at *
    generalize σa.length = a at *
    -- rooms.append(room)
    refine then_step rfl ?_
    have app : (ov top :: ras.map V.ref) ++ [V.ref a] = ov top :: (ras ++ [a]).map V.ref := by simp
    simp (disch := decide) only [l89, mx_list Rb.r (.inl rfl), ok_append Rb.r (show prog.nf ≤ RA from (R1.no RA (.head _)).2.1) (show ((ov top :: ras.map V.ref) ++ [V.ref a]).length ≤ lim by simp [hlim, rl]; lia), app, s_expr, exprK_at, s_var, varK_at, s_attr, attrK_at, attrK2_at, s_sub, subK_at, subK2_at, subK3_at, s_ite, iteK_t, iteK_f, s_ret, retK_at, s_ret0, s_pass, runK_some, runK_none, forK_at, turnK_none, turnK_some, whlK_t, whlK_f, tt_not, tt_band, tt_bor, tt_bool, tt_loc, tt_cmp, tt_cmp2, tt_call, tt_meth, tt_isi, tt_attr, tt_sub, tt_bin, tnotF_t, tnotF_f, ta_nil, ta_cons, andF_t, andF_f, to_nil, to_cons, orF_t, orF_f, e_none, e_bool, e_int, e_str, e_loc, e_bin, binF_at, e_not, notF_at, notF2_t, notF2_f, e_band, e_bor, e_cmp, cmpF_at, e_cmp2, cmpG_t, cmpG_f, e_list, listF_at, e_tup, tupF_at, e_dict0, e_attr, attrF_at, e_sub, subF_at, e_call, e_meth, methF_at, e_bi, e_isi, isiF_at, boolF_at, e_comp, es_nil, es_cons, consF_at, consF2_at, ok_bind, bindK_at, bind_pure, bind_lift, ok_pure, ok_lift, List.zip_cons_cons, List.zip_nil_right, List.zip_nil_left, List.foldl_cons, List.foldl_nil, upd_def, Nat.reduceBEq, bif_t, bif_f, if_true, if_false, Bool.false_eq_true, reduceCtorEq, Nat.reduceEqDiff, ne_eq, not_false_eq_true, not_true_eq_false, decide_true, decide_false, Bool.not_true, Bool.not_false]
    have Rc := Rb.add gb fb pos1 frb fcb
    generalize σb.put RA (.list (ov top :: (ras ++ [a]).map V.ref)) = σc at *
    -- make
    refine then_step rfl ?_
    simp (disch := decide) only [l75, mx_inst Rc.A.p Rc.A.d, s_expr, exprK_at, s_var, varK_at, s_attr, attrK_at, attrK2_at, s_sub, subK_at, subK2_at, subK3_at, s_ite, iteK_t, iteK_f, s_ret, retK_at, s_ret0, s_pass, runK_some, runK_none, forK_at, turnK_none, turnK_some, whlK_t, whlK_f, tt_not, tt_band, tt_bor, tt_bool, tt_loc, tt_cmp, tt_cmp2, tt_call, tt_meth, tt_isi, tt_attr, tt_sub, tt_bin, tnotF_t, tnotF_f, ta_nil, ta_cons, andF_t, andF_f, to_nil, to_cons, orF_t, orF_f, e_none, e_bool, e_int, e_str, e_loc, e_bin, binF_at, e_not, notF_at, notF2_t, notF2_f, e_band, e_bor, e_cmp, cmpF_at, e_cmp2, cmpG_t, cmpG_f, e_list, listF_at, e_tup, tupF_at, e_dict0, e_attr, attrF_at, e_sub, subF_at, e_call, e_meth, methF_at, e_bi, e_isi, isiF_at, boolF_at, e_comp, es_nil, es_cons, consF_at, consF2_at, ok_bind, bindK_at, bind_pure, bind_lift, ok_pure, ok_lift, List.zip_cons_cons, List.zip_nil_right, List.zip_nil_left, List.foldl_cons, List.foldl_nil, upd_def, Nat.reduceBEq, bif_t, bif_f, if_true, if_false, Bool.false_eq_true, reduceCtorEq, Nat.reduceEqDiff, ne_eq, not_false_eq_true, not_true_eq_false, decide_true, decide_false, Bool.not_true, Bool.not_false]
    refine make_ok hP (k := 0) (size := 1 + z) Rc.A R1.I (by decide) (by lia) (by rw [R1.blen]; lia) fun σd Dd => ?_
    obtain ⟨q1, q2, q3, q4⟩ := make_quiet (size := 1 + z) hand0
    have bd : (makeS s1 0 (1 + z)).1.boxes = mkB 1 (L ++ [List.replicate (1 + z) none]) := by rw [q2, R1.bx, R1.md, Nat.add_comm L.length, mkB_push]
    have Rd := Rc.did (L' := L ++ [List.replicate (1 + z) none]) Dd bd (by rw [q4, R1.md]; simp) (make_good R1.I (by decide) (by lia))
    have hhd : (makeS s1 0 (1 + z)).1.hands = hs8 (some (1 + L.length)) top none kept := by rw [q3, hh1, R1.md, Nat.add_comm L.length]; rfl
    have smd : (s1.made : Int) = ((1 + L.length : Nat) : Int) := by rw [R1.md]; lia
    generalize (makeS s1 0 (1 + z)).1 = sd at *
    generalize updF α1 s1.made (List.length σc + 1) = αd at *
    have hxd : (L ++ [List.replicate (1 + z) none])[L.length]? = some (List.replicate (1 + z) none) := by simp
    have had : (ras ++ [a])[L.length]? = some a := by rw [← rl]; simp
    -- what comes behind the first slot
    have behind : ∀ (l' : Loc) (σ' : H) (α' : Nat → Nat) (s' : PS) (L' : List (List (Option Nat))) (xs' : List (Option Nat)), (∀ i, l' i = (((((l.upd 71 (.int (j : Int))).upd 94 (.int cell)).upd 80 (.int ((1 + z : Nat) : Int))).upd 184 (.int (s1.made : Int))).upd 91 (.ref a)) i) →
        Inn σ' n q α' s' L' (ras ++ [a]) RA top kept C0 L.length a (1 + z) xs' → L'.length ≤ L.length + 1 →
        OkS (exs prog (run prog 1000 (d + 5)) 1000 f__law_built_2f_8 l' σ') (fun r l' σ' => r = none ∧ still (.ref ra) τ σ' = true ∧ Out n q RA C0 many keep (j + 1) l' σ') := by
      intro l' σ' α' s' L' xs' hl' N' hL'
      refine oks_step rfl ?_
      rw [s_for]
      have m94 : l' 94 = some (.int cell) := by rw [hl']; simp (disch := decide) only [upd_at, upd_no]
      obtain ⟨w, hw, hw3⟩ := fmod_nat (a := Int.fdiv cell 36) (b := 3) (by decide)
      simp (disch := decide) only [m94, ok_div (b := 36) (by decide) (by decide), ok_mod (b := 3) (by decide), hw, ok_range1, s_expr, exprK_at, s_var, varK_at, s_attr, attrK_at, attrK2_at, s_sub, subK_at, subK2_at, subK3_at, s_ite, iteK_t, iteK_f, s_ret, retK_at, s_ret0, s_pass, runK_some, runK_none, forK_at, turnK_none, turnK_some, whlK_t, whlK_f, tt_not, tt_band, tt_bor, tt_bool, tt_loc, tt_cmp, tt_cmp2, tt_call, tt_meth, tt_isi, tt_attr, tt_sub, tt_bin, tnotF_t, tnotF_f, ta_nil, ta_cons, andF_t, andF_f, to_nil, to_cons, orF_t, orF_f, e_none, e_bool, e_int, e_str, e_loc, e_bin, binF_at, e_not, notF_at, notF2_t, notF2_f, e_band, e_bor, e_cmp, cmpF_at, e_cmp2, cmpG_t, cmpG_f, e_list, listF_at, e_tup, tupF_at, e_dict0, e_attr, attrF_at, e_sub, subF_at, e_call, e_meth, methF_at, e_bi, e_isi, isiF_at, boolF_at, e_comp, es_nil, es_cons, consF_at, consF2_at, ok_bind, bindK_at, bind_pure, bind_lift, ok_pure, ok_lift, List.zip_cons_cons, List.zip_nil_right, List.zip_nil_left, List.foldl_cons, List.foldl_nil, upd_def, Nat.reduceBEq, bif_t, bif_f, if_true, if_false, Bool.false_eq_true, reduceCtorEq, Nat.reduceEqDiff, ne_eq, not_false_eq_true, not_true_eq_false, decide_true, decide_false, Bool.not_true, Bool.not_false]
      have R2 := N'.R.fresh (.rng 0 (w : Int) 1)
      have hr2 : (List.length σ', O.rng 0 (w : Int) 1) ∈ (List.length σ', O.rng 0 (w : Int) 1) :: C0 := .head _
      have hC2 : ∀ p ∈ C0, p ∈ (List.length σ', O.rng 0 (w : Int) 1) :: C0 := fun p hp => .tail _ hp
      generalize (List.length σ', O.rng 0 (w : Int) 1) :: C0 = C2 at *
      have gr2 := (R2.cs _ hr2).1
      generalize H.push σ' (.rng 0 (w : Int) 1) = τ2 at *
      generalize List.length σ' = ra2 at *
      refine ⟨_, it_range0 gr2 (by lia), ?_⟩
      refine f_inv (fun u lu σu => u ≤ w ∧ (∀ i, i ≠ 96 → i ≠ 162 → lu i = l' i) ∧ ∃ αu su Lu rasu xsu, Inn σu n q αu su Lu rasu RA top kept C2 L.length a (1 + z) xsu ∧ Lu.length ≤ L.length + 1 + u) ?_ ?_ ?_
      · exact ⟨Nat.zero_le _, fun _ _ _ => rfl, α', s', L', _, xs', ⟨R2, N'.hh, N'.ha, N'.hx, N'.sz, N'.tp⟩, by lia⟩
      · rintro u lu σu yu hyu ⟨hu, hlu, αu, su, Lu, rasu, xsu, Nu, hLu⟩
        obtain ⟨huw, rfl⟩ := range0_at hyu
        have lk : ∀ i, i ≠ 96 → i ≠ 162 → (lu.upd 162 (.int (u : Int))) i = (((((l.upd 71 (.int (j : Int))).upd 94 (.int cell)).upd 80 (.int ((1 + z : Nat) : Int))).upd 184 (.int (s1.made : Int))).upd 91 (.ref a)) i := fun i h1 h2 => by rw [upd_no h2, hlu i h1 h2, hl']
        refine turn_ok (k := j) (u := u) (cell := cell) Nu (by lia) ht (by lia) ?_ ?_ ?_ ?_ ?_ ?_ ?_ ?_
        · exact (lk _ (by decide) (by decide)).trans rfl
        · exact upd_at
        · exact (lk _ (by decide) (by decide)).trans rfl
        · exact (lk _ (by decide) (by decide)).trans rfl
        · exact (lk _ (by decide) (by decide)).trans rfl
        · exact (lk _ (by decide) (by decide)).trans l89
        · exact (lk _ (by decide) (by decide)).trans l75
        · intro l3 σ3 α3 s3 L3 ras3 xs3 hl3 N3 hL3 hle3
          refine ⟨rfl, still_get ?_, by lia, fun i h1 h2 => by rw [hl3 i h1, upd_no h2, hlu i h1 h2], α3, s3, L3, ras3, xs3, N3, by lia⟩
          rw [gr2]; exact (N3.R.cs _ hr2).1
      · rintro lu σu ⟨_, hlu, αu, su, Lu, rasu, xsu, Nu, hLu⟩
        simp only [List.length_map, List.length_range] at hLu
        have lk : ∀ i, i ≠ 96 → i ≠ 162 → lu i = (((((l.upd 71 (.int (j : Int))).upd 94 (.int cell)).upd 80 (.int ((1 + z : Nat) : Int))).upd 184 (.int (s1.made : Int))).upd 91 (.ref a)) i := fun i h1 h2 => by rw [hlu i h1 h2, hl']
        have k75 : lu 75 = some (.ref (n + 1)) := (lk _ (by decide) (by decide)).trans l75
        have k70 : lu 70 = some (.ref 0) := (lk _ (by decide) (by decide)).trans l70
        have k89 : lu 89 = some (.ref RA) := (lk _ (by decide) (by decide)).trans l89
        have k90 : lu 90 = some (.int (many : Int)) := (lk _ (by decide) (by decide)).trans l90
        have k183 : lu 183 = some (.int (keep : Int)) := (lk _ (by decide) (by decide)).trans l183
        have k71 : lu 71 = some (.int (j : Int)) := (lk _ (by decide) (by decide)).trans rfl
        have k184 : lu 184 = some (.int (s1.made : Int)) := (lk _ (by decide) (by decide)).trans rfl
        obtain ⟨Ru, hhu, hau, hxu, szu, tpu⟩ := Nu
        have hbu : aGet su.boxes (1 + L.length) = some xsu := by rw [Ru.get]; exact hxu
        -- hold(1, 0)
        refine then_step rfl ?_
        have hu0 : handOf su 0 = some (1 + L.length) := by simp [handOf, hhu]
        have hu1 : handOf su 1 = top := by simp [handOf, hhu]
        simp (disch := decide) only [k75, mx_inst Ru.A.p Ru.A.d, s_expr, exprK_at, s_var, varK_at, s_attr, attrK_at, attrK2_at, s_sub, subK_at, subK2_at, subK3_at, s_ite, iteK_t, iteK_f, s_ret, retK_at, s_ret0, s_pass, runK_some, runK_none, forK_at, turnK_none, turnK_some, whlK_t, whlK_f, tt_not, tt_band, tt_bor, tt_bool, tt_loc, tt_cmp, tt_cmp2, tt_call, tt_meth, tt_isi, tt_attr, tt_sub, tt_bin, tnotF_t, tnotF_f, ta_nil, ta_cons, andF_t, andF_f, to_nil, to_cons, orF_t, orF_f, e_none, e_bool, e_int, e_str, e_loc, e_bin, binF_at, e_not, notF_at, notF2_t, notF2_f, e_band, e_bor, e_cmp, cmpF_at, e_cmp2, cmpG_t, cmpG_f, e_list, listF_at, e_tup, tupF_at, e_dict0, e_attr, attrF_at, e_sub, subF_at, e_call, e_meth, methF_at, e_bi, e_isi, isiF_at, boolF_at, e_comp, es_nil, es_cons, consF_at, consF2_at, ok_bind, bindK_at, bind_pure, bind_lift, ok_pure, ok_lift, List.zip_cons_cons, List.zip_nil_right, List.zip_nil_left, List.foldl_cons, List.foldl_nil, upd_def, Nat.reduceBEq, bif_t, bif_f, if_true, if_false, Bool.false_eq_true, reduceCtorEq, Nat.reduceEqDiff, ne_eq, not_false_eq_true, not_true_eq_false, decide_true, decide_false, Bool.not_true, Bool.not_false]
        refine hold_ok hP (k := 1) (j := 0) Ru.A Ru.I (by decide) (by decide) (by rw [Ru.blen]; lia) fun σ4 D4 => ?_
        rw [hu0] at D4
        obtain ⟨a1, a2, a3, a4⟩ := handed_quiet (s := su) (h := 1) (x := some (1 + L.length)) (fun k e => by
          rw [hu1] at e
          exact .inl (two_ptrs (i := 1) Ru.I (by rw [hhu]; show some top = _; rw [e]) hbu (tpu k e)))
        have key0 : 1 + L.length ∈ keys su.boxes := keys_mem (aGet_some_mem hbu)
        have R4' := Ru.did (L' := Lu) D4 (by rw [a2]; exact Ru.bx) (by rw [a4]; exact Ru.md) (handed_good Ru.I (by decide) (fun k e => by cases e; exact key0))
        have hh4 : (handedS su 1 (some (1 + L.length))).1.hands = hs8 (some (1 + L.length)) (some (1 + L.length)) none kept := by rw [a3, hhu]; rfl
        -- drop(0)
        refine then_step rfl ?_
        generalize (handedS su 1 (some (1 + L.length))).1 = s4 at *
        simp (disch := decide) only [k75, mx_inst R4'.A.p R4'.A.d, s_expr, exprK_at, s_var, varK_at, s_attr, attrK_at, attrK2_at, s_sub, subK_at, subK2_at, subK3_at, s_ite, iteK_t, iteK_f, s_ret, retK_at, s_ret0, s_pass, runK_some, runK_none, forK_at, turnK_none, turnK_some, whlK_t, whlK_f, tt_not, tt_band, tt_bor, tt_bool, tt_loc, tt_cmp, tt_cmp2, tt_call, tt_meth, tt_isi, tt_attr, tt_sub, tt_bin, tnotF_t, tnotF_f, ta_nil, ta_cons, andF_t, andF_f, to_nil, to_cons, orF_t, orF_f, e_none, e_bool, e_int, e_str, e_loc, e_bin, binF_at, e_not, notF_at, notF2_t, notF2_f, e_band, e_bor, e_cmp, cmpF_at, e_cmp2, cmpG_t, cmpG_f, e_list, listF_at, e_tup, tupF_at, e_dict0, e_attr, attrF_at, e_sub, subF_at, e_call, e_meth, methF_at, e_bi, e_isi, isiF_at, boolF_at, e_comp, es_nil, es_cons, consF_at, consF2_at, ok_bind, bindK_at, bind_pure, bind_lift, ok_pure, ok_lift, List.zip_cons_cons, List.zip_nil_right, List.zip_nil_left, List.foldl_cons, List.foldl_nil, upd_def, Nat.reduceBEq, bif_t, bif_f, if_true, if_false, Bool.false_eq_true, reduceCtorEq, Nat.reduceEqDiff, ne_eq, not_false_eq_true, not_true_eq_false, decide_true, decide_false, Bool.not_true, Bool.not_false]
        refine drop_ok hP (k := 0) rfl R4'.A R4'.I (by decide) (by rw [R4'.blen]; lia) fun σ5 D5 => ?_
        obtain ⟨b1, b2, b3, b4⟩ := handed_quiet (s := s4) (h := 0) (x := none) (fun k e => by
          rw [show handOf s4 0 = some (1 + L.length) by simp [handOf, hh4]] at e
          cases e
          refine .inl ?_
          rw [R4'.I.ct]
          simp only [ptrs, hh4, List.append_nil, List.count_append, List.count_cons]
          simp
          lia)
        have R5 := R4'.did (L' := Lu) D5 (by rw [b2]; exact R4'.bx) (by rw [b4]; exact R4'.md) (handed_good R4'.I (by decide) (fun k e => by cases e))
        have hh5 : (handedS s4 0 none).1.hands = hs8 none (some (1 + L.length)) none kept := by rw [b3, hh4]; rfl
        generalize (handedS s4 0 none).1 = s5 at *
        -- rooms[0] = mine
        refine then_step rfl ?_
        have set0 : (ov top :: rasu.map V.ref).set ((0 : Int)).toNat (.int (s1.made : Int)) = ov (some (1 + L.length)) :: rasu.map V.ref := by rw [smd]; rfl
        simp (disch := decide) only [k184, k89, ok_setList R5.r (show prog.nf ≤ RA from (R5.no RA (.head _)).2.1) (by decide) (show ((0 : Int)) < ((ov top :: rasu.map V.ref).length : Int) by simp only [List.length_cons]; lia), set0, s_expr, exprK_at, s_var, varK_at, s_attr, attrK_at, attrK2_at, s_sub, subK_at, subK2_at, subK3_at, s_ite, iteK_t, iteK_f, s_ret, retK_at, s_ret0, s_pass, runK_some, runK_none, forK_at, turnK_none, turnK_some, whlK_t, whlK_f, tt_not, tt_band, tt_bor, tt_bool, tt_loc, tt_cmp, tt_cmp2, tt_call, tt_meth, tt_isi, tt_attr, tt_sub, tt_bin, tnotF_t, tnotF_f, ta_nil, ta_cons, andF_t, andF_f, to_nil, to_cons, orF_t, orF_f, e_none, e_bool, e_int, e_str, e_loc, e_bin, binF_at, e_not, notF_at, notF2_t, notF2_f, e_band, e_bor, e_cmp, cmpF_at, e_cmp2, cmpG_t, cmpG_f, e_list, listF_at, e_tup, tupF_at, e_dict0, e_attr, attrF_at, e_sub, subF_at, e_call, e_meth, methF_at, e_bi, e_isi, isiF_at, boolF_at, e_comp, es_nil, es_cons, consF_at, consF2_at, ok_bind, bindK_at, bind_pure, bind_lift, ok_pure, ok_lift, List.zip_cons_cons, List.zip_nil_right, List.zip_nil_left, List.foldl_cons, List.foldl_nil, upd_def, Nat.reduceBEq, bif_t, bif_f, if_true, if_false, Bool.false_eq_true, reduceCtorEq, Nat.reduceEqDiff, ne_eq, not_false_eq_true, not_true_eq_false, decide_true, decide_false, Bool.not_true, Bool.not_false]
        have R6 := R5.setT (ov (some (1 + L.length)))
        generalize σ5.put RA (.list (ov (some (1 + L.length)) :: rasu.map V.ref)) = σ6 at *
        -- hand 3
        refine then_step rfl ?_
        have fin : ∀ σf αf sf keptf, R4 σf n q αf sf Lu Lu rasu RA (ov (some (1 + L.length))) C2 → sf.hands = hs8 none (some (1 + L.length)) none keptf → (j + 1 ≤ keep → keptf = none) → (none : Option V) = none ∧ still (.ref ra) τ σf = true ∧ Out n q RA C0 many keep (j + 1) lu σf := by
          intro σf αf sf keptf Rf hf hkf
          refine ⟨rfl, still_get ?_, by lia, k75, k70, k89, k90, k183, αf, sf, Lu, rasu, some (1 + L.length), keptf, Rf.less hC2, hf, fun _ => ⟨_, rfl⟩, fun h => absurd h (by lia), by lia, hkf⟩
          rw [gr]; exact (Rf.cs _ (hC2 _ hr0)).1
        by_cases hjk : j = keep
        · subst hjk
          have t1 : (j : Int) = (j : Int) := rfl
          simp (disch := decide) only [k71, k183, ok_eqI, t1, ok_truthb, s_expr, exprK_at, s_var, varK_at, s_attr, attrK_at, attrK2_at, s_sub, subK_at, subK2_at, subK3_at, s_ite, iteK_t, iteK_f, s_ret, retK_at, s_ret0, s_pass, runK_some, runK_none, forK_at, turnK_none, turnK_some, whlK_t, whlK_f, tt_not, tt_band, tt_bor, tt_bool, tt_loc, tt_cmp, tt_cmp2, tt_call, tt_meth, tt_isi, tt_attr, tt_sub, tt_bin, tnotF_t, tnotF_f, ta_nil, ta_cons, andF_t, andF_f, to_nil, to_cons, orF_t, orF_f, e_none, e_bool, e_int, e_str, e_loc, e_bin, binF_at, e_not, notF_at, notF2_t, notF2_f, e_band, e_bor, e_cmp, cmpF_at, e_cmp2, cmpG_t, cmpG_f, e_list, listF_at, e_tup, tupF_at, e_dict0, e_attr, attrF_at, e_sub, subF_at, e_call, e_meth, methF_at, e_bi, e_isi, isiF_at, boolF_at, e_comp, es_nil, es_cons, consF_at, consF2_at, ok_bind, bindK_at, bind_pure, bind_lift, ok_pure, ok_lift, List.zip_cons_cons, List.zip_nil_right, List.zip_nil_left, List.foldl_cons, List.foldl_nil, upd_def, Nat.reduceBEq, bif_t, bif_f, if_true, if_false, Bool.false_eq_true, reduceCtorEq, Nat.reduceEqDiff, ne_eq, not_false_eq_true, not_true_eq_false, decide_true, decide_false, Bool.not_true, Bool.not_false]
          simp (disch := decide) only [k70, k90, s_expr, exprK_at, s_var, varK_at, s_attr, attrK_at, attrK2_at, s_sub, subK_at, subK2_at, subK3_at, s_ite, iteK_t, iteK_f, s_ret, retK_at, s_ret0, s_pass, runK_some, runK_none, forK_at, turnK_none, turnK_some, whlK_t, whlK_f, tt_not, tt_band, tt_bor, tt_bool, tt_loc, tt_cmp, tt_cmp2, tt_call, tt_meth, tt_isi, tt_attr, tt_sub, tt_bin, tnotF_t, tnotF_f, ta_nil, ta_cons, andF_t, andF_f, to_nil, to_cons, orF_t, orF_f, e_none, e_bool, e_int, e_str, e_loc, e_bin, binF_at, e_not, notF_at, notF2_t, notF2_f, e_band, e_bor, e_cmp, cmpF_at, e_cmp2, cmpG_t, cmpG_f, e_list, listF_at, e_tup, tupF_at, e_dict0, e_attr, attrF_at, e_sub, subF_at, e_call, e_meth, methF_at, e_bi, e_isi, isiF_at, boolF_at, e_comp, es_nil, es_cons, consF_at, consF2_at, ok_bind, bindK_at, bind_pure, bind_lift, ok_pure, ok_lift, List.zip_cons_cons, List.zip_nil_right, List.zip_nil_left, List.foldl_cons, List.foldl_nil, upd_def, Nat.reduceBEq, bif_t, bif_f, if_true, if_false, Bool.false_eq_true, reduceCtorEq, Nat.reduceEqDiff, ne_eq, not_false_eq_true, not_true_eq_false, decide_true, decide_false, Bool.not_true, Bool.not_false]
          refine cell_ok hL (k := 1) (R6.cs _ (hC2 _ hC0)).1 ?_
          have hsm : small (many : Int) = true := by unfold small; simp; lia
          by_cases hodd : Int.fmod (Int.fdiv (cellAt ns 1) (many : Int)) 2 = 1
          · simp (disch := decide) only [k90, ok_div (show (many : Int) ≠ 0 by lia) hsm, ok_mod (b := 2) (by decide), ok_eqI, hodd, ok_truthb, s_expr, exprK_at, s_var, varK_at, s_attr, attrK_at, attrK2_at, s_sub, subK_at, subK2_at, subK3_at, s_ite, iteK_t, iteK_f, s_ret, retK_at, s_ret0, s_pass, runK_some, runK_none, forK_at, turnK_none, turnK_some, whlK_t, whlK_f, tt_not, tt_band, tt_bor, tt_bool, tt_loc, tt_cmp, tt_cmp2, tt_call, tt_meth, tt_isi, tt_attr, tt_sub, tt_bin, tnotF_t, tnotF_f, ta_nil, ta_cons, andF_t, andF_f, to_nil, to_cons, orF_t, orF_f, e_none, e_bool, e_int, e_str, e_loc, e_bin, binF_at, e_not, notF_at, notF2_t, notF2_f, e_band, e_bor, e_cmp, cmpF_at, e_cmp2, cmpG_t, cmpG_f, e_list, listF_at, e_tup, tupF_at, e_dict0, e_attr, attrF_at, e_sub, subF_at, e_call, e_meth, methF_at, e_bi, e_isi, isiF_at, boolF_at, e_comp, es_nil, es_cons, consF_at, consF2_at, ok_bind, bindK_at, bind_pure, bind_lift, ok_pure, ok_lift, List.zip_cons_cons, List.zip_nil_right, List.zip_nil_left, List.foldl_cons, List.foldl_nil, upd_def, Nat.reduceBEq, bif_t, bif_f, if_true, if_false, Bool.false_eq_true, reduceCtorEq, Nat.reduceEqDiff, ne_eq, not_false_eq_true, not_true_eq_false, decide_true, decide_false, Bool.not_true, Bool.not_false]
            refine oks_step rfl ?_
            simp (disch := decide) only [k75, mx_inst R6.A.p R6.A.d, s_expr, exprK_at, s_var, varK_at, s_attr, attrK_at, attrK2_at, s_sub, subK_at, subK2_at, subK3_at, s_ite, iteK_t, iteK_f, s_ret, retK_at, s_ret0, s_pass, runK_some, runK_none, forK_at, turnK_none, turnK_some, whlK_t, whlK_f, tt_not, tt_band, tt_bor, tt_bool, tt_loc, tt_cmp, tt_cmp2, tt_call, tt_meth, tt_isi, tt_attr, tt_sub, tt_bin, tnotF_t, tnotF_f, ta_nil, ta_cons, andF_t, andF_f, to_nil, to_cons, orF_t, orF_f, e_none, e_bool, e_int, e_str, e_loc, e_bin, binF_at, e_not, notF_at, notF2_t, notF2_f, e_band, e_bor, e_cmp, cmpF_at, e_cmp2, cmpG_t, cmpG_f, e_list, listF_at, e_tup, tupF_at, e_dict0, e_attr, attrF_at, e_sub, subF_at, e_call, e_meth, methF_at, e_bi, e_isi, isiF_at, boolF_at, e_comp, es_nil, es_cons, consF_at, consF2_at, ok_bind, bindK_at, bind_pure, bind_lift, ok_pure, ok_lift, List.zip_cons_cons, List.zip_nil_right, List.zip_nil_left, List.foldl_cons, List.foldl_nil, upd_def, Nat.reduceBEq, bif_t, bif_f, if_true, if_false, Bool.false_eq_true, reduceCtorEq, Nat.reduceEqDiff, ne_eq, not_false_eq_true, not_true_eq_false, decide_true, decide_false, Bool.not_true, Bool.not_false]
            refine hold_ok hP (k := 3) (j := 1) R6.A R6.I (by decide) (by decide) (by rw [R6.blen]; lia) fun σ7 D7 => ?_
            have h51 : handOf s5 1 = some (1 + L.length) := by simp [handOf, hh5]
            rw [h51] at D7
            have kn : kept = none := hkept (Nat.le_refl _)
            subst kn
            obtain ⟨c1, c2, c3, c4⟩ := handed_quiet (s := s5) (h := 3) (x := some (1 + L.length)) (fun k e => by rw [show handOf s5 3 = none by simp [handOf, hh5]] at e; cases e)
            have R7 := R6.did (L' := Lu) D7 (by rw [c2]; exact R6.bx) (by rw [c4]; exact R6.md) (handed_good R6.I (by decide) (fun k e => R6.I.hand_key (h := 1) (by rw [h51]; exact e)))
            exact fin _ _ _ _ R7 (by rw [c3, hh5]; rfl) (fun h => absurd h (by lia))
          · simp (disch := decide) only [k90, ok_div (show (many : Int) ≠ 0 by lia) hsm, ok_mod (b := 2) (by decide), ok_eqI, hodd, ok_truthb, s_expr, exprK_at, s_var, varK_at, s_attr, attrK_at, attrK2_at, s_sub, subK_at, subK2_at, subK3_at, s_ite, iteK_t, iteK_f, s_ret, retK_at, s_ret0, s_pass, runK_some, runK_none, forK_at, turnK_none, turnK_some, whlK_t, whlK_f, tt_not, tt_band, tt_bor, tt_bool, tt_loc, tt_cmp, tt_cmp2, tt_call, tt_meth, tt_isi, tt_attr, tt_sub, tt_bin, tnotF_t, tnotF_f, ta_nil, ta_cons, andF_t, andF_f, to_nil, to_cons, orF_t, orF_f, e_none, e_bool, e_int, e_str, e_loc, e_bin, binF_at, e_not, notF_at, notF2_t, notF2_f, e_band, e_bor, e_cmp, cmpF_at, e_cmp2, cmpG_t, cmpG_f, e_list, listF_at, e_tup, tupF_at, e_dict0, e_attr, attrF_at, e_sub, subF_at, e_call, e_meth, methF_at, e_bi, e_isi, isiF_at, boolF_at, e_comp, es_nil, es_cons, consF_at, consF2_at, ok_bind, bindK_at, bind_pure, bind_lift, ok_pure, ok_lift, List.zip_cons_cons, List.zip_nil_right, List.zip_nil_left, List.foldl_cons, List.foldl_nil, upd_def, Nat.reduceBEq, bif_t, bif_f, if_true, if_false, Bool.false_eq_true, reduceCtorEq, Nat.reduceEqDiff, ne_eq, not_false_eq_true, not_true_eq_false, decide_true, decide_false, Bool.not_true, Bool.not_false]
            exact fin _ _ _ _ R6 hh5 (fun h => absurd h (by lia))
        · have t1 : ¬ ((j : Int) = (keep : Int)) := by lia
          simp (disch := decide) only [k71, k183, ok_eqI, t1, ok_truthb, s_expr, exprK_at, s_var, varK_at, s_attr, attrK_at, attrK2_at, s_sub, subK_at, subK2_at, subK3_at, s_ite, iteK_t, iteK_f, s_ret, retK_at, s_ret0, s_pass, runK_some, runK_none, forK_at, turnK_none, turnK_some, whlK_t, whlK_f, tt_not, tt_band, tt_bor, tt_bool, tt_loc, tt_cmp, tt_cmp2, tt_call, tt_meth, tt_isi, tt_attr, tt_sub, tt_bin, tnotF_t, tnotF_f, ta_nil, ta_cons, andF_t, andF_f, to_nil, to_cons, orF_t, orF_f, e_none, e_bool, e_int, e_str, e_loc, e_bin, binF_at, e_not, notF_at, notF2_t, notF2_f, e_band, e_bor, e_cmp, cmpF_at, e_cmp2, cmpG_t, cmpG_f, e_list, listF_at, e_tup, tupF_at, e_dict0, e_attr, attrF_at, e_sub, subF_at, e_call, e_meth, methF_at, e_bi, e_isi, isiF_at, boolF_at, e_comp, es_nil, es_cons, consF_at, consF2_at, ok_bind, bindK_at, bind_pure, bind_lift, ok_pure, ok_lift, List.zip_cons_cons, List.zip_nil_right, List.zip_nil_left, List.foldl_cons, List.foldl_nil, upd_def, Nat.reduceBEq, bif_t, bif_f, if_true, if_false, Bool.false_eq_true, reduceCtorEq, Nat.reduceEqDiff, ne_eq, not_false_eq_true, not_true_eq_false, decide_true, decide_false, Bool.not_true, Bool.not_false]
          exact fin _ _ _ _ R6 hh5 (fun h => hkept (by lia))
    -- the first slot
    refine then_step rfl ?_
    by_cases hj0 : 0 < j
    · have hj0' : (j : Int) > 0 := by lia
      obtain ⟨m, rfl⟩ := ht hj0
      obtain ⟨p, hp, hpz⟩ := fmod_nat (a := Int.fdiv cell 6) (b := ((1 + z : Nat) : Int)) (by lia)
      simp (disch := decide) only [ok_gt, hj0', ok_truthb, s_expr, exprK_at, s_var, varK_at, s_attr, attrK_at, attrK2_at, s_sub, subK_at, subK2_at, subK3_at, s_ite, iteK_t, iteK_f, s_ret, retK_at, s_ret0, s_pass, runK_some, runK_none, forK_at, turnK_none, turnK_some, whlK_t, whlK_f, tt_not, tt_band, tt_bor, tt_bool, tt_loc, tt_cmp, tt_cmp2, tt_call, tt_meth, tt_isi, tt_attr, tt_sub, tt_bin, tnotF_t, tnotF_f, ta_nil, ta_cons, andF_t, andF_f, to_nil, to_cons, orF_t, orF_f, e_none, e_bool, e_int, e_str, e_loc, e_bin, binF_at, e_not, notF_at, notF2_t, notF2_f, e_band, e_bor, e_cmp, cmpF_at, e_cmp2, cmpG_t, cmpG_f, e_list, listF_at, e_tup, tupF_at, e_dict0, e_attr, attrF_at, e_sub, subF_at, e_call, e_meth, methF_at, e_bi, e_isi, isiF_at, boolF_at, e_comp, es_nil, es_cons, consF_at, consF2_at, ok_bind, bindK_at, bind_pure, bind_lift, ok_pure, ok_lift, List.zip_cons_cons, List.zip_nil_right, List.zip_nil_left, List.foldl_cons, List.foldl_nil, upd_def, Nat.reduceBEq, bif_t, bif_f, if_true, if_false, Bool.false_eq_true, reduceCtorEq, Nat.reduceEqDiff, ne_eq, not_false_eq_true, not_true_eq_false, decide_true, decide_false, Bool.not_true, Bool.not_false]
      refine oks_step rfl ?_
      have gT : (ov (some m) :: (ras ++ [a]).map V.ref)[((0 : Int)).toNat]? = some (ov (some m)) := rfl
      have haR := Rd.ro L.length a (List.replicate (1 + z) none) had hxd
      have hsetp : ((List.replicate (1 + z) (none : Option Nat)).map ov).set ((p : Int)).toNat (ov (some m)) = ((List.replicate (1 + z) none).set p (some m)).map ov := by rw [List.map_set]; rfl
      have hltp : (p : Int) < (((List.replicate (1 + z) (none : Option Nat)).map ov).length : Int) := by simp; lia
      have nfa : prog.nf ≤ a := pos1
      simp (disch := decide) only [l89, ok_getList Rd.r (by decide) gT, ok_div (b := 6) (by decide) (by decide), ok_mod (show ((1 + z : Nat) : Int) ≠ 0 by lia), hp, ok_setList haR nfa (Int.natCast_nonneg _) hltp, hsetp, s_expr, exprK_at, s_var, varK_at, s_attr, attrK_at, attrK2_at, s_sub, subK_at, subK2_at, subK3_at, s_ite, iteK_t, iteK_f, s_ret, retK_at, s_ret0, s_pass, runK_some, runK_none, forK_at, turnK_none, turnK_some, whlK_t, whlK_f, tt_not, tt_band, tt_bor, tt_bool, tt_loc, tt_cmp, tt_cmp2, tt_call, tt_meth, tt_isi, tt_attr, tt_sub, tt_bin, tnotF_t, tnotF_f, ta_nil, ta_cons, andF_t, andF_f, to_nil, to_cons, orF_t, orF_f, e_none, e_bool, e_int, e_str, e_loc, e_bin, binF_at, e_not, notF_at, notF2_t, notF2_f, e_band, e_bor, e_cmp, cmpF_at, e_cmp2, cmpG_t, cmpG_f, e_list, listF_at, e_tup, tupF_at, e_dict0, e_attr, attrF_at, e_sub, subF_at, e_call, e_meth, methF_at, e_bi, e_isi, isiF_at, boolF_at, e_comp, es_nil, es_cons, consF_at, consF2_at, ok_bind, bindK_at, bind_pure, bind_lift, ok_pure, ok_lift, List.zip_cons_cons, List.zip_nil_right, List.zip_nil_left, List.foldl_cons, List.foldl_nil, upd_def, Nat.reduceBEq, bif_t, bif_f, if_true, if_false, Bool.false_eq_true, reduceCtorEq, Nat.reduceEqDiff, ne_eq, not_false_eq_true, not_true_eq_false, decide_true, decide_false, Bool.not_true, Bool.not_false]
      have Re := Rd.setK (i := L.length) (ys := (List.replicate (1 + z) none).set p (some m)) had hxd
      generalize σd.put a (.list (((List.replicate (1 + z) none).set p (some m)).map ov)) = σe at *
      refine then_step rfl ?_
      simp (disch := decide) only [l75, mx_inst Re.A.p Re.A.d, ok_div (b := 6) (by decide) (by decide), ok_mod (show ((1 + z : Nat) : Int) ≠ 0 by lia), hp, s_expr, exprK_at, s_var, varK_at, s_attr, attrK_at, attrK2_at, s_sub, subK_at, subK2_at, subK3_at, s_ite, iteK_t, iteK_f, s_ret, retK_at, s_ret0, s_pass, runK_some, runK_none, forK_at, turnK_none, turnK_some, whlK_t, whlK_f, tt_not, tt_band, tt_bor, tt_bool, tt_loc, tt_cmp, tt_cmp2, tt_call, tt_meth, tt_isi, tt_attr, tt_sub, tt_bin, tnotF_t, tnotF_f, ta_nil, ta_cons, andF_t, andF_f, to_nil, to_cons, orF_t, orF_f, e_none, e_bool, e_int, e_str, e_loc, e_bin, binF_at, e_not, notF_at, notF2_t, notF2_f, e_band, e_bor, e_cmp, cmpF_at, e_cmp2, cmpG_t, cmpG_f, e_list, listF_at, e_tup, tupF_at, e_dict0, e_attr, attrF_at, e_sub, subF_at, e_call, e_meth, methF_at, e_bi, e_isi, isiF_at, boolF_at, e_comp, es_nil, es_cons, consF_at, consF2_at, ok_bind, bindK_at, bind_pure, bind_lift, ok_pure, ok_lift, List.zip_cons_cons, List.zip_nil_right, List.zip_nil_left, List.foldl_cons, List.foldl_nil, upd_def, Nat.reduceBEq, bif_t, bif_f, if_true, if_false, Bool.false_eq_true, reduceCtorEq, Nat.reduceEqDiff, ne_eq, not_false_eq_true, not_true_eq_false, decide_true, decide_false, Bool.not_true, Bool.not_false]
      have hbd : aGet sd.boxes (1 + L.length) = some (List.replicate (1 + z) none) := by rw [Rd.get]; exact hxd
      have hd0 : handOf sd 0 = some (1 + L.length) := by simp [handOf, hhd]
      have hd1 : handOf sd 1 = some m := by simp [handOf, hhd]
      refine put_ok hP (k := 0) (i := p) (j := 1) rfl rfl rfl Re.A Re.I (by decide) (by decide) hd0 hbd (by simp; lia) (by rw [Re.blen]; simp; lia) fun σf Df => ?_
      rw [hd1] at Df
      have hsd : slotsOf sd (1 + L.length) = List.replicate (1 + z) none := by unfold slotsOf; rw [hbd]; rfl
      obtain ⟨p1, p2, p3, p4⟩ := pointed_quiet (s := sd) (b := 1 + L.length) (i := p) (x := some m) (fun k e => by
        unfold slotOf at e; rw [hsd] at e; simp [List.getElem?_replicate] at e
        split at e <;> simp at e)
      have bf : (pointedS sd (1 + L.length) p (some m)).1.boxes = mkB 1 ((L ++ [List.replicate (1 + z) none]).set L.length ((List.replicate (1 + z) none).set p (some m))) := by rw [p2, hsd, Rd.bx, mkB_set _ _ _ _ (by simp)]
      have Rf := Re.did (L' := (L ++ [List.replicate (1 + z) none]).set L.length ((List.replicate (1 + z) none).set p (some m))) Df bf (by rw [p4, Rd.md]; simp) (pointed_good Rd.I hbd (by simp; lia) (fun k e => Rd.I.hand_key (h := 1) (by rw [hd1]; exact e)))
      refine behind _ σf _ _ _ _ (fun i => rfl) ⟨Rf, by rw [p3]; exact hhd, had, List.getElem?_set_self (by simp), by simp, fun k e => ?_⟩ (by simp)
      cases e
      exact List.mem_of_getElem? (List.getElem?_set_self (by simp; lia))
    · have hj0' : ¬ ((j : Int) > 0) := by lia
      simp (disch := decide) only [ok_gt, hj0', ok_truthb, s_expr, exprK_at, s_var, varK_at, s_attr, attrK_at, attrK2_at, s_sub, subK_at, subK2_at, subK3_at, s_ite, iteK_t, iteK_f, s_ret, retK_at, s_ret0, s_pass, runK_some, runK_none, forK_at, turnK_none, turnK_some, whlK_t, whlK_f, tt_not, tt_band, tt_bor, tt_bool, tt_loc, tt_cmp, tt_cmp2, tt_call, tt_meth, tt_isi, tt_attr, tt_sub, tt_bin, tnotF_t, tnotF_f, ta_nil, ta_cons, andF_t, andF_f, to_nil, to_cons, orF_t, orF_f, e_none, e_bool, e_int, e_str, e_loc, e_bin, binF_at, e_not, notF_at, notF2_t, notF2_f, e_band, e_bor, e_cmp, cmpF_at, e_cmp2, cmpG_t, cmpG_f, e_list, listF_at, e_tup, tupF_at, e_dict0, e_attr, attrF_at, e_sub, subF_at, e_call, e_meth, methF_at, e_bi, e_isi, isiF_at, boolF_at, e_comp, es_nil, es_cons, consF_at, consF2_at, ok_bind, bindK_at, bind_pure, bind_lift, ok_pure, ok_lift, List.zip_cons_cons, List.zip_nil_right, List.zip_nil_left, List.foldl_cons, List.foldl_nil, upd_def, Nat.reduceBEq, bif_t, bif_f, if_true, if_false, Bool.false_eq_true, reduceCtorEq, Nat.reduceEqDiff, ne_eq, not_false_eq_true, not_true_eq_false, decide_true, decide_false, Bool.not_true, Bool.not_false]
      have t0 := ht0 (by lia)
      refine behind _ σd _ _ _ _ (fun i => rfl) ⟨Rd, hhd, had, hxd, by simp, fun k e => by rw [t0] at e; cases e⟩ (by simp)
  · rintro l σj ⟨_, l75, l70, l89, l90, l183, α1, s1, L, ras, top, kept, R1, hh1, ht, ht0, hLl, hkept⟩
    simp only [List.length_map, List.length_range] at ht hLl
    obtain ⟨m, rfl⟩ := ht (by lia)
    refine then_step rfl ?_
    simp (disch := decide) only [l75, mx_inst R1.A.p R1.A.d, s_expr, exprK_at, s_var, varK_at, s_attr, attrK_at, attrK2_at, s_sub, subK_at, subK2_at, subK3_at, s_ite, iteK_t, iteK_f, s_ret, retK_at, s_ret0, s_pass, runK_some, runK_none, forK_at, turnK_none, turnK_some, whlK_t, whlK_f, tt_not, tt_band, tt_bor, tt_bool, tt_loc, tt_cmp, tt_cmp2, tt_call, tt_meth, tt_isi, tt_attr, tt_sub, tt_bin, tnotF_t, tnotF_f, ta_nil, ta_cons, andF_t, andF_f, to_nil, to_cons, orF_t, orF_f, e_none, e_bool, e_int, e_str, e_loc, e_bin, binF_at, e_not, notF_at, notF2_t, notF2_f, e_band, e_bor, e_cmp, cmpF_at, e_cmp2, cmpG_t, cmpG_f, e_list, listF_at, e_tup, tupF_at, e_dict0, e_attr, attrF_at, e_sub, subF_at, e_call, e_meth, methF_at, e_bi, e_isi, isiF_at, boolF_at, e_comp, es_nil, es_cons, consF_at, consF2_at, ok_bind, bindK_at, bind_pure, bind_lift, ok_pure, ok_lift, List.zip_cons_cons, List.zip_nil_right, List.zip_nil_left, List.foldl_cons, List.foldl_nil, upd_def, Nat.reduceBEq, bif_t, bif_f, if_true, if_false, Bool.false_eq_true, reduceCtorEq, Nat.reduceEqDiff, ne_eq, not_false_eq_true, not_true_eq_false, decide_true, decide_false, Bool.not_true, Bool.not_false]
    refine holds_ok hP (k := 3) R1.A R1.I.hl (by decide) ?_
    rw [show handOf s1 3 = kept by simp [handOf, hh1]]
    exact h σj α1 s1 L ras m kept (R1.less hCC) hh1 (by lia)
end Mine.L04

set_option autoImplicit false
set_option linter.unusedSimpArgs false
set_option linter.unusedVariables false
namespace Mine.L04
open Mine
open PySem (Str PyData)

theorem set_range {α : Type} {N k : Nat} {f : Nat → α} {v : α} : ((List.range N).map f).set k v = (List.range N).map (fun i => if i = k then v else f i) := by
  apply List.ext_getElem?
  intro i
  rw [List.getElem?_set]
  by_cases e : k = i
  · subst e
    by_cases h : k < N <;> simp [h]
  · simp [e, Ne.symm e]
    by_cases h : i < N <;> simp [h, Ne.symm e]

noncomputable def cts (N : Nat) (l : List (Option Nat)) : List V := (List.range N).map fun i => V.int ((l.count (some i) : Nat) : Int)
theorem cts_get {N k : Nat} {l : List (Option Nat)} (h : k < N) : (cts N l)[((k : Nat) : Int).toNat]? = some (.int ((l.count (some k) : Nat) : Int)) := by simp [cts, h]
theorem cts_add {N k : Nat} {l : List (Option Nat)} : (cts N l).set ((k : Nat) : Int).toNat (.int (((l.count (some k) : Nat) : Int) + 1)) = cts N (l ++ [some k]) := by
  unfold cts
  rw [Int.toNat_natCast, set_range]
  refine List.map_congr_left fun i _ => ?_
  by_cases e : i = k
  · subst e; simp
  · simp [e, List.count_append, List.count_cons, Ne.symm e]
theorem cts_none {N : Nat} {l : List (Option Nat)} : cts N (l ++ [none]) = cts N l := by
  unfold cts; simp [List.count_append, List.count_cons]

theorem weights_ok {σ : H} {RA d : Nat} {rs : List Nat} {Ks : List (List (Option Nat))} {Q : V → H → Prop} (hr : σ.get RA = some (.list (rs.map .ref))) (hl : rs.length = Ks.length) (hl2 : rs.length ≤ 1000) (h1 : 1 ≤ RA)
    (ho : ∀ (i a : Nat) (xs : List (Option Nat)), rs[i]? = some a → Ks[i]? = some xs → σ.get a = some (.list (xs.map ov))) (hk : ∀ xs ∈ Ks, ∀ k, some k ∈ xs → k < rs.length)
    (h : ∀ σ', σ'.get σ.length = some (.list (cts rs.length Ks.flatten)) → σ'.length = σ.length + 1 → (∀ a, a < σ.length → σ'.get a = σ.get a) → Q (.ref σ.length) σ') :
    Ok (run prog 1000 (d + 1) false 185 [.ref RA]) σ Q := by
  rw [ok_run (fd := f__law_weights) rfl rfl]
  unfold f__law_weights
  have hlim : lim = 1000000 := rfl
  have hRA := get_lt hr
  refine oks_step rfl ?_
  simp (disch := decide) only [s_expr, exprK_at, s_var, varK_at, s_attr, attrK_at, attrK2_at, s_sub, subK_at, subK2_at, subK3_at, s_ite, iteK_t, iteK_f, s_ret, retK_at, s_ret0, s_pass, runK_some, runK_none, forK_at, turnK_none, turnK_some, whlK_t, whlK_f, tt_not, tt_band, tt_bor, tt_bool, tt_loc, tt_cmp, tt_cmp2, tt_call, tt_meth, tt_isi, tt_attr, tt_sub, tt_bin, tnotF_t, tnotF_f, ta_nil, ta_cons, andF_t, andF_f, to_nil, to_cons, orF_t, orF_f, e_none, e_bool, e_int, e_str, e_loc, e_bin, binF_at, e_not, notF_at, notF2_t, notF2_f, e_band, e_bor, e_cmp, cmpF_at, e_cmp2, cmpG_t, cmpG_f, e_list, listF_at, e_tup, tupF_at, e_dict0, e_attr, attrF_at, e_sub, subF_at, e_call, e_meth, methF_at, e_bi, e_isi, isiF_at, boolF_at, e_comp, es_nil, es_cons, consF_at, consF2_at, ok_bind, bindK_at, bind_pure, bind_lift, ok_pure, ok_lift, List.zip_cons_cons, List.zip_nil_right, List.zip_nil_left, List.foldl_cons, List.foldl_nil, upd_def, Nat.reduceBEq, bif_t, bif_f, if_true, if_false, Bool.false_eq_true, reduceCtorEq, Nat.reduceEqDiff, ne_eq, not_false_eq_true, not_true_eq_false, decide_true, decide_false, Bool.not_true, Bool.not_false]
  rw [c_pure (fun _ => true) (fun _ => .int 0) (it_list hr) (fun y _ => rfl) (fun y _ _ => rfl) (by have : (List.filter (fun _ => true) (List.map V.ref rs)) = List.map V.ref rs := List.filter_eq_self.mpr (fun _ _ => rfl); rw [this]; simp [hlim]; lia)]
  have e0 : List.map (fun _ => V.int 0) (List.filter (fun _ => true) (List.map V.ref rs)) = cts rs.length [] := by
    have : (List.filter (fun _ => true) (List.map V.ref rs)) = List.map V.ref rs := List.filter_eq_self.mpr (fun _ _ => rfl)
    rw [this]
    unfold cts
    apply List.ext_getElem?
    intro i
    by_cases hi : i < rs.length <;> simp [hi]
  rw [e0]
  have g0 : (σ.push (.list (cts rs.length []))).get σ.length = some (.list (cts rs.length [])) := get_push_eq
  have l0 : (σ.push (.list (cts rs.length []))).length = σ.length + 1 := len_push
  have k0 : ∀ a, a < σ.length → (σ.push (.list (cts rs.length []))).get a = σ.get a := fun a ha => get_push_lt ha
  generalize σ.push (.list (cts rs.length [])) = τ at *
  generalize hWA : σ.length = WA at *
  refine then_step rfl ?_
  rw [s_for]
  simp (disch := decide) only [s_expr, exprK_at, s_var, varK_at, s_attr, attrK_at, attrK2_at, s_sub, subK_at, subK2_at, subK3_at, s_ite, iteK_t, iteK_f, s_ret, retK_at, s_ret0, s_pass, runK_some, runK_none, forK_at, turnK_none, turnK_some, whlK_t, whlK_f, tt_not, tt_band, tt_bor, tt_bool, tt_loc, tt_cmp, tt_cmp2, tt_call, tt_meth, tt_isi, tt_attr, tt_sub, tt_bin, tnotF_t, tnotF_f, ta_nil, ta_cons, andF_t, andF_f, to_nil, to_cons, orF_t, orF_f, e_none, e_bool, e_int, e_str, e_loc, e_bin, binF_at, e_not, notF_at, notF2_t, notF2_f, e_band, e_bor, e_cmp, cmpF_at, e_cmp2, cmpG_t, cmpG_f, e_list, listF_at, e_tup, tupF_at, e_dict0, e_attr, attrF_at, e_sub, subF_at, e_call, e_meth, methF_at, e_bi, e_isi, isiF_at, boolF_at, e_comp, es_nil, es_cons, consF_at, consF2_at, ok_bind, bindK_at, bind_pure, bind_lift, ok_pure, ok_lift, List.zip_cons_cons, List.zip_nil_right, List.zip_nil_left, List.foldl_cons, List.foldl_nil, upd_def, Nat.reduceBEq, bif_t, bif_f, if_true, if_false, Bool.false_eq_true, reduceCtorEq, Nat.reduceEqDiff, ne_eq, not_false_eq_true, not_true_eq_false, decide_true, decide_false, Bool.not_true, Bool.not_false]
  have hrτ : τ.get RA = some (.list (rs.map .ref)) := by rw [k0 _ hRA]; exact hr
  refine ⟨_, it_list hrτ, ?_⟩
  refine f_inv (fun j l σj => j ≤ rs.length ∧ l 186 = some (.ref WA) ∧ σj.get WA = some (.list (cts rs.length (Ks.take j).flatten)) ∧ σj.length = WA + 1 ∧ (∀ a, a < WA → σj.get a = σ.get a)) ?_ ?_ ?_
  · exact ⟨Nat.zero_le _, upd_at, by simpa using g0, l0, k0⟩
  · rintro j l σj y hy ⟨hj, m186, gj, lj, kj⟩
    obtain ⟨a, ha, rfl⟩ : ∃ a, rs[j]? = some a ∧ y = .ref a := by
      rw [List.getElem?_map] at hy
      obtain ⟨a, h1, h2⟩ := Option.map_eq_some_iff.mp hy
      exact ⟨a, h1, h2.symm⟩
    have hjl : j < rs.length := (List.getElem?_eq_some_iff.mp ha).1
    have hKj : Ks[j]? = some Ks[j] := List.getElem?_eq_getElem (by lia)
    have hca := ho j a _ ha hKj
    have halt : a < WA := by rw [← hWA]; exact get_lt hca
    generalize hxs : Ks[j] = xs at *
    have hxm : xs ∈ Ks := List.mem_of_getElem? hKj
    refine oks_step rfl ?_
    rw [s_for]
    simp (disch := decide) only [s_expr, exprK_at, s_var, varK_at, s_attr, attrK_at, attrK2_at, s_sub, subK_at, subK2_at, subK3_at, s_ite, iteK_t, iteK_f, s_ret, retK_at, s_ret0, s_pass, runK_some, runK_none, forK_at, turnK_none, turnK_some, whlK_t, whlK_f, tt_not, tt_band, tt_bor, tt_bool, tt_loc, tt_cmp, tt_cmp2, tt_call, tt_meth, tt_isi, tt_attr, tt_sub, tt_bin, tnotF_t, tnotF_f, ta_nil, ta_cons, andF_t, andF_f, to_nil, to_cons, orF_t, orF_f, e_none, e_bool, e_int, e_str, e_loc, e_bin, binF_at, e_not, notF_at, notF2_t, notF2_f, e_band, e_bor, e_cmp, cmpF_at, e_cmp2, cmpG_t, cmpG_f, e_list, listF_at, e_tup, tupF_at, e_dict0, e_attr, attrF_at, e_sub, subF_at, e_call, e_meth, methF_at, e_bi, e_isi, isiF_at, boolF_at, e_comp, es_nil, es_cons, consF_at, consF2_at, ok_bind, bindK_at, bind_pure, bind_lift, ok_pure, ok_lift, List.zip_cons_cons, List.zip_nil_right, List.zip_nil_left, List.foldl_cons, List.foldl_nil, upd_def, Nat.reduceBEq, bif_t, bif_f, if_true, if_false, Bool.false_eq_true, reduceCtorEq, Nat.reduceEqDiff, ne_eq, not_false_eq_true, not_true_eq_false, decide_true, decide_false, Bool.not_true, Bool.not_false]
    have hcj : σj.get a = some (.list (xs.map ov)) := by rw [kj a halt]; exact hca
    refine ⟨_, it_list hcj, ?_⟩
    refine f_inv (fun u lu σu => u ≤ xs.length ∧ lu 186 = some (.ref WA) ∧ σu.get WA = some (.list (cts rs.length ((Ks.take j).flatten ++ xs.take u))) ∧ σu.length = WA + 1 ∧ (∀ a, a < WA → σu.get a = σ.get a)) ?_ ?_ ?_
    · exact ⟨Nat.zero_le _, m186, by simpa using gj, lj, kj⟩
    · rintro u lu σu yu hyu ⟨hu, n186, gu, lu', ku⟩
      have hux : u < xs.length := by have := (List.getElem?_eq_some_iff.mp hyu).1; simpa using this
      have hyx : yu = ov xs[u] := by
        have : (xs.map ov)[u]? = some (ov xs[u]) := by simp [hux]
        rw [this] at hyu; cases hyu; rfl
      subst hyx
      have tk : xs.take (u + 1) = xs.take u ++ [xs[u]] := List.take_succ_eq_append_getElem hux
      cases hv : xs[u] with
      | none =>
        simp (disch := decide) only [f__law_weights_2f_1f_1, ov, ok_isNot, ok_truthb, oks_cons, oks_nil, then_none, then_some, s_expr, exprK_at, s_var, varK_at, s_attr, attrK_at, attrK2_at, s_sub, subK_at, subK2_at, subK3_at, s_ite, iteK_t, iteK_f, s_ret, retK_at, s_ret0, s_pass, runK_some, runK_none, forK_at, turnK_none, turnK_some, whlK_t, whlK_f, tt_not, tt_band, tt_bor, tt_bool, tt_loc, tt_cmp, tt_cmp2, tt_call, tt_meth, tt_isi, tt_attr, tt_sub, tt_bin, tnotF_t, tnotF_f, ta_nil, ta_cons, andF_t, andF_f, to_nil, to_cons, orF_t, orF_f, e_none, e_bool, e_int, e_str, e_loc, e_bin, binF_at, e_not, notF_at, notF2_t, notF2_f, e_band, e_bor, e_cmp, cmpF_at, e_cmp2, cmpG_t, cmpG_f, e_list, listF_at, e_tup, tupF_at, e_dict0, e_attr, attrF_at, e_sub, subF_at, e_call, e_meth, methF_at, e_bi, e_isi, isiF_at, boolF_at, e_comp, es_nil, es_cons, consF_at, consF2_at, ok_bind, bindK_at, bind_pure, bind_lift, ok_pure, ok_lift, List.zip_cons_cons, List.zip_nil_right, List.zip_nil_left, List.foldl_cons, List.foldl_nil, upd_def, Nat.reduceBEq, bif_t, bif_f, if_true, if_false, Bool.false_eq_true, reduceCtorEq, Nat.reduceEqDiff, ne_eq, not_false_eq_true, not_true_eq_false, decide_true, decide_false, Bool.not_true, Bool.not_false]
        refine ⟨trivial, still_get ?_, by lia, n186, ?_, lu', ku⟩
        · rw [ku a halt, kj a halt]
        · rw [tk, hv, ← List.append_assoc, cts_none]; exact gu
      | some k =>
        have hkN : k < rs.length := hk xs hxm k (hv ▸ List.getElem_mem hux)
        have nfW : prog.nf ≤ WA := by rw [nf1]; lia
        have hlen : (k : Int) < ((cts rs.length ((Ks.take j).flatten ++ xs.take u)).length : Int) := by simp [cts]; lia
        simp (disch := decide) only [f__law_weights_2f_1f_1, f__law_weights_2f_1f_1a_1, ov, n186, ok_isNot, ok_truthb, ok_getList gu (Int.natCast_nonneg _) (cts_get hkN), ok_add, ok_setList gu nfW (Int.natCast_nonneg _) hlen, cts_add, oks_cons, oks_nil, then_none, then_some, s_expr, exprK_at, s_var, varK_at, s_attr, attrK_at, attrK2_at, s_sub, subK_at, subK2_at, subK3_at, s_ite, iteK_t, iteK_f, s_ret, retK_at, s_ret0, s_pass, runK_some, runK_none, forK_at, turnK_none, turnK_some, whlK_t, whlK_f, tt_not, tt_band, tt_bor, tt_bool, tt_loc, tt_cmp, tt_cmp2, tt_call, tt_meth, tt_isi, tt_attr, tt_sub, tt_bin, tnotF_t, tnotF_f, ta_nil, ta_cons, andF_t, andF_f, to_nil, to_cons, orF_t, orF_f, e_none, e_bool, e_int, e_str, e_loc, e_bin, binF_at, e_not, notF_at, notF2_t, notF2_f, e_band, e_bor, e_cmp, cmpF_at, e_cmp2, cmpG_t, cmpG_f, e_list, listF_at, e_tup, tupF_at, e_dict0, e_attr, attrF_at, e_sub, subF_at, e_call, e_meth, methF_at, e_bi, e_isi, isiF_at, boolF_at, e_comp, es_nil, es_cons, consF_at, consF2_at, ok_bind, bindK_at, bind_pure, bind_lift, ok_pure, ok_lift, List.zip_cons_cons, List.zip_nil_right, List.zip_nil_left, List.foldl_cons, List.foldl_nil, upd_def, Nat.reduceBEq, bif_t, bif_f, if_true, if_false, Bool.false_eq_true, reduceCtorEq, Nat.reduceEqDiff, ne_eq, not_false_eq_true, not_true_eq_false, decide_true, decide_false, Bool.not_true, Bool.not_false]
        refine ⟨trivial, still_get ?_, by lia, trivial, ?_, by rw [len_put]; exact lu', fun b hb => by rw [get_put_ne (by lia)]; exact ku b hb⟩
        · rw [get_put_ne (by lia), ku a halt, kj a halt]
        · rw [get_put_eq (by lia), tk, hv, ← List.append_assoc]
    · rintro lu σu ⟨_, n186, gu, lu', ku⟩
      simp only [List.length_map, List.take_length] at gu
      refine ⟨rfl, still_get ?_, by lia, n186, ?_, lu', ku⟩
      · rw [hrτ, ku RA (by lia)]; exact hr
      · rw [gu, List.take_succ_eq_append_getElem (by lia), List.flatten_append, hxs]; simp
  · rintro l σj ⟨_, m186, gj, lj, kj⟩
    simp only [List.length_map] at gj
    rw [hl, List.take_length, ← hl] at gj
    refine then_step rfl ?_
    simp (disch := decide) only [m186, then_some, s_expr, exprK_at, s_var, varK_at, s_attr, attrK_at, attrK2_at, s_sub, subK_at, subK2_at, subK3_at, s_ite, iteK_t, iteK_f, s_ret, retK_at, s_ret0, s_pass, runK_some, runK_none, forK_at, turnK_none, turnK_some, whlK_t, whlK_f, tt_not, tt_band, tt_bor, tt_bool, tt_loc, tt_cmp, tt_cmp2, tt_call, tt_meth, tt_isi, tt_attr, tt_sub, tt_bin, tnotF_t, tnotF_f, ta_nil, ta_cons, andF_t, andF_f, to_nil, to_cons, orF_t, orF_f, e_none, e_bool, e_int, e_str, e_loc, e_bin, binF_at, e_not, notF_at, notF2_t, notF2_f, e_band, e_bor, e_cmp, cmpF_at, e_cmp2, cmpG_t, cmpG_f, e_list, listF_at, e_tup, tupF_at, e_dict0, e_attr, attrF_at, e_sub, subF_at, e_call, e_meth, methF_at, e_bi, e_isi, isiF_at, boolF_at, e_comp, es_nil, es_cons, consF_at, consF2_at, ok_bind, bindK_at, bind_pure, bind_lift, ok_pure, ok_lift, List.zip_cons_cons, List.zip_nil_right, List.zip_nil_left, List.foldl_cons, List.foldl_nil, upd_def, Nat.reduceBEq, bif_t, bif_f, if_true, if_false, Bool.false_eq_true, reduceCtorEq, Nat.reduceEqDiff, ne_eq, not_false_eq_true, not_true_eq_false, decide_true, decide_false, Bool.not_true, Bool.not_false]
    exact h σj gj lj kj

noncomputable def wts (N : Nat) (s : PS) : List V := (List.range N).map fun i => V.int (wt s i : Int)
theorem wt_light {s : PS} {k i : Nat} (nd : (keys s.weights).Nodup) (h : 0 < wt s k) : wt (lightS s (some k)).1 i = if i = k then wt s k - 1 else wt s i := by
  unfold lightS
  by_cases h1 : 1 < wt s k
  · simp only [h1, if_true]
    show (aGet (aSet s.weights k (wt s k - 1)) i).getD 0 = _
    by_cases e : i = k
    · subst e; rw [aGet_aSet_same]; simp
    · rw [aGet_aSet_ne e, if_neg e]; rfl
  · simp only [h1, if_false]
    show (aGet (aDel s.weights k) i).getD 0 = _
    by_cases e : i = k
    · subst e; rw [aGet_aDel_same nd]; simp; lia
    · rw [aGet_aDel_ne e, if_neg e]; rfl

noncomputable abbrev fallenB : Sts := f__law_fallen_4w_3f_1

structure Fa (σ : H) (RA WA FA VA w0 : Nat) (rs : Nat → Nat) (N : Nat) (s : PS) (row : List Nat) : Prop where
  r : ∃ xs, σ.get RA = some (.list xs) ∧ ∀ k : Nat, 1 ≤ k → k < N → xs[k]? = some (.ref (rs k))
  w : σ.get WA = some (.list (wts N s))
  f : σ.get FA = some (.list (iN row))
  v : σ.get VA = some (.list (.ref w0 :: row.map fun k => .ref (rs k)))
  nd : RA ≠ WA ∧ RA ≠ FA ∧ RA ≠ VA ∧ WA ≠ FA ∧ WA ≠ VA ∧ FA ≠ VA
  nf : 1 ≤ WA ∧ 1 ≤ FA ∧ 1 ≤ VA

theorem light_law {σ : H} {RA WA FA VA w0 : Nat} {rs : Nat → Nat} {N d : Nat} {s : PS} {row : List Nat} {x : Option Nat} {pend : List (Option Nat)} {left : List Nat} {l : Loc} {Q : Option V → Loc → H → Prop} (A : Fa σ RA WA FA VA w0 rs N s row) (I : PGood s (x :: pend) left)
    (hN : ∀ k, k ∈ keys s.boxes → 1 ≤ k ∧ k < N) (hrow : row.length ≤ 1000) (l92 : l 92 = some (ov x)) (l186 : l 186 = some (.ref WA)) (l165 : l 165 = some (.ref FA)) (l188 : l 188 = some (.ref VA)) (l89 : l 89 = some (.ref RA))
    (h : ∀ σ', Fa σ' RA WA FA VA w0 rs N (lightS s x).1 (row ++ (lightS s x).2) → σ'.length = σ.length → (∀ a, a ≠ WA → a ≠ FA → a ≠ VA → σ'.get a = σ.get a) → Q none l σ') :
    OkS (exs prog (run prog 1000 d) 1000 fallenB l σ) Q := by
  have hlim : lim = 1000000 := rfl
  cases x with
  | none =>
    simp (disch := decide) only [fallenB, f__law_fallen_4w_3f_1, l92, ov, ok_isNot, ok_truthb, oks_cons, oks_nil, then_none, then_some, s_expr, exprK_at, s_var, varK_at, s_attr, attrK_at, attrK2_at, s_sub, subK_at, subK2_at, subK3_at, s_ite, iteK_t, iteK_f, s_ret, retK_at, s_ret0, s_pass, runK_some, runK_none, forK_at, turnK_none, turnK_some, whlK_t, whlK_f, tt_not, tt_band, tt_bor, tt_bool, tt_loc, tt_cmp, tt_cmp2, tt_call, tt_meth, tt_isi, tt_attr, tt_sub, tt_bin, tnotF_t, tnotF_f, ta_nil, ta_cons, andF_t, andF_f, to_nil, to_cons, orF_t, orF_f, e_none, e_bool, e_int, e_str, e_loc, e_bin, binF_at, e_not, notF_at, notF2_t, notF2_f, e_band, e_bor, e_cmp, cmpF_at, e_cmp2, cmpG_t, cmpG_f, e_list, listF_at, e_tup, tupF_at, e_dict0, e_attr, attrF_at, e_sub, subF_at, e_call, e_meth, methF_at, e_bi, e_isi, isiF_at, boolF_at, e_comp, es_nil, es_cons, consF_at, consF2_at, ok_bind, bindK_at, bind_pure, bind_lift, ok_pure, ok_lift, List.zip_cons_cons, List.zip_nil_right, List.zip_nil_left, List.foldl_cons, List.foldl_nil, upd_def, Nat.reduceBEq, bif_t, bif_f, if_true, if_false, Bool.false_eq_true, reduceCtorEq, Nat.reduceEqDiff, ne_eq, not_false_eq_true, not_true_eq_false, decide_true, decide_false, Bool.not_true, Bool.not_false]
    exact h σ (by simpa [lightS] using A) rfl fun _ _ _ _ => rfl
  | some k =>
    have hw : 0 < wt s k := by rw [I.ct k]; simp [List.count_append, List.count_cons]; lia
    obtain ⟨w', hw'⟩ := I.key hw
    have hkb : k ∈ keys s.boxes := I.pm.mem_iff.mp (List.mem_append_left _ (keys_mem (aGet_some_mem hw')))
    obtain ⟨hk1, hkN⟩ := hN k hkb
    have gw : (wts N s)[((k : Nat) : Int).toNat]? = some (.int (wt s k : Int)) := by simp [wts, hkN]
    have hlen : (k : Int) < ((wts N s).length : Int) := by simp [wts]; lia
    have hset : (wts N s).set ((k : Nat) : Int).toNat (.int ((wt s k : Int) - 1)) = wts N (lightS s (some k)).1 := by
      unfold wts
      rw [Int.toNat_natCast, set_range]
      refine List.map_congr_left fun i _ => ?_
      rw [wt_light I.wnd hw]
      by_cases e : i = k
      · subst e; simp; lia
      · simp [e]
    have A1w : (σ.put WA (.list (wts N (lightS s (some k)).1))).get WA = some (.list (wts N (lightS s (some k)).1)) := get_put_eq (get_lt A.w)
    have gw1 : (wts N (lightS s (some k)).1)[((k : Nat) : Int).toNat]? = some (.int ((wt s k - 1 : Nat) : Int)) := by
      simp [wts, hkN]; rw [wt_light I.wnd hw]; simp
    refine oks_step rfl ?_
    simp (disch := decide) only [l92, ov, ok_isNot, ok_truthb, s_expr, exprK_at, s_var, varK_at, s_attr, attrK_at, attrK2_at, s_sub, subK_at, subK2_at, subK3_at, s_ite, iteK_t, iteK_f, s_ret, retK_at, s_ret0, s_pass, runK_some, runK_none, forK_at, turnK_none, turnK_some, whlK_t, whlK_f, tt_not, tt_band, tt_bor, tt_bool, tt_loc, tt_cmp, tt_cmp2, tt_call, tt_meth, tt_isi, tt_attr, tt_sub, tt_bin, tnotF_t, tnotF_f, ta_nil, ta_cons, andF_t, andF_f, to_nil, to_cons, orF_t, orF_f, e_none, e_bool, e_int, e_str, e_loc, e_bin, binF_at, e_not, notF_at, notF2_t, notF2_f, e_band, e_bor, e_cmp, cmpF_at, e_cmp2, cmpG_t, cmpG_f, e_list, listF_at, e_tup, tupF_at, e_dict0, e_attr, attrF_at, e_sub, subF_at, e_call, e_meth, methF_at, e_bi, e_isi, isiF_at, boolF_at, e_comp, es_nil, es_cons, consF_at, consF2_at, ok_bind, bindK_at, bind_pure, bind_lift, ok_pure, ok_lift, List.zip_cons_cons, List.zip_nil_right, List.zip_nil_left, List.foldl_cons, List.foldl_nil, upd_def, Nat.reduceBEq, bif_t, bif_f, if_true, if_false, Bool.false_eq_true, reduceCtorEq, Nat.reduceEqDiff, ne_eq, not_false_eq_true, not_true_eq_false, decide_true, decide_false, Bool.not_true, Bool.not_false]
    refine oks_step rfl ?_
    simp (disch := decide) only [l92, l186, ov, ok_getList A.w (Int.natCast_nonneg _) gw, ok_sub, ok_setList A.w (show prog.nf ≤ WA from A.nf.1) (Int.natCast_nonneg _) hlen, hset, s_expr, exprK_at, s_var, varK_at, s_attr, attrK_at, attrK2_at, s_sub, subK_at, subK2_at, subK3_at, s_ite, iteK_t, iteK_f, s_ret, retK_at, s_ret0, s_pass, runK_some, runK_none, forK_at, turnK_none, turnK_some, whlK_t, whlK_f, tt_not, tt_band, tt_bor, tt_bool, tt_loc, tt_cmp, tt_cmp2, tt_call, tt_meth, tt_isi, tt_attr, tt_sub, tt_bin, tnotF_t, tnotF_f, ta_nil, ta_cons, andF_t, andF_f, to_nil, to_cons, orF_t, orF_f, e_none, e_bool, e_int, e_str, e_loc, e_bin, binF_at, e_not, notF_at, notF2_t, notF2_f, e_band, e_bor, e_cmp, cmpF_at, e_cmp2, cmpG_t, cmpG_f, e_list, listF_at, e_tup, tupF_at, e_dict0, e_attr, attrF_at, e_sub, subF_at, e_call, e_meth, methF_at, e_bi, e_isi, isiF_at, boolF_at, e_comp, es_nil, es_cons, consF_at, consF2_at, ok_bind, bindK_at, bind_pure, bind_lift, ok_pure, ok_lift, List.zip_cons_cons, List.zip_nil_right, List.zip_nil_left, List.foldl_cons, List.foldl_nil, upd_def, Nat.reduceBEq, bif_t, bif_f, if_true, if_false, Bool.false_eq_true, reduceCtorEq, Nat.reduceEqDiff, ne_eq, not_false_eq_true, not_true_eq_false, decide_true, decide_false, Bool.not_true, Bool.not_false]
    have kp1 : ∀ a, a ≠ WA → (σ.put WA (.list (wts N (lightS s (some k)).1))).get a = σ.get a := fun a ha => get_put_ne (Ne.symm ha)
    have ln1 : (σ.put WA (.list (wts N (lightS s (some k)).1))).length = σ.length := len_put
    generalize σ.put WA (.list (wts N (lightS s (some k)).1)) = σ1 at *
    obtain ⟨nd1, nd2, nd3, nd4, nd5, nd6⟩ := A.nd
    obtain ⟨rx, hr1, hr2⟩ := A.r
    have hr1' : σ1.get RA = some (.list rx) := by rw [kp1 _ nd1]; exact hr1
    have f1 : σ1.get FA = some (.list (iN row)) := by rw [kp1 _ (Ne.symm nd4)]; exact A.f
    have v1 : σ1.get VA = some (.list (.ref w0 :: row.map fun k => .ref (rs k))) := by rw [kp1 _ (Ne.symm nd5)]; exact A.v
    refine then_step rfl ?_
    by_cases h1 : 1 < wt s k
    · have hne : ¬ (((wt s k - 1 : Nat) : Int) = 0) := by lia
      simp (disch := decide) only [l92, l186, ov, ok_getList A1w (Int.natCast_nonneg _) gw1, ok_eqI, hne, ok_truthb, s_expr, exprK_at, s_var, varK_at, s_attr, attrK_at, attrK2_at, s_sub, subK_at, subK2_at, subK3_at, s_ite, iteK_t, iteK_f, s_ret, retK_at, s_ret0, s_pass, runK_some, runK_none, forK_at, turnK_none, turnK_some, whlK_t, whlK_f, tt_not, tt_band, tt_bor, tt_bool, tt_loc, tt_cmp, tt_cmp2, tt_call, tt_meth, tt_isi, tt_attr, tt_sub, tt_bin, tnotF_t, tnotF_f, ta_nil, ta_cons, andF_t, andF_f, to_nil, to_cons, orF_t, orF_f, e_none, e_bool, e_int, e_str, e_loc, e_bin, binF_at, e_not, notF_at, notF2_t, notF2_f, e_band, e_bor, e_cmp, cmpF_at, e_cmp2, cmpG_t, cmpG_f, e_list, listF_at, e_tup, tupF_at, e_dict0, e_attr, attrF_at, e_sub, subF_at, e_call, e_meth, methF_at, e_bi, e_isi, isiF_at, boolF_at, e_comp, es_nil, es_cons, consF_at, consF2_at, ok_bind, bindK_at, bind_pure, bind_lift, ok_pure, ok_lift, List.zip_cons_cons, List.zip_nil_right, List.zip_nil_left, List.foldl_cons, List.foldl_nil, upd_def, Nat.reduceBEq, bif_t, bif_f, if_true, if_false, Bool.false_eq_true, reduceCtorEq, Nat.reduceEqDiff, ne_eq, not_false_eq_true, not_true_eq_false, decide_true, decide_false, Bool.not_true, Bool.not_false]
      have e : (lightS s (some k)).2 = [] := by simp only [lightS, h1, if_true]
      refine h σ1 ?_ ln1 fun a h1 h2 h3 => kp1 a h1
      rw [e, List.append_nil]
      exact ⟨⟨rx, hr1', hr2⟩, A1w, f1, v1, A.nd, A.nf⟩
    · have hne : ((wt s k - 1 : Nat) : Int) = 0 := by lia
      have e : (lightS s (some k)).2 = [k] := by simp only [lightS, h1, if_false]
      have gr : rx[((k : Nat) : Int).toNat]? = some (.ref (rs k)) := by rw [Int.toNat_natCast]; exact hr2 k hk1 hkN
      simp (disch := decide) only [l92, l186, ov, ok_getList A1w (Int.natCast_nonneg _) gw1, ok_eqI, hne, ok_truthb, s_expr, exprK_at, s_var, varK_at, s_attr, attrK_at, attrK2_at, s_sub, subK_at, subK2_at, subK3_at, s_ite, iteK_t, iteK_f, s_ret, retK_at, s_ret0, s_pass, runK_some, runK_none, forK_at, turnK_none, turnK_some, whlK_t, whlK_f, tt_not, tt_band, tt_bor, tt_bool, tt_loc, tt_cmp, tt_cmp2, tt_call, tt_meth, tt_isi, tt_attr, tt_sub, tt_bin, tnotF_t, tnotF_f, ta_nil, ta_cons, andF_t, andF_f, to_nil, to_cons, orF_t, orF_f, e_none, e_bool, e_int, e_str, e_loc, e_bin, binF_at, e_not, notF_at, notF2_t, notF2_f, e_band, e_bor, e_cmp, cmpF_at, e_cmp2, cmpG_t, cmpG_f, e_list, listF_at, e_tup, tupF_at, e_dict0, e_attr, attrF_at, e_sub, subF_at, e_call, e_meth, methF_at, e_bi, e_isi, isiF_at, boolF_at, e_comp, es_nil, es_cons, consF_at, consF2_at, ok_bind, bindK_at, bind_pure, bind_lift, ok_pure, ok_lift, List.zip_cons_cons, List.zip_nil_right, List.zip_nil_left, List.foldl_cons, List.foldl_nil, upd_def, Nat.reduceBEq, bif_t, bif_f, if_true, if_false, Bool.false_eq_true, reduceCtorEq, Nat.reduceEqDiff, ne_eq, not_false_eq_true, not_true_eq_false, decide_true, decide_false, Bool.not_true, Bool.not_false]
      refine oks_step rfl ?_
      have app1 : iN row ++ [V.int (k : Int)] = iN (row ++ [k]) := by simp [iN]
      simp (disch := decide) only [l92, l165, ov, mx_list f1 (.inl rfl), ok_append f1 (show prog.nf ≤ FA from A.nf.2.1) (show (iN row ++ [V.int (k : Int)]).length ≤ lim by simp [iN, hlim]; lia), app1, s_expr, exprK_at, s_var, varK_at, s_attr, attrK_at, attrK2_at, s_sub, subK_at, subK2_at, subK3_at, s_ite, iteK_t, iteK_f, s_ret, retK_at, s_ret0, s_pass, runK_some, runK_none, forK_at, turnK_none, turnK_some, whlK_t, whlK_f, tt_not, tt_band, tt_bor, tt_bool, tt_loc, tt_cmp, tt_cmp2, tt_call, tt_meth, tt_isi, tt_attr, tt_sub, tt_bin, tnotF_t, tnotF_f, ta_nil, ta_cons, andF_t, andF_f, to_nil, to_cons, orF_t, orF_f, e_none, e_bool, e_int, e_str, e_loc, e_bin, binF_at, e_not, notF_at, notF2_t, notF2_f, e_band, e_bor, e_cmp, cmpF_at, e_cmp2, cmpG_t, cmpG_f, e_list, listF_at, e_tup, tupF_at, e_dict0, e_attr, attrF_at, e_sub, subF_at, e_call, e_meth, methF_at, e_bi, e_isi, isiF_at, boolF_at, e_comp, es_nil, es_cons, consF_at, consF2_at, ok_bind, bindK_at, bind_pure, bind_lift, ok_pure, ok_lift, List.zip_cons_cons, List.zip_nil_right, List.zip_nil_left, List.foldl_cons, List.foldl_nil, upd_def, Nat.reduceBEq, bif_t, bif_f, if_true, if_false, Bool.false_eq_true, reduceCtorEq, Nat.reduceEqDiff, ne_eq, not_false_eq_true, not_true_eq_false, decide_true, decide_false, Bool.not_true, Bool.not_false]
      have f2 : (σ1.put FA (.list (iN (row ++ [k])))).get FA = some (.list (iN (row ++ [k]))) := get_put_eq (get_lt f1)
      have v2 : (σ1.put FA (.list (iN (row ++ [k])))).get VA = some (.list (.ref w0 :: row.map fun k => .ref (rs k))) := by rw [get_put_ne nd6]; exact v1
      have r2 : (σ1.put FA (.list (iN (row ++ [k])))).get RA = some (.list rx) := by rw [get_put_ne (Ne.symm nd2)]; exact hr1'
      have w2 : (σ1.put FA (.list (iN (row ++ [k])))).get WA = some (.list (wts N (lightS s (some k)).1)) := by rw [get_put_ne (Ne.symm nd4)]; exact A1w
      have ln2 : (σ1.put FA (.list (iN (row ++ [k])))).length = σ.length := by rw [len_put]; exact ln1
      have kp2 : ∀ a, a ≠ WA → a ≠ FA → (σ1.put FA (.list (iN (row ++ [k])))).get a = σ.get a := fun a h1 h2 => by rw [get_put_ne (Ne.symm h2)]; exact kp1 a h1
      generalize σ1.put FA (.list (iN (row ++ [k]))) = σ2 at *
      refine then_step rfl ?_
      have app2 : (V.ref w0 :: row.map fun k => V.ref (rs k)) ++ [V.ref (rs k)] = V.ref w0 :: (row ++ [k]).map fun k => V.ref (rs k) := by simp
      simp (disch := decide) only [l92, l188, l89, ov, mx_list v2 (.inl rfl), ok_getList r2 (Int.natCast_nonneg _) gr, ok_append v2 (show prog.nf ≤ VA from A.nf.2.2) (show ((V.ref w0 :: row.map fun k => V.ref (rs k)) ++ [V.ref (rs k)]).length ≤ lim by simp [hlim]; lia), app2, s_expr, exprK_at, s_var, varK_at, s_attr, attrK_at, attrK2_at, s_sub, subK_at, subK2_at, subK3_at, s_ite, iteK_t, iteK_f, s_ret, retK_at, s_ret0, s_pass, runK_some, runK_none, forK_at, turnK_none, turnK_some, whlK_t, whlK_f, tt_not, tt_band, tt_bor, tt_bool, tt_loc, tt_cmp, tt_cmp2, tt_call, tt_meth, tt_isi, tt_attr, tt_sub, tt_bin, tnotF_t, tnotF_f, ta_nil, ta_cons, andF_t, andF_f, to_nil, to_cons, orF_t, orF_f, e_none, e_bool, e_int, e_str, e_loc, e_bin, binF_at, e_not, notF_at, notF2_t, notF2_f, e_band, e_bor, e_cmp, cmpF_at, e_cmp2, cmpG_t, cmpG_f, e_list, listF_at, e_tup, tupF_at, e_dict0, e_attr, attrF_at, e_sub, subF_at, e_call, e_meth, methF_at, e_bi, e_isi, isiF_at, boolF_at, e_comp, es_nil, es_cons, consF_at, consF2_at, ok_bind, bindK_at, bind_pure, bind_lift, ok_pure, ok_lift, List.zip_cons_cons, List.zip_nil_right, List.zip_nil_left, List.foldl_cons, List.foldl_nil, upd_def, Nat.reduceBEq, bif_t, bif_f, if_true, if_false, Bool.false_eq_true, reduceCtorEq, Nat.reduceEqDiff, ne_eq, not_false_eq_true, not_true_eq_false, decide_true, decide_false, Bool.not_true, Bool.not_false]
      refine h _ ?_ (by rw [len_put]; exact ln2) fun a h1 h2 h3 => by rw [get_put_ne (Ne.symm h3)]; exact kp2 a h1 h2
      rw [e]
      exact ⟨⟨rx, by rw [get_put_ne (Ne.symm nd3)]; exact r2, hr2⟩, by rw [get_put_ne (Ne.symm nd5)]; exact w2, by rw [get_put_ne (Ne.symm nd6)]; exact f2, get_put_eq (get_lt v2), A.nd, A.nf⟩

noncomputable def fallenC : Ex := (.cmp .Lt (.loc 167) (.bi .len (.cons (.loc 188) .nil)))
noncomputable abbrev fallenW : Sts := f__law_fallen_4w_1

theorem room_law {σ : H} {RA WA FA VA w0 ra : Nat} {rs : Nat → Nat} {N d : Nat} {s : PS} {row : List Nat} {xs : List (Option Nat)} {left : List Nat} {l : Loc} {Q : Option V → Loc → H → Prop} (A : Fa σ RA WA FA VA w0 rs N s row) (I : PGood s xs left)
    (hN : ∀ k, k ∈ keys s.boxes → 1 ≤ k ∧ k < N) (hrow : row.length + s.boxes.length ≤ 900) (hlr : left.length ≤ row.length) (hra : σ.get ra = some (.list (xs.map ov))) (hne : ra ≠ WA ∧ ra ≠ FA ∧ ra ≠ VA)
    (l91 : l 91 = some (.ref ra)) (l186 : l 186 = some (.ref WA)) (l165 : l 165 = some (.ref FA)) (l188 : l 188 = some (.ref VA)) (l89 : l 89 = some (.ref RA))
    (h : ∀ l' σ', (∀ i, i ≠ 92 → l' i = l i) → Fa σ' RA WA FA VA w0 rs N (lightAll s xs).1 (row ++ (lightAll s xs).2) → σ'.length = σ.length → (∀ a, a ≠ WA → a ≠ FA → a ≠ VA → σ'.get a = σ.get a) → Q none l' σ') :
    OkS (exs prog (run prog 1000 d) 1000 f__law_fallen_4w_3 l σ) Q := by
  refine oks_step rfl ?_
  rw [s_for]
  simp (disch := decide) only [l91, s_expr, exprK_at, s_var, varK_at, s_attr, attrK_at, attrK2_at, s_sub, subK_at, subK2_at, subK3_at, s_ite, iteK_t, iteK_f, s_ret, retK_at, s_ret0, s_pass, runK_some, runK_none, forK_at, turnK_none, turnK_some, whlK_t, whlK_f, tt_not, tt_band, tt_bor, tt_bool, tt_loc, tt_cmp, tt_cmp2, tt_call, tt_meth, tt_isi, tt_attr, tt_sub, tt_bin, tnotF_t, tnotF_f, ta_nil, ta_cons, andF_t, andF_f, to_nil, to_cons, orF_t, orF_f, e_none, e_bool, e_int, e_str, e_loc, e_bin, binF_at, e_not, notF_at, notF2_t, notF2_f, e_band, e_bor, e_cmp, cmpF_at, e_cmp2, cmpG_t, cmpG_f, e_list, listF_at, e_tup, tupF_at, e_dict0, e_attr, attrF_at, e_sub, subF_at, e_call, e_meth, methF_at, e_bi, e_isi, isiF_at, boolF_at, e_comp, es_nil, es_cons, consF_at, consF2_at, ok_bind, bindK_at, bind_pure, bind_lift, ok_pure, ok_lift, List.zip_cons_cons, List.zip_nil_right, List.zip_nil_left, List.foldl_cons, List.foldl_nil, upd_def, Nat.reduceBEq, bif_t, bif_f, if_true, if_false, Bool.false_eq_true, reduceCtorEq, Nat.reduceEqDiff, ne_eq, not_false_eq_true, not_true_eq_false, decide_true, decide_false, Bool.not_true, Bool.not_false]
  refine ⟨_, it_list hra, ?_⟩
  refine f_inv (fun j lj σj => j ≤ xs.length ∧ (∀ i, i ≠ 92 → lj i = l i) ∧ Fa σj RA WA FA VA w0 rs N (lightAll s (xs.take j)).1 (row ++ (lightAll s (xs.take j)).2) ∧ PGood (lightAll s (xs.take j)).1 (xs.drop j) (left ++ (lightAll s (xs.take j)).2) ∧ σj.length = σ.length ∧ (∀ a, a ≠ WA → a ≠ FA → a ≠ VA → σj.get a = σ.get a)) ?_ ?_ ?_
  · refine ⟨Nat.zero_le _, fun _ _ => rfl, ?_, ?_, rfl, fun _ _ _ _ => rfl⟩
    · simpa [lightAll] using A
    · simpa [lightAll] using I
  · rintro j lj σj y hy ⟨hj, hlj, Aj, Ij, lenj, kj⟩
    have hjx : j < xs.length := by have := (List.getElem?_eq_some_iff.mp hy).1; simpa using this
    have hyx : y = ov xs[j] := by
      have : (xs.map ov)[j]? = some (ov xs[j]) := by simp [hjx]
      rw [this] at hy; cases hy; rfl
    subst hyx
    have tk : xs.take (j + 1) = xs.take j ++ [xs[j]] := List.take_succ_eq_append_getElem hjx
    have dr : xs.drop j = xs[j] :: xs.drop (j + 1) := List.drop_eq_getElem_cons hjx
    rw [dr] at Ij
    have hbj : (lightAll s (xs.take j)).1.boxes = s.boxes := (lightAll_boxes _ _).1
    have ll := Ij.llen
    rw [hbj, List.length_append] at ll
    refine light_law Aj Ij (by rw [hbj]; exact hN) (by rw [List.length_append]; lia) upd_at ((hlj _ (by decide)).trans l186) ((hlj _ (by decide)).trans l165) ((hlj _ (by decide)).trans l188) ((hlj _ (by decide)).trans l89) fun σ' A' len' k' => ?_
    refine ⟨rfl, still_get ?_, by lia, fun i hi => by rw [upd_no hi, hlj i hi], ?_, ?_, by lia, fun a h1 h2 h3 => by rw [k' a h1 h2 h3]; exact kj a h1 h2 h3⟩
    · rw [k' _ hne.1 hne.2.1 hne.2.2, kj _ hne.1 hne.2.1 hne.2.2]
    · rw [tk, lightAll_snoc]; simpa [List.append_assoc] using A'
    · rw [tk, lightAll_snoc]; simpa [List.append_assoc] using light_inv Ij
  · rintro lj σj ⟨_, hlj, Aj, Ij, lenj, kj⟩
    simp only [List.length_map, List.take_length] at Aj
    exact h lj σj hlj Aj lenj kj

theorem fallw_ok {RA WA FA VA w0 : Nat} {rs : Nat → Nat} {N d : Nat} {Q : Option V → Loc → H → Prop} {hrs : ∀ k, 1 ≤ k → k < N → rs k ≠ WA ∧ rs k ≠ FA ∧ rs k ≠ VA} : ∀ (m b : Nat) (s : PS) (σ : H) (fr left : List Nat) (l : Loc), Fa σ RA WA FA VA w0 rs N s (fr ++ left) → PGood s [] left →
    (∀ k, k ∈ keys s.boxes → 1 ≤ k ∧ k < N) → (∀ k, k ∈ keys s.boxes → σ.get (rs k) = some (.list ((slotsOf s k).map ov))) → fr.length + s.boxes.length ≤ 400 → s.boxes.length ≤ b → b < m →
    l 167 = some (.int ((fr.length + 1 : Nat) : Int)) → l 186 = some (.ref WA) → l 165 = some (.ref FA) → l 188 = some (.ref VA) → l 89 = some (.ref RA) →
    (∀ l' σ', l' 165 = some (.ref FA) → Fa σ' RA WA FA VA w0 rs N (fallS b s left).1 (fr ++ (fallS b s left).2) → σ'.length = σ.length → (∀ a, a ≠ WA → a ≠ FA → a ≠ VA → σ'.get a = σ.get a) → Q none l' σ') →
    OkW prog (run prog 1000 d) 1000 m fallenC fallenW l σ Q := by
  intro m
  induction m with
  | zero => intro b s σ fr left l _ _ _ _ _ _ hm; lia
  | succ m ih =>
    intro b s σ fr left l A I hN hS hfl hb hm l167 l186 l165 l188 l89 h
    rw [w_step]
    unfold fallenC
    simp (disch := decide) only [l167, l188, ok_lenL A.v, ok_lt, ok_truthb, List.length_cons, List.length_map, List.length_append, oks_cons, oks_nil, then_none, then_some, s_expr, exprK_at, s_var, varK_at, s_attr, attrK_at, attrK2_at, s_sub, subK_at, subK2_at, subK3_at, s_ite, iteK_t, iteK_f, s_ret, retK_at, s_ret0, s_pass, runK_some, runK_none, forK_at, turnK_none, turnK_some, whlK_t, whlK_f, tt_not, tt_band, tt_bor, tt_bool, tt_loc, tt_cmp, tt_cmp2, tt_call, tt_meth, tt_isi, tt_attr, tt_sub, tt_bin, tnotF_t, tnotF_f, ta_nil, ta_cons, andF_t, andF_f, to_nil, to_cons, orF_t, orF_f, e_none, e_bool, e_int, e_str, e_loc, e_bin, binF_at, e_not, notF_at, notF2_t, notF2_f, e_band, e_bor, e_cmp, cmpF_at, e_cmp2, cmpG_t, cmpG_f, e_list, listF_at, e_tup, tupF_at, e_dict0, e_attr, attrF_at, e_sub, subF_at, e_call, e_meth, methF_at, e_bi, e_isi, isiF_at, boolF_at, e_comp, es_nil, es_cons, consF_at, consF2_at, ok_bind, bindK_at, bind_pure, bind_lift, ok_pure, ok_lift, List.zip_cons_cons, List.zip_nil_right, List.zip_nil_left, List.foldl_cons, List.foldl_nil, upd_def, Nat.reduceBEq, bif_t, bif_f, if_true, if_false, Bool.false_eq_true, reduceCtorEq, Nat.reduceEqDiff, ne_eq, not_false_eq_true, not_true_eq_false, decide_true, decide_false, Bool.not_true, Bool.not_false]
    cases left with
    | nil =>
      have : ¬ (((fr.length + 1 : Nat) : Int) < ((fr.length + ([] : List Nat).length + 1 : Nat) : Int)) := by simp
      simp only [List.length_nil, Nat.add_zero] at this ⊢
      simp only [this, decide_false, whlK_f]
      refine h l σ l165 ?_ rfl fun _ _ _ _ => rfl
      rw [fall_nil]; exact A
    | cons k rest =>
      have hlt : (((fr.length + 1 : Nat) : Int) < ((fr.length + (k :: rest).length + 1 : Nat) : Int)) := by simp only [List.length_cons]; lia
      simp only [hlt, decide_true, whlK_t]
      have hk := I.left_key
      obtain ⟨⟨xs, hx⟩, I1⟩ := pop_inv I
      have hxs : slotsOf s k = xs := by unfold slotsOf; rw [hx]; rfl
      rw [hxs] at I1
      have pl := pop_len hk
      obtain ⟨b', rfl⟩ : ∃ b', b = b' + 1 := ⟨b - 1, by lia⟩
      obtain ⟨hk1, hkN⟩ := hN k hk
      have hg : (V.ref w0 :: (fr ++ k :: rest).map fun k => V.ref (rs k))[((fr.length + 1 : Nat) : Int).toNat]? = some (.ref (rs k)) := by simp
      refine oks_step rfl ?_
      simp (disch := decide) only [l167, l188, ok_getList A.v (Int.natCast_nonneg _) hg, s_expr, exprK_at, s_var, varK_at, s_attr, attrK_at, attrK2_at, s_sub, subK_at, subK2_at, subK3_at, s_ite, iteK_t, iteK_f, s_ret, retK_at, s_ret0, s_pass, runK_some, runK_none, forK_at, turnK_none, turnK_some, whlK_t, whlK_f, tt_not, tt_band, tt_bor, tt_bool, tt_loc, tt_cmp, tt_cmp2, tt_call, tt_meth, tt_isi, tt_attr, tt_sub, tt_bin, tnotF_t, tnotF_f, ta_nil, ta_cons, andF_t, andF_f, to_nil, to_cons, orF_t, orF_f, e_none, e_bool, e_int, e_str, e_loc, e_bin, binF_at, e_not, notF_at, notF2_t, notF2_f, e_band, e_bor, e_cmp, cmpF_at, e_cmp2, cmpG_t, cmpG_f, e_list, listF_at, e_tup, tupF_at, e_dict0, e_attr, attrF_at, e_sub, subF_at, e_call, e_meth, methF_at, e_bi, e_isi, isiF_at, boolF_at, e_comp, es_nil, es_cons, consF_at, consF2_at, ok_bind, bindK_at, bind_pure, bind_lift, ok_pure, ok_lift, List.zip_cons_cons, List.zip_nil_right, List.zip_nil_left, List.foldl_cons, List.foldl_nil, upd_def, Nat.reduceBEq, bif_t, bif_f, if_true, if_false, Bool.false_eq_true, reduceCtorEq, Nat.reduceEqDiff, ne_eq, not_false_eq_true, not_true_eq_false, decide_true, decide_false, Bool.not_true, Bool.not_false]
      refine then_step rfl ?_
      simp (disch := decide) only [l167, ok_add, s_expr, exprK_at, s_var, varK_at, s_attr, attrK_at, attrK2_at, s_sub, subK_at, subK2_at, subK3_at, s_ite, iteK_t, iteK_f, s_ret, retK_at, s_ret0, s_pass, runK_some, runK_none, forK_at, turnK_none, turnK_some, whlK_t, whlK_f, tt_not, tt_band, tt_bor, tt_bool, tt_loc, tt_cmp, tt_cmp2, tt_call, tt_meth, tt_isi, tt_attr, tt_sub, tt_bin, tnotF_t, tnotF_f, ta_nil, ta_cons, andF_t, andF_f, to_nil, to_cons, orF_t, orF_f, e_none, e_bool, e_int, e_str, e_loc, e_bin, binF_at, e_not, notF_at, notF2_t, notF2_f, e_band, e_bor, e_cmp, cmpF_at, e_cmp2, cmpG_t, cmpG_f, e_list, listF_at, e_tup, tupF_at, e_dict0, e_attr, attrF_at, e_sub, subF_at, e_call, e_meth, methF_at, e_bi, e_isi, isiF_at, boolF_at, e_comp, es_nil, es_cons, consF_at, consF2_at, ok_bind, bindK_at, bind_pure, bind_lift, ok_pure, ok_lift, List.zip_cons_cons, List.zip_nil_right, List.zip_nil_left, List.foldl_cons, List.foldl_nil, upd_def, Nat.reduceBEq, bif_t, bif_f, if_true, if_false, Bool.false_eq_true, reduceCtorEq, Nat.reduceEqDiff, ne_eq, not_false_eq_true, not_true_eq_false, decide_true, decide_false, Bool.not_true, Bool.not_false]
      have hSk := hS k hk
      rw [hxs] at hSk
      refine room_law (left := rest) (s := popS s k) (ra := rs k) (xs := xs) (row := fr ++ k :: rest) ⟨A.r, A.w, A.f, A.v, A.nd, A.nf⟩ I1 (fun j hj => hN j (by have hj : j ∈ keys (aDel s.boxes k) := hj; rw [keys_aDel] at hj; exact List.mem_of_mem_erase hj)) (by have := I.llen; simp only [List.length_append]; lia) (by simp; lia) hSk (hrs k hk1 hkN) (rfl) (l186) (l165) (l188) (l89) ?_
      intro l2 σ2 hl2 A2 len2 k2
      have hbj : (lightAll (popS s k) xs).1.boxes = (popS s k).boxes := (lightAll_boxes _ _).1
      have I2 : PGood (lightAll (popS s k) xs).1 [] (rest ++ (lightAll (popS s k) xs).2) := lightAll_inv _ _ _ (by simpa using I1)
      have ll2 := I2.llen
      rw [hbj] at ll2
      have hk2 : ∀ j, j ∈ keys (lightAll (popS s k) xs).1.boxes → j ∈ keys s.boxes ∧ j ≠ k := fun j hj => by
        rw [hbj] at hj
        have hj : j ∈ keys (aDel s.boxes k) := hj
        rw [keys_aDel] at hj
        have := (List.Nodup.mem_erase_iff I.nd).mp hj
        exact ⟨this.2, this.1⟩
      refine ih b' (lightAll (popS s k) xs).1 σ2 (fr ++ [k]) (rest ++ (lightAll (popS s k) xs).2) l2 (by simpa [List.append_assoc] using A2) I2 (fun j hj => hN j (hk2 j hj).1) (fun j hj => ?_) ?_ (by rw [hbj]; lia) (by lia) ?_ ((hl2 _ (by decide)).trans l186) ((hl2 _ (by decide)).trans l165) ((hl2 _ (by decide)).trans l188) ((hl2 _ (by decide)).trans l89) ?_
      · obtain ⟨hj1, hj2⟩ := hk2 j hj
        obtain ⟨q1, q2⟩ := hN j hj1
        obtain ⟨r1, r2, r3⟩ := hrs j q1 q2
        rw [k2 _ r1 r2 r3, hS j hj1]
        congr 2
        unfold slotsOf
        rw [hbj]
        show List.map ov ((aGet s.boxes j).getD []) = List.map ov ((aGet (aDel s.boxes k) j).getD [])
        rw [aGet_aDel_ne hj2]
      · rw [hbj]
        simp only [List.length_append, List.length_cons, List.length_nil]
        lia
      · rw [hl2 _ (by decide)]; simp (disch := decide) only [upd_at]; simp
      · intro l' σ' m165 A' len' k'
        have e1 : fallS (b' + 1) s (k :: rest) = ((fallS b' (lightAll (popS s k) xs).1 (rest ++ (lightAll (popS s k) xs).2)).1, k :: (fallS b' (lightAll (popS s k) xs).1 (rest ++ (lightAll (popS s k) xs).2)).2) := by simp only [fallS, hxs]
        refine h l' σ' m165 ?_ (by lia) fun a h1 h2 h3 => by rw [k' a h1 h2 h3]; exact k2 a h1 h2 h3
        rw [e1]; simpa [List.append_assoc] using A'
end Mine.L04

set_option autoImplicit false
set_option linter.unusedSimpArgs false
set_option linter.unusedVariables false
namespace Mine.L04
open Mine
open PySem (Str PyData)

theorem fallen_ok {σ : H} {RA WA d N top : Nat} {rs : Nat → Nat} {s : PS} {Q : V → H → Prop} (hr : ∃ xs, σ.get RA = some (.list xs) ∧ ∀ k : Nat, 1 ≤ k → k < N → xs[k]? = some (.ref (rs k))) (hw : σ.get WA = some (.list (wts N s))) (hne : RA ≠ WA) (h1 : 1 ≤ WA)
    (I : PGood s [some top] []) (hN : ∀ k, k ∈ keys s.boxes → 1 ≤ k ∧ k < N) (hS : ∀ k, k ∈ keys s.boxes → σ.get (rs k) = some (.list ((slotsOf s k).map ov))) (hb : s.boxes.length ≤ 100) (hrs : ∀ k, 1 ≤ k → k < N → rs k ≠ WA ∧ rs k < σ.length)
    (h : ∀ σ', σ'.get σ.length = some (.list (iN (letgoS s (some top)).2)) → σ'.get WA = some (.list (wts N (letgoS s (some top)).1)) → σ.length < σ'.length → (∀ a, a < σ.length → a ≠ WA → σ'.get a = σ.get a) → Q (.ref σ.length) σ') :
    Ok (run prog 1000 (d + 1) false 187 [.ref RA, .ref WA, .int (top : Int)]) σ Q := by
  rw [ok_run (fd := f__law_fallen) rfl rfl]
  unfold f__law_fallen
  have hWl := get_lt hw
  obtain ⟨rx, hr1, hr2⟩ := hr
  have hRl := get_lt hr1
  -- row, waiting
  have l1 : (σ.push (.list [])).length = σ.length + 1 := len_push
  have l2 : ((σ.push (.list [])).push (.list [.int (top : Int)])).length = σ.length + 2 := by rw [len_push, l1]
  have l3 : (((σ.push (.list [])).push (.list [.int (top : Int)])).push (.list [.ref (σ.length + 1)])).length = σ.length + 3 := by rw [len_push, l2]
  have gF : (((σ.push (.list [])).push (.list [.int (top : Int)])).push (.list [.ref (σ.length + 1)])).get σ.length = some (.list []) := by rw [get_push_lt (by lia), get_push_lt (by lia)]; exact get_push_eq
  have gI : (((σ.push (.list [])).push (.list [.int (top : Int)])).push (.list [.ref (σ.length + 1)])).get (σ.length + 1) = some (.list [.int (top : Int)]) := by
    rw [get_push_lt (by lia)]
    have := get_push_eq (σ := σ.push (.list [])) (o := .list [.int (top : Int)])
    rwa [l1] at this
  have gV : (((σ.push (.list [])).push (.list [.int (top : Int)])).push (.list [.ref (σ.length + 1)])).get (σ.length + 2) = some (.list [.ref (σ.length + 1)]) := by
    have := get_push_eq (σ := (σ.push (.list [])).push (.list [.int (top : Int)])) (o := .list [.ref (σ.length + 1)])
    rwa [l2] at this
  have k3 : ∀ a, a < σ.length → (((σ.push (.list [])).push (.list [.int (top : Int)])).push (.list [.ref (σ.length + 1)])).get a = σ.get a := fun a ha => by rw [get_push_lt (by lia), get_push_lt (by lia), get_push_lt ha]
  refine oks_step rfl ?_
  simp (disch := decide) only [ok_alloc (o := .list []) rfl, s_expr, exprK_at, s_var, varK_at, s_attr, attrK_at, attrK2_at, s_sub, subK_at, subK2_at, subK3_at, s_ite, iteK_t, iteK_f, s_ret, retK_at, s_ret0, s_pass, runK_some, runK_none, forK_at, turnK_none, turnK_some, whlK_t, whlK_f, tt_not, tt_band, tt_bor, tt_bool, tt_loc, tt_cmp, tt_cmp2, tt_call, tt_meth, tt_isi, tt_attr, tt_sub, tt_bin, tnotF_t, tnotF_f, ta_nil, ta_cons, andF_t, andF_f, to_nil, to_cons, orF_t, orF_f, e_none, e_bool, e_int, e_str, e_loc, e_bin, binF_at, e_not, notF_at, notF2_t, notF2_f, e_band, e_bor, e_cmp, cmpF_at, e_cmp2, cmpG_t, cmpG_f, e_list, listF_at, e_tup, tupF_at, e_dict0, e_attr, attrF_at, e_sub, subF_at, e_call, e_meth, methF_at, e_bi, e_isi, isiF_at, boolF_at, e_comp, es_nil, es_cons, consF_at, consF2_at, ok_bind, bindK_at, bind_pure, bind_lift, ok_pure, ok_lift, List.zip_cons_cons, List.zip_nil_right, List.zip_nil_left, List.foldl_cons, List.foldl_nil, upd_def, Nat.reduceBEq, bif_t, bif_f, if_true, if_false, Bool.false_eq_true, reduceCtorEq, Nat.reduceEqDiff, ne_eq, not_false_eq_true, not_true_eq_false, decide_true, decide_false, Bool.not_true, Bool.not_false]
  refine then_step rfl ?_
  have ok1 : okO (.list [.int (top : Int)]) = true := rfl
  have ok2 : okO (.list [.ref (σ.length + 1)]) = true := rfl
  simp (disch := decide) only [ok_alloc ok1, l1, ok_alloc ok2, l2, s_expr, exprK_at, s_var, varK_at, s_attr, attrK_at, attrK2_at, s_sub, subK_at, subK2_at, subK3_at, s_ite, iteK_t, iteK_f, s_ret, retK_at, s_ret0, s_pass, runK_some, runK_none, forK_at, turnK_none, turnK_some, whlK_t, whlK_f, tt_not, tt_band, tt_bor, tt_bool, tt_loc, tt_cmp, tt_cmp2, tt_call, tt_meth, tt_isi, tt_attr, tt_sub, tt_bin, tnotF_t, tnotF_f, ta_nil, ta_cons, andF_t, andF_f, to_nil, to_cons, orF_t, orF_f, e_none, e_bool, e_int, e_str, e_loc, e_bin, binF_at, e_not, notF_at, notF2_t, notF2_f, e_band, e_bor, e_cmp, cmpF_at, e_cmp2, cmpG_t, cmpG_f, e_list, listF_at, e_tup, tupF_at, e_dict0, e_attr, attrF_at, e_sub, subF_at, e_call, e_meth, methF_at, e_bi, e_isi, isiF_at, boolF_at, e_comp, es_nil, es_cons, consF_at, consF2_at, ok_bind, bindK_at, bind_pure, bind_lift, ok_pure, ok_lift, List.zip_cons_cons, List.zip_nil_right, List.zip_nil_left, List.foldl_cons, List.foldl_nil, upd_def, Nat.reduceBEq, bif_t, bif_f, if_true, if_false, Bool.false_eq_true, reduceCtorEq, Nat.reduceEqDiff, ne_eq, not_false_eq_true, not_true_eq_false, decide_true, decide_false, Bool.not_true, Bool.not_false]
  generalize ((σ.push (.list [])).push (.list [.int (top : Int)])).push (.list [.ref (σ.length + 1)]) = τ at *
  refine then_step rfl ?_
  simp (disch := decide) only [s_expr, exprK_at, s_var, varK_at, s_attr, attrK_at, attrK2_at, s_sub, subK_at, subK2_at, subK3_at, s_ite, iteK_t, iteK_f, s_ret, retK_at, s_ret0, s_pass, runK_some, runK_none, forK_at, turnK_none, turnK_some, whlK_t, whlK_f, tt_not, tt_band, tt_bor, tt_bool, tt_loc, tt_cmp, tt_cmp2, tt_call, tt_meth, tt_isi, tt_attr, tt_sub, tt_bin, tnotF_t, tnotF_f, ta_nil, ta_cons, andF_t, andF_f, to_nil, to_cons, orF_t, orF_f, e_none, e_bool, e_int, e_str, e_loc, e_bin, binF_at, e_not, notF_at, notF2_t, notF2_f, e_band, e_bor, e_cmp, cmpF_at, e_cmp2, cmpG_t, cmpG_f, e_list, listF_at, e_tup, tupF_at, e_dict0, e_attr, attrF_at, e_sub, subF_at, e_call, e_meth, methF_at, e_bi, e_isi, isiF_at, boolF_at, e_comp, es_nil, es_cons, consF_at, consF2_at, ok_bind, bindK_at, bind_pure, bind_lift, ok_pure, ok_lift, List.zip_cons_cons, List.zip_nil_right, List.zip_nil_left, List.foldl_cons, List.foldl_nil, upd_def, Nat.reduceBEq, bif_t, bif_f, if_true, if_false, Bool.false_eq_true, reduceCtorEq, Nat.reduceEqDiff, ne_eq, not_false_eq_true, not_true_eq_false, decide_true, decide_false, Bool.not_true, Bool.not_false]
  refine then_step rfl ?_
  rw [s_whl]
  have A0 : Fa τ RA WA σ.length (σ.length + 2) (σ.length + 1) rs N s [] :=
    ⟨⟨rx, by rw [k3 _ hRl]; exact hr1, hr2⟩, by rw [k3 _ hWl]; exact hw, gF, gV, ⟨hne, by lia, by lia, by lia, by lia, by lia⟩, ⟨h1, by lia, by lia⟩⟩
  rw [w_step (n := 999)]
  have hlt : (0 : Int) < (([V.ref (σ.length + 1)] : List V).length : Int) := by simp
  simp (disch := decide) only [ok_lenL gV, hlt, ok_lt, ok_truthb, s_expr, exprK_at, s_var, varK_at, s_attr, attrK_at, attrK2_at, s_sub, subK_at, subK2_at, subK3_at, s_ite, iteK_t, iteK_f, s_ret, retK_at, s_ret0, s_pass, runK_some, runK_none, forK_at, turnK_none, turnK_some, whlK_t, whlK_f, tt_not, tt_band, tt_bor, tt_bool, tt_loc, tt_cmp, tt_cmp2, tt_call, tt_meth, tt_isi, tt_attr, tt_sub, tt_bin, tnotF_t, tnotF_f, ta_nil, ta_cons, andF_t, andF_f, to_nil, to_cons, orF_t, orF_f, e_none, e_bool, e_int, e_str, e_loc, e_bin, binF_at, e_not, notF_at, notF2_t, notF2_f, e_band, e_bor, e_cmp, cmpF_at, e_cmp2, cmpG_t, cmpG_f, e_list, listF_at, e_tup, tupF_at, e_dict0, e_attr, attrF_at, e_sub, subF_at, e_call, e_meth, methF_at, e_bi, e_isi, isiF_at, boolF_at, e_comp, es_nil, es_cons, consF_at, consF2_at, ok_bind, bindK_at, bind_pure, bind_lift, ok_pure, ok_lift, List.zip_cons_cons, List.zip_nil_right, List.zip_nil_left, List.foldl_cons, List.foldl_nil, upd_def, Nat.reduceBEq, bif_t, bif_f, if_true, if_false, Bool.false_eq_true, reduceCtorEq, Nat.reduceEqDiff, ne_eq, not_false_eq_true, not_true_eq_false, decide_true, decide_false, Bool.not_true, Bool.not_false]
  have hg0 : ([V.ref (σ.length + 1)] : List V)[((0 : Int)).toNat]? = some (.ref (σ.length + 1)) := rfl
  refine oks_step rfl ?_
  simp (disch := decide) only [ok_getList gV (by decide) hg0, s_expr, exprK_at, s_var, varK_at, s_attr, attrK_at, attrK2_at, s_sub, subK_at, subK2_at, subK3_at, s_ite, iteK_t, iteK_f, s_ret, retK_at, s_ret0, s_pass, runK_some, runK_none, forK_at, turnK_none, turnK_some, whlK_t, whlK_f, tt_not, tt_band, tt_bor, tt_bool, tt_loc, tt_cmp, tt_cmp2, tt_call, tt_meth, tt_isi, tt_attr, tt_sub, tt_bin, tnotF_t, tnotF_f, ta_nil, ta_cons, andF_t, andF_f, to_nil, to_cons, orF_t, orF_f, e_none, e_bool, e_int, e_str, e_loc, e_bin, binF_at, e_not, notF_at, notF2_t, notF2_f, e_band, e_bor, e_cmp, cmpF_at, e_cmp2, cmpG_t, cmpG_f, e_list, listF_at, e_tup, tupF_at, e_dict0, e_attr, attrF_at, e_sub, subF_at, e_call, e_meth, methF_at, e_bi, e_isi, isiF_at, boolF_at, e_comp, es_nil, es_cons, consF_at, consF2_at, ok_bind, bindK_at, bind_pure, bind_lift, ok_pure, ok_lift, List.zip_cons_cons, List.zip_nil_right, List.zip_nil_left, List.foldl_cons, List.foldl_nil, upd_def, Nat.reduceBEq, bif_t, bif_f, if_true, if_false, Bool.false_eq_true, reduceCtorEq, Nat.reduceEqDiff, ne_eq, not_false_eq_true, not_true_eq_false, decide_true, decide_false, Bool.not_true, Bool.not_false]
  refine then_step rfl ?_
  simp (disch := decide) only [ok_add, s_expr, exprK_at, s_var, varK_at, s_attr, attrK_at, attrK2_at, s_sub, subK_at, subK2_at, subK3_at, s_ite, iteK_t, iteK_f, s_ret, retK_at, s_ret0, s_pass, runK_some, runK_none, forK_at, turnK_none, turnK_some, whlK_t, whlK_f, tt_not, tt_band, tt_bor, tt_bool, tt_loc, tt_cmp, tt_cmp2, tt_call, tt_meth, tt_isi, tt_attr, tt_sub, tt_bin, tnotF_t, tnotF_f, ta_nil, ta_cons, andF_t, andF_f, to_nil, to_cons, orF_t, orF_f, e_none, e_bool, e_int, e_str, e_loc, e_bin, binF_at, e_not, notF_at, notF2_t, notF2_f, e_band, e_bor, e_cmp, cmpF_at, e_cmp2, cmpG_t, cmpG_f, e_list, listF_at, e_tup, tupF_at, e_dict0, e_attr, attrF_at, e_sub, subF_at, e_call, e_meth, methF_at, e_bi, e_isi, isiF_at, boolF_at, e_comp, es_nil, es_cons, consF_at, consF2_at, ok_bind, bindK_at, bind_pure, bind_lift, ok_pure, ok_lift, List.zip_cons_cons, List.zip_nil_right, List.zip_nil_left, List.foldl_cons, List.foldl_nil, upd_def, Nat.reduceBEq, bif_t, bif_f, if_true, if_false, Bool.false_eq_true, reduceCtorEq, Nat.reduceEqDiff, ne_eq, not_false_eq_true, not_true_eq_false, decide_true, decide_false, Bool.not_true, Bool.not_false]
  refine room_law (left := []) (xs := [some top]) (ra := σ.length + 1) A0 I hN (by simp; lia) (by simp) gI ⟨by lia, by lia, by lia⟩ (rfl) (rfl) (rfl) (rfl) (rfl) ?_
  intro l2' σ2 hl2 A2 len2 k2
  have eA : lightAll s [some top] = ((lightS s (some top)).1, (lightS s (some top)).2) := by simp [lightAll]
  rw [eA] at A2
  simp only [List.nil_append] at A2
  have I2 : PGood (lightS s (some top)).1 [] (lightS s (some top)).2 := by simpa using light_inv I
  refine fallw_ok (hrs := fun k q1 q2 => ⟨(hrs k q1 q2).1, by have := (hrs k q1 q2).2; lia, by have := (hrs k q1 q2).2; lia⟩) 999 s.boxes.length (lightS s (some top)).1 σ2 [] (lightS s (some top)).2 l2' A2 I2 (by rw [light_boxes.1]; exact hN) (fun k hk => ?_) (by rw [light_boxes.1]; simp; lia) (by rw [light_boxes.1]; exact Nat.le_refl _) (by lia) ((hl2 _ (by decide)).trans rfl) ((hl2 _ (by decide)).trans rfl) ((hl2 _ (by decide)).trans rfl) ((hl2 _ (by decide)).trans rfl) ((hl2 _ (by decide)).trans rfl) ?_
  · rw [light_boxes.1] at hk
    obtain ⟨q1, q2⟩ := hN k hk
    have hr := hrs k q1 q2
    rw [k2 _ hr.1 (by lia) (by lia), k3 _ hr.2, hS k hk]
    unfold slotsOf
    rw [light_boxes.1]
  · intro l' σ' m165 A' len' k'
    refine then_step rfl ?_
    simp (disch := decide) only [m165, then_some, s_expr, exprK_at, s_var, varK_at, s_attr, attrK_at, attrK2_at, s_sub, subK_at, subK2_at, subK3_at, s_ite, iteK_t, iteK_f, s_ret, retK_at, s_ret0, s_pass, runK_some, runK_none, forK_at, turnK_none, turnK_some, whlK_t, whlK_f, tt_not, tt_band, tt_bor, tt_bool, tt_loc, tt_cmp, tt_cmp2, tt_call, tt_meth, tt_isi, tt_attr, tt_sub, tt_bin, tnotF_t, tnotF_f, ta_nil, ta_cons, andF_t, andF_f, to_nil, to_cons, orF_t, orF_f, e_none, e_bool, e_int, e_str, e_loc, e_bin, binF_at, e_not, notF_at, notF2_t, notF2_f, e_band, e_bor, e_cmp, cmpF_at, e_cmp2, cmpG_t, cmpG_f, e_list, listF_at, e_tup, tupF_at, e_dict0, e_attr, attrF_at, e_sub, subF_at, e_call, e_meth, methF_at, e_bi, e_isi, isiF_at, boolF_at, e_comp, es_nil, es_cons, consF_at, consF2_at, ok_bind, bindK_at, bind_pure, bind_lift, ok_pure, ok_lift, List.zip_cons_cons, List.zip_nil_right, List.zip_nil_left, List.foldl_cons, List.foldl_nil, upd_def, Nat.reduceBEq, bif_t, bif_f, if_true, if_false, Bool.false_eq_true, reduceCtorEq, Nat.reduceEqDiff, ne_eq, not_false_eq_true, not_true_eq_false, decide_true, decide_false, Bool.not_true, Bool.not_false]
    refine h σ' (by simpa [letgoS] using A'.f) A'.w (by lia) fun a h1 h2 => ?_
    rw [k' a h2 (by lia) (by lia), k2 a h2 (by lia) (by lia), k3 a h1]

section
variable {σ σ' : H} {n q : Nat} {α : Nat → Nat} {s : PS} {L K : List (List (Option Nat))} {ras : List Nat} {RA : Nat} {t : V} {C : List (Nat × O)}
theorem R4.keep (R : R4 σ n q α s L K ras RA t C) (h : ∀ a, a < σ.length → σ'.get a = σ.get a) (hl : σ.length ≤ σ'.length) : R4 σ' n q α s L K ras RA t C :=
  ⟨R.A.keep (fun a ha => h a (R.A.lt ha)) hl, R.I, R.bx, R.md, by rw [h _ (get_lt R.r)]; exact R.r, R.rl, fun i a xs h1 h2 => by have := R.ro i a xs h1 h2; rw [h _ (get_lt this)]; exact this, R.nd, fun a ha => ⟨(R.no a ha).1, (R.no a ha).2.1, Nat.lt_of_lt_of_le (R.no a ha).2.2 hl⟩,
    fun p hp => ⟨by rw [h _ (get_lt (R.cs p hp).1)]; exact (R.cs p hp).1, (R.cs p hp).2⟩⟩
end

theorem rangeList1 {N : Nat} : rangeList 1 (N : Int) 1 = (List.range' 1 (N - 1)).map Int.ofNat := by
  unfold rangeList
  rw [if_pos (by decide)]
  rw [List.range'_eq_map_range, List.map_map]
  by_cases h : (1 : Int) < N
  · rw [if_pos h]
    have : (((N : Int) - 1 - 1) / 1 + 1).toNat = N - 1 := by lia
    rw [this]
    refine List.map_congr_left fun k _ => ?_
    show (1 : Int) + (k : Int) * 1 = ((1 + k : Nat) : Int)
    lia
  · rw [if_neg h]
    have : N - 1 = 0 := by lia
    rw [this]; rfl
theorem it_range1 {σ : H} {a N : Nat} (h : σ.get a = some (.rng 1 (N : Int) 1)) (h1 : N ≤ 1000) : iterOf (.ref a) σ = some ((List.range' 1 (N - 1)).map fun (k : Nat) => V.int (k : Int)) := by
  unfold iterOf
  simp only [h]
  have c1 : small' 1 = true := by decide
  have c2 : small' (N : Int) = true := by unfold small'; simp; lia
  have c3 : ((N : Int) - 1 ≤ (lim : Int)) := by have : (lim : Int) = 1000000 := rfl; lia
  rw [c1, c2, if_pos (by simp [c3]), rangeList1, List.map_map]
  rfl

theorem plain (ns : List Int) (hns : ns.length ≤ 63) : ∃ σ', run prog 1000 21 false 74 [.ref 0] [.list (ns.map .int)] = some (.ok (.bool true), σ') := by
  suffices hq : Ok (run prog 1000 21 false 74 [.ref 0]) [.list (ns.map .int)] (fun v _ => v = .bool true) by
    obtain ⟨v, σ', h, rfl⟩ := ok_iff.mp hq
    exact ⟨σ', h⟩
  rw [ok_run (fd := f_law) rfl rfl]
  unfold f_law
  have hlim : lim = 1000000 := rfl
  have z0 : H.get [.list (ns.map .int)] 0 = some (.list (ns.map V.int)) := rfl
  have len0 : ([.list (ns.map .int)] : H).length = 1 := rfl
  generalize ([.list (ns.map .int)] : H) = σ0 at *
  -- pile
  refine oks_step rfl ?_
  rw [s_var]
  refine new_ok (C := 0) (α := fun _ => 0) hP (by rw [nf1, len0]; exact Nat.le_refl _) fun σ1 A1 len1 k1 => ?_
  rw [len0] at A1 len1 k1 ⊢
  have z1 : σ1.get 0 = some (.list (ns.map V.int)) := by rw [k1 0 (by lia)]; exact z0
  -- many
  refine then_step rfl ?_
  simp (disch := decide) only [s_expr, exprK_at, s_var, varK_at, s_attr, attrK_at, attrK2_at, s_sub, subK_at, subK2_at, subK3_at, s_ite, iteK_t, iteK_f, s_ret, retK_at, s_ret0, s_pass, runK_some, runK_none, forK_at, turnK_none, turnK_some, whlK_t, whlK_f, tt_not, tt_band, tt_bor, tt_bool, tt_loc, tt_cmp, tt_cmp2, tt_call, tt_meth, tt_isi, tt_attr, tt_sub, tt_bin, tnotF_t, tnotF_f, ta_nil, ta_cons, andF_t, andF_f, to_nil, to_cons, orF_t, orF_f, e_none, e_bool, e_int, e_str, e_loc, e_bin, binF_at, e_not, notF_at, notF2_t, notF2_f, e_band, e_bor, e_cmp, cmpF_at, e_cmp2, cmpG_t, cmpG_f, e_list, listF_at, e_tup, tupF_at, e_dict0, e_attr, attrF_at, e_sub, subF_at, e_call, e_meth, methF_at, e_bi, e_isi, isiF_at, boolF_at, e_comp, es_nil, es_cons, consF_at, consF2_at, ok_bind, bindK_at, bind_pure, bind_lift, ok_pure, ok_lift, List.zip_cons_cons, List.zip_nil_right, List.zip_nil_left, List.foldl_cons, List.foldl_nil, upd_def, Nat.reduceBEq, bif_t, bif_f, if_true, if_false, Bool.false_eq_true, reduceCtorEq, Nat.reduceEqDiff, ne_eq, not_false_eq_true, not_true_eq_false, decide_true, decide_false, Bool.not_true, Bool.not_false]
  refine cell_ok hL (k := 0) z1 ?_
  obtain ⟨m0, hm0, hm1⟩ := fmod_nat (a := cellAt ns 0) (b := 18) (by decide)
  have em : (1 : Int) + (m0 : Int) = ((1 + m0 : Nat) : Int) := by lia
  simp (disch := decide) only [ok_mod (b := 18) (by decide), ok_add, hm0, em, s_expr, exprK_at, s_var, varK_at, s_attr, attrK_at, attrK2_at, s_sub, subK_at, subK2_at, subK3_at, s_ite, iteK_t, iteK_f, s_ret, retK_at, s_ret0, s_pass, runK_some, runK_none, forK_at, turnK_none, turnK_some, whlK_t, whlK_f, tt_not, tt_band, tt_bor, tt_bool, tt_loc, tt_cmp, tt_cmp2, tt_call, tt_meth, tt_isi, tt_attr, tt_sub, tt_bin, tnotF_t, tnotF_f, ta_nil, ta_cons, andF_t, andF_f, to_nil, to_cons, orF_t, orF_f, e_none, e_bool, e_int, e_str, e_loc, e_bin, binF_at, e_not, notF_at, notF2_t, notF2_f, e_band, e_bor, e_cmp, cmpF_at, e_cmp2, cmpG_t, cmpG_f, e_list, listF_at, e_tup, tupF_at, e_dict0, e_attr, attrF_at, e_sub, subF_at, e_call, e_meth, methF_at, e_bi, e_isi, isiF_at, boolF_at, e_comp, es_nil, es_cons, consF_at, consF2_at, ok_bind, bindK_at, bind_pure, bind_lift, ok_pure, ok_lift, List.zip_cons_cons, List.zip_nil_right, List.zip_nil_left, List.foldl_cons, List.foldl_nil, upd_def, Nat.reduceBEq, bif_t, bif_f, if_true, if_false, Bool.false_eq_true, reduceCtorEq, Nat.reduceEqDiff, ne_eq, not_false_eq_true, not_true_eq_false, decide_true, decide_false, Bool.not_true, Bool.not_false]
  -- rooms
  refine then_step rfl ?_
  have ok1 : okO (.list [.none]) = true := rfl
  simp (disch := decide) only [ok_alloc ok1, s_expr, exprK_at, s_var, varK_at, s_attr, attrK_at, attrK2_at, s_sub, subK_at, subK2_at, subK3_at, s_ite, iteK_t, iteK_f, s_ret, retK_at, s_ret0, s_pass, runK_some, runK_none, forK_at, turnK_none, turnK_some, whlK_t, whlK_f, tt_not, tt_band, tt_bor, tt_bool, tt_loc, tt_cmp, tt_cmp2, tt_call, tt_meth, tt_isi, tt_attr, tt_sub, tt_bin, tnotF_t, tnotF_f, ta_nil, ta_cons, andF_t, andF_f, to_nil, to_cons, orF_t, orF_f, e_none, e_bool, e_int, e_str, e_loc, e_bin, binF_at, e_not, notF_at, notF2_t, notF2_f, e_band, e_bor, e_cmp, cmpF_at, e_cmp2, cmpG_t, cmpG_f, e_list, listF_at, e_tup, tupF_at, e_dict0, e_attr, attrF_at, e_sub, subF_at, e_call, e_meth, methF_at, e_bi, e_isi, isiF_at, boolF_at, e_comp, es_nil, es_cons, consF_at, consF2_at, ok_bind, bindK_at, bind_pure, bind_lift, ok_pure, ok_lift, List.zip_cons_cons, List.zip_nil_right, List.zip_nil_left, List.foldl_cons, List.foldl_nil, upd_def, Nat.reduceBEq, bif_t, bif_f, if_true, if_false, Bool.false_eq_true, reduceCtorEq, Nat.reduceEqDiff, ne_eq, not_false_eq_true, not_true_eq_false, decide_true, decide_false, Bool.not_true, Bool.not_false]
  have A2 := A1.push (.list [.none])
  have r2 : (σ1.push (.list [.none])).get 8 = some (.list [.none]) := by have := get_push_eq (σ := σ1) (o := .list [.none]); rwa [len1] at this
  have z2 : (σ1.push (.list [.none])).get 0 = some (.list (ns.map V.int)) := by rw [get_push_lt (by lia)]; exact z1
  have l2 : (σ1.push (.list [.none])).length = 9 := by rw [len_push, len1]
  rw [len1]
  generalize σ1.push (.list [.none]) = σ2 at *
  -- make(0, 0), drop(0)
  refine then_step rfl ?_
  simp (disch := decide) only [mx_inst A2.p A2.d, s_expr, exprK_at, s_var, varK_at, s_attr, attrK_at, attrK2_at, s_sub, subK_at, subK2_at, subK3_at, s_ite, iteK_t, iteK_f, s_ret, retK_at, s_ret0, s_pass, runK_some, runK_none, forK_at, turnK_none, turnK_some, whlK_t, whlK_f, tt_not, tt_band, tt_bor, tt_bool, tt_loc, tt_cmp, tt_cmp2, tt_call, tt_meth, tt_isi, tt_attr, tt_sub, tt_bin, tnotF_t, tnotF_f, ta_nil, ta_cons, andF_t, andF_f, to_nil, to_cons, orF_t, orF_f, e_none, e_bool, e_int, e_str, e_loc, e_bin, binF_at, e_not, notF_at, notF2_t, notF2_f, e_band, e_bor, e_cmp, cmpF_at, e_cmp2, cmpG_t, cmpG_f, e_list, listF_at, e_tup, tupF_at, e_dict0, e_attr, attrF_at, e_sub, subF_at, e_call, e_meth, methF_at, e_bi, e_isi, isiF_at, boolF_at, e_comp, es_nil, es_cons, consF_at, consF2_at, ok_bind, bindK_at, bind_pure, bind_lift, ok_pure, ok_lift, List.zip_cons_cons, List.zip_nil_right, List.zip_nil_left, List.foldl_cons, List.foldl_nil, upd_def, Nat.reduceBEq, bif_t, bif_f, if_true, if_false, Bool.false_eq_true, reduceCtorEq, Nat.reduceEqDiff, ne_eq, not_false_eq_true, not_true_eq_false, decide_true, decide_false, Bool.not_true, Bool.not_false]
  refine make_ok hP (k := 0) (size := 0) A2 new_inv (by decide) (by decide) (by decide) fun σ3 D3 => ?_
  refine then_step rfl ?_
  have A3 := D3.at'
  have I3 : PGood (makeS newS 0 0).1 [] [] := make_good new_inv (by decide) (by decide)
  simp (disch := decide) only [mx_inst A3.p A3.d, s_expr, exprK_at, s_var, varK_at, s_attr, attrK_at, attrK2_at, s_sub, subK_at, subK2_at, subK3_at, s_ite, iteK_t, iteK_f, s_ret, retK_at, s_ret0, s_pass, runK_some, runK_none, forK_at, turnK_none, turnK_some, whlK_t, whlK_f, tt_not, tt_band, tt_bor, tt_bool, tt_loc, tt_cmp, tt_cmp2, tt_call, tt_meth, tt_isi, tt_attr, tt_sub, tt_bin, tnotF_t, tnotF_f, ta_nil, ta_cons, andF_t, andF_f, to_nil, to_cons, orF_t, orF_f, e_none, e_bool, e_int, e_str, e_loc, e_bin, binF_at, e_not, notF_at, notF2_t, notF2_f, e_band, e_bor, e_cmp, cmpF_at, e_cmp2, cmpG_t, cmpG_f, e_list, listF_at, e_tup, tupF_at, e_dict0, e_attr, attrF_at, e_sub, subF_at, e_call, e_meth, methF_at, e_bi, e_isi, isiF_at, boolF_at, e_comp, es_nil, es_cons, consF_at, consF2_at, ok_bind, bindK_at, bind_pure, bind_lift, ok_pure, ok_lift, List.zip_cons_cons, List.zip_nil_right, List.zip_nil_left, List.foldl_cons, List.foldl_nil, upd_def, Nat.reduceBEq, bif_t, bif_f, if_true, if_false, Bool.false_eq_true, reduceCtorEq, Nat.reduceEqDiff, ne_eq, not_false_eq_true, not_true_eq_false, decide_true, decide_false, Bool.not_true, Bool.not_false]
  refine drop_ok hP (k := 0) rfl A3 I3 (by decide) (by decide) fun σ4 D4 => ?_
  have own8 : ¬ Own 1 7 (fun _ => 0) newS 8 := by
    rintro (h | h | h | h | h | h | ⟨k, hk, _⟩) <;> first | lia | cases hk
  have own0 : ¬ Own 1 7 (fun _ => 0) newS 0 := by
    rintro (h | h | h | h | h | h | ⟨k, hk, _⟩) <;> first | lia | cases hk
  have own83 : ¬ Own 1 7 (updF (fun _ => 0) newS.made (List.length σ2 + 1)) (makeS newS 0 0).1 8 := fun e => by
    rcases D3.own 8 e with h | h
    · exact own8 h
    · lia
  have own03 : ¬ Own 1 7 (updF (fun _ => 0) newS.made (List.length σ2 + 1)) (makeS newS 0 0).1 0 := fun e => by
    rcases D3.own 0 e with h | h
    · exact own0 h
    · lia
  have len3 := D3.len
  have len4 := D4.len
  have r3 : σ3.get 8 = some (.list [.none]) := by rw [D3.kp 8 (by lia) own8]; exact r2
  have r4 : σ4.get 8 = some (.list [.none]) := by rw [D4.kp 8 (by lia) own83]; exact r3
  have z4 : σ4.get 0 = some (.list (ns.map V.int)) := by rw [D4.kp 0 (by lia) own03, D3.kp 0 (by lia) own0]; exact z2
  have own84 : ¬ Own 1 7 (updF (fun _ => 0) newS.made (List.length σ2 + 1)) (handedS (makeS newS 0 0).1 0 none).1 8 := fun e => by
    rcases D4.own 8 e with h | h
    · exact own83 h
    · lia
  have own04 : ¬ Own 1 7 (updF (fun _ => 0) newS.made (List.length σ2 + 1)) (handedS (makeS newS 0 0).1 0 none).1 0 := fun e => by
    rcases D4.own 0 e with h | h
    · exact own03 h
    · lia
  have Rb : R4 σ4 1 7 (updF (fun _ => 0) newS.made (List.length σ2 + 1)) (handedS (makeS newS 0 0).1 0 none).1 [] [] [] 8 .none [(0, .list (ns.map V.int))] :=
    ⟨D4.at', handed_good I3 (by decide) (fun k e => by cases e), rfl, rfl, r4, rfl, fun i a xs h => by simp at h, by simp, fun a ha => by simp at ha; subst ha; exact ⟨own84, by decide, by lia⟩, fun p hp => by simp at hp; subst hp; exact ⟨z4, own04, by simp⟩⟩
  have hhb : (handedS (makeS newS 0 0).1 0 none).1.hands = hs8 none none none none := rfl
  generalize (handedS (makeS newS 0 0).1 0 none).1 = s4 at *
  generalize updF (fun _ => 0) newS.made (List.length σ2 + 1) = α4 at *
  -- built
  refine then_step rfl ?_
  simp (disch := decide) only [s_expr, exprK_at, s_var, varK_at, s_attr, attrK_at, attrK2_at, s_sub, subK_at, subK2_at, subK3_at, s_ite, iteK_t, iteK_f, s_ret, retK_at, s_ret0, s_pass, runK_some, runK_none, forK_at, turnK_none, turnK_some, whlK_t, whlK_f, tt_not, tt_band, tt_bor, tt_bool, tt_loc, tt_cmp, tt_cmp2, tt_call, tt_meth, tt_isi, tt_attr, tt_sub, tt_bin, tnotF_t, tnotF_f, ta_nil, ta_cons, andF_t, andF_f, to_nil, to_cons, orF_t, orF_f, e_none, e_bool, e_int, e_str, e_loc, e_bin, binF_at, e_not, notF_at, notF2_t, notF2_f, e_band, e_bor, e_cmp, cmpF_at, e_cmp2, cmpG_t, cmpG_f, e_list, listF_at, e_tup, tupF_at, e_dict0, e_attr, attrF_at, e_sub, subF_at, e_call, e_meth, methF_at, e_bi, e_isi, isiF_at, boolF_at, e_comp, es_nil, es_cons, consF_at, consF2_at, ok_bind, bindK_at, bind_pure, bind_lift, ok_pure, ok_lift, List.zip_cons_cons, List.zip_nil_right, List.zip_nil_left, List.foldl_cons, List.foldl_nil, upd_def, Nat.reduceBEq, bif_t, bif_f, if_true, if_false, Bool.false_eq_true, reduceCtorEq, Nat.reduceEqDiff, ne_eq, not_false_eq_true, not_true_eq_false, decide_true, decide_false, Bool.not_true, Bool.not_false]
  refine built_ok (ns := ns) (many := 1 + m0) Rb (by simp) hhb (by lia) (by lia) fun σ5 α5 s5 L ras top kept R5 hh5 hL5 => ?_
  have rl := R5.rl
  -- top, rooms[0] = []
  refine then_step rfl ?_
  have gt0 : (ov (some top) :: ras.map V.ref)[((0 : Int)).toNat]? = some (.int (top : Int)) := rfl
  simp (disch := decide) only [ok_getList R5.r (by decide) gt0, s_expr, exprK_at, s_var, varK_at, s_attr, attrK_at, attrK2_at, s_sub, subK_at, subK2_at, subK3_at, s_ite, iteK_t, iteK_f, s_ret, retK_at, s_ret0, s_pass, runK_some, runK_none, forK_at, turnK_none, turnK_some, whlK_t, whlK_f, tt_not, tt_band, tt_bor, tt_bool, tt_loc, tt_cmp, tt_cmp2, tt_call, tt_meth, tt_isi, tt_attr, tt_sub, tt_bin, tnotF_t, tnotF_f, ta_nil, ta_cons, andF_t, andF_f, to_nil, to_cons, orF_t, orF_f, e_none, e_bool, e_int, e_str, e_loc, e_bin, binF_at, e_not, notF_at, notF2_t, notF2_f, e_band, e_bor, e_cmp, cmpF_at, e_cmp2, cmpG_t, cmpG_f, e_list, listF_at, e_tup, tupF_at, e_dict0, e_attr, attrF_at, e_sub, subF_at, e_call, e_meth, methF_at, e_bi, e_isi, isiF_at, boolF_at, e_comp, es_nil, es_cons, consF_at, consF2_at, ok_bind, bindK_at, bind_pure, bind_lift, ok_pure, ok_lift, List.zip_cons_cons, List.zip_nil_right, List.zip_nil_left, List.foldl_cons, List.foldl_nil, upd_def, Nat.reduceBEq, bif_t, bif_f, if_true, if_false, Bool.false_eq_true, reduceCtorEq, Nat.reduceEqDiff, ne_eq, not_false_eq_true, not_true_eq_false, decide_true, decide_false, Bool.not_true, Bool.not_false]
  refine then_step rfl ?_
  have R6 := R5.fresh (.list [])
  have l6 : (σ5.push (.list [])).length = σ5.length + 1 := len_push
  have set0 : (ov (some top) :: ras.map V.ref).set ((0 : Int)).toNat (.ref σ5.length) = .ref σ5.length :: ras.map V.ref := rfl
  simp (disch := decide) only [ok_alloc (o := .list []) rfl, ok_setList R6.r (show prog.nf ≤ 8 by decide) (by decide) (show ((0 : Int)) < ((ov (some top) :: ras.map V.ref).length : Int) by simp only [List.length_cons]; lia), set0, s_expr, exprK_at, s_var, varK_at, s_attr, attrK_at, attrK2_at, s_sub, subK_at, subK2_at, subK3_at, s_ite, iteK_t, iteK_f, s_ret, retK_at, s_ret0, s_pass, runK_some, runK_none, forK_at, turnK_none, turnK_some, whlK_t, whlK_f, tt_not, tt_band, tt_bor, tt_bool, tt_loc, tt_cmp, tt_cmp2, tt_call, tt_meth, tt_isi, tt_attr, tt_sub, tt_bin, tnotF_t, tnotF_f, ta_nil, ta_cons, andF_t, andF_f, to_nil, to_cons, orF_t, orF_f, e_none, e_bool, e_int, e_str, e_loc, e_bin, binF_at, e_not, notF_at, notF2_t, notF2_f, e_band, e_bor, e_cmp, cmpF_at, e_cmp2, cmpG_t, cmpG_f, e_list, listF_at, e_tup, tupF_at, e_dict0, e_attr, attrF_at, e_sub, subF_at, e_call, e_meth, methF_at, e_bi, e_isi, isiF_at, boolF_at, e_comp, es_nil, es_cons, consF_at, consF2_at, ok_bind, bindK_at, bind_pure, bind_lift, ok_pure, ok_lift, List.zip_cons_cons, List.zip_nil_right, List.zip_nil_left, List.foldl_cons, List.foldl_nil, upd_def, Nat.reduceBEq, bif_t, bif_f, if_true, if_false, Bool.false_eq_true, reduceCtorEq, Nat.reduceEqDiff, ne_eq, not_false_eq_true, not_true_eq_false, decide_true, decide_false, Bool.not_true, Bool.not_false]
  have R7 := R6.setT (.ref σ5.length)
  generalize (σ5.push (.list [])).put 8 (.list (.ref σ5.length :: ras.map V.ref)) = σ7 at *
  have e0c := (R7.cs (σ5.length, .list []) (by simp)).1
  have e0n := (R7.cs (σ5.length, .list []) (by simp)).2
  generalize σ5.length = e0 at *
  have keyR : ∀ k, k ∈ keys s5.boxes ↔ 1 ≤ k ∧ k < L.length + 1 := fun k => by rw [R5.bx, mkB_keys, List.mem_range'_1]; lia
  -- weights
  refine then_step rfl ?_
  simp (disch := decide) only [s_expr, exprK_at, s_var, varK_at, s_attr, attrK_at, attrK2_at, s_sub, subK_at, subK2_at, subK3_at, s_ite, iteK_t, iteK_f, s_ret, retK_at, s_ret0, s_pass, runK_some, runK_none, forK_at, turnK_none, turnK_some, whlK_t, whlK_f, tt_not, tt_band, tt_bor, tt_bool, tt_loc, tt_cmp, tt_cmp2, tt_call, tt_meth, tt_isi, tt_attr, tt_sub, tt_bin, tnotF_t, tnotF_f, ta_nil, ta_cons, andF_t, andF_f, to_nil, to_cons, orF_t, orF_f, e_none, e_bool, e_int, e_str, e_loc, e_bin, binF_at, e_not, notF_at, notF2_t, notF2_f, e_band, e_bor, e_cmp, cmpF_at, e_cmp2, cmpG_t, cmpG_f, e_list, listF_at, e_tup, tupF_at, e_dict0, e_attr, attrF_at, e_sub, subF_at, e_call, e_meth, methF_at, e_bi, e_isi, isiF_at, boolF_at, e_comp, es_nil, es_cons, consF_at, consF2_at, ok_bind, bindK_at, bind_pure, bind_lift, ok_pure, ok_lift, List.zip_cons_cons, List.zip_nil_right, List.zip_nil_left, List.foldl_cons, List.foldl_nil, upd_def, Nat.reduceBEq, bif_t, bif_f, if_true, if_false, Bool.false_eq_true, reduceCtorEq, Nat.reduceEqDiff, ne_eq, not_false_eq_true, not_true_eq_false, decide_true, decide_false, Bool.not_true, Bool.not_false]
  have hro : ∀ (i a : Nat) (xs : List (Option Nat)), (e0 :: ras)[i]? = some a → ([] :: L)[i]? = some xs → σ7.get a = some (.list (xs.map ov)) := by
    intro i a xs h1 h2
    cases i with
    | zero => simp at h1 h2; subst h1; subst h2; exact e0c
    | succ i => simp at h1 h2; exact R7.ro i a xs h1 h2
  refine weights_ok (rs := e0 :: ras) (Ks := [] :: L) (by simpa using R7.r) (by simp [rl]) (by simp [rl]; lia) (by decide) hro (fun xs hxs k hk => ?_) fun σ8 w8 l8 k8 => ?_
  · rcases List.mem_cons.mp hxs with rfl | hxs
    · cases hk
    · obtain ⟨i, hi⟩ := List.getElem?_of_mem hxs
      obtain ⟨u, hu⟩ := List.getElem?_of_mem hk
      have hb : aGet s5.boxes (1 + i) = some xs := by rw [R5.get]; exact hi
      have : slotOf s5 (1 + i) u = some k := by unfold slotOf slotsOf; rw [hb]; simp [hu]
      have := (keyR k).mp (R5.I.slot_key this)
      simp [rl]; lia
  simp only [List.flatten_cons, List.nil_append, List.length_cons, rl] at w8
  have hWge : 1 ≤ σ7.length := by have := (R7.no 8 (.head _)).2.2; lia
  generalize hWA : σ7.length = WA at *
  have htop : top ∈ keys s5.boxes := R5.I.hand_key (h := 1) (by simp [handOf, hh5])
  have htopN := (keyR top).mp htop
  -- weights[top] + 1
  refine then_step rfl ?_
  have hlt1 : (top : Int) < ((cts (L.length + 1) L.flatten).length : Int) := by simp [cts]; lia
  have nfW : prog.nf ≤ WA := by rw [nf1]; exact hWge
  simp (disch := decide) only [ok_getList w8 (Int.natCast_nonneg _) (cts_get htopN.2), ok_add, ok_setList w8 nfW (Int.natCast_nonneg _) hlt1, cts_add, s_expr, exprK_at, s_var, varK_at, s_attr, attrK_at, attrK2_at, s_sub, subK_at, subK2_at, subK3_at, s_ite, iteK_t, iteK_f, s_ret, retK_at, s_ret0, s_pass, runK_some, runK_none, forK_at, turnK_none, turnK_some, whlK_t, whlK_f, tt_not, tt_band, tt_bor, tt_bool, tt_loc, tt_cmp, tt_cmp2, tt_call, tt_meth, tt_isi, tt_attr, tt_sub, tt_bin, tnotF_t, tnotF_f, ta_nil, ta_cons, andF_t, andF_f, to_nil, to_cons, orF_t, orF_f, e_none, e_bool, e_int, e_str, e_loc, e_bin, binF_at, e_not, notF_at, notF2_t, notF2_f, e_band, e_bor, e_cmp, cmpF_at, e_cmp2, cmpG_t, cmpG_f, e_list, listF_at, e_tup, tupF_at, e_dict0, e_attr, attrF_at, e_sub, subF_at, e_call, e_meth, methF_at, e_bi, e_isi, isiF_at, boolF_at, e_comp, es_nil, es_cons, consF_at, consF2_at, ok_bind, bindK_at, bind_pure, bind_lift, ok_pure, ok_lift, List.zip_cons_cons, List.zip_nil_right, List.zip_nil_left, List.foldl_cons, List.foldl_nil, upd_def, Nat.reduceBEq, bif_t, bif_f, if_true, if_false, Bool.false_eq_true, reduceCtorEq, Nat.reduceEqDiff, ne_eq, not_false_eq_true, not_true_eq_false, decide_true, decide_false, Bool.not_true, Bool.not_false]
  have w9 : (σ8.put WA (.list (cts (L.length + 1) (L.flatten ++ [some top])))).get WA = some (.list (cts (L.length + 1) (L.flatten ++ [some top]))) := get_put_eq (by lia)
  have l9 : (σ8.put WA (.list (cts (L.length + 1) (L.flatten ++ [some top])))).length = WA + 1 := by rw [len_put]; exact l8
  have k9 : ∀ a, a < WA → (σ8.put WA (.list (cts (L.length + 1) (L.flatten ++ [some top])))).get a = σ7.get a := fun a ha => by rw [get_put_ne (by lia)]; exact k8 a ha
  generalize σ8.put WA (.list (cts (L.length + 1) (L.flatten ++ [some top]))) = σ9 at *
  -- the rest, from the weights on
  have rest : ∀ σa : H, σa.get WA = some (.list (wts (L.length + 1) s5)) → σa.length = WA + 1 → (∀ a, a < WA → σa.get a = σ7.get a) → ∀ l : Loc, l 75 = some (.ref 2) → l 89 = some (.ref 8) → l 186 = some (.ref WA) → l 189 = some (.int (top : Int)) →
      OkS (exs prog (run prog 1000 20) 1000 f_law_12 l σa) (fun r _ σ₁ => (r.getD .none) = .bool true) := by
    intro σa wa la ka l l75 l89 l186 l189
    have Ra : R4 σa 1 7 α5 s5 L L ras 8 (.ref e0) _ := R7.keep (fun a ha => ka a (by lia)) (by lia)
    have Ip : PGood { countS s5 none with hands := s5.hands.set 1 none } [handOf s5 1] [] := handed_inv R5.I (by decide) (fun k e => by cases e)
    have hh1 : handOf s5 1 = some top := by simp [handOf, hh5]
    rw [hh1] at Ip
    have eH : handedS s5 1 none = letgoS { countS s5 none with hands := s5.hands.set 1 none } (some top) := by unfold handedS; rw [hh1]
    have rsn : ∀ k, 1 ≤ k → k < L.length + 1 → ∃ a, ras[k - 1]? = some a ∧ a ∈ ras ∧ σa.get a = some (.list ((slotsOf s5 k).map ov)) := fun k h1 h2 => by
      have hk : k - 1 < ras.length := by lia
      have hL' : L[k - 1]? = some L[k - 1] := List.getElem?_eq_getElem (by lia)
      refine ⟨ras[k - 1], List.getElem?_eq_getElem hk, List.getElem_mem hk, ?_⟩
      rw [Ra.ro (k - 1) _ _ (List.getElem?_eq_getElem hk) hL']
      have : aGet s5.boxes (1 + (k - 1)) = some L[k - 1] := by rw [R5.get]; exact hL'
      rw [show 1 + (k - 1) = k by lia] at this
      unfold slotsOf; rw [this]; rfl
    -- due
    refine oks_step rfl ?_
    simp (disch := decide) only [l89, l186, l189, s_expr, exprK_at, s_var, varK_at, s_attr, attrK_at, attrK2_at, s_sub, subK_at, subK2_at, subK3_at, s_ite, iteK_t, iteK_f, s_ret, retK_at, s_ret0, s_pass, runK_some, runK_none, forK_at, turnK_none, turnK_some, whlK_t, whlK_f, tt_not, tt_band, tt_bor, tt_bool, tt_loc, tt_cmp, tt_cmp2, tt_call, tt_meth, tt_isi, tt_attr, tt_sub, tt_bin, tnotF_t, tnotF_f, ta_nil, ta_cons, andF_t, andF_f, to_nil, to_cons, orF_t, orF_f, e_none, e_bool, e_int, e_str, e_loc, e_bin, binF_at, e_not, notF_at, notF2_t, notF2_f, e_band, e_bor, e_cmp, cmpF_at, e_cmp2, cmpG_t, cmpG_f, e_list, listF_at, e_tup, tupF_at, e_dict0, e_attr, attrF_at, e_sub, subF_at, e_call, e_meth, methF_at, e_bi, e_isi, isiF_at, boolF_at, e_comp, es_nil, es_cons, consF_at, consF2_at, ok_bind, bindK_at, bind_pure, bind_lift, ok_pure, ok_lift, List.zip_cons_cons, List.zip_nil_right, List.zip_nil_left, List.foldl_cons, List.foldl_nil, upd_def, Nat.reduceBEq, bif_t, bif_f, if_true, if_false, Bool.false_eq_true, reduceCtorEq, Nat.reduceEqDiff, ne_eq, not_false_eq_true, not_true_eq_false, decide_true, decide_false, Bool.not_true, Bool.not_false]
    refine fallen_ok (rs := fun k => ras.getD (k - 1) 0) (N := L.length + 1) (s := { countS s5 none with hands := s5.hands.set 1 none }) ⟨_, Ra.r, fun k h1 h2 => ?_⟩ wa (by have := (R7.no 8 (.head _)).2.2; lia) hWge Ip (fun k hk => (keyR k).mp hk) (fun k hk => ?_) (by show s5.boxes.length ≤ 100; rw [R5.blen]; lia) (fun k h1 h2 => ?_) fun σb fb wb lb kb => ?_
    · obtain ⟨a, ha, _⟩ := rsn k h1 h2
      obtain ⟨k', rfl⟩ : ∃ k', k = k' + 1 := ⟨k - 1, by lia⟩
      simp only [Nat.add_sub_cancel] at ha ⊢
      simp [List.getD_eq_getElem?_getD, ha]
    · obtain ⟨h1, h2⟩ := (keyR k).mp hk
      obtain ⟨a, ha, _, hc⟩ := rsn k h1 h2
      show σa.get (ras.getD (k - 1) 0) = some (.list ((slotsOf s5 k).map ov))
      rw [List.getD_eq_getElem?_getD, ha]; exact hc
    · obtain ⟨a, ha, ham, hc⟩ := rsn k h1 h2
      have := (R7.no a (.tail _ ham)).2.2
      show ras.getD (k - 1) 0 ≠ WA ∧ ras.getD (k - 1) 0 < σa.length
      rw [List.getD_eq_getElem?_getD, ha]
      exact ⟨by simp; lia, by simp; lia⟩
    rw [← eH] at fb wb
    have Rb : R4 σb 1 7 α5 s5 L L ras 8 (.ref e0) _ := R7.keep (fun a ha => by rw [kb a (by lia) (by lia)]; exact ka a (by lia)) (by lia)
    have Ih : PGood (handedS s5 1 none).1 [] [] := by rw [eH]; exact letgo_inv Ip
    have hbx : (handedS s5 1 none).1.boxes = s5.boxes.filter (fun p => !decide (p.1 ∈ (handedS s5 1 none).2)) := by rw [eH]; exact letgo_boxes Ip
    -- drop(1)
    refine then_step rfl ?_
    simp (disch := decide) only [l75, mx_inst Rb.A.p Rb.A.d, s_expr, exprK_at, s_var, varK_at, s_attr, attrK_at, attrK2_at, s_sub, subK_at, subK2_at, subK3_at, s_ite, iteK_t, iteK_f, s_ret, retK_at, s_ret0, s_pass, runK_some, runK_none, forK_at, turnK_none, turnK_some, whlK_t, whlK_f, tt_not, tt_band, tt_bor, tt_bool, tt_loc, tt_cmp, tt_cmp2, tt_call, tt_meth, tt_isi, tt_attr, tt_sub, tt_bin, tnotF_t, tnotF_f, ta_nil, ta_cons, andF_t, andF_f, to_nil, to_cons, orF_t, orF_f, e_none, e_bool, e_int, e_str, e_loc, e_bin, binF_at, e_not, notF_at, notF2_t, notF2_f, e_band, e_bor, e_cmp, cmpF_at, e_cmp2, cmpG_t, cmpG_f, e_list, listF_at, e_tup, tupF_at, e_dict0, e_attr, attrF_at, e_sub, subF_at, e_call, e_meth, methF_at, e_bi, e_isi, isiF_at, boolF_at, e_comp, es_nil, es_cons, consF_at, consF2_at, ok_bind, bindK_at, bind_pure, bind_lift, ok_pure, ok_lift, List.zip_cons_cons, List.zip_nil_right, List.zip_nil_left, List.foldl_cons, List.foldl_nil, upd_def, Nat.reduceBEq, bif_t, bif_f, if_true, if_false, Bool.false_eq_true, reduceCtorEq, Nat.reduceEqDiff, ne_eq, not_false_eq_true, not_true_eq_false, decide_true, decide_false, Bool.not_true, Bool.not_false]
    refine drop_ok hP (k := 1) rfl Rb.A Rb.I (by decide) (by rw [Rb.blen]; lia) fun σc Dc => ?_
    have ownW : ∀ a, WA ≤ a → ¬ Own 1 7 α5 s5 a := fun a ha ho => by have := R7.A.lt ho; lia
    have fc : σc.get σa.length = some (.list (iN (handedS s5 1 none).2)) := by rw [Dc.kp _ lb (ownW _ (by lia))]; exact fb
    have wc : σc.get WA = some (.list (wts (L.length + 1) (handedS s5 1 none).1)) := by rw [Dc.kp _ (by lia) (ownW _ (Nat.le_refl _))]; exact wb
    have frl := Dc.len
    generalize hFR : handedS s5 1 none = FR at *
    obtain ⟨s6, freed⟩ := FR
    dsimp only at *
    have hfl : freed.length ≤ 1000 := by
      have := letgo_freed_len (s := { countS s5 none with hands := s5.hands.set 1 none }) (x := some top) Ip
      rw [← eH] at this
      have hb : s5.boxes.length ≤ 54 := by rw [R5.blen]; exact hL5
      have : freed.length ≤ s5.boxes.length := this
      lia
    try simp (disch := decide) only [s_expr, exprK_at, s_var, varK_at, s_attr, attrK_at, attrK2_at, s_sub, subK_at, subK2_at, subK3_at, s_ite, iteK_t, iteK_f, s_ret, retK_at, s_ret0, s_pass, runK_some, runK_none, forK_at, turnK_none, turnK_some, whlK_t, whlK_f, tt_not, tt_band, tt_bor, tt_bool, tt_loc, tt_cmp, tt_cmp2, tt_call, tt_meth, tt_isi, tt_attr, tt_sub, tt_bin, tnotF_t, tnotF_f, ta_nil, ta_cons, andF_t, andF_f, to_nil, to_cons, orF_t, orF_f, e_none, e_bool, e_int, e_str, e_loc, e_bin, binF_at, e_not, notF_at, notF2_t, notF2_f, e_band, e_bor, e_cmp, cmpF_at, e_cmp2, cmpG_t, cmpG_f, e_list, listF_at, e_tup, tupF_at, e_dict0, e_attr, attrF_at, e_sub, subF_at, e_call, e_meth, methF_at, e_bi, e_isi, isiF_at, boolF_at, e_comp, es_nil, es_cons, consF_at, consF2_at, ok_bind, bindK_at, bind_pure, bind_lift, ok_pure, ok_lift, List.zip_cons_cons, List.zip_nil_right, List.zip_nil_left, List.foldl_cons, List.foldl_nil, upd_def, Nat.reduceBEq, bif_t, bif_f, if_true, if_false, Bool.false_eq_true, reduceCtorEq, Nat.reduceEqDiff, ne_eq, not_false_eq_true, not_true_eq_false, decide_true, decide_false, Bool.not_true, Bool.not_false]
    refine numbers_ok hL Dc.fr fc (fun x hx => by simp [iN] at hx; obtain ⟨k, _, rfl⟩ := hx; exact .inr ⟨_, rfl⟩) (by simpa [iN] using hfl) ?_
    simp (disch := decide) only [ok_truthb, oks_nil, s_expr, exprK_at, s_var, varK_at, s_attr, attrK_at, attrK2_at, s_sub, subK_at, subK2_at, subK3_at, s_ite, iteK_t, iteK_f, s_ret, retK_at, s_ret0, s_pass, runK_some, runK_none, forK_at, turnK_none, turnK_some, whlK_t, whlK_f, tt_not, tt_band, tt_bor, tt_bool, tt_loc, tt_cmp, tt_cmp2, tt_call, tt_meth, tt_isi, tt_attr, tt_sub, tt_bin, tnotF_t, tnotF_f, ta_nil, ta_cons, andF_t, andF_f, to_nil, to_cons, orF_t, orF_f, e_none, e_bool, e_int, e_str, e_loc, e_bin, binF_at, e_not, notF_at, notF2_t, notF2_f, e_band, e_bor, e_cmp, cmpF_at, e_cmp2, cmpG_t, cmpG_f, e_list, listF_at, e_tup, tupF_at, e_dict0, e_attr, attrF_at, e_sub, subF_at, e_call, e_meth, methF_at, e_bi, e_isi, isiF_at, boolF_at, e_comp, es_nil, es_cons, consF_at, consF2_at, ok_bind, bindK_at, bind_pure, bind_lift, ok_pure, ok_lift, List.zip_cons_cons, List.zip_nil_right, List.zip_nil_left, List.foldl_cons, List.foldl_nil, upd_def, Nat.reduceBEq, bif_t, bif_f, if_true, if_false, Bool.false_eq_true, reduceCtorEq, Nat.reduceEqDiff, ne_eq, not_false_eq_true, not_true_eq_false, decide_true, decide_false, Bool.not_true, Bool.not_false]
    refine then_step rfl ?_
    have Ad := Dc.at'.push (.rng 0 ((iN freed).length : Int) 1)
    have fd : (σc.push (.rng 0 ((iN freed).length : Int) 1)).get σa.length = some (.list (iN freed)) := by rw [get_push_lt (by lia)]; exact fc
    have wd : (σc.push (.rng 0 ((iN freed).length : Int) 1)).get WA = some (.list (wts (L.length + 1) s6)) := by rw [get_push_lt (by lia)]; exact wc
    have rooms : ∀ a, a ∈ 8 :: ras → (σc.push (.rng 0 ((iN freed).length : Int) 1)).get a = σb.get a := fun a ha => by
      have h1 := Rb.no a ha
      rw [get_push_lt (by lia)]; exact Dc.kp a h1.2.2 h1.1
    have lend : (σc.push (.rng 0 ((iN freed).length : Int) 1)).length = σc.length + 1 := len_push
    generalize σc.push (.rng 0 ((iN freed).length : Int) 1) = σd at *
    have r8 : σd.get 8 = some (.list (.ref e0 :: ras.map V.ref)) := by rw [rooms 8 (.head _)]; exact Rb.r
    -- alive
    have elen : (((V.ref e0 :: ras.map V.ref) : List V).length : Int) = ((L.length + 1 : Nat) : Int) := by simp [rl]
    simp (disch := decide) only [l89, ok_lenL r8, elen, ok_range2, s_expr, exprK_at, s_var, varK_at, s_attr, attrK_at, attrK2_at, s_sub, subK_at, subK2_at, subK3_at, s_ite, iteK_t, iteK_f, s_ret, retK_at, s_ret0, s_pass, runK_some, runK_none, forK_at, turnK_none, turnK_some, whlK_t, whlK_f, tt_not, tt_band, tt_bor, tt_bool, tt_loc, tt_cmp, tt_cmp2, tt_call, tt_meth, tt_isi, tt_attr, tt_sub, tt_bin, tnotF_t, tnotF_f, ta_nil, ta_cons, andF_t, andF_f, to_nil, to_cons, orF_t, orF_f, e_none, e_bool, e_int, e_str, e_loc, e_bin, binF_at, e_not, notF_at, notF2_t, notF2_f, e_band, e_bor, e_cmp, cmpF_at, e_cmp2, cmpG_t, cmpG_f, e_list, listF_at, e_tup, tupF_at, e_dict0, e_attr, attrF_at, e_sub, subF_at, e_call, e_meth, methF_at, e_bi, e_isi, isiF_at, boolF_at, e_comp, es_nil, es_cons, consF_at, consF2_at, ok_bind, bindK_at, bind_pure, bind_lift, ok_pure, ok_lift, List.zip_cons_cons, List.zip_nil_right, List.zip_nil_left, List.foldl_cons, List.foldl_nil, upd_def, Nat.reduceBEq, bif_t, bif_f, if_true, if_false, Bool.false_eq_true, reduceCtorEq, Nat.reduceEqDiff, ne_eq, not_false_eq_true, not_true_eq_false, decide_true, decide_false, Bool.not_true, Bool.not_false]
    have ge : (σd.push (.rng 1 ((L.length + 1 : Nat) : Int) 1)).get σd.length = some (.rng 1 ((L.length + 1 : Nat) : Int) 1) := get_push_eq
    have Ae := Ad.push (.rng 1 ((L.length + 1 : Nat) : Int) 1)
    have ke : ∀ a, a < σd.length → (σd.push (.rng 1 ((L.length + 1 : Nat) : Int) 1)).get a = σd.get a := fun a ha => get_push_lt ha
    have lene : (σd.push (.rng 1 ((L.length + 1 : Nat) : Int) 1)).length = σd.length + 1 := len_push
    have fe : (σd.push (.rng 1 ((L.length + 1 : Nat) : Int) 1)).get σa.length = some (.list ((freed.map Int.ofNat).map V.int)) := by rw [ke _ (by lia), fd]; simp [iN, List.map_map]
    generalize σd.push (.rng 1 ((L.length + 1 : Nat) : Int) 1) = σe at *
    have vsl : ∀ y ∈ ((List.range' 1 (L.length + 1 - 1)).map fun (k : Nat) => V.int (k : Int)), ∃ k : Nat, y = .int (k : Int) := fun y hy => by
      obtain ⟨k, _, rfl⟩ := List.mem_map.mp hy; exact ⟨k, rfl⟩
    rw [c_pure (fun y => match y with | .int i => !decide (i ∈ freed.map Int.ofNat) | _ => false) (fun y => y) (it_range1 ge (by lia)) (fun y hy => ?_) (fun y hy _ => ?_) (by simp only [List.map_id']; refine Nat.le_trans (List.length_filter_le _ _) ?_; simp [hlim]; lia)]
    rotate_left
    · obtain ⟨k, rfl⟩ := vsl y hy
      refine ok_eq ?_
      simp (disch := decide) only [ok_notInL fe, ok_truthb, oks_cons, oks_nil, then_none, then_some, s_expr, exprK_at, s_var, varK_at, s_attr, attrK_at, attrK2_at, s_sub, subK_at, subK2_at, subK3_at, s_ite, iteK_t, iteK_f, s_ret, retK_at, s_ret0, s_pass, runK_some, runK_none, forK_at, turnK_none, turnK_some, whlK_t, whlK_f, tt_not, tt_band, tt_bor, tt_bool, tt_loc, tt_cmp, tt_cmp2, tt_call, tt_meth, tt_isi, tt_attr, tt_sub, tt_bin, tnotF_t, tnotF_f, ta_nil, ta_cons, andF_t, andF_f, to_nil, to_cons, orF_t, orF_f, e_none, e_bool, e_int, e_str, e_loc, e_bin, binF_at, e_not, notF_at, notF2_t, notF2_f, e_band, e_bor, e_cmp, cmpF_at, e_cmp2, cmpG_t, cmpG_f, e_list, listF_at, e_tup, tupF_at, e_dict0, e_attr, attrF_at, e_sub, subF_at, e_call, e_meth, methF_at, e_bi, e_isi, isiF_at, boolF_at, e_comp, es_nil, es_cons, consF_at, consF2_at, ok_bind, bindK_at, bind_pure, bind_lift, ok_pure, ok_lift, List.zip_cons_cons, List.zip_nil_right, List.zip_nil_left, List.foldl_cons, List.foldl_nil, upd_def, Nat.reduceBEq, bif_t, bif_f, if_true, if_false, Bool.false_eq_true, reduceCtorEq, Nat.reduceEqDiff, ne_eq, not_false_eq_true, not_true_eq_false, decide_true, decide_false, Bool.not_true, Bool.not_false]
      cases hdec : (!decide ((k : Int) ∈ freed.map Int.ofNat)) <;> first | exact ⟨rfl, rfl⟩ | exact ⟨hdec.symm, rfl⟩
    · refine ok_eq ?_
      simp (disch := decide) only [oks_cons, oks_nil, then_none, then_some, s_expr, exprK_at, s_var, varK_at, s_attr, attrK_at, attrK2_at, s_sub, subK_at, subK2_at, subK3_at, s_ite, iteK_t, iteK_f, s_ret, retK_at, s_ret0, s_pass, runK_some, runK_none, forK_at, turnK_none, turnK_some, whlK_t, whlK_f, tt_not, tt_band, tt_bor, tt_bool, tt_loc, tt_cmp, tt_cmp2, tt_call, tt_meth, tt_isi, tt_attr, tt_sub, tt_bin, tnotF_t, tnotF_f, ta_nil, ta_cons, andF_t, andF_f, to_nil, to_cons, orF_t, orF_f, e_none, e_bool, e_int, e_str, e_loc, e_bin, binF_at, e_not, notF_at, notF2_t, notF2_f, e_band, e_bor, e_cmp, cmpF_at, e_cmp2, cmpG_t, cmpG_f, e_list, listF_at, e_tup, tupF_at, e_dict0, e_attr, attrF_at, e_sub, subF_at, e_call, e_meth, methF_at, e_bi, e_isi, isiF_at, boolF_at, e_comp, es_nil, es_cons, consF_at, consF2_at, ok_bind, bindK_at, bind_pure, bind_lift, ok_pure, ok_lift, List.zip_cons_cons, List.zip_nil_right, List.zip_nil_left, List.foldl_cons, List.foldl_nil, upd_def, Nat.reduceBEq, bif_t, bif_f, if_true, if_false, Bool.false_eq_true, reduceCtorEq, Nat.reduceEqDiff, ne_eq, not_false_eq_true, not_true_eq_false, decide_true, decide_false, Bool.not_true, Bool.not_false]
      exact ⟨trivial, trivial⟩
    have eal : List.map (fun y => y) (List.filter (fun y => match y with | .int i => !decide (i ∈ freed.map Int.ofNat) | _ => false) ((List.range' 1 (L.length + 1 - 1)).map fun (k : Nat) => V.int (k : Int))) = iN ((List.range' 1 L.length).filter fun k => !decide (k ∈ freed)) := by
      rw [List.map_id', List.filter_map]
      simp only [Nat.add_sub_cancel, iN]
      congr 1
      refine List.filter_congr fun k _ => ?_
      simp only [Function.comp]
      congr 1
      have : ((k : Int) ∈ freed.map Int.ofNat) ↔ k ∈ freed := by rw [List.mem_map]; exact ⟨fun ⟨a, h1, h2⟩ => by have := Int.ofNat.inj h2; exact this ▸ h1, fun h => ⟨k, h, rfl⟩⟩
      simp [this]
    rw [eal]
    have gf : (σe.push (.list (iN ((List.range' 1 L.length).filter fun k => !decide (k ∈ freed))))).get σe.length = some (.list (iN ((List.range' 1 L.length).filter fun k => !decide (k ∈ freed)))) := get_push_eq
    have Af := Ae.push (.list (iN ((List.range' 1 L.length).filter fun k => !decide (k ∈ freed))))
    have kf : ∀ a, a < σe.length → (σe.push (.list (iN ((List.range' 1 L.length).filter fun k => !decide (k ∈ freed))))).get a = σe.get a := fun a ha => get_push_lt ha
    have lenf : (σe.push (.list (iN ((List.range' 1 L.length).filter fun k => !decide (k ∈ freed))))).length = σe.length + 1 := len_push
    have keys6 : keys s6.boxes = (List.range' 1 L.length).filter fun k => !decide (k ∈ freed) := by
      rw [hbx, ← mkB_keys L 1, ← R5.bx]
      unfold keys
      rw [List.filter_map]; rfl
    rw [← keys6] at gf Af kf lenf ⊢
    have sorted6 : sortI ((keys s6.boxes).map Int.ofNat) = (keys s6.boxes).map Int.ofNat := by
      refine sortI_id ?_
      rw [List.pairwise_map, keys6]
      exact (List.Pairwise.filter _ (List.pairwise_le_range' (s := 1) (n := L.length))).imp (fun h => by simpa using h)
    have n6 : s6.boxes.length ≤ 54 := by
      have : (keys s6.boxes).length ≤ L.length := by rw [keys6]; exact Nat.le_trans (List.length_filter_le _ _) (by simp)
      simp only [keys, List.length_map] at this; lia
    generalize σe.push (.list (iN (keys s6.boxes))) = σf at *
    refine then_step rfl ?_
    simp (disch := decide) only [l75, mx_inst Af.p Af.d, s_expr, exprK_at, s_var, varK_at, s_attr, attrK_at, attrK2_at, s_sub, subK_at, subK2_at, subK3_at, s_ite, iteK_t, iteK_f, s_ret, retK_at, s_ret0, s_pass, runK_some, runK_none, forK_at, turnK_none, turnK_some, whlK_t, whlK_f, tt_not, tt_band, tt_bor, tt_bool, tt_loc, tt_cmp, tt_cmp2, tt_call, tt_meth, tt_isi, tt_attr, tt_sub, tt_bin, tnotF_t, tnotF_f, ta_nil, ta_cons, andF_t, andF_f, to_nil, to_cons, orF_t, orF_f, e_none, e_bool, e_int, e_str, e_loc, e_bin, binF_at, e_not, notF_at, notF2_t, notF2_f, e_band, e_bor, e_cmp, cmpF_at, e_cmp2, cmpG_t, cmpG_f, e_list, listF_at, e_tup, tupF_at, e_dict0, e_attr, attrF_at, e_sub, subF_at, e_call, e_meth, methF_at, e_bi, e_isi, isiF_at, boolF_at, e_comp, es_nil, es_cons, consF_at, consF2_at, ok_bind, bindK_at, bind_pure, bind_lift, ok_pure, ok_lift, List.zip_cons_cons, List.zip_nil_right, List.zip_nil_left, List.foldl_cons, List.foldl_nil, upd_def, Nat.reduceBEq, bif_t, bif_f, if_true, if_false, Bool.false_eq_true, reduceCtorEq, Nat.reduceEqDiff, ne_eq, not_false_eq_true, not_true_eq_false, decide_true, decide_false, Bool.not_true, Bool.not_false]
    refine alive_ok hP Af (show s6.boxes.length < 64 by lia) ?_
    rw [sorted6]
    have em : List.map V.int (List.map Int.ofNat (keys s6.boxes)) = iN (keys s6.boxes) := by simp [iN, List.map_map]
    rw [em]
    have gg : (σf.push (.list (iN (keys s6.boxes)))).get σf.length = some (.list (iN (keys s6.boxes))) := get_push_eq
    have gg2 : (σf.push (.list (iN (keys s6.boxes)))).get σe.length = some (.list (iN (keys s6.boxes))) := by rw [get_push_lt (by lia)]; exact gf
    have Ag := Af.push (.list (iN (keys s6.boxes)))
    have kg : ∀ a, a < σf.length → (σf.push (.list (iN (keys s6.boxes)))).get a = σf.get a := fun a ha => get_push_lt ha
    have leng : (σf.push (.list (iN (keys s6.boxes)))).length = σf.length + 1 := len_push
    generalize σf.push (.list (iN (keys s6.boxes))) = σg at *
    try simp (disch := decide) only [s_expr, exprK_at, s_var, varK_at, s_attr, attrK_at, attrK2_at, s_sub, subK_at, subK2_at, subK3_at, s_ite, iteK_t, iteK_f, s_ret, retK_at, s_ret0, s_pass, runK_some, runK_none, forK_at, turnK_none, turnK_some, whlK_t, whlK_f, tt_not, tt_band, tt_bor, tt_bool, tt_loc, tt_cmp, tt_cmp2, tt_call, tt_meth, tt_isi, tt_attr, tt_sub, tt_bin, tnotF_t, tnotF_f, ta_nil, ta_cons, andF_t, andF_f, to_nil, to_cons, orF_t, orF_f, e_none, e_bool, e_int, e_str, e_loc, e_bin, binF_at, e_not, notF_at, notF2_t, notF2_f, e_band, e_bor, e_cmp, cmpF_at, e_cmp2, cmpG_t, cmpG_f, e_list, listF_at, e_tup, tupF_at, e_dict0, e_attr, attrF_at, e_sub, subF_at, e_call, e_meth, methF_at, e_bi, e_isi, isiF_at, boolF_at, e_comp, es_nil, es_cons, consF_at, consF2_at, ok_bind, bindK_at, bind_pure, bind_lift, ok_pure, ok_lift, List.zip_cons_cons, List.zip_nil_right, List.zip_nil_left, List.foldl_cons, List.foldl_nil, upd_def, Nat.reduceBEq, bif_t, bif_f, if_true, if_false, Bool.false_eq_true, reduceCtorEq, Nat.reduceEqDiff, ne_eq, not_false_eq_true, not_true_eq_false, decide_true, decide_false, Bool.not_true, Bool.not_false]
    have hinN : ∀ (l : List Nat), ∀ x ∈ iN l, x = V.none ∨ ∃ i, x = V.int i := fun l x hx => by simp [iN] at hx; obtain ⟨k, _, rfl⟩ := hx; exact .inr ⟨_, rfl⟩
    refine numbers_ok hL gg gg2 (hinN _) (by simp [iN, keys]; lia) ?_
    simp (disch := decide) only [ok_truthb, oks_nil, s_expr, exprK_at, s_var, varK_at, s_attr, attrK_at, attrK2_at, s_sub, subK_at, subK2_at, subK3_at, s_ite, iteK_t, iteK_f, s_ret, retK_at, s_ret0, s_pass, runK_some, runK_none, forK_at, turnK_none, turnK_some, whlK_t, whlK_f, tt_not, tt_band, tt_bor, tt_bool, tt_loc, tt_cmp, tt_cmp2, tt_call, tt_meth, tt_isi, tt_attr, tt_sub, tt_bin, tnotF_t, tnotF_f, ta_nil, ta_cons, andF_t, andF_f, to_nil, to_cons, orF_t, orF_f, e_none, e_bool, e_int, e_str, e_loc, e_bin, binF_at, e_not, notF_at, notF2_t, notF2_f, e_band, e_bor, e_cmp, cmpF_at, e_cmp2, cmpG_t, cmpG_f, e_list, listF_at, e_tup, tupF_at, e_dict0, e_attr, attrF_at, e_sub, subF_at, e_call, e_meth, methF_at, e_bi, e_isi, isiF_at, boolF_at, e_comp, es_nil, es_cons, consF_at, consF2_at, ok_bind, bindK_at, bind_pure, bind_lift, ok_pure, ok_lift, List.zip_cons_cons, List.zip_nil_right, List.zip_nil_left, List.foldl_cons, List.foldl_nil, upd_def, Nat.reduceBEq, bif_t, bif_f, if_true, if_false, Bool.false_eq_true, reduceCtorEq, Nat.reduceEqDiff, ne_eq, not_false_eq_true, not_true_eq_false, decide_true, decide_false, Bool.not_true, Bool.not_false]
    refine then_step rfl ?_
    rw [s_for]
    have Ai := Ag.push (.rng 0 ((iN (keys s6.boxes)).length : Int) 1)
    have ki : ∀ a, a < σg.length → (σg.push (.rng 0 ((iN (keys s6.boxes)).length : Int) 1)).get a = σg.get a := fun a ha => get_push_lt ha
    have leni : (σg.push (.rng 0 ((iN (keys s6.boxes)).length : Int) 1)).length = σg.length + 1 := len_push
    generalize σg.push (.rng 0 ((iN (keys s6.boxes)).length : Int) 1) = σi at *
    have gal : σi.get σe.length = some (.list (iN (keys s6.boxes))) := by rw [ki _ (by lia)]; exact gg2
    have wi : σi.get WA = some (.list (wts (L.length + 1) s6)) := by rw [ki _ (by lia), kg _ (by lia), kf _ (by lia), ke _ (by lia)]; exact wd
    have kroom : ∀ a, a ∈ 8 :: ras → σi.get a = σb.get a := fun a ha => by
      have h1 := (Rb.no a ha).2.2
      rw [ki _ (by lia), kg _ (by lia), kf _ (by lia), ke _ (by lia)]; exact rooms a ha
    simp (disch := decide) only [s_expr, exprK_at, s_var, varK_at, s_attr, attrK_at, attrK2_at, s_sub, subK_at, subK2_at, subK3_at, s_ite, iteK_t, iteK_f, s_ret, retK_at, s_ret0, s_pass, runK_some, runK_none, forK_at, turnK_none, turnK_some, whlK_t, whlK_f, tt_not, tt_band, tt_bor, tt_bool, tt_loc, tt_cmp, tt_cmp2, tt_call, tt_meth, tt_isi, tt_attr, tt_sub, tt_bin, tnotF_t, tnotF_f, ta_nil, ta_cons, andF_t, andF_f, to_nil, to_cons, orF_t, orF_f, e_none, e_bool, e_int, e_str, e_loc, e_bin, binF_at, e_not, notF_at, notF2_t, notF2_f, e_band, e_bor, e_cmp, cmpF_at, e_cmp2, cmpG_t, cmpG_f, e_list, listF_at, e_tup, tupF_at, e_dict0, e_attr, attrF_at, e_sub, subF_at, e_call, e_meth, methF_at, e_bi, e_isi, isiF_at, boolF_at, e_comp, es_nil, es_cons, consF_at, consF2_at, ok_bind, bindK_at, bind_pure, bind_lift, ok_pure, ok_lift, List.zip_cons_cons, List.zip_nil_right, List.zip_nil_left, List.foldl_cons, List.foldl_nil, upd_def, Nat.reduceBEq, bif_t, bif_f, if_true, if_false, Bool.false_eq_true, reduceCtorEq, Nat.reduceEqDiff, ne_eq, not_false_eq_true, not_true_eq_false, decide_true, decide_false, Bool.not_true, Bool.not_false]
    refine ⟨_, it_list gal, ?_⟩
    refine f_inv (fun j l' σj => l' 75 = some (.ref 2) ∧ l' 89 = some (.ref 8) ∧ l' 186 = some (.ref WA) ∧ At prog σj 1 7 α5 s6 ∧ σi.length ≤ σj.length ∧ (∀ a, a < σi.length → σj.get a = σi.get a)) ?_ ?_ ?_
    · exact ⟨l75, l89, l186, Ai, Nat.le_refl _, fun _ _ => rfl⟩
    · rintro j l' σj y hy ⟨m75, m89, m186, Aj, lj, kj⟩
      obtain ⟨k, hk, rfl⟩ : ∃ k, k ∈ keys s6.boxes ∧ y = .int (k : Int) := by
        have := List.mem_of_getElem? hy
        simp only [iN, List.mem_map] at this
        obtain ⟨k, h1, h2⟩ := this
        exact ⟨k, h1, h2.symm⟩
      have hkw : k ∈ keys s6.weights := (count_mem Ih).mp hk
      have hk5 : k ∈ keys s5.boxes := by rw [keys6] at hk; have := (List.mem_filter.mp hk).1; rw [R5.bx, mkB_keys]; exact this
      obtain ⟨hk1, hkN⟩ := (keyR k).mp hk5
      have hnf : k ∉ freed := by rw [keys6] at hk; have := (List.mem_filter.mp hk).2; simpa using this
      have hsl : slotsOf s6 k = slotsOf s5 k := by
        unfold slotsOf
        congr 1
        obtain ⟨v, hv⟩ := aGet_key hk
        have hm := aGet_some_mem hv
        rw [hbx] at hm
        rw [hv, aGet_of_mem R5.I.nd (List.mem_filter.mp hm).1]
      obtain ⟨a, ha, ham, hac⟩ := rsn k hk1 hkN
      have wj : σj.get WA = some (.list (wts (L.length + 1) s6)) := by rw [kj _ (by lia)]; exact wi
      have gw : (wts (L.length + 1) s6)[((k : Nat) : Int).toNat]? = some (.int (wt s6 k : Int)) := by simp [wts, hkN]
      refine oks_step rfl ?_
      simp (disch := decide) only [m75, mx_inst Aj.p Aj.d, s_expr, exprK_at, s_var, varK_at, s_attr, attrK_at, attrK2_at, s_sub, subK_at, subK2_at, subK3_at, s_ite, iteK_t, iteK_f, s_ret, retK_at, s_ret0, s_pass, runK_some, runK_none, forK_at, turnK_none, turnK_some, whlK_t, whlK_f, tt_not, tt_band, tt_bor, tt_bool, tt_loc, tt_cmp, tt_cmp2, tt_call, tt_meth, tt_isi, tt_attr, tt_sub, tt_bin, tnotF_t, tnotF_f, ta_nil, ta_cons, andF_t, andF_f, to_nil, to_cons, orF_t, orF_f, e_none, e_bool, e_int, e_str, e_loc, e_bin, binF_at, e_not, notF_at, notF2_t, notF2_f, e_band, e_bor, e_cmp, cmpF_at, e_cmp2, cmpG_t, cmpG_f, e_list, listF_at, e_tup, tupF_at, e_dict0, e_attr, attrF_at, e_sub, subF_at, e_call, e_meth, methF_at, e_bi, e_isi, isiF_at, boolF_at, e_comp, es_nil, es_cons, consF_at, consF2_at, ok_bind, bindK_at, bind_pure, bind_lift, ok_pure, ok_lift, List.zip_cons_cons, List.zip_nil_right, List.zip_nil_left, List.foldl_cons, List.foldl_nil, upd_def, Nat.reduceBEq, bif_t, bif_f, if_true, if_false, Bool.false_eq_true, reduceCtorEq, Nat.reduceEqDiff, ne_eq, not_false_eq_true, not_true_eq_false, decide_true, decide_false, Bool.not_true, Bool.not_false]
      refine weighs_ok hP Aj hk hkw ?_
      have hsl6 : (slotsOf s6 k).length ≤ 6 := by
        obtain ⟨v, hv⟩ := aGet_key hk
        have := Ih.sl k v (aGet_some_mem hv)
        unfold slotsOf; rw [hv]; exact this
      have rj : σj.get 8 = some (.list (.ref e0 :: ras.map V.ref)) := by rw [kj _ (by have := (Rb.no 8 (.head _)).2.2; lia), kroom 8 (.head _)]; exact Rb.r
      have aj : σj.get a = some (.list ((slotsOf s6 k).map ov)) := by
        have h1 := (Rb.no a (.tail _ ham)).2.2
        rw [kj _ (by lia), kroom a (.tail _ ham), hsl]
        have h2 := (R7.no a (.tail _ ham)).2.2
        rw [kb a (by lia) (by lia)]; exact hac
      have gr : (V.ref e0 :: ras.map V.ref)[((k : Nat) : Int).toNat]? = some (.ref a) := by
        obtain ⟨k', rfl⟩ : ∃ k', k = k' + 1 := ⟨k - 1, by lia⟩
        simp only [Nat.add_sub_cancel] at ha
        simp [ha]
      simp (disch := decide) only [m186, ok_getList wj (Int.natCast_nonneg _) gw, ok_neI, ok_truthb, m75, mx_inst Aj.p Aj.d, s_expr, exprK_at, s_var, varK_at, s_attr, attrK_at, attrK2_at, s_sub, subK_at, subK2_at, subK3_at, s_ite, iteK_t, iteK_f, s_ret, retK_at, s_ret0, s_pass, runK_some, runK_none, forK_at, turnK_none, turnK_some, whlK_t, whlK_f, tt_not, tt_band, tt_bor, tt_bool, tt_loc, tt_cmp, tt_cmp2, tt_call, tt_meth, tt_isi, tt_attr, tt_sub, tt_bin, tnotF_t, tnotF_f, ta_nil, ta_cons, andF_t, andF_f, to_nil, to_cons, orF_t, orF_f, e_none, e_bool, e_int, e_str, e_loc, e_bin, binF_at, e_not, notF_at, notF2_t, notF2_f, e_band, e_bor, e_cmp, cmpF_at, e_cmp2, cmpG_t, cmpG_f, e_list, listF_at, e_tup, tupF_at, e_dict0, e_attr, attrF_at, e_sub, subF_at, e_call, e_meth, methF_at, e_bi, e_isi, isiF_at, boolF_at, e_comp, es_nil, es_cons, consF_at, consF2_at, ok_bind, bindK_at, bind_pure, bind_lift, ok_pure, ok_lift, List.zip_cons_cons, List.zip_nil_right, List.zip_nil_left, List.foldl_cons, List.foldl_nil, upd_def, Nat.reduceBEq, bif_t, bif_f, if_true, if_false, Bool.false_eq_true, reduceCtorEq, Nat.reduceEqDiff, ne_eq, not_false_eq_true, not_true_eq_false, decide_true, decide_false, Bool.not_true, Bool.not_false]
      refine points_ok hP rfl Aj hk hsl6 ?_
      have Aq := Aj.push (.list ((slotsOf s6 k).map ov))
      have gq : (σj.push (.list ((slotsOf s6 k).map ov))).get σj.length = some (.list ((slotsOf s6 k).map ov)) := get_push_eq
      have rq : (σj.push (.list ((slotsOf s6 k).map ov))).get 8 = some (.list (.ref e0 :: ras.map V.ref)) := by rw [get_push_lt (get_lt rj)]; exact rj
      have aq : (σj.push (.list ((slotsOf s6 k).map ov))).get a = some (.list ((slotsOf s6 k).map ov)) := by rw [get_push_lt (get_lt aj)]; exact aj
      have kq : ∀ a, a < σj.length → (σj.push (.list ((slotsOf s6 k).map ov))).get a = σj.get a := fun a ha => get_push_lt ha
      have lq : (σj.push (.list ((slotsOf s6 k).map ov))).length = σj.length + 1 := len_push
      generalize σj.push (.list ((slotsOf s6 k).map ov)) = σq at *
      simp (disch := decide) only [m89, ok_getList rq (Int.natCast_nonneg _) gr, s_expr, exprK_at, s_var, varK_at, s_attr, attrK_at, attrK2_at, s_sub, subK_at, subK2_at, subK3_at, s_ite, iteK_t, iteK_f, s_ret, retK_at, s_ret0, s_pass, runK_some, runK_none, forK_at, turnK_none, turnK_some, whlK_t, whlK_f, tt_not, tt_band, tt_bor, tt_bool, tt_loc, tt_cmp, tt_cmp2, tt_call, tt_meth, tt_isi, tt_attr, tt_sub, tt_bin, tnotF_t, tnotF_f, ta_nil, ta_cons, andF_t, andF_f, to_nil, to_cons, orF_t, orF_f, e_none, e_bool, e_int, e_str, e_loc, e_bin, binF_at, e_not, notF_at, notF2_t, notF2_f, e_band, e_bor, e_cmp, cmpF_at, e_cmp2, cmpG_t, cmpG_f, e_list, listF_at, e_tup, tupF_at, e_dict0, e_attr, attrF_at, e_sub, subF_at, e_call, e_meth, methF_at, e_bi, e_isi, isiF_at, boolF_at, e_comp, es_nil, es_cons, consF_at, consF2_at, ok_bind, bindK_at, bind_pure, bind_lift, ok_pure, ok_lift, List.zip_cons_cons, List.zip_nil_right, List.zip_nil_left, List.foldl_cons, List.foldl_nil, upd_def, Nat.reduceBEq, bif_t, bif_f, if_true, if_false, Bool.false_eq_true, reduceCtorEq, Nat.reduceEqDiff, ne_eq, not_false_eq_true, not_true_eq_false, decide_true, decide_false, Bool.not_true, Bool.not_false]
      refine numbers_ok hL gq aq (fun x hx => ?_) (by simp; lia) ?_
      · obtain ⟨o, _, rfl⟩ := List.mem_map.mp hx
        cases o with
        | none => exact .inl rfl
        | some i => exact .inr ⟨_, rfl⟩
      simp (disch := decide) only [ok_truthb, s_expr, exprK_at, s_var, varK_at, s_attr, attrK_at, attrK2_at, s_sub, subK_at, subK2_at, subK3_at, s_ite, iteK_t, iteK_f, s_ret, retK_at, s_ret0, s_pass, runK_some, runK_none, forK_at, turnK_none, turnK_some, whlK_t, whlK_f, tt_not, tt_band, tt_bor, tt_bool, tt_loc, tt_cmp, tt_cmp2, tt_call, tt_meth, tt_isi, tt_attr, tt_sub, tt_bin, tnotF_t, tnotF_f, ta_nil, ta_cons, andF_t, andF_f, to_nil, to_cons, orF_t, orF_f, e_none, e_bool, e_int, e_str, e_loc, e_bin, binF_at, e_not, notF_at, notF2_t, notF2_f, e_band, e_bor, e_cmp, cmpF_at, e_cmp2, cmpG_t, cmpG_f, e_list, listF_at, e_tup, tupF_at, e_dict0, e_attr, attrF_at, e_sub, subF_at, e_call, e_meth, methF_at, e_bi, e_isi, isiF_at, boolF_at, e_comp, es_nil, es_cons, consF_at, consF2_at, ok_bind, bindK_at, bind_pure, bind_lift, ok_pure, ok_lift, List.zip_cons_cons, List.zip_nil_right, List.zip_nil_left, List.foldl_cons, List.foldl_nil, upd_def, Nat.reduceBEq, bif_t, bif_f, if_true, if_false, Bool.false_eq_true, reduceCtorEq, Nat.reduceEqDiff, ne_eq, not_false_eq_true, not_true_eq_false, decide_true, decide_false, Bool.not_true, Bool.not_false]
      refine ⟨rfl, still_get ?_, m75, m89, m186, Aq.push _, by rw [len_push]; lia, fun b hb => ?_⟩
      · rw [get_push_lt (by lia), kq _ (by lia), kj _ (by lia)]
      · rw [get_push_lt (by lia), kq _ (by lia)]; exact kj b hb
    · rintro l' σj _
      refine then_step rfl ?_
      simp (disch := decide) only [then_some, s_expr, exprK_at, s_var, varK_at, s_attr, attrK_at, attrK2_at, s_sub, subK_at, subK2_at, subK3_at, s_ite, iteK_t, iteK_f, s_ret, retK_at, s_ret0, s_pass, runK_some, runK_none, forK_at, turnK_none, turnK_some, whlK_t, whlK_f, tt_not, tt_band, tt_bor, tt_bool, tt_loc, tt_cmp, tt_cmp2, tt_call, tt_meth, tt_isi, tt_attr, tt_sub, tt_bin, tnotF_t, tnotF_f, ta_nil, ta_cons, andF_t, andF_f, to_nil, to_cons, orF_t, orF_f, e_none, e_bool, e_int, e_str, e_loc, e_bin, binF_at, e_not, notF_at, notF2_t, notF2_f, e_band, e_bor, e_cmp, cmpF_at, e_cmp2, cmpG_t, cmpG_f, e_list, listF_at, e_tup, tupF_at, e_dict0, e_attr, attrF_at, e_sub, subF_at, e_call, e_meth, methF_at, e_bi, e_isi, isiF_at, boolF_at, e_comp, es_nil, es_cons, consF_at, consF2_at, ok_bind, bindK_at, bind_pure, bind_lift, ok_pure, ok_lift, List.zip_cons_cons, List.zip_nil_right, List.zip_nil_left, List.foldl_cons, List.foldl_nil, upd_def, Nat.reduceBEq, bif_t, bif_f, if_true, if_false, Bool.false_eq_true, reduceCtorEq, Nat.reduceEqDiff, ne_eq, not_false_eq_true, not_true_eq_false, decide_true, decide_false, Bool.not_true, Bool.not_false]
      rfl
  -- kept
  refine then_step rfl ?_
  have wteq : ∀ i, wt s5 i = (L.flatten ++ [some top] ++ [kept]).count (some i) := fun i => by
    rw [R5.I.ct i]
    simp only [ptrs, R5.bx, mkB_flat, hh5, List.append_nil, List.count_append, List.count_cons, List.count_nil]
    simp
    lia
  have wcts : cts (L.length + 1) (L.flatten ++ [some top] ++ [kept]) = wts (L.length + 1) s5 := by
    unfold cts wts
    refine List.map_congr_left fun i _ => ?_
    rw [wteq]
  cases kept with
  | none =>
    rw [cts_none] at wcts
    rw [wcts] at w9
    simp (disch := decide) only [ov, ok_isNot, ok_truthb, s_expr, exprK_at, s_var, varK_at, s_attr, attrK_at, attrK2_at, s_sub, subK_at, subK2_at, subK3_at, s_ite, iteK_t, iteK_f, s_ret, retK_at, s_ret0, s_pass, runK_some, runK_none, forK_at, turnK_none, turnK_some, whlK_t, whlK_f, tt_not, tt_band, tt_bor, tt_bool, tt_loc, tt_cmp, tt_cmp2, tt_call, tt_meth, tt_isi, tt_attr, tt_sub, tt_bin, tnotF_t, tnotF_f, ta_nil, ta_cons, andF_t, andF_f, to_nil, to_cons, orF_t, orF_f, e_none, e_bool, e_int, e_str, e_loc, e_bin, binF_at, e_not, notF_at, notF2_t, notF2_f, e_band, e_bor, e_cmp, cmpF_at, e_cmp2, cmpG_t, cmpG_f, e_list, listF_at, e_tup, tupF_at, e_dict0, e_attr, attrF_at, e_sub, subF_at, e_call, e_meth, methF_at, e_bi, e_isi, isiF_at, boolF_at, e_comp, es_nil, es_cons, consF_at, consF2_at, ok_bind, bindK_at, bind_pure, bind_lift, ok_pure, ok_lift, List.zip_cons_cons, List.zip_nil_right, List.zip_nil_left, List.foldl_cons, List.foldl_nil, upd_def, Nat.reduceBEq, bif_t, bif_f, if_true, if_false, Bool.false_eq_true, reduceCtorEq, Nat.reduceEqDiff, ne_eq, not_false_eq_true, not_true_eq_false, decide_true, decide_false, Bool.not_true, Bool.not_false]
    exact rest σ9 w9 l9 k9 _ (rfl) (rfl) (rfl) (rfl)
  | some kp =>
    have hkp : kp ∈ keys s5.boxes := R5.I.hand_key (h := 3) (by simp [handOf, hh5])
    have hkpN := (keyR kp).mp hkp
    simp (disch := decide) only [ov, ok_isNot, ok_truthb, s_expr, exprK_at, s_var, varK_at, s_attr, attrK_at, attrK2_at, s_sub, subK_at, subK2_at, subK3_at, s_ite, iteK_t, iteK_f, s_ret, retK_at, s_ret0, s_pass, runK_some, runK_none, forK_at, turnK_none, turnK_some, whlK_t, whlK_f, tt_not, tt_band, tt_bor, tt_bool, tt_loc, tt_cmp, tt_cmp2, tt_call, tt_meth, tt_isi, tt_attr, tt_sub, tt_bin, tnotF_t, tnotF_f, ta_nil, ta_cons, andF_t, andF_f, to_nil, to_cons, orF_t, orF_f, e_none, e_bool, e_int, e_str, e_loc, e_bin, binF_at, e_not, notF_at, notF2_t, notF2_f, e_band, e_bor, e_cmp, cmpF_at, e_cmp2, cmpG_t, cmpG_f, e_list, listF_at, e_tup, tupF_at, e_dict0, e_attr, attrF_at, e_sub, subF_at, e_call, e_meth, methF_at, e_bi, e_isi, isiF_at, boolF_at, e_comp, es_nil, es_cons, consF_at, consF2_at, ok_bind, bindK_at, bind_pure, bind_lift, ok_pure, ok_lift, List.zip_cons_cons, List.zip_nil_right, List.zip_nil_left, List.foldl_cons, List.foldl_nil, upd_def, Nat.reduceBEq, bif_t, bif_f, if_true, if_false, Bool.false_eq_true, reduceCtorEq, Nat.reduceEqDiff, ne_eq, not_false_eq_true, not_true_eq_false, decide_true, decide_false, Bool.not_true, Bool.not_false]
    refine oks_step rfl ?_
    simp (disch := decide) only [s_expr, exprK_at, s_var, varK_at, s_attr, attrK_at, attrK2_at, s_sub, subK_at, subK2_at, subK3_at, s_ite, iteK_t, iteK_f, s_ret, retK_at, s_ret0, s_pass, runK_some, runK_none, forK_at, turnK_none, turnK_some, whlK_t, whlK_f, tt_not, tt_band, tt_bor, tt_bool, tt_loc, tt_cmp, tt_cmp2, tt_call, tt_meth, tt_isi, tt_attr, tt_sub, tt_bin, tnotF_t, tnotF_f, ta_nil, ta_cons, andF_t, andF_f, to_nil, to_cons, orF_t, orF_f, e_none, e_bool, e_int, e_str, e_loc, e_bin, binF_at, e_not, notF_at, notF2_t, notF2_f, e_band, e_bor, e_cmp, cmpF_at, e_cmp2, cmpG_t, cmpG_f, e_list, listF_at, e_tup, tupF_at, e_dict0, e_attr, attrF_at, e_sub, subF_at, e_call, e_meth, methF_at, e_bi, e_isi, isiF_at, boolF_at, e_comp, es_nil, es_cons, consF_at, consF2_at, ok_bind, bindK_at, bind_pure, bind_lift, ok_pure, ok_lift, List.zip_cons_cons, List.zip_nil_right, List.zip_nil_left, List.foldl_cons, List.foldl_nil, upd_def, Nat.reduceBEq, bif_t, bif_f, if_true, if_false, Bool.false_eq_true, reduceCtorEq, Nat.reduceEqDiff, ne_eq, not_false_eq_true, not_true_eq_false, decide_true, decide_false, Bool.not_true, Bool.not_false]
    refine whole_ok hL ?_
    simp (disch := decide) only [ok_truthb, oks_nil, s_expr, exprK_at, s_var, varK_at, s_attr, attrK_at, attrK2_at, s_sub, subK_at, subK2_at, subK3_at, s_ite, iteK_t, iteK_f, s_ret, retK_at, s_ret0, s_pass, runK_some, runK_none, forK_at, turnK_none, turnK_some, whlK_t, whlK_f, tt_not, tt_band, tt_bor, tt_bool, tt_loc, tt_cmp, tt_cmp2, tt_call, tt_meth, tt_isi, tt_attr, tt_sub, tt_bin, tnotF_t, tnotF_f, ta_nil, ta_cons, andF_t, andF_f, to_nil, to_cons, orF_t, orF_f, e_none, e_bool, e_int, e_str, e_loc, e_bin, binF_at, e_not, notF_at, notF2_t, notF2_f, e_band, e_bor, e_cmp, cmpF_at, e_cmp2, cmpG_t, cmpG_f, e_list, listF_at, e_tup, tupF_at, e_dict0, e_attr, attrF_at, e_sub, subF_at, e_call, e_meth, methF_at, e_bi, e_isi, isiF_at, boolF_at, e_comp, es_nil, es_cons, consF_at, consF2_at, ok_bind, bindK_at, bind_pure, bind_lift, ok_pure, ok_lift, List.zip_cons_cons, List.zip_nil_right, List.zip_nil_left, List.foldl_cons, List.foldl_nil, upd_def, Nat.reduceBEq, bif_t, bif_f, if_true, if_false, Bool.false_eq_true, reduceCtorEq, Nat.reduceEqDiff, ne_eq, not_false_eq_true, not_true_eq_false, decide_true, decide_false, Bool.not_true, Bool.not_false]
    refine then_step rfl ?_
    have hlt2 : (kp : Int) < ((cts (L.length + 1) (L.flatten ++ [some top])).length : Int) := by simp [cts]; lia
    simp (disch := decide) only [ok_getList w9 (Int.natCast_nonneg _) (cts_get hkpN.2), ok_add, ok_setList w9 nfW (Int.natCast_nonneg _) hlt2, cts_add, wcts, s_expr, exprK_at, s_var, varK_at, s_attr, attrK_at, attrK2_at, s_sub, subK_at, subK2_at, subK3_at, s_ite, iteK_t, iteK_f, s_ret, retK_at, s_ret0, s_pass, runK_some, runK_none, forK_at, turnK_none, turnK_some, whlK_t, whlK_f, tt_not, tt_band, tt_bor, tt_bool, tt_loc, tt_cmp, tt_cmp2, tt_call, tt_meth, tt_isi, tt_attr, tt_sub, tt_bin, tnotF_t, tnotF_f, ta_nil, ta_cons, andF_t, andF_f, to_nil, to_cons, orF_t, orF_f, e_none, e_bool, e_int, e_str, e_loc, e_bin, binF_at, e_not, notF_at, notF2_t, notF2_f, e_band, e_bor, e_cmp, cmpF_at, e_cmp2, cmpG_t, cmpG_f, e_list, listF_at, e_tup, tupF_at, e_dict0, e_attr, attrF_at, e_sub, subF_at, e_call, e_meth, methF_at, e_bi, e_isi, isiF_at, boolF_at, e_comp, es_nil, es_cons, consF_at, consF2_at, ok_bind, bindK_at, bind_pure, bind_lift, ok_pure, ok_lift, List.zip_cons_cons, List.zip_nil_right, List.zip_nil_left, List.foldl_cons, List.foldl_nil, upd_def, Nat.reduceBEq, bif_t, bif_f, if_true, if_false, Bool.false_eq_true, reduceCtorEq, Nat.reduceEqDiff, ne_eq, not_false_eq_true, not_true_eq_false, decide_true, decide_false, Bool.not_true, Bool.not_false]
    exact rest _ (get_put_eq (by lia)) (by rw [len_put]; exact l9) (fun a ha => by rw [get_put_ne (by lia)]; exact k9 a ha) _ (rfl) (rfl) (rfl) (rfl)
end Mine.L04

set_option autoImplicit false
set_option maxRecDepth 100000
namespace Mine.K04
open PySem PySem.W
noncomputable def topS (i : Nat) : Stmt := (PySem.Challenge.pw_uf040002_04.main.body)[i]?.getD (.Pass ⟨0, 0, 0, 0⟩)
noncomputable def meS (i j : Nat) : Stmt := match topS i with
  | .ClassDef _ _ _ b _ _ _ _ _ _ _ => b[j]?.getD (.Pass ⟨0, 0, 0, 0⟩)
  | _ => .Pass ⟨0, 0, 0, 0⟩
noncomputable def argsOf : Stmt → Arguments
  | .FunctionDef _ a _ _ _ _ _ _ _ _ => a
  | _ => ⟨[], [], .none, [], [], .none, []⟩
noncomputable def bodyOf : Stmt → List Stmt
  | .FunctionDef _ _ b _ _ _ _ _ _ _ => b
  | _ => []
noncomputable def scopeOf : Stmt → Scope
  | .FunctionDef _ _ _ _ _ _ s _ _ _ => s
  | _ => ⟨.function, [], false, false, []⟩
noncomputable def g0 (P : Params) : Frag := [(2, { cls := Value.none, data := Data.dict #[] }), (3, { cls := Value.type "dict", data := Data.dict #[{ hash := PyData.keyHash P (Str.ofString "__name__"), key := Value.str (Str.ofString "__name__") 165, val := Value.str (Str.ofString "law_uf040002_04") 508 }, { hash := PyData.keyHash P (Str.ofString "__doc__"), key := Value.str (Str.ofString "__doc__") 166, val := Value.none }, { hash := PyData.keyHash P (Str.ofString "__package__"), key := Value.str (Str.ofString "__package__") 167, val := Value.none }, { hash := PyData.keyHash P (Str.ofString "__loader__"), key := Value.str (Str.ofString "__loader__") 168, val := Value.builtin "__main__.__loader__#opaque" }, { hash := PyData.keyHash P (Str.ofString "__spec__"), key := Value.str (Str.ofString "__spec__") 169, val := Value.none }, { hash := PyData.keyHash P (Str.ofString "__annotations__"), key := Value.str (Str.ofString "__annotations__") 170, val := Value.ref 6 }, { hash := PyData.keyHash P (Str.ofString "__builtins__"), key := Value.str (Str.ofString "__builtins__") 171, val := Value.ref 4 }, { hash := PyData.keyHash P (Str.ofString "__file__"), key := Value.str (Str.ofString "__file__") 173, val := Value.str (Str.ofString "/claim/cut.py") 172 }, { hash := PyData.keyHash P (Str.ofString "__cached__"), key := Value.str (Str.ofString "__cached__") 174, val := Value.none }, { hash := PyData.keyHash P (Str.ofString "_wall"), key := Value.str (Str.ofString "_wall") 193, val := Value.ref 21 }, { hash := PyData.keyHash P (Str.ofString "PileError"), key := Value.str (Str.ofString "PileError") 213, val := Value.ref 31 }, { hash := PyData.keyHash P (Str.ofString "NoHand"), key := Value.str (Str.ofString "NoHand") 229, val := Value.ref 44 }, { hash := PyData.keyHash P (Str.ofString "NoSize"), key := Value.str (Str.ofString "NoSize") 245, val := Value.ref 56 }, { hash := PyData.keyHash P (Str.ofString "Full"), key := Value.str (Str.ofString "Full") 261, val := Value.ref 68 }, { hash := PyData.keyHash P (Str.ofString "NoBox"), key := Value.str (Str.ofString "NoBox") 277, val := Value.ref 80 }, { hash := PyData.keyHash P (Str.ofString "NoSlot"), key := Value.str (Str.ofString "NoSlot") 293, val := Value.ref 92 }, { hash := PyData.keyHash P (Str.ofString "HANDS"), key := Value.str (Str.ofString "HANDS") 297, val := Value.int 8 296 }, { hash := PyData.keyHash P (Str.ofString "MOST_SLOTS"), key := Value.str (Str.ofString "MOST_SLOTS") 299, val := Value.int 6 298 }, { hash := PyData.keyHash P (Str.ofString "MOST_ALIVE"), key := Value.str (Str.ofString "MOST_ALIVE") 301, val := Value.int 60 300 }, { hash := PyData.keyHash P (Str.ofString "Pile"), key := Value.str (Str.ofString "Pile") 507, val := Value.ref 247 }, { hash := PyData.keyHash P (Str.ofString "_law_whole"), key := Value.str (Str.ofString "_law_whole") 516, val := Value.ref 258 }, { hash := PyData.keyHash P (Str.ofString "_law_cell_at"), key := Value.str (Str.ofString "_law_cell_at") 524, val := Value.ref 265 }, { hash := PyData.keyHash P (Str.ofString "_law_numbers"), key := Value.str (Str.ofString "_law_numbers") 533, val := Value.ref 272 }, { hash := PyData.keyHash P (Str.ofString "_law_built"), key := Value.str (Str.ofString "_law_built") 539, val := Value.ref 277 }, { hash := PyData.keyHash P (Str.ofString "_law_weights"), key := Value.str (Str.ofString "_law_weights") 545, val := Value.ref 282 }, { hash := PyData.keyHash P (Str.ofString "_law_fallen"), key := Value.str (Str.ofString "_law_fallen") 559, val := Value.ref 289 }, { hash := PyData.keyHash P (Str.ofString "law"), key := Value.str (Str.ofString "law") 565, val := Value.ref 294 }] 27 }), (15, { cls := Value.type "tuple", data := Data.seq #[] }), (17, { cls := Value.type "tuple", data := Data.seq #[Value.str (Str.ofString "k") 190] }), (18, { cls := Value.type "tuple", data := Data.seq #[] }), (20, { cls := Value.type "code", data := Data.fields #[Value.str (Str.ofString "_wall") 187, Value.str (Str.ofString "_wall") 188, Value.str (Str.ofString "/claim/cut.py") 189, Value.int 1 0, Value.int 1 0, Value.int 0 0, Value.int 0 0, Value.int 3 0, Value.ref 15, Value.bool true, Value.int 181 0, Value.ref 16, Value.none, Value.ref 17, Value.ref 18, Value.ref 19, Value.int 191 0, Value.int 1 0, Value.str (Str.ofString "/claim/cut.py") 192] }), (21, { cls := Value.type "function", data := Data.func { name := Str.ofString "_wall", qualname := Str.ofString "_wall", params := argsOf (topS 0), body := FuncBody.stmts (bodyOf (topS 0)), scope := scopeOf (topS 0), globals := 3, closure := [], defaults := Value.none, kwdefaults := Value.none, pyModule := Value.str (Str.ofString "__main__") 164, code := Value.ref 20 } }), (22, { cls := Value.type "tuple", data := Data.seq #[Value.type "ValueError"] }), (29, { cls := Value.type "tuple", data := Data.seq #[] }), (30, { cls := Value.type "dict", data := Data.dict #[{ hash := PyData.keyHash P (Str.ofString "__module__"), key := Value.str (Str.ofString "__module__") 203, val := Value.str (Str.ofString "boxpile.errors") 194 }, { hash := PyData.keyHash P (Str.ofString "__firstlineno__"), key := Value.str (Str.ofString "__firstlineno__") 207, val := Value.int 5 206 }, { hash := PyData.keyHash P (Str.ofString "__static_attributes__"), key := Value.str (Str.ofString "__static_attributes__") 208, val := Value.ref 29 }, { hash := PyData.keyHash P (Str.ofString "__weakref__"), key := Value.str (Str.ofString "__weakref__") 210, val := Value.ref 32 }, { hash := PyData.keyHash P (Str.ofString "__doc__"), key := Value.str (Str.ofString "__doc__") 211, val := Value.none }] 3 }), (31, { cls := Value.type "type", data := Data.cls { name := Str.ofString "PileError", bases := [Value.type "ValueError"], mro := [Value.ref 31, Value.type "ValueError", Value.type "Exception", Value.type "BaseException", Value.type "object"], ns := 30, qualname := Str.ofString "PileError", subclasses := [Value.ref 44, Value.ref 56, Value.ref 68, Value.ref 80, Value.ref 92] }, slots := #[.some (Value.ref 22), .none, .some (Value.str (Str.ofString "PileError") 196), .some (Value.str (Str.ofString "PileError") 204), .some (Value.builtin "ValueError.__new__"), .some (Value.bool true)] }), (32, { cls := Value.type "getset_descriptor", data := Data.fields #[Value.str (Str.ofString "__weakref__") 209, Value.ref 31, Value.builtin "ExceptionGroup.__weakref__", Value.none] })]
noncomputable def g1 (P : Params) : Frag := [(35, { cls := Value.type "tuple", data := Data.seq #[Value.ref 31] }), (42, { cls := Value.type "tuple", data := Data.seq #[] }), (43, { cls := Value.type "dict", data := Data.dict #[{ hash := PyData.keyHash P (Str.ofString "__module__"), key := Value.str (Str.ofString "__module__") 221, val := Value.str (Str.ofString "boxpile.errors") 194 }, { hash := PyData.keyHash P (Str.ofString "__firstlineno__"), key := Value.str (Str.ofString "__firstlineno__") 225, val := Value.int 7 224 }, { hash := PyData.keyHash P (Str.ofString "__static_attributes__"), key := Value.str (Str.ofString "__static_attributes__") 226, val := Value.ref 42 }, { hash := PyData.keyHash P (Str.ofString "__doc__"), key := Value.str (Str.ofString "__doc__") 227, val := Value.none }] 2 }), (44, { cls := Value.type "type", data := Data.cls { name := Str.ofString "NoHand", bases := [Value.ref 31], mro := [Value.ref 44, Value.ref 31, Value.type "ValueError", Value.type "Exception", Value.type "BaseException", Value.type "object"], ns := 43, qualname := Str.ofString "NoHand" }, slots := #[.some (Value.ref 35), .none, .some (Value.str (Str.ofString "NoHand") 214), .some (Value.str (Str.ofString "NoHand") 222), .some (Value.builtin "ValueError.__new__"), .some (Value.bool true)] }), (47, { cls := Value.type "tuple", data := Data.seq #[Value.ref 31] }), (54, { cls := Value.type "tuple", data := Data.seq #[] }), (55, { cls := Value.type "dict", data := Data.dict #[{ hash := PyData.keyHash P (Str.ofString "__module__"), key := Value.str (Str.ofString "__module__") 237, val := Value.str (Str.ofString "boxpile.errors") 194 }, { hash := PyData.keyHash P (Str.ofString "__firstlineno__"), key := Value.str (Str.ofString "__firstlineno__") 241, val := Value.int 9 240 }, { hash := PyData.keyHash P (Str.ofString "__static_attributes__"), key := Value.str (Str.ofString "__static_attributes__") 242, val := Value.ref 54 }, { hash := PyData.keyHash P (Str.ofString "__doc__"), key := Value.str (Str.ofString "__doc__") 243, val := Value.none }] 2 }), (56, { cls := Value.type "type", data := Data.cls { name := Str.ofString "NoSize", bases := [Value.ref 31], mro := [Value.ref 56, Value.ref 31, Value.type "ValueError", Value.type "Exception", Value.type "BaseException", Value.type "object"], ns := 55, qualname := Str.ofString "NoSize" }, slots := #[.some (Value.ref 47), .none, .some (Value.str (Str.ofString "NoSize") 230), .some (Value.str (Str.ofString "NoSize") 238), .some (Value.builtin "ValueError.__new__"), .some (Value.bool true)] }), (59, { cls := Value.type "tuple", data := Data.seq #[Value.ref 31] }), (66, { cls := Value.type "tuple", data := Data.seq #[] }), (67, { cls := Value.type "dict", data := Data.dict #[{ hash := PyData.keyHash P (Str.ofString "__module__"), key := Value.str (Str.ofString "__module__") 253, val := Value.str (Str.ofString "boxpile.errors") 194 }, { hash := PyData.keyHash P (Str.ofString "__firstlineno__"), key := Value.str (Str.ofString "__firstlineno__") 257, val := Value.int 11 256 }, { hash := PyData.keyHash P (Str.ofString "__static_attributes__"), key := Value.str (Str.ofString "__static_attributes__") 258, val := Value.ref 66 }, { hash := PyData.keyHash P (Str.ofString "__doc__"), key := Value.str (Str.ofString "__doc__") 259, val := Value.none }] 2 }), (68, { cls := Value.type "type", data := Data.cls { name := Str.ofString "Full", bases := [Value.ref 31], mro := [Value.ref 68, Value.ref 31, Value.type "ValueError", Value.type "Exception", Value.type "BaseException", Value.type "object"], ns := 67, qualname := Str.ofString "Full" }, slots := #[.some (Value.ref 59), .none, .some (Value.str (Str.ofString "Full") 246), .some (Value.str (Str.ofString "Full") 254), .some (Value.builtin "ValueError.__new__"), .some (Value.bool true)] })]
noncomputable def g2 (P : Params) : Frag := [(71, { cls := Value.type "tuple", data := Data.seq #[Value.ref 31] }), (78, { cls := Value.type "tuple", data := Data.seq #[] }), (79, { cls := Value.type "dict", data := Data.dict #[{ hash := PyData.keyHash P (Str.ofString "__module__"), key := Value.str (Str.ofString "__module__") 269, val := Value.str (Str.ofString "boxpile.errors") 194 }, { hash := PyData.keyHash P (Str.ofString "__firstlineno__"), key := Value.str (Str.ofString "__firstlineno__") 273, val := Value.int 13 272 }, { hash := PyData.keyHash P (Str.ofString "__static_attributes__"), key := Value.str (Str.ofString "__static_attributes__") 274, val := Value.ref 78 }, { hash := PyData.keyHash P (Str.ofString "__doc__"), key := Value.str (Str.ofString "__doc__") 275, val := Value.none }] 2 }), (80, { cls := Value.type "type", data := Data.cls { name := Str.ofString "NoBox", bases := [Value.ref 31], mro := [Value.ref 80, Value.ref 31, Value.type "ValueError", Value.type "Exception", Value.type "BaseException", Value.type "object"], ns := 79, qualname := Str.ofString "NoBox" }, slots := #[.some (Value.ref 71), .none, .some (Value.str (Str.ofString "NoBox") 262), .some (Value.str (Str.ofString "NoBox") 270), .some (Value.builtin "ValueError.__new__"), .some (Value.bool true)] }), (83, { cls := Value.type "tuple", data := Data.seq #[Value.ref 31] }), (90, { cls := Value.type "tuple", data := Data.seq #[] }), (91, { cls := Value.type "dict", data := Data.dict #[{ hash := PyData.keyHash P (Str.ofString "__module__"), key := Value.str (Str.ofString "__module__") 285, val := Value.str (Str.ofString "boxpile.errors") 194 }, { hash := PyData.keyHash P (Str.ofString "__firstlineno__"), key := Value.str (Str.ofString "__firstlineno__") 289, val := Value.int 15 288 }, { hash := PyData.keyHash P (Str.ofString "__static_attributes__"), key := Value.str (Str.ofString "__static_attributes__") 290, val := Value.ref 90 }, { hash := PyData.keyHash P (Str.ofString "__doc__"), key := Value.str (Str.ofString "__doc__") 291, val := Value.none }] 2 }), (92, { cls := Value.type "type", data := Data.cls { name := Str.ofString "NoSlot", bases := [Value.ref 31], mro := [Value.ref 92, Value.ref 31, Value.type "ValueError", Value.type "Exception", Value.type "BaseException", Value.type "object"], ns := 91, qualname := Str.ofString "NoSlot" }, slots := #[.some (Value.ref 83), .none, .some (Value.str (Str.ofString "NoSlot") 278), .some (Value.str (Str.ofString "NoSlot") 286), .some (Value.builtin "ValueError.__new__"), .some (Value.bool true)] }), (102, { cls := Value.type "tuple", data := Data.seq #[] }), (105, { cls := Value.type "code", data := Data.fields #[Value.str (Str.ofString "__init__") 314, Value.str (Str.ofString "Pile.__init__") 315, Value.str (Str.ofString "/claim/cut.py") 316, Value.int 23 0, Value.int 1 0, Value.int 0 0, Value.int 0 0, Value.int 3 0, Value.ref 102, Value.bool true, Value.int 181 0, Value.ref 103, Value.none, Value.none, Value.none, Value.ref 104, Value.int 317 0, Value.int 23 0, Value.str (Str.ofString "/claim/cut.py") 318] }), (106, { cls := Value.type "function", data := Data.func { name := Str.ofString "__init__", qualname := Str.ofString "Pile.__init__", params := argsOf (meS 12 0), body := FuncBody.stmts (bodyOf (meS 12 0)), scope := scopeOf (meS 12 0), globals := 3, closure := [], defaults := Value.none, kwdefaults := Value.none, pyModule := Value.str (Str.ofString "boxpile.pile") 294, code := Value.ref 105 } }), (107, { cls := Value.type "tuple", data := Data.seq #[] })]
noncomputable def g3 (P : Params) : Frag := [(109, { cls := Value.type "tuple", data := Data.seq #[Value.str (Str.ofString "self") 323, Value.str (Str.ofString "hand") 324] }), (110, { cls := Value.type "tuple", data := Data.seq #[] }), (112, { cls := Value.type "code", data := Data.fields #[Value.str (Str.ofString "need_hand") 320, Value.str (Str.ofString "Pile.need_hand") 321, Value.str (Str.ofString "/claim/cut.py") 322, Value.int 30 0, Value.int 2 0, Value.int 0 0, Value.int 0 0, Value.int 3 0, Value.ref 107, Value.bool true, Value.int 181 0, Value.ref 108, Value.none, Value.ref 109, Value.ref 110, Value.ref 111, Value.int 325 0, Value.int 30 0, Value.str (Str.ofString "/claim/cut.py") 326] }), (113, { cls := Value.type "function", data := Data.func { name := Str.ofString "need_hand", qualname := Str.ofString "Pile.need_hand", params := argsOf (meS 12 1), body := FuncBody.stmts (bodyOf (meS 12 1)), scope := scopeOf (meS 12 1), globals := 3, closure := [], defaults := Value.none, kwdefaults := Value.none, pyModule := Value.str (Str.ofString "boxpile.pile") 294, code := Value.ref 112 } }), (114, { cls := Value.type "tuple", data := Data.seq #[] }), (116, { cls := Value.type "tuple", data := Data.seq #[Value.str (Str.ofString "self") 331, Value.str (Str.ofString "number") 332] }), (117, { cls := Value.type "tuple", data := Data.seq #[] }), (119, { cls := Value.type "code", data := Data.fields #[Value.str (Str.ofString "need_box") 328, Value.str (Str.ofString "Pile.need_box") 329, Value.str (Str.ofString "/claim/cut.py") 330, Value.int 34 0, Value.int 2 0, Value.int 0 0, Value.int 0 0, Value.int 3 0, Value.ref 114, Value.bool true, Value.int 181 0, Value.ref 115, Value.none, Value.ref 116, Value.ref 117, Value.ref 118, Value.int 333 0, Value.int 34 0, Value.str (Str.ofString "/claim/cut.py") 334] }), (120, { cls := Value.type "function", data := Data.func { name := Str.ofString "need_box", qualname := Str.ofString "Pile.need_box", params := argsOf (meS 12 2), body := FuncBody.stmts (bodyOf (meS 12 2)), scope := scopeOf (meS 12 2), globals := 3, closure := [], defaults := Value.none, kwdefaults := Value.none, pyModule := Value.str (Str.ofString "boxpile.pile") 294, code := Value.ref 119 } }), (121, { cls := Value.type "tuple", data := Data.seq #[] }), (123, { cls := Value.type "tuple", data := Data.seq #[Value.str (Str.ofString "self") 339, Value.str (Str.ofString "hand") 340, Value.str (Str.ofString "slot") 341, Value.str (Str.ofString "number") 342] }), (124, { cls := Value.type "tuple", data := Data.seq #[] })]
noncomputable def g4 (P : Params) : Frag := [(126, { cls := Value.type "code", data := Data.fields #[Value.str (Str.ofString "box_with_slot") 336, Value.str (Str.ofString "Pile.box_with_slot") 337, Value.str (Str.ofString "/claim/cut.py") 338, Value.int 38 0, Value.int 3 0, Value.int 0 0, Value.int 0 0, Value.int 3 0, Value.ref 121, Value.bool true, Value.int 181 0, Value.ref 122, Value.none, Value.ref 123, Value.ref 124, Value.ref 125, Value.int 343 0, Value.int 38 0, Value.str (Str.ofString "/claim/cut.py") 344] }), (127, { cls := Value.type "function", data := Data.func { name := Str.ofString "box_with_slot", qualname := Str.ofString "Pile.box_with_slot", params := argsOf (meS 12 3), body := FuncBody.stmts (bodyOf (meS 12 3)), scope := scopeOf (meS 12 3), globals := 3, closure := [], defaults := Value.none, kwdefaults := Value.none, pyModule := Value.str (Str.ofString "boxpile.pile") 294, code := Value.ref 126 } }), (128, { cls := Value.type "tuple", data := Data.seq #[] }), (130, { cls := Value.type "tuple", data := Data.seq #[Value.str (Str.ofString "self") 349, Value.str (Str.ofString "number") 350] }), (131, { cls := Value.type "tuple", data := Data.seq #[] }), (133, { cls := Value.type "code", data := Data.fields #[Value.str (Str.ofString "counted") 346, Value.str (Str.ofString "Pile.counted") 347, Value.str (Str.ofString "/claim/cut.py") 348, Value.int 46 0, Value.int 2 0, Value.int 0 0, Value.int 0 0, Value.int 3 0, Value.ref 128, Value.bool true, Value.int 181 0, Value.ref 129, Value.none, Value.ref 130, Value.ref 131, Value.ref 132, Value.int 351 0, Value.int 46 0, Value.str (Str.ofString "/claim/cut.py") 352] }), (134, { cls := Value.type "function", data := Data.func { name := Str.ofString "counted", qualname := Str.ofString "Pile.counted", params := argsOf (meS 12 4), body := FuncBody.stmts (bodyOf (meS 12 4)), scope := scopeOf (meS 12 4), globals := 3, closure := [], defaults := Value.none, kwdefaults := Value.none, pyModule := Value.str (Str.ofString "boxpile.pile") 294, code := Value.ref 133 } }), (135, { cls := Value.type "tuple", data := Data.seq #[] }), (137, { cls := Value.type "tuple", data := Data.seq #[Value.str (Str.ofString "self") 357, Value.str (Str.ofString "number") 358, Value.str (Str.ofString "freed") 359, Value.str (Str.ofString "at") 360, Value.str (Str.ofString "slots") 361, Value.str (Str.ofString "other") 362] }), (138, { cls := Value.type "tuple", data := Data.seq #[] }), (140, { cls := Value.type "code", data := Data.fields #[Value.str (Str.ofString "let_go") 354, Value.str (Str.ofString "Pile.let_go") 355, Value.str (Str.ofString "/claim/cut.py") 356, Value.int 50 0, Value.int 2 0, Value.int 0 0, Value.int 0 0, Value.int 3 0, Value.ref 135, Value.bool true, Value.int 181 0, Value.ref 136, Value.none, Value.ref 137, Value.ref 138, Value.ref 139, Value.int 363 0, Value.int 50 0, Value.str (Str.ofString "/claim/cut.py") 364] }), (141, { cls := Value.type "function", data := Data.func { name := Str.ofString "let_go", qualname := Str.ofString "Pile.let_go", params := argsOf (meS 12 5), body := FuncBody.stmts (bodyOf (meS 12 5)), scope := scopeOf (meS 12 5), globals := 3, closure := [], defaults := Value.none, kwdefaults := Value.none, pyModule := Value.str (Str.ofString "boxpile.pile") 294, code := Value.ref 140 } })]
noncomputable def g5 (P : Params) : Frag := [(142, { cls := Value.type "tuple", data := Data.seq #[] }), (144, { cls := Value.type "tuple", data := Data.seq #[Value.str (Str.ofString "self") 369, Value.str (Str.ofString "number") 370, Value.str (Str.ofString "freed") 371] }), (145, { cls := Value.type "tuple", data := Data.seq #[] }), (147, { cls := Value.type "code", data := Data.fields #[Value.str (Str.ofString "lighter") 366, Value.str (Str.ofString "Pile.lighter") 367, Value.str (Str.ofString "/claim/cut.py") 368, Value.int 61 0, Value.int 3 0, Value.int 0 0, Value.int 0 0, Value.int 3 0, Value.ref 142, Value.bool true, Value.int 181 0, Value.ref 143, Value.none, Value.ref 144, Value.ref 145, Value.ref 146, Value.int 372 0, Value.int 61 0, Value.str (Str.ofString "/claim/cut.py") 373] }), (148, { cls := Value.type "function", data := Data.func { name := Str.ofString "lighter", qualname := Str.ofString "Pile.lighter", params := argsOf (meS 12 6), body := FuncBody.stmts (bodyOf (meS 12 6)), scope := scopeOf (meS 12 6), globals := 3, closure := [], defaults := Value.none, kwdefaults := Value.none, pyModule := Value.str (Str.ofString "boxpile.pile") 294, code := Value.ref 147 } }), (149, { cls := Value.type "tuple", data := Data.seq #[] }), (151, { cls := Value.type "tuple", data := Data.seq #[Value.str (Str.ofString "self") 378, Value.str (Str.ofString "hand") 379, Value.str (Str.ofString "number") 380, Value.str (Str.ofString "old") 381] }), (152, { cls := Value.type "tuple", data := Data.seq #[] }), (154, { cls := Value.type "code", data := Data.fields #[Value.str (Str.ofString "handed") 375, Value.str (Str.ofString "Pile.handed") 376, Value.str (Str.ofString "/claim/cut.py") 377, Value.int 72 0, Value.int 3 0, Value.int 0 0, Value.int 0 0, Value.int 3 0, Value.ref 149, Value.bool true, Value.int 181 0, Value.ref 150, Value.none, Value.ref 151, Value.ref 152, Value.ref 153, Value.int 382 0, Value.int 72 0, Value.str (Str.ofString "/claim/cut.py") 383] }), (155, { cls := Value.type "function", data := Data.func { name := Str.ofString "handed", qualname := Str.ofString "Pile.handed", params := argsOf (meS 12 7), body := FuncBody.stmts (bodyOf (meS 12 7)), scope := scopeOf (meS 12 7), globals := 3, closure := [], defaults := Value.none, kwdefaults := Value.none, pyModule := Value.str (Str.ofString "boxpile.pile") 294, code := Value.ref 154 } }), (156, { cls := Value.type "tuple", data := Data.seq #[] }), (158, { cls := Value.type "tuple", data := Data.seq #[Value.str (Str.ofString "self") 388, Value.str (Str.ofString "box") 389, Value.str (Str.ofString "slot") 390, Value.str (Str.ofString "number") 391, Value.str (Str.ofString "old") 392] })]
noncomputable def g6 (P : Params) : Frag := [(159, { cls := Value.type "tuple", data := Data.seq #[] }), (161, { cls := Value.type "code", data := Data.fields #[Value.str (Str.ofString "pointed") 385, Value.str (Str.ofString "Pile.pointed") 386, Value.str (Str.ofString "/claim/cut.py") 387, Value.int 78 0, Value.int 4 0, Value.int 0 0, Value.int 0 0, Value.int 3 0, Value.ref 156, Value.bool true, Value.int 181 0, Value.ref 157, Value.none, Value.ref 158, Value.ref 159, Value.ref 160, Value.int 393 0, Value.int 78 0, Value.str (Str.ofString "/claim/cut.py") 394] }), (162, { cls := Value.type "function", data := Data.func { name := Str.ofString "pointed", qualname := Str.ofString "Pile.pointed", params := argsOf (meS 12 8), body := FuncBody.stmts (bodyOf (meS 12 8)), scope := scopeOf (meS 12 8), globals := 3, closure := [], defaults := Value.none, kwdefaults := Value.none, pyModule := Value.str (Str.ofString "boxpile.pile") 294, code := Value.ref 161 } }), (163, { cls := Value.type "tuple", data := Data.seq #[] }), (166, { cls := Value.type "code", data := Data.fields #[Value.str (Str.ofString "make") 396, Value.str (Str.ofString "Pile.make") 397, Value.str (Str.ofString "/claim/cut.py") 398, Value.int 84 0, Value.int 3 0, Value.int 0 0, Value.int 0 0, Value.int 3 0, Value.ref 163, Value.bool true, Value.int 181 0, Value.ref 164, Value.none, Value.none, Value.none, Value.ref 165, Value.int 399 0, Value.int 84 0, Value.str (Str.ofString "/claim/cut.py") 400] }), (167, { cls := Value.type "function", data := Data.func { name := Str.ofString "make", qualname := Str.ofString "Pile.make", params := argsOf (meS 12 9), body := FuncBody.stmts (bodyOf (meS 12 9)), scope := scopeOf (meS 12 9), globals := 3, closure := [], defaults := Value.none, kwdefaults := Value.none, pyModule := Value.str (Str.ofString "boxpile.pile") 294, code := Value.ref 166 } }), (168, { cls := Value.type "tuple", data := Data.seq #[] }), (170, { cls := Value.type "tuple", data := Data.seq #[Value.str (Str.ofString "self") 405, Value.str (Str.ofString "hand") 406, Value.str (Str.ofString "other") 407] }), (171, { cls := Value.type "tuple", data := Data.seq #[] }), (173, { cls := Value.type "code", data := Data.fields #[Value.str (Str.ofString "hold") 402, Value.str (Str.ofString "Pile.hold") 403, Value.str (Str.ofString "/claim/cut.py") 404, Value.int 96 0, Value.int 3 0, Value.int 0 0, Value.int 0 0, Value.int 3 0, Value.ref 168, Value.bool true, Value.int 181 0, Value.ref 169, Value.none, Value.ref 170, Value.ref 171, Value.ref 172, Value.int 408 0, Value.int 96 0, Value.str (Str.ofString "/claim/cut.py") 409] }), (174, { cls := Value.type "function", data := Data.func { name := Str.ofString "hold", qualname := Str.ofString "Pile.hold", params := argsOf (meS 12 10), body := FuncBody.stmts (bodyOf (meS 12 10)), scope := scopeOf (meS 12 10), globals := 3, closure := [], defaults := Value.none, kwdefaults := Value.none, pyModule := Value.str (Str.ofString "boxpile.pile") 294, code := Value.ref 173 } }), (175, { cls := Value.type "tuple", data := Data.seq #[] })]
noncomputable def g7 (P : Params) : Frag := [(177, { cls := Value.type "tuple", data := Data.seq #[Value.str (Str.ofString "self") 414, Value.str (Str.ofString "hand") 415] }), (178, { cls := Value.type "tuple", data := Data.seq #[] }), (180, { cls := Value.type "code", data := Data.fields #[Value.str (Str.ofString "drop") 411, Value.str (Str.ofString "Pile.drop") 412, Value.str (Str.ofString "/claim/cut.py") 413, Value.int 101 0, Value.int 2 0, Value.int 0 0, Value.int 0 0, Value.int 3 0, Value.ref 175, Value.bool true, Value.int 181 0, Value.ref 176, Value.none, Value.ref 177, Value.ref 178, Value.ref 179, Value.int 416 0, Value.int 101 0, Value.str (Str.ofString "/claim/cut.py") 417] }), (181, { cls := Value.type "function", data := Data.func { name := Str.ofString "drop", qualname := Str.ofString "Pile.drop", params := argsOf (meS 12 11), body := FuncBody.stmts (bodyOf (meS 12 11)), scope := scopeOf (meS 12 11), globals := 3, closure := [], defaults := Value.none, kwdefaults := Value.none, pyModule := Value.str (Str.ofString "boxpile.pile") 294, code := Value.ref 180 } }), (182, { cls := Value.type "tuple", data := Data.seq #[] }), (184, { cls := Value.type "tuple", data := Data.seq #[Value.str (Str.ofString "self") 422, Value.str (Str.ofString "hand") 423, Value.str (Str.ofString "slot") 424, Value.str (Str.ofString "other") 425, Value.str (Str.ofString "box") 426] }), (185, { cls := Value.type "tuple", data := Data.seq #[] }), (187, { cls := Value.type "code", data := Data.fields #[Value.str (Str.ofString "put") 419, Value.str (Str.ofString "Pile.put") 420, Value.str (Str.ofString "/claim/cut.py") 421, Value.int 105 0, Value.int 4 0, Value.int 0 0, Value.int 0 0, Value.int 3 0, Value.ref 182, Value.bool true, Value.int 181 0, Value.ref 183, Value.none, Value.ref 184, Value.ref 185, Value.ref 186, Value.int 427 0, Value.int 105 0, Value.str (Str.ofString "/claim/cut.py") 428] }), (188, { cls := Value.type "function", data := Data.func { name := Str.ofString "put", qualname := Str.ofString "Pile.put", params := argsOf (meS 12 12), body := FuncBody.stmts (bodyOf (meS 12 12)), scope := scopeOf (meS 12 12), globals := 3, closure := [], defaults := Value.none, kwdefaults := Value.none, pyModule := Value.str (Str.ofString "boxpile.pile") 294, code := Value.ref 187 } }), (189, { cls := Value.type "tuple", data := Data.seq #[] }), (191, { cls := Value.type "tuple", data := Data.seq #[Value.str (Str.ofString "self") 433, Value.str (Str.ofString "hand") 434, Value.str (Str.ofString "slot") 435] }), (192, { cls := Value.type "tuple", data := Data.seq #[] })]
noncomputable def g8 (P : Params) : Frag := [(194, { cls := Value.type "code", data := Data.fields #[Value.str (Str.ofString "empty") 430, Value.str (Str.ofString "Pile.empty") 431, Value.str (Str.ofString "/claim/cut.py") 432, Value.int 111 0, Value.int 3 0, Value.int 0 0, Value.int 0 0, Value.int 3 0, Value.ref 189, Value.bool true, Value.int 181 0, Value.ref 190, Value.none, Value.ref 191, Value.ref 192, Value.ref 193, Value.int 436 0, Value.int 111 0, Value.str (Str.ofString "/claim/cut.py") 437] }), (195, { cls := Value.type "function", data := Data.func { name := Str.ofString "empty", qualname := Str.ofString "Pile.empty", params := argsOf (meS 12 13), body := FuncBody.stmts (bodyOf (meS 12 13)), scope := scopeOf (meS 12 13), globals := 3, closure := [], defaults := Value.none, kwdefaults := Value.none, pyModule := Value.str (Str.ofString "boxpile.pile") 294, code := Value.ref 194 } }), (196, { cls := Value.type "tuple", data := Data.seq #[] }), (198, { cls := Value.type "tuple", data := Data.seq #[Value.str (Str.ofString "self") 442, Value.str (Str.ofString "hand") 443, Value.str (Str.ofString "other") 444, Value.str (Str.ofString "slot") 445] }), (199, { cls := Value.type "tuple", data := Data.seq #[] }), (201, { cls := Value.type "code", data := Data.fields #[Value.str (Str.ofString "take") 439, Value.str (Str.ofString "Pile.take") 440, Value.str (Str.ofString "/claim/cut.py") 441, Value.int 114 0, Value.int 4 0, Value.int 0 0, Value.int 0 0, Value.int 3 0, Value.ref 196, Value.bool true, Value.int 181 0, Value.ref 197, Value.none, Value.ref 198, Value.ref 199, Value.ref 200, Value.int 446 0, Value.int 114 0, Value.str (Str.ofString "/claim/cut.py") 447] }), (202, { cls := Value.type "function", data := Data.func { name := Str.ofString "take", qualname := Str.ofString "Pile.take", params := argsOf (meS 12 14), body := FuncBody.stmts (bodyOf (meS 12 14)), scope := scopeOf (meS 12 14), globals := 3, closure := [], defaults := Value.none, kwdefaults := Value.none, pyModule := Value.str (Str.ofString "boxpile.pile") 294, code := Value.ref 201 } }), (203, { cls := Value.type "tuple", data := Data.seq #[] }), (205, { cls := Value.type "tuple", data := Data.seq #[Value.str (Str.ofString "self") 452, Value.str (Str.ofString "numbers") 453] }), (206, { cls := Value.type "tuple", data := Data.seq #[] }), (208, { cls := Value.type "code", data := Data.fields #[Value.str (Str.ofString "swept") 449, Value.str (Str.ofString "Pile.swept") 450, Value.str (Str.ofString "/claim/cut.py") 451, Value.int 117 0, Value.int 2 0, Value.int 0 0, Value.int 0 0, Value.int 3 0, Value.ref 203, Value.bool true, Value.int 181 0, Value.ref 204, Value.none, Value.ref 205, Value.ref 206, Value.ref 207, Value.int 454 0, Value.int 117 0, Value.str (Str.ofString "/claim/cut.py") 455] }), (209, { cls := Value.type "function", data := Data.func { name := Str.ofString "swept", qualname := Str.ofString "Pile.swept", params := argsOf (meS 12 15), body := FuncBody.stmts (bodyOf (meS 12 15)), scope := scopeOf (meS 12 15), globals := 3, closure := [], defaults := Value.none, kwdefaults := Value.none, pyModule := Value.str (Str.ofString "boxpile.pile") 294, code := Value.ref 208 } })]
noncomputable def g9 (P : Params) : Frag := [(210, { cls := Value.type "tuple", data := Data.seq #[] }), (212, { cls := Value.type "tuple", data := Data.seq #[Value.str (Str.ofString "self") 460, Value.str (Str.ofString "hand") 461] }), (213, { cls := Value.type "tuple", data := Data.seq #[] }), (215, { cls := Value.type "code", data := Data.fields #[Value.str (Str.ofString "holds") 457, Value.str (Str.ofString "Pile.holds") 458, Value.str (Str.ofString "/claim/cut.py") 459, Value.int 120 0, Value.int 2 0, Value.int 0 0, Value.int 0 0, Value.int 3 0, Value.ref 210, Value.bool true, Value.int 181 0, Value.ref 211, Value.none, Value.ref 212, Value.ref 213, Value.ref 214, Value.int 462 0, Value.int 120 0, Value.str (Str.ofString "/claim/cut.py") 463] }), (216, { cls := Value.type "function", data := Data.func { name := Str.ofString "holds", qualname := Str.ofString "Pile.holds", params := argsOf (meS 12 16), body := FuncBody.stmts (bodyOf (meS 12 16)), scope := scopeOf (meS 12 16), globals := 3, closure := [], defaults := Value.none, kwdefaults := Value.none, pyModule := Value.str (Str.ofString "boxpile.pile") 294, code := Value.ref 215 } }), (217, { cls := Value.type "tuple", data := Data.seq #[] }), (219, { cls := Value.type "tuple", data := Data.seq #[Value.str (Str.ofString "self") 468, Value.str (Str.ofString "number") 469] }), (220, { cls := Value.type "tuple", data := Data.seq #[] }), (222, { cls := Value.type "code", data := Data.fields #[Value.str (Str.ofString "points") 465, Value.str (Str.ofString "Pile.points") 466, Value.str (Str.ofString "/claim/cut.py") 467, Value.int 124 0, Value.int 2 0, Value.int 0 0, Value.int 0 0, Value.int 3 0, Value.ref 217, Value.bool true, Value.int 181 0, Value.ref 218, Value.none, Value.ref 219, Value.ref 220, Value.ref 221, Value.int 470 0, Value.int 124 0, Value.str (Str.ofString "/claim/cut.py") 471] }), (223, { cls := Value.type "function", data := Data.func { name := Str.ofString "points", qualname := Str.ofString "Pile.points", params := argsOf (meS 12 17), body := FuncBody.stmts (bodyOf (meS 12 17)), scope := scopeOf (meS 12 17), globals := 3, closure := [], defaults := Value.none, kwdefaults := Value.none, pyModule := Value.str (Str.ofString "boxpile.pile") 294, code := Value.ref 222 } }), (224, { cls := Value.type "tuple", data := Data.seq #[] }), (226, { cls := Value.type "tuple", data := Data.seq #[Value.str (Str.ofString "self") 476, Value.str (Str.ofString "number") 477] })]
noncomputable def g10 (P : Params) : Frag := [(227, { cls := Value.type "tuple", data := Data.seq #[] }), (229, { cls := Value.type "code", data := Data.fields #[Value.str (Str.ofString "weighs") 473, Value.str (Str.ofString "Pile.weighs") 474, Value.str (Str.ofString "/claim/cut.py") 475, Value.int 128 0, Value.int 2 0, Value.int 0 0, Value.int 0 0, Value.int 3 0, Value.ref 224, Value.bool true, Value.int 181 0, Value.ref 225, Value.none, Value.ref 226, Value.ref 227, Value.ref 228, Value.int 478 0, Value.int 128 0, Value.str (Str.ofString "/claim/cut.py") 479] }), (230, { cls := Value.type "function", data := Data.func { name := Str.ofString "weighs", qualname := Str.ofString "Pile.weighs", params := argsOf (meS 12 18), body := FuncBody.stmts (bodyOf (meS 12 18)), scope := scopeOf (meS 12 18), globals := 3, closure := [], defaults := Value.none, kwdefaults := Value.none, pyModule := Value.str (Str.ofString "boxpile.pile") 294, code := Value.ref 229 } }), (231, { cls := Value.type "tuple", data := Data.seq #[] }), (233, { cls := Value.type "tuple", data := Data.seq #[Value.str (Str.ofString "self") 484] }), (234, { cls := Value.type "tuple", data := Data.seq #[] }), (236, { cls := Value.type "code", data := Data.fields #[Value.str (Str.ofString "alive") 481, Value.str (Str.ofString "Pile.alive") 482, Value.str (Str.ofString "/claim/cut.py") 483, Value.int 132 0, Value.int 1 0, Value.int 0 0, Value.int 0 0, Value.int 3 0, Value.ref 231, Value.bool true, Value.int 181 0, Value.ref 232, Value.none, Value.ref 233, Value.ref 234, Value.ref 235, Value.int 485 0, Value.int 132 0, Value.str (Str.ofString "/claim/cut.py") 486] }), (237, { cls := Value.type "function", data := Data.func { name := Str.ofString "alive", qualname := Str.ofString "Pile.alive", params := argsOf (meS 12 19), body := FuncBody.stmts (bodyOf (meS 12 19)), scope := scopeOf (meS 12 19), globals := 3, closure := [], defaults := Value.none, kwdefaults := Value.none, pyModule := Value.str (Str.ofString "boxpile.pile") 294, code := Value.ref 236 } }), (238, { cls := Value.type "tuple", data := Data.seq #[] }), (240, { cls := Value.type "tuple", data := Data.seq #[Value.str (Str.ofString "self") 491] }), (241, { cls := Value.type "tuple", data := Data.seq #[] }), (243, { cls := Value.type "code", data := Data.fields #[Value.str (Str.ofString "suspects") 488, Value.str (Str.ofString "Pile.suspects") 489, Value.str (Str.ofString "/claim/cut.py") 490, Value.int 135 0, Value.int 1 0, Value.int 0 0, Value.int 0 0, Value.int 3 0, Value.ref 238, Value.bool true, Value.int 181 0, Value.ref 239, Value.none, Value.ref 240, Value.ref 241, Value.ref 242, Value.int 492 0, Value.int 135 0, Value.str (Str.ofString "/claim/cut.py") 493] })]
noncomputable def g11 (P : Params) : Frag := [(244, { cls := Value.type "function", data := Data.func { name := Str.ofString "suspects", qualname := Str.ofString "Pile.suspects", params := argsOf (meS 12 20), body := FuncBody.stmts (bodyOf (meS 12 20)), scope := scopeOf (meS 12 20), globals := 3, closure := [], defaults := Value.none, kwdefaults := Value.none, pyModule := Value.str (Str.ofString "boxpile.pile") 294, code := Value.ref 243 } }), (245, { cls := Value.type "tuple", data := Data.seq #[Value.str (Str.ofString "boxes") 495, Value.str (Str.ofString "doubted") 496, Value.str (Str.ofString "in_hands") 497, Value.str (Str.ofString "made") 498, Value.str (Str.ofString "weights") 499] }), (246, { cls := Value.type "dict", data := Data.dict #[{ hash := PyData.keyHash P (Str.ofString "__module__"), key := Value.str (Str.ofString "__module__") 309, val := Value.str (Str.ofString "boxpile.pile") 294 }, { hash := PyData.keyHash P (Str.ofString "__firstlineno__"), key := Value.str (Str.ofString "__firstlineno__") 313, val := Value.int 21 312 }, { hash := PyData.keyHash P (Str.ofString "__init__"), key := Value.str (Str.ofString "__init__") 319, val := Value.ref 106 }, { hash := PyData.keyHash P (Str.ofString "need_hand"), key := Value.str (Str.ofString "need_hand") 327, val := Value.ref 113 }, { hash := PyData.keyHash P (Str.ofString "need_box"), key := Value.str (Str.ofString "need_box") 335, val := Value.ref 120 }, { hash := PyData.keyHash P (Str.ofString "box_with_slot"), key := Value.str (Str.ofString "box_with_slot") 345, val := Value.ref 127 }, { hash := PyData.keyHash P (Str.ofString "counted"), key := Value.str (Str.ofString "counted") 353, val := Value.ref 134 }, { hash := PyData.keyHash P (Str.ofString "let_go"), key := Value.str (Str.ofString "let_go") 365, val := Value.ref 141 }, { hash := PyData.keyHash P (Str.ofString "lighter"), key := Value.str (Str.ofString "lighter") 374, val := Value.ref 148 }, { hash := PyData.keyHash P (Str.ofString "handed"), key := Value.str (Str.ofString "handed") 384, val := Value.ref 155 }, { hash := PyData.keyHash P (Str.ofString "pointed"), key := Value.str (Str.ofString "pointed") 395, val := Value.ref 162 }, { hash := PyData.keyHash P (Str.ofString "make"), key := Value.str (Str.ofString "make") 401, val := Value.ref 167 }, { hash := PyData.keyHash P (Str.ofString "hold"), key := Value.str (Str.ofString "hold") 410, val := Value.ref 174 }, { hash := PyData.keyHash P (Str.ofString "drop"), key := Value.str (Str.ofString "drop") 418, val := Value.ref 181 }, { hash := PyData.keyHash P (Str.ofString "put"), key := Value.str (Str.ofString "put") 429, val := Value.ref 188 }, { hash := PyData.keyHash P (Str.ofString "empty"), key := Value.str (Str.ofString "empty") 438, val := Value.ref 195 }, { hash := PyData.keyHash P (Str.ofString "take"), key := Value.str (Str.ofString "take") 448, val := Value.ref 202 }, { hash := PyData.keyHash P (Str.ofString "swept"), key := Value.str (Str.ofString "swept") 456, val := Value.ref 209 }, { hash := PyData.keyHash P (Str.ofString "holds"), key := Value.str (Str.ofString "holds") 464, val := Value.ref 216 }, { hash := PyData.keyHash P (Str.ofString "points"), key := Value.str (Str.ofString "points") 472, val := Value.ref 223 }, { hash := PyData.keyHash P (Str.ofString "weighs"), key := Value.str (Str.ofString "weighs") 480, val := Value.ref 230 }, { hash := PyData.keyHash P (Str.ofString "alive"), key := Value.str (Str.ofString "alive") 487, val := Value.ref 237 }, { hash := PyData.keyHash P (Str.ofString "suspects"), key := Value.str (Str.ofString "suspects") 494, val := Value.ref 244 }, { hash := PyData.keyHash P (Str.ofString "__static_attributes__"), key := Value.str (Str.ofString "__static_attributes__") 500, val := Value.ref 245 }, { hash := PyData.keyHash P (Str.ofString "__dict__"), key := Value.str (Str.ofString "__dict__") 502, val := Value.ref 248 }, { hash := PyData.keyHash P (Str.ofString "__weakref__"), key := Value.str (Str.ofString "__weakref__") 504, val := Value.ref 249 }, { hash := PyData.keyHash P (Str.ofString "__doc__"), key := Value.str (Str.ofString "__doc__") 505, val := Value.none }] 4 }), (247, { cls := Value.type "type", data := Data.cls { name := Str.ofString "Pile", bases := [Value.type "object"], mro := [Value.ref 247, Value.type "object"], ns := 246, qualname := Str.ofString "Pile" }, slots := #[.none, .none, .some (Value.str (Str.ofString "Pile") 302), .some (Value.str (Str.ofString "Pile") 310), .some (Value.builtin "object.__new__"), .some (Value.bool true)] }), (248, { cls := Value.type "getset_descriptor", data := Data.fields #[Value.str (Str.ofString "__dict__") 501, Value.ref 247, Value.builtin "function.__dict__", Value.builtin "function.__dict__#set"] }), (249, { cls := Value.type "getset_descriptor", data := Data.fields #[Value.str (Str.ofString "__weakref__") 503, Value.ref 247, Value.builtin "ExceptionGroup.__weakref__", Value.none] }), (252, { cls := Value.type "tuple", data := Data.seq #[] }), (254, { cls := Value.type "tuple", data := Data.seq #[Value.str (Str.ofString "_law_found") 513] }), (255, { cls := Value.type "tuple", data := Data.seq #[] }), (257, { cls := Value.type "code", data := Data.fields #[Value.str (Str.ofString "_law_whole") 510, Value.str (Str.ofString "_law_whole") 511, Value.str (Str.ofString "/claim/cut.py") 512, Value.int 138 0, Value.int 1 0, Value.int 0 0, Value.int 0 0, Value.int 3 0, Value.ref 252, Value.bool true, Value.int 181 0, Value.ref 253, Value.none, Value.ref 254, Value.ref 255, Value.ref 256, Value.int 514 0, Value.int 138 0, Value.str (Str.ofString "/claim/cut.py") 515] }), (258, { cls := Value.type "function", data := Data.func { name := Str.ofString "_law_whole", qualname := Str.ofString "_law_whole", params := argsOf (topS 14), body := FuncBody.stmts (bodyOf (topS 14)), scope := scopeOf (topS 14), globals := 3, closure := [], defaults := Value.none, kwdefaults := Value.none, pyModule := Value.str (Str.ofString "law_uf040002_04") 508, code := Value.ref 257 } }), (259, { cls := Value.type "tuple", data := Data.seq #[] })]
noncomputable def g12 (P : Params) : Frag := [(261, { cls := Value.type "tuple", data := Data.seq #[Value.str (Str.ofString "_law_script") 520, Value.str (Str.ofString "_law_k") 521] }), (262, { cls := Value.type "tuple", data := Data.seq #[] }), (264, { cls := Value.type "code", data := Data.fields #[Value.str (Str.ofString "_law_cell_at") 517, Value.str (Str.ofString "_law_cell_at") 518, Value.str (Str.ofString "/claim/cut.py") 519, Value.int 140 0, Value.int 2 0, Value.int 0 0, Value.int 0 0, Value.int 3 0, Value.ref 259, Value.bool true, Value.int 181 0, Value.ref 260, Value.none, Value.ref 261, Value.ref 262, Value.ref 263, Value.int 522 0, Value.int 140 0, Value.str (Str.ofString "/claim/cut.py") 523] }), (265, { cls := Value.type "function", data := Data.func { name := Str.ofString "_law_cell_at", qualname := Str.ofString "_law_cell_at", params := argsOf (topS 15), body := FuncBody.stmts (bodyOf (topS 15)), scope := scopeOf (topS 15), globals := 3, closure := [], defaults := Value.none, kwdefaults := Value.none, pyModule := Value.str (Str.ofString "law_uf040002_04") 508, code := Value.ref 264 } }), (266, { cls := Value.type "tuple", data := Data.seq #[] }), (268, { cls := Value.type "tuple", data := Data.seq #[Value.str (Str.ofString "_law_found") 528, Value.str (Str.ofString "_law_due") 529, Value.str (Str.ofString "_law_k") 530] }), (269, { cls := Value.type "tuple", data := Data.seq #[] }), (271, { cls := Value.type "code", data := Data.fields #[Value.str (Str.ofString "_law_numbers") 525, Value.str (Str.ofString "_law_numbers") 526, Value.str (Str.ofString "/claim/cut.py") 527, Value.int 144 0, Value.int 2 0, Value.int 0 0, Value.int 0 0, Value.int 3 0, Value.ref 266, Value.bool true, Value.int 181 0, Value.ref 267, Value.none, Value.ref 268, Value.ref 269, Value.ref 270, Value.int 531 0, Value.int 144 0, Value.str (Str.ofString "/claim/cut.py") 532] }), (272, { cls := Value.type "function", data := Data.func { name := Str.ofString "_law_numbers", qualname := Str.ofString "_law_numbers", params := argsOf (topS 16), body := FuncBody.stmts (bodyOf (topS 16)), scope := scopeOf (topS 16), globals := 3, closure := [], defaults := Value.none, kwdefaults := Value.none, pyModule := Value.str (Str.ofString "law_uf040002_04") 508, code := Value.ref 271 } }), (273, { cls := Value.type "tuple", data := Data.seq #[] }), (276, { cls := Value.type "code", data := Data.fields #[Value.str (Str.ofString "_law_built") 534, Value.str (Str.ofString "_law_built") 535, Value.str (Str.ofString "/claim/cut.py") 536, Value.int 154 0, Value.int 4 0, Value.int 0 0, Value.int 0 0, Value.int 3 0, Value.ref 273, Value.bool true, Value.int 181 0, Value.ref 274, Value.none, Value.none, Value.none, Value.ref 275, Value.int 537 0, Value.int 154 0, Value.str (Str.ofString "/claim/cut.py") 538] }), (277, { cls := Value.type "function", data := Data.func { name := Str.ofString "_law_built", qualname := Str.ofString "_law_built", params := argsOf (topS 17), body := FuncBody.stmts (bodyOf (topS 17)), scope := scopeOf (topS 17), globals := 3, closure := [], defaults := Value.none, kwdefaults := Value.none, pyModule := Value.str (Str.ofString "law_uf040002_04") 508, code := Value.ref 276 } })]
noncomputable def g13 (P : Params) : Frag := [(278, { cls := Value.type "tuple", data := Data.seq #[] }), (281, { cls := Value.type "code", data := Data.fields #[Value.str (Str.ofString "_law_weights") 540, Value.str (Str.ofString "_law_weights") 541, Value.str (Str.ofString "/claim/cut.py") 542, Value.int 184 0, Value.int 1 0, Value.int 0 0, Value.int 0 0, Value.int 3 0, Value.ref 278, Value.bool true, Value.int 181 0, Value.ref 279, Value.none, Value.none, Value.none, Value.ref 280, Value.int 543 0, Value.int 184 0, Value.str (Str.ofString "/claim/cut.py") 544] }), (282, { cls := Value.type "function", data := Data.func { name := Str.ofString "_law_weights", qualname := Str.ofString "_law_weights", params := argsOf (topS 18), body := FuncBody.stmts (bodyOf (topS 18)), scope := scopeOf (topS 18), globals := 3, closure := [], defaults := Value.none, kwdefaults := Value.none, pyModule := Value.str (Str.ofString "law_uf040002_04") 508, code := Value.ref 281 } }), (283, { cls := Value.type "tuple", data := Data.seq #[] }), (285, { cls := Value.type "tuple", data := Data.seq #[Value.str (Str.ofString "_law_rooms") 549, Value.str (Str.ofString "_law_weights_here") 550, Value.str (Str.ofString "_law_first") 551, Value.str (Str.ofString "_law_row") 552, Value.str (Str.ofString "_law_waiting") 553, Value.str (Str.ofString "_law_at") 554, Value.str (Str.ofString "_law_room") 555, Value.str (Str.ofString "_law_other") 556] }), (286, { cls := Value.type "tuple", data := Data.seq #[] }), (288, { cls := Value.type "code", data := Data.fields #[Value.str (Str.ofString "_law_fallen") 546, Value.str (Str.ofString "_law_fallen") 547, Value.str (Str.ofString "/claim/cut.py") 548, Value.int 191 0, Value.int 3 0, Value.int 0 0, Value.int 0 0, Value.int 3 0, Value.ref 283, Value.bool true, Value.int 181 0, Value.ref 284, Value.none, Value.ref 285, Value.ref 286, Value.ref 287, Value.int 557 0, Value.int 191 0, Value.str (Str.ofString "/claim/cut.py") 558] }), (289, { cls := Value.type "function", data := Data.func { name := Str.ofString "_law_fallen", qualname := Str.ofString "_law_fallen", params := argsOf (topS 19), body := FuncBody.stmts (bodyOf (topS 19)), scope := scopeOf (topS 19), globals := 3, closure := [], defaults := Value.none, kwdefaults := Value.none, pyModule := Value.str (Str.ofString "law_uf040002_04") 508, code := Value.ref 288 } }), (290, { cls := Value.type "tuple", data := Data.seq #[] }), (293, { cls := Value.type "code", data := Data.fields #[Value.str (Str.ofString "law") 560, Value.str (Str.ofString "law") 561, Value.str (Str.ofString "/claim/cut.py") 562, Value.int 205 0, Value.int 1 0, Value.int 0 0, Value.int 0 0, Value.int 3 0, Value.ref 290, Value.bool true, Value.int 181 0, Value.ref 291, Value.none, Value.none, Value.none, Value.ref 292, Value.int 563 0, Value.int 205 0, Value.str (Str.ofString "/claim/cut.py") 564] }), (294, { cls := Value.type "function", data := Data.func { name := Str.ofString "law", qualname := Str.ofString "law", params := argsOf (topS 20), body := FuncBody.stmts (bodyOf (topS 20)), scope := scopeOf (topS 20), globals := 3, closure := [], defaults := Value.none, kwdefaults := Value.none, pyModule := Value.str (Str.ofString "law_uf040002_04") 508, code := Value.ref 293 } })]
noncomputable def K (P : Params) : Frag := g0 P ++ (g1 P ++ (g2 P ++ (g3 P ++ (g4 P ++ (g5 P ++ (g6 P ++ (g7 P ++ (g8 P ++ (g9 P ++ (g10 P ++ (g11 P ++ (g12 P ++ (g13 P)))))))))))))
noncomputable def as : List Addr := [2, 3, 15, 17, 18, 20, 21, 22, 29, 30, 31, 32, 35, 42, 43, 44, 47, 54, 55, 56, 59, 66, 67, 68, 71, 78, 79, 80, 83, 90, 91, 92, 102, 105, 106, 107, 109, 110, 112, 113, 114, 116, 117, 119, 120, 121, 123, 124, 126, 127, 128, 130, 131, 133, 134, 135, 137, 138, 140, 141, 142, 144, 145, 147, 148, 149, 151, 152, 154, 155, 156, 158, 159, 161, 162, 163, 166, 167, 168, 170, 171, 173, 174, 175, 177, 178, 180, 181, 182, 184, 185, 187, 188, 189, 191, 192, 194, 195, 196, 198, 199, 201, 202, 203, 205, 206, 208, 209, 210, 212, 213, 215, 216, 217, 219, 220, 222, 223, 224, 226, 227, 229, 230, 231, 233, 234, 236, 237, 238, 240, 241, 243, 244, 245, 246, 247, 248, 249, 252, 254, 255, 257, 258, 259, 261, 262, 264, 265, 266, 268, 269, 271, 272, 273, 276, 277, 278, 281, 282, 283, 285, 286, 288, 289, 290, 293, 294]
end Mine.K04

set_option Elab.async false
set_option maxRecDepth 100000
set_option maxHeartbeats 8000000
open PySem PySem.W PyProof.Rows
theorem PySem.Challenge.cw_uf040002_04_holds : PySem.Challenge.rw_uf040002_04.Holds := by
  w_on
  o_law
  o_head (kHook Mine.K04.K Mine.K04.as (fun _ => by kernel_rfl))
  case hw => w_witness2
  intro w s₀ s₁ mg mb G Y fa o pm cd doc dV kV ho hd hcd hD hmg hg args vals as hpre hlay hrd hwl hlo
  have KX := kIn_of Y
  refine Ground.open G ?_
  intro T B D TE TW
  try (refine guard_noD D (by decide +kernel) ?_; clear D)
  have hlo' := hlo
  wrow_args hpre hlay hrd hwl hlo
  refine enter_call ?_
  refine codeAny_mono ?_ (fun _ _ g => GoodW.toG g)
  rename_i ns hs1 hs2 hs3 hs4 hs5 as1 as2 A vs as3 hIL hra hwell hrd1 hI hrd2 hc1 hc2
  have hfa : Value.ref fa = .ref 294 := by
    have e : nsIn (Mine.K04.K w.params) mainGlobals (Str.ofString "law") = some (some (.ref 294)) := by kernel_rfl
    have := mg_of KX T.g e
    have h2 : mg (Str.ofString "law") = some (.ref fa) := hmg
    rw [this] at h2; exact (Option.some.inj h2).symm
  have hfa : fa = 294 := by cases hfa; rfl
  rw [hfa]
  have hlen : ns.length ≤ 63 := by lia
  obtain ⟨σ', hrun⟩ := Mine.L04.plain ns hlen
  have hL : s₁.heap.get? A = some (W.listOf vs.toArray 0) := by
    obtain ⟨o1, g1, g2, n, g3⟩ := hIL
    cases hwell with
    | list q1 q2 =>
      rw [g1] at q1
      cases q1
      cases g3
      exact g1
  have hA : (A == sysModules) = false := by
    refine hlo' A ?_
    cases hrd1 with
    | list => simp
  refine Mine.law_main (K := Mine.K04.K w.params) (T := Mine.L04.T04) (P := Mine.L04.prog) (clsL := Mine.L04.clsL) (fnL := Mine.L04.fnL) (meL := Mine.L04.meL) (by kernel_rfl) (by kernel_rfl) (by kernel_rfl) rfl rfl (lid := 74) rfl KX T.g T.b T.builtins T.nolimit hL hA hI (by show ns.length ≤ 1000000; lia) (d := 20) (by decide) hrun fun h' tk keep => ?_
  refine ⟨.inl ⟨_, .bool true, [], rfl, fun _ => rfl, .bool true, by kernel_rfl, fun _ => ⟨List.nodup_nil, fun _ h => nomatch h⟩⟩, keep, rfl, hg⟩
