import PyProof.Rows.All
import Wide.All
import OpenK.KCell
import Open.Line
import Open.FastT9
import PySem.Challenge.RW_np0273_01
set_option Elab.async false
set_option autoImplicit false
set_option linter.unusedVariables false
namespace Mine
open PySem

/-- values: what does not turn is a plain tree; what turns is a number of the state's -/
inductive V where
  | none
  | bool (b : Bool)
  | int (i : Int)
  | str (s : Str)
  | tup (vs : List V)
  | ref (i : Nat)
  | froz (vs : List V)

inductive O where
  | list (vs : List V)
  | dict (kvs : List (Str × V))
  | inst (kvs : List (Str × V))

mutual
noncomputable def V.eqb : V → V → Bool
  | .none, .none => true
  | .bool a, .bool b => a == b
  | .int a, .int b => decide (a = b)
  | .str a, .str b => decide (a = b)
  | .tup a, .tup b => eqbs a b
  | .ref a, .ref b => decide (a = b)
  | .froz a, .froz b => eqbs a b
  | _, _ => false
noncomputable def eqbs : List V → List V → Bool
  | [], [] => true
  | x :: xs, y :: ys => x.eqb y && eqbs xs ys
  | _, _ => false
end

abbrev St := List O
abbrev Loc := List (Str × V)
abbrev Sc := List (Str × NameKind)

inductive Fl where
  | next
  | ret (v : V)

noncomputable def bd {α β : Type} (x : Option (α × St)) (f : α → St → Option β) : Option β :=
  match x with
  | some (a, st) => f a st
  | none => none

noncomputable def setL (x : Str) (v : V) : Loc → Loc
  | [] => [(x, v)]
  | (y, u) :: r => if x = y then (x, v) :: r else (y, u) :: setL x v r

/-! ## operations -/
noncomputable def alloc (o : O) (st : St) : Option (V × St) := some (.ref st.length, st ++ [o])
noncomputable def mkList (vs : List V) (st : St) : Option (V × St) := if vs.length ≤ 4096 then alloc (.list vs) st else none
noncomputable def setO (st : St) (i : Nat) (o : O) : St := st.set i o

/-- a place in a sequence, from either end -/
noncomputable def place (k : Int) (n : Nat) : Option Nat :=
  if 0 ≤ k then (if k < (n : Int) then some k.toNat else none)
  else if 0 ≤ k + (n : Int) then some (k + (n : Int)).toNat else none

noncomputable def getI (vs : List V) (k : Int) : Option V := (place k vs.length).bind fun j => vs[j]?

/-- a written bound of a slice: nothing, or nought and more -/
noncomputable def bnd (v : V) : Option (Option Nat) :=
  match v with
  | .none => some none
  | .int k => if 0 ≤ k then some (some k.toNat) else none
  | _ => none
noncomputable def cut (vs : List V) (lo hi : Option Nat) : List V := (vs.drop (lo.getD 0)).take (hi.getD vs.length - lo.getD 0)
noncomputable def splice (vs : List V) (lo hi : Option Nat) (ws : List V) : List V :=
  vs.take (min (lo.getD 0) vs.length) ++ ws ++ vs.drop (max (min (lo.getD 0) vs.length) (min (hi.getD vs.length) vs.length))

noncomputable def getItemV (o i : V) (st : St) : Option (V × St) :=
  match o with
  | .tup vs => (match i with | .int k => (getI vs k).map (·, st) | _ => none)
  | .ref a => (match st[a]? with
    | some (.list vs) => (match i with | .int k => (getI vs k).map (·, st) | _ => none)
    | some (.dict kvs) => (match i with | .str x => (kvs.lookup x).map (·, st) | _ => none)
    | _ => none)
  | _ => none
noncomputable def getSliceV (o l u : V) (st : St) : Option (V × St) :=
  (bnd l).bind fun lo => (bnd u).bind fun hi =>
  match o with
  | .froz vs => mkList (cut vs lo hi) st
  | .ref a => (match st[a]? with
    | some (.list vs) => mkList (cut vs lo hi) st
    | _ => none)
  | _ => none
noncomputable def setItemV (o i v : V) (st : St) : Option St :=
  match o with
  | .ref a => (match st[a]? with
    | some (.list vs) => (match i with
      | .int k => (place k vs.length).map fun j => setO st a (.list (vs.set j v))
      | _ => none)
    | some (.dict kvs) => (match i with
      | .str x => if (kvs.lookup x).isSome then some (setO st a (.dict (setL x v kvs))) else none
      | _ => none)
    | _ => none)
  | _ => none
noncomputable def setSliceV (o l u v : V) (st : St) : Option St :=
  (bnd l).bind fun lo => (bnd u).bind fun hi =>
  match o, v with
  | .ref a, .ref b => (match st[a]?, st[b]? with
    | some (.list vs), some (.list ws) => if a ≠ b ∧ vs.length + ws.length ≤ 4096 then some (setO st a (.list (splice vs lo hi ws))) else none
    | _, _ => none)
  | _, _ => none
noncomputable def getAttrV (o : V) (x : Str) (st : St) : Option (V × St) :=
  match o with
  | .ref a => (match st[a]? with
    | some (.inst kvs) => if x = Str.ofString "cells" ∨ x = Str.ofString "is_wrapped" ∨ x = Str.ofString "size" then (kvs.lookup x).map (·, st) else none
    | _ => none)
  | _ => none
noncomputable def setAttrV (o : V) (x : Str) (v : V) (st : St) : Option St :=
  match o with
  | .ref a => (match st[a]? with
    | some (.inst kvs) => if (x = Str.ofString "cells" ∨ x = Str.ofString "is_wrapped" ∨ x = Str.ofString "size") ∧ (setL x v kvs).length ≤ 100 then some (setO st a (.inst (setL x v kvs))) else none
    | _ => none)
  | _ => none

/-! ## what == looks at -/
mutual
noncomputable def toPy (st : St) : Nat → V → Option PyData
  | _, .none => some .none
  | _, .bool b => some (.bool b)
  | _, .int i => some (.int i)
  | _, .str x => if PyData.strOk x then some (.str x) else none
  | n, .tup vs => (match n with | 0 => none | n + 1 => (toPys st n vs).map .tuple)
  | _, .ref _ => none
  | _, .froz _ => none
noncomputable def toPys (st : St) : Nat → List V → Option (List PyData)
  | _, [] => some []
  | n, v :: vs => match toPy st n v, toPys st n vs with
    | some d, some ds => some (d :: ds)
    | _, _ => none
end
/-- a list of trees, too -/
noncomputable def toPy1 (st : St) (n : Nat) (v : V) : Option PyData :=
  match v with
  | .ref a => (match st[a]? with
    | some (.list vs) => (toPys st n vs).map .list
    | _ => none)
  | v => toPy st n v
noncomputable def toPys1 (st : St) (n : Nat) : List V → Option (List PyData)
  | [] => some []
  | v :: vs => match toPy1 st n v, toPys1 st n vs with
    | some d, some ds => some (d :: ds)
    | _, _ => none
noncomputable def toPy2 (st : St) (n : Nat) (v : V) : Option PyData :=
  match v with
  | .tup vs => (toPys1 st n vs).map .tuple
  | v => toPy1 st n v
noncomputable def eqV (st : St) (a b : V) : Option Bool :=
  match toPy2 st 4 a, toPy2 st 4 b with
  | some x, some y => some (PyData.eqv x y)
  | _, _ => none

noncomputable def cmpV (op : CmpOp) (a b : V) (st : St) : Option Bool :=
  match op with
  | .Eq => eqV st a b
  | .NotEq => (eqV st a b).map (!·)
  | .Lt => (match a, b with | .int i, .int j => some (decide (i < j)) | _, _ => none)
  | .LtE => (match a, b with | .int i, .int j => some (decide (i ≤ j)) | _, _ => none)
  | .Gt => (match a, b with | .int i, .int j => some (decide (i > j)) | _, _ => none)
  | .GtE => (match a, b with | .int i, .int j => some (decide (i ≥ j)) | _, _ => none)
  | .Is => (match a, b with
    | .none, .none => some true
    | .int _, .none => some false
    | _, _ => none)
  | _ => none

noncomputable def small (i : Int) : Bool := decide (-(2 ^ 62) < i ∧ i < 2 ^ 62)

noncomputable def binV (op : Operator) (a b : V) (st : St) : Option (V × St) :=
  match op with
  | .Add => (match a, b with
    | .int i, .int j => some (.int (i + j), st)
    | .ref i, .ref j => (match st[i]?, st[j]? with
      | some (.list vs), some (.list ws) => mkList (vs ++ ws) st
      | _, _ => none)
    | _, _ => none)
  | .Sub => (match a, b with
    | .int i, .int j => some (.int (i - j), st)
    | _, _ => none)
  | .Mult => (match a, b with
    | .int i, .int j => if small i && small j then some (.int (i * j), st) else none
    | .ref i, .int n => (match st[i]? with
      | some (.list [v]) => if n ≤ 4096 ∧ -(2 ^ 63) ≤ n then mkList (List.replicate n.toNat v) st else none
      | _ => none)
    | _, _ => none)
  | .FloorDiv => (match a, b with
    | .int i, .int j => if 0 < j ∧ j < 1073741824 then some (.int (i / j), st) else none
    | _, _ => none)
  | .Mod => (match a, b with
    | .int i, .int j => if 0 < j then some (.int (i % j), st) else none
    | _, _ => none)
  | _ => none

/-! ## the text's own defs, by place -/
inductive Fn where
  | clamp | erased_pen | blank_cell | is_blank | is_plain_blank | line_blanks | right_half | line_part | line_slice | line_codes
  | deck | draw | pen | sign | lpart | lput | deed | lcodes | lused | law
  | m_init | m_part | m_put | m_put_cells | m_shift | m_insert | m_delete | m_copy | m_codes | m_used | m_equals

structure FnRec where
  name : Str
  params : List Str
  body : List Stmt
  scope : Scope

noncomputable def recOfStmt : Stmt → FnRec
  | .FunctionDef name args body _ _ _ scope _ _ _ => ⟨name, args.args.map (·.arg), body, scope⟩
  | _ => ⟨Str.ofString "", [], [], default⟩
noncomputable def nth (l : List Stmt) (i : Nat) : Stmt := match l[i]? with | some s => s | none => .Pass default
noncomputable def clsBody : Stmt → List Stmt
  | .ClassDef _ _ _ body .. => body
  | _ => []
noncomputable def topAt (i : Nat) : FnRec := recOfStmt (nth PySem.Challenge.pw_np0273_01.main.body i)
noncomputable def methAt (i : Nat) : FnRec := recOfStmt (nth (clsBody (nth PySem.Challenge.pw_np0273_01.main.body 17)) i)
noncomputable def recOf : Fn → FnRec
  | .clamp => topAt 5 | .erased_pen => topAt 6 | .blank_cell => topAt 7 | .is_blank => topAt 8 | .is_plain_blank => topAt 9
  | .line_blanks => topAt 12 | .right_half => topAt 13 | .line_part => topAt 14 | .line_slice => topAt 15 | .line_codes => topAt 16
  | .deck => topAt 19 | .draw => topAt 20 | .pen => topAt 21 | .sign => topAt 22 | .lpart => topAt 23 | .lput => topAt 24 | .deed => topAt 25
  | .lcodes => topAt 26 | .lused => topAt 27 | .law => topAt 28
  | .m_init => methAt 0 | .m_part => methAt 3 | .m_put => methAt 4 | .m_put_cells => methAt 5 | .m_shift => methAt 7 | .m_insert => methAt 8
  | .m_delete => methAt 9 | .m_copy => methAt 11 | .m_codes => methAt 12 | .m_used => methAt 13 | .m_equals => methAt 15

noncomputable def tops : List (Str × Fn) := [(Str.ofString "clamp", .clamp), (Str.ofString "erased_pen", .erased_pen), (Str.ofString "blank_cell", .blank_cell), (Str.ofString "is_blank", .is_blank),
  (Str.ofString "is_plain_blank", .is_plain_blank), (Str.ofString "line_blanks", .line_blanks), (Str.ofString "right_half", .right_half), (Str.ofString "line_part", .line_part),
  (Str.ofString "line_slice", .line_slice), (Str.ofString "line_codes", .line_codes), (Str.ofString "_law_deck", .deck), (Str.ofString "_law_draw", .draw), (Str.ofString "_law_pen", .pen),
  (Str.ofString "_law_sign", .sign), (Str.ofString "_law_part", .lpart), (Str.ofString "_law_put", .lput), (Str.ofString "_law_deed", .deed), (Str.ofString "_law_codes", .lcodes), (Str.ofString "_law_used", .lused)]
noncomputable def meths : List (Str × Fn) := [(Str.ofString "part", .m_part), (Str.ofString "put", .m_put), (Str.ofString "put_cells", .m_put_cells), (Str.ofString "shift", .m_shift),
  (Str.ofString "insert", .m_insert), (Str.ofString "delete", .m_delete), (Str.ofString "copy", .m_copy), (Str.ofString "codes", .m_codes), (Str.ofString "used", .m_used), (Str.ofString "equals", .m_equals)]
noncomputable def globs : List (Str × V) := [(Str.ofString "PLAIN", .tup [.int 0, .int (-1), .int (-1), .int (-1), .int 0]), (Str.ofString "NO_COLOUR", .int (-1)), (Str.ofString "BACK", .int 2),
  (Str.ofString "LINE_SIZES", .tup [.str (Str.ofString "single"), .str (Str.ofString "wide"), .str (Str.ofString "top"), .str (Str.ofString "bottom")])]

inductive Bi where
  | max | min | len | list | int | line
noncomputable def bis : List (Str × Bi) := [(Str.ofString "max", .max), (Str.ofString "min", .min), (Str.ofString "len", .len), (Str.ofString "list", .list), (Str.ofString "int", .int), (Str.ofString "Line", .line)]
inductive Lm where
  | extend | append | pop
noncomputable def lms : List (Str × Lm) := [(Str.ofString "extend", .extend), (Str.ofString "append", .append), (Str.ofString "pop", .pop)]

abbrev CallT := Fn → List V → St → Option (V × St)

noncomputable def callBi (C : CallT) (b : Bi) (args : List V) (st : St) : Option (V × St) :=
  match b with
  | .max => (match args with | [.int i, .int j] => some (.int (max i j), st) | _ => none)
  | .min => (match args with | [.int i, .int j] => some (.int (min i j), st) | _ => none)
  | .len => (match args with
    | [.ref a] => (match st[a]? with | some (.list vs) => some (.int vs.length, st) | _ => none)
    | _ => none)
  | .list => (match args with
    | [.ref a] => (match st[a]? with | some (.list vs) => mkList vs st | _ => none)
    | [.tup vs] => mkList vs st
    | _ => none)
  | .int => (match args with | [.int i] => some (.int i, st) | _ => none)
  | .line => bd (C .m_init (.ref st.length :: args) (st ++ [.inst []])) fun v st' => match v with | .none => some (.ref st.length, st') | _ => none
noncomputable def callTop (C : CallT) (x : Str) (args : List V) (st : St) : Option (V × St) :=
  match tops.lookup x with
  | some f => C f args st
  | none => (match bis.lookup x with
    | some b => callBi C b args st
    | none => none)
/-- what a method is, before its arguments are reckoned -/
inductive Me where
  | own (f : Fn) (a : Nat)
  | list (m : Lm) (a : Nat)
noncomputable def methV (o : V) (x : Str) (st : St) : Option Me :=
  match o with
  | .ref a => (match st[a]? with
    | some (.inst kvs) => if (kvs.lookup x).isNone then (meths.lookup x).map (.own · a) else none
    | some (.list _) => (lms.lookup x).map (.list · a)
    | _ => none)
  | _ => none
noncomputable def callMe (C : CallT) (m : Me) (args : List V) (st : St) : Option (V × St) :=
  match m with
  | .own f a => C f (.ref a :: args) st
  | .list .extend a => (match st[a]?, args with
    | some (.list vs), [.tup ws] => if vs.length + ws.length ≤ 4096 then some (.none, setO st a (.list (vs ++ ws))) else none
    | some (.list vs), [.ref b] => (match st[b]? with
      | some (.list ws) => if vs.length + ws.length ≤ 4096 then some (.none, setO st a (.list (vs ++ ws))) else none
      | _ => none)
    | _, _ => none)
  | .list .append a => (match st[a]?, args with
    | some (.list vs), [v] => if vs.length ≤ 4096 then some (.none, setO st a (.list (vs ++ [v]))) else none
    | _, _ => none)
  | .list .pop a => (match st[a]?, args with
    | some (.list vs), [] => (match vs.getLast? with | some v => some (v, setO st a (.list vs.dropLast)) | none => none)
    | some (.list vs), [.int 0] => (match vs with | v :: r => some (v, setO st a (.list r)) | [] => none)
    | _, _ => none)

/-! ## loops -/
noncomputable def sameL (st : St) (src : Option (Nat × List V)) : Bool :=
  match src with
  | none => true
  | some (a, vs) => (match st[a]? with | some (.list ws) => eqbs ws vs | _ => false)
noncomputable def enumV : Nat → List V → List V
  | _, [] => []
  | i, v :: vs => .tup [.int i, v] :: enumV (i + 1) vs
noncomputable def rangeV : Nat → Nat → List V
  | _, 0 => []
  | i, n + 1 => .int i :: rangeV (i + 1) n
noncomputable def isLocal (sc : Sc) (x : Str) : Bool := sc.lookup x == some .local
/-- the stores of a target: a name, or names in a row -/
noncomputable def bindNames (sc : Sc) : List Expr → List V → Loc → Option Loc
  | [], [], loc => some loc
  | .Name x _ :: es, v :: vs, loc => if isLocal sc x then bindNames sc es vs (setL x v loc) else none
  | _, _, _ => none
noncomputable def bindT (sc : Sc) (target : Expr) (v : V) (loc : Loc) : Option Loc :=
  match target with
  | .Name x _ => if isLocal sc x then some (setL x v loc) else none
  | .Tuple es _ _ => (match v with | .tup vs => bindNames sc es vs loc | _ => none)
  | _ => none
noncomputable def forL (src : Option (Nat × List V)) (bindv : V → Loc → Option Loc) (body : Loc → St → Option ((Fl × Loc) × St)) : List V → Loc → St → Option ((Fl × Loc) × St)
  | [], loc, st => if sameL st src then some ((.next, loc), st) else none
  | v :: rest, loc, st => if sameL st src then
      (bindv v loc).bind fun loc => bd (body loc st) fun fl st => match fl.1 with
        | .next => forL src bindv body rest fl.2 st
        | .ret r => some ((.ret r, fl.2), st)
    else none
noncomputable def whileL (test : Loc → St → Option (Bool × St)) (body : Loc → St → Option ((Fl × Loc) × St)) : Nat → Loc → St → Option ((Fl × Loc) × St)
  | 0, _, _ => none
  | n + 1, loc, st => bd (test loc st) fun b st => if b then bd (body loc st) fun fl st => (match fl.1 with
        | .next => whileL test body n fl.2 st
        | .ret r => some ((.ret r, fl.2), st))
      else some ((.next, loc), st)
noncomputable def compL (src : Option (Nat × List V)) (bindv : V → Loc → Option Loc) (test : Loc → St → Option (Bool × St)) (elt : Loc → St → Option (V × St)) : List V → Loc → List V → St → Option (List V × St)
  | [], _, acc, st => if sameL st src then some (acc, st) else none
  | v :: rest, loc, acc, st => if sameL st src then
      (bindv v loc).bind fun loc => bd (test loc st) fun b st => if b then bd (elt loc st) fun u st => compL src bindv test elt rest loc (acc ++ [u]) st
        else compL src bindv test elt rest loc acc st
    else none

noncomputable def isNm : Expr → Bool
  | .Name .. => true
  | _ => false
noncomputable def isTp : Expr → Bool
  | .Tuple .. => true
  | _ => false
noncomputable def truthV (v : V) : Option Bool := match v with | .bool b => some b | _ => none
noncomputable def itemsV (v : V) (st : St) : Option (List V × Option (Nat × List V)) :=
  match v with
  | .tup vs => some (vs, none)
  | .ref a => (match st[a]? with | some (.list vs) => some (vs, some (a, vs)) | _ => none)
  | _ => none
noncomputable def enumOf (v : V) (st : St) : Option (List V × Option (Nat × List V)) :=
  match v with
  | .ref a => (match st[a]? with | some (.list vs) => some (enumV 0 vs, some (a, vs)) | _ => none)
  | _ => none
noncomputable def rangeOf (v : V) : Option (List V) :=
  match v with
  | .int n => if n ≤ 4096 ∧ -4096 ≤ n then some (rangeV 0 n.toNat) else none
  | _ => none
noncomputable def plainV (v : V) : Bool := match v with | .none | .bool _ | .int _ => true | _ => false

/-- a comprehension's own block: nothing caught, nothing kept -/
noncomputable def compOk (scope : Scope) (x : Str) : Bool :=
  scope.kind == .function && scope.names.all (fun y => y.2 != .free && y.2 != .cell && (y.2 != .local || scope.names.lookup y.1 == some .local)) && scope.names.lookup x == some .local
noncomputable def baseOk : Expr → Bool
  | .Name .. => true
  | .Attribute .. => true
  | .Subscript .. => true
  | _ => false
/-- and, or, where a value is wanted: which of the two goes on -/
noncomputable def goesOn (op : BoolOp) (b : Bool) : Bool := match op with | .And => b | .Or => !b
mutual
noncomputable def ev (C : CallT) : Expr → Sc → Loc → St → Option (V × St)
  | .Constant c _ _, _, _, st => (match c with
    | .none => some (.none, st)
    | .bool b => some (.bool b, st)
    | .int i => some (.int i, st)
    | .str x => some (.str x, st)
    | _ => none)
  | .Name x _, sc, loc, st => if x = Str.ofString "__debug__" then none else (match sc.lookup x with
    | some .local => (loc.lookup x).map (·, st)
    | some .globalImplicit => (globs.lookup x).map (·, st)
    | _ => none)
  | .BoolOp op es _, sc, loc, st => evBool C op es sc loc st
  | .BinOp l op r _, sc, loc, st => bd (ev C l sc loc st) fun a st => bd (ev C r sc loc st) fun b st => binV op a b st
  | .UnaryOp op x _, sc, loc, st => bd (ev C x sc loc st) fun a st => (match op with
    | .USub => (match a with | .int i => some (.int (-i), st) | _ => none)
    | .Not => (truthV a).map fun b => (.bool (!b), st)
    | _ => none)
  | .IfExp t b o _, sc, loc, st => bd (evT C t sc loc (ev C t sc loc) st) fun c st => if c then ev C b sc loc st else ev C o sc loc st
  | .List es _, sc, loc, st => bd (evs C es sc loc st) fun vs st => mkList vs st
  | .Tuple es _ _, sc, loc, st => bd (evs C es sc loc st) fun vs st => if vs.length ≤ 4096 then some (.tup vs, st) else none
  | .Dict ks vs _, sc, loc, st => (match ks, vs with
    | [some (.Constant (.str k₁) _ _), some (.Constant (.str k₂) _ _)], [e₁, e₂] =>
      bd (ev C e₁ sc loc st) fun v₁ st => bd (ev C e₂ sc loc st) fun v₂ st => if k₁ = k₂ then none else alloc (.dict [(k₁, v₁), (k₂, v₂)]) st
    | _, _ => none)
  | .Compare l ops rs _, sc, loc, st => (match ops, rs with
    | [op], [r] => bd (ev C l sc loc st) fun a st => bd (ev C r sc loc st) fun b st => (cmpV op a b st).map fun c => (.bool c, st)
    | _, _ => none)
  | .Call f args kws pos, sc, loc, st => (match f, kws with
    | .Name x _, [] => if sc.lookup x = some .globalImplicit ∧ x ≠ Str.ofString "__debug__" then bd (evs C args sc loc st) fun vs st => callTop C x vs st else none
    | .Attribute o x apos, [] => if baseOk o && (apos.endLine == pos.line) && decide (args.length < 20) then
        bd (ev C o sc loc st) fun ov st => (methV ov x st).bind fun m => bd (evs C args sc loc st) fun vs st => callMe C m vs st
      else none
    | _, _ => none)
  | .Attribute o x _, sc, loc, st => if baseOk o then bd (ev C o sc loc st) fun ov st => getAttrV ov x st else none
  | .Subscript o i _, sc, loc, st => (match i with
    | .Slice l u none _ => bd (ev C o sc loc st) fun ov st => bd (evO C l sc loc st) fun lv st => bd (evO C u sc loc st) fun uv st => getSliceV ov lv uv st
    | i => bd (ev C o sc loc st) fun ov st => bd (ev C i sc loc st) fun iv st => getItemV ov iv st)
  | .ListComp elt gens scope _, sc, loc, st => (match gens with
    | [⟨.Name x px, iter, [], 0⟩] => if compOk scope x then
        bd (ev C iter sc loc st) fun v st => (itemsV v st).bind fun its => bd (compL its.2 (bindT scope.names (.Name x px)) (fun _ st => some (true, st)) (fun loc st => ev C elt scope.names loc st) its.1 [] [] st) fun vs st => mkList vs st
      else none
    | _ => none)
  | _, _, _, _ => none
noncomputable def evO (C : CallT) : Option Expr → Sc → Loc → St → Option (V × St)
  | none, _, _, st => some (.none, st)
  | some e, sc, loc, st => ev C e sc loc st
noncomputable def evs (C : CallT) : List Expr → Sc → Loc → St → Option (List V × St)
  | [], _, _, st => some ([], st)
  | e :: es, sc, loc, st => bd (ev C e sc loc st) fun v st => bd (evs C es sc loc st) fun vs st => some (v :: vs, st)
noncomputable def evBool (C : CallT) (op : BoolOp) : List Expr → Sc → Loc → St → Option (V × St)
  | [], _, _, _ => none
  | e :: es, sc, loc, st => bd (ev C e sc loc st) fun v st => (match es with
    | [] => some (v, st)
    | _ :: _ => (truthV v).bind fun b => if goesOn op b then evBool C op es sc loc st else some (v, st))
/-- a test -/
noncomputable def evT (C : CallT) : Expr → Sc → Loc → (St → Option (V × St)) → St → Option (Bool × St)
  | .UnaryOp op x _, sc, loc, whole, st => (match op with
    | .Not => bd (evT C x sc loc (ev C x sc loc) st) fun b st => some (!b, st)
    | _ => none)
  | .BoolOp op es _, sc, loc, _, st => evAll C op es sc loc st
  | .IfExp .., _, _, _, _ => none
  | .Compare l ops rs _, sc, loc, _, st => (match ops, rs with
    | [op₁], [r₁] => bd (ev C l sc loc st) fun a st => bd (ev C r₁ sc loc st) fun b st => (cmpV op₁ a b st).map (·, st)
    | [op₁, op₂], [r₁, r₂] => bd (ev C l sc loc st) fun a st => bd (ev C r₁ sc loc st) fun b st => (cmpV op₁ a b st).bind fun c =>
        if c then bd (ev C r₂ sc loc st) fun d st => (cmpV op₂ b d st).map (·, st) else if (op₂ == .In || op₂ == .NotIn) then none else some (false, st)
    | _, _ => none)
  | .Name .., _, _, whole, st => bd (whole st) fun v st => (truthV v).map (·, st)
  | .Call .., _, _, whole, st => bd (whole st) fun v st => (truthV v).map (·, st)
  | _, _, _, _, _ => none
noncomputable def evAll (C : CallT) (op : BoolOp) : List Expr → Sc → Loc → St → Option (Bool × St)
  | [], _, _, st => some (op == .And, st)
  | e :: es, sc, loc, st => bd (evT C e sc loc (ev C e sc loc) st) fun b st => if goesOn op b then evAll C op es sc loc st else some (b, st)
end

noncomputable def isComp : Expr → Bool
  | .ListComp .. | .SetComp .. | .DictComp .. => true
  | _ => false
noncomputable def assignOk (t e : Expr) : Bool :=
  match t, e with
  | .Name .., e => !isComp e
  | .Tuple .., .Tuple vs _ _ => !vs.all (constantsAlone 8)
  | .Tuple .., .List .. => false
  | .Tuple .., e => !isComp e
  | .Attribute .., _ => true
  | .Subscript .., _ => true
  | _, _ => false
/-- one store into one target -/
noncomputable def storeT (C : CallT) (sc : Sc) (target : Expr) (v : V) (loc : Loc) (st : St) : Option (Loc × St) :=
  match target with
  | .Attribute o x _ => if baseOk o then bd (ev C o sc loc st) fun ov st => (setAttrV ov x v st).map (loc, ·) else none
  | .Subscript o i _ => (match i with
    | .Slice l u none _ => bd (ev C o sc loc st) fun ov st => bd (evO C l sc loc st) fun lv st => bd (evO C u sc loc st) fun uv st => (setSliceV ov lv uv v st).map (loc, ·)
    | i => bd (ev C o sc loc st) fun ov st => bd (ev C i sc loc st) fun iv st => (setItemV ov iv v st).map (loc, ·))
  | t => (bindT sc t v loc).map (·, st)
/-- a name is given what a comprehension over enumerate picks -/
noncomputable def pickOk (sc : Sc) (y f : Str) (py lp : Pos) (scope : Scope) (x₁ x₂ : Str) : Bool :=
  sc.lookup f == some .globalImplicit && f == Str.ofString "enumerate" && compOk scope x₁ && compOk scope x₂ && isLocal sc y && (py.line == lp.line) && !(scope.names.any fun n => n.1 == y && (n.2 == .local || n.2 == .cell))

mutual
noncomputable def ex (C : CallT) : Stmt → Sc → Loc → St → Option ((Fl × Loc) × St)
  | .Expr e _, sc, loc, st => if isComp e then none else bd (ev C e sc loc st) fun v st => if plainV v then some ((.next, loc), st) else none
  | .Return eo _, sc, loc, st => bd (evO C eo sc loc st) fun v st => some ((.ret v, loc), st)
  | .Assign ts e pos, sc, loc, st => (match ts, e with
    | [.Name y py], .ListComp elt [⟨.Tuple [.Name x₁ p₁, .Name x₂ p₂] k tp, .Call (.Name f fp) [e] [] cp, [t], 0⟩] scope lp => if pickOk sc y f py lp scope x₁ x₂ then
      bd (ev C e sc loc st) fun v st => (enumOf v st).bind fun its => bd (compL its.2 (bindT scope.names (.Tuple [.Name x₁ p₁, .Name x₂ p₂] k tp)) (fun loc st => evT C t scope.names loc (ev C t scope.names loc) st) (fun loc st => ev C elt scope.names loc st) its.1 [] [] st) fun vs st =>
        bd (mkList vs st) fun u st => some ((.next, setL y u loc), st)
      else none
    | [t], e => if assignOk t e then bd (ev C e sc loc st) fun v st => bd (storeT C sc t v loc st) fun loc st => some ((.next, loc), st) else none
    | _, _ => none)
  | .AugAssign t op e _, sc, loc, st => (match t with
    | .Name x _ => if isLocal sc x && (op == .Sub || op == .Add) then (loc.lookup x).bind fun a => bd (ev C e sc loc st) fun b st => (match a, b with
      | .int _, .int _ => bd (binV op a b st) fun c st => some ((.next, setL x c loc), st)
      | _, _ => none) else none
    | _ => none)
  | .If t body orelse _, sc, loc, st => bd (evT C t sc loc (ev C t sc loc) st) fun b st => if b then exs C body sc loc st else exs C orelse sc loc st
  | .While t body orelse _, sc, loc, st => if orelse.isEmpty then whileL (fun loc st => evT C t sc loc (ev C t sc loc) st) (fun loc st => exs C body sc loc st) 64 loc st else none
  | .For target iter body orelse _, sc, loc, st => if orelse.isEmpty then (match iter with
    | .Call (.Name f _) [e] [] _ => if sc.lookup f == some .globalImplicit then
        (if f == Str.ofString "enumerate" && isTp target then bd (ev C e sc loc st) fun v st => (enumOf v st).bind fun its => forL its.2 (bindT sc target) (fun loc st => exs C body sc loc st) its.1 loc st
        else if f == Str.ofString "range" && isNm target then bd (ev C e sc loc st) fun v st => (rangeOf v).bind fun its => forL none (bindT sc target) (fun loc st => exs C body sc loc st) its loc st
        else none) else none
    | iter => if isNm target then bd (ev C iter sc loc st) fun v st => (itemsV v st).bind fun its => forL its.2 (bindT sc target) (fun loc st => exs C body sc loc st) its.1 loc st else none) else none
  | _, _, _, _ => none
noncomputable def exs (C : CallT) : List Stmt → Sc → Loc → St → Option ((Fl × Loc) × St)
  | [], _, loc, st => some ((.next, loc), st)
  | s :: r, sc, loc, st => bd (ex C s sc loc st) fun fl st => (match fl.1 with
    | .next => exs C r sc fl.2 st
    | .ret v => some ((.ret v, fl.2), st))
end

noncomputable def fillArgs (f : Fn) (args : List V) : List V :=
  match f, args with
  | .m_codes, [s] => [s, .int 0, .none]
  | _, args => args
noncomputable def callF : Nat → CallT
  | 0, _, _, _ => none
  | n + 1, f, args, st =>
    if (fillArgs f args).length = (recOf f).params.length then
      bd (exs (callF n) (recOf f).body (recOf f).scope.names ((recOf f).params.zip (fillArgs f args)) st) fun fl st => match fl.1 with
        | .ret v => some (v, st)
        | .next => some (.none, st)
    else none

end Mine

set_option autoImplicit false
set_option linter.unusedVariables false
set_option maxRecDepth 100000
namespace Mine
open PySem PySem.W PyProof.Rows PySem.Calls

noncomputable def argOfStmt : Stmt → Option Arguments
  | .FunctionDef _ args _ _ _ _ _ _ _ _ => some args
  | _ => none
noncomputable def tA (i : Nat) : Option Arguments := argOfStmt (nth PySem.Challenge.pw_np0273_01.main.body i)
noncomputable def mA (i : Nat) : Option Arguments := argOfStmt (nth (clsBody (nth PySem.Challenge.pw_np0273_01.main.body 17)) i)
noncomputable def argsOf : Fn → Option Arguments
  | .clamp => tA 5 | .erased_pen => tA 6 | .blank_cell => tA 7 | .is_blank => tA 8 | .is_plain_blank => tA 9
  | .line_blanks => tA 12 | .right_half => tA 13 | .line_part => tA 14 | .line_slice => tA 15 | .line_codes => tA 16
  | .deck => tA 19 | .draw => tA 20 | .pen => tA 21 | .sign => tA 22 | .lpart => tA 23 | .lput => tA 24 | .deed => tA 25
  | .lcodes => tA 26 | .lused => tA 27 | .law => tA 28
  | .m_init => mA 0 | .m_part => mA 3 | .m_put => mA 4 | .m_put_cells => mA 5 | .m_shift => mA 7 | .m_insert => mA 8
  | .m_delete => mA 9 | .m_copy => mA 11 | .m_codes => mA 12 | .m_used => mA 13 | .m_equals => mA 15

theorem lookup_mem {α β : Type} [BEq α] [LawfulBEq α] {x : α} {y : β} : ∀ {l : List (α × β)}, l.lookup x = some y → (x, y) ∈ l
  | [], h => nomatch h
  | (a, b) :: r, h => by
    rw [List.lookup_cons] at h
    by_cases q : (x == a) = true
    · rw [q] at h
      rw [eq_of_beq q, ← Option.some.inj h]; exact .head _
    · rw [eq_false_of_ne_true q] at h
      exact .tail _ (lookup_mem h)
/-! ## the heap's own objects, as a list -/
noncomputable def own (h : Heap) : Frag := (List.range h.objs.size).filterMap fun a => (h.get? a).map fun o => (a, o)
theorem own_in (h : Heap) : (own h).In h := by
  intro a o e
  obtain ⟨b, _, q⟩ := List.mem_filterMap.mp (lookup_mem e)
  obtain ⟨x, hx, q⟩ := Option.map_eq_some_iff.mp q
  obtain ⟨rfl, rfl⟩ := Prod.mk.inj q
  exact hx

/-! ## written values -/
noncomputable def okV : Value → V → Bool
  | .int i _, .int j => i == j
  | .str x _, .str y => x == y
  | .none, .none => true
  | _, _ => false
noncomputable def okVs : List Value → List V → Bool
  | [], [] => true
  | v :: vs, d :: ds => okV v d && okVs vs ds
  | _, _ => false
noncomputable def okTup (K : Frag) (v : Value) (ds : List V) : Bool := match v with
  | .ref a => (match K.lookup a with
    | some o => (match o.data with | .seq xs _ => okVs xs.toList ds | _ => false) && o.cls == .type "tuple" && o.dict == none && o.slots.isEmpty
    | none => false)
  | _ => false
noncomputable def okAny (K : Frag) (v : Value) : V → Bool
  | .tup ds => okTup K v ds && Nat.ble ds.length 5000
  | d => okV v d
noncomputable def okG (K : Frag) (e : Str × V) : Bool := match nsIn K mainGlobals e.1 with
  | some (some v) => okAny K v e.2
  | _ => false
/-! ## what is looked at -/
abbrev FnLook := Option (FuncBody × Scope × Option Arguments × Bool)
noncomputable def dfltOk (K : Frag) (v : Value) : Fn → Bool
  | .m_codes => okTup K v [.int 0, .none]
  | _ => v == .none
noncomputable def fnLook (K : Frag) (f : Fn) (v : Option (Option Value)) : FnLook := match v with
  | some (some (.ref a)) => (match K.lookup a with
    | some o => (match o.data with
      | .func fd => some (fd.body, fd.scope, some fd.params, fd.globals == mainGlobals && fd.builtins == builtinsNs && fd.closure.isEmpty && codeIn K fd.code fd.qualname && o.cls == .type "function" &&
          dfltOk K fd.defaults f)
      | _ => none)
    | none => none)
  | _ => none
noncomputable def fnWant (f : Fn) : FnLook := some (.stmts (recOf f).body, (recOf f).scope, argsOf f, true)
noncomputable def lineOf (K : Frag) : Addr := match nsIn K mainGlobals (Str.ofString "Line") with
  | some (some (.ref C)) => C
  | _ => 0
noncomputable def flags (K : Frag) (C : Addr) : Bool :=
  nsIn K mainGlobals (Str.ofString "Line") == some (some (.ref C)) && globs.all (okG K) && bis.all (fun e => e.1 == Str.ofString "Line" || nsIn K mainGlobals e.1 == some none) &&
  nsIn K mainGlobals (Str.ofString "enumerate") == some none && nsIn K mainGlobals (Str.ofString "range") == some none &&
  makesIn K C && keepIn K (.ref C) && plainOver K C && (clsIn K C).any (·.hasDict) &&
  findIn K (.ref C) "__getattribute__" == some (some (.builtin "object.__getattribute__")) && findIn K (.ref C) "__getattr__" == some none && findIn K (.ref C) "__setattr__" == some (some (.builtin "object.__setattr__")) &&
  findIn K (.ref C) (Str.ofString "cells") == some none && findIn K (.ref C) (Str.ofString "is_wrapped") == some none && findIn K (.ref C) (Str.ofString "size") == some none
noncomputable def seesAt (K : Frag) (C : Addr) : Bool × List FnLook :=
  (flags K C, fnLook K .law (nsIn K mainGlobals (Str.ofString "law")) :: fnLook K .m_init (findIn K (.ref C) (Str.ofString "__init__")) ::
    (tops.map (fun e => fnLook K e.2 (nsIn K mainGlobals e.1)) ++ meths.map (fun e => fnLook K e.2 (findIn K (.ref C) e.1))))
noncomputable def sees (s : Shared) : Bool × List FnLook := seesAt (own s.heap) (lineOf (own s.heap))
noncomputable def wants : Bool × List FnLook := (true, fnWant .law :: fnWant .m_init :: (tops.map (fun e => fnWant e.2) ++ meths.map (fun e => fnWant e.2)))

noncomputable def hook : Hook := ⟨Bool × List FnLook, sees, fun _ => wants, fun _ h => ∃ K C, Frag.In K h ∧ seesAt K C = wants, fun _ s e => ⟨_, _, own_in s.heap, e⟩, fun _ _ _ ⟨K, C, x, e⟩ k => ⟨K, C, x.keeps k, e⟩⟩

end Mine

set_option autoImplicit false
set_option linter.unusedVariables false
namespace Mine
open PySem PySem.W PyProof.Rows

theorem no_true {p : Prop} (e : false = true) : p := nomatch e
theorem guard_some {α : Type} {c : Prop} [Decidable c] {x : Option α} {r : α} (e : (if c then x else none) = some r) : c ∧ x = some r := by
  by_cases h : c
  · rw [if_pos h] at e; exact ⟨h, e⟩
  · rw [if_neg h] at e; cases e
theorem nguard_some {α : Type} {c : Prop} [Decidable c] {x : Option α} {r : α} (e : (if c then none else x) = some r) : ¬ c ∧ x = some r := by
  by_cases h : c
  · rw [if_pos h] at e; cases e
  · rw [if_neg h] at e; exact ⟨h, e⟩
theorem ite_some {α : Type} {c : Prop} [Decidable c] {x y : Option α} {r : α} (e : (if c then x else y) = some r) : (c ∧ x = some r) ∨ y = some r := by
  by_cases h : c
  · rw [if_pos h] at e; exact .inl ⟨h, e⟩
  · rw [if_neg h] at e; exact .inr e
theorem no_some {α : Type} {r : α} {p : Prop} (e : none = some r) : p := nomatch e
theorem pair_some {α β : Type} {a c : α} {b d : β} (e : some (a, b) = some (c, d)) : a = c ∧ b = d := by cases e; exact ⟨rfl, rfl⟩
theorem triple_some {α β γ : Type} {a a' : α} {b b' : β} {c c' : γ} (e : some ((a, b), c) = some ((a', b'), c')) : a = a' ∧ b = b' ∧ c = c' := by cases e; exact ⟨rfl, rfl, rfl⟩
theorem list_true {o : Option O} {f : List V → Bool} (e : (match o with | some (.list ws) => f ws | _ => false) = true) : ∃ ws, o = some (.list ws) ∧ f ws = true := by
  cases o with
  | none => exact no_true e
  | some o => cases o with
    | list vs => exact ⟨vs, rfl, e⟩
    | _ => exact no_true e
theorem int2_some {α : Type} {a b : V} {f : Int → Int → Option α} {r : α} (e : (match a, b with | .int i, .int j => f i j | _, _ => none) = some r) : ∃ i j, a = .int i ∧ b = .int j ∧ f i j = some r := by
  cases a with
  | int i =>
    cases b with
    | int j => exact ⟨i, j, rfl, rfl, e⟩
    | _ => exact no_some e
  | _ => exact no_some e

theorem not_true {b : Bool} (e : (!b) = true) : b = false := by cases b <;> first | rfl | exact no_true e
theorem name_some {α : Type} {t : Expr} {f : Str → Pos → Option α} {r : α} (e : (match t with | .Name x p => f x p | _ => none) = some r) : ∃ x p, t = .Name x p ∧ f x p = some r := by
  cases t <;> first | exact ⟨_, _, rfl, e⟩ | exact no_some e
theorem tup_some {α : Type} {a : V} {f : List V → Option α} {r : α} (e : (match a with | .tup vs => f vs | _ => none) = some r) : ∃ vs, a = .tup vs ∧ f vs = some r := by
  cases a <;> first | exact ⟨_, rfl, e⟩ | exact no_some e

theorem list_some {α : Type} {o : Option O} {f : List V → Option α} {r : α} (e : (match o with | some (.list vs) => f vs | _ => none) = some r) : ∃ vs, o = some (.list vs) ∧ f vs = some r := by
  cases o with
  | none => exact no_some e
  | some o => cases o with
    | list vs => exact ⟨vs, rfl, e⟩
    | _ => exact no_some e
theorem inst_some {α : Type} {o : Option O} {f : List (Str × V) → Option α} {r : α} (e : (match o with | some (.inst vs) => f vs | _ => none) = some r) : ∃ vs, o = some (.inst vs) ∧ f vs = some r := by
  cases o with
  | none => exact no_some e
  | some o => cases o with
    | inst vs => exact ⟨vs, rfl, e⟩
    | _ => exact no_some e
theorem list2_some {α : Type} {o q : Option O} {f : List V → List V → Option α} {r : α} (e : (match o, q with | some (.list vs), some (.list ws) => f vs ws | _, _ => none) = some r) : ∃ vs ws, o = some (.list vs) ∧ q = some (.list ws) ∧ f vs ws = some r := by
  cases o with
  | none => exact no_some e
  | some o => cases o with
    | list vs =>
      cases q with
      | none => exact no_some e
      | some q => cases q with
        | list ws => exact ⟨vs, ws, rfl, rfl, e⟩
        | _ => exact no_some e
    | _ => exact no_some e
theorem add_some {α : Type} {a b : V} {f : Int → Int → Option α} {g : Nat → Nat → Option α} {r : α} (e : (match a, b with | .int i, .int j => f i j | .ref i, .ref j => g i j | _, _ => none) = some r) : (∃ i j, a = .int i ∧ b = .int j ∧ f i j = some r) ∨ ∃ i j, a = .ref i ∧ b = .ref j ∧ g i j = some r := by
  cases a with
  | int i =>
    cases b with
    | int j => exact .inl ⟨i, j, rfl, rfl, e⟩
    | _ => exact no_some e
  | ref i =>
    cases b with
    | ref j => exact .inr ⟨i, j, rfl, rfl, e⟩
    | _ => exact no_some e
  | _ => exact no_some e
theorem mul_some {α : Type} {a b : V} {f : Int → Int → Option α} {g : Nat → Int → Option α} {r : α} (e : (match a, b with | .int i, .int j => f i j | .ref i, .int j => g i j | _, _ => none) = some r) : (∃ i j, a = .int i ∧ b = .int j ∧ f i j = some r) ∨ ∃ i j, a = .ref i ∧ b = .int j ∧ g i j = some r := by
  cases a with
  | int i =>
    cases b with
    | int j => exact .inl ⟨i, j, rfl, rfl, e⟩
    | _ => exact no_some e
  | ref i =>
    cases b with
    | int j => exact .inr ⟨i, j, rfl, rfl, e⟩
    | _ => exact no_some e
  | _ => exact no_some e
theorem list1_some {α : Type} {o : Option O} {f : V → Option α} {r : α} (e : (match o with | some (.list [v]) => f v | _ => none) = some r) : ∃ v, o = some (.list [v]) ∧ f v = some r := by
  cases o with
  | none => exact no_some e
  | some o => cases o with
    | list vs => match vs with
      | [v] => exact ⟨v, rfl, e⟩
      | [] => exact no_some e
      | _ :: _ :: _ => exact no_some e
    | _ => exact no_some e
theorem item_some {α : Type} {o : Option O} {f : List V → Option α} {g : List (Str × V) → Option α} {r : α} (e : (match o with | some (.list vs) => f vs | some (.dict kvs) => g kvs | _ => none) = some r) : (∃ vs, o = some (.list vs) ∧ f vs = some r) ∨ ∃ kvs, o = some (.dict kvs) ∧ g kvs = some r := by
  cases o with
  | none => exact no_some e
  | some o => cases o with
    | list vs => exact .inl ⟨vs, rfl, e⟩
    | dict vs => exact .inr ⟨vs, rfl, e⟩
    | _ => exact no_some e
theorem two_some {α β γ : Type} {o : Option α} {q : Option β} {f : α → β → Option γ} {r : γ} (e : (match o, q with | some a, some b => f a b | _, _ => none) = some r) : ∃ a b, o = some a ∧ q = some b ∧ f a b = some r := by
  cases o with
  | none => exact no_some e
  | some a => cases q with
    | none => exact no_some e
    | some b => exact ⟨a, b, rfl, rfl, e⟩
theorem tupref_some {α : Type} {a : V} {f : List V → Option α} {g : Nat → Option α} {r : α} (e : (match a with | .tup vs => f vs | .ref i => g i | _ => none) = some r) : (∃ vs, a = .tup vs ∧ f vs = some r) ∨ ∃ i, a = .ref i ∧ g i = some r := by
  cases a with
  | tup vs => exact .inl ⟨vs, rfl, e⟩
  | ref i => exact .inr ⟨i, rfl, e⟩
  | _ => exact no_some e
theorem int_some {α : Type} {a : V} {f : Int → Option α} {r : α} (e : (match a with | .int i => f i | _ => none) = some r) : ∃ i, a = .int i ∧ f i = some r := by
  cases a <;> first | exact ⟨_, rfl, e⟩ | exact no_some e
theorem str_some {α : Type} {a : V} {f : Str → Option α} {r : α} (e : (match a with | .str i => f i | _ => none) = some r) : ∃ i, a = .str i ∧ f i = some r := by
  cases a <;> first | exact ⟨_, rfl, e⟩ | exact no_some e
theorem ref_some {α : Type} {a : V} {f : Nat → Option α} {r : α} (e : (match a with | .ref i => f i | _ => none) = some r) : ∃ i, a = .ref i ∧ f i = some r := by
  cases a <;> first | exact ⟨_, rfl, e⟩ | exact no_some e

noncomputable abbrev tupO (vs : List Value) (n : Nat) : Obj := { cls := .type "tuple", data := .seq vs.toArray n }
noncomputable abbrev lstO (vs : List Value) (n : Nat) : Obj := { cls := .type "list", data := .seq vs.toArray n }
abbrev Rho := List (Addr × Addr)
noncomputable def adrs (ρ : Rho) : List Addr := ρ.flatMap fun p => [p.1, p.2]

/-! ## values -/
mutual
inductive RV (H : Heap) (ρ : Rho) (h : Heap) : Value → V → Prop
  | none : RV H ρ h .none .none
  | bool (b : Bool) : RV H ρ h (.bool b) (.bool b)
  | int (i : Int) (t : Tok) : RV H ρ h (.int i t) (.int i)
  | str (x : Str) (t : Tok) : RV H ρ h (.str x t) (.str x)
  | tup {a : Addr} {vs : List Value} {n : Nat} {ds : List V} : h.get? a = some (tupO vs n) → ds.length ≤ 5000 → RVs H ρ h vs ds → RV H ρ h (.ref a) (.tup ds)
  | ref {i : Nat} {p : Addr × Addr} : ρ[i]? = some p → RV H ρ h (.ref p.1) (.ref i)
  | froz {a : Addr} {vs : List Value} {ds : List V} : H.IsList a vs.toArray → ds.length ≤ 5000 → RVs H ρ h vs ds → RV H ρ h (.ref a) (.froz ds)
inductive RVs (H : Heap) (ρ : Rho) (h : Heap) : List Value → List V → Prop
  | nil : RVs H ρ h [] []
  | cons {v : Value} {vs : List Value} {d : V} {ds : List V} : RV H ρ h v d → RVs H ρ h vs ds → RVs H ρ h (v :: vs) (d :: ds)
end
section
variable {H h h' : Heap} {ρ ρ' : Rho}
theorem RV.int_inv {v : Value} {i : Int} (r : RV H ρ h v (.int i)) : ∃ t, v = .int i t := by cases r; exact ⟨_, rfl⟩
theorem RV.str_inv {v : Value} {x : Str} (r : RV H ρ h v (.str x)) : ∃ t, v = .str x t := by cases r; exact ⟨_, rfl⟩
theorem RV.bool_inv {v : Value} {b : Bool} (r : RV H ρ h v (.bool b)) : v = .bool b := by cases r; rfl
theorem RV.none_inv {v : Value} (r : RV H ρ h v .none) : v = .none := by cases r; rfl
theorem RV.ref_inv {v : Value} {i : Nat} (r : RV H ρ h v (.ref i)) : ∃ p, ρ[i]? = some p ∧ v = .ref p.1 := by cases r with | ref e => exact ⟨_, e, rfl⟩
theorem RV.tup_inv {v : Value} {ds : List V} (r : RV H ρ h v (.tup ds)) : ∃ a us k, v = .ref a ∧ h.get? a = some (tupO us k) ∧ RVs H ρ h us ds ∧ ds.length ≤ 5000 := by cases r with | tup e l r => exact ⟨_, _, _, rfl, e, r, l⟩
theorem RVs.nil_inv {vs : List Value} (r : RVs H ρ h vs []) : vs = [] := by cases r; rfl
theorem RVs.cons_inv {vs : List Value} {d : V} {ds : List V} (r : RVs H ρ h vs (d :: ds)) : ∃ v ws, vs = v :: ws ∧ RV H ρ h v d ∧ RVs H ρ h ws ds := by cases r with | cons a r => exact ⟨_, _, rfl, a, r⟩
theorem RVs.one_inv {vs : List Value} {d : V} (r : RVs H ρ h vs [d]) : ∃ v, vs = [v] ∧ RV H ρ h v d := by
  obtain ⟨v, ws, rfl, a, r⟩ := r.cons_inv
  obtain rfl := r.nil_inv
  exact ⟨v, rfl, a⟩
theorem RVs.two_inv {vs : List Value} {d e : V} (r : RVs H ρ h vs [d, e]) : ∃ v u, vs = [v, u] ∧ RV H ρ h v d ∧ RV H ρ h u e := by
  obtain ⟨v, ws, rfl, a, r⟩ := r.cons_inv
  obtain ⟨u, rfl, b⟩ := r.one_inv
  exact ⟨v, u, rfl, a, b⟩
theorem ints_of {α : Type} {a b : Value} {x y : V} {f : Int → Int → Option α} {r : α} (e : (match x, y with | .int i, .int j => f i j | _, _ => none) = some r) (ra : RV H ρ h a x) (rb : RV H ρ h b y) : ∃ i t j u, a = .int i t ∧ b = .int j u ∧ f i j = some r := by
  obtain ⟨i, j, rfl, rfl, e⟩ := int2_some e
  obtain ⟨t, rfl⟩ := ra.int_inv
  obtain ⟨u, rfl⟩ := rb.int_inv
  exact ⟨i, t, j, u, rfl, rfl, e⟩
theorem RV.froz_inv {v : Value} {ds : List V} (r : RV H ρ h v (.froz ds)) : ∃ a vs, v = .ref a ∧ H.IsList a vs.toArray ∧ RVs H ρ h vs ds ∧ ds.length ≤ 5000 := by cases r with | froz e l r => exact ⟨_, _, rfl, e, r, l⟩
section
variable (hp : ∃ t, ρ' = ρ ++ t) (ht : ∀ a vs n, h.get? a = some (tupO vs n) → h'.get? a = some (tupO vs n))
include hp ht
mutual
theorem RV.mono_ : ∀ (d : V) {v : Value}, RV H ρ h v d → RV H ρ' h' v d
  | .none, _, r => by obtain rfl := r.none_inv; exact .none
  | .bool b, _, r => by obtain rfl := r.bool_inv; exact .bool b
  | .int i, _, r => by obtain ⟨t, rfl⟩ := r.int_inv; exact .int i t
  | .str x, _, r => by obtain ⟨t, rfl⟩ := r.str_inv; exact .str x t
  | .tup ds, _, r => by obtain ⟨a, us, k, rfl, e, r, l⟩ := r.tup_inv; exact .tup (ht _ _ _ e) l (RVs.mono_ ds r)
  | .ref i, _, r => by
    obtain ⟨p, e, rfl⟩ := r.ref_inv
    obtain ⟨t, rfl⟩ := hp
    exact .ref (by rw [List.getElem?_append_left (List.getElem?_eq_some_iff.mp e).1]; exact e)
  | .froz ds, _, r => by obtain ⟨a, us, rfl, e, r, l⟩ := r.froz_inv; exact .froz e l (RVs.mono_ ds r)
theorem RVs.mono_ : ∀ (ds : List V) {vs : List Value}, RVs H ρ h vs ds → RVs H ρ' h' vs ds
  | [], _, r => by obtain rfl := r.nil_inv; exact .nil
  | d :: ds, _, r => by obtain ⟨v, us, rfl, a, r⟩ := r.cons_inv; exact .cons (RV.mono_ d a) (RVs.mono_ ds r)
end
end
theorem RV.mono (hp : ∃ t, ρ' = ρ ++ t) (ht : ∀ a vs n, h.get? a = some (tupO vs n) → h'.get? a = some (tupO vs n)) {v : Value} {d : V} (r : RV H ρ h v d) : RV H ρ' h' v d := RV.mono_ hp ht d r
theorem RVs.mono (hp : ∃ t, ρ' = ρ ++ t) (ht : ∀ a vs n, h.get? a = some (tupO vs n) → h'.get? a = some (tupO vs n)) {vs : List Value} {ds : List V} (r : RVs H ρ h vs ds) : RVs H ρ' h' vs ds := RVs.mono_ hp ht ds r
theorem RVs.length_ : ∀ (ds : List V) {vs : List Value}, RVs H ρ h vs ds → vs.length = ds.length
  | [], _, r => by obtain rfl := r.nil_inv; rfl
  | d :: ds, _, r => by obtain ⟨v, us, rfl, _, r⟩ := r.cons_inv; exact congrArg Nat.succ (RVs.length_ ds r)
theorem RVs.length {vs : List Value} {ds : List V} (r : RVs H ρ h vs ds) : vs.length = ds.length := RVs.length_ ds r
theorem RVs.get_ : ∀ (ds : List V) {vs : List Value} {k : Nat} {d : V}, RVs H ρ h vs ds → ds[k]? = some d → ∃ v, vs[k]? = some v ∧ RV H ρ h v d
  | [], _, _, _, _, e => nomatch e
  | d :: ds, _, k, _, r, e => by
    obtain ⟨v, us, rfl, a, r⟩ := r.cons_inv
    cases k with
    | zero => obtain rfl := Option.some.inj e; exact ⟨v, rfl, a⟩
    | succ k =>
      have := RVs.get_ ds (k := k) r e
      exact this
theorem RVs.get {vs : List Value} {ds : List V} {k : Nat} {d : V} (r : RVs H ρ h vs ds) (e : ds[k]? = some d) : ∃ v, vs[k]? = some v ∧ RV H ρ h v d := RVs.get_ ds r e
theorem RVs.append_ {ws : List Value} {es : List V} (k : RVs H ρ h ws es) : ∀ (ds : List V) {vs : List Value}, RVs H ρ h vs ds → RVs H ρ h (vs ++ ws) (ds ++ es)
  | [], _, r => by
    obtain rfl := r.nil_inv
    exact k
  | d :: ds, _, r => by
    obtain ⟨v, us, rfl, a, r⟩ := r.cons_inv
    exact .cons a (RVs.append_ k ds r)
theorem RVs.append {vs ws : List Value} {ds es : List V} (r : RVs H ρ h vs ds) (k : RVs H ρ h ws es) : RVs H ρ h (vs ++ ws) (ds ++ es) := RVs.append_ k ds r
theorem RVs.take : ∀ (n : Nat) {vs : List Value} {ds : List V}, RVs H ρ h vs ds → RVs H ρ h (vs.take n) (ds.take n)
  | 0, _, _, _ => by simpa using .nil
  | n + 1, _, _, .nil => by simpa using .nil
  | n + 1, _, _, .cons a r => by simpa using .cons a (RVs.take n r)
theorem RVs.drop : ∀ (n : Nat) {vs : List Value} {ds : List V}, RVs H ρ h vs ds → RVs H ρ h (vs.drop n) (ds.drop n)
  | 0, _, _, r => by simpa using r
  | n + 1, _, _, .nil => by simpa using .nil
  | n + 1, _, _, .cons a r => by simpa using RVs.drop n r
theorem RVs.set {v : Value} {d : V} (hv : RV H ρ h v d) : ∀ (n : Nat) {vs : List Value} {ds : List V}, RVs H ρ h vs ds → RVs H ρ h (vs.set n v) (ds.set n d)
  | _, _, _, .nil => by simpa using .nil
  | 0, _, _, .cons a r => by simpa using .cons hv r
  | n + 1, _, _, .cons a r => by simpa using .cons a (RVs.set hv n r)
theorem RVs.replicate {v : Value} {d : V} (hv : RV H ρ h v d) : ∀ (n : Nat), RVs H ρ h (List.replicate n v) (List.replicate n d)
  | 0 => .nil
  | n + 1 => .cons hv (RVs.replicate hv n)
theorem RVs.one {v : Value} {d : V} (hv : RV H ρ h v d) : RVs H ρ h [v] [d] := .cons hv .nil
end

/-! ## maps by name -/
/-- a map from names and a list by names say the same -/
noncomputable def RM (H : Heap) (ρ : Rho) (h : Heap) (m : Str → Option Value) (kvs : List (Str × V)) : Prop :=
  ∀ x, match kvs.lookup x with
    | some d => ∃ v, m x = some v ∧ RV H ρ h v d
    | none => m x = none
section
variable {H h h' : Heap} {ρ ρ' : Rho}
theorem RM.mono (hp : ∃ t, ρ' = ρ ++ t) (ht : ∀ a vs n, h.get? a = some (tupO vs n) → h'.get? a = some (tupO vs n)) {m : Str → Option Value} {kvs : List (Str × V)} (r : RM H ρ h m kvs) : RM H ρ' h' m kvs := by
  intro x
  have := r x
  revert this
  cases kvs.lookup x with
  | none => exact id
  | some d => rintro ⟨v, e, q⟩; exact ⟨v, e, q.mono hp ht⟩
theorem setL_lookup (x y : Str) (v : V) : ∀ l : Loc, (setL x v l).lookup y = if y = x then some v else l.lookup y
  | [] => by
    unfold setL
    rw [List.lookup_cons]
    by_cases e : y = x
    · subst e; simp
    · simp [e, beq_eq_false_iff_ne.mpr e]
  | (z, u) :: r => by
    have ih := setL_lookup x y v r
    unfold setL
    by_cases exz : x = z
    · subst exz
      rw [if_pos rfl, List.lookup_cons, List.lookup_cons]
      by_cases e : y = x
      · subst e; simp
      · simp [e, beq_eq_false_iff_ne.mpr e]
    · rw [if_neg exz, List.lookup_cons, List.lookup_cons, ih]
      by_cases e : y = z
      · subst e; simp [Ne.symm exz]
      · simp [beq_eq_false_iff_ne.mpr e]
theorem RM.set {m : Str → Option Value} {kvs : List (Str × V)} (r : RM H ρ h m kvs) {x : Str} {v : Value} {d : V} (hv : RV H ρ h v d) : RM H ρ h (fun y => if y = x then some v else m y) (setL x d kvs) := by
  intro y
  rw [setL_lookup]
  by_cases e : y = x
  · simp only [e, if_true]; exact ⟨v, rfl, hv⟩
  · simp only [e, if_false]; exact r y
theorem RM.get {m : Str → Option Value} {kvs : List (Str × V)} (r : RM H ρ h m kvs) {x : Str} {d : V} (e : kvs.lookup x = some d) : ∃ v, m x = some v ∧ RV H ρ h v d := by
  have := r x; rw [e] at this; exact this
theorem RM.zip : ∀ (ps : List Str) (vs : List Value) (ds : List V), RVs H ρ h vs ds → RM H ρ h (fun x => (ps.zip vs).lookup x) (ps.zip ds)
  | [], _, _, _ => fun x => by simp
  | _ :: _, _, _, .nil => fun x => by simp
  | p :: ps, _, _, .cons (v := v) (d := d) a r => by
    intro x
    have ih := RM.zip ps _ _ r x
    simp only [List.zip_cons_cons, List.lookup_cons]
    cases e : (x == p) with
    | true => exact ⟨v, rfl, a⟩
    | false => simpa using ih
end

/-! ## objects -/
inductive KeysAre : List DictEntry → List (Str × V) → Prop
  | nil : KeysAre [] []
  | cons {e : DictEntry} {es : List DictEntry} {x : Str} {d : V} {kvs : List (Str × V)} : (∃ t, e.key = .str x t) → KeysAre es kvs → KeysAre (e :: es) ((x, d) :: kvs)

noncomputable def RO (prog : Program) (w : World) (C : Addr) (H : Heap) (ρ : Rho) (h : Heap) (p : Addr × Addr) : O → Prop
  | .list ds => p.2 = p.1 ∧ ds.length ≤ 5000 ∧ ∃ vs n, h.get? p.1 = some (lstO vs n) ∧ RVs H ρ h vs ds
  | .dict kvs => p.2 = p.1 ∧ kvs.length ≤ 100 ∧ ∃ us : List (Str × Value), h.DictOf (strKind prog w) p.1 us ∧ us.map (·.1) = kvs.map (·.1) ∧ RVs H ρ h (us.map (·.2)) (kvs.map (·.2))
  | .inst kvs => p.2 ≠ p.1 ∧ h.get? p.1 = some (instObj C p.2) ∧ ∃ es n, h.get? p.2 = some (dictOf es n) ∧ KeysAre es kvs ∧ RVs H ρ h (es.map (·.val)) (kvs.map (·.2))

structure Rel (prog : Program) (w : World) (C : Addr) (H : Heap) (st : St) (ρ : Rho) (h : Heap) : Prop where
  len : ρ.length = st.length
  disj : ρ.Pairwise fun p q => p.1 ≠ q.1 ∧ p.1 ≠ q.2 ∧ p.2 ≠ q.1 ∧ p.2 ≠ q.2
  obj : ∀ (i : Nat) (p : Addr × Addr) (o : O), ρ[i]? = some p → st[i]? = some o → RO prog w C H ρ h p o
  base : ∀ a o, H.get? a = some o → h.get? a = some o
  above : ∀ a ∈ adrs ρ, H.get? a = none

/-- what a stretch of the run does to the heap: it turns what the state names, and the rows X, and lays new things -/
structure Step (X : List Addr) (ρ : Rho) (h : Heap) (ρ' : Rho) (h' : Heap) : Prop where
  pre : ∃ t, ρ' = ρ ++ t
  fresh : ∀ a ∈ adrs ρ', a ∈ adrs ρ ∨ h.get? a = none
  live : ∀ a o, h.get? a = some o → ∃ o', h'.get? a = some o'
  keep : ∀ a o, h.get? a = some o → a ∉ adrs ρ → a ∉ X → h'.get? a = some o
  tup : ∀ a vs n, h.get? a = some (tupO vs n) → h'.get? a = some (tupO vs n)

theorem mem_adrs {ρ : Rho} {a : Addr} : a ∈ adrs ρ ↔ ∃ p ∈ ρ, a = p.1 ∨ a = p.2 := by
  unfold adrs
  rw [List.mem_flatMap]
  constructor
  · rintro ⟨p, hp, h⟩; exact ⟨p, hp, by simpa using h⟩
  · rintro ⟨p, hp, h⟩; exact ⟨p, hp, by simpa using h⟩
theorem adrs_append (ρ σ : Rho) : adrs (ρ ++ σ) = adrs ρ ++ adrs σ := by unfold adrs; rw [List.flatMap_append]

section
variable {X : List Addr} {ρ ρ' ρ₁ ρ₂ : Rho} {h h' h₁ h₂ : Heap}
theorem Step.refl : Step X ρ h ρ h := ⟨⟨[], by simp⟩, fun _ => .inl, fun _ o e => ⟨o, e⟩, fun _ _ e _ _ => e, fun _ _ _ e => e⟩
theorem Step.trans (a : Step X ρ h ρ₁ h₁) (b : Step X ρ₁ h₁ ρ₂ h₂) : Step X ρ h ρ₂ h₂ := by
  refine ⟨?_, fun x hx => ?_, fun x o e => ?_, fun x o e n1 n2 => ?_, fun x vs n e => b.tup _ _ _ (a.tup _ _ _ e)⟩
  · obtain ⟨t, rfl⟩ := a.pre; obtain ⟨u, rfl⟩ := b.pre; exact ⟨t ++ u, by simp⟩
  · rcases b.fresh x hx with q | q
    · exact a.fresh x q
    · right
      cases e : h.get? x with
      | none => rfl
      | some o => obtain ⟨o', e'⟩ := a.live x o e; rw [q] at e'; cases e'
  · obtain ⟨o', e'⟩ := a.live x o e; exact b.live x o' e'
  · have q := a.keep x o e n1 n2
    refine b.keep x o q (fun m => ?_) n2
    rcases a.fresh x m with z | z
    · exact n1 z
    · rw [e] at z; cases z
theorem Step.weak {Y : List Addr} (a : Step X ρ h ρ' h') (hs : ∀ x ∈ X, x ∈ Y) : Step Y ρ h ρ' h' :=
  ⟨a.pre, a.fresh, a.live, fun x o e n1 n2 => a.keep x o e n1 fun m => n2 (hs x m), a.tup⟩
theorem Step.nil (a : Step [] ρ h ρ' h') : Step X ρ h ρ' h' := a.weak fun _ m => nomatch m
/-- a row that was new at the start may be forgotten -/
theorem Step.drop {L : Addr} (a : Step (L :: X) ρ h ρ' h') (hL : h.get? L = none) : Step X ρ h ρ' h' :=
  ⟨a.pre, a.fresh, a.live, fun x o e n1 n2 => a.keep x o e n1 fun m => by
    rcases List.mem_cons.mp m with rfl | m
    · rw [hL] at e; cases e
    · exact n2 m, a.tup⟩
theorem Step.of_ext (hk : ∀ a o, h.get? a = some o → h'.get? a = some o) : Step X ρ h ρ h' :=
  ⟨⟨[], by simp⟩, fun _ => .inl, fun a o e => ⟨o, hk a o e⟩, fun a o e _ _ => hk a o e, fun a _ _ e => hk a _ e⟩
/-- a row of X or a thing of the state's is turned, and is no tuple -/
theorem Step.of_same {a : Addr} {o o' : Obj} (hs : Heap.SameBut a h h') (ha : a ∈ adrs ρ ∨ a ∈ X) (ho : h.get? a = some o) (hn : ∀ vs n, o ≠ tupO vs n) (ho' : h'.get? a = some o') : Step X ρ h ρ h' := by
  refine ⟨⟨[], by simp⟩, fun _ => .inl, fun b o e => ?_, fun b o e n1 n2 => ?_, fun b vs n e => ?_⟩
  · by_cases q : b = a
    · subst q; exact ⟨_, ho'⟩
    · exact ⟨o, (hs.2 b q).trans e⟩
  · have q : b ≠ a := by rintro rfl; exact ha.elim n1 n2
    exact (hs.2 b q).trans e
  · have q : b ≠ a := by rintro rfl; rw [ho] at e; exact hn vs n (Option.some.inj e)
    exact (hs.2 b q).trans e
end

section
variable {prog : Program} {w : World} {C : Addr} {H : Heap} {st : St} {ρ ρ' : Rho} {h h' : Heap} {X : List Addr}
theorem RO.there {p : Addr × Addr} {o : O} (r : RO prog w C H ρ h p o) : (∃ x, h.get? p.1 = some x ∧ ∀ vs n, x ≠ tupO vs n) ∧ ∃ x, h.get? p.2 = some x ∧ ∀ vs n, x ≠ tupO vs n := by
  cases o with
  | list ds =>
    obtain ⟨e, _, vs, n, q, _⟩ := r
    rw [e]
    have : ∀ ws k, lstO vs n ≠ tupO ws k := fun ws k z => by have := congrArg Obj.cls z; simp at this
    exact ⟨⟨_, q, this⟩, ⟨_, q, this⟩⟩
  | dict kvs =>
    obtain ⟨e, _, us, ⟨o, es, ep, ho, _, hd, _⟩, _⟩ := r
    rw [e]
    have : ∀ ws k, o ≠ tupO ws k := fun ws k z => by rw [z] at hd; cases hd
    exact ⟨⟨_, ho, this⟩, ⟨_, ho, this⟩⟩
  | inst kvs =>
    obtain ⟨_, q, es, n, q', _⟩ := r
    refine ⟨⟨_, q, fun ws k z => ?_⟩, ⟨_, q', fun ws k z => ?_⟩⟩
    · have := congrArg Obj.cls z; simp at this
    · have := congrArg Obj.cls z; simp at this
theorem Rel.at (R : Rel prog w C H st ρ h) {i : Nat} {o : O} (e : st[i]? = some o) : ∃ p, ρ[i]? = some p ∧ RO prog w C H ρ h p o := by
  have hi := (List.getElem?_eq_some_iff.mp e).1
  have hp : ρ[i]? = some (ρ[i]'(by rw [R.len]; exact hi)) := List.getElem?_eq_getElem _
  exact ⟨_, hp, R.obj i _ o hp e⟩
theorem Rel.listAt (R : Rel prog w C H st ρ h) {v : Value} {i : Nat} {ds : List V} (r : RV H ρ h v (.ref i)) (e : st[i]? = some (.list ds)) : ∃ a vs n, v = .ref a ∧ h.get? a = some (lstO vs n) ∧ RVs H ρ h vs ds ∧ ds.length ≤ 5000 := by
  obtain ⟨p, hp, rfl⟩ := r.ref_inv
  obtain ⟨q, hq, _, hl, vs, n, ho, rr⟩ := R.at e
  obtain rfl := Option.some.inj (hq.symm.trans hp)
  exact ⟨_, vs, n, rfl, ho, rr, hl⟩
theorem Rel.dictAt (R : Rel prog w C H st ρ h) {v : Value} {i : Nat} {kvs : List (Str × V)} (r : RV H ρ h v (.ref i)) (e : st[i]? = some (.dict kvs)) : ∃ a us, v = .ref a ∧ h.DictOf (strKind prog w) a us ∧ us.map (·.1) = kvs.map (·.1) ∧ RVs H ρ h (us.map (·.2)) (kvs.map (·.2)) := by
  obtain ⟨p, hp, rfl⟩ := r.ref_inv
  obtain ⟨q, hq, _, _, us, hd, hk, rr⟩ := R.at e
  obtain rfl := Option.some.inj (hq.symm.trans hp)
  exact ⟨_, us, rfl, hd, hk, rr⟩
theorem Rel.alive (R : Rel prog w C H st ρ h) {a : Addr} (ha : a ∈ adrs ρ) : ∃ x, h.get? a = some x ∧ ∀ vs n, x ≠ tupO vs n := by
  obtain ⟨p, hp, q⟩ := mem_adrs.mp ha
  obtain ⟨i, hi⟩ := List.getElem?_of_mem hp
  have hl := (List.getElem?_eq_some_iff.mp hi).1
  have ho : st[i]? = some (st[i]'(by rw [← R.len]; exact hl)) := List.getElem?_eq_getElem _
  have r := (R.obj i p _ hi ho).there
  rcases q with rfl | rfl
  · exact r.1
  · exact r.2
theorem mem_adrs_of {i : Nat} {p : Addr × Addr} (e : ρ[i]? = some p) : p.1 ∈ adrs ρ ∧ p.2 ∈ adrs ρ :=
  ⟨mem_adrs.mpr ⟨p, List.mem_of_getElem? e, .inl rfl⟩, mem_adrs.mpr ⟨p, List.mem_of_getElem? e, .inr rfl⟩⟩
/-- two places of the state are apart -/
theorem Rel.apart (R : Rel prog w C H st ρ h) {i j : Nat} {p q : Addr × Addr} (ei : ρ[i]? = some p) (ej : ρ[j]? = some q) (hij : i ≠ j) : p.1 ≠ q.1 ∧ p.1 ≠ q.2 ∧ p.2 ≠ q.1 ∧ p.2 ≠ q.2 := by
  obtain ⟨hi, rfl⟩ := List.getElem?_eq_some_iff.mp ei
  obtain ⟨hj, rfl⟩ := List.getElem?_eq_some_iff.mp ej
  have D := List.pairwise_iff_getElem.mp R.disj
  rcases Nat.lt_or_gt_of_ne hij with l | l
  · exact D i j hi hj l
  · obtain ⟨a, b, c, d⟩ := D j i hj hi l; exact ⟨a.symm, c.symm, b.symm, d.symm⟩
theorem RO.mono {p : Addr × Addr} {o : O} (r : RO prog w C H ρ h p o) (hp : ∃ t, ρ' = ρ ++ t) (ht : ∀ a vs n, h.get? a = some (tupO vs n) → h'.get? a = some (tupO vs n))
    (k1 : ∀ x, h.get? p.1 = some x → h'.get? p.1 = some x) (k2 : ∀ x, h.get? p.2 = some x → h'.get? p.2 = some x) : RO prog w C H ρ' h' p o := by
  cases o with
  | list ds => obtain ⟨e, l, vs, n, q, r⟩ := r; exact ⟨e, l, vs, n, k1 _ q, r.mono hp ht⟩
  | dict kvs => obtain ⟨e, l, us, ⟨o, es, ep, ho, z⟩, e2, r⟩ := r; exact ⟨e, l, us, ⟨o, es, ep, k1 _ ho, z⟩, e2, r.mono hp ht⟩
  | inst kvs => obtain ⟨e, q, es, n, q', z, r⟩ := r; exact ⟨e, k1 _ q, es, n, k2 _ q', z, r.mono hp ht⟩
/-- nothing of the state is turned -/
theorem Rel.ext (R : Rel prog w C H st ρ h) (S : Step X ρ h ρ h') (hk : ∀ a ∈ adrs ρ, ∀ o, h.get? a = some o → h'.get? a = some o) (hX : ∀ a ∈ X, H.get? a = none) : Rel prog w C H st ρ h' := by
  refine ⟨R.len, R.disj, fun i p o hp ho => ?_, fun a o e => ?_, R.above⟩
  · exact (R.obj i p o hp ho).mono ⟨[], by simp⟩ S.tup (hk _ (mem_adrs_of hp).1) (hk _ (mem_adrs_of hp).2)
  · refine S.keep a o (R.base a o e) (fun m => ?_) fun m => ?_
    · rw [R.above a m] at e; cases e
    · rw [hX a m] at e; cases e
theorem Rel.keeps (R : Rel prog w C H st ρ h) (hk : ∀ a o, h.get? a = some o → h'.get? a = some o) : Rel prog w C H st ρ h' :=
  R.ext (X := []) (Step.of_ext hk) (fun a _ o e => hk a o e) fun _ m => nomatch m
/-- a row that is none of the state's is turned -/
theorem Rel.sameBut (R : Rel prog w C H st ρ h) {a : Addr} (hs : Heap.SameBut a h h') (ha : a ∉ adrs ρ) (hH : H.get? a = none) (hn : ∀ vs n, h.get? a ≠ some (tupO vs n)) : Rel prog w C H st ρ h' := by
  refine ⟨R.len, R.disj, fun i p o hp ho => ?_, fun b o e => ?_, R.above⟩
  · refine (R.obj i p o hp ho).mono ⟨[], by simp⟩ (fun b vs n e => ?_) (fun x e => ?_) fun x e => ?_
    · have q : b ≠ a := by rintro rfl; exact hn vs n e
      exact (hs.2 b q).trans e
    · have q : p.1 ≠ a := by rintro rfl; exact ha (mem_adrs_of hp).1
      exact (hs.2 _ q).trans e
    · have q : p.2 ≠ a := by rintro rfl; exact ha (mem_adrs_of hp).2
      exact (hs.2 _ q).trans e
  · have q : b ≠ a := by rintro rfl; rw [hH] at e; cases e
    exact (hs.2 b q).trans (R.base b o e)
/-- one thing of the state is turned -/
theorem Rel.upd (R : Rel prog w C H st ρ h) {i : Nat} {p : Addr × Addr} {a : Addr} {o : O} (hp : ρ[i]? = some p) (ha : a = p.1 ∨ a = p.2) (hs : Heap.SameBut a h h') (hr : RO prog w C H ρ h' p o) : Rel prog w C H (setO st i o) ρ h' := by
  have ham : a ∈ adrs ρ := by rcases ha with rfl | rfl; exact (mem_adrs_of hp).1; exact (mem_adrs_of hp).2
  refine ⟨by rw [R.len]; simp [setO], R.disj, fun j q o' hq ho => ?_, fun b o e => ?_, R.above⟩
  · by_cases hij : i = j
    · subst hij
      rw [hp] at hq; cases hq
      have hl := (List.getElem?_eq_some_iff.mp hp).1
      have e : (setO st i o)[i]? = some o := by unfold setO; rw [List.getElem?_set_self (by rw [← R.len]; exact hl)]
      rw [e] at ho; cases ho; exact hr
    · have e : (setO st i o)[j]? = st[j]? := by unfold setO; exact List.getElem?_set_ne hij
      rw [e] at ho
      obtain ⟨n1, n2, n3, n4⟩ := R.apart hp hq hij
      refine (R.obj j q o' hq ho).mono ⟨[], by simp⟩ (fun b vs n e => ?_) (fun x e => ?_) fun x e => ?_
      · have z : b ≠ a := by
          rintro rfl
          obtain ⟨x, hx, hn⟩ := R.alive ham
          rw [hx] at e; exact hn vs n (Option.some.inj e)
        exact (hs.2 b z).trans e
      · have z : q.1 ≠ a := by rcases ha with rfl | rfl; exact n1.symm; exact n3.symm
        exact (hs.2 _ z).trans e
      · have z : q.2 ≠ a := by rcases ha with rfl | rfl; exact n2.symm; exact n4.symm
        exact (hs.2 _ z).trans e
  · have z : b ≠ a := by rintro rfl; rw [R.above b ham] at e; cases e
    exact (hs.2 b z).trans (R.base b o e)
/-- a new thing joins the state -/
theorem Rel.new (R : Rel prog w C H st ρ h) {p : Addr × Addr} {o : O} (hk : ∀ a o, h.get? a = some o → h'.get? a = some o) (h1 : h.get? p.1 = none) (h2 : h.get? p.2 = none) (hr : RO prog w C H (ρ ++ [p]) h' p o) :
    Rel prog w C H (st ++ [o]) (ρ ++ [p]) h' ∧ Step X ρ h (ρ ++ [p]) h' := by
  have fr : ∀ a ∈ adrs ρ, a ≠ p.1 ∧ a ≠ p.2 := fun a m => by
    obtain ⟨x, hx, _⟩ := R.alive m
    constructor
    · rintro rfl; rw [h1] at hx; cases hx
    · rintro rfl; rw [h2] at hx; cases hx
  constructor
  · refine ⟨by simp [R.len], ?_, fun i q o' hq ho => ?_, fun a o e => hk _ _ (R.base a o e), fun a m => ?_⟩
    · refine List.pairwise_append.mpr ⟨R.disj, List.pairwise_singleton _ _, fun q hq r hr => ?_⟩
      rw [List.mem_singleton.mp hr]
      have q1 := fr q.1 (mem_adrs.mpr ⟨q, hq, .inl rfl⟩)
      have q2 := fr q.2 (mem_adrs.mpr ⟨q, hq, .inr rfl⟩)
      exact ⟨q1.1, q1.2, q2.1, q2.2⟩
    · rcases Nat.lt_trichotomy i ρ.length with l | l | l
      · rw [List.getElem?_append_left l] at hq
        rw [List.getElem?_append_left (by rw [← R.len]; exact l)] at ho
        exact (R.obj i q o' hq ho).mono ⟨_, rfl⟩ (fun a vs n e => hk _ _ e) (fun x e => hk _ _ e) fun x e => hk _ _ e
      · subst l
        rw [R.len] at ho
        simp only [List.getElem?_concat_length, Option.some.injEq] at hq ho
        subst hq ho
        exact hr
      · have : (ρ ++ [p])[i]? = none := List.getElem?_eq_none (by simp; omega)
        rw [this] at hq; cases hq
    · rw [adrs_append] at m
      rcases List.mem_append.mp m with m | m
      · exact R.above a m
      · have : a = p.1 ∨ a = p.2 := by simpa [adrs] using m
        cases e : H.get? a with
        | none => rfl
        | some o =>
          have := R.base a o e
          rename_i q
          rcases q with rfl | rfl
          · rw [h1] at this; cases this
          · rw [h2] at this; cases this
  · refine ⟨⟨_, rfl⟩, fun a m => ?_, fun a o e => ⟨o, hk a o e⟩, fun a o e _ _ => hk a o e, fun a vs n e => hk _ _ e⟩
    rw [adrs_append] at m
    rcases List.mem_append.mp m with m | m
    · exact .inl m
    · right
      have : a = p.1 ∨ a = p.2 := by simpa [adrs] using m
      rcases this with rfl | rfl
      · exact h1
      · exact h2
end
end Mine

set_option autoImplicit false
set_option linter.unusedVariables false
set_option maxRecDepth 100000
namespace Mine
open PySem PySem.W PyProof.Rows PySem.Calls

noncomputable def Room (n : Nat) (A : Around) : Prop := A.handled = none ∧ A.depth + 3 * n + 1 < 900 ∧ A.units + 20 * n + 100 < 9900
theorem Room.units {n : Nat} {A : Around} (r : Room n A) : A.units + 64 < cLine := by have := r.2.2; rw [cLine_is]; omega

section
variable {prog : Program} {w : World} {C : Addr} {H : Heap} {st st' : St} {ρ ρ' : Rho} {A : Around} {s : Shared} {E : Value → Shared → Prop}

/-! ## equality -/
theorem reads_tup {h : Heap} {n : Nat} {v : Value} {ds : List V} {ps : List PyData} (r : RV H ρ h v (.tup ds)) (f : ∀ us, RVs H ρ h us ds → (∃ as, ReadsAll h us ps as) ∧ PyData.canLayAll0 ps = true ∧ PyData.depthAll ps ≤ n) :
    (∃ as, Reads h v (.tuple ps) as) ∧ (PyData.tuple ps).canLay0 = true ∧ (PyData.tuple ps).depth ≤ n + 1 := by
  obtain ⟨a, us, k, rfl, ha, rs, _⟩ := r.tup_inv
  obtain ⟨⟨as, q⟩, l, z⟩ := f us rs
  exact ⟨⟨_, .tuple ha rfl rfl q⟩, l, Nat.succ_le_succ z⟩
theorem reads_cons {h : Heap} {n : Nat} {vs : List Value} {d : V} {ds : List V} {p : PyData} {ps : List PyData} (r : RVs H ρ h vs (d :: ds)) (f : ∀ v, RV H ρ h v d → (∃ as, Reads h v p as) ∧ p.canLay0 = true ∧ p.depth ≤ n)
    (g : ∀ us, RVs H ρ h us ds → (∃ as, ReadsAll h us ps as) ∧ PyData.canLayAll0 ps = true ∧ PyData.depthAll ps ≤ n) : (∃ as, ReadsAll h vs (p :: ps) as) ∧ PyData.canLayAll0 (p :: ps) = true ∧ PyData.depthAll (p :: ps) ≤ n := by
  obtain ⟨v, us, rfl, a, rs⟩ := r.cons_inv
  obtain ⟨⟨as, q⟩, l, z⟩ := f v a
  obtain ⟨⟨bs, q'⟩, l', z'⟩ := g us rs
  exact ⟨⟨_, .cons q q'⟩, Bool.and_eq_true_iff.mpr ⟨l, l'⟩, Nat.max_le.mpr ⟨z, z'⟩⟩
mutual
theorem toPy_reads {h : Heap} : ∀ (d : V) (n : Nat) {v : Value} {p : PyData}, toPy st n d = some p → RV H ρ h v d → (∃ as, Reads h v p as) ∧ p.canLay0 = true ∧ p.depth ≤ n
  | .none, n, _, _, e, r => by
    obtain rfl := r.none_inv
    obtain rfl := Option.some.inj e
    exact ⟨⟨_, .none⟩, rfl, Nat.zero_le _⟩
  | .bool b, n, _, _, e, r => by
    obtain rfl := r.bool_inv
    obtain rfl := Option.some.inj e
    exact ⟨⟨_, .bool b⟩, rfl, Nat.zero_le _⟩
  | .int i, n, _, _, e, r => by
    obtain ⟨t, rfl⟩ := r.int_inv
    obtain rfl := Option.some.inj e
    exact ⟨⟨_, .int i t⟩, rfl, Nat.zero_le _⟩
  | .str x, n, _, _, e, r => by
    obtain ⟨t, rfl⟩ := r.str_inv
    obtain ⟨hx, e⟩ := guard_some e
    obtain rfl := Option.some.inj e
    exact ⟨⟨_, .str x t⟩, hx, Nat.zero_le _⟩
  | .tup ds, 0, _, _, e, r => no_some e
  | .tup ds, n + 1, _, _, e, r => by
    obtain ⟨ps, e1, rfl⟩ := Option.map_eq_some_iff.mp e
    exact reads_tup r fun us rs => toPys_reads ds n e1 rs
  | .ref _, n, _, _, e, _ => no_some e
  | .froz _, n, _, _, e, _ => no_some e
theorem toPys_reads {h : Heap} : ∀ (ds : List V) (n : Nat) {vs : List Value} {ps : List PyData}, toPys st n ds = some ps → RVs H ρ h vs ds → (∃ as, ReadsAll h vs ps as) ∧ PyData.canLayAll0 ps = true ∧ PyData.depthAll ps ≤ n
  | [], n, _, _, e, r => by
    obtain rfl := r.nil_inv
    obtain rfl := Option.some.inj e
    exact ⟨⟨_, .nil⟩, rfl, Nat.zero_le _⟩
  | d :: ds, n, _, _, e, r => by
    obtain ⟨p, ps, e1, e2, e⟩ := two_some (o := toPy st n d) (q := toPys st n ds) (f := fun p ps => some (p :: ps)) (Eq.trans (by kernel_rfl) e)
    obtain rfl := Option.some.inj e
    exact reads_cons r (fun v a => toPy_reads d n e1 a) fun us rs => toPys_reads ds n e2 rs
end
theorem toPy1_reads {h : Heap} (R : Rel prog w C H st ρ h) {n : Nat} {v : Value} {d : V} {p : PyData} (e : toPy1 st n d = some p) (r : RV H ρ h v d) : (∃ as, Reads h v p as) ∧ p.canLay0 = true ∧ p.depth ≤ n + 1 := by
  have plain : toPy st n d = some p → (∃ as, Reads h v p as) ∧ p.canLay0 = true ∧ p.depth ≤ n + 1 := fun e => by
    obtain ⟨a, b, c⟩ := toPy_reads d n e r
    exact ⟨a, b, Nat.le_succ_of_le c⟩
  cases d with
  | ref a =>
    obtain ⟨ds, hl, e⟩ := list_some e
    obtain ⟨ps, e1, rfl⟩ := Option.map_eq_some_iff.mp e
    obtain ⟨a, vs, k, rfl, ho, rr, _⟩ := R.listAt r hl
    obtain ⟨⟨as, q⟩, l, z⟩ := toPys_reads ds n e1 rr
    exact ⟨⟨_, .list ho rfl rfl q⟩, l, Nat.succ_le_succ z⟩
  | _ => exact plain e
theorem toPys1_reads {h : Heap} (R : Rel prog w C H st ρ h) {n : Nat} : ∀ (ds : List V) {vs : List Value} {ps : List PyData}, toPys1 st n ds = some ps → RVs H ρ h vs ds → (∃ as, ReadsAll h vs ps as) ∧ PyData.canLayAll0 ps = true ∧ PyData.depthAll ps ≤ n + 1
  | [], _, _, e, r => by
    obtain rfl := r.nil_inv
    obtain rfl := Option.some.inj e
    exact ⟨⟨_, .nil⟩, rfl, Nat.zero_le _⟩
  | d :: ds, _, _, e, r => by
    obtain ⟨p, ps, e1, e2, e⟩ := two_some (o := toPy1 st n d) (q := toPys1 st n ds) (f := fun p ps => some (p :: ps)) (Eq.trans (by kernel_rfl) e)
    obtain rfl := Option.some.inj e
    exact reads_cons r (fun v a => toPy1_reads R e1 a) fun us rs => toPys1_reads R ds e2 rs
theorem toPy2_reads {h : Heap} (R : Rel prog w C H st ρ h) {n : Nat} {v : Value} {d : V} {p : PyData} (e : toPy2 st n d = some p) (r : RV H ρ h v d) : (∃ as, Reads h v p as) ∧ p.canLay0 = true ∧ p.depth ≤ n + 2 := by
  have plain : toPy1 st n d = some p → (∃ as, Reads h v p as) ∧ p.canLay0 = true ∧ p.depth ≤ n + 2 := fun e => by
    obtain ⟨a, b, c⟩ := toPy1_reads R e r
    exact ⟨a, b, Nat.le_succ_of_le c⟩
  cases d with
  | tup ds =>
    obtain ⟨ps, e1, rfl⟩ := Option.map_eq_some_iff.mp e
    exact reads_tup r fun us rs => toPys1_reads R ds e1 rs
  | _ => exact plain e

theorem shaped_of {d : PyData} (h1 : d.canLay0 = true) (h2 : d.depth ≤ 6) : SeqAt.shaped d = true := by
  unfold SeqAt.shaped; rw [h1, Bool.true_and]; exact decide_eq_true (by omega)
theorem eqs_ok (R : Rel prog w C H st ρ s.heap) {a b : Value} {x y : V} {c : Bool} (e : eqV st x y = some c) (ra : RV H ρ s.heap a x) (rb : RV H ρ s.heap b y) : ∃ da db as bs, Reads s.heap a da as ∧ Reads s.heap b db bs ∧ SeqAt.shaped da = true ∧ SeqAt.shaped db = true ∧ PyData.eqv da db = c := by
  obtain ⟨p, q, e1, e2, e⟩ := two_some (o := toPy2 st 4 x) (q := toPy2 st 4 y) (f := fun p q => some (PyData.eqv p q)) (Eq.trans (by kernel_rfl) e)
  obtain ⟨⟨as, r1⟩, l1, z1⟩ := toPy2_reads R e1 ra
  obtain ⟨⟨bs, r2⟩, l2, z2⟩ := toPy2_reads R e2 rb
  exact ⟨p, q, as, bs, r1, r2, shaped_of l1 z1, shaped_of l2 z2, Option.some.inj e⟩
theorem is_some {x y : V} {r : Bool} (e : (match x, y with | .none, .none => some true | .int _, .none => some false | _, _ => none) = some r) : (x = .none ∧ y = .none ∧ true = r) ∨ ∃ i, x = .int i ∧ y = .none ∧ false = r := by
  cases x with
  | none => cases y with
    | none => exact .inl ⟨rfl, rfl, Option.some.inj e⟩
    | _ => exact no_some e
  | int i => cases y with
    | none => exact .inr ⟨i, rfl, rfl, Option.some.inj e⟩
    | _ => exact no_some e
  | _ => exact no_some e
theorem cmp_ok {n : Nat} (hR : Room n A) (R : Rel prog w C H st ρ s.heap) {op : CmpOp} {a b : Value} {x y : V} {c : Bool} (e : cmpV op x y st = some c) (ra : RV H ρ s.heap a x) (rb : RV H ρ s.heap b y) {Q : Value → Shared → Prop}
    (h : Q (.bool c) s) : wpAny (model prog w) A (compareOp op a b) Q E s := by
  cases op with
  | Eq =>
    obtain ⟨da, db, as, bs, r1, r2, s1, s2, e⟩ := eqs_ok R (c := c) e ra rb
    exact eq_dataH r1 r2 s1 s2 hR.units (by rw [e]; exact h)
  | NotEq =>
    obtain ⟨c', e', e2⟩ := Option.map_eq_some_iff.mp e
    obtain ⟨da, db, as, bs, r1, r2, s1, s2, e⟩ := eqs_ok R e' ra rb
    exact ne_dataH r1 r2 s1 s2 hR.units (by rw [e, e2]; exact h)
  | Lt =>
    obtain ⟨i, t, j, u, rfl, rfl, e⟩ := ints_of e ra rb
    exact P.lt_int (Option.some.inj e ▸ h)
  | LtE =>
    obtain ⟨i, t, j, u, rfl, rfl, e⟩ := ints_of e ra rb
    exact P.le_int (Option.some.inj e ▸ h)
  | Gt =>
    obtain ⟨i, t, j, u, rfl, rfl, e⟩ := ints_of e ra rb
    exact P.gt_int (Option.some.inj e ▸ h)
  | GtE =>
    obtain ⟨i, t, j, u, rfl, rfl, e⟩ := ints_of e ra rb
    exact P.ge_int (Option.some.inj e ▸ h)
  | Is =>
    rcases is_some e with ⟨rfl, rfl, rfl⟩ | ⟨i, rfl, rfl, rfl⟩
    · obtain rfl := ra.none_inv
      obtain rfl := rb.none_inv
      exact is_none h
    · obtain ⟨t, rfl⟩ := ra.int_inv
      obtain rfl := rb.none_inv
      exact is_none h
  | IsNot => exact no_some e
  | In => exact no_some e
  | NotIn => exact no_some e
theorem marks_no {op : CmpOp} (h : (op == .In || op == .NotIn) = false) (r : Expr) : behindInMarks op r = false := by
  cases r with
  | Set elts k p =>
    show (k == 0 && (op == .In || op == .NotIn) && elts.all (constantsAlone 8)) = false
    rw [h, Bool.and_false, Bool.false_and]
  | _ => rfl
theorem marks_of {op : CmpOp} {x y : V} {c : Bool} (e : cmpV op x y st = some c) (r : Expr) : behindInMarks op r = false := by
  refine marks_no ?_ r
  cases op with
  | In => exact no_some e
  | NotIn => exact no_some e
  | _ => rfl

/-! ## new lists and tuples -/
theorem size_ok {vs : List Value} {ds : List V} {h : Heap} (r : RVs H ρ h vs ds) (hl : ds.length ≤ 4096) : vs.length ≤ sizeLine := by
  rw [r.length, sizeLine_eq]; omega
theorem fresh_size (h : Heap) : h.get? h.objs.size = none := by
  cases e : h.get? h.objs.size with
  | none => rfl
  | some o => exact absurd (Heap.lt_size e) (Nat.lt_irrefl _)
/-- a new list on the heap is a new thing of the state -/
theorem list_new {h : Heap} (R : Rel prog w C H st ρ h) {vs : List Value} {ds : List V} (r : RVs H ρ h vs ds) (hl : ds.length ≤ 4096) :
    Rel prog w C H (st ++ [.list ds]) (ρ ++ [(h.objs.size, h.objs.size)]) (h.push (lstO vs 0)) ∧ Step [] ρ h (ρ ++ [(h.objs.size, h.objs.size)]) (h.push (lstO vs 0)) ∧
      RV H (ρ ++ [(h.objs.size, h.objs.size)]) (h.push (lstO vs 0)) (.ref h.objs.size) (.ref st.length) := by
  have hk : ∀ a o, h.get? a = some o → (h.push (lstO vs 0)).get? a = some o := fun a o e => Heap.get?_push_of_some _ e
  obtain ⟨R', S⟩ := R.new (X := []) (p := (h.objs.size, h.objs.size)) (o := .list ds) hk (fresh_size h) (fresh_size h)
    ⟨rfl, by omega, vs, 0, Heap.get?_push_size _ rfl, r.mono ⟨_, rfl⟩ fun a _ _ e => hk a _ e⟩
  refine ⟨R', S, ?_⟩
  have := RV.ref (H := H) (ρ := ρ ++ [(h.objs.size, h.objs.size)]) (h := h.push (lstO vs 0)) (i := st.length) (p := (h.objs.size, h.objs.size)) (by rw [← R.len]; simp)
  exact this
theorem mkList_ok (R : Rel prog w C H st ρ s.heap) {vs : List Value} {ds : List V} {d : V} (e : mkList ds st = some (d, st')) (r : RVs H ρ s.heap vs ds) {Q : Value → Shared → Prop}
    (hq : ∀ ρ' h', vs.length ≤ sizeLine → h' = s.heap.push (lstO vs 0) → Step [] ρ s.heap ρ' h' → Rel prog w C H st' ρ' h' → RV H ρ' h' (.ref s.heap.objs.size) d → Q (.ref s.heap.objs.size) { s with heap := h' }) :
    vs.length ≤ sizeLine ∧ Q (.ref s.heap.objs.size) { s with heap := s.heap.push (lstO vs 0) } := by
  obtain ⟨hl, e⟩ := guard_some e
  obtain ⟨rfl, rfl⟩ := pair_some e
  obtain ⟨a, b, c⟩ := list_new R r hl
  have := size_ok r hl
  exact ⟨this, hq _ _ this rfl b a c⟩
/-- a new tuple -/
theorem tup_new {h : Heap} (R : Rel prog w C H st ρ h) {vs : List Value} {ds : List V} (r : RVs H ρ h vs ds) (hl : ds.length ≤ 5000) :
    Rel prog w C H st ρ (h.push (tupO vs 0)) ∧ Step [] ρ h ρ (h.push (tupO vs 0)) ∧ RV H ρ (h.push (tupO vs 0)) (.ref h.objs.size) (.tup ds) := by
  have hk : ∀ a o, h.get? a = some o → (h.push (tupO vs 0)).get? a = some o := fun a o e => Heap.get?_push_of_some _ e
  exact ⟨R.keeps hk, Step.of_ext hk, .tup (Heap.get?_push_size _ rfl) hl (r.mono ⟨[], by simp⟩ fun a _ _ e => hk a _ e)⟩

/-! ## places -/
theorem place_index {k : Int} {n j : Nat} (e : place k n = some j) (hn : n ≤ sizeLine) : seqIndex? k n = some j ∧ j < n ∧ -(2 ^ 63) ≤ k ∧ k < 2 ^ 63 := by
  rw [sizeLine_eq] at hn
  unfold place at e
  split at e
  · rename_i h0
    split at e
    · rename_i h1
      cases e
      exact ⟨seqIndex_of h0 h1, by omega, by omega, by omega⟩
    · cases e
  · rename_i h0
    split at e
    · rename_i h1
      cases e
      exact ⟨seqIndex_neg (by omega) (by omega), by omega, by omega, by omega⟩
    · cases e

theorem intMul_ok {i j : Int} (h : small i = true) : IntMulOk i j := by
  unfold small at h
  have := of_decide_eq_true h
  exact IntMulOk.of_left (intBits_le_64 (by omega) (by omega))
theorem foldl_app {α : Type} (xs : List α) : ∀ (n : Nat) (acc : Array α), List.foldl (fun x1 x2 => x1 ++ x2) acc (List.replicate n xs.toArray) = acc ++ ((List.replicate n xs).flatten).toArray
  | 0, acc => by simp
  | n + 1, acc => by
    rw [List.replicate_succ, List.foldl_cons, foldl_app xs n]
    simp [List.replicate_succ]
theorem flat_one {α : Type} (v : α) : ∀ n : Nat, (List.replicate n [v]).flatten = List.replicate n v
  | 0 => rfl
  | n + 1 => by rw [List.replicate_succ, List.flatten_cons, flat_one v n, List.replicate_succ]; rfl
theorem mul_listR {l : Addr} {v : Value} {k : Nat} {x : Int} {u : Tok} {Q : Value → Shared → Prop}
    (hl : s.heap.get? l = some (lstO [v] k)) (hhi : x ≤ 4096) (hlo : -(2 ^ 63 : Int) ≤ x)
    (h : Q (.ref s.heap.objs.size) { s with heap := s.heap.push (lstO (List.replicate x.toNat v) 0) }) :
    wpAny (model prog w) A (binaryOp .Mult (.ref l) (.int x u)) Q E s := by
  have e : (List.foldl (fun x1 x2 => x1 ++ x2) #[] (List.replicate (if (([v] : List Value).toArray).isEmpty = true then 0 else x.toNat) ([v] : List Value).toArray)) = (List.replicate x.toNat v).toArray := by
    rw [if_neg (by simp), foldl_app, flat_one]; simp
  refine wpAny_binaryOp_repeat_ref (T := "list") (U := "int") (by decide) ⟨_, hl, rfl⟩ (fun s' => typeIs_int s' x u) noFill_list_mul F.fills_int_mul F.slot_int_rmul repeat_list F.slot_int_index.lookup
    (call_meets F.slot_int_rmul (typeIs_int s x u) F.entry_int_rmul (F.args_int_rmul_2 _ _) (int___rmul___int_list x u l [v].toArray k)
      ⟨hl, rfl, ⟨_, hl, rfl⟩, call_meets F.slot_list_mul ⟨_, hl, rfl⟩ F.entry_list_mul (F.args_list_mul_2 _ _)
        (AutoListH.list___mul___list_int_3 l [v].toArray k x u (by simp [Builtin.List.listFitsIndex]; omega) (by simp; omega) (by simp [Builtin.List.listTooLong, sizeLine]; omega))
        ⟨hl, ?_⟩⟩)
  rw [e]; exact h
theorem bin_ok (R : Rel prog w C H st ρ s.heap) {op : Operator} {a b : Value} {x y d : V} (e : binV op x y st = some (d, st')) (ra : RV H ρ s.heap a x) (rb : RV H ρ s.heap b y) {Q : Value → Shared → Prop}
    (hq : ∀ v ρ' h' tk', Step [] ρ s.heap ρ' h' → Rel prog w C H st' ρ' h' → RV H ρ' h' v d → Q v { s with heap := h', toks := tk' }) : wpAny (model prog w) A (binaryOp op a b) Q E s := by
  have num : ∀ {k : Int} {t tk : Tok}, some (V.int k, st) = some (d, st') → Q (.int k t) { s with toks := tk } := fun {k t tk} e => by
    obtain ⟨rfl, rfl⟩ := pair_some e
    exact hq _ ρ s.heap _ .refl R (.int _ _)
  cases op with
  | Add =>
    rcases add_some e with ⟨i, j, rfl, rfl, e⟩ | ⟨i, j, rfl, rfl, e⟩
    · obtain ⟨t, rfl⟩ := ra.int_inv
      obtain ⟨u, rfl⟩ := rb.int_inv
      exact P.add_int (num e)
    · obtain ⟨vs, ws, e1, e2, e⟩ := list2_some e
      obtain ⟨a, us, k, rfl, ho, r1, _⟩ := R.listAt ra e1
      obtain ⟨b, us', k', rfl, ho', r2, _⟩ := R.listAt rb e2
      obtain ⟨hsz, hfin⟩ := mkList_ok R e (r1.append r2) (s := s) (Q := Q) fun ρ' h' _ e' S R' r => hq _ ρ' h' s.toks S R' r
      refine P.add_list (items := us.toArray) (items2 := us'.toArray) ho ho' ?_ (by simpa using hsz)
      simpa using hfin
  | Sub =>
    obtain ⟨i, t, j, u, rfl, rfl, e⟩ := ints_of e ra rb
    exact P.sub_int (num e)
  | Mult =>
    rcases mul_some e with ⟨i, j, rfl, rfl, e⟩ | ⟨i, n, rfl, rfl, e⟩
    · obtain ⟨t, rfl⟩ := ra.int_inv
      obtain ⟨u, rfl⟩ := rb.int_inv
      obtain ⟨hs, e⟩ := guard_some e
      exact P.mul_int (num e) (intMul_ok (Bool.and_eq_true_iff.mp hs).1)
    · obtain ⟨u, rfl⟩ := rb.int_inv
      obtain ⟨v, e1, e⟩ := list1_some e
      obtain ⟨hn, e⟩ := guard_some e
      obtain ⟨a, us, k, rfl, ho, r1, _⟩ := R.listAt ra e1
      obtain ⟨v', rfl, rv⟩ := r1.one_inv
      obtain ⟨hsz, hfin⟩ := mkList_ok R e (RVs.replicate rv n.toNat) (s := s) (Q := Q) fun ρ' h' _ e' S R' r => hq _ ρ' h' s.toks S R' r
      exact mul_listR ho hn.1 hn.2 hfin
  | FloorDiv =>
    obtain ⟨i, t, j, u, rfl, rfl, e⟩ := ints_of e ra rb
    obtain ⟨hj, e⟩ := guard_some e
    refine floordiv_int (by omega) ?_ (.inl (PyProof.noPylong_small (by omega)))
    rw [Int.fdiv_eq_ediv_of_nonneg _ (by omega)]; exact num e
  | Mod =>
    obtain ⟨i, t, j, u, rfl, rfl, e⟩ := ints_of e ra rb
    obtain ⟨hj, e⟩ := guard_some e
    refine mod_int' (by omega) ?_
    rw [Int.fmod_eq_emod_of_nonneg _ (by omega)]; exact num e
  | _ => exact no_some e

/-! ## reading -/
theorem getItem_listR {l : Addr} {vs : List Value} {n : Nat} {k : Int} {t : Tok} {j : Nat} {x : Value} {Q : Value → Shared → Prop} (hl : s.heap.get? l = some (lstO vs n)) (e : place k vs.length = some j) (hn : vs.length ≤ sizeLine) (hx : vs[j]? = some x) (h : Q x s) :
    wpAny (model prog w) A (getItem (.ref l) (.int k t)) Q E s := by
  have hL : s.heap.IsList l vs.toArray := ⟨_, hl, rfl, n, rfl⟩
  have := place_index e hn
  unfold place at e
  split at e
  · rename_i h0
    split at e
    · cases e
      exact wpAny_getItem_list hL h0 this.2.2.2 (by simpa using hx) h
    · cases e
  · split at e
    · rename_i h0 h1
      cases e
      refine wpAny_getItem_list_neg hL (by omega) (by simp; omega) this.2.2.1 (by simpa using hx) h
    · cases e

theorem strlook {us : List (Str × Value)} : ∀ {kvs : List (Str × V)} {h : Heap} {x : Str} {d : V}, us.map (·.1) = kvs.map (·.1) → RVs H ρ h (us.map (·.2)) (kvs.map (·.2)) → kvs.lookup x = some d → ∃ v, valueAt us x = some v ∧ RV H ρ h v d := by
  induction us with
  | nil =>
    intro kvs h x d e1 r e
    cases kvs with
    | nil => simp at e
    | cons _ _ => simp at e1
  | cons u us ih =>
    intro kvs h x d e1 r e
    cases kvs with
    | nil => simp at e1
    | cons kv kvs =>
      obtain ⟨k, dd⟩ := kv
      obtain ⟨k', v⟩ := u
      simp only [List.map_cons, List.cons.injEq] at e1 r
      obtain ⟨rfl, e1⟩ := e1
      cases r with
      | cons rv rs =>
      rw [List.lookup_cons] at e
      unfold valueAt
      rw [List.find?_cons]
      by_cases q : x = k'
      · subst q
        simp only [beq_self_eq_true] at e
        cases e
        exact ⟨v, by simp, rv⟩
      · have q' : (x == k') = false := beq_eq_false_iff_ne.mpr q
        rw [q'] at e
        have := ih e1 rs e
        have z : decide (k' = x) = false := decide_eq_false (Ne.symm q)
        simp only [z]
        exact this
/-- what a subscript asks of the thing it reads -/
noncomputable def SubOn (prog : Program) (w : World) (A : Around) (E : Value → Shared → Prop) (o i : Value) (Q : Value → Shared → Prop) (s : Shared) : Prop :=
  (∃ T id, typeLookup (.type T) "__getitem__" = pure (some (.builtin id)) ∧ s.TypeIs o T) ∧ wpAny (model prog w) A (getItem o i) Q E s
theorem item_ok (R : Rel prog w C H st ρ s.heap) {o i : Value} {x y d : V} (e : getItemV x y st = some (d, st')) (ra : RV H ρ s.heap o x) (rb : RV H ρ s.heap i y) {Q : Value → Shared → Prop}
    (hq : ∀ v tk', Rel prog w C H st' ρ s.heap → RV H ρ s.heap v d → Q v { s with toks := tk' }) : SubOn prog w A E o i Q s := by
  rcases tupref_some e with ⟨ds, rfl, e⟩ | ⟨a, rfl, e⟩
  · obtain ⟨k, rfl, e⟩ := int_some e
    obtain ⟨d', e1, e2⟩ := Option.map_eq_some_iff.mp e
    obtain ⟨rfl, rfl⟩ := Prod.mk.inj e2
    obtain ⟨j, ej, ed⟩ := Option.bind_eq_some_iff.mp e1
    obtain ⟨t, rfl⟩ := rb.int_inv
    obtain ⟨a, us, n, rfl, ha, r, hl⟩ := ra.tup_inv
    obtain ⟨v, hv, rv⟩ := r.get ed
    have hn : ds.length ≤ sizeLine := by rw [sizeLine_eq]; omega
    obtain ⟨z1, z2, z3, z4⟩ := place_index ej hn
    have ht : IsTup s.heap a us.toArray := ⟨_, ha, rfl, n, rfl⟩
    exact ⟨⟨"tuple", _, slot_tuple_getitem.lookup, ⟨_, ha, rfl⟩⟩, PyProof.Rows.getItem_tuple ht z3 z4 (by rw [List.size_toArray, r.length]; exact z1) (by simpa using hv) (hq v s.toks R rv)⟩
  · rcases item_some e with ⟨ds, e1, e⟩ | ⟨kvs, e1, e⟩
    · obtain ⟨k, rfl, e⟩ := int_some e
      obtain ⟨d', e2, e3⟩ := Option.map_eq_some_iff.mp e
      obtain ⟨rfl, rfl⟩ := Prod.mk.inj e3
      obtain ⟨j, ej, ed⟩ := Option.bind_eq_some_iff.mp e2
      obtain ⟨t, rfl⟩ := rb.int_inv
      obtain ⟨b, us, n, rfl, ho, r, hl⟩ := R.listAt ra e1
      obtain ⟨v, hv, rv⟩ := r.get ed
      exact ⟨⟨"list", _, slot_list_getitem.lookup, ⟨_, ho, rfl⟩⟩, getItem_listR ho (by rw [r.length]; exact ej) (by rw [r.length, sizeLine_eq]; omega) hv (hq v s.toks R rv)⟩
    · obtain ⟨k, rfl, e⟩ := str_some e
      obtain ⟨d', e2, e3⟩ := Option.map_eq_some_iff.mp e
      obtain ⟨rfl, rfl⟩ := Prod.mk.inj e3
      obtain ⟨t, rfl⟩ := rb.str_inv
      obtain ⟨b, us, rfl, hd, hk, r⟩ := R.dictAt ra e1
      obtain ⟨v, hv, rv⟩ := strlook hk r e2
      exact ⟨⟨"dict", _, slot_dict_getitem.lookup, hd.typeIs⟩, wpAny_getItem_of (strKind_is prog w _ _) hd.mapOf hv (hq v _ R rv)⟩
theorem subscripted_eq (e : Expr) (o i : Value) : ∃ vs, subscripted e false o i = operate vs (getItem o i) := by
  cases e with
  | Slice l u s p => cases s with
    | none => exact ⟨_, rfl⟩
    | some s => exact ⟨_, rfl⟩
  | _ => exact ⟨_, rfl⟩
theorem Subscript_ok {env : Env} {value slice : Expr} {pos : Pos} {Q : Value → Shared → Prop}
    (h : wpAny (model prog w) A (eval value env) (fun o s₁ => wpAny (model prog w) A (eval slice env) (fun i s₂ => SubOn prog w A E o i Q s₂) E s₁) E s) :
    wpAny (model prog w) A (eval (.Subscript value slice pos) env) Q E s := by
  rw [eval_Subscript]
  refine wpAny_bind (wpAny_mono h (fun o s₁ h₁ => wpAny_bind (wpAny_holding (wpAny_mono h₁ (fun i s₂ h₂ => wpAny_bind (wpAny_standAt ?_)) fun _ _ x => x))) fun _ _ x => x)
  obtain ⟨⟨T, id, hl, hT⟩, hg⟩ := h₂
  refine wpAny_bind ?_
  rw [getitemInPython_of_ne hT.not_modules]
  refine wpAny_bind (wpAny_specialOf hT hl ?_)
  refine wpAny_pure (wpAny_bind ?_)
  obtain ⟨vs, hvs⟩ := subscripted_eq slice o i
  rw [hvs]
  exact wpAny_operating (wpAny_mono hg (fun r s₃ h₃ => wpAny_bind (wpAny_letTemporaryGo (wpAny_pure h₃))) fun _ _ x => x)

/-! ## slices -/
noncomputable def asI : Option Nat → Option Int
  | none => none
  | some k => some (k : Int)
theorem bnd_part {h : Heap} {v : Value} {x : V} {b : Option Nat} (e : bnd x = some b) (r : RV H ρ h v x) : IsPart v (asI b) := by
  cases x with
  | none =>
    obtain rfl := Option.some.inj e
    obtain rfl := r.none_inv
    exact .none
  | int k =>
    obtain ⟨h0, e⟩ := guard_some e
    obtain rfl := Option.some.inj e
    obtain ⟨t, rfl⟩ := r.int_inv
    show IsPart _ (some ((k.toNat : Nat) : Int))
    rw [Int.toNat_of_nonneg h0]
    exact .int _ _
  | _ => exact no_some e
theorem bounds_of (lo hi : Option Nat) (n : Nat) : sliceBounds (asI lo) (asI hi) none n = (((min (lo.getD 0) n : Nat) : Int), ((min (hi.getD n) n : Nat) : Int), 1) := by
  have h1 : ∀ k : Nat, ¬ ((k : Int) < 0) := fun k => by omega
  cases lo with
  | none => cases hi with
    | none => simp only [sliceBounds, asI, Option.getD_none, show (1 : Int) > 0 by decide, if_true]; refine Prod.ext ?_ (Prod.ext ?_ rfl) <;> simp only <;> omega
    | some b => simp only [sliceBounds, asI, Option.getD_none, Option.getD_some, h1, if_false, show (1 : Int) > 0 by decide, if_true]; refine Prod.ext ?_ (Prod.ext ?_ rfl) <;> simp only <;> omega
  | some a => cases hi with
    | none => simp only [sliceBounds, asI, Option.getD_none, Option.getD_some, h1, if_false, show (1 : Int) > 0 by decide, if_true]; refine Prod.ext ?_ (Prod.ext ?_ rfl) <;> simp only <;> omega
    | some b => simp only [sliceBounds, asI, Option.getD_none, Option.getD_some, h1, if_false, show (1 : Int) > 0 by decide, if_true]; refine Prod.ext ?_ (Prod.ext ?_ rfl) <;> simp only <;> omega
theorem pick_cut {h : Heap} {vs : List Value} {ds : List V} (r : RVs H ρ h vs ds) (lo hi : Option Nat) :
    ∃ ws : List Value, slicePick vs.toArray (asI lo) (asI hi) none = ws.toArray ∧ RVs H ρ h ws (cut ds lo hi) ∧ ws.length ≤ vs.length := by
  refine ⟨(vs.drop (min (lo.getD 0) vs.length)).take (min (hi.getD vs.length) vs.length - min (lo.getD 0) vs.length), ?_, ?_, ?_⟩
  · unfold slicePick
    rw [List.size_toArray, bounds_of]
    simp only [sliceRange_one, pick_run]
  · unfold cut
    have e1 : ((ds.drop (lo.getD 0)).take (hi.getD ds.length - lo.getD 0)) = ((ds.drop (min (lo.getD 0) vs.length)).take (min (hi.getD vs.length) vs.length - min (lo.getD 0) vs.length)) := by
      rw [r.length]
      by_cases q : lo.getD 0 ≤ ds.length
      · rw [Nat.min_eq_left q]
        by_cases q2 : hi.getD ds.length ≤ ds.length
        · rw [Nat.min_eq_left q2]
        · rw [Nat.min_eq_right (by omega), List.take_of_length_le (by simp; omega), List.take_of_length_le (by simp)]
      · rw [Nat.min_eq_right (by omega : ds.length ≤ lo.getD 0), List.drop_of_length_le (by omega), List.drop_of_length_le (Nat.le_refl _)]; simp
    rw [e1]
    exact (r.drop _).take _
  · simp only [List.length_take, List.length_drop]; omega
theorem slice_ok (R : Rel prog w C H st ρ s.heap) {o vl vu : Value} {a : Addr} {x l u d : V} (e : getSliceV x l u st = some (d, st')) (hs : s.heap.IsSliceOf a vl vu .none) (ra : RV H ρ s.heap o x) (rl : RV H ρ s.heap vl l) (ru : RV H ρ s.heap vu u)
    {Q : Value → Shared → Prop} (hq : ∀ v ρ' h', Step [] ρ s.heap ρ' h' → Rel prog w C H st' ρ' h' → RV H ρ' h' v d → Q v { s with heap := h' }) : SubOn prog w A E o (.ref a) Q s := by
  obtain ⟨lo, elo, e⟩ := Option.bind_eq_some_iff.mp e
  obtain ⟨hi, ehi, e⟩ := Option.bind_eq_some_iff.mp e
  have pl := bnd_part elo rl
  have pu := bnd_part ehi ru
  have fin : ∀ (l : Addr) (vs : List Value) (ds : List V), s.heap.IsList l vs.toArray → vs.length ≤ sizeLine → RVs H ρ s.heap vs ds → mkList (cut ds lo hi) st = some (d, st') → SubOn prog w A E (.ref l) (.ref a) Q s := by
    intro l vs ds hl hz r e
    obtain ⟨ws, e1, r', hw⟩ := pick_cut r lo hi
    obtain ⟨_, hfin⟩ := mkList_ok R e r' (s := s) (Q := Q) fun ρ' h' _ e' S R' r => hq _ ρ' h' S R' r
    refine ⟨⟨"list", _, slot_list_getitem.lookup, hl.typeIs⟩, wpAny_getItem_list_slice hl hs pl pu .none (by simp) ?_ (by simpa using hz)⟩
    rw [e1]; exact hfin
  cases x with
  | froz ds => cases ra with
    | froz hl hz r => exact fin _ _ _ (hl.at fun o e => R.base _ o e) (by rw [r.length, sizeLine_eq]; omega) r e
  | ref i =>
    obtain ⟨ds, e1, e⟩ := list_some e
    obtain ⟨b, us, n, rfl, ho, r, hl⟩ := R.listAt ra e1
    exact fin _ _ _ ⟨_, ho, rfl, n, rfl⟩ (by rw [r.length, sizeLine_eq]; omega) r e
  | _ => exact no_some e
end
end Mine

set_option autoImplicit false
set_option linter.unusedVariables false
set_option maxRecDepth 100000
namespace Mine
open PySem PySem.W PyProof.Rows PySem.Calls
section
variable {prog : Program} {w : World} {C : Addr} {H : Heap} {st st' : St} {ρ ρ' : Rho} {A : Around} {s : Shared} {E : Value → Shared → Prop}

theorem upd_list {h : Heap} {l : Addr} {vs : List Value} {n : Nat} (hl : h.get? l = some (lstO vs n)) (f : Array Value → Array Value) {ws : List Value} (hf : f vs.toArray = ws.toArray) :
    ∃ n', (h.update l (Obj.mapSeq f)).get? l = some (lstO ws n') ∧ Heap.SameBut l h (h.update l (Obj.mapSeq f)) := by
  have := IsL.update (h := h) (l := l) (items := vs.toArray) (n := n) hl f
  rw [hf] at this
  exact ⟨_, this, Heap.SameBut.update ..⟩

theorem setItem_listR {l : Addr} {vs : List Value} {n : Nat} {k : Int} {t : Tok} {j : Nat} {v : Value} {Q : Unit → Shared → Prop} (hl : s.heap.get? l = some (lstO vs n)) (e : place k vs.length = some j) (hn : vs.length ≤ sizeLine)
    (h : Q () { s with heap := s.heap.update l (Obj.mapSeq (·.setIfInBounds j v)) }) : wpAny (model prog w) A (setItem (.ref l) (.int k t) v) Q E s := by
  have hL : s.heap.IsList l vs.toArray := ⟨_, hl, rfl, n, rfl⟩
  obtain ⟨z1, z2, z3, z4⟩ := place_index e hn
  have hx : vs[j]? = some (vs[j]) := List.getElem?_eq_getElem z2
  unfold setItem
  try with_reducible refine wpAny_holding ?_
  first | refine wpAny_bind (wpAny_pure ?_) | skip
  refine wpAny_bind (wpAny_sequenceKey hL.typeIs (by decide) ?_)
  refine wpAny_bind (wpAny_callSpecial?_slot (name := Str.ofString "__setitem__") hL.typeIs slot_list_setitem
    (wpAny_call_entry slot_list_setitem hL.typeIs entry_list_setitem ?_ (args_list_setitem _ _ _)))
  show wpAny _ _ (Builtin.List.listSubscript? (.int k t) >>= _) _ _ s
  have hfit : Builtin.List.listFitsIndex k = true := by
    unfold Builtin.List.listFitsIndex
    simp only [Bool.and_eq_true, decide_eq_true_eq]
    omega
  refine wpAny_bind (wpAny_listSubscript_int hfit ?_)
  unfold place at e
  split at e
  · rename_i h0
    split at e
    · cases e
      obtain ⟨j, rfl⟩ := Int.eq_ofNat_of_zero_le h0
      have hx' : (vs.toArray)[j]? = some (vs[j]'z2) := by simpa using hx
      show wpAny _ _ ((seqItemAt l j >>= fun r => pure (r.map (j, ·))) >>= _) _ _ s
      refine wpAny_bind (wpAny_bind (wpAny_seqItemAt hl rfl (wpAny_pure ?_)))
      rw [hx']
      show wpAny _ _ (setSeqItemAt l j v >>= _) _ _ s
      refine wpAny_bind (wpAny_setSeqItemAt hl rfl ?_)
      first
        | exact wpAny_bind (wpAny_pure (wpAny_pure ⟨.none, rfl, wpAny_pure h⟩))
        | exact wpAny_pure ⟨.none, rfl, wpAny_pure h⟩
    · cases e
  · rename_i h0
    split at e
    · rename_i h1
      cases e
      obtain ⟨i, rfl⟩ : ∃ i : Nat, k = Int.negSucc i := by
        cases k with
        | ofNat n => exact absurd (Int.natCast_nonneg n) h0
        | negSucc n => exact ⟨n, rfl⟩
      show wpAny _ _ ((Builtin.List.listItems (.ref l) >>= fun xs => pure ((seqIndex? (Int.negSucc i) xs.size).bind fun i => xs[i]?.map (i, ·))) >>= _) _ _ s
      refine wpAny_bind (wpAny_bind ?_)
      show wpAny _ _ (seqItems? (.ref l) >>= _) _ _ s
      refine wpAny_bind (wpAny_seqItems hl rfl (wpAny_pure (wpAny_pure ?_)))
      have hx' : (vs.toArray)[(Int.negSucc i + (vs.length : Int)).toNat]? = some (vs[(Int.negSucc i + (vs.length : Int)).toNat]'z2) := by simpa using hx
      rw [List.size_toArray, z1]
      simp only [Option.bind_some, hx', Option.map_some]
      show wpAny _ _ (setSeqItemAt l _ v >>= _) _ _ s
      refine wpAny_bind (wpAny_setSeqItemAt hl rfl ?_)
      first
        | exact wpAny_bind (wpAny_pure (wpAny_pure ⟨.none, rfl, wpAny_pure h⟩))
        | exact wpAny_pure ⟨.none, rfl, wpAny_pure h⟩
    · cases e

theorem setSlice_listR {l b sl : Addr} {vs ws : List Value} {n n' : Nat} {vl vu : Value} {lo hi : Option Nat} {Q : Unit → Shared → Prop} (hl : s.heap.get? l = some (lstO vs n)) (hb : s.heap.get? b = some (lstO ws n')) (hne : l ≠ b)
    (hs : s.heap.IsSliceOf sl vl vu .none) (pl : IsPart vl (asI lo)) (pu : IsPart vu (asI hi)) (hz : vs.length + ws.length ≤ 4096)
    (h : ∀ f : Array Value → Array Value, f vs.toArray = (vs.take (min (lo.getD 0) vs.length) ++ ws ++ vs.drop (max (min (lo.getD 0) vs.length) (min (hi.getD vs.length) vs.length))).toArray → Q () { s with heap := s.heap.update l (Obj.mapSeq f) }) :
    wpAny (model prog w) A (setItem (.ref l) (.ref sl) (.ref b)) Q E s := by
  have hL : s.heap.IsList l vs.toArray := ⟨_, hl, rfl, n, rfl⟩
  obtain ⟨os, hos, hcs, hds⟩ := id hs
  have hTs : s.TypeIs (.ref sl) "slice" := ⟨os, hos, hcs⟩
  have hTb : s.TypeIs (.ref b) "list" := ⟨_, hb, rfl⟩
  unfold setItem
  try with_reducible refine wpAny_holding ?_
  first | refine wpAny_bind (wpAny_pure ?_) | skip
  refine wpAny_bind (wpAny_sequenceKey hL.typeIs (by decide) ?_)
  refine wpAny_bind (wpAny_callSpecial?_slot (name := Str.ofString "__setitem__") hL.typeIs slot_list_setitem
    (wpAny_call_entry slot_list_setitem hL.typeIs entry_list_setitem ?_ (args_list_setitem _ _ _)))
  show wpAny _ _ (Builtin.List.listSubscript? (.ref sl) >>= _) _ _ s
  refine wpAny_bind ?_
  unfold Builtin.List.listSubscript?
  refine wpAny_bind (wpAny_specialOf hTs slice_no_index ?_)
  simp only [Option.isNone_none, if_true]
  refine wpAny_pure ?_
  show wpAny _ _ (typeOf (.ref sl) >>= _) _ _ s
  refine wpAny_bind (wpAny_typeOf hTs ?_)
  rw [if_neg (by decide)]
  rw [listSliceParts_eq]
  refine wpAny_bind (wpAny_bind (wpAny_field hos hds (x := Value.none) rfl (wpAny_bind (wpAny_listPart .none ?_))))
  rw [if_neg (by exact Bool.false_ne_true)]
  refine wpAny_bind (wpAny_field hos hds (x := vl) rfl (wpAny_bind (wpAny_listPart pl ?_)))
  refine wpAny_bind (wpAny_field hos hds (x := vu) rfl (wpAny_bind (wpAny_listPart pu (wpAny_pure ?_))))
  have hbne : Builtin.List.listSameRef (.ref l) (.ref b) = false := by
    show (l == b) = false
    exact beq_eq_false_iff_ne.mpr hne
  rw [hbne]
  simp only [Bool.false_eq_true, if_false]
  refine wpAny_bind (m := Builtin.List.listAllItems (.ref b) _) ?_
  unfold Builtin.List.listAllItems
  refine wpAny_bind (wpAny_typeOf hTb ?_)
  rw [if_pos (by decide)]
  unfold Builtin.List.listItems
  refine wpAny_bind (wpAny_seqItems hb rfl (wpAny_pure ?_))
  refine wpAny_bind (wpAny_bind (wpAny_seqItems hl rfl (wpAny_pure ?_)))
  have hraw := sliceIndices_raw (asI lo) (asI hi) none vs.toArray.size (by simp)
  refine wpAny_bind (wpAny_of_eq hraw ?_)
  rw [List.size_toArray, bounds_of]
  rw [if_pos (by rfl)]
  refine wpAny_bind (wpAny_rule ?_)
  have hlong : ¬ (Builtin.List.listTooLong (vs.length + ws.toArray.size) = true) := by
    unfold Builtin.List.listTooLong
    rw [List.size_toArray, sizeLine_eq]
    exact fun q => absurd (of_decide_eq_true q) (by omega)
  rw [if_neg hlong]
  dsimp only
  have hsz1 : vs.toArray.size ≤ sizeLine := by rw [List.size_toArray, sizeLine_eq]; omega
  generalize ha : min (lo.getD 0) vs.length = a at h ⊢
  generalize hb' : min (hi.getD vs.length) vs.length = c at h ⊢
  have hf : (fun xs : Array Value => xs.extract 0 ((a : Nat) : Int).toNat ++ ws.toArray ++ xs.extract (max ((a : Nat) : Int) ((c : Nat) : Int)).toNat) vs.toArray = (vs.take a ++ ws ++ vs.drop (max a c)).toArray := by
    have e1 : ((a : Nat) : Int).toNat = a := Int.toNat_natCast a
    have e2 : (max ((a : Nat) : Int) ((c : Nat) : Int)).toNat = max a c := by omega
    simp only [e1, e2]
    apply Array.toList_inj.mp
    simp only [Array.toList_append, Array.toList_extract, List.extract_eq_take_drop, List.drop_zero, Nat.sub_zero, List.size_toArray]
    congr 1
    exact List.take_of_length_le (by simp)
  refine wpAny_bind (m := Builtin.List.listUpdate (.ref l) _) ?_
  show wpAny _ _ (updateSeq l _) _ _ s
  have hsz2 : ((fun xs : Array Value => xs.extract 0 ((a : Nat) : Int).toNat ++ ws.toArray ++ xs.extract (max ((a : Nat) : Int) ((c : Nat) : Int)).toNat) vs.toArray).size ≤ sizeLine + 1 := by
    rw [hf, List.size_toArray, sizeLine_eq]
    simp only [List.length_append, List.length_take, List.length_drop]
    omega
  refine wpAny_updateSeq (hz := hsz1) (_hz' := hsz2) hl rfl ?_
  refine wpAny_bind (wpAny_letGo ?_)
  exact wpAny_pure ⟨.none, rfl, wpAny_pure (h _ hf)⟩
end
end Mine

set_option autoImplicit false
set_option linter.unusedVariables false
set_option maxRecDepth 100000
namespace Mine
open PySem PySem.W PyProof.Rows PySem.Calls

/-- a def of the text's, as the run of the top leaves it -/
structure FnFd (K : Frag) (f : Fn) (fd : FuncData) : Prop where
  body : fd.body = .stmts (recOf f).body
  scope : fd.scope = (recOf f).scope
  glob : fd.globals = mainGlobals
  bui : fd.builtins = builtinsNs
  clos : fd.closure = []
  code : codeIn K fd.code fd.qualname = true
  kind : (recOf f).scope.kind = .function
  coro : (recOf f).scope.isCoroutine = false
  gen : (recOf f).scope.isGenerator = false
  cell : ∀ x ∈ (recOf f).scope.names, x.2 ≠ .cell
  loc : ∀ x ∈ (recOf f).params, (recOf f).scope.names.lookup x = some .local
  nodup : (recOf f).params.Nodup
  binds : ∀ (H : Heap) (ρ : Rho) (s : Shared) (vs : List Value) (ds : List V), K.In s.heap → RVs H ρ s.heap vs ds → (fillArgs f ds).length = (recOf f).params.length →
    ∃ us, BindsTo s fd ⟨vs, []⟩ ((recOf f).params.zip us) ∧ RVs H ρ s.heap us (fillArgs f ds)
noncomputable def FnAt (K : Frag) (f : Fn) (a : Addr) : Prop := ∃ oc od osl fd, K.lookup a = some ⟨oc, od, .func fd, osl⟩ ∧ FnFd K f fd

structure Base (prog : Program) (w : World) (K : Frag) (C : Addr) (H : Heap) (mg mb : Str → Option Value) : Prop where
  X : K.In H
  g : H.Ns mainGlobals mg
  b : H.Ns builtinsNs mb
  lim : H.NoLimit
  bi : ∀ x : Str, x ≠ "__name__" → mb x = bootBuiltins x
  cls : mg (Str.ofString "Line") = some (.ref C)
  makes : makesIn K C = true
  keeps : keepIn K (.ref C) = true
  ga : findIn K (.ref C) "__getattribute__" = some (some (.builtin "object.__getattribute__"))
  gat : findIn K (.ref C) "__getattr__" = some none
  sa : findIn K (.ref C) "__setattr__" = some (some (.builtin "object.__setattr__"))
  plain : plainOver K C = true
  dict : (clsIn K C).any (·.hasDict) = true
  fld : ∀ x : Str, x = Str.ofString "cells" ∨ x = Str.ofString "is_wrapped" ∨ x = Str.ofString "size" → findIn K (.ref C) x = some none
  init : ∃ a, findIn K (.ref C) "__init__" = some (some (.ref a)) ∧ typeIn K (.ref a) = some (.type "function") ∧ FnAt K .m_init a
  meth : ∀ x f, meths.lookup x = some f → ∃ a, findIn K (.ref C) x = some (some (.ref a)) ∧ typeIn K (.ref a) = some (.type "function") ∧ FnAt K f a
  top : ∀ x f, tops.lookup x = some f → ∃ a, mg x = some (.ref a) ∧ FnAt K f a
  glob : ∀ x d, globs.lookup x = some d → ∃ v, mg x = some v ∧ RV H [] H v d
  bui : ∀ x b, bis.lookup x = some b → x ≠ Str.ofString "Line" → mg x = none
  enum : mg (Str.ofString "enumerate") = none
  rng : mg (Str.ofString "range") = none

section
variable {prog : Program} {w : World} {K : Frag} {C : Addr} {H : Heap} {mg mb : Str → Option Value} {st st' : St} {ρ ρ' : Rho} {A : Around} {s : Shared} {E : Value → Shared → Prop}

theorem Base.now (B : Base prog w K C H mg mb) {h : Heap} (R : Rel prog w C H st ρ h) : K.In h := B.X.keeps R.base
theorem RV.handed {h : Heap} {v : Value} {d : V} (r : RV H ρ h v d) : handedIn v = true := by cases r <;> rfl

/-! ## fields of an object -/
theorem KeysAre.nil_inv {es : List DictEntry} (k : KeysAre es []) : es = [] := by cases k; rfl
theorem KeysAre.cons_inv {es : List DictEntry} {x : Str} {d : V} {kvs : List (Str × V)} (k : KeysAre es ((x, d) :: kvs)) : ∃ e r t, es = e :: r ∧ e.key = .str x t ∧ KeysAre r kvs := by cases k with | cons h k => obtain ⟨t, h⟩ := h; exact ⟨_, _, t, rfl, h, k⟩
theorem getL_of {h : Heap} {x : Str} : ∀ (kvs : List (Str × V)) {es : List DictEntry}, KeysAre es kvs → RVs H ρ h (es.map (·.val)) (kvs.map (·.2)) →
    (match kvs.lookup x with | some d => ∃ v, getL x es = some (some v) ∧ RV H ρ h v d | none => getL x es = some none)
  | [], _, k, _ => by obtain rfl := k.nil_inv; rfl
  | (y, d) :: kvs, _, k, rv => by
    obtain ⟨e, es, t, rfl, hk, r⟩ := k.cons_inv
    obtain ⟨v, us, hv, r1, rs⟩ := RVs.cons_inv (d := d) (ds := kvs.map (·.2)) rv
    obtain ⟨rfl, rfl⟩ := List.cons.inj hv
    have ih := getL_of (x := x) kvs r rs
    have hs : e.key.isStr x = (y == x) := by rw [hk]; rfl
    have hr : e.refKey = false := by unfold DictEntry.refKey; rw [hk]
    rw [List.lookup_cons]
    unfold getL
    rw [List.find?_cons, hs]
    by_cases q : x = y
    · subst q
      simp only [beq_self_eq_true]
      exact ⟨_, rfl, r1⟩
    · have q1 : (x == y) = false := beq_eq_false_iff_ne.mpr q
      have q2 : (y == x) = false := beq_eq_false_iff_ne.mpr (Ne.symm q)
      rw [q1, q2]
      unfold getL at ih
      simp only [List.any_cons, hr, Bool.false_or]
      exact ih
theorem instAt {h : Heap} {p : Addr × Addr} {es : List DictEntry} {n : Nat} (h1 : h.get? p.1 = some (instObj C p.2)) (h2 : h.get? p.2 = some (dictOf es n)) : InstAt h p.1 (instObj C p.2) C (some (dictOf es n)) :=
  ⟨h1, rfl, rfl, h2⟩
theorem Rel.instAt (R : Rel prog w C H st ρ s.heap) {o : Value} {i : Nat} {kvs : List (Str × V)} (ra : RV H ρ s.heap o (.ref i)) (e1 : st[i]? = some (.inst kvs)) : ∃ p es n, ρ[i]? = some p ∧ o = .ref p.1 ∧ p.2 ≠ p.1 ∧ s.heap.get? p.1 = some (instObj C p.2) ∧ s.heap.get? p.2 = some (dictOf es n) ∧ KeysAre es kvs ∧ RVs H ρ s.heap (es.map (·.val)) (kvs.map (·.2)) := by
  obtain ⟨p, hp, rfl⟩ := ra.ref_inv
  obtain ⟨q, hq, hne, h1, es, n, h2, hk, r⟩ := R.at e1
  obtain rfl := Option.some.inj (hq.symm.trans hp)
  exact ⟨_, es, n, hp, rfl, hne, h1, h2, hk, r⟩
theorem attr_ok (B : Base prog w K C H mg mb) (R : Rel prog w C H st ρ s.heap) {o : Value} {x : V} {a : Str} {d : V} {b : Bool} (e : getAttrV x a st = some (d, st')) (ra : RV H ρ s.heap o x) {Q : Value → Shared → Prop}
    (hq : ∀ v tk', Rel prog w C H st' ρ s.heap → RV H ρ s.heap v d → Q v { s with toks := tk' }) : wpAny (model prog w) A (getAttr o a b) Q E s := by
  obtain ⟨i, rfl, e⟩ := ref_some e
  obtain ⟨kvs, e1, e⟩ := inst_some e
  obtain ⟨ha, e⟩ := guard_some e
  obtain ⟨d', e2, e3⟩ := Option.map_eq_some_iff.mp e
  obtain ⟨rfl, rfl⟩ := Prod.mk.inj e3
  obtain ⟨p, es, n, _, rfl, _, h1, h2, hk, r⟩ := R.instAt ra e1
  have := getL_of (x := a) _ hk r
  rw [e2] at this
  obtain ⟨v, hv, rv⟩ := this
  have I := Mine.instAt h1 h2
  have hf : findObj K C (some (dictOf es n)) a = some (.value v) := by
    unfold findObj
    obtain ⟨cd, hc, hd⟩ := any_some B.dict
    rw [hc, Option.bind_some, B.fld a ha, Option.bind_some, Option.bind_some, Option.bind_some]
    dsimp only
    unfold W.ownOf
    rw [hd, if_pos rfl]
    dsimp only
    rw [lookIn_dict, hv, Option.bind_some]
  exact get_value (B.now R) I B.ga hf rv.handed (hq v _ R rv)

theorem putL_one {e : DictEntry} {es : List DictEntry} {x y : Str} {hsh : Int} {tk t : Tok} {v : Value} (hk : e.key = .str y t) : putL x hsh (.str x tk) v (e :: es) = if x = y then { e with val := v } :: es else e :: putL x hsh (.str x tk) v es := by
  have hs : e.key.isStr x = (y == x) := by rw [hk]; rfl
  rw [putL, hs]
  by_cases q : x = y
  · subst q; rw [beq_self_eq_true, if_pos rfl, if_pos rfl]
  · rw [beq_eq_false_iff_ne.mpr (Ne.symm q), if_neg q, if_neg Bool.false_ne_true]
theorem putL_both {x : Str} {hsh : Int} {tk : Tok} {v : Value} {d : V} {h : Heap} (rv : RV H ρ h v d) : ∀ (kvs : List (Str × V)) {es : List DictEntry}, KeysAre es kvs → RVs H ρ h (es.map (·.val)) (kvs.map (·.2)) →
    KeysAre (putL x hsh (.str x tk) v es) (setL x d kvs) ∧ RVs H ρ h ((putL x hsh (.str x tk) v es).map (·.val)) ((setL x d kvs).map (·.2))
  | [], _, k, _ => by obtain rfl := k.nil_inv; exact ⟨.cons ⟨tk, rfl⟩ .nil, .one rv⟩
  | (y, u) :: kvs, _, k, rr => by
    obtain ⟨e, es, t, rfl, hk, r⟩ := k.cons_inv
    obtain ⟨v', us, hv, r1, rs⟩ := RVs.cons_inv (d := u) (ds := kvs.map (·.2)) rr
    obtain ⟨rfl, rfl⟩ := List.cons.inj hv
    rw [putL_one hk]
    unfold setL
    by_cases q : x = y
    · rw [if_pos q, if_pos q]
      subst q
      exact ⟨.cons ⟨t, hk⟩ r, .cons rv rs⟩
    · rw [if_neg q, if_neg q]
      obtain ⟨a, b⟩ := putL_both rv kvs r rs
      exact ⟨.cons ⟨t, hk⟩ a, .cons r1 b⟩
theorem KeysAre.facts : ∀ (kvs : List (Str × V)) {es : List DictEntry}, KeysAre es kvs → es.length = kvs.length ∧ es.any (·.refKey) = false
  | [], _, k => by obtain rfl := k.nil_inv; exact ⟨rfl, rfl⟩
  | (y, d) :: kvs, _, k => by
    obtain ⟨e, es, t, rfl, hk, r⟩ := k.cons_inv
    obtain ⟨a, b⟩ := KeysAre.facts kvs r
    have hr : e.refKey = false := by unfold DictEntry.refKey; rw [hk]
    exact ⟨congrArg Nat.succ a, by rw [List.any_cons, hr, b]; rfl⟩

theorem setattr_ok (B : Base prog w K C H mg mb) (R : Rel prog w C H st ρ s.heap) {o v : Value} {x d : V} {a : Str} (e : setAttrV x a d st = some st') (ra : RV H ρ s.heap o x) (rv : RV H ρ s.heap v d) {X : List Addr} {Q : Unit → Shared → Prop}
    (hq : ∀ h' tk', Step X ρ s.heap ρ h' → Rel prog w C H st' ρ h' → Q () { s with heap := h', toks := tk' }) : wpAny (model prog w) A (setAttr o a v) Q E s := by
  obtain ⟨i, rfl, e⟩ := ref_some e
  obtain ⟨kvs, e1, e⟩ := inst_some e
  obtain ⟨⟨hax, hlen⟩, e⟩ := guard_some e
  obtain rfl := Option.some.inj e
  obtain ⟨p, es, n, hp, rfl, hne, h1, h2, hk, r⟩ := R.instAt ra e1
  have hkn := (KeysAre.facts _ hk).2
  have I := Mine.instAt h1 h2
  have XK := B.now R
  have ht : takerIn K C a = some none := by unfold takerIn; rw [B.fld a hax]; rfl
  refine set_plain XK I B.sa (osa_open (s := { s with toks := s.toks + 1 }) XK I B.plain ht fun b => ?_)
  obtain ⟨cd, hc, hd⟩ := any_some B.dict
  refine wpAny_bind (wpAny_pure (wpAny_bind (wpAny_bind (wpAny_loadPart h1 (wpAny_bind (looks_clsIn XK hc _ _ _ _ (fun _ _ e => e) ?_))))))
  rw [hd]
  refine wpAny_pure (a := some p.2) (wpAny_bind (wpAny_pure (wpAny_bind ?_)))
  unfold nsSet
  refine wpAny_bind (wpAny_bind (wpAny_askSetting (wpAny_pure (wpAny_bind (wpAny_mkText (wpAny_bind (wpAny_loadPart h2 ?_)))))))
  dsimp only
  have c : (!(es.toArray).any (·.key.isStr a) && (es.toArray).any (·.refKey)) = false := by
    rw [List.any_toArray, List.any_toArray, hkn, Bool.and_false]
  rw [aRefKeyMayBeTheName_at, c]
  have hput : ∀ hs tk, Obj.putName a hs (.str a tk) v (dictOf es n) = dictOf (putL a hs (.str a tk) v es) (putN a es n) := fun hs tk => putName_dict ..
  refine wpAny_updatePart h2 ?_
  refine wpAny_bind (wpAny_lookBehind (o := dictOf (putL a _ (.str a _) v es) (putN a es n)) (Heap.get?_update_self _ h2 (by rw [hput]; rfl) |>.trans (by rw [hput])) (pastItsLine_dict (by rw [List.size_toArray, (KeysAre.facts _ (putL_both (d := d) rv _ hk r).1).1, sizeLine_eq]; omega)) ?_)
  refine wpAny_pure ?_
  have hs := Heap.SameBut.update s.heap p.2 (Obj.putName a (PyData.keyHash w.params a) (.str a (s.toks + 1)) v)
  have hget : (s.heap.update p.2 (Obj.putName a (PyData.keyHash w.params a) (.str a (s.toks + 1)) v)).get? p.2 = some (dictOf (putL a (PyData.keyHash w.params a) (.str a (s.toks + 1)) v es) (putN a es n)) :=
    (Heap.get?_update_self _ h2 (by rw [hput]; rfl)).trans (by rw [hput])
  have hm := mem_adrs_of hp
  have S : Step X ρ s.heap ρ (s.heap.update p.2 (Obj.putName a (PyData.keyHash w.params a) (.str a (s.toks + 1)) v)) :=
    Step.of_same hs (.inl hm.2) h2 (fun ws k z => by have := congrArg Obj.cls z; simp at this) hget
  refine hq _ _ S (R.upd hp (.inr rfl) hs ?_)
  obtain ⟨k1, k2⟩ := putL_both (x := a) (hsh := PyData.keyHash w.params a) (tk := s.toks + 1) (rv.mono (ρ' := ρ) ⟨[], (List.append_nil _).symm⟩ S.tup) _ hk (r.mono (ρ' := ρ) ⟨[], (List.append_nil _).symm⟩ S.tup)
  exact ⟨hne, (hs.2 _ (Ne.symm hne)).trans h1, _, _, hget, k1, k2⟩

theorem setL_len {x : Str} {d : V} : ∀ {kvs : List (Str × V)}, (kvs.lookup x).isSome = true → (setL x d kvs).length = kvs.length
  | [], h => by simp at h
  | (y, u) :: r, h => by
    unfold setL
    by_cases q : x = y
    · rw [if_pos q]; simp
    · rw [if_neg q, List.length_cons, List.length_cons, setL_len]
      rw [List.lookup_cons, beq_eq_false_iff_ne.mpr q] at h
      exact h
theorem stored_setL {h : Heap} {x : Str} {v : Value} {d : V} (rv : RV H ρ h v d) : ∀ {us : List (Str × Value)} {kvs : List (Str × V)}, us.map (·.1) = kvs.map (·.1) → (us.map (·.1)).Nodup → RVs H ρ h (us.map (·.2)) (kvs.map (·.2)) → (kvs.lookup x).isSome = true →
    (us.map (fun kv => if kv.1 = x then (kv.1, v) else kv)).map (·.1) = (setL x d kvs).map (·.1) ∧ RVs H ρ h ((us.map (fun kv => if kv.1 = x then (kv.1, v) else kv)).map (·.2)) ((setL x d kvs).map (·.2)) ∧ us.any (fun kv => kv.1 = x) = true
  | [], [], _, _, _, hl => by simp at hl
  | [], _ :: _, e, _, _, _ => by simp at e
  | _ :: _, [], e, _, _, _ => by simp at e
  | (y, u) :: us, (z, w') :: kvs, e, nd, r, hl => by
    simp only [List.map_cons, List.cons.injEq, List.nodup_cons] at e nd r
    obtain ⟨rfl, e⟩ := e
    cases r with
    | cons r1 rs =>
    unfold setL
    by_cases q : x = y
    · subst q
      have same : us.map (fun kv => if kv.1 = x then (kv.1, v) else kv) = us := by
        conv => rhs; rw [← List.map_id us]
        apply List.map_congr_left
        intro kv hkv
        have : kv.1 ≠ x := fun z => nd.1 (z ▸ List.mem_map_of_mem hkv)
        simp [this]
      rw [if_pos rfl]
      simp only [List.map_cons, if_true, same, e, List.any_cons, decide_true, Bool.true_or, and_true, true_and]
      exact .cons rv rs
    · rw [List.lookup_cons, beq_eq_false_iff_ne.mpr q] at hl
      obtain ⟨a, b, c⟩ := stored_setL rv e nd.2 rs hl
      rw [if_neg q]
      simp only [List.map_cons, if_neg (Ne.symm q), List.any_cons, c, Bool.or_true, and_true]
      exact ⟨by rw [a], .cons r1 b⟩
theorem lst_tup {vs ws : List Value} {n k : Nat} (z : tupO ws k = lstO vs n) {p : Prop} : p := by
  have := congrArg Obj.cls z; simp at this
theorem setitem_ok (R : Rel prog w C H st ρ s.heap) {o i v : Value} {x y d : V} (e : setItemV x y d st = some st') (ra : RV H ρ s.heap o x) (rb : RV H ρ s.heap i y) (rv : RV H ρ s.heap v d) {X : List Addr} {Q : Unit → Shared → Prop}
    (hq : ∀ h' tk', Step X ρ s.heap ρ h' → Rel prog w C H st' ρ h' → Q () { s with heap := h', toks := tk' }) : wpAny (model prog w) A (setItem o i v) Q E s := by
  obtain ⟨a, rfl, e⟩ := ref_some e
  rcases item_some e with ⟨ds, e1, e⟩ | ⟨kvs, e1, e⟩
  · obtain ⟨k, rfl, e⟩ := int_some e
    obtain ⟨j, ej, e3⟩ := Option.map_eq_some_iff.mp e
    subst e3
    obtain ⟨t, rfl⟩ := rb.int_inv
    obtain ⟨p, hp, rfl⟩ := ra.ref_inv
    obtain ⟨q, hq', hpp2, hl, us, n, ho, r⟩ := R.at e1
    obtain rfl := Option.some.inj (hq'.symm.trans hp)
    have hn : us.length ≤ sizeLine := by rw [r.length, sizeLine_eq]; omega
    refine setItem_listR ho (by rw [r.length]; exact ej) hn ?_
    obtain ⟨n', hget, hs⟩ := upd_list ho (·.setIfInBounds j v) (ws := us.set j v) (by simp)
    have S : Step X ρ s.heap ρ (s.heap.update q.1 (Obj.mapSeq (·.setIfInBounds j v))) :=
      Step.of_same hs (.inl (mem_adrs_of hp).1) ho (fun ws k z => lst_tup (Eq.symm z)) hget
    exact hq _ s.toks S (R.upd hp (.inl rfl) hs ⟨hpp2, by rw [List.length_set]; exact hl, _, _, hget, RVs.set (rv.mono ⟨[], (List.append_nil _).symm⟩ S.tup) j (r.mono ⟨[], (List.append_nil _).symm⟩ S.tup)⟩)
  · obtain ⟨k, rfl, e⟩ := str_some e
    obtain ⟨hsome, e⟩ := guard_some e
    obtain rfl := Option.some.inj e
    obtain ⟨t, rfl⟩ := rb.str_inv
    obtain ⟨p, hp, rfl⟩ := ra.ref_inv
    obtain ⟨q, hq', hpp2, hl, us, hd, hk, r⟩ := R.at e1
    obtain rfl := Option.some.inj (hq'.symm.trans hp)
    have hlen : us.length ≤ sizeLine := by
      have := congrArg List.length hk
      rw [List.length_map, List.length_map] at this
      rw [sizeLine_eq]; omega
    refine wpAny_setItem_pairs (strKind_is prog w _ _) hd (fun h' hd' hs => ?_) hlen
    obtain ⟨oo, _, _, ho, _, hdat, _⟩ := id hd
    obtain ⟨oo', _, _, ho', _⟩ := id hd'
    have S : Step X ρ s.heap ρ h' := Step.of_same hs (.inl (mem_adrs_of hp).1) ho (fun ws k z => by rw [z] at hdat; cases hdat) ho'
    have nd : (us.map (·.1)).Nodup := by obtain ⟨_, _, _, _, _, _, _, _, nd⟩ := hd; exact nd
    obtain ⟨z1, z2, z3⟩ := stored_setL (d := d) (rv.mono (ρ' := ρ) ⟨[], (List.append_nil _).symm⟩ S.tup) hk nd (r.mono (ρ' := ρ) ⟨[], (List.append_nil _).symm⟩ S.tup) hsome
    have hst : stored us k v = us.map (fun kv => if kv.1 = k then (kv.1, v) else kv) := by unfold stored; rw [if_pos (by simpa using z3)]
    exact hq _ _ S (R.upd hp (.inl rfl) hs ⟨hpp2, by rw [setL_len hsome]; exact hl, _, hd', by rw [hst]; exact z1, by rw [hst]; exact z2⟩)
theorem ref2_some {α : Type} {a b : V} {f : Nat → Nat → Option α} {r : α} (e : (match a, b with | .ref i, .ref j => f i j | _, _ => none) = some r) : ∃ i j, a = .ref i ∧ b = .ref j ∧ f i j = some r := by
  cases a with
  | ref i =>
    cases b with
    | ref j => exact ⟨i, j, rfl, rfl, e⟩
    | _ => exact no_some e
  | _ => exact no_some e
theorem splice_le {ds es : List V} (lo hi : Option Nat) (h1 : ds.length ≤ 5000) (h2 : ds.length + es.length ≤ 4096) : (splice ds lo hi es).length ≤ 5000 := by
  unfold splice
  rw [List.length_append, List.length_append, List.length_take, List.length_drop]
  have h3 := Nat.min_le_right (lo.getD 0) ds.length
  have h4 := Nat.le_max_left (min (lo.getD 0) ds.length) (min (hi.getD ds.length) ds.length)
  generalize min (lo.getD 0) ds.length = a at h3 h4 ⊢
  generalize max a _ = b at h4 ⊢
  have h5 := Nat.min_le_left a ds.length
  generalize min a ds.length = c at h5 ⊢
  omega
theorem setslice_ok (R : Rel prog w C H st ρ s.heap) {o vl vu v : Value} {sl : Addr} {x l u d : V} (e : setSliceV x l u d st = some st') (hs : s.heap.IsSliceOf sl vl vu .none) (ra : RV H ρ s.heap o x) (rl : RV H ρ s.heap vl l) (ru : RV H ρ s.heap vu u) (rv : RV H ρ s.heap v d) {X : List Addr}
    {Q : Unit → Shared → Prop} (hq : ∀ h' tk', Step X ρ s.heap ρ h' → Rel prog w C H st' ρ h' → Q () { s with heap := h', toks := tk' }) : wpAny (model prog w) A (setItem o (.ref sl) v) Q E s := by
  obtain ⟨lo, elo, e⟩ := Option.bind_eq_some_iff.mp e
  obtain ⟨hi, ehi, e⟩ := Option.bind_eq_some_iff.mp e
  have pl := bnd_part elo rl
  have pu := bnd_part ehi ru
  obtain ⟨a, b, rfl, rfl, e⟩ := ref2_some e
  obtain ⟨ds, es, e1, e2, e⟩ := list2_some e
  obtain ⟨hc, e⟩ := guard_some e
  obtain rfl := Option.some.inj e
  obtain ⟨p, hp, rfl⟩ := ra.ref_inv
  obtain ⟨q, hb, rfl⟩ := rv.ref_inv
  obtain ⟨p', hp', hpp2, hl, us, n, ho, r⟩ := R.at e1
  obtain rfl := Option.some.inj (hp'.symm.trans hp)
  obtain ⟨q', hq', _, _, us', n', ho', r'⟩ := R.at e2
  obtain rfl := Option.some.inj (hq'.symm.trans hb)
  have hne := (R.apart hp hb hc.1).1
  refine setSlice_listR ho ho' hne hs pl pu (by rw [r.length, r'.length]; exact hc.2) fun f hf => ?_
  obtain ⟨n'', hget, hsb⟩ := upd_list ho f hf
  have S : Step X ρ s.heap ρ (s.heap.update p'.1 (Obj.mapSeq f)) := Step.of_same hsb (.inl (mem_adrs_of hp).1) ho (fun ws k z => lst_tup (Eq.symm z)) hget
  have r1 := r.mono (ρ' := ρ) ⟨[], (List.append_nil _).symm⟩ S.tup
  have r2 := r'.mono (ρ' := ρ) ⟨[], (List.append_nil _).symm⟩ S.tup
  refine hq _ s.toks S (R.upd hp (.inl rfl) hsb ⟨hpp2, splice_le _ _ hl hc.2, _, _, hget, ?_⟩)
  rw [r.length]
  exact ((r1.take _).append r2).append (r1.drop _)
end
end Mine

set_option autoImplicit false
set_option linter.unusedVariables false
set_option maxRecDepth 100000
namespace Mine
open PySem PySem.W PyProof.Rows PySem.Calls

theorem bd_some {α β : Type} {x : Option (α × St)} {f : α → St → Option β} {r : β} (e : bd x f = some r) : ∃ a st, x = some (a, st) ∧ f a st = some r := by
  unfold bd at e
  split at e
  · exact ⟨_, _, rfl, e⟩
  · cases e

/-- the frame's names -/
noncomputable def Lc (H : Heap) (L : Addr) (ρ : Rho) (h : Heap) (loc : Loc) : Prop := (∃ m, h.Ns L m ∧ RM H ρ h m loc) ∧ L ∉ adrs ρ ∧ H.get? L = none
structure EnvOk (env : Env) (sc : Sc) : Prop where
  kind : env.scope.kind = .function
  names : env.scope.names = sc
  glob : env.globals = mainGlobals
  bui : env.builtins = builtinsNs
theorem Ns.noTup {h : Heap} {L : Addr} {m : Str → Option Value} (n : h.Ns L m) : ∃ o, h.get? L = some o ∧ ∀ vs k, o ≠ tupO vs k := by
  obtain ⟨o, es, ep, ho, hd, _⟩ := n
  exact ⟨o, ho, fun vs k z => by rw [z] at hd; cases hd⟩
theorem Lc.step {H : Heap} {L : Addr} {ρ ρ' : Rho} {h h' : Heap} {loc : Loc} (l : Lc H L ρ h loc) (S : Step [] ρ h ρ' h') : Lc H L ρ' h' loc := by
  obtain ⟨⟨m, n, r⟩, a, b⟩ := l
  obtain ⟨o, ho, _⟩ := Ns.noTup n
  refine ⟨⟨m, n.at' fun o e => S.keep _ _ e a (by simp), r.mono S.pre S.tup⟩, fun m' => ?_, b⟩
  rcases S.fresh _ m' with z | z
  · exact a z
  · rw [ho] at z; cases z

noncomputable def CRoom (n : Nat) (A : Around) : Prop := A.handled = none ∧ A.depth + 3 * n < 900 ∧ A.units + 20 * n + 90 < 9900
theorem Room.c {n : Nat} {A : Around} (r : Room n A) : CRoom n A := ⟨r.1, by have := r.2.1; omega, by have := r.2.2; omega⟩

section
variable (prog : Program) (w : World) (K : Frag) (C : Addr) (H : Heap)
/-- what a call of a def of the text's comes to -/
noncomputable def CallOk (n : Nat) (c : CallT) : Prop := ∀ (f : Fn) (args : List V) (st : St) (d : V) (st' : St), c f args st = some (d, st') → ∀ (A : Around) (s : Shared) (ρ : Rho) (a : Addr) (vs : List Value), CRoom n A → FnAt K f a → Rel prog w C H st ρ s.heap → RVs H ρ s.heap vs args →
  ∀ (R : Result → Shared → Prop), (∀ v ρ' h' tk', Step [] ρ s.heap ρ' h' → Rel prog w C H st' ρ' h' → RV H ρ' h' v d → R (.ok (.ret v)) { s with heap := h', toks := tk' }) → codeAny (model prog w) A (.call (.ref a) ⟨vs, []⟩) R s
noncomputable def EvOk (n : Nat) (c : CallT) (e : Expr) : Prop := ∀ (sc : Sc) (loc : Loc) (st : St) (d : V) (st' : St), ev c e sc loc st = some (d, st') → ∀ (A : Around) (env : Env) (ρ : Rho) (s : Shared), Room n A → EnvOk env sc → Rel prog w C H st ρ s.heap → Lc H env.locals ρ s.heap loc →
  ∀ (Q : Value → Shared → Prop) (E : Value → Shared → Prop), (∀ v ρ' h' tk', Step [] ρ s.heap ρ' h' → Rel prog w C H st' ρ' h' → RV H ρ' h' v d → Q v { s with heap := h', toks := tk' }) → wpAny (model prog w) A (eval e env) Q E s
noncomputable def EvsOk (n : Nat) (c : CallT) (es : List Expr) : Prop := ∀ (sc : Sc) (loc : Loc) (st : St) (ds : List V) (st' : St), evs c es sc loc st = some (ds, st') → ∀ (A : Around) (env : Env) (ρ : Rho) (s : Shared) (pos : Pos), Room n A → EnvOk env sc → Rel prog w C H st ρ s.heap → Lc H env.locals ρ s.heap loc →
  ∀ (Q : List Value → Shared → Prop) (E : Value → Shared → Prop), (∀ vs ρ' h' tk', Step [] ρ s.heap ρ' h' → Rel prog w C H st' ρ' h' → RVs H ρ' h' vs ds → Q vs { s with heap := h', toks := tk' }) → wpAny (model prog w) A (spliced (backTo pos (starEach es env))) Q E s
noncomputable def EvOOk (n : Nat) (c : CallT) (e : Option Expr) : Prop := ∀ (sc : Sc) (loc : Loc) (st : St) (d : V) (st' : St), evO c e sc loc st = some (d, st') → ∀ (A : Around) (env : Env) (ρ : Rho) (s : Shared), Room n A → EnvOk env sc → Rel prog w C H st ρ s.heap → Lc H env.locals ρ s.heap loc →
  ∀ (Q : Value → Shared → Prop) (E : Value → Shared → Prop), (∀ v ρ' h' tk', Step [] ρ s.heap ρ' h' → Rel prog w C H st' ρ' h' → RV H ρ' h' v d → Q v { s with heap := h', toks := tk' }) → wpAny (model prog w) A (evalPart e env) Q E s
noncomputable def EvTOk (n : Nat) (c : CallT) (e : Expr) : Prop := ∀ (sc : Sc) (loc : Loc) (st : St) (b : Bool) (st' : St), evT c e sc loc (ev c e sc loc) st = some (b, st') → ∀ (A : Around) (env : Env) (ρ : Rho) (s : Shared), Room n A → EnvOk env sc → Rel prog w C H st ρ s.heap → Lc H env.locals ρ s.heap loc →
  ∀ (Q : Bool → Shared → Prop) (E : Value → Shared → Prop), (∀ ρ' h' tk', Step [] ρ s.heap ρ' h' → Rel prog w C H st' ρ' h' → Q b { s with heap := h', toks := tk' }) → wpAny (model prog w) A (isTrue e env (eval e env)) Q E s
noncomputable def EvAllOk (n : Nat) (c : CallT) (op : BoolOp) (es : List Expr) : Prop := ∀ (sc : Sc) (loc : Loc) (st : St) (b : Bool) (st' : St), evAll c op es sc loc st = some (b, st') → ∀ (A : Around) (env : Env) (ρ : Rho) (s : Shared), Room n A → EnvOk env sc → Rel prog w C H st ρ s.heap → Lc H env.locals ρ s.heap loc →
  ∀ (Q : Bool → Shared → Prop) (E : Value → Shared → Prop), (∀ ρ' h' tk', Step [] ρ s.heap ρ' h' → Rel prog w C H st' ρ' h' → Q b { s with heap := h', toks := tk' }) → wpAny (model prog w) A (allTrue op es env) Q E s
noncomputable def EvBoolOk (n : Nat) (c : CallT) (op : BoolOp) (es : List Expr) : Prop := ∀ (sc : Sc) (loc : Loc) (st : St) (d : V) (st' : St), evBool c op es sc loc st = some (d, st') → ∀ (A : Around) (env : Env) (ρ : Rho) (s : Shared) (pos : Pos), Room n A → EnvOk env sc → Rel prog w C H st ρ s.heap → Lc H env.locals ρ s.heap loc →
  ∀ (Q : Value → Shared → Prop) (E : Value → Shared → Prop), (∀ v ρ' h' tk', Step [] ρ s.heap ρ' h' → Rel prog w C H st' ρ' h' → RV H ρ' h' v d → Q v { s with heap := h', toks := tk' }) → wpAny (model prog w) A (boolOp pos op (evalEach es env)) Q E s
end

section
variable {prog : Program} {w : World} {K : Frag} {C : Addr} {H : Heap} {mg mb : Str → Option Value} {n : Nat} {c : CallT}

theorem ev_Constant (k : Const) (j : Nat) (p : Pos) : EvOk prog w C H n c (.Constant k j p) := by
  intro sc loc st d st' e A env ρ s hR he R hL Q E hq
  cases k with
  | none => cases e; exact wpAny_Constant_none (hq _ ρ s.heap s.toks .refl R .none)
  | bool b => cases e; exact wpAny_Constant_bool (hq _ ρ s.heap s.toks .refl R (.bool b))
  | int i => cases e; exact wpAny_Constant_int (hq _ ρ s.heap _ .refl R (.int i _))
  | str x => cases e; exact wpAny_Constant_str (hq _ ρ s.heap _ .refl R (.str x _))
  | _ => cases e

theorem glob_load {env : Env} {sc : Sc} {A : Around} {s : Shared} {st : St} {ρ : Rho} {E : Value → Shared → Prop} (B : Base prog w K C H mg mb) (he : EnvOk env sc) (R : Rel prog w C H st ρ s.heap) {x : Str} {p : Pos} {v : Value} (hx : x ≠ Str.ofString "__debug__") (hk : sc.lookup x = some .globalImplicit)
    (hv : mg x = some v ∨ (mg x = none ∧ x ≠ Str.ofString "__name__" ∧ bootBuiltins x = some v)) {Q : Value → Shared → Prop} (h : Q v s) : wpAny (model prog w) A (eval (.Name x p) env) Q E s := by
  have hg : s.heap.Ns env.globals mg := by rw [he.glob]; exact B.g.keeps R.base
  have hb : s.heap.Ns env.builtins mb := by rw [he.bui]; exact B.b.keeps R.base
  have hkx : env.kindOf x = some .globalImplicit := by unfold Env.kindOf; rw [he.names]; exact hk
  refine Name_function_global he.kind hkx ?_ (beq_eq_false_iff_ne.mpr hx)
  rcases hv with hv | ⟨h1, h2, h3⟩
  · exact loadGlobal_global hg hv h
  · exact loadGlobal_builtin hg h1 hb ((B.bi x h2).trans h3) h
theorem ev_Name (B : Base prog w K C H mg mb) (x : Str) (p : Pos) : EvOk prog w C H n c (.Name x p) := by
  intro sc loc st d st' e A env ρ s hR he R hL Q E hq
  have e : (if x = Str.ofString "__debug__" then none else (match sc.lookup x with
    | some .local => (loc.lookup x).map (·, st)
    | some .globalImplicit => (globs.lookup x).map (·, st)
    | _ => none)) = some (d, st') := e
  by_cases hx : x = Str.ofString "__debug__"
  · rw [if_pos hx] at e; cases e
  · rw [if_neg hx] at e
    cases hk : sc.lookup x with
    | none => rw [hk] at e; cases e
    | some k =>
    rw [hk] at e
    cases k with
    | «local» =>
      obtain ⟨d', e1, e2⟩ := Option.map_eq_some_iff.mp e
      cases e2
      obtain ⟨⟨m, hn, hm⟩, _, _⟩ := hL
      obtain ⟨v, hv, rv⟩ := hm.get e1
      exact wpAny_Name (wpAny_loadName_local he.kind (by unfold Env.kindOf; rw [he.names]; exact hk) hn hv (hq v ρ s.heap s.toks .refl R rv)) (beq_eq_false_iff_ne.mpr hx)
    | globalImplicit =>
      obtain ⟨d', e1, e2⟩ := Option.map_eq_some_iff.mp e
      cases e2
      obtain ⟨v, hv, rv⟩ := B.glob x _ e1
      refine glob_load B he R hx hk (.inl hv) (hq v ρ s.heap s.toks .refl R (rv.mono (ρ' := ρ) ⟨ρ, by simp⟩ fun a vs n q => R.base _ _ q))
    | _ => cases e
theorem ev_BinOp {l r : Expr} {op : Operator} {p : Pos} (h1 : EvOk prog w C H n c l) (h2 : EvOk prog w C H n c r) : EvOk prog w C H n c (.BinOp l op r p) := by
  intro sc loc st d st' e A env ρ s hR he R hL Q E hq
  obtain ⟨x, st1, e1, e⟩ := bd_some e
  obtain ⟨y, st2, e2, e⟩ := bd_some e
  exact wpAny_BinOp (h1 _ _ _ _ _ e1 A env ρ s hR he R hL _ _ fun a ρ1 h1 t1 S1 R1 r1 => h2 _ _ _ _ _ e2 A env ρ1 _ hR he R1 (hL.step S1) _ _ fun b ρ2 h2 t2 S2 R2 r2 =>
    bin_ok R2 e (r1.mono S2.pre S2.tup) r2 fun v ρ3 h3 t3 S3 R3 r3 => hq v ρ3 h3 t3 (S1.trans (S2.trans S3)) R3 r3)
theorem truthV_some {v : Value} {d : V} {b : Bool} {ρ : Rho} {h : Heap} (e : truthV d = some b) (r : RV H ρ h v d) : v = .bool b := by
  unfold truthV at e
  split at e
  · cases e; cases r; rfl
  · cases e
theorem ev_UnaryOp {x : Expr} {op : UnaryOp} {p : Pos} (h1 : EvOk prog w C H n c x) : EvOk prog w C H n c (.UnaryOp op x p) := by
  intro sc loc st d st' e A env ρ s hR he R hL Q E hq
  obtain ⟨y, st1, e1, e⟩ := bd_some e
  refine wpAny_UnaryOp (h1 _ _ _ _ _ e1 A env ρ s hR he R hL _ _ fun a ρ1 h1 t1 S1 R1 r1 => ?_)
  cases op with
  | USub =>
    simp only at e
    split at e
    · cases e; cases r1; exact P.neg_int (hq _ ρ1 h1 _ S1 R1 (.int _ _))
    · cases e
  | Not =>
    simp only at e
    obtain ⟨b, e2, e3⟩ := Option.map_eq_some_iff.mp e
    cases e3
    rw [truthV_some e2 r1]
    exact not_value (wpAny_truthy_bool (hq _ ρ1 h1 t1 S1 R1 (.bool _)))
  | _ => cases e
theorem ev_IfExp {t b o : Expr} {p : Pos} (h1 : EvTOk prog w C H n c t) (h2 : EvOk prog w C H n c b) (h3 : EvOk prog w C H n c o) : EvOk prog w C H n c (.IfExp t b o p) := by
  intro sc loc st d st' e A env ρ s hR he R hL Q E hq
  obtain ⟨y, st1, e1, e⟩ := bd_some e
  refine wpAny_IfExp (h1 _ _ _ _ _ e1 A env ρ s hR he R hL _ _ fun ρ1 g1 t1 S1 R1 => ?_)
  cases y with
  | true =>
    rw [if_pos rfl] at e ⊢
    exact h2 _ _ _ _ _ e A env ρ1 _ hR he R1 (hL.step S1) _ _ fun v ρ2 g2 t2 S2 R2 r2 => hq v ρ2 g2 t2 (S1.trans S2) R2 r2
  | false =>
    rw [if_neg (by decide)] at e ⊢
    exact h3 _ _ _ _ _ e A env ρ1 _ hR he R1 (hL.step S1) _ _ fun v ρ2 g2 t2 S2 R2 r2 => hq v ρ2 g2 t2 (S1.trans S2) R2 r2
theorem evs_nil : EvsOk prog w C H n c [] := by
  intro sc loc st ds st' e A env ρ s pos hR he R hL Q E hq
  cases e
  exact wpAny_items_nil (hq [] ρ s.heap s.toks .refl R .nil)
theorem ev_star {e : Expr} {p : Pos} {sc : Sc} {loc : Loc} {st : St} : ev c (.Starred e p) sc loc st = none := rfl
theorem star_of {e : Expr} {sc : Sc} {loc : Loc} {st : St} {r : V × St} (h : ev c e sc loc st = some r) (rest : List Expr) (env : Env) : starEach (e :: rest) env = (false, eval e env) :: starEach rest env := by
  cases e <;> first | rfl | (rw [ev_star] at h; cases h)
theorem evs_cons {e : Expr} {es : List Expr} (h1 : EvOk prog w C H n c e) (h2 : EvsOk prog w C H n c es) : EvsOk prog w C H n c (e :: es) := by
  intro sc loc st ds st' q A env ρ s pos hR he R hL Q E hq
  obtain ⟨y, st1, e1, q⟩ := bd_some q
  obtain ⟨ys, st2, e2, q⟩ := bd_some q
  cases q
  exact wpAny_items_cons (h1 _ _ _ _ _ e1 A env ρ s hR he R hL _ _ fun v ρ1 g1 t1 S1 R1 r1 => h2 _ _ _ _ _ e2 A env ρ1 _ pos hR he R1 (hL.step S1) _ _ fun vs ρ2 g2 t2 S2 R2 r2 =>
    hq _ ρ2 g2 t2 (S1.trans S2) R2 (.cons (r1.mono S2.pre S2.tup) r2)) (star_of e1 es env)
theorem ev_List {es : List Expr} {p : Pos} (h : EvsOk prog w C H n c es) : EvOk prog w C H n c (.List es p) := by
  intro sc loc st d st' e A env ρ s hR he R hL Q E hq
  obtain ⟨ys, st1, e1, e⟩ := bd_some e
  exact wpAny_List (h _ _ _ _ _ e1 A env ρ s p hR he R hL _ _ fun vs ρ1 g1 t1 S1 R1 r1 =>
    mkList_ok (s := { s with heap := g1, toks := t1 }) R1 e r1 fun ρ2 g2 _ _ S2 R2 r2 => hq _ ρ2 g2 t1 (S1.trans S2) R2 r2)
theorem ev_Tuple {es : List Expr} {k : Nat} {p : Pos} (h : EvsOk prog w C H n c es) : EvOk prog w C H n c (.Tuple es k p) := by
  intro sc loc st d st' e A env ρ s hR he R hL Q E hq
  obtain ⟨ys, st1, e1, e⟩ := bd_some e
  split at e
  · rename_i hl
    cases e
    refine wpAny_Tuple (h _ _ _ _ _ e1 A env ρ s p hR he R hL _ _ fun vs ρ1 g1 t1 S1 R1 r1 => ?_)
    obtain ⟨R2, S2, r2⟩ := tup_new R1 r1 (by omega)
    exact ⟨size_ok r1 hl, hq _ ρ1 _ t1 (S1.trans S2) R2 r2⟩
  · cases e
theorem ev_Compare1 {l r : Expr} {op : CmpOp} {p : Pos} (h1 : EvOk prog w C H n c l) (h2 : EvOk prog w C H n c r) : EvOk prog w C H n c (.Compare l [op] [r] p) := by
  intro sc loc st d st' e A env ρ s hR he R hL Q E hq
  obtain ⟨x, st1, e1, e⟩ := bd_some e
  obtain ⟨y, st2, e2, e⟩ := bd_some e
  obtain ⟨b, e3, e4⟩ := Option.map_eq_some_iff.mp e
  cases e4
  exact wpAny_Compare1 (h1 _ _ _ _ _ e1 A env ρ s hR he R hL _ _ fun a ρ1 g1 t1 S1 R1 r1 => h2 _ _ _ _ _ e2 A env ρ1 _ hR he R1 (hL.step S1) _ _ fun b ρ2 g2 t2 S2 R2 r2 =>
    cmp_ok (s := { s with heap := g2, toks := t2 }) hR R2 e3 (r1.mono S2.pre S2.tup) r2 (hq _ ρ2 g2 t2 (S1.trans S2) R2 (.bool _))) (marks_of e3 r)
/-! ## tests -/
theorem evT_Not {x : Expr} {p : Pos} (h1 : EvTOk prog w C H n c x) : EvTOk prog w C H n c (.UnaryOp .Not x p) := by
  intro sc loc st d st' e A env ρ s hR he R hL Q E hq
  obtain ⟨y, st1, e1, e⟩ := bd_some e
  cases e
  exact wpAny_isTrue_Not (h1 _ _ _ _ _ e1 A env ρ s hR he R hL _ _ fun ρ1 g1 t1 S1 R1 => hq ρ1 g1 t1 S1 R1)
theorem evT_BoolOp {op : BoolOp} {es : List Expr} {p : Pos} (h1 : EvAllOk prog w C H n c op es) : EvTOk prog w C H n c (.BoolOp op es p) := by
  intro sc loc st d st' e A env ρ s hR he R hL Q E hq
  exact wpAny_isTrue_BoolOp (h1 _ _ _ _ _ e A env ρ s hR he R hL _ _ hq)
theorem evT_Compare1 {l r : Expr} {op : CmpOp} {p : Pos} (h1 : EvOk prog w C H n c l) (h2 : EvOk prog w C H n c r) : EvTOk prog w C H n c (.Compare l [op] [r] p) := by
  intro sc loc st d st' e A env ρ s hR he R hL Q E hq
  obtain ⟨x, st1, e1, e⟩ := bd_some e
  obtain ⟨y, st2, e2, e⟩ := bd_some e
  obtain ⟨b, e3, e4⟩ := Option.map_eq_some_iff.mp e
  cases e4
  exact wpAny_isTrue_Compare1 (h1 _ _ _ _ _ e1 A env ρ s hR he R hL _ _ fun a ρ1 g1 t1 S1 R1 r1 => h2 _ _ _ _ _ e2 A env ρ1 _ hR he R1 (hL.step S1) _ _ fun b ρ2 g2 t2 S2 R2 r2 =>
    cmp_ok (s := { s with heap := g2, toks := t2 }) hR R2 e3 (r1.mono S2.pre S2.tup) r2 (wpAny_truthy_bool (hq ρ2 g2 t2 (S1.trans S2) R2))) (marks_of e3 r)
theorem evT_whole {e : Expr} (h1 : EvOk prog w C H n c e) (ht : ∀ sc loc whole st, evT c e sc loc whole st = bd (whole st) fun v st => (truthV v).map (·, st)) (hi : ∀ env whole, isTrue e env whole = (do let v ← whole; standAt e.pos; holding [v] (truthy v))) : EvTOk prog w C H n c e := by
  intro sc loc st d st' q A env ρ s hR he R hL Q E hq
  rw [ht] at q
  obtain ⟨y, st1, e1, q⟩ := bd_some q
  obtain ⟨b, e3, e4⟩ := Option.map_eq_some_iff.mp q
  cases e4
  refine wpAny_isTrue_value (h1 _ _ _ _ _ e1 A env ρ s hR he R hL _ _ fun a ρ1 g1 t1 S1 R1 r1 => ?_) (hi _ _)
  rw [truthV_some e3 r1]
  exact wpAny_truthy_bool (hq ρ1 g1 t1 S1 R1)
theorem evAll_nil {op : BoolOp} : EvAllOk prog w C H n c op [] := by
  intro sc loc st d st' e A env ρ s hR he R hL Q E hq
  cases e
  cases op with
  | And => exact wpAny_allTrue_And_nil (hq ρ s.heap s.toks .refl R)
  | Or => exact wpAny_allTrue_Or_nil (hq ρ s.heap s.toks .refl R)
theorem evAll_cons {op : BoolOp} {e : Expr} {es : List Expr} (h1 : EvTOk prog w C H n c e) (h2 : EvAllOk prog w C H n c op es) : EvAllOk prog w C H n c op (e :: es) := by
  intro sc loc st d st' q A env ρ s hR he R hL Q E hq
  obtain ⟨b, st1, e1, q⟩ := bd_some q
  cases op with
  | And =>
    refine wpAny_allTrue_And_cons (h1 _ _ _ _ _ e1 A env ρ s hR he R hL _ _ fun ρ1 g1 t1 S1 R1 => ?_)
    cases b with
    | true => rw [if_pos (by rfl)] at q; rw [if_pos rfl]; exact h2 _ _ _ _ _ q A env ρ1 _ hR he R1 (hL.step S1) _ _ fun ρ2 g2 t2 S2 R2 => hq ρ2 g2 t2 (S1.trans S2) R2
    | false => rw [if_neg (by decide)] at q; rw [if_neg (by decide)]; cases q; exact hq ρ1 g1 t1 S1 R1
  | Or =>
    refine wpAny_allTrue_Or_cons (h1 _ _ _ _ _ e1 A env ρ s hR he R hL _ _ fun ρ1 g1 t1 S1 R1 => ?_)
    cases b with
    | true => rw [if_neg (by decide)] at q; rw [if_pos rfl]; cases q; exact hq ρ1 g1 t1 S1 R1
    | false => rw [if_pos (by decide)] at q; rw [if_neg (by decide)]; exact h2 _ _ _ _ _ q A env ρ1 _ hR he R1 (hL.step S1) _ _ fun ρ2 g2 t2 S2 R2 => hq ρ2 g2 t2 (S1.trans S2) R2
theorem evBool_one {op : BoolOp} {e : Expr} (h1 : EvOk prog w C H n c e) : EvBoolOk prog w C H n c op [e] := by
  intro sc loc st d st' q A env ρ s pos hR he R hL Q E hq
  obtain ⟨b, st1, e1, q⟩ := bd_some q
  cases q
  exact h1 _ _ _ _ _ e1 A env ρ s hR he R hL _ _ hq
theorem evBool_cons {op : BoolOp} {e f : Expr} {es : List Expr} (h1 : EvOk prog w C H n c e) (h2 : EvBoolOk prog w C H n c op (f :: es)) : EvBoolOk prog w C H n c op (e :: f :: es) := by
  intro sc loc st d st' q A env ρ s pos hR he R hL Q E hq
  obtain ⟨y, st1, e1, q⟩ := bd_some q
  simp only at q
  obtain ⟨b, e2, q⟩ := Option.bind_eq_some_iff.mp q
  show wpAny _ A (do
    let v ← eval e env
    standAt pos
    let t ← holding [v] (truthy v)
    match op, t with
    | .And, false | .Or, true => pure v
    | _, _ => boolOp pos op (evalEach (f :: es) env)) Q E s
  refine wpAny_bind (h1 _ _ _ _ _ e1 A env ρ s hR he R hL _ _ fun v ρ1 g1 t1 S1 R1 r1 => wpAny_bind (wpAny_standAt (wpAny_bind (wpAny_holding ?_))))
  rw [truthV_some e2 r1]
  refine wpAny_truthy_bool ?_
  have go : evBool c op (f :: es) sc loc st1 = some (d, st') → wpAny (model prog w) A (boolOp pos op (evalEach (f :: es) env)) Q E { s with heap := g1, toks := t1 } := fun q =>
    h2 _ _ _ _ _ q A env ρ1 _ pos hR he R1 (hL.step S1) _ _ fun u ρ2 g2 t2 S2 R2 r2 => hq u ρ2 g2 t2 (S1.trans S2) R2 r2
  have rb : v = .bool b := truthV_some e2 r1
  cases op <;> cases b <;> simp only [goesOn, Bool.not_true, Bool.not_false, if_true, if_false, Bool.false_eq_true] at q <;>
    first
    | exact go q
    | (cases q; exact wpAny_pure (hq _ ρ1 g1 t1 S1 R1 (rb ▸ r1)))
theorem ev_BoolOp {op : BoolOp} {es : List Expr} {p : Pos} (h : EvBoolOk prog w C H n c op es) : EvOk prog w C H n c (.BoolOp op es p) := by
  intro sc loc st d st' e A env ρ s hR he R hL Q E hq
  exact h _ _ _ _ _ e A env ρ s p hR he R hL _ _ hq
theorem evO_ok {o : Option Expr} (h : ∀ e, o = some e → EvOk prog w C H n c e) : EvOOk prog w C H n c o := by
  intro sc loc st d st' q A env ρ s hR he R hL Q E hq
  cases o with
  | none => cases q; exact wpAny_pure (hq _ ρ s.heap s.toks .refl R .none)
  | some e => exact h e rfl _ _ _ _ _ q A env ρ s hR he R hL _ _ hq
end
end Mine

set_option autoImplicit false
set_option linter.unusedVariables false
set_option maxRecDepth 100000
namespace Mine
open PySem PySem.W PyProof.Rows PySem.Calls

section
variable {prog : Program} {w : World} {K : Frag} {C : Addr} {H : Heap} {mg mb : Str → Option Value} {n : Nat} {c : CallT}

theorem evT_Compare2 {l r₁ r₂ : Expr} {op₁ op₂ : CmpOp} {p : Pos} (h1 : EvOk prog w C H n c l) (h2 : EvOk prog w C H n c r₁) (h3 : EvOk prog w C H n c r₂) : EvTOk prog w C H n c (.Compare l [op₁, op₂] [r₁, r₂] p) := by
  intro sc loc st d st' e A env ρ s hR he R hL Q E hq
  obtain ⟨x, st1, e1, e⟩ := bd_some e
  obtain ⟨y, st2, e2, e⟩ := bd_some e
  obtain ⟨b, e3, e⟩ := Option.bind_eq_some_iff.mp e
  have hm : lastMarks [op₁, op₂] [r₁, r₂] = false := by
    cases b with
    | true =>
      obtain ⟨z, st3, e4, e⟩ := bd_some (f := fun d st => (cmpV op₂ y d st).map (·, st)) e
      obtain ⟨b', e5, _⟩ := Option.map_eq_some_iff.mp e
      exact marks_of e5 r₂
    | false => exact marks_no (eq_false_of_ne_true (nguard_some e).1) r₂
  refine isTrue_chain (h1 _ _ _ _ _ e1 A env ρ s hR he R hL _ _ fun a ρ1 g1 t1 S1 R1 r1 => test_link (h2 _ _ _ _ _ e2 A env ρ1 _ hR he R1 (hL.step S1) _ _ fun b' ρ2 g2 t2 S2 R2 r2 =>
    cmp_ok (s := { s with heap := g2, toks := t2 }) hR R2 e3 (r1.mono S2.pre S2.tup) r2 (wpAny_truthy_bool ?_))) hm
  cases b with
  | true =>
    rw [if_pos rfl] at e ⊢
    obtain ⟨z, st3, e4, e⟩ := bd_some e
    obtain ⟨b', e5, e6⟩ := Option.map_eq_some_iff.mp e
    cases e6
    exact test_last (h3 _ _ _ _ _ e4 A env ρ2 _ hR he R2 (hL.step (S1.trans S2)) _ _ fun d ρ3 g3 t3 S3 R3 r3 =>
      cmp_ok (s := { s with heap := g3, toks := t3 }) hR R3 e5 (r2.mono S3.pre S3.tup) r3 (wpAny_truthy_bool (hq ρ3 g3 t3 (S1.trans (S2.trans S3)) R3)))
  | false =>
    rw [if_neg (by decide)] at e ⊢
    cases (nguard_some e).2; exact hq ρ2 g2 t2 (S1.trans S2) R2

theorem base_attr {o : Expr} (h : baseOk o = true) (a : Str) (env : Env) (t : Sem Value) : attributeBase o a env t = t := by
  cases o <;> first | rfl | exact no_true h
theorem ev_Attribute (B : Base prog w K C H mg mb) {o : Expr} {a : Str} {p : Pos} (h1 : EvOk prog w C H n c o) : EvOk prog w C H n c (.Attribute o a p) := by
  intro sc loc st d st' e A env ρ s hR he R hL Q E hq
  obtain ⟨hb, e⟩ := guard_some e
  · obtain ⟨x, st1, e1, e⟩ := bd_some e
    rw [arm_eval_Attribute, base_attr hb]
    refine wpAny_bind (h1 _ _ _ _ _ e1 A env ρ s hR he R hL _ _ fun u ρ1 g1 t1 S1 R1 r1 => wpAny_bind (wpAny_standAt (wpAny_bind (wpAny_holding ?_))))
    exact attr_ok (s := { s with heap := g1, toks := t1 }) B R1 e r1 fun v t2 R2 r2 => wpAny_bind (wpAny_letTemporaryGo (wpAny_pure (hq v ρ1 g1 t2 S1 R2 r2)))
theorem ev_Subscript_item {o i : Expr} {p : Pos} (h1 : EvOk prog w C H n c o) (h2 : EvOk prog w C H n c i)
    (hi : ∀ sc loc st, ev c (.Subscript o i p) sc loc st = bd (ev c o sc loc st) fun ov st => bd (ev c i sc loc st) fun iv st => getItemV ov iv st) : EvOk prog w C H n c (.Subscript o i p) := by
  intro sc loc st d st' e A env ρ s hR he R hL Q E hq
  rw [hi] at e
  obtain ⟨x, st1, e1, e⟩ := bd_some e
  obtain ⟨y, st2, e2, e⟩ := bd_some e
  exact Subscript_ok (h1 _ _ _ _ _ e1 A env ρ s hR he R hL _ _ fun a ρ1 g1 t1 S1 R1 r1 => h2 _ _ _ _ _ e2 A env ρ1 _ hR he R1 (hL.step S1) _ _ fun b ρ2 g2 t2 S2 R2 r2 =>
    item_ok (s := { s with heap := g2, toks := t2 }) R2 e (r1.mono S2.pre S2.tup) r2 fun v t3 R3 r3 => hq v ρ2 g2 t3 (S1.trans S2) R3 r3)
/-- a slice object, of two bounds -/
theorem slice_made {A : Around} {env : Env} {ρ : Rho} {s : Shared} {sc : Sc} {loc : Loc} {st st1 st2 : St} {lv uv : V} {l u : Option Expr} {p : Pos} {Q : Value → Shared → Prop} {E : Value → Shared → Prop} (h1 : EvOOk prog w C H n c l) (h2 : EvOOk prog w C H n c u)
    (e1 : evO c l sc loc st = some (lv, st1)) (e2 : evO c u sc loc st1 = some (uv, st2)) (hR : Room n A) (he : EnvOk env sc) (R : Rel prog w C H st ρ s.heap) (hL : Lc H env.locals ρ s.heap loc)
    (hq : ∀ a vl vu ρ' h' tk', Step [] ρ s.heap ρ' h' → Rel prog w C H st2 ρ' h' → h'.IsSliceOf a vl vu .none → RV H ρ' h' vl lv → RV H ρ' h' vu uv → Q (.ref a) { s with heap := h', toks := tk' }) :
    wpAny (model prog w) A (eval (.Slice l u none p) env) Q E s := by
  refine wpAny_Slice (h1 _ _ _ _ _ e1 A env ρ s hR he R hL _ _ fun a ρ1 g1 t1 S1 R1 r1 => h2 _ _ _ _ _ e2 A env ρ1 _ hR he R1 (hL.step S1) _ _ fun b ρ2 g2 t2 S2 R2 r2 => ?_)
  rw [evalPart_none]
  refine wpAny_pure ?_
  have hk : ∀ a' o, g2.get? a' = some o → (g2.push { cls := .type "slice", data := .fields #[a, b, .none] }).get? a' = some o := fun a' o e => Heap.get?_push_of_some _ e
  have S3 : Step [] ρ2 g2 ρ2 (g2.push { cls := .type "slice", data := .fields #[a, b, .none] }) := Step.of_ext hk
  exact hq _ a b ρ2 _ t2 (S1.trans (S2.trans S3)) (R2.keeps hk) (Heap.IsSliceOf.new ..) ((r1.mono S2.pre S2.tup).mono S3.pre S3.tup) (r2.mono S3.pre S3.tup)
theorem ev_Subscript_slice {o : Expr} {l u : Option Expr} {q p : Pos} (h1 : EvOk prog w C H n c o) (h2 : EvOOk prog w C H n c l) (h3 : EvOOk prog w C H n c u) : EvOk prog w C H n c (.Subscript o (.Slice l u none q) p) := by
  intro sc loc st d st' e A env ρ s hR he R hL Q E hq
  obtain ⟨x, st1, e1, e⟩ := bd_some e
  obtain ⟨y, st2, e2, e⟩ := bd_some e
  obtain ⟨z, st3, e3, e⟩ := bd_some e
  refine Subscript_ok (h1 _ _ _ _ _ e1 A env ρ s hR he R hL _ _ fun a ρ1 g1 t1 S1 R1 r1 => slice_made h2 h3 e2 e3 hR he R1 (hL.step S1) fun k vl vu ρ2 g2 t2 S2 R2 hs r2 r3 => ?_)
  exact slice_ok (s := { s with heap := g2, toks := t2 }) R2 e hs (r1.mono S2.pre S2.tup) r2 r3 fun v ρ3 g3 S3 R3 r4 => hq v ρ3 g3 t2 (S1.trans (S2.trans S3)) R3 r4

theorem Rel.adopt {st : St} {ρ : Rho} {h : Heap} {p : Addr × Addr} {o : O} (R : Rel prog w C H st ρ h) (h1 : p.1 ∉ adrs ρ) (h2 : p.2 ∉ adrs ρ) (H1 : H.get? p.1 = none) (H2 : H.get? p.2 = none) (hr : RO prog w C H (ρ ++ [p]) h p o) : Rel prog w C H (st ++ [o]) (ρ ++ [p]) h := by
  refine ⟨by simp [R.len], ?_, fun i q o' hq ho => ?_, R.base, fun a m => ?_⟩
  · refine List.pairwise_append.mpr ⟨R.disj, List.pairwise_singleton _ _, fun q hq r hr => ?_⟩
    rw [List.mem_singleton.mp hr]
    have q1 := mem_adrs.mpr ⟨q, hq, .inl rfl⟩
    have q2 := mem_adrs.mpr ⟨q, hq, .inr rfl⟩
    exact ⟨fun z => h1 (z ▸ q1), fun z => h2 (z ▸ q1), fun z => h1 (z ▸ q2), fun z => h2 (z ▸ q2)⟩
  · rcases Nat.lt_trichotomy i ρ.length with l | l | l
    · rw [List.getElem?_append_left l] at hq
      rw [List.getElem?_append_left (by rw [← R.len]; exact l)] at ho
      exact (R.obj i q o' hq ho).mono ⟨_, rfl⟩ (fun a vs n e => e) (fun x e => e) fun x e => e
    · subst l
      rw [R.len] at ho
      simp only [List.getElem?_concat_length, Option.some.injEq] at hq ho
      subst hq ho
      exact hr
    · have : (ρ ++ [p])[i]? = none := List.getElem?_eq_none (by simp; omega)
      rw [this] at hq; cases hq
  · rw [adrs_append] at m
    rcases List.mem_append.mp m with m | m
    · exact R.above a m
    · have : a = p.1 ∨ a = p.2 := by simpa [adrs] using m
      rcases this with rfl | rfl
      · exact H1
      · exact H2
theorem Step.adopt {X : List Addr} {ρ ρ' : Rho} {h h' : Heap} {p : Addr × Addr} (S : Step X ρ h ρ' h') (h1 : h.get? p.1 = none) (h2 : h.get? p.2 = none) : Step X ρ h (ρ' ++ [p]) h' := by
  refine ⟨?_, fun a m => ?_, S.live, S.keep, S.tup⟩
  · obtain ⟨t, rfl⟩ := S.pre; exact ⟨t ++ [p], by simp⟩
  · rw [adrs_append] at m
    rcases List.mem_append.mp m with m | m
    · exact S.fresh a m
    · right
      have : a = p.1 ∨ a = p.2 := by simpa [adrs] using m
      rcases this with rfl | rfl
      · exact h1
      · exact h2
theorem Rel.notIn {st : St} {ρ : Rho} {h : Heap} (R : Rel prog w C H st ρ h) {a : Addr} (ha : h.get? a = none) : a ∉ adrs ρ := fun m => by
  obtain ⟨x, hx, _⟩ := R.alive m
  rw [ha] at hx; cases hx
theorem Rel.notH {st : St} {ρ : Rho} {h : Heap} (R : Rel prog w C H st ρ h) {a : Addr} (ha : h.get? a = none) : H.get? a = none := by
  cases e : H.get? a with
  | none => rfl
  | some o => rw [R.base a o e] at ha; cases ha
/-- a thing that lies aside stays aside -/
theorem Step.aside {X : List Addr} {ρ ρ' : Rho} {h h' : Heap} {a : Addr} {o : Obj} (S : Step X ρ h ρ' h') (ho : h.get? a = some o) (ha : a ∉ adrs ρ) (hX : a ∉ X) : h'.get? a = some o ∧ a ∉ adrs ρ' := by
  refine ⟨S.keep a o ho ha hX, fun m => ?_⟩
  rcases S.fresh a m with z | z
  · exact ha z
  · rw [ho] at z; cases z

theorem ev_Dict {k₁ k₂ : Str} {e₁ e₂ : Expr} {i₁ i₂ : Nat} {p₁ p₂ p : Pos} (h1 : EvOk prog w C H n c e₁) (h2 : EvOk prog w C H n c e₂) : EvOk prog w C H n c (.Dict [some (.Constant (.str k₁) i₁ p₁), some (.Constant (.str k₂) i₂ p₂)] [e₁, e₂] p) := by
  intro sc loc st d st' e A env ρ s hR he R hL Q E hq
  obtain ⟨x, st1, e1, e⟩ := bd_some e
  obtain ⟨y, st2, e2, e⟩ := bd_some e
  obtain ⟨hne, e⟩ := nguard_some e
  · obtain ⟨rfl, rfl⟩ := pair_some e
    let pairs : List (Sem Value × Sem Value) := [(eval (.Constant (.str k₁) i₁ p₁) env, do let x ← eval e₁ env; standAt p; pure x), (eval (.Constant (.str k₂) i₂ p₂) env, do let x ← eval e₂ env; standAt p; pure x)]
    refine wpAny_Dict_pairs (knd := strKind prog w) (pairs := pairs) rfl (by simp [pairs]) (by simp [pairs]) ?_
    have hk : ∀ a o, s.heap.get? a = some o → (s.heap.push { cls := .type "dict", data := .dict #[] }).get? a = some o := fun a o e => Heap.get?_push_of_some _ e
    have S0 : Step [] ρ s.heap ρ (s.heap.push { cls := .type "dict", data := .dict #[] }) := Step.of_ext hk
    have R0 := R.keeps hk
    have hD := fresh_size s.heap
    have D0 : (s.heap.push { cls := .type "dict", data := .dict #[] }).DictOf (strKind prog w) s.heap.objs.size [] := Heap.DictOf.new _
    refine evalPairs_cons (wpAny_Constant_str ?_)
    refine wpAny_bind (h1 _ _ _ _ _ e1 A env ρ _ hR he (R0 : Rel prog w C H st ρ _) (hL.step S0) _ _ fun u ρ1 g1 t1 S1 R1 r1 => wpAny_bind (wpAny_standAt (wpAny_pure ?_)))
    refine evalPairs_cons (wpAny_Constant_str ?_)
    refine wpAny_bind (h2 _ _ _ _ _ e2 A env ρ1 _ hR he R1 (hL.step (S0.trans S1)) _ _ fun v ρ2 g2 t2 S2 R2 r2 => wpAny_bind (wpAny_standAt (wpAny_pure (evalPairs_nil ?_))))
    have S12 := S1.trans S2
    obtain ⟨oD, esD, epD, hoD, hxD⟩ := id D0
    obtain ⟨hoD2, hnD2⟩ := S12.aside hoD (R.notIn hD) (by simp)
    refine ⟨[(k₁, u), (k₂, v)], ⟨by simp [PySem.strKind, Value.isStrOf], rfl, by simp [PySem.strKind, Value.isStrOf], rfl, trivial⟩, ⟨oD, esD, epD, hoD2, hxD⟩, fun g3 D3 hs3 => ?_⟩
    have hmer : merged [] [(k₁, u), (k₂, v)] = [(k₁, u), (k₂, v)] := by
      simp [merged, stored, hne]
    rw [hmer] at D3
    obtain ⟨o3, es3, ep3, ho3, hx3⟩ := id D3
    have hnt : ∀ ws k, oD ≠ tupO ws k := fun ws k z => by have := hxD.2.1; rw [z] at this; cases this
    have S3 : Step [s.heap.objs.size] ρ2 g2 ρ2 g3 := Step.of_same hs3 (.inr (by simp)) hoD2 hnt ho3
    have R3 : Rel prog w C H st2 ρ2 g3 := R2.sameBut hs3 hnD2 (R.notH hD) (fun ws k z => by rw [hoD2] at z; exact hnt ws k (Option.some.inj z))
    have Sall : Step [] ρ s.heap ρ2 g3 := ((S0.trans S12).nil.trans S3).drop hD
    have hr1 := (r1.mono S2.pre S2.tup).mono (ρ' := ρ2 ++ [(s.heap.objs.size, s.heap.objs.size)]) ⟨_, rfl⟩ S3.tup
    have hr2 := r2.mono (ρ' := ρ2 ++ [(s.heap.objs.size, s.heap.objs.size)]) ⟨_, rfl⟩ S3.tup
    have R4 := R3.adopt (p := (s.heap.objs.size, s.heap.objs.size)) (o := .dict [(k₁, x), (k₂, y)]) hnD2 hnD2 (R.notH hD) (R.notH hD) ⟨rfl, by simp, _, D3, rfl, .cons hr1 (.cons hr2 .nil)⟩
    refine hq _ _ g3 _ (Sall.adopt hD hD) R4 ?_
    exact RV.ref (p := (s.heap.objs.size, s.heap.objs.size)) (by rw [← R2.len]; simp)

/-! ## calls -/
theorem plain_args {env : Env} {sc : Sc} {loc : Loc} {pos : Pos} : ∀ {args : List Expr} {st : St} {r : List V × St}, evs c args sc loc st = some r → (backTo pos (starEach args env)).any (·.1) = false
  | [], _, _, _ => rfl
  | e :: es, st, r, h => by
    obtain ⟨x, st1, e1, h⟩ := bd_some h
    obtain ⟨y, st2, e2, h⟩ := bd_some h
    rw [star_of e1]
    have := plain_args (env := env) (pos := pos) e2
    simpa [backTo] using this
theorem callWith_ok {A : Around} {env : Env} {ρ : Rho} {s : Shared} {sc : Sc} {loc : Loc} {st st' : St} {ds : List V} {args : List Expr} {pos : Pos} {f : Value} {first : List Value} {Q : Value → Shared → Prop} {E : Value → Shared → Prop} (h1 : EvsOk prog w C H n c args)
    (e1 : evs c args sc loc st = some (ds, st')) (hR : Room n A) (he : EnvOk env sc) (R : Rel prog w C H st ρ s.heap) (hL : Lc H env.locals ρ s.heap loc)
    (hk : ∀ h, H.StaysIn h → ∃ k, (k = Keeper.frame ∨ k = Keeper.machine ∨ k = Keeper.boundFrame) ∧ Looks (model prog w) h (keeperOf f) k)
    (hq : ∀ vs ρ' h' tk', Step [] ρ s.heap ρ' h' → Rel prog w C H st' ρ' h' → RVs H ρ' h' vs ds → wpAny (model prog w) A (call f (first ++ vs)) Q E { s with heap := h', toks := tk' }) :
    wpAny (model prog w) A (callWith pos f first (backTo pos (starEach args env)) []) Q E s := by
  have hp := plain_args (env := env) (pos := pos) e1
  refine callWith_of (P := fun h => H.StaysIn h) (by rw [hp]; rfl) hk ?_
  cases args with
  | nil =>
    cases e1
    exact evalArgs_nil3 ⟨R.base, hq [] ρ s.heap s.toks .refl R .nil⟩
  | cons e es =>
    have he1 : starEach (e :: es) env = (false, eval e env) :: starEach es env := by
      obtain ⟨x, st1, e2, _⟩ := bd_some e1
      exact star_of e2 es env
    have := h1 _ _ _ _ _ e1 A env ρ s pos hR he R hL (fun vs s' => H.StaysIn s'.heap ∧ wpAny (model prog w) A (call f (first ++ vs)) Q E s') E fun vs ρ' h' tk' S R' r => ⟨R'.base, hq vs ρ' h' tk' S R' r⟩
    rw [he1] at this ⊢
    exact evalArgs_plain this
theorem keep_bi (M : Model) (h : Heap) (id : String) : ∃ k, (k = Keeper.frame ∨ k = Keeper.machine ∨ k = Keeper.boundFrame) ∧ Looks M h (keeperOf (.builtin id)) k := ⟨.machine, .inr (.inl rfl), Looks.of_pure rfl⟩
theorem keep_ty (M : Model) (h : Heap) (id : String) : ∃ k, (k = Keeper.frame ∨ k = Keeper.machine ∨ k = Keeper.boundFrame) ∧ Looks M h (keeperOf (.type id)) k := ⟨.machine, .inr (.inl rfl), Looks.of_pure rfl⟩
theorem keep_fn {f : Fn} {a : Addr} (B : Base prog w K C H mg mb) (hf : FnAt K f a) (h : Heap) (hs : H.StaysIn h) : ∃ k, (k = Keeper.frame ∨ k = Keeper.machine ∨ k = Keeper.boundFrame) ∧ Looks (model prog w) h (keeperOf (.ref a)) k := by
  obtain ⟨oc, od, osl, fd, hK, _⟩ := hf
  exact keeps_K (K := K) (by unfold keepIn; dsimp only; rw [hK]) h (B.X.keeps hs)
theorem keep_cls (B : Base prog w K C H mg mb) (h : Heap) (hs : H.StaysIn h) : ∃ k, (k = Keeper.frame ∨ k = Keeper.machine ∨ k = Keeper.boundFrame) ∧ Looks (model prog w) h (keeperOf (.ref C)) k :=
  keeps_K (K := K) B.keeps h (B.X.keeps hs)

noncomputable def biVal (C : Addr) : Bi → Value
  | .max => .builtin "max" | .min => .builtin "min" | .len => .builtin "len" | .list => .type "list" | .int => .type "int" | .line => .ref C
theorem ref_at {st : St} {ρ : Rho} {h : Heap} {v : Value} {i : Nat} {o : O} (R : Rel prog w C H st ρ h) (r : RV H ρ h v (.ref i)) (e : st[i]? = some o) : ∃ p, ρ[i]? = some p ∧ v = .ref p.1 ∧ RO prog w C H ρ h p o := by
  cases r with
  | ref hp =>
  obtain ⟨q, hq, ho⟩ := R.at e
  have := Option.some.inj (hq.symm.trans hp); subst this
  exact ⟨_, hq, rfl, ho⟩
theorem list_case {A : Around} {s : Shared} {ρ : Rho} {st st' : St} {d : V} {E : Value → Shared → Prop} (R : Rel prog w C H st ρ s.heap) {Q : Value → Shared → Prop} (hq : ∀ v ρ' h' tk', Step [] ρ s.heap ρ' h' → Rel prog w C H st' ρ' h' → RV H ρ' h' v d → Q v { s with heap := h', toks := tk' })
    {T : String} {a : Addr} {o : Obj} {us : List Value} {k : Nat} {ds : List V} (hT : T = "list" ∨ T = "tuple") (ho : s.heap.get? a = some o) (hc : o.cls = .type T) (hd : o.data = .seq us.toArray k) (r : RVs H ρ s.heap us ds) (e : mkList ds st = some (d, st')) :
    wpAny (model prog w) A (call (.type "list") [.ref a]) Q E s := by
  obtain ⟨hl, e⟩ := guard_some e
  obtain ⟨rfl, rfl⟩ := pair_some e
  refine call_list_seq a hT ho hc hd (fun h' c' hk hn => ?_) (by rw [List.size_toArray]; exact size_ok r hl)
  obtain ⟨R', S⟩ := R.new (X := []) (p := (s.heap.objs.size, s.heap.objs.size)) (o := .list ds) hk (fresh_size _) (fresh_size _)
    ⟨rfl, by omega, us, c', hn, r.mono ⟨_, rfl⟩ fun a _ _ e => hk a _ e⟩
  refine hq _ _ h' s.toks S R' ?_
  exact RV.ref (p := (s.heap.objs.size, s.heap.objs.size)) (by rw [← R.len]; simp)
theorem two_ints {α : Type} {args : List V} {f : Int → Int → Option α} {r : α} (e : (match args with | [.int i, .int j] => f i j | _ => none) = some r) : ∃ i j, args = [.int i, .int j] ∧ f i j = some r := by
  match args with
  | [x, y] =>
    cases x with
    | int i => cases y with
      | int j => exact ⟨i, j, rfl, e⟩
      | _ => exact no_some e
    | _ => exact no_some e
  | [] => exact no_some e
  | [x] => cases x <;> exact no_some e
  | x :: y :: _ :: _ => cases x <;> first | exact no_some e | (cases y <;> exact no_some e)
theorem one_int {α : Type} {args : List V} {f : Int → Option α} {r : α} (e : (match args with | [.int i] => f i | _ => none) = some r) : ∃ i, args = [.int i] ∧ f i = some r := by
  match args with
  | [x] => cases x <;> first | exact ⟨_, rfl, e⟩ | exact no_some e
  | [] => exact no_some e
  | x :: _ :: _ => cases x <;> exact no_some e
theorem one_ref {α : Type} {args : List V} {f : Nat → Option α} {r : α} (e : (match args with | [.ref i] => f i | _ => none) = some r) : ∃ i, args = [.ref i] ∧ f i = some r := by
  match args with
  | [x] => cases x <;> first | exact ⟨_, rfl, e⟩ | exact no_some e
  | [] => exact no_some e
  | x :: _ :: _ => cases x <;> exact no_some e
theorem one_reftup {α : Type} {args : List V} {f : Nat → Option α} {g : List V → Option α} {r : α} (e : (match args with | [.ref i] => f i | [.tup vs] => g vs | _ => none) = some r) : (∃ i, args = [.ref i] ∧ f i = some r) ∨ ∃ vs, args = [.tup vs] ∧ g vs = some r := by
  match args with
  | [x] => cases x <;> first | exact .inl ⟨_, rfl, e⟩ | exact .inr ⟨_, rfl, e⟩ | exact no_some e
  | [] => exact no_some e
  | x :: _ :: _ => cases x <;> exact no_some e
theorem none_of {α : Type} {v : V} {a r : α} (e : (match v with | .none => some a | _ => none) = some r) : v = .none ∧ a = r := by
  cases v <;> first | exact ⟨rfl, Option.some.inj e⟩ | exact no_some e
theorem callBi_ok (B : Base prog w K C H mg mb) (hC : CallOk prog w K C H n c) {A : Around} {s : Shared} {ρ : Rho} {st st' : St} {d : V} {b : Bi} {args : List V} {vs : List Value} {E : Value → Shared → Prop} (e : callBi c b args st = some (d, st')) (hR : Room n A) (R : Rel prog w C H st ρ s.heap) (rs : RVs H ρ s.heap vs args)
    {Q : Value → Shared → Prop} (hq : ∀ v ρ' h' tk', Step [] ρ s.heap ρ' h' → Rel prog w C H st' ρ' h' → RV H ρ' h' v d → Q v { s with heap := h', toks := tk' }) : wpAny (model prog w) A (call (biVal C b) vs) Q E s := by
  cases b with
  | max =>
    obtain ⟨i, j, rfl, e⟩ := two_ints e
    obtain ⟨rfl, rfl⟩ := pair_some e
    obtain ⟨v, u, rfl, r1, r2⟩ := rs.two_inv
    obtain ⟨t, rfl⟩ := r1.int_inv
    obtain ⟨u, rfl⟩ := r2.int_inv
    refine max_two_ints hR.1 fun h' tk hk => ?_
    have fin : ∀ k u, k = max i j → Q (.int k u) { s with heap := h', toks := tk } := fun k u e => hq _ ρ h' tk (Step.of_ext hk) (R.keeps hk) (e ▸ .int _ _)
    by_cases hlt : j > i
    · rw [if_pos hlt]; exact fin _ _ (by omega)
    · rw [if_neg hlt]; exact fin _ _ (by omega)
  | min =>
    obtain ⟨i, j, rfl, e⟩ := two_ints e
    obtain ⟨rfl, rfl⟩ := pair_some e
    obtain ⟨v, u, rfl, r1, r2⟩ := rs.two_inv
    obtain ⟨t, rfl⟩ := r1.int_inv
    obtain ⟨u, rfl⟩ := r2.int_inv
    refine min_two_ints hR.1 fun h' tk hk => ?_
    have fin : ∀ k u, k = min i j → Q (.int k u) { s with heap := h', toks := tk } := fun k u e => hq _ ρ h' tk (Step.of_ext hk) (R.keeps hk) (e ▸ .int _ _)
    by_cases hlt : j < i
    · rw [if_pos hlt]; exact fin _ _ (by omega)
    · rw [if_neg hlt]; exact fin _ _ (by omega)
  | len =>
    obtain ⟨a, rfl, e⟩ := one_ref e
    obtain ⟨ds, e1, e⟩ := list_some e
    obtain ⟨rfl, rfl⟩ := pair_some e
    obtain ⟨v, rfl, r1⟩ := rs.one_inv
    obtain ⟨b, us, k, rfl, ho, r, hl⟩ := R.listAt r1 e1
    refine call_len_list ⟨_, ho, rfl, k, rfl⟩ (by rw [List.size_toArray, r.length]; omega) ?_
    rw [List.size_toArray, r.length]
    exact hq _ ρ s.heap _ .refl R (.int _ _)
  | list =>
    rcases one_reftup e with ⟨a, rfl, e⟩ | ⟨ds, rfl, e⟩
    · obtain ⟨ds, e1, e⟩ := list_some e
      obtain ⟨v, rfl, r1⟩ := rs.one_inv
      obtain ⟨b, us, k, rfl, ho, r, hl⟩ := R.listAt r1 e1
      exact list_case R hq (.inl rfl) ho rfl rfl r e
    · obtain ⟨v, rfl, r1⟩ := rs.one_inv
      obtain ⟨a, us, k, rfl, ha, r, _⟩ := r1.tup_inv
      exact list_case R hq (.inr rfl) ha rfl rfl r e
  | int =>
    obtain ⟨i, rfl, e⟩ := one_int e
    obtain ⟨rfl, rfl⟩ := pair_some e
    obtain ⟨v, rfl, r1⟩ := rs.one_inv
    obtain ⟨t, rfl⟩ := r1.int_inv
    exact call_int_int (hq _ ρ s.heap s.toks .refl R (.int _ _))
  | line =>
    obtain ⟨u, st1, e1, e2⟩ := bd_some e
    obtain ⟨rfl, e2⟩ := none_of e2
    obtain ⟨rfl, rfl⟩ := pair_some e2
    obtain ⟨aI, hI, hIt, hIf⟩ := B.init
    obtain ⟨h, g, dr, t, os⟩ := s
    have XK := B.now R
    refine wpAny_call (make_core (makes_of XK B.makes) (looks_findIn XK hI) (fun self => bind_fn XK self hIt) (.inl rfl) ?_)
    have hsz : (h.push emptyDict).objs.size = h.objs.size + 1 := Heap.size_push ..
    have hk : ∀ a o, h.get? a = some o → ((h.push emptyDict).push (instObj C h.objs.size)).get? a = some o := fun a o e => Heap.get?_push_of_some _ (Heap.get?_push_of_some _ e)
    have hn1 : h.get? (h.objs.size + 1) = none := by
      cases q : h.get? (h.objs.size + 1) with
      | none => rfl
      | some o => exact absurd (Heap.lt_size q) (Nat.not_lt.mpr (Nat.le_succ _))
    have g1 : ((h.push emptyDict).push (instObj C h.objs.size)).get? (h.objs.size + 1) = some (instObj C h.objs.size) := by rw [← hsz]; exact Heap.get?_push_size _ rfl
    have g2 : ((h.push emptyDict).push (instObj C h.objs.size)).get? h.objs.size = some emptyDict := Heap.get?_push_of_some _ (Heap.get?_push_size _ rfl)
    obtain ⟨R1, S1⟩ := R.new (X := []) (p := (h.objs.size + 1, h.objs.size)) (o := .inst []) hk hn1 (fresh_size h) ⟨by show h.objs.size ≠ h.objs.size + 1; omega, g1, [], 0, g2, .nil, .nil⟩
    have rself : RV H (ρ ++ [(h.objs.size + 1, h.objs.size)]) ((h.push emptyDict).push (instObj C h.objs.size)) (.ref (h.objs.size + 1)) (.ref st.length) :=
      RV.ref (p := (h.objs.size + 1, h.objs.size)) (by rw [← R.len]; simp)
    have hR' : CRoom n (A.under (.builtin "type.__call__" ⟨.ref C :: vs, []⟩)) := ⟨hR.1, by rw [depth_under_make]; have := hR.2.1; omega, by rw [units_under_make]; have := hR.2.2; omega⟩
    refine hC _ _ _ _ _ e1 _ _ (ρ ++ [(h.objs.size + 1, h.objs.size)]) aI _ hR' hIf R1 (.cons rself (rs.mono S1.pre S1.tup)) _ fun v ρ2 h2 t2 S2 R2 r2 => ?_
    obtain rfl := r2.none_inv
    exact ⟨rfl, hq _ ρ2 h2 t2 (S1.trans S2) R2 (rself.mono S2.pre S2.tup)⟩

theorem bis_val {x : Str} {b : Bi} (h : bis.lookup x = some b) (hx : x ≠ Str.ofString "Line") : x ≠ Str.ofString "__name__" ∧ bootBuiltins x = some (biVal C b) := by
  have := lookup_mem h
  simp only [bis, List.mem_cons, Prod.mk.injEq, List.not_mem_nil, or_false] at this
  rcases this with ⟨rfl, rfl⟩ | ⟨rfl, rfl⟩ | ⟨rfl, rfl⟩ | ⟨rfl, rfl⟩ | ⟨rfl, rfl⟩ | ⟨rfl, rfl⟩
  · exact ⟨by decide +kernel, by kernel_rfl⟩
  · exact ⟨by decide +kernel, by kernel_rfl⟩
  · exact ⟨by decide +kernel, by kernel_rfl⟩
  · exact ⟨by decide +kernel, by kernel_rfl⟩
  · exact ⟨by decide +kernel, by kernel_rfl⟩
  · exact absurd rfl hx
theorem bis_line {x : Str} {b : Bi} (h : bis.lookup x = some b) : x = Str.ofString "Line" → b = .line := by
  intro hx
  subst hx
  have : bis.lookup (Str.ofString "Line") = some .line := by kernel_rfl
  rw [this] at h
  cases h; rfl
theorem bis_line' {x : Str} {b : Bi} (h : bis.lookup x = some b) (hb : b = .line) : x = Str.ofString "Line" := by
  have := lookup_mem h
  subst hb
  simp only [bis, List.mem_cons, Prod.mk.injEq, List.not_mem_nil, or_false, reduceCtorEq, and_false, false_or, and_true] at this
  exact this
theorem keep_biVal {b : Bi} (hb : b ≠ .line) {M : Model} (h : Heap) : ∃ k, (k = Keeper.frame ∨ k = Keeper.machine ∨ k = Keeper.boundFrame) ∧ Looks M h (keeperOf (biVal C b)) k := by
  cases b <;> first | exact keep_bi _ _ _ | exact keep_ty _ _ _ | exact (hb rfl).elim
theorem callTop_some {x : Str} {args : List V} {st : St} {r : V × St} (e : callTop c x args st = some r) : (∃ f, tops.lookup x = some f ∧ c f args st = some r) ∨ ∃ b, bis.lookup x = some b ∧ callBi c b args st = some r := by
  unfold callTop at e
  cases hf : tops.lookup x with
  | some f => rw [hf] at e; exact .inl ⟨f, rfl, e⟩
  | none =>
    rw [hf] at e
    cases hb : bis.lookup x with
    | some b => rw [hb] at e; exact .inr ⟨b, rfl, e⟩
    | none => rw [hb] at e; exact no_some e
theorem ev_CallName (B : Base prog w K C H mg mb) (hC : CallOk prog w K C H n c) {x : Str} {q p : Pos} {args : List Expr} (h1 : EvsOk prog w C H n c args) : EvOk prog w C H n c (.Call (.Name x q) args [] p) := by
  intro sc loc st d st' e A env ρ s hR he R hL Q E hq
  obtain ⟨hk, e⟩ := guard_some e
  · obtain ⟨ds, st1, e1, e⟩ := bd_some e
    show wpAny _ A (do callWith p (← eval (.Name x q) env) [] (backTo p (starEach args env)) []) Q E s
    refine wpAny_bind ?_
    rcases callTop_some e with ⟨f, hf, e⟩ | ⟨b, hb, e⟩
    · obtain ⟨a, ha, hfa⟩ := B.top x f hf
      refine glob_load B he R hk.2 hk.1 (.inl ha) ?_
      exact callWith_ok h1 e1 hR he R hL (keep_fn B hfa) fun vs ρ1 g1 t1 S1 R1 r1 => wpAny_call (hC _ _ _ _ _ e A _ ρ1 a vs hR.c hfa R1 r1 _ fun v ρ2 g2 t2 S2 R2 r2 => hq v ρ2 g2 t2 (S1.trans S2) R2 r2)
    · have go : ∀ vs ρ1 g1 t1, Step [] ρ s.heap ρ1 g1 → Rel prog w C H st1 ρ1 g1 → RVs H ρ1 g1 vs ds → wpAny (model prog w) A (call (biVal C b) vs) Q E { s with heap := g1, toks := t1 } := fun vs ρ1 g1 t1 S1 R1 r1 =>
        callBi_ok (s := { s with heap := g1, toks := t1 }) B hC e hR R1 r1 fun v ρ2 g2 t2 S2 R2 r2 => hq v ρ2 g2 t2 (S1.trans S2) R2 r2
      by_cases hx : x = Str.ofString "Line"
      · have hbl := bis_line hb hx
        subst hbl
        refine glob_load B he R hk.2 hk.1 (.inl (hx ▸ B.cls)) ?_
        exact callWith_ok h1 e1 hR he R hL (keep_cls B) go
      · obtain ⟨hn, hv⟩ := bis_val (C := C) hb hx
        refine glob_load B he R hk.2 hk.1 (.inr ⟨B.bui x b hb hx, hn, hv⟩) ?_
        exact callWith_ok h1 e1 hR he R hL (fun h _ => keep_biVal (fun hbl => hx (bis_line' hb hbl)) h) go
end
end Mine

set_option autoImplicit false
set_option linter.unusedVariables false
set_option maxRecDepth 100000
namespace Mine
open PySem PySem.W PyProof.Rows PySem.Calls

section
variable {prog : Program} {w : World} {K : Frag} {C : Addr} {H : Heap} {mg mb : Str → Option Value} {n : Nat} {c : CallT}

theorem CallAttr_open {A : Around} {s : Shared} {env : Env} {o : Expr} {x : Str} {apos pos : Pos} {args : List Expr} {Q : Value → Shared → Prop} {E : Value → Shared → Prop} (hb : baseOk o = true) (hl : (apos.endLine == pos.line) = true) (hn : args.length < 20) (hp : (backTo pos (starEach args env)).any (·.1) = false)
    (h : wpAny (model prog w) A (eval o env) (fun ov s₁ => ∀ pl, wpAny (model prog w) A (getMethod ov x pl) (fun r s₂ => wpAny (model prog w) A (callWith pos r.1 r.2 (backTo pos (starEach args env)) []) Q E s₂) E s₁) E s) :
    wpAny (model prog w) A (eval (.Call (.Attribute o x apos) args [] pos) env) Q E s := by
  rw [arm_eval_Call, base_attr hb]
  refine wpAny_bind (wpAny_mono h (fun ov s₁ h₁ => wpAny_bind (wpAny_standAt ?_)) fun _ _ e => e)
  have hform : methodCallForm (args.length + ([] : List Keyword).length) (backTo pos (starEach args env)) (backToKw pos (keywordEach [] env)) = true := by
    unfold methodCallForm
    have e1 : (backTo pos (starEach args env)).all (fun x => !x.1) = true := by
      rw [List.all_eq_not_any_not]; simpa using hp
    rw [e1]
    show (true && true && decide (args.length + 0 + 0 < 30)) = true
    simp; omega
  have hpos : methodCallPos true o env apos pos = pure pos := by unfold methodCallPos; simp [hl]
  unfold methodCall
  rw [hform]
  refine wpAny_bind (wpAny_holding (wpAny_mono (h₁ _) (fun r s₂ h₂ => ?_) fun _ _ e => e))
  exact wpAny_bind (wpAny_of_eq hpos h₂)

theorem listStep {st : St} {ρ : Rho} {h : Heap} {X : List Addr} {a : Nat} {p : Addr × Addr} {vs ws : List Value} {ds : List V} {k : Nat} (R : Rel prog w C H st ρ h) (hp : ρ[a]? = some p) (h2 : p.2 = p.1) (ho : h.get? p.1 = some (lstO vs k)) (f : Array Value → Array Value) (hf : f vs.toArray = ws.toArray) (r : RVs H ρ h ws ds) (hl : ds.length ≤ 5000) :
    Step X ρ h ρ (h.update p.1 (Obj.mapSeq f)) ∧ Rel prog w C H (setO st a (.list ds)) ρ (h.update p.1 (Obj.mapSeq f)) := by
  obtain ⟨n', hget, hs⟩ := upd_list ho f hf
  have S : Step X ρ h ρ (h.update p.1 (Obj.mapSeq f)) := Step.of_same hs (.inl (mem_adrs_of hp).1) ho (fun ws k z => by have := congrArg Obj.cls z; simp at this) hget
  exact ⟨S, R.upd hp (.inl rfl) hs ⟨h2, hl, _, _, hget, r.mono ⟨[], by simp⟩ S.tup⟩⟩

theorem notLong {k : Nat} (h : k ≤ sizeLine) : Builtin.List.listTooLong k = false := by unfold Builtin.List.listTooLong; exact decide_eq_false (Nat.not_lt.mpr h)
theorem notLongE {b : Bool} {k : Nat} (h : k ≤ sizeLine) : ¬ (b && Builtin.List.listTooLong k) = true := by rw [notLong h, Bool.and_false]; exact Bool.false_ne_true
noncomputable def meVal : Lm → Value
  | .extend => .builtin "list.extend" | .append => .builtin "list.append" | .pop => .builtin "list.pop"
theorem ext_some {α : Type} {o : Option O} {args : List V} {f : List V → List V → Option α} {g : List V → Nat → Option α} {r : α} (e : (match o, args with | some (.list vs), [.tup ws] => f vs ws | some (.list vs), [.ref b] => g vs b | _, _ => none) = some r) :
    ∃ vs, o = some (.list vs) ∧ ((∃ ws, args = [.tup ws] ∧ f vs ws = some r) ∨ ∃ b, args = [.ref b] ∧ g vs b = some r) := by
  cases o with
  | none => exact no_some e
  | some o => cases o with
    | list vs =>
      match args with
      | [x] => cases x <;> first | exact ⟨vs, rfl, .inl ⟨_, rfl, e⟩⟩ | exact ⟨vs, rfl, .inr ⟨_, rfl, e⟩⟩ | exact no_some e
      | [] => exact no_some e
      | x :: _ :: _ => cases x <;> exact no_some e
    | _ => exact no_some e
theorem app_some {α : Type} {o : Option O} {args : List V} {f : List V → V → Option α} {r : α} (e : (match o, args with | some (.list vs), [v] => f vs v | _, _ => none) = some r) : ∃ vs v, o = some (.list vs) ∧ args = [v] ∧ f vs v = some r := by
  cases o with
  | none => exact no_some e
  | some o => cases o with
    | list vs =>
      match args with
      | [x] => exact ⟨vs, x, rfl, rfl, e⟩
      | [] => exact no_some e
      | x :: _ :: _ => exact no_some e
    | _ => exact no_some e
theorem pop0_some {α : Type} {o : Option O} {args : List V} {f g : List V → Option α} {r : α} (e : (match o, args with | some (.list vs), [] => f vs | some (.list vs), [.int 0] => g vs | _, _ => none) = some r) :
    ∃ vs, o = some (.list vs) ∧ ((args = [] ∧ f vs = some r) ∨ (args = [.int 0] ∧ g vs = some r)) := by
  cases o with
  | none => exact no_some e
  | some o => cases o with
    | list vs =>
      cases args with
      | nil => exact ⟨vs, rfl, .inl ⟨rfl, e⟩⟩
      | cons x xs =>
        cases x with
        | int k =>
          cases k with
          | ofNat k =>
            cases k with
            | zero => cases xs with
              | nil => exact ⟨vs, rfl, .inr ⟨rfl, e⟩⟩
              | cons y ys => exact no_some e
            | succ k => exact no_some e
          | negSucc k => exact no_some e
        | _ => exact no_some e
    | _ => exact no_some e
theorem last_some {vs : List V} {st' : St} {r : V × St} (e : (match vs.getLast? with | some v => some (v, st') | none => none) = some r) : ∃ v, vs.getLast? = some v ∧ (v, st') = r := by
  cases h : vs.getLast? with
  | none => rw [h] at e; exact no_some e
  | some v => rw [h] at e; exact ⟨v, rfl, Option.some.inj e⟩
theorem first_some {vs : List V} {f : List V → St} {r : V × St} (e : (match vs with | v :: r => some (v, f r) | [] => none) = some r) : ∃ v ws, vs = v :: ws ∧ (v, f ws) = r := by
  cases vs with
  | nil => exact no_some e
  | cons v ws => exact ⟨v, ws, rfl, Option.some.inj e⟩
theorem callLm_ok {A : Around} {s : Shared} {ρ : Rho} {st st' : St} {d : V} {m : Lm} {a : Nat} {p : Addr × Addr} {args : List V} {vs : List Value} {E : Value → Shared → Prop} (e : callMe c (.list m a) args st = some (d, st')) (R : Rel prog w C H st ρ s.heap) (hp : ρ[a]? = some p) (rs : RVs H ρ s.heap vs args)
    {Q : Value → Shared → Prop} (hq : ∀ v ρ' h' tk', Step [] ρ s.heap ρ' h' → Rel prog w C H st' ρ' h' → RV H ρ' h' v d → Q v { s with heap := h', toks := tk' }) : wpAny (model prog w) A (call (meVal m) ([.ref p.1] ++ vs)) Q E s := by
  have lst : ∀ {ds : List V}, st[a]? = some (.list ds) → p.2 = p.1 ∧ ∃ us k, s.heap.get? p.1 = some (lstO us k) ∧ RVs H ρ s.heap us ds ∧ ds.length ≤ 5000 ∧ us.toArray.size ≤ sizeLine := by
    intro ds e1
    obtain ⟨q', hq', h2, hl, us, k, ho, r⟩ := R.at e1
    obtain rfl := Option.some.inj (hq'.symm.trans hp)
    exact ⟨h2, us, k, ho, r, hl, by rw [List.size_toArray, r.length, sizeLine_eq]; omega⟩
  cases m with
  | extend =>
    obtain ⟨ds, e1, q⟩ := ext_some e
    clear e
    obtain ⟨h2, us, k, ho, r', hl, hz1⟩ := lst e1
    have sz : ∀ {ws : List Value} {es : List V}, RVs H ρ s.heap ws es → ds.length + es.length ≤ 4096 → us.toArray.size + ws.toArray.size ≤ sizeLine := fun {ws es} r hlen => by
      rw [List.size_toArray, List.size_toArray, r'.length, r.length, sizeLine_eq]; omega
    rcases q with ⟨es, rfl, q⟩ | ⟨b, rfl, q⟩
    · obtain ⟨hlen, q⟩ := guard_some q
      obtain ⟨rfl, rfl⟩ := pair_some q
      obtain ⟨v, rfl, r1⟩ := rs.one_inv
      obtain ⟨b, ws, kk, rfl, ha, r, _⟩ := r1.tup_inv
      obtain ⟨S, R'⟩ := listStep (X := []) R hp h2 ho (· ++ ws.toArray) (ws := us ++ ws) (List.append_toArray us ws) (r'.append r) (by rw [List.length_append]; omega)
      exact call_meets F.slot_list_extend ⟨_, ho, rfl⟩ F.entry_list_extend (F.args_list_extend_2 _ _) (AutoSeq1.list_extend_list_tuple_0 p.1 us.toArray k b ws.toArray kk (notLongE (sz r hlen)) hz1 (Nat.le_succ_of_le (sz r hlen))) ⟨ho, ha, hq _ ρ _ s.toks S R' .none⟩
    · obtain ⟨es, e2, q⟩ := list_some q
      obtain ⟨hlen, q⟩ := guard_some q
      obtain ⟨rfl, rfl⟩ := pair_some q
      obtain ⟨v, rfl, r1⟩ := rs.one_inv
      obtain ⟨b, ws, kk, rfl, ha, r, _⟩ := R.listAt r1 e2
      obtain ⟨S, R'⟩ := listStep (X := []) R hp h2 ho (· ++ ws.toArray) (ws := us ++ ws) (List.append_toArray us ws) (r'.append r) (by rw [List.length_append]; omega)
      exact call_meets F.slot_list_extend ⟨_, ho, rfl⟩ F.entry_list_extend (F.args_list_extend_2 _ _) (AutoSeq1.list_extend_list_list_0 p.1 us.toArray k b ws.toArray kk (notLongE (sz r hlen)) hz1 (Nat.le_succ_of_le (sz r hlen))) ⟨ho, ha, hq _ ρ _ s.toks S R' .none⟩
  | append =>
    obtain ⟨ds, x, e1, rfl, q⟩ := app_some e
    clear e
    obtain ⟨hlen, q⟩ := guard_some q
    obtain ⟨rfl, rfl⟩ := pair_some q
    obtain ⟨v, rfl, r1⟩ := rs.one_inv
    obtain ⟨h2, us, k, ho, r', hl, hz1⟩ := lst e1
    obtain ⟨S, R'⟩ := listStep (X := []) R hp h2 ho (fun xs => xs.push v) (ws := us ++ [v]) (List.push_toArray us v) (r'.append (.one r1)) (by rw [List.length_append, List.length_singleton]; omega)
    exact call_meets F.slot_list_append ⟨_, ho, rfl⟩ F.entry_list_append (F.args_list_append_2 _ _) (list_append p.1 us.toArray k v hz1) ⟨ho, hq _ ρ _ s.toks S R' .none⟩
  | pop =>
    obtain ⟨ds, e1, q⟩ := pop0_some e
    clear e
    obtain ⟨h2, us, k, ho, r', hl, hz1⟩ := lst e1
    rcases q with ⟨rfl, q⟩ | ⟨rfl, q⟩
    · obtain ⟨x, hx, q⟩ := last_some q
      obtain ⟨rfl, rfl⟩ := Prod.mk.inj q
      obtain rfl := rs.nil_inv
      have hx' : ds[ds.length - 1]? = some x := by rw [← List.getLast?_eq_getElem?]; exact hx
      obtain ⟨v, hv, rv⟩ := r'.get hx'
      have hd : (fun xs : Array Value => xs.eraseIdxIfInBounds (us.toArray.size - 1)) us.toArray = us.dropLast.toArray := by
        simp only [List.size_toArray]
        rw [List.eraseIdxIfInBounds_toArray, List.dropLast_eq_take, List.eraseIdx_eq_take_drop_succ, List.drop_of_length_le (by omega), List.append_nil]
      have rd : RVs H ρ s.heap us.dropLast ds.dropLast := by rw [List.dropLast_eq_take, List.dropLast_eq_take, r'.length]; exact r'.take _
      obtain ⟨S, R'⟩ := listStep (X := []) R hp h2 ho (fun xs : Array Value => xs.eraseIdxIfInBounds (us.toArray.size - 1)) hd rd (by rw [List.length_dropLast]; omega)
      exact call_meets F.slot_list_pop ⟨_, ho, rfl⟩ F.entry_list_pop (F.args_list_pop_1 _) (MeetsSeq.list_pop_last p.1 us.toArray k v (by simpa [r'.length] using hv) hz1) ⟨ho, hq _ ρ _ s.toks S R' (rv.mono ⟨[], (List.append_nil _).symm⟩ S.tup)⟩
    · obtain ⟨x, xs, rfl, z⟩ := first_some q
      clear q
      obtain ⟨rfl, rfl⟩ := Prod.mk.inj z
      obtain ⟨v0, rfl, r1⟩ := rs.one_inv
      obtain ⟨t, rfl⟩ := r1.int_inv
      obtain ⟨v, us, rfl, rv, rr⟩ := r'.cons_inv
      have hd : (fun xs : Array Value => xs.eraseIdxIfInBounds 0) (v :: us).toArray = us.toArray := by
        show (v :: us).toArray.eraseIdxIfInBounds 0 = us.toArray
        rw [List.eraseIdxIfInBounds_toArray]; rfl
      obtain ⟨S, R'⟩ := listStep (X := []) R hp h2 ho (fun xs : Array Value => xs.eraseIdxIfInBounds 0) hd rr (Nat.le_of_succ_le hl)
      exact call_meets F.slot_list_pop ⟨_, ho, rfl⟩ F.entry_list_pop (F.args_list_pop_2 _ _) (MeetsSeq.list_pop_at p.1 (v :: us).toArray k 0 t 0 v (by decide) (by unfold seqIndex?; simp) (by simp) hz1) ⟨ho, hq _ ρ _ s.toks S R' (rv.mono ⟨[], (List.append_nil _).symm⟩ S.tup)⟩

theorem lms_val {x : Str} {m : Lm} (h : lms.lookup x = some m) : ∃ id, meVal m = .builtin id ∧ Slot "list" x id ∧ typeOf (.builtin id) = pure (.type "method_descriptor") := by
  have := lookup_mem h
  simp only [lms, List.mem_cons, Prod.mk.injEq, List.not_mem_nil, or_false] at this
  rcases this with ⟨rfl, rfl⟩ | ⟨rfl, rfl⟩ | ⟨rfl, rfl⟩
  · exact ⟨_, rfl, F.slot_list_extend, F.type_list_extend⟩
  · exact ⟨_, rfl, F.slot_list_append, F.type_list_append⟩
  · exact ⟨_, rfl, F.slot_list_pop, F.type_list_pop⟩
theorem methV_some {v : V} {x : Str} {st : St} {m : Me} (e : methV v x st = some m) : ∃ i, v = .ref i ∧ ((∃ kvs f, st[i]? = some (.inst kvs) ∧ kvs.lookup x = none ∧ meths.lookup x = some f ∧ Me.own f i = m) ∨ ∃ vs l, st[i]? = some (.list vs) ∧ lms.lookup x = some l ∧ Me.list l i = m) := by
  unfold methV at e
  obtain ⟨i, rfl, e⟩ := ref_some e
  refine ⟨i, rfl, ?_⟩
  cases ho : st[i]? with
  | none => simp only [ho] at e; exact no_some e
  | some o =>
    simp only [ho] at e
    cases o with
    | list vs =>
      obtain ⟨l, el, em⟩ := Option.map_eq_some_iff.mp e
      exact .inr ⟨vs, l, rfl, el, em⟩
    | inst kvs =>
      obtain ⟨hno, e⟩ := guard_some e
      obtain ⟨f, ef, em⟩ := Option.map_eq_some_iff.mp e
      exact .inl ⟨kvs, f, rfl, Option.isNone_iff_eq_none.mp hno, ef, em⟩
    | dict kvs => exact no_some e
theorem ev_CallAttr (B : Base prog w K C H mg mb) (hC : CallOk prog w K C H n c) {o : Expr} {x : Str} {q p : Pos} {args : List Expr} (h0 : EvOk prog w C H n c o) (h1 : EvsOk prog w C H n c args) : EvOk prog w C H n c (.Call (.Attribute o x q) args [] p) := by
  intro sc loc st d st' e A env ρ s hR he R hL Q E hq
  obtain ⟨hk, e⟩ := guard_some e
  simp only [Bool.and_eq_true, decide_eq_true_eq] at hk
  obtain ⟨u, st1, e1, e⟩ := bd_some e
  obtain ⟨m, em, e⟩ := Option.bind_eq_some_iff.mp e
  obtain ⟨ds, st2, e2, e⟩ := bd_some e
  refine CallAttr_open hk.1.1 hk.1.2 hk.2 (plain_args e2) (h0 _ _ _ _ _ e1 A env ρ s hR he R hL _ _ fun v ρ1 g1 t1 S1 R1 r1 pl => ?_)
  obtain ⟨i, rfl, em2⟩ := methV_some em
  clear em
  rcases em2 with ⟨kvs, f, eo, hno, ef, rfl⟩ | ⟨us, l, eo, el, rfl⟩
  · obtain ⟨pp, hpp, rfl, hne, ho1, es, k, ho2, hka, rk⟩ := ref_at R1 r1 eo
    obtain ⟨a, ha, hta, hfa⟩ := B.meth x f ef
    have I := instAt (C := C) ho1 ho2
    have hsh : shadowIn (some (dictOf es k)) x = some false := by
      have := getL_of (x := x) _ hka rk
      rw [hno] at this
      unfold shadowIn
      dsimp only
      rw [lookIn_dict, this]; rfl
    refine method_fn (s := { s with heap := g1, toks := t1 }) (B.now R1) I B.ga B.gat ha hta hsh ?_
    exact callWith_ok h1 e2 hR he R1 (hL.step S1) (keep_fn B hfa) fun vs ρ2 g2 t2 S2 R2 r2 => wpAny_call (hC _ _ _ _ _ e A _ ρ2 a _ hR.c hfa R2 (.cons (r1.mono S2.pre S2.tup) r2) _ fun v ρ3 g3 t3 S3 R3 r3 => hq v ρ3 g3 t3 (S1.trans (S2.trans S3)) R3 r3)
  · obtain ⟨pp, hpp, rfl, h2, hl, us, k, ho, rk⟩ := ref_at R1 r1 eo
    obtain ⟨id, hid, slot, hty⟩ := lms_val el
    refine getMethod_builtin (T := "list") ⟨_, ho, rfl⟩ F.plainAttrs_list slot hty (fun a ea => ⟨_, (by cases ea; exact ho), rfl⟩) ?_
    rw [← hid]
    refine callWith_ok h1 e2 hR he R1 (hL.step S1) (fun h _ => by rw [hid]; exact keep_bi _ _ _) fun vs ρ2 g2 t2 S2 R2 r2 => ?_
    have hpp2 : ρ2[i]? = some pp := by obtain ⟨t, rfl⟩ := S2.pre; rw [List.getElem?_append_left (List.getElem?_eq_some_iff.mp hpp).1]; exact hpp
    exact callLm_ok (s := { s with heap := g2, toks := t2 }) e R2 hpp2 r2 fun v ρ3 g3 t3 S3 R3 r3 => hq v ρ3 g3 t3 (S1.trans (S2.trans S3)) R3 r3
end
end Mine

set_option autoImplicit false
set_option linter.unusedVariables false
set_option maxRecDepth 100000
namespace Mine
open PySem PySem.W PyProof.Rows PySem.Calls

noncomputable def But (own : List Addr) (h h' : Heap) : Prop := ∀ b o, b ∉ own → h.get? b = some o → h'.get? b = some o
section
variable {prog : Program} {w : World} {K : Frag} {C : Addr} {H : Heap} {mg mb : Str → Option Value} {n : Nat} {c : CallT}

theorem Step.but {X own : List Addr} {ρ ρ' : Rho} {hs h h' : Heap} (S : Step X ρ hs ρ' h) (hn : ∀ a ∈ own, hs.get? a = none) (hb : But own h h') : Step X ρ hs ρ' h' := by
  have ne : ∀ a o, hs.get? a = some o → a ∉ own := fun a o e m => by rw [hn a m] at e; cases e
  refine ⟨S.pre, S.fresh, fun a o e => ?_, fun a o e n1 n2 => hb a o (ne a o e) (S.keep a o e n1 n2), fun a vs n e => hb a _ (ne a _ e) (S.tup a vs n e)⟩
  obtain ⟨o', e'⟩ := S.live a o e
  exact ⟨o', hb a o' (ne a o e) e'⟩
theorem But.tup {own : List Addr} {h h' : Heap} (hb : But own h h') (ht : ∀ a ∈ own, ∃ o, h.get? a = some o ∧ ∀ vs k, o ≠ tupO vs k) : ∀ a vs n, h.get? a = some (tupO vs n) → h'.get? a = some (tupO vs n) := fun a vs n e => by
  refine hb a _ (fun m => ?_) e
  obtain ⟨o, ho, hn⟩ := ht a m
  rw [ho] at e; exact hn _ _ (Option.some.inj e)
theorem Rel.but {st : St} {ρ : Rho} {h h' : Heap} {own : List Addr} (R : Rel prog w C H st ρ h) (hb : But own h h') (ht : ∀ a ∈ own, ∃ o, h.get? a = some o ∧ ∀ vs k, o ≠ tupO vs k) (ho : ∀ a ∈ own, a ∉ adrs ρ) (hH : ∀ a ∈ own, H.get? a = none) : Rel prog w C H st ρ h' := by
  refine ⟨R.len, R.disj, fun i p o hp hi => ?_, fun a o e => hb a o (fun m => ?_) (R.base a o e), R.above⟩
  · have m := mem_adrs_of hp
    exact (R.obj i p o hp hi).mono ⟨[], by simp⟩ (hb.tup ht) (fun x e => hb _ _ (fun z => ho _ z m.1) e) fun x e => hb _ _ (fun z => ho _ z m.2) e
  · rw [hH a m] at e; cases e
theorem Lc.but {L : Addr} {ρ : Rho} {h h' : Heap} {loc : Loc} {own : List Addr} (l : Lc H L ρ h loc) (hb : But own h h') (ht : ∀ a ∈ own, ∃ o, h.get? a = some o ∧ ∀ vs k, o ≠ tupO vs k) (hL : L ∉ own) : Lc H L ρ h' loc := by
  obtain ⟨⟨m, n, r⟩, a, b⟩ := l
  exact ⟨⟨m, n.at' fun o e => hb _ _ hL e, r.mono ⟨[], by simp⟩ (hb.tup ht)⟩, a, b⟩

/-- an iterator at work over things of the state -/
structure Iter (prog : Program) (w : World) (C : Addr) (H : Heap) (A : Around) (target : Expr) (I : Addr) (own : List Addr) (items : List V) (src : Option (Nat × List V)) (It : Rho → Nat → Heap → Prop) : Prop where
  frame : ∀ ρ ρ' i h h', It ρ i h → (∃ t, ρ' = ρ ++ t) → (∀ a ∈ own, ∀ o, h.get? a = some o → h'.get? a = some o) → (∀ a vs n, h.get? a = some (tupO vs n) → h'.get? a = some (tupO vs n)) → It ρ' i h'
  there : ∀ ρ i h, It ρ i h → ∀ a ∈ own, ∃ o, h.get? a = some o ∧ ∀ vs k, o ≠ tupO vs k
  item : ∀ (st : St) (ρ : Rho) (i : Nat) (s : Shared) (d : V) (Q : Value → Shared → Prop) (E : Value → Shared → Prop), It ρ i s.heap → Rel prog w C H st ρ s.heap → (∀ a ∈ own, a ∉ adrs ρ) → sameL st src = true → items[i]? = some d →
    (∀ v h' tk', But own s.heap h' → RV H ρ h' v d → It ρ (i + 1) h' → Q v { s with heap := h', toks := tk' }) →
    wpAny (model prog w) A (pyNext (.ref I)) (fun r s₁ => match r with | some v => wpAny (model prog w) A (letOwnedTupleGo target (.ref I) v) (fun _ s₂ => Q v s₂) E s₁ | none => False) E s
  done : ∀ (st : St) (ρ : Rho) (s : Shared) (Q : Option Value → Shared → Prop) (E : Value → Shared → Prop), It ρ items.length s.heap → Rel prog w C H st ρ s.heap → (∀ a ∈ own, a ∉ adrs ρ) → sameL st src = true →
    (∀ h' tk', But own s.heap h' → Q none { s with heap := h', toks := tk' }) → wpAny (model prog w) A (pyNext (.ref I)) Q E s
  self : ∀ (ρ : Rho) (i : Nat) (s : Shared) (Q : Value → Shared → Prop) (E : Value → Shared → Prop), It ρ i s.heap → Q (.ref I) s → wpAny (model prog w) A (pyIter (.ref I)) Q E s

mutual
theorem eqb_eq : ∀ {a b : V}, a.eqb b = true → a = b
  | .none, b, h => by cases b <;> first | rfl | exact no_true h
  | .bool x, b, h => by cases b <;> first | exact no_true h | exact congrArg V.bool (eq_of_beq h)
  | .int x, b, h => by cases b <;> first | exact no_true h | exact congrArg V.int (of_decide_eq_true h)
  | .str x, b, h => by cases b <;> first | exact no_true h | exact congrArg V.str (of_decide_eq_true h)
  | .tup x, b, h => by cases b <;> first | exact no_true h | exact congrArg V.tup (eqbs_eq h)
  | .ref x, b, h => by cases b <;> first | exact no_true h | exact congrArg V.ref (of_decide_eq_true h)
  | .froz x, b, h => by cases b <;> first | exact no_true h | exact congrArg V.froz (eqbs_eq h)
theorem eqbs_eq : ∀ {a b : List V}, eqbs a b = true → a = b
  | [], b, h => by cases b <;> first | rfl | exact no_true h
  | x :: xs, b, h => by
    cases b with
    | nil => exact no_true h
    | cons y ys =>
      obtain ⟨h1, h2⟩ := Bool.and_eq_true_iff.mp h
      rw [eqb_eq h1, eqbs_eq h2]
end
theorem sameL_at {st : St} {a : Nat} {vs : List V} (h : sameL st (some (a, vs)) = true) : st[a]? = some (.list vs) := by
  obtain ⟨ws, e, h⟩ := list_true h
  rw [e, eqbs_eq h]
theorem let_name {x : Str} {p : Pos} (it v : Value) : letOwnedTupleGo (.Name x p) it v = pure () := rfl

theorem iter_list {A : Around} (hh : A.handled = none) (I : Addr) (a : Nat) (vs : List V) (x : Str) (px : Pos) : Iter prog w C H A (.Name x px) I [I] vs (some (a, vs)) (fun ρ i h => ∃ p, ρ[a]? = some p ∧ h.IsListIter I p.1 i) where
  frame := by
    rintro ρ ρ' i h h' ⟨p, hp, o, ho, r⟩ ⟨t, rfl⟩ hk _
    exact ⟨p, by rw [List.getElem?_append_left (List.getElem?_eq_some_iff.mp hp).1]; exact hp, o, hk I (by simp) o ho, r⟩
  there := by
    rintro ρ i h ⟨p, hp, o, ho, hc, hd⟩ b hb
    rw [List.mem_singleton.mp hb]
    exact ⟨o, ho, fun ws k z => by rw [z] at hd; cases hd⟩
  item := by
    rintro st ρ i s d Q E ⟨p, hp, hit⟩ R hown hsame hd hq
    obtain ⟨q, hq', h2, hl, us, k, ho, r⟩ := R.at (sameL_at hsame)
    have := Option.some.inj (hq'.symm.trans hp); subst this
    obtain ⟨v, hv, rv⟩ := r.get hd
    obtain ⟨oI, hoI, hcI, hdI⟩ := id hit
    refine wpAny_pyNext_list_item hit ⟨_, ho, rfl, k, rfl⟩ (x := v) (by simpa using hv) fun h' hit' hs' => ?_
    have hb : But [I] s.heap h' := fun b o hb e => (hs'.2 b (by simpa using hb)).trans e
    exact wpAny_of_eq (let_name _ _) (hq v h' s.toks hb (rv.mono ⟨[], by simp⟩ (hb.tup fun b hb' => by rw [List.mem_singleton.mp hb']; exact ⟨oI, hoI, fun ws k z => by rw [z] at hdI; cases hdI⟩)) ⟨q, hp, hit'⟩)
  done := by
    rintro st ρ s Q E ⟨p, hp, hit⟩ R hown hsame hq
    obtain ⟨q, hq', h2, hl, us, k, ho, r⟩ := R.at (sameL_at hsame)
    have := Option.some.inj (hq'.symm.trans hp); subst this
    refine wpAny_pyNext_list_end hh hit ⟨_, ho, rfl, k, rfl⟩ (by simp [r.length]) fun h' he => hq h' s.toks fun b o hb e => he b o (by simpa using hb) e
  self := by
    rintro ρ i s Q E ⟨p, hp, hit⟩ hq
    exact wpAny_pyIter_listiter hit hq
theorem iter_tup {A : Around} (hh : A.handled = none) (I t : Addr) (us : List Value) (k : Nat) (vs : List V) (x : Str) (px : Pos) : Iter prog w C H A (.Name x px) I [I] vs none (fun ρ i h => h.IsTupleIter I t i ∧ h.get? t = some (tupO us k) ∧ RVs H ρ h us vs) where
  frame := by
    rintro ρ ρ' i h h' ⟨⟨o, ho, r⟩, ht, rv⟩ hp hk htup
    exact ⟨⟨o, hk I (by simp) o ho, r⟩, htup _ _ _ ht, rv.mono hp htup⟩
  there := by
    rintro ρ i h ⟨⟨o, ho, hc, hd⟩, _⟩ b hb
    rw [List.mem_singleton.mp hb]
    exact ⟨o, ho, fun ws k z => by rw [z] at hd; cases hd⟩
  item := by
    rintro st ρ i s d Q E ⟨hit, ht, rv⟩ R hown hsame hd hq
    obtain ⟨v, hv, rvv⟩ := rv.get hd
    obtain ⟨oI, hoI, hcI, hdI⟩ := id hit
    refine wpAny_pyNext_tuple_item hit ⟨_, ht, rfl, k, rfl⟩ (x := v) (by simpa using hv) fun h' hit' hs' => ?_
    have hb : But [I] s.heap h' := fun b o hb e => (hs'.2 b (by simpa using hb)).trans e
    have htt := hb.tup fun b hb' => by rw [List.mem_singleton.mp hb']; exact ⟨oI, hoI, fun ws k z => by rw [z] at hdI; cases hdI⟩
    exact wpAny_of_eq (let_name _ _) (hq v h' s.toks hb (rvv.mono ⟨[], by simp⟩ htt) ⟨hit', htt _ _ _ ht, rv.mono ⟨[], by simp⟩ htt⟩)
  done := by
    rintro st ρ s Q E ⟨hit, ht, rv⟩ R hown hsame hq
    exact wpAny_pyNext_tuple_end hh hit ⟨_, ht, rfl, k, rfl⟩ (by simp [rv.length]) fun h' he => hq h' s.toks fun b o hb e => he b o (by simpa using hb) e
  self := by
    rintro ρ i s Q E ⟨hit, _⟩ hq
    exact wpAny_pyIter_tupleiter hit hq
theorem rangeV_get : ∀ (n i j : Nat), j < n → (rangeV i n)[j]? = some (.int ((i + j : Nat) : Int))
  | 0, _, _, h => absurd h (Nat.not_lt_zero _)
  | n + 1, i, 0, _ => by simp [rangeV]
  | n + 1, i, j + 1, h => by
    simp only [rangeV, List.getElem?_cons_succ]
    rw [rangeV_get n (i + 1) j (Nat.lt_of_succ_lt_succ h)]
    congr 2
    omega
theorem rangeV_len : ∀ (n i : Nat), (rangeV i n).length = n
  | 0, _ => rfl
  | n + 1, i => by simp [rangeV, rangeV_len n (i + 1)]
theorem iter_range {A : Around} (hh : A.handled = none) (I : Addr) (m : Nat) (x : Str) (px : Pos) : Iter prog w C H A (.Name x px) I [I] (rangeV 0 m) none (fun ρ i h => IsRangeIter h I (i : Int) ((m : Int) - i) 1) where
  frame := by
    rintro ρ ρ' i h h' ho _ hk _
    exact hk I (by simp) _ ho
  there := by
    rintro ρ i h ho b hb
    rw [List.mem_singleton.mp hb]
    exact ⟨_, ho, fun ws k z => by have := congrArg Obj.data z; simp at this⟩
  item := by
    rintro st ρ i s d Q E hit R hown hsame hd hq
    have hi : i < m := by
      have := (List.getElem?_eq_some_iff.mp hd).1
      rwa [rangeV_len] at this
    rw [rangeV_get m 0 i hi] at hd
    cases hd
    refine wpAny_pyNext_range_item hit (by omega) fun h' hit' hs' => ?_
    have hb : But [I] s.heap h' := fun b o hb e => (hs'.2 b (by simpa using hb)).trans e
    refine wpAny_of_eq (let_name _ _) (hq _ h' _ hb ?_ ?_)
    · have e0 : ((0 + i : Nat) : Int) = (i : Int) := by omega
      rw [e0]; exact .int _ _
    · have e1 : ((i + 1 : Nat) : Int) = (i : Int) + 1 := by omega
      have e2 : (m : Int) - ((i + 1 : Nat) : Int) = (m : Int) - i - 1 := by omega
      rw [e1, ← e1, e2, e1]; exact hit'
  done := by
    rintro st ρ s Q E hit R hown hsame hq
    rw [rangeV_len] at hit
    exact wpAny_pyNext_range_end hh hit (by omega) fun h' he => hq h' s.toks fun b o hb e => he b o (by simpa using hb) e
  self := by
    rintro ρ i s Q E hit hq
    exact wpAny_pyIter_rangeiter hit hq
theorem enumV_get : ∀ (vs : List V) (i j : Nat) (d : V), (enumV i vs)[j]? = some d → ∃ u, vs[j]? = some u ∧ d = .tup [.int ((i + j : Nat) : Int), u]
  | [], _, _, _, h => by simp [enumV] at h
  | v :: vs, i, 0, d, h => by
    simp only [enumV, List.getElem?_cons_zero, Option.some.injEq] at h
    exact ⟨v, by simp, by rw [← h]; simp⟩
  | v :: vs, i, j + 1, d, h => by
    simp only [enumV, List.getElem?_cons_succ] at h
    obtain ⟨u, hu, e⟩ := enumV_get vs (i + 1) j d h
    exact ⟨u, by simpa using hu, by rw [e]; congr 3; omega⟩
theorem enumV_len : ∀ (vs : List V) (i : Nat), (enumV i vs).length = vs.length
  | [], _ => rfl
  | v :: vs, i => by simp [enumV, enumV_len vs (i + 1)]
theorem iter_enum {A : Around} (hh : A.handled = none) (I it : Addr) (hne : I ≠ it) (a : Nat) (vs : List V) (es : List Expr) (k : Nat) (pt : Pos) : Iter prog w C H A (.Tuple es k pt) I [I, it] (enumV 0 vs) (some (a, vs)) (fun ρ i h => ∃ p old, ρ[a]? = some p ∧ IsEnum h I it i old ∧ h.IsListIter it p.1 i) where
  frame := by
    rintro ρ ρ' i h h' ⟨p, old, hp, he, o, ho, r⟩ ⟨t, rfl⟩ hk _
    exact ⟨p, old, by rw [List.getElem?_append_left (List.getElem?_eq_some_iff.mp hp).1]; exact hp, hk I (by simp) _ he, o, hk it (by simp) o ho, r⟩
  there := by
    rintro ρ i h ⟨p, old, hp, he, o, ho, hc, hd⟩ b hb
    simp only [List.mem_cons, List.not_mem_nil, or_false] at hb
    rcases hb with rfl | rfl
    · exact ⟨_, he, fun ws k z => by have := congrArg Obj.data z; simp at this⟩
    · exact ⟨o, ho, fun ws k z => by rw [z] at hd; cases hd⟩
  item := by
    rintro st ρ i s d Q E ⟨p, old, hp, he, hit⟩ R hown hsame hd hq
    obtain ⟨u, hu, rfl⟩ := enumV_get vs 0 i d hd
    obtain ⟨q, hq', h2, hl, us, kk, ho, r⟩ := R.at (sameL_at hsame)
    have := Option.some.inj (hq'.symm.trans hp); subst this
    obtain ⟨v, hv, rv⟩ := r.get hu
    obtain ⟨oI, hoI, hcI, hdI⟩ := id hit
    refine wpAny_pyNext_enum_item he hit ⟨_, ho, rfl, kk, rfl⟩ (x := v) (by simpa using hv) hne fun h' he' hit' ht' hsz hk => ?_
    refine wpAny_letOwnedTupleGo_enum he' fun h'' he'' hs'' => ?_
    have hb : But [I, it] s.heap h'' := fun b o hb e => by
      simp only [List.mem_cons, List.not_mem_nil, or_false, not_or] at hb
      exact (hs''.2 b hb.1).trans (hk b o hb.1 hb.2 e)
    have htt := hb.tup fun b hb' => by
      simp only [List.mem_cons, List.not_mem_nil, or_false] at hb'
      rcases hb' with rfl | rfl
      · exact ⟨_, he, fun ws k z => by have := congrArg Obj.data z; simp at this⟩
      · exact ⟨oI, hoI, fun ws k z => by rw [z] at hdI; cases hdI⟩
    have hIs : s.heap.objs.size ≠ I := fun z => by have := Heap.lt_size he; rw [← z] at this; exact Nat.lt_irrefl _ this
    have ht'' : h''.get? s.heap.objs.size = some (tupO [.int (i : Int) s.toks, v] 0) := (hs''.2 _ hIs).trans ht'
    have e0 : ((0 + i : Nat) : Int) = (i : Int) := by omega
    refine hq _ h'' _ hb ?_ ⟨q, v, hp, ?_, ?_⟩
    · rw [e0]; exact .tup ht'' (by simp) (.cons (.int _ _) (.cons (rv.mono ⟨[], by simp⟩ htt) .nil))
    · exact he''
    · exact hit'.extBut hs''.extBut (Ne.symm hne)
  done := by
    rintro st ρ s Q E ⟨p, old, hp, he, hit⟩ R hown hsame hq
    rw [enumV_len] at he hit
    obtain ⟨q, hq', h2, hl, us, kk, ho, r⟩ := R.at (sameL_at hsame)
    have := Option.some.inj (hq'.symm.trans hp); subst this
    exact wpAny_pyNext_enum_end hh he hit ⟨_, ho, rfl, kk, rfl⟩ (by simp [r.length]) fun h' hx => hq h' s.toks fun b o hb e => hx b o (by simp only [List.mem_cons, List.not_mem_nil, or_false, not_or] at hb; exact hb.2) e
  self := by
    rintro ρ i s Q E ⟨p, old, hp, he, hit⟩ hq
    exact wpAny_pyIter_enum he hq
end
end Mine

set_option autoImplicit false
set_option linter.unusedVariables false
set_option maxRecDepth 100000
namespace Mine
open PySem PySem.W PyProof.Rows PySem.Calls

theorem lookup_app {β : Type} (x : Str) : ∀ (l r : List (Str × β)), (l ++ r).lookup x = match l.lookup x with | some v => some v | none => r.lookup x
  | [], r => rfl
  | (a, b) :: l, r => by
    rw [List.cons_append, List.lookup_cons, List.lookup_cons]
    cases (x == a) with
    | true => rfl
    | false => exact lookup_app x l r
theorem lookup_none {β : Type} {x : Str} : ∀ {l : List (Str × β)}, x ∉ l.map (·.1) → l.lookup x = none
  | [], _ => rfl
  | (a, b) :: l, h => by
    simp only [List.map_cons, List.mem_cons, not_or] at h
    rw [List.lookup_cons, beq_eq_false_iff_ne.mpr h.1]
    exact lookup_none h.2
theorem lookup_rev {β : Type} (x : Str) : ∀ {l : List (Str × β)}, (l.map (·.1)).Nodup → l.reverse.lookup x = l.lookup x
  | [], _ => rfl
  | (a, b) :: l, h => by
    simp only [List.map_cons, List.nodup_cons] at h
    rw [List.reverse_cons, lookup_app, lookup_rev x h.2, List.lookup_cons, List.lookup_cons]
    by_cases e : x = a
    · subst e
      rw [lookup_none h.1]; simp
    · rw [beq_eq_false_iff_ne.mpr e]
      cases l.lookup x <;> rfl
noncomputable def putAll (ps : List (Str × V)) (loc : Loc) : Loc := ps.foldl (fun l p => setL p.1 p.2 l) loc
theorem putAll_lookup (x : Str) : ∀ (ps : List (Str × V)) (loc : Loc), (putAll ps loc).lookup x = match ps.reverse.lookup x with | some v => some v | none => loc.lookup x
  | [], _ => rfl
  | (a, b) :: ps, loc => by
    show (putAll ps (setL a b loc)).lookup x = _
    rw [putAll_lookup x ps, List.reverse_cons, lookup_app, setL_lookup]
    cases ps.reverse.lookup x with
    | some v => rfl
    | none =>
      simp only [List.lookup_cons, List.lookup_nil]
      by_cases e : x = a
      · subst e; simp
      · simp [e, beq_eq_false_iff_ne.mpr e]
theorem putAll_rev {ps : List (Str × V)} (h : (ps.map (·.1)).Nodup) (loc : Loc) (x : Str) : (putAll ps.reverse loc).lookup x = (putAll ps loc).lookup x := by
  rw [putAll_lookup, putAll_lookup, List.reverse_reverse, lookup_rev x h]

section
variable {prog : Program} {w : World} {K : Frag} {C : Addr} {H : Heap} {mg mb : Str → Option Value} {n : Nat} {c : CallT}

theorem Lc.congr {L : Addr} {ρ : Rho} {h : Heap} {loc loc' : Loc} (l : Lc H L ρ h loc) (e : ∀ x, loc.lookup x = loc'.lookup x) : Lc H L ρ h loc' := by
  obtain ⟨⟨m, n, r⟩, a, b⟩ := l
  exact ⟨⟨m, n, fun x => by rw [← e x]; exact r x⟩, a, b⟩
theorem isLocal_iff {sc : Sc} {x : Str} (h : isLocal sc x = true) : sc.lookup x = some .local := by
  unfold isLocal at h
  cases e : sc.lookup x with
  | none => rw [e] at h; cases h
  | some k => rw [e] at h; cases k <;> first | rfl | cases h
theorem store_ok {A : Around} {env : Env} {sc : Sc} {ρ : Rho} {s : Shared} {st : St} {loc : Loc} {x : Str} {v : Value} {d : V} {Q : Unit → Shared → Prop} {E : Value → Shared → Prop} (hx : isLocal sc x = true) (he : EnvOk env sc) (R : Rel prog w C H st ρ s.heap) (hL : Lc H env.locals ρ s.heap loc) (rv : RV H ρ s.heap v d)
    (hq : ∀ h' tk', Step [env.locals] ρ s.heap ρ h' → Rel prog w C H st ρ h' → Lc H env.locals ρ h' (setL x d loc) → Q () { s with heap := h', toks := tk' }) : wpAny (model prog w) A (storeName env x v) Q E s := by
  obtain ⟨⟨m, hn, hr⟩, hL1, hL2⟩ := hL
  have hk : env.kindOf x = some .local := by unfold Env.kindOf; rw [he.names]; exact isLocal_iff hx
  have hp : (env.scope.kind == .class || (env.scope.kind == .module && env.locals != env.globals)) = false := by rw [he.kind]; rfl
  refine wpAny_storeName_local hk hn (fun h' hn' hs' => ?_) hp
  obtain ⟨o, ho, hnt⟩ := Ns.noTup hn
  obtain ⟨o', ho', _⟩ := Ns.noTup hn'
  have S : Step [env.locals] ρ s.heap ρ h' := Step.of_same hs' (.inr (by simp)) ho hnt ho'
  have R' := R.sameBut hs' hL1 hL2 (fun ws k z => by rw [ho] at z; exact hnt ws k (Option.some.inj z))
  exact hq h' _ S R' ⟨⟨_, hn', (hr.mono ⟨[], by simp⟩ S.tup).set (rv.mono ⟨[], by simp⟩ S.tup)⟩, hL1, hL2⟩
/-- names in a row, each given its value -/
theorem stores_ok {A : Around} {env : Env} {sc : Sc} {ρ : Rho} {st : St} {E : Value → Shared → Prop} (he : EnvOk env sc) (t : Str → Value → Sem Unit) (ht : ∀ x v s Q, wpAny (model prog w) A (storeName env x v) Q E s → wpAny (model prog w) A (t x v) Q E s) :
    ∀ (xs : List Str) (vs : List Value) (ds : List V) (loc : Loc) (s : Shared) (Q : Unit → Shared → Prop), xs.length = vs.length → (∀ x ∈ xs, isLocal sc x = true) → Rel prog w C H st ρ s.heap → Lc H env.locals ρ s.heap loc → RVs H ρ s.heap vs ds →
    (∀ h' tk', Step [env.locals] ρ s.heap ρ h' → Rel prog w C H st ρ h' → Lc H env.locals ρ h' (putAll (xs.zip ds) loc) → Q () { s with heap := h', toks := tk' }) → wpAny (model prog w) A (assignInOrder (xs.map t) vs) Q E s
  | [], [], _, loc, s, Q, _, _, R, hL, _, hq => by
    refine wpAny_pure (hq s.heap s.toks .refl R ?_)
    simpa [putAll] using hL
  | x :: xs, v :: vs, _, loc, s, Q, hl, hx, R, hL, .cons (ds := ds) rv rs, hq => by
    refine wpAny_assignInOrder_more (ht x v s _ (store_ok (hx x (.head _)) he R hL rv fun h1 t1 S1 R1 L1 => ?_))
    refine stores_ok he t ht xs vs ds _ { s with heap := h1, toks := t1 } Q (by simpa using hl) (fun y hy => hx y (.tail _ hy)) R1 L1 (rs.mono ⟨[], by simp⟩ S1.tup) fun h2 t2 S2 R2 L2 => hq h2 t2 (S1.trans S2) R2 L2
  | [], _ :: _, _, _, _, _, hl, _, _, _, _, _ => by simp at hl
  | _ :: _, [], _, _, _, _, hl, _, _, _, _, _ => by simp at hl

noncomputable def nmOf : Expr → Str
  | .Name x _ => x
  | _ => Str.ofString ""
theorem bindNames_one {sc : Sc} {e : Expr} {es : List Expr} {ds : List V} {loc loc' : Loc} (h : bindNames sc (e :: es) ds loc = some loc') : ∃ x p d r, e = .Name x p ∧ ds = d :: r ∧ isLocal sc x = true ∧ bindNames sc es r (setL x d loc) = some loc' := by
  cases e with
  | Name x p => cases ds with
    | nil => exact no_some h
    | cons d r =>
      obtain ⟨hx, h⟩ := guard_some h
      exact ⟨x, p, d, r, rfl, rfl, hx, h⟩
  | _ => exact no_some h
theorem bindNames_some {sc : Sc} : ∀ {es : List Expr} {ds : List V} {loc loc' : Loc}, bindNames sc es ds loc = some loc' → es.length = ds.length ∧ (∀ e ∈ es, ∃ x p, e = .Name x p ∧ isLocal sc x = true) ∧ loc' = putAll ((es.map nmOf).zip ds) loc
  | [], ds, loc, loc', h => by
    cases ds with
    | nil =>
      obtain rfl := Option.some.inj h
      exact ⟨rfl, fun e m => (nomatch m), rfl⟩
    | cons d ds => exact no_some h
  | e :: es, ds, loc, loc', h => by
    obtain ⟨x, p, d, r, rfl, rfl, hx, h⟩ := bindNames_one h
    obtain ⟨a, b, c'⟩ := bindNames_some h
    refine ⟨congrArg Nat.succ a, fun e he => ?_, c'⟩
    rcases List.mem_cons.mp he with rfl | he
    · exact ⟨x, p, rfl, hx⟩
    · exact b e he
theorem names_each {sc : Sc} {env : Env} : ∀ {es : List Expr}, (∀ e ∈ es, ∃ x p, e = .Name x p ∧ isLocal sc x = true) → assignEach es env = es.map (fun e => (false, assign e env))
  | [], _ => rfl
  | e :: es, h => by
    obtain ⟨x, p, rfl, _⟩ := h e (.head _)
    show (false, assign (.Name x p) env) :: assignEach es env = _
    rw [names_each fun e he => h e (.tail _ he)]; rfl
theorem names_assign {sc : Sc} {env : Env} : ∀ {es : List Expr}, (∀ e ∈ es, ∃ x p, e = .Name x p ∧ isLocal sc x = true) → ∃ ps : List Pos, ps.length = es.length ∧ es.map (fun e => assign e env) = ((es.map nmOf).zip ps).map fun q => assign (.Name q.1 q.2) env
  | [], _ => ⟨[], rfl, rfl⟩
  | e :: es, h => by
    obtain ⟨x, p, rfl, _⟩ := h e (.head _)
    obtain ⟨ps, a, b⟩ := names_assign (sc := sc) (env := env) (es := es) fun e he => h e (.tail _ he)
    exact ⟨p :: ps, by simp [a], by simp only [List.map_cons, List.zip_cons_cons, nmOf, b]⟩
/-- targets that are names, in their order -/
theorem assigns_ok {A : Around} {env : Env} {sc : Sc} {ρ : Rho} {st : St} {E : Value → Shared → Prop} (he : EnvOk env sc) :
    ∀ (es : List Expr) (vs : List Value) (ds : List V) (loc : Loc) (s : Shared) (Q : Unit → Shared → Prop), es.length = vs.length → (∀ e ∈ es, ∃ x p, e = .Name x p ∧ isLocal sc x = true) → Rel prog w C H st ρ s.heap → Lc H env.locals ρ s.heap loc → RVs H ρ s.heap vs ds →
    (∀ h' tk', Step [env.locals] ρ s.heap ρ h' → Rel prog w C H st ρ h' → Lc H env.locals ρ h' (putAll ((es.map nmOf).zip ds) loc) → Q () { s with heap := h', toks := tk' }) → wpAny (model prog w) A (assignInOrder ((es.map (fun e => (false, assign e env))).map (·.2)) vs) Q E s
  | [], [], _, loc, s, Q, _, _, R, hL, _, hq => by
    refine wpAny_pure (hq s.heap s.toks .refl R ?_)
    simpa [putAll] using hL
  | e :: es, v :: vs, _, loc, s, Q, hl, hx, R, hL, .cons (ds := ds) rv rs, hq => by
    obtain ⟨x, p, rfl, hxx⟩ := hx e (.head _)
    refine wpAny_assignInOrder_more (wpAny_assign_Name (store_ok hxx he R hL rv fun h1 t1 S1 R1 L1 => ?_))
    exact assigns_ok he es vs ds _ { s with heap := h1, toks := t1 } Q (by simpa using hl) (fun y hy => hx y (.tail _ hy)) R1 L1 (rs.mono ⟨[], by simp⟩ S1.tup) fun h2 t2 S2 R2 L2 => hq h2 t2 (S1.trans S2) R2 L2
  | [], _ :: _, _, _, _, _, hl, _, _, _, _, _ => by simp at hl
  | _ :: _, [], _, _, _, _, hl, _, _, _, _, _ => by simp at hl
theorem bindT_ok {A : Around} {env : Env} {sc : Sc} {ρ : Rho} {s : Shared} {st : St} {loc loc' : Loc} {t : Expr} {v : Value} {d : V} {Q : Unit → Shared → Prop} {E : Value → Shared → Prop} (hh : A.handled = none) (e : bindT sc t d loc = some loc') (he : EnvOk env sc) (R : Rel prog w C H st ρ s.heap) (hL : Lc H env.locals ρ s.heap loc) (rv : RV H ρ s.heap v d)
    (hq : ∀ h' tk', Step [env.locals] ρ s.heap ρ h' → Rel prog w C H st ρ h' → Lc H env.locals ρ h' loc' → Q () { s with heap := h', toks := tk' }) : wpAny (model prog w) A (assign t env v) Q E s := by
  cases t with
  | Name x p =>
    obtain ⟨hx, e⟩ := guard_some e
    obtain rfl := Option.some.inj e
    exact wpAny_assign_Name (store_ok hx he R hL rv hq)
  | Tuple es k p =>
    obtain ⟨ds, rfl, e⟩ := tup_some e
    obtain ⟨h1, h2, rfl⟩ := bindNames_some e
    obtain ⟨a, us, kk, rfl, ha, r, _⟩ := rv.tup_inv
    have hT : s.heap.IsTuple a us.toArray := ⟨_, ha, rfl, kk, rfl⟩
    have hea := names_each (env := env) h2
    refine wpAny_assign_Tuple hh hT (by rw [hea, List.length_map, List.size_toArray, h1, r.length]) ?_ fun h' hx => ?_
    · rw [hea]
      exact List.findIdx?_eq_none_iff.mpr fun x hx => by
        obtain ⟨e', _, rfl⟩ := List.mem_map.mp hx; rfl
    · have hk : ∀ b o, s.heap.get? b = some o → h'.get? b = some o := fun b o e => hx b o (Nat.ne_of_lt (Heap.lt_size e)) e
      have S : Step [] ρ s.heap ρ h' := Step.of_ext hk
      rw [hea]
      exact assigns_ok he es us _ loc { s with heap := h' } Q (by rw [h1, r.length]) h2 (R.keeps hk) (hL.step S) (r.mono ⟨[], (List.append_nil _).symm⟩ S.tup) fun h2 t2 S2 R2 L2 => hq h2 t2 (S.nil.trans S2) R2 L2
  | _ => exact no_some e
end
end Mine

set_option autoImplicit false
set_option linter.unusedVariables false
set_option maxRecDepth 100000
namespace Mine
open PySem PySem.W PyProof.Rows PySem.Calls

noncomputable def FlOk (H : Heap) (ρ : Rho) (h : Heap) : Flow → Fl → Prop
  | .next, .next => True
  | .ret v, .ret d => RV H ρ h v d
  | _, _ => False
theorem FlOk.next_inv {H : Heap} {ρ : Rho} {h : Heap} {f : Flow} (F : FlOk H ρ h f .next) : f = .next := by
  cases f <;> first | rfl | exact absurd F id
theorem FlOk.ret_inv {H : Heap} {ρ : Rho} {h : Heap} {f : Flow} {d : V} (F : FlOk H ρ h f (.ret d)) : ∃ v, f = .ret v ∧ RV H ρ h v d := by
  cases f <;> first | exact ⟨_, rfl, F⟩ | exact absurd F id
section
variable (prog : Program) (w : World) (K : Frag) (C : Addr) (H : Heap)
noncomputable def StOk (n : Nat) (c : CallT) (t : Expr) : Prop := ∀ (sc : Sc) (d : V) (loc : Loc) (st : St) (loc' : Loc) (st' : St), storeT c sc t d loc st = some (loc', st') → ∀ (A : Around) (env : Env) (ρ : Rho) (s : Shared) (v : Value), Room n A → EnvOk env sc → Rel prog w C H st ρ s.heap → Lc H env.locals ρ s.heap loc → RV H ρ s.heap v d →
  ∀ (Q : Unit → Shared → Prop) (E : Value → Shared → Prop), (∀ ρ' h' tk', Step [env.locals] ρ s.heap ρ' h' → Rel prog w C H st' ρ' h' → Lc H env.locals ρ' h' loc' → Q () { s with heap := h', toks := tk' }) → wpAny (model prog w) A (assign t env v) Q E s
noncomputable def ExOn (n : Nat) (t : Stmt) (sc : Sc) (loc : Loc) (st : St) (fl : Fl) (loc' : Loc) (st' : St) : Prop := ∀ (A : Around) (env : Env) (ρ : Rho) (s : Shared), Room n A → EnvOk env sc → Rel prog w C H st ρ s.heap → Lc H env.locals ρ s.heap loc →
  ∀ (Q : Flow → Shared → Prop) (E : Value → Shared → Prop), (∀ f ρ' h' tk', Step [env.locals] ρ s.heap ρ' h' → Rel prog w C H st' ρ' h' → Lc H env.locals ρ' h' loc' → FlOk H ρ' h' f fl → Q f { s with heap := h', toks := tk' }) → wpAny (model prog w) A (exec t env) Q E s
noncomputable def ExOk (n : Nat) (c : CallT) (t : Stmt) : Prop := ∀ (sc : Sc) (loc : Loc) (st : St) (fl : Fl) (loc' : Loc) (st' : St), ex c t sc loc st = some ((fl, loc'), st') → ExOn prog w C H n t sc loc st fl loc' st'
noncomputable def ExsOk (n : Nat) (c : CallT) (ts : List Stmt) : Prop := ∀ (sc : Sc) (loc : Loc) (st : St) (fl : Fl) (loc' : Loc) (st' : St), exs c ts sc loc st = some ((fl, loc'), st') → ∀ (A : Around) (env : Env) (ρ : Rho) (s : Shared), Room n A → EnvOk env sc → Rel prog w C H st ρ s.heap → Lc H env.locals ρ s.heap loc →
  ∀ (Q : Flow → Shared → Prop) (E : Value → Shared → Prop), (∀ f ρ' h' tk', Step [env.locals] ρ s.heap ρ' h' → Rel prog w C H st' ρ' h' → Lc H env.locals ρ' h' loc' → FlOk H ρ' h' f fl → Q f { s with heap := h', toks := tk' }) → wpAny (model prog w) A (execs ts env) Q E s
end

section
variable {prog : Program} {w : World} {K : Frag} {C : Addr} {H : Heap} {mg mb : Str → Option Value} {n : Nat} {c : CallT}

/-! ## stores -/
theorem st_Name {x : Str} {p : Pos} : StOk prog w C H n c (.Name x p) := by
  intro sc d loc st loc' st' e A env ρ s v hR he R hL rv Q E hq
  obtain ⟨l, e1, e2⟩ := Option.map_eq_some_iff.mp e
  cases e2
  exact bindT_ok hR.1 e1 he R hL rv fun h' tk' S R' L' => hq ρ h' tk' S R' L'
theorem st_Tuple {es : List Expr} {k : Nat} {p : Pos} : StOk prog w C H n c (.Tuple es k p) := by
  intro sc d loc st loc' st' e A env ρ s v hR he R hL rv Q E hq
  obtain ⟨l, e1, e2⟩ := Option.map_eq_some_iff.mp e
  cases e2
  exact bindT_ok hR.1 e1 he R hL rv fun h' tk' S R' L' => hq ρ h' tk' S R' L'
theorem st_Attribute (B : Base prog w K C H mg mb) {o : Expr} {a : Str} {p : Pos} (h1 : EvOk prog w C H n c o) : StOk prog w C H n c (.Attribute o a p) := by
  intro sc d loc st loc' st' e A env ρ s v hR he R hL rv Q E hq
  obtain ⟨_, e⟩ := guard_some e
  · obtain ⟨x, st1, e1, e⟩ := bd_some e
    obtain ⟨st2, e2, e3⟩ := Option.map_eq_some_iff.mp e
    cases e3
    rw [arm_assign_Attribute]
    refine wpAny_bind (wpAny_holding (h1 _ _ _ _ _ e1 A env ρ s hR he R hL _ _ fun u ρ1 g1 t1 S1 R1 r1 => wpAny_bind (wpAny_standAt (wpAny_bind (wpAny_holding ?_)))))
    refine setattr_ok (s := { s with heap := g1, toks := t1 }) (X := []) B R1 e2 r1 (rv.mono S1.pre S1.tup) fun h2 t2 S2 R2 => wpAny_release' ?_
    exact hq ρ1 h2 t2 (S1.trans S2).nil R2 (hL.step (S1.trans S2))
theorem st_Subscript_item {o i : Expr} {p : Pos} (h1 : EvOk prog w C H n c o) (h2 : EvOk prog w C H n c i)
    (hi : ∀ sc d loc st, storeT c sc (.Subscript o i p) d loc st = bd (ev c o sc loc st) fun ov st => bd (ev c i sc loc st) fun iv st => (setItemV ov iv d st).map (loc, ·)) : StOk prog w C H n c (.Subscript o i p) := by
  intro sc d loc st loc' st' e A env ρ s v hR he R hL rv Q E hq
  rw [hi] at e
  obtain ⟨x, st1, e1, e⟩ := bd_some e
  obtain ⟨y, st2, e2, e⟩ := bd_some e
  obtain ⟨st3, e3, e4⟩ := Option.map_eq_some_iff.mp e
  cases e4
  rw [arm_assign_Subscript]
  refine wpAny_bind (wpAny_holding (h1 _ _ _ _ _ e1 A env ρ s hR he R hL _ _ fun a ρ1 g1 t1 S1 R1 r1 => wpAny_bind (wpAny_holding (h2 _ _ _ _ _ e2 A env ρ1 _ hR he R1 (hL.step S1) _ _ fun b ρ2 g2 t2 S2 R2 r2 => wpAny_bind (wpAny_standAt (wpAny_bind (wpAny_holding ?_)))))))
  refine setitem_ok (s := { s with heap := g2, toks := t2 }) (X := []) R2 e3 (r1.mono S2.pre S2.tup) r2 ((rv.mono S1.pre S1.tup).mono S2.pre S2.tup) fun h3 t3 S3 R3 => wpAny_release' ?_
  exact hq ρ2 h3 t3 (S1.trans (S2.trans S3)).nil R3 (hL.step (S1.trans (S2.trans S3)))
theorem st_Subscript_slice {o : Expr} {l u : Option Expr} {q p : Pos} (h1 : EvOk prog w C H n c o) (h2 : EvOOk prog w C H n c l) (h3 : EvOOk prog w C H n c u) : StOk prog w C H n c (.Subscript o (.Slice l u none q) p) := by
  intro sc d loc st loc' st' e A env ρ s v hR he R hL rv Q E hq
  obtain ⟨x, st1, e1, e⟩ := bd_some e
  obtain ⟨y, st2, e2, e⟩ := bd_some e
  obtain ⟨z, st3, e3, e⟩ := bd_some e
  obtain ⟨st4, e4, e5⟩ := Option.map_eq_some_iff.mp e
  cases e5
  rw [arm_assign_Subscript]
  refine wpAny_bind (wpAny_holding (h1 _ _ _ _ _ e1 A env ρ s hR he R hL _ _ fun a ρ1 g1 t1 S1 R1 r1 => wpAny_bind (wpAny_holding (slice_made h2 h3 e2 e3 hR he R1 (hL.step S1) fun k vl vu ρ2 g2 t2 S2 R2 hs r2 r3 => wpAny_bind (wpAny_standAt (wpAny_bind (wpAny_holding ?_)))))))
  refine setslice_ok (s := { s with heap := g2, toks := t2 }) (X := []) R2 e4 hs (r1.mono S2.pre S2.tup) r2 r3 ((rv.mono S1.pre S1.tup).mono S2.pre S2.tup) fun h3 t3 S3 R3 => wpAny_release' ?_
  exact hq ρ2 h3 t3 (S1.trans (S2.trans S3)).nil R3 (hL.step (S1.trans (S2.trans S3)))

/-! ## names stored from the last to the first -/
theorem eraseDups_le : ∀ (n : Nat) (l : List Str), l.length ≤ n → l.eraseDups.length ≤ l.length
  | _, [], _ => by simp
  | 0, _ :: _, h => by simp at h
  | n + 1, a :: l, h => by
    rw [List.eraseDups_cons, List.length_cons, List.length_cons]
    have h1 := List.length_filter_le (fun b => !b == a) l
    have := eraseDups_le n (l.filter fun b => !b == a) (by simp only [List.length_cons] at h; omega)
    omega
theorem nodup_of_eraseDups : ∀ (l : List Str), l.eraseDups.length = l.length → l.Nodup
  | [], _ => List.nodup_nil
  | a :: l, h => by
    rw [List.eraseDups_cons, List.length_cons, List.length_cons] at h
    have h1 := List.length_filter_le (fun b => !b == a) l
    have h2 := eraseDups_le _ (l.filter fun b => !b == a) (Nat.le_refl _)
    have h3 : (l.filter fun b => !b == a).length = l.length := by omega
    have h4 := List.length_filter_eq_length_iff.mp h3
    have h5 : l.filter (fun b => !b == a) = l := List.filter_eq_self.mpr h4
    rw [h5] at h
    refine List.nodup_cons.mpr ⟨fun m => ?_, nodup_of_eraseDups l (by omega)⟩
    have := h4 a m
    simp at this
theorem filterMap_full {α β : Type} {f : α → Option β} {g : α → β} : ∀ {l : List α}, (∀ x ∈ l, f x = some (g x) ∨ f x = none) → (l.filterMap f).length = l.length → l.filterMap f = l.map g
  | [], _, _ => rfl
  | a :: l, h, e => by
    rcases h a (.head _) with q | q
    · rw [List.filterMap_cons_some q] at e ⊢
      rw [List.map_cons, filterMap_full (fun x m => h x (.tail _ m)) (by simpa using e)]
    · rw [List.filterMap_cons_none q] at e
      have := List.length_filterMap_le f l
      rw [List.length_cons] at e; omega
theorem RVs.reverse_ {ρ : Rho} {h : Heap} : ∀ (ds : List V) {vs : List Value}, RVs H ρ h vs ds → RVs H ρ h vs.reverse ds.reverse
  | [], _, r => by obtain rfl := r.nil_inv; exact .nil
  | d :: ds, _, r => by
    obtain ⟨v, us, rfl, a, r⟩ := r.cons_inv
    rw [List.reverse_cons, List.reverse_cons]; exact (RVs.reverse_ ds r).append (.one a)
theorem RVs.reverse {ρ : Rho} {h : Heap} {vs : List Value} {ds : List V} (r : RVs H ρ h vs ds) : RVs H ρ h vs.reverse ds.reverse := RVs.reverse_ ds r
theorem zip_rev {α β : Type} : ∀ {a : List α} {b : List β}, a.length = b.length → a.reverse.zip b.reverse = (a.zip b).reverse := by
  intro a b h
  exact (List.reverse_zipWith h).symm
theorem swapped_cases {es vs : List Expr} {k k' : Nat} {p p' : Pos} {env : Env} {sc : Sc} (he : ∀ e ∈ es, ∃ x p, e = .Name x p ∧ isLocal sc x = true) (hc : vs.all (constantsAlone 8) = false) :
    swappedStores [.Tuple es k p] (.Tuple vs k' p') env = pure none ∨ (swappedStores [.Tuple es k p] (.Tuple vs k' p') env = pure (some (es.map nmOf)) ∧ (es.map nmOf).Nodup) := by
  unfold swappedStores
  simp only
  split
  · exact .inl rfl
  split
  · exact .inl rfl
  split
  · exact .inl rfl
  rename_i hn
  split
  · exact .inl rfl
  rename_i hz
  simp only [Bool.or_eq_true, bne_iff_ne, ne_eq, not_or, Decidable.not_not] at hn
  have hf := filterMap_full (g := nmOf) (fun x hx => by
    obtain ⟨y, q, rfl, _⟩ := he x hx
    simp only [nmOf]
    split <;> simp) hn.1
  split
  · rename_i z
    rw [hc] at z; cases z
  rw [hf] at hn ⊢
  exact .inr ⟨rfl, nodup_of_eraseDups _ hn.2⟩
end
end Mine

set_option autoImplicit false
set_option linter.unusedVariables false
set_option maxRecDepth 100000
namespace Mine
open PySem PySem.W PyProof.Rows PySem.Calls

section
variable {prog : Program} {w : World} {K : Frag} {C : Addr} {H : Heap} {mg mb : Str → Option Value} {n : Nat} {c : CallT}

theorem EnvOk.quiet {env : Env} {sc : Sc} (he : EnvOk env sc) : interactive env = false := by unfold interactive; rw [he.kind]; rfl
theorem swaps_none {e : Expr} {t : Option Expr} {l : Nat} {env : Env} (h : isComp e = false) : swapsWith e t l env = pure false := by
  cases e <;> first | rfl | cases h
theorem plain_noref {ρ : Rho} {h : Heap} {v : Value} {d : V} (r : RV H ρ h v d) (hp : plainV d = true) : ∀ a, v ≠ .ref a := by
  intro a z
  subst z
  cases r <;> cases hp
theorem ex_Expr {e : Expr} {p : Pos} (h1 : EvOk prog w C H n c e) : ExOk prog w C H n c (.Expr e p) := by
  intro sc loc st fl loc' st' q A env ρ s hR he R hL Q E hq
  obtain ⟨hcm, q⟩ := nguard_some q
  obtain ⟨d, st1, e1, q⟩ := bd_some q
  obtain ⟨hp, q⟩ := guard_some q
  cases q
  refine wpAny_Expr (h1 _ _ _ _ _ e1 A env ρ s hR he R hL _ _ fun v ρ1 g1 t1 S1 R1 r1 => ?_) he.quiet (swaps_none (eq_false_of_ne_true hcm))
  have hne := plain_noref r1 hp
  have go : Q .next { s with heap := g1, toks := t1 } := hq .next ρ1 g1 t1 S1.nil R1 (hL.step S1) trivial
  cases v with
  | ref a => exact hne a rfl
  | _ => exact go
theorem ex_Return {eo : Option Expr} {p : Pos} (h1 : EvOOk prog w C H n c eo) : ExOk prog w C H n c (.Return eo p) := by
  intro sc loc st fl loc' st' q A env ρ s hR he R hL Q E hq
  obtain ⟨d, st1, e1, q⟩ := bd_some q
  cases q
  cases eo with
  | none =>
    cases e1
    exact wpAny_Return_none (hq _ ρ s.heap s.toks .refl R hL .none)
  | some e =>
    exact wpAny_Return_some (h1 _ _ _ _ _ e1 A env ρ s hR he R hL _ _ fun v ρ1 g1 t1 S1 R1 r1 => hq _ ρ1 g1 t1 S1.nil R1 (hL.step S1) r1)
theorem ex_If {t : Expr} {b o : List Stmt} {p : Pos} (h1 : EvTOk prog w C H n c t) (h2 : ExsOk prog w C H n c b) (h3 : ExsOk prog w C H n c o) : ExOk prog w C H n c (.If t b o p) := by
  intro sc loc st fl loc' st' q A env ρ s hR he R hL Q E hq
  obtain ⟨d, st1, e1, q⟩ := bd_some q
  refine wpAny_If (h1 _ _ _ _ _ e1 A env ρ s hR he R hL _ _ fun ρ1 g1 t1 S1 R1 => ?_)
  cases d with
  | true =>
    rw [if_pos rfl] at q ⊢
    exact h2 _ _ _ _ _ _ q A env ρ1 _ hR he R1 (hL.step S1) _ _ fun f ρ2 g2 t2 S2 R2 L2 F2 => hq f ρ2 g2 t2 (S1.nil.trans S2) R2 L2 F2
  | false =>
    rw [if_neg (by decide)] at q ⊢
    exact h3 _ _ _ _ _ _ q A env ρ1 _ hR he R1 (hL.step S1) _ _ fun f ρ2 g2 t2 S2 R2 L2 F2 => hq f ρ2 g2 t2 (S1.nil.trans S2) R2 L2 F2
theorem Lc.own {L : Addr} {ρ : Rho} {h : Heap} {loc : Loc} (l : Lc H L ρ h loc) : ∃ o, h.get? L = some o := by
  obtain ⟨⟨m, n, r⟩, _⟩ := l
  obtain ⟨o, ho, _⟩ := Ns.noTup n
  exact ⟨o, ho⟩
theorem exs_nil : ExsOk prog w C H n c [] := by
  intro sc loc st fl loc' st' q A env ρ s hR he R hL Q E hq
  cases q
  exact wpAny_execs_nil (hq .next ρ s.heap s.toks .refl R hL trivial)
theorem exs_cons {t : Stmt} {ts : List Stmt} (h1 : ExOk prog w C H n c t) (h2 : ExsOk prog w C H n c ts) : ExsOk prog w C H n c (t :: ts) := by
  intro sc loc st fl loc' st' q A env ρ s hR he R hL Q E hq
  obtain ⟨⟨f, l⟩, st1, e1, q⟩ := bd_some q
  refine wpAny_execs_cons (h1 _ _ _ _ _ _ e1 A env ρ s hR he R hL _ _ fun f' ρ1 g1 t1 S1 R1 L1 F1 => ?_)
  cases f with
  | next =>
    obtain rfl := F1.next_inv
    exact h2 _ _ _ _ _ _ q A env ρ1 _ hR he R1 L1 _ _ fun f ρ2 g2 t2 S2 R2 L2 F2 => hq f ρ2 g2 t2 (S1.trans S2) R2 L2 F2
  | ret v =>
    obtain ⟨rfl, rfl, rfl⟩ := triple_some q
    obtain ⟨u, rfl, _⟩ := F1.ret_inv
    exact hq _ ρ1 g1 t1 S1 R1 L1 F1
theorem ex_AugAssign {t e : Expr} {op : Operator} {p : Pos} (h1 : EvOk prog w C H n c e) : ExOk prog w C H n c (.AugAssign t op e p) := by
  intro sc loc st fl loc' st' q A env ρ s hR he R hL Q E hq
  obtain ⟨x, px, rfl, q⟩ := name_some q
  · obtain ⟨hx, q⟩ := guard_some q
    simp only [Bool.and_eq_true, Bool.or_eq_true, beq_iff_eq] at hx
    obtain ⟨a, ea, q⟩ := Option.bind_eq_some_iff.mp q
    obtain ⟨b, st1, e1, q⟩ := bd_some q
    obtain ⟨i, j, rfl, rfl, q⟩ := int2_some q
    obtain ⟨d, st2, e2, q⟩ := bd_some q
    cases q
    obtain ⟨m, hn, hm⟩ := hL.1
    obtain ⟨v, hv, rv⟩ := hm.get ea
    cases rv
    refine wpAny_AugAssign_Name (wpAny_loadName_local he.kind (by unfold Env.kindOf; rw [he.names]; exact isLocal_iff hx.1) hn hv (h1 _ _ _ _ _ e1 A env ρ s hR he R hL _ _ fun u ρ1 g1 t1 S1 R1 r1 => ?_))
    cases r1
    have last : ∀ (i' : Int) (tk tk' : Tok), V.int i' = d → st1 = st' → wpAny (model prog w) A (storeName env x (.int i' tk)) (fun _ => Q .next) E { s with heap := g1, toks := tk' } := by
      intro i' tk tk' e3 e4
      subst e4 e3
      exact store_ok (s := { s with heap := g1, toks := tk' }) hx.1 he R1 (hL.step S1) (.int i' tk) fun h2 t2 S2 R2 L2 => hq .next ρ1 h2 t2 (S1.nil.trans S2) R2 L2 trivial
    rcases hx.2 with rfl | rfl
    · obtain ⟨e3, e4⟩ := pair_some e2
      exact P.isub_int (last _ _ _ e3 e4)
    · obtain ⟨e3, e4⟩ := pair_some e2
      exact P.iadd_int (last _ _ _ e3 e4)

/-! ## one target -/
theorem swapped_no {t e : Expr} {env : Env} (h : ∀ es k p vs k' p', t = .Tuple es k p → e = .Tuple vs k' p' → False) (h' : ∀ es p, t = .List es p → False) : swappedStores [t] e env = pure none := by
  cases t with
  | Tuple es k p => cases e <;> first | rfl | exact (h _ _ _ _ _ _ rfl rfl).elim
  | List es p => exact (h' _ _ rfl).elim
  | _ => rfl
theorem one_target {t : Expr} {env : Env} (h : ∀ e p, t ≠ .Starred e p) : (assignEach [t] env).map (·.2) = [assign t env] := by
  cases t <;> first | rfl | exact (h _ _ rfl).elim
theorem assign_swaps {t e : Expr} {l : Nat} {env : Env} (hok : assignOk t e = true) : swapsWithSole [t] e l env = pure false := by
  show swapsWith e (some t) l env = pure false
  cases t with
  | Name x px => exact swaps_none (not_true hok)
  | Tuple es k q => cases e <;> first | rfl | exact no_true hok
  | Attribute o a q => cases e <;> rfl
  | Subscript o i q => cases e <;> rfl
  | _ => exact no_true hok
theorem ex_Assign {t e : Expr} {p : Pos} (h1 : EvOk prog w C H n c e) (h2 : StOk prog w C H n c t) {sc : Sc} {loc : Loc} {st : St} {fl : Fl} {loc' : Loc} {st' : St} (hok : assignOk t e = true)
    (q : (bd (ev c e sc loc st) fun v st => bd (storeT c sc t v loc st) fun loc st => some ((Fl.next, loc), st)) = some ((fl, loc'), st')) : ExOn prog w C H n (.Assign [t] e p) sc loc st fl loc' st' := by
  intro A env ρ s hR he R hL Q E hq
  obtain ⟨d, st1, e1, q⟩ := bd_some q
  obtain ⟨l, st2, e2, q⟩ := bd_some q
  cases q
  have hsw := assign_swaps (l := p.line) (env := env) hok
  have plainWay : swappedStores [t] e env = pure none → wpAny (model prog w) A (exec (.Assign [t] e p) env) Q E s := by
    intro hw
    refine wpAny_Assign_stores (h1 _ _ _ _ _ e1 A env ρ s hR he R hL _ _ fun v ρ1 g1 t1 S1 R1 r1 => ?_) hsw hw
    rw [one_target (fun e p z => by subst z; exact no_true hok)]
    exact h2 _ _ _ _ _ _ e2 A env ρ1 _ v hR he R1 (hL.step S1) r1 _ _ fun ρ2 g2 t2 S2 R2 L2 => hq .next ρ2 g2 t2 (S1.nil.trans S2) R2 L2 trivial
  by_cases hh : ∃ es k p₁ vs k' p', t = .Tuple es k p₁ ∧ e = .Tuple vs k' p'
  · obtain ⟨es, k, p₁, vs, k', p', rfl, rfl⟩ := hh
    have e2' := e2
    obtain ⟨l', e3, e4⟩ := Option.map_eq_some_iff.mp e2'
    cases e4
    obtain ⟨ds, rfl, e3⟩ := tup_some e3
    · obtain ⟨n1, n2, n3⟩ := bindNames_some e3
      subst n3
      have hc : vs.all (constantsAlone 8) = false := not_true hok
      rcases swapped_cases (k := k) (k' := k') (p := p₁) (p' := p') (env := env) n2 hc with hw | ⟨hw, nd⟩
      · exact plainWay hw
      · refine Assign_Tuple_swapped (h1 _ _ _ _ _ e1 A env ρ s hR he R hL _ _ fun v ρ1 g1 t1 S1 R1 r1 => ?_) hsw hw
        obtain ⟨a, us, kk, rfl, ha, r, _⟩ := r1.tup_inv
        have hlen : (es.map nmOf).length = us.toArray.size := by rw [List.length_map, List.size_toArray, n1, r.length]
        rw [hlen]
        refine wpAny_unpackItems_tuple (s := { s with heap := g1, toks := t1 }) hR.1 ⟨_, ha, rfl, kk, rfl⟩ fun h' hx => ?_
        have hk : ∀ b o, g1.get? b = some o → h'.get? b = some o := fun b o e => hx b o (Nat.ne_of_lt (Heap.lt_size e)) e
        have S2 : Step [] ρ1 g1 ρ1 h' := Step.of_ext hk
        have hl2 : (es.map nmOf).length = us.length := by simpa using hlen
        refine stores_ok he (fun x v => bindName env x v) (fun x v s Q h => wpAny_bindName h) (es.map nmOf).reverse us.reverse ds.reverse loc { s with heap := h', toks := t1 } _ (by simp [← hl2]) (fun x hx => ?_) (R1.keeps hk) ((hL.step S1).step S2) ((r.mono ⟨[], by simp⟩ S2.tup).reverse) fun g3 t3 S3 R3 L3 => ?_
        · rw [List.mem_reverse] at hx
          obtain ⟨e, hm, rfl⟩ := List.mem_map.mp hx
          obtain ⟨y, q, rfl, hy⟩ := n2 e hm
          exact hy
        · refine hq .next ρ1 g3 t3 ((S1.trans S2).nil.trans S3) R3 (L3.congr fun x => ?_) trivial
          rw [zip_rev (by rw [hl2, r.length])]
          refine putAll_rev ?_ loc x
          rw [List.map_fst_zip (by rw [hl2, r.length]; exact Nat.le_refl _)]
          exact nd
  · exact plainWay (swapped_no (fun es k p vs k' p' a b => hh ⟨_, _, _, _, _, _, a, b⟩) fun es p z => by subst z; exact no_true hok)
end
end Mine

set_option autoImplicit false
set_option linter.unusedVariables false
set_option maxRecDepth 100000
namespace Mine
open PySem PySem.W PyProof.Rows PySem.Calls

section
variable {prog : Program} {w : World} {K : Frag} {C : Addr} {H : Heap} {mg mb : Str → Option Value} {n : Nat} {c : CallT}

theorem ex_While {t : Expr} {b o : List Stmt} {p : Pos} (h1 : EvTOk prog w C H n c t) (h2 : ExsOk prog w C H n c b) : ExOk prog w C H n c (.While t b o p) := by
  intro sc loc st fl loc' st' q A env ρ s hR he R hL Q E hq
  obtain ⟨ho, q⟩ := guard_some q
  · obtain rfl := List.isEmpty_iff.mp ho
    refine wpAny_While (codeAny_whileLoop (I := fun k s1 => ∃ ρ1 h1 t1 loc1 st1, s1 = { s with heap := h1, toks := t1 } ∧ whileL (fun loc st => evT c t sc loc (ev c t sc loc) st) (fun loc st => exs c b sc loc st) k loc1 st1 = some ((fl, loc'), st') ∧
      Step [env.locals] ρ s.heap ρ1 h1 ∧ Rel prog w C H st1 ρ1 h1 ∧ Lc H env.locals ρ1 h1 loc1) ?_ 64 ⟨ρ, s.heap, s.toks, loc, st, rfl, q, .refl, R, hL⟩)
    rintro k s1 ⟨ρ1, g1, t1, loc1, st1, rfl, e1, S1, R1, L1⟩
    cases k with
    | zero => exact no_some e1
    | succ k =>
      obtain ⟨d, st2, e2, e3⟩ := bd_some e1
      refine h1 _ _ _ _ _ e2 A env ρ1 _ hR he R1 L1 _ _ fun ρ2 g2 t2 S2 R2 => ?_
      have L2 := L1.step S2
      have S12 := S1.trans S2.nil
      cases d with
      | true =>
        rw [if_pos rfl] at e3 ⊢
        obtain ⟨⟨f, l⟩, st3, e4, e5⟩ := bd_some e3
        refine h2 _ _ _ _ _ _ e4 A env ρ2 _ hR he R2 L2 _ _ fun f' ρ3 g3 t3 S3 R3 L3 F3 => ?_
        cases f with
        | next =>
          obtain rfl := F3.next_inv
          exact ⟨k, Nat.lt_succ_self k, ρ3, g3, t3, l, st3, rfl, e5, S12.trans S3, R3, L3⟩
        | ret v =>
          obtain ⟨rfl, rfl, rfl⟩ := triple_some e5
          obtain ⟨u, rfl, _⟩ := F3.ret_inv
          exact hq _ ρ3 g3 t3 (S12.trans S3) R3 L3 F3
      | false =>
        rw [if_neg Bool.false_ne_true] at e3 ⊢
        obtain ⟨rfl, rfl, rfl⟩ := triple_some e3
        exact wpAny_execs_nil (hq .next ρ2 g2 t2 S12 R2 L2 trivial)

theorem forLoop_ok {A : Around} {env : Env} {sc : Sc} {ρ : Rho} {s : Shared} {h0 : Heap} {st st' : St} {loc loc' : Loc} {fl : Fl} {target : Expr} {body : List Stmt} {I : Addr} {own : List Addr} {items : List V} {src : Option (Nat × List V)} {It : Rho → Nat → Heap → Prop} {Q : Flow → Shared → Prop} {E : Value → Shared → Prop}
    (hR : Room n A) (he : EnvOk env sc) (hb : ExsOk prog w C H n c body) (it : Iter prog w C H A target I own items src It) (e : forL src (bindT sc target) (fun loc st => exs c body sc loc st) items loc st = some ((fl, loc'), st'))
    (R : Rel prog w C H st ρ s.heap) (hL : Lc H env.locals ρ s.heap loc) (hI : It ρ 0 s.heap) (R0 : Rel prog w C H st ρ h0) (hf : ∀ a ∈ own, h0.get? a = none) (hs : Step [env.locals] ρ h0 ρ s.heap) (hLo : env.locals ∉ own)
    (hq : ∀ f ρ' h' tk', Step [env.locals] ρ h0 ρ' h' → Rel prog w C H st' ρ' h' → Lc H env.locals ρ' h' loc' → FlOk H ρ' h' f fl → Q f { s with heap := h', toks := tk' }) :
    codeAny (model prog w) A (.forLoop target (.ref I) body [] env) (fun r s' => match r with | .ok f => Q f s' | .error e => cameBackBy (model prog w) A env E e s') s := by
  have hoH : ∀ a ∈ own, H.get? a = none := fun a m => R0.notH (hf a m)
  obtain ⟨Inv, hInv⟩ : ∃ Inv : Nat → Shared → Prop, Inv = fun k s1 => ∃ i ρ1 h1 t1 loc1 st1, s1 = { s with heap := h1, toks := t1 } ∧ i + k = items.length ∧ forL src (bindT sc target) (fun loc st => exs c body sc loc st) (items.drop i) loc1 st1 = some ((fl, loc'), st') ∧
      Step [env.locals] ρ h0 ρ1 h1 ∧ Rel prog w C H st1 ρ1 h1 ∧ Lc H env.locals ρ1 h1 loc1 ∧ It ρ1 i h1 ∧ ∀ a ∈ own, a ∉ adrs ρ1 := ⟨_, rfl⟩
  have hInv' : ∀ k s1, Inv k s1 ↔ ∃ i ρ1 h1 t1 loc1 st1, s1 = { s with heap := h1, toks := t1 } ∧ i + k = items.length ∧ forL src (bindT sc target) (fun loc st => exs c body sc loc st) (items.drop i) loc1 st1 = some ((fl, loc'), st') ∧
      Step [env.locals] ρ h0 ρ1 h1 ∧ Rel prog w C H st1 ρ1 h1 ∧ Lc H env.locals ρ1 h1 loc1 ∧ It ρ1 i h1 ∧ ∀ a ∈ own, a ∉ adrs ρ1 := fun k s1 => by rw [hInv]
  clear hInv
  refine codeAny_forLoop_any (I := Inv) ?_ items.length ((hInv' _ _).mpr ⟨0, ρ, s.heap, s.toks, loc, st, rfl, by omega, by rw [List.drop_zero]; exact e, hs, R, hL, hI, fun a m => R0.notIn (hf a m)⟩)
  intro k s1 hi0
  obtain ⟨i, ρ1, g1, t1, loc1, st1, rfl, hik, e1, S1, R1, L1, I1, O1⟩ := (hInv' _ _).mp hi0
  clear hi0
  cases hd : items.drop i with
  | nil =>
    rw [hd] at e1
    have hlen : i = items.length := by
      have := congrArg List.length hd
      simp only [List.length_drop, List.length_nil] at this
      omega
    subst hlen
    obtain ⟨hsame, e1⟩ := guard_some e1
    · obtain ⟨rfl, rfl, rfl⟩ := triple_some e1
      refine it.done _ ρ1 _ _ _ I1 R1 O1 hsame fun h2 t2 hbut => ?_
      have tt := it.there _ _ _ I1
      exact wpAny_execs_nil (hq .next ρ1 h2 t2 (S1.but hf hbut) (R1.but hbut tt O1 hoH) (L1.but hbut tt hLo) trivial)
  | cons d r =>
    rw [hd] at e1
    have hi : items[i]? = some d := by
      have := congrArg (·[0]?) hd
      simpa [List.getElem?_drop] using this
    have hdr : items.drop (i + 1) = r := by
      have := congrArg List.tail hd
      rw [List.tail_drop] at this
      exact this
    obtain ⟨hsame, e1⟩ := guard_some e1
    · obtain ⟨loc2, e2, e3⟩ := Option.bind_eq_some_iff.mp e1
      obtain ⟨⟨f, l⟩, st3, e4, e5⟩ := bd_some e3
      refine wpAny_mono (it.item st1 ρ1 i _ d (fun v s₂ => wpAny (model prog w) A (assign target env v) (fun _ s₂ => wpAny (model prog w) A (execs body env) (fun f s₃ => match f with
            | .next | .cont => ∃ m, m < k ∧ Inv m s₃
            | .brk => Q .next s₃
            | .ret v => Q (.ret v) s₃) (notedBy (model prog w) A env fun e s' => cameBackBy (model prog w) A env E e s') s₂) (notedBy (model prog w) A env fun e s' => cameBackBy (model prog w) A env E e s') s₂) _ I1 R1 O1 hsame hi fun v h2 t2 hbut rv I2 => ?_) (fun r s₁ h => ?_) fun _ _ x => x
      rotate_left
      · cases r with
        | none => exact h.elim
        | some v => exact h
      have tt := it.there _ _ _ I1
      have S2 := S1.but hf hbut
      have R2 := R1.but hbut tt O1 hoH
      have L2 := L1.but hbut tt hLo
      refine bindT_ok (s := { s with heap := h2, toks := t2 }) hR.1 e2 he R2 L2 rv fun h3 t3 S3 R3 L3 => ?_
      refine hb _ _ _ _ _ _ e4 A env ρ1 _ hR he R3 L3 _ _ fun f' ρ4 h4 t4 S4 R4 L4 F4 => ?_
      cases f with
      | next =>
        obtain rfl := F4.next_inv
        have S34 := S3.trans S4
        have asd : ∀ a ∈ own, ∀ o, h2.get? a = some o → h4.get? a = some o ∧ a ∉ adrs ρ4 := fun a m o ho => S34.aside ho (O1 a m) (by simp; exact fun z => hLo (z ▸ m))
        refine ⟨k - 1, ?_, (hInv' _ _).mpr ⟨i + 1, ρ4, h4, t4, l, st3, rfl, ?_, by rw [hdr]; exact e5, S2.trans S34, R4, L4, it.frame _ _ _ _ _ I2 S34.pre (fun a m o ho => (asd a m o ho).1) S34.tup, fun a m => ?_⟩⟩
        · have := (List.getElem?_eq_some_iff.mp hi).1; omega
        · have := (List.getElem?_eq_some_iff.mp hi).1; omega
        · obtain ⟨o, ho, _⟩ := it.there _ _ _ I2 a m
          exact (asd a m o ho).2
      | ret u =>
        obtain ⟨rfl, rfl, rfl⟩ := triple_some e5
        obtain ⟨u, rfl, _⟩ := F4.ret_inv
        exact hq _ ρ4 h4 t4 (S2.trans (S3.trans S4)) R4 L4 F4
end
end Mine

set_option autoImplicit false
set_option linter.unusedVariables false
set_option maxRecDepth 100000
namespace Mine
open PySem PySem.W PyProof.Rows PySem.Calls

section
variable {prog : Program} {w : World} {K : Frag} {C : Addr} {H : Heap} {mg mb : Str → Option Value} {n : Nat} {c : CallT}

theorem push_ext (h : Heap) (o : Obj) : ∀ a x, h.get? a = some x → (h.push o).get? a = some x := fun a x e => Heap.get?_push_of_some _ e
theorem fresh_ge {h : Heap} {b : Addr} (hb : Nat.le h.objs.size b) : h.get? b = none := by
  cases q : h.get? b with
  | none => rfl
  | some o => exact absurd (Heap.lt_size q) (Nat.not_lt_of_le hb)
theorem start_items {A : Around} {ρ : Rho} {s : Shared} {st : St} {v : Value} {d : V} {items : List V} {src : Option (Nat × List V)} {x : Str} {px : Pos} {Q : Value → Shared → Prop} {E : Value → Shared → Prop} (hh : A.handled = none) (e : itemsV d st = some (items, src)) (R : Rel prog w C H st ρ s.heap) (rv : RV H ρ s.heap v d)
    (hq : ∀ I It h', s.heap.get? I = none → Iter prog w C H A (.Name x px) I [I] items src It → (∀ a o, s.heap.get? a = some o → h'.get? a = some o) → It ρ 0 h' → Q (.ref I) { s with heap := h' }) : wpAny (model prog w) A (pyIter v) Q E s := by
  rcases tupref_some e with ⟨ds, rfl, e⟩ | ⟨a, rfl, e⟩
  · obtain ⟨rfl, rfl⟩ := pair_some e
    obtain ⟨a, us, k, rfl, ha, r, _⟩ := rv.tup_inv
    refine wpAny_pyIter_tuple ⟨_, ha, rfl, k, rfl⟩ ?_
    refine hq _ _ _ (fresh_size s.heap) (iter_tup hh s.heap.objs.size a us k _ x px) (push_ext _ _) ⟨⟨_, Heap.get?_push_size _ rfl, rfl, rfl⟩, push_ext _ _ _ _ ha, r.mono ⟨[], (List.append_nil _).symm⟩ fun a vs n e => push_ext _ _ _ _ e⟩
  · obtain ⟨vs, e1, e⟩ := list_some e
    obtain ⟨rfl, rfl⟩ := pair_some e
    obtain ⟨p, hp, rfl⟩ := rv.ref_inv
    obtain ⟨p', hp', hpp2, hl, us, k, ho, r⟩ := R.at e1
    obtain rfl := Option.some.inj (hp'.symm.trans hp)
    refine wpAny_pyIter_list ⟨_, ho, rfl, k, rfl⟩ ?_
    exact hq _ _ _ (fresh_size s.heap) (iter_list hh s.heap.objs.size a _ x px) (push_ext _ _) ⟨_, hp, _, Heap.get?_push_size _ rfl, rfl, rfl⟩
theorem range_size {k : Int} : Builtin.Range.rangeSize 0 k 1 = (k.toNat : Int) := by
  unfold Builtin.Range.rangeSize
  rw [if_pos (by decide)]
  split
  · rw [Int.ediv_one]; omega
  · omega
theorem start_range {A : Around} {ρ : Rho} {s : Shared} {st : St} {v : Value} {d : V} {items : List V} {x : Str} {px : Pos} {Q : Value → Shared → Prop} {E : Value → Shared → Prop} (hh : A.handled = none) (e : rangeOf d = some items) (R : Rel prog w C H st ρ s.heap) (rv : RV H ρ s.heap v d)
    (hq : ∀ I It h' tk', s.heap.get? I = none → Iter prog w C H A (.Name x px) I [I] items none It → (∀ a o, s.heap.get? a = some o → h'.get? a = some o) → It ρ 0 h' → Q (.ref I) { s with heap := h', toks := tk' }) : wpAny (model prog w) A (call (.type "range") [v]) (fun u s' => wpAny (model prog w) A (pyIter u) Q E s') E s := by
  obtain ⟨k, rfl, e⟩ := int_some e
  obtain ⟨hk, e⟩ := guard_some e
  obtain rfl := Option.some.inj e
  obtain ⟨t, rfl⟩ := rv.int_inv
  refine call_range_1 ?_
  refine wpAny_pyIter_range (IsRange.new _ _ _ _ _ _ _) (small_one (by decide) (by decide) (Int.le_trans (by decide) hk.2) (Int.lt_of_le_of_lt hk.1 (by decide))) ?_
  refine hq _ _ _ _ (fresh_ge ?_) (iter_range hh _ k.toNat x px) (fun a o e => push_ext _ _ _ _ (push_ext _ _ _ _ e)) ?_
  · rw [Heap.size_push]; exact Nat.le_succ _
  · refine (Heap.get?_push_size _ rfl).trans ?_
    simp [rawInt, range_size]
theorem start_enum {A : Around} {ρ : Rho} {s : Shared} {st : St} {v : Value} {d : V} {items : List V} {src : Option (Nat × List V)} {es : List Expr} {k : Nat} {pt : Pos} {Q : Value → Shared → Prop} {E : Value → Shared → Prop} (hh : A.handled = none) (e : enumOf d st = some (items, src)) (R : Rel prog w C H st ρ s.heap) (rv : RV H ρ s.heap v d)
    (hq : ∀ I own It h', (∀ a ∈ own, s.heap.get? a = none) → Iter prog w C H A (.Tuple es k pt) I own items src It → (∀ a o, s.heap.get? a = some o → h'.get? a = some o) → It ρ 0 h' → Q (.ref I) { s with heap := h' }) : wpAny (model prog w) A (call (.type "enumerate") [v]) (fun u s' => wpAny (model prog w) A (pyIter u) Q E s') E s := by
  obtain ⟨a, rfl, e⟩ := ref_some e
  obtain ⟨vs, e1, e⟩ := list_some e
  obtain ⟨rfl, rfl⟩ := pair_some e
  obtain ⟨p, hp, rfl⟩ := rv.ref_inv
  obtain ⟨p', hp', hpp2, hl, us, kk, ho, r⟩ := R.at e1
  obtain rfl := Option.some.inj (hp'.symm.trans hp)
  refine call_enumerate_list ⟨_, ho, rfl, kk, rfl⟩ fun h' he hit hsz hk => ?_
  refine wpAny_pyIter_enum he ?_
  refine hq _ [s.heap.objs.size + 1, s.heap.objs.size] _ h' (fun b hb => ?_) (iter_enum hh _ _ (Nat.succ_ne_self _) a vs es k pt) hk ⟨_, .none, hp, he, hit⟩
  rcases List.mem_cons.mp hb with rfl | hb
  · exact fresh_ge (Nat.le_succ _)
  · rw [List.mem_singleton.mp hb]; exact fresh_ge (Nat.le_refl _)
end
end Mine

set_option autoImplicit false
set_option linter.unusedVariables false
set_option maxRecDepth 100000
namespace Mine
open PySem PySem.W PyProof.Rows PySem.Calls

section
variable {prog : Program} {w : World} {K : Frag} {C : Addr} {H : Heap} {mg mb : Str → Option Value} {n : Nat} {c : CallT}

theorem folded_of {iter : Expr} {sc : Sc} {loc : Loc} {st : St} {r : V × St} (h : ev c iter sc loc st = some r) (env : Env) : ∀ x, foldedSetIterable iter env x = pure x := by
  cases iter <;> first | (intro x; rfl) | exact no_some h
theorem evs_one {e : Expr} {sc : Sc} {loc : Loc} {st st1 : St} {d : V} (h : ev c e sc loc st = some (d, st1)) : evs c [e] sc loc st = some ([d], st1) := by
  show bd (ev c e sc loc st) (fun v st => bd (evs c [] sc loc st) fun vs st => some (v :: vs, st)) = _
  rw [h]; rfl
/-- a call of a class of the machine's, by its name, of one argument -/
theorem call_one (B : Base prog w K C H mg mb) {A : Around} {env : Env} {sc : Sc} {loc : Loc} {ρ : Rho} {s : Shared} {st st1 : St} {d : V} {e : Expr} {f : Str} {fp cp : Pos} {T : String} {Q : Value → Shared → Prop} {E : Value → Shared → Prop} (h1 : EvOk prog w C H n c e) (e1 : ev c e sc loc st = some (d, st1)) (hR : Room n A) (he : EnvOk env sc)
    (R : Rel prog w C H st ρ s.heap) (hL : Lc H env.locals ρ s.heap loc) (hk : sc.lookup f = some .globalImplicit) (hm : mg f = none) (hn : f ≠ Str.ofString "__name__") (hd : f ≠ Str.ofString "__debug__") (hb : bootBuiltins f = some (.type T))
    (hq : ∀ v ρ' h' tk', Step [] ρ s.heap ρ' h' → Rel prog w C H st1 ρ' h' → RV H ρ' h' v d → wpAny (model prog w) A (call (.type T) [v]) Q E { s with heap := h', toks := tk' }) : wpAny (model prog w) A (eval (.Call (.Name f fp) [e] [] cp) env) Q E s := by
  show wpAny _ A (do callWith cp (← eval (.Name f fp) env) [] (backTo cp (starEach [e] env)) []) Q E s
  refine wpAny_bind (glob_load B he R hd hk (.inr ⟨hm, hn, hb⟩) ?_)
  refine callWith_ok (evs_cons h1 evs_nil) (evs_one e1) hR he R hL (fun h _ => keep_ty _ _ _) fun vs ρ1 g1 t1 S1 R1 r1 => ?_
  obtain ⟨v, rfl, rv⟩ := r1.one_inv
  exact hq v ρ1 g1 t1 S1 R1 rv
theorem isNm_inv {t : Expr} (h : isNm t = true) : ∃ x p, t = .Name x p := by
  cases t <;> first | exact ⟨_, _, rfl⟩ | exact no_true h
theorem isTp_inv {t : Expr} (h : isTp t = true) : ∃ es k p, t = .Tuple es k p := by
  cases t <;> first | exact ⟨_, _, _, rfl⟩ | exact no_true h
theorem glob_of {sc : Sc} {f : Str} (h : (sc.lookup f == some NameKind.globalImplicit) = true) : sc.lookup f = some .globalImplicit := by
  cases z : sc.lookup f with
  | none => rw [z] at h; exact no_true h
  | some k => rw [z] at h; cases k <;> first | rfl | exact no_true h
theorem for_go {A : Around} {env : Env} {sc : Sc} {ρ ρ1 : Rho} {s : Shared} {g1 g2 : Heap} {t2 : Nat} {st st' : St} {loc loc' : Loc} {fl : Fl} {target : Expr} {b : List Stmt} {I : Addr} {own : List Addr} {items : List V} {src : Option (Nat × List V)} {It : Rho → Nat → Heap → Prop} {Q : Flow → Shared → Prop} {E : Value → Shared → Prop}
    (hR : Room n A) (he : EnvOk env sc) (h2 : ExsOk prog w C H n c b) (it : Iter prog w C H A target I own items src It) (q : forL src (bindT sc target) (fun loc st => exs c b sc loc st) items loc st = some ((fl, loc'), st')) (R1 : Rel prog w C H st ρ1 g1) (L1 : Lc H env.locals ρ1 g1 loc) (S1 : Step [] ρ s.heap ρ1 g1)
    (hk : ∀ a o, g1.get? a = some o → g2.get? a = some o) (h0 : It ρ1 0 g2) (hI : ∀ a ∈ own, g1.get? a = none)
    (hq : ∀ f ρ' h' tk', Step [env.locals] ρ s.heap ρ' h' → Rel prog w C H st' ρ' h' → Lc H env.locals ρ' h' loc' → FlOk H ρ' h' f fl → Q f { s with heap := h', toks := tk' }) :
    codeAny (model prog w) A (.forLoop target (.ref I) b [] env) (fun r s' => match r with | .ok f => Q f s' | .error e => cameBackBy (model prog w) A env E e s') { s with heap := g2, toks := t2 } := by
  obtain ⟨oL, hoL⟩ := L1.own
  have S2 : Step [] ρ1 g1 ρ1 g2 := Step.of_ext hk
  exact forLoop_ok (s := { s with heap := g2, toks := t2 }) hR he h2 it q (R1.keeps hk) (L1.step S2) h0 R1 hI S2.nil (fun m => no_some ((hI _ m).symm.trans hoL)) fun f ρ3 h3 t3 S3 R3 L3 F3 => hq f ρ3 h3 t3 (S1.nil.trans S3) R3 L3 F3
theorem for_any {t iter : Expr} {b o : List Stmt} {p : Pos} (h1 : EvOk prog w C H n c iter) (h2 : ExsOk prog w C H n c b) {sc : Sc} {loc : Loc} {st : St} {fl : Fl} {loc' : Loc} {st' : St} (ho : o = []) (ht : isNm t = true)
    (q : (bd (ev c iter sc loc st) fun v st => (itemsV v st).bind fun its => forL its.2 (bindT sc t) (fun loc st => exs c b sc loc st) its.1 loc st) = some ((fl, loc'), st')) : ExOn prog w C H n (.For t iter b o p) sc loc st fl loc' st' := by
  intro A env ρ s hR he R hL Q E hq
  subst ho
  obtain ⟨d, st1, e1, q⟩ := bd_some q
  obtain ⟨⟨items, src⟩, e2, q⟩ := Option.bind_eq_some_iff.mp q
  obtain ⟨x, px, rfl⟩ := isNm_inv ht
  refine wpAny_For (h1 _ _ _ _ _ e1 A env ρ s hR he R hL _ _ fun v ρ1 g1 t1 S1 R1 r1 => ?_) (folded_of e1 env)
  refine start_items (s := { s with heap := g1, toks := t1 }) (x := x) (px := px) hR.1 e2 R1 r1 fun I It g2 hI it hk h0 => ?_
  exact for_go (s := s) hR he h2 it q R1 (hL.step S1) S1 hk h0 (fun a m => by rw [List.mem_singleton.mp m]; exact hI) hq
theorem ex_For (B : Base prog w K C H mg mb) (hbe : bootBuiltins (Str.ofString "enumerate") = some (.type "enumerate")) (hbr : bootBuiltins (Str.ofString "range") = some (.type "range")) {t e : Expr} {f : Str} {fp cp : Pos} {b o : List Stmt} {p : Pos} (h1 : EvOk prog w C H n c e) (h2 : ExsOk prog w C H n c b) : ExOk prog w C H n c (.For t (.Call (.Name f fp) [e] [] cp) b o p) := by
  intro sc loc st fl loc' st' q A env ρ s hR he R hL Q E hq
  obtain ⟨ho, q⟩ := guard_some q
  obtain rfl := List.isEmpty_iff.mp ho
  obtain ⟨hk, q⟩ := guard_some q
  have hk := glob_of hk
  rcases ite_some q with ⟨hf, q⟩ | q
  · obtain ⟨hf, ht⟩ := Bool.and_eq_true_iff.mp hf
    obtain rfl := eq_of_beq hf
    obtain ⟨es, k, px, rfl⟩ := isTp_inv ht
    obtain ⟨d, st1, e1, q⟩ := bd_some q
    obtain ⟨⟨items, src⟩, e2, q⟩ := Option.bind_eq_some_iff.mp q
    refine wpAny_For (call_one B h1 e1 hR he R hL hk B.enum (by decide) (by decide) hbe fun v ρ1 g1 t1 S1 R1 r1 => ?_)
    refine start_enum (s := { s with heap := g1, toks := t1 }) (es := es) (k := k) (pt := px) hR.1 e2 R1 r1 fun I own It g2 hI it hkk h0 => ?_
    exact for_go (s := s) hR he h2 it q R1 (hL.step S1) S1 hkk h0 hI hq
  · obtain ⟨hf, q⟩ := guard_some q
    obtain ⟨hf, ht⟩ := Bool.and_eq_true_iff.mp hf
    obtain rfl := eq_of_beq hf
    obtain ⟨x, px, rfl⟩ := isNm_inv ht
    obtain ⟨d, st1, e1, q⟩ := bd_some q
    obtain ⟨items, e2, q⟩ := Option.bind_eq_some_iff.mp q
    refine wpAny_For (call_one B h1 e1 hR he R hL hk B.rng (by decide) (by decide) hbr fun v ρ1 g1 t1 S1 R1 r1 => ?_)
    refine start_range (s := { s with heap := g1, toks := t1 }) (x := x) (px := px) hR.1 e2 R1 r1 fun I It g2 t2 hI it hkk h0 => ?_
    exact for_go (s := s) hR he h2 it q R1 (hL.step S1) S1 hkk h0 (fun a m => by rw [List.mem_singleton.mp m]; exact hI) hq
end
end Mine

set_option autoImplicit false
set_option linter.unusedVariables false
set_option maxRecDepth 100000
namespace Mine
open PySem PySem.W PyProof.Rows PySem.Calls

section
variable {prog : Program} {w : World} {K : Frag} {C : Addr} {H : Heap} {mg mb : Str → Option Value} {n : Nat} {c : CallT}

/-- a comprehension's loop, the tuple's letting go kept -/
theorem compLoop_let {A : Around} {R : Result → Shared → Prop} {s : Shared} {elt target iter : Expr} {ifs : List Expr} {scope : Scope} {pos : Pos} {it acc : Value} {env : Env} (I : Nat → Shared → Prop)
    (turn : ∀ n s, I n s → wpAny (model prog w) A (pyNext it) (fun r s₁ => match r with
      | none => R (.ok .next) s₁
      | some v => wpAny (model prog w) A (letOwnedTupleGo target it v) (fun _ s₁' => wpAny (model prog w) A (assign target env v) (fun _ s₂ =>
          wpAny (model prog w) A (forIn ifs true fun c r => if r = true then do let ok ← isTrue c env (eval c env); pure (ForInStep.yield ok) else pure (ForInStep.yield r)) (fun ok s₃ =>
            if ok = true then wpAny (model prog w) A (eval elt env) (fun x s₄ =>
              wpAny (model prog w) A (call (.builtin "list.append") [acc, x]) (fun _ s₅ => ∃ m, m < n ∧ I m s₅) (notedBy (model prog w) A env fun e s' => R (.error e) s') s₄) (notedBy (model prog w) A env fun e s' => R (.error e) s') s₃
            else ∃ m, m < n ∧ I m s₃) (notedBy (model prog w) A env fun e s' => R (.error e) s') s₂) (notedBy (model prog w) A env fun e s' => R (.error e) s') s₁') (notedBy (model prog w) A env fun e s' => R (.error e) s') s₁) (notedBy (model prog w) A env fun e s' => R (.error e) s') s)
    (n : Nat) (h : I n s) : codeAny (model prog w) A (.compLoop (.ListComp elt [⟨target, iter, ifs, 0⟩] scope pos) 0 it acc env) R s := by
  refine codeAny_loop rfl I (fun n s hI => ?_) n h
  show wpAny _ A ((compTurn (.ListComp elt [⟨target, iter, ifs, 0⟩] scope pos) 0 it acc env).onRaise (fun x => do noteFrame x env; theTreesLotGoes x)) _ _ s
  refine wpAny_noted ?_
  rw [compTurn_list]
  refine wpAny_bind (wpAny_standAt (wpAny_bind (wpAny_mono (turn n s hI) (fun r s₁ h₁ => ?_) fun _ _ h' => h')))
  cases r with
  | none => exact wpAny_pure h₁
  | some v =>
    refine wpAny_bind (wpAny_mono h₁ (fun _ s₁' h₁' => ?_) fun _ _ h' => h')
    refine wpAny_bind (wpAny_mono h₁' (fun _ s₂ h₂ => wpAny_bind (wpAny_mono h₂ (fun ok s₃ h₃ => ?_) fun _ _ h' => h')) fun _ _ h' => h')
    cases ok with
    | false => exact wpAny_pure ⟨rfl, h₃⟩
    | true =>
      exact wpAny_bind (wpAny_bind (wpAny_mono h₃ (fun x s₄ h₄ => wpAny_bind (wpAny_mono h₄ (fun _ s₅ h₅ => wpAny_pure (wpAny_pure ⟨rfl, h₅⟩)) fun _ _ h' => h')) fun _ _ h' => h'))
theorem append_raw {A : Around} {s : Shared} {D : Addr} {us : List Value} {k : Nat} {v : Value} {Q : Value → Shared → Prop} {E : Value → Shared → Prop} (ho : s.heap.get? D = some (lstO us k)) (hz : us.length ≤ sizeLine)
    (hq : ∀ h' k', h'.get? D = some (lstO (us ++ [v]) k') → Heap.SameBut D s.heap h' → Q .none { s with heap := h' }) : wpAny (model prog w) A (call (.builtin "list.append") [.ref D, v]) Q E s := by
  obtain ⟨n', hget, hs⟩ := upd_list ho (fun xs => xs.push v) (ws := us ++ [v]) (by simp)
  exact call_meets F.slot_list_append ⟨_, ho, rfl⟩ F.entry_list_append (F.args_list_append_2 _ _) (list_append D us.toArray k v (by simpa using hz)) ⟨ho, hq _ n' hget hs⟩
theorem compL_len {src : Option (Nat × List V)} {bindv : V → Loc → Option Loc} {test : Loc → St → Option (Bool × St)} {elt : Loc → St → Option (V × St)} : ∀ {items : List V} {loc : Loc} {acc : List V} {st : St} {r : List V × St}, compL src bindv test elt items loc acc st = some r → acc.length ≤ r.1.length
  | [], loc, acc, st, r, e => by
    obtain ⟨_, e⟩ := guard_some e
    obtain rfl := Option.some.inj e
    exact Nat.le_refl _
  | v :: rest, loc, acc, st, r, e => by
    obtain ⟨_, e⟩ := guard_some e
    obtain ⟨l2, e2, e⟩ := Option.bind_eq_some_iff.mp e
    obtain ⟨b, st2, e3, e⟩ := bd_some e
    rcases ite_some e with ⟨_, e⟩ | e
    · obtain ⟨u, st3, e4, e⟩ := bd_some e
      exact Nat.le_trans (by rw [List.length_append]; exact Nat.le_add_right _ _) (compL_len e)
    · exact compL_len e

theorem compLoop_ok {A : Around} {cenv : Env} {sc : Sc} {ρ : Rho} {s : Shared} {h0 : Heap} {st st' : St} {loc : Loc} {vs : List V} {target iter elt : Expr} {ifs : List Expr} {scope : Scope} {pos : Pos} {I D : Addr} {own : List Addr} {items : List V} {src : Option (Nat × List V)} {It : Rho → Nat → Heap → Prop}
    {tst : Loc → St → Option (Bool × St)} {RR : Result → Shared → Prop} {k0 : Nat}
    (hR : Room n A) (he : EnvOk cenv sc) (hE : EvOk prog w C H n c elt)
    (hT : ∀ loc st b st', tst loc st = some (b, st') → ∀ ρ s, Rel prog w C H st ρ s.heap → Lc H cenv.locals ρ s.heap loc → ∀ (Q : Bool → Shared → Prop) (E : Value → Shared → Prop), (∀ ρ' h' tk', Step [] ρ s.heap ρ' h' → Rel prog w C H st' ρ' h' → Q b { s with heap := h', toks := tk' }) →
      wpAny (model prog w) A (forIn ifs true fun c r => if r = true then do let ok ← isTrue c cenv (eval c cenv); pure (ForInStep.yield ok) else pure (ForInStep.yield r)) Q E s)
    (it : Iter prog w C H A target I own items src It) (e : compL src (bindT sc target) tst (fun loc st => ev c elt sc loc st) items loc [] st = some (vs, st')) (hlen : vs.length ≤ 4096)
    (R : Rel prog w C H st ρ s.heap) (hL : Lc H cenv.locals ρ s.heap loc) (hI : It ρ 0 s.heap) (hD : s.heap.get? D = some (lstO [] k0)) (R0 : Rel prog w C H st ρ h0) (hf : ∀ a ∈ own, h0.get? a = none) (hfD : h0.get? D = none) (hfL : h0.get? cenv.locals = none)
    (hDL : D ≠ cenv.locals) (hDo : D ∉ own) (hLo : cenv.locals ∉ own) (hs : Step [] ρ h0 ρ s.heap)
    (hq : ∀ us ρ' h' tk' k' loc', Step [] ρ h0 ρ' h' → Rel prog w C H st' ρ' h' → Lc H cenv.locals ρ' h' loc' → h'.get? D = some (lstO us k') → D ∉ adrs ρ' → RVs H ρ' h' us vs → RR (.ok .next) { s with heap := h', toks := tk' }) :
    codeAny (model prog w) A (.compLoop (.ListComp elt [⟨target, iter, ifs, 0⟩] scope pos) 0 (.ref I) (.ref D) cenv) RR s := by
  have hoH : ∀ a ∈ own, H.get? a = none := fun a m => R0.notH (hf a m)
  have hDn : ∀ us k ws k', lstO us k ≠ tupO ws k' := fun us k ws k' z => by have := congrArg Obj.cls z; simp at this
  obtain ⟨Inv, hInv⟩ : ∃ Inv : Nat → Shared → Prop, Inv = fun k s1 => ∃ i ρ1 h1 t1 loc1 st1 us kk acc, s1 = { s with heap := h1, toks := t1 } ∧ i + k = items.length ∧ compL src (bindT sc target) tst (fun loc st => ev c elt sc loc st) (items.drop i) loc1 acc st1 = some (vs, st') ∧
      Step [cenv.locals] ρ h0 ρ1 h1 ∧ Rel prog w C H st1 ρ1 h1 ∧ Lc H cenv.locals ρ1 h1 loc1 ∧ It ρ1 i h1 ∧ (∀ a ∈ own, a ∉ adrs ρ1) ∧ h1.get? D = some (lstO us kk) ∧ D ∉ adrs ρ1 ∧ RVs H ρ1 h1 us acc := ⟨_, rfl⟩
  have hInv' : ∀ k s1, Inv k s1 ↔ ∃ i ρ1 h1 t1 loc1 st1 us kk acc, s1 = { s with heap := h1, toks := t1 } ∧ i + k = items.length ∧ compL src (bindT sc target) tst (fun loc st => ev c elt sc loc st) (items.drop i) loc1 acc st1 = some (vs, st') ∧
      Step [cenv.locals] ρ h0 ρ1 h1 ∧ Rel prog w C H st1 ρ1 h1 ∧ Lc H cenv.locals ρ1 h1 loc1 ∧ It ρ1 i h1 ∧ (∀ a ∈ own, a ∉ adrs ρ1) ∧ h1.get? D = some (lstO us kk) ∧ D ∉ adrs ρ1 ∧ RVs H ρ1 h1 us acc := fun k s1 => by rw [hInv]
  clear hInv
  refine compLoop_let (I := Inv) ?_ items.length ((hInv' _ _).mpr ⟨0, ρ, s.heap, s.toks, loc, st, [], k0, [], rfl, by omega, by rw [List.drop_zero]; exact e, hs.nil, R, hL, hI, fun a m => R0.notIn (hf a m), hD, R0.notIn hfD, .nil⟩)
  intro k s1 hi0
  obtain ⟨i, ρ1, g1, t1, loc1, st1, us, kk, acc, rfl, hik, e1, S1, R1, L1, I1, O1, D1, N1, U1⟩ := (hInv' _ _).mp hi0
  clear hi0
  cases hd : items.drop i with
  | nil =>
    rw [hd] at e1
    have hlen : i = items.length := by
      have := congrArg List.length hd
      simp only [List.length_drop, List.length_nil] at this
      omega
    subst hlen
    obtain ⟨hsame, e1⟩ := guard_some e1
    · obtain ⟨rfl, rfl⟩ := pair_some e1
      refine it.done _ ρ1 _ _ _ I1 R1 O1 hsame fun h2 t2 hbut => ?_
      have tt := it.there _ _ _ I1
      exact hq us ρ1 h2 t2 kk loc1 ((S1.but hf hbut).drop hfL) (R1.but hbut tt O1 hoH) (L1.but hbut tt hLo) (hbut _ _ hDo D1) N1 (U1.mono ⟨[], (List.append_nil _).symm⟩ (hbut.tup tt))
  | cons d r =>
    rw [hd] at e1
    have hi : items[i]? = some d := by
      have := congrArg (·[0]?) hd
      simpa [List.getElem?_drop] using this
    have hdr : items.drop (i + 1) = r := by
      have := congrArg List.tail hd
      rw [List.tail_drop] at this
      exact this
    have hil := (List.getElem?_eq_some_iff.mp hi).1
    obtain ⟨hsame, e1⟩ := guard_some e1
    · obtain ⟨loc2, e2, e3⟩ := Option.bind_eq_some_iff.mp e1
      obtain ⟨b, st3, e4, e5⟩ := bd_some e3
      refine wpAny_mono (it.item st1 ρ1 i _ d (fun v s₂ => wpAny (model prog w) A (assign target cenv v) (fun _ s₂ => wpAny (model prog w) A (forIn ifs true fun c r => if r = true then do let ok ← isTrue c cenv (eval c cenv); pure (ForInStep.yield ok) else pure (ForInStep.yield r)) (fun ok s₃ =>
            if ok = true then wpAny (model prog w) A (eval elt cenv) (fun x s₄ =>
              wpAny (model prog w) A (call (.builtin "list.append") [.ref D, x]) (fun _ s₅ => ∃ m, m < k ∧ Inv m s₅) (notedBy (model prog w) A cenv fun e s' => RR (.error e) s') s₄) (notedBy (model prog w) A cenv fun e s' => RR (.error e) s') s₃
            else ∃ m, m < k ∧ Inv m s₃) (notedBy (model prog w) A cenv fun e s' => RR (.error e) s') s₂) (notedBy (model prog w) A cenv fun e s' => RR (.error e) s') s₂) _ I1 R1 O1 hsame hi fun v h2 t2 hbut rv I2 => ?_) (fun r s₁ h => ?_) fun _ _ x => x
      rotate_left
      · cases r with
        | none => exact h.elim
        | some v => exact h
      have tt := it.there _ _ _ I1
      have S2 := S1.but hf hbut
      have R2 := R1.but hbut tt O1 hoH
      have L2 := L1.but hbut tt hLo
      have D2 := hbut _ _ hDo D1
      have U2 := U1.mono (ρ' := ρ1) ⟨[], by simp⟩ (hbut.tup tt)
      refine bindT_ok (s := { s with heap := h2, toks := t2 }) hR.1 e2 he R2 L2 rv fun h3 t3 S3 R3 L3 => ?_
      refine hT _ _ _ _ e4 ρ1 _ R3 L3 _ _ fun ρ4 h4 t4 S4 R4 => ?_
      have L4 := L3.step S4
      have S34 := S3.trans S4.nil
      cases b with
      | false =>
        rw [if_neg (by decide)] at e5 ⊢
        have asd : ∀ a, a ≠ cenv.locals → a ∉ adrs ρ1 → ∀ o, h2.get? a = some o → h4.get? a = some o ∧ a ∉ adrs ρ4 := fun a hne hn o ho => S34.aside ho hn (by simpa using hne)
        have asO : ∀ a ∈ own, ∀ o, h2.get? a = some o → h4.get? a = some o ∧ a ∉ adrs ρ4 := fun a m => asd a (fun z => hLo (z ▸ m)) (O1 a m)
        obtain ⟨D4, N4⟩ := asd D hDL N1 _ D2
        refine ⟨k - 1, by omega, (hInv' _ _).mpr ⟨i + 1, ρ4, h4, t4, loc2, st3, us, kk, acc, rfl, by omega, by rw [hdr]; exact e5, S2.trans S34, R4, L4, it.frame _ _ _ _ _ I2 S34.pre (fun a m o ho => (asO a m o ho).1) S34.tup, fun a m => ?_, D4, N4, U2.mono S34.pre S34.tup⟩⟩
        obtain ⟨o, ho, _⟩ := it.there _ _ _ I2 a m
        exact (asO a m o ho).2
      | true =>
        rw [if_pos rfl] at e5 ⊢
        obtain ⟨u, st4, e6, e7⟩ := bd_some e5
        refine hE _ _ _ _ _ e6 A cenv ρ4 _ hR he R4 L4 _ _ fun x ρ5 h5 t5 S5 R5 r5 => ?_
        have L5 := L4.step S5
        have S35 := S34.trans S5.nil
        have asd : ∀ a, a ≠ cenv.locals → a ∉ adrs ρ1 → ∀ o, h2.get? a = some o → h5.get? a = some o ∧ a ∉ adrs ρ5 := fun a hne hn o ho => S35.aside ho hn (by simpa using hne)
        have asO : ∀ a ∈ own, ∀ o, h2.get? a = some o → h5.get? a = some o ∧ a ∉ adrs ρ5 := fun a m => asd a (fun z => hLo (z ▸ m)) (O1 a m)
        obtain ⟨D5, N5⟩ := asd D hDL N1 _ D2
        have U5 := U2.mono S35.pre S35.tup
        have hacc := compL_len e7
        rw [List.length_append, List.length_singleton] at hacc
        refine append_raw (s := { s with heap := h5, toks := t5 }) D5 (by rw [U1.length, sizeLine_eq]; simp only at hacc; omega) fun h6 k6 D6 hs6 => ?_
        have hb6 : But [D] h5 h6 := fun b o hb e => (hs6.2 b (by simpa using hb)).trans e
        have tt6 : ∀ a ∈ [D], ∃ o, h5.get? a = some o ∧ ∀ vs k, o ≠ tupO vs k := fun a m => by rw [List.mem_singleton.mp m]; exact ⟨_, D5, hDn _ _⟩
        have N6 : ∀ a ∈ [D], a ∉ adrs ρ5 := fun a m => by rw [List.mem_singleton.mp m]; exact N5
        have H6 : ∀ a ∈ [D], H.get? a = none := fun a m => by rw [List.mem_singleton.mp m]; exact R0.notH hfD
        refine ⟨k - 1, by omega, (hInv' _ _).mpr ⟨i + 1, ρ5, h6, t5, loc2, st4, us ++ [x], k6, acc ++ [u], rfl, by omega, by rw [hdr]; exact e7, (S2.trans S35).but (fun a m => by rw [List.mem_singleton.mp m]; exact hfD) hb6, R5.but hb6 tt6 N6 H6, L5.but hb6 tt6 (by simpa using Ne.symm hDL),
          it.frame _ _ _ _ _ I2 S35.pre (fun a m o ho => hb6 a o (fun z => hDo (List.mem_singleton.mp z ▸ m)) (asO a m o ho).1) (fun a vs k e => hb6.tup tt6 a vs k (S35.tup a vs k e)), fun a m => ?_, D6, N5, (U5.mono ⟨[], by simp⟩ (hb6.tup tt6)).append (.one (r5.mono ⟨[], by simp⟩ (hb6.tup tt6)))⟩⟩
        obtain ⟨o, ho, _⟩ := it.there _ _ _ I2 a m
        exact (asO a m o ho).2
end
end Mine

set_option autoImplicit false
set_option linter.unusedVariables false
set_option maxRecDepth 100000
namespace Mine
open PySem PySem.W PyProof.Rows PySem.Calls

structure CompOk (scope : Scope) : Prop where
  kind : scope.kind = .function
  free : ∀ x ∈ scope.names, x.2 ≠ .free
  cell : ∀ x ∈ scope.names, x.2 ≠ .cell
  names : ∀ x ∈ scope.names, x.2 = .local → scope.names.lookup x.1 = some .local
theorem comp_facts {scope : Scope} {x : Str} (h : compOk scope x = true) : CompOk scope ∧ scope.names.lookup x = some .local := by
  unfold compOk at h
  simp only [Bool.and_eq_true, List.all_eq_true, beq_iff_eq] at h
  obtain ⟨⟨h1, h2⟩, h3⟩ := h
  have kb : ∀ {k j : NameKind}, (k == j) = true → k = j := fun {k j} e => by cases k <;> cases j <;> first | rfl | cases e
  refine ⟨⟨?_, fun y hy z => ?_, fun y hy z => ?_, fun y hy z => ?_⟩, ?_⟩
  · cases e : scope.kind <;> rw [e] at h1 <;> first | rfl | cases h1
  · have := h2 y hy; rw [z] at this; simp at this
  · have := h2 y hy; rw [z] at this; simp at this
  · have := h2 y hy
    rw [z] at this
    simp only [Bool.or_eq_true] at this
    cases e : scope.names.lookup y.1 with
    | none => rw [e] at this; simp at this
    | some k => rw [e] at this; cases k <;> first | rfl | (simp at this)
  · cases e : scope.names.lookup x with
    | none => rw [e] at h3; simp at h3
    | some k => rw [e] at h3; cases k <;> first | rfl | (simp at h3)

section
variable {prog : Program} {w : World} {K : Frag} {C : Addr} {H : Heap} {mg mb : Str → Option Value} {n : Nat} {c : CallT}

theorem compBlock_ok {A : Around} {env : Env} {sc : Sc} {ρ : Rho} {s : Shared} {h0 : Heap} {st st' : St} {vs : List V} {target iter elt : Expr} {ifs : List Expr} {scope : Scope} {pos : Pos} {I : Addr} {own : List Addr} {items : List V} {src : Option (Nat × List V)} {It : Rho → Nat → Heap → Prop}
    {tst : Loc → St → Option (Bool × St)} {RR : Value → Env → Result → Shared → Prop} {E : Value → Shared → Prop}
    (hR : Room n A) (he : EnvOk env sc) (hc : CompOk scope) (hE : EvOk prog w C H n c elt)
    (hT : ∀ loc st b st', tst loc st = some (b, st') → ∀ L ρ s, Rel prog w C H st ρ s.heap → Lc H L ρ s.heap loc → ∀ (Q : Bool → Shared → Prop) (E : Value → Shared → Prop), (∀ ρ' h' tk', Step [] ρ s.heap ρ' h' → Rel prog w C H st' ρ' h' → Q b { s with heap := h', toks := tk' }) →
      wpAny (model prog w) A (forIn ifs true fun c r => if r = true then do let ok ← isTrue c (compEnv scope L env) (eval c (compEnv scope L env)); pure (ForInStep.yield ok) else pure (ForInStep.yield r)) Q E s)
    (it : Iter prog w C H A target I own items src It) (e : compL src (bindT scope.names target) tst (fun loc st => ev c elt scope.names loc st) items [] [] st = some (vs, st')) (hlen : vs.length ≤ 4096)
    (R0 : Rel prog w C H st ρ h0) (hf : ∀ a ∈ own, h0.get? a = none) (hk0 : ∀ a o, h0.get? a = some o → s.heap.get? a = some o) (hI : It ρ 0 s.heap)
    (hq : ∀ D L us ρ' h' tk' k' loc', D ≠ L → h0.get? D = none → h0.get? L = none → Step [] ρ h0 ρ' h' → Rel prog w C H st' ρ' h' → Lc H L ρ' h' loc' → h'.get? D = some (lstO us k') → D ∉ adrs ρ' → RVs H ρ' h' us vs → RR (.ref D) (compEnv scope L env) (.ok .next) { s with heap := h', toks := tk' }) :
    wpAny (model prog w) A (newList []) (fun acc s₃ => wpAny (model prog w) A (newFunctionEnv scope env.globals [] [] env.qual none .none (some env)) (fun cenv s₄ =>
      codeAny (model prog w) A (.compStart (.ListComp elt [⟨target, iter, ifs, 0⟩] scope pos) 0 (.ref I) acc { cenv with scope := scope }) (RR acc { cenv with scope := scope }) s₄) E s₃) E s := by
  refine wpAny_newObj_type (wpAny_newFunctionEnv hc.cell (by intro y hy; simp at hy) (fun h₁ hns₁ hsb₁ => ?_) hc.kind)
  dsimp only at hns₁ hsb₁ ⊢
  generalize hH2 : s.heap.push { cls := .type "list", dict := none, data := .seq ([] : List Value).toArray } = H2 at hns₁ hsb₁ ⊢
  have hC : H2.objs.size = s.heap.objs.size + 1 := by rw [← hH2, Heap.size_push]
  have hDC : s.heap.objs.size ≠ H2.objs.size := by rw [hC]; exact Nat.ne_of_lt (Nat.lt_succ_self _)
  have old : ∀ b o, s.heap.get? b = some o → h₁.get? b = some o := fun b o e =>
    hsb₁.extBut b o (by rw [hC]; exact Nat.ne_of_lt (Nat.lt_succ_of_lt (Heap.lt_size e))) (Heap.get?_push_of_some _ (hH2 ▸ Heap.get?_push_of_some _ e))
  have hacc : h₁.get? s.heap.objs.size = some (lstO [] 0) := hsb₁.extBut _ _ hDC (Heap.get?_push_of_some _ (hH2 ▸ Heap.get?_push_size _ rfl))
  have back : ∀ a, s.heap.get? a = none → h0.get? a = none := fun a ha => by
    cases e : h0.get? a with
    | none => rfl
    | some o => rw [hk0 a o e] at ha; cases ha
  have hsD : s.heap.get? s.heap.objs.size = none := fresh_ge (Nat.le_refl _)
  have hsL : s.heap.get? H2.objs.size = none := fresh_ge (by rw [hC]; exact Nat.le_succ _)
  have hk1 : ∀ a o, h0.get? a = some o → h₁.get? a = some o := fun a o e => old a o (hk0 a o e)
  have hot : ∀ a ∈ own, ∃ o, s.heap.get? a = some o := fun a m => by obtain ⟨o, ho, _⟩ := it.there _ _ _ hI a m; exact ⟨o, ho⟩
  have hDo : s.heap.objs.size ∉ own := fun m => by obtain ⟨o, ho⟩ := hot _ m; rw [hsD] at ho; cases ho
  have hLo : H2.objs.size ∉ own := fun m => by obtain ⟨o, ho⟩ := hot _ m; rw [hsL] at ho; cases ho
  have S1 : Step [] ρ h0 ρ h₁ := Step.of_ext hk1
  have hI1 : It ρ 0 h₁ := it.frame _ _ _ _ _ hI ⟨[], by simp⟩ (fun a m o e => old a o e) fun a vs k e => old a _ e
  have hL1 : Lc H H2.objs.size ρ h₁ [] := ⟨⟨_, hns₁, fun x => by simp⟩, R0.notIn (back _ hsL), R0.notH (back _ hsL)⟩
  have he' : EnvOk (compEnv scope H2.objs.size env) scope.names := ⟨hc.kind, rfl, he.glob, he.bui⟩
  have loop : ∀ s₃ : Shared, s₃ = { s with heap := h₁, toks := s.toks + ([] : List (Str × Value)).length } →
      codeAny (model prog w) A (.compLoop (.ListComp elt [⟨target, iter, ifs, 0⟩] scope pos) 0 (.ref I) (.ref s.heap.objs.size) (compEnv scope H2.objs.size env))
        (RR (.ref s.heap.objs.size) (compEnv scope H2.objs.size env)) s₃ := by
    rintro s₃ rfl
    refine compLoop_ok (cenv := compEnv scope H2.objs.size env) hR he' hE (fun loc st b st' e ρ s R L Q E hq => hT loc st b st' e _ ρ s R L Q E hq) it e hlen (R0.keeps hk1) hL1 hI1 hacc R0 hf (back _ hsD) (back _ hsL) hDC hDo hLo S1 ?_
    intro us ρ' h' tk' k' loc' S R L hD hN U
    exact hq _ _ us ρ' h' tk' k' loc' hDC (back _ hsD) (back _ hsL) S R L hD hN U
  exact codeAny_compStart_list (loop _ rfl) (it.self _ _ _ _ _ hI1 (loop _ rfl))
/-- the list that a comprehension made joins the state -/
theorem comp_done {st : St} {vs : List V} {ρ ρ' : Rho} {h0 h' h'' : Heap} {D L : Addr} {us : List Value} {k : Nat} {loc : Loc} (hDL : D ≠ L) (fD : h0.get? D = none) (fL : h0.get? L = none) (S : Step [] ρ h0 ρ' h') (R : Rel prog w C H st ρ' h') (hl : Lc H L ρ' h' loc) (hD : h'.get? D = some (lstO us k)) (hN : D ∉ adrs ρ') (U : RVs H ρ' h' us vs) (hlen : vs.length ≤ 4096)
    (R0 : ∃ st0, Rel prog w C H st0 ρ h0) (hs : Heap.SameBut L h' h'') : Step [] ρ h0 (ρ' ++ [(D, D)]) h'' ∧ Rel prog w C H (st ++ [.list vs]) (ρ' ++ [(D, D)]) h'' ∧ RV H (ρ' ++ [(D, D)]) h'' (.ref D) (.ref st.length) := by
  obtain ⟨st0, R0⟩ := R0
  obtain ⟨⟨m, hn, _⟩, hLn, hLH⟩ := hl
  obtain ⟨o, ho, hnt⟩ := Ns.noTup hn
  have hb : But [L] h' h'' := fun b o hb e => (hs.2 b (by simpa using hb)).trans e
  have tt : ∀ a ∈ [L], ∃ o, h'.get? a = some o ∧ ∀ vs k, o ≠ tupO vs k := fun a m => by rw [List.mem_singleton.mp m]; exact ⟨o, ho, hnt⟩
  have S2 := S.but (fun a m => by rw [List.mem_singleton.mp m]; exact fL) hb
  have R2 := R.but hb tt (fun a m => by rw [List.mem_singleton.mp m]; exact hLn) (fun a m => by rw [List.mem_singleton.mp m]; exact hLH)
  have hD2 : h''.get? D = some (lstO us k) := hb _ _ (by simpa using hDL) hD
  refine ⟨S2.adopt fD fD, R2.adopt (p := (D, D)) hN hN (R0.notH fD) (R0.notH fD) ⟨rfl, by omega, us, k, hD2, U.mono ⟨_, rfl⟩ (hb.tup tt)⟩, ?_⟩
  exact RV.ref (p := (D, D)) (by rw [← R.len]; simp)
theorem ev_ListComp {elt iter : Expr} {x : Str} {px : Pos} {scope : Scope} {pos : Pos} (h1 : EvOk prog w C H n c iter) (h2 : EvOk prog w C H n c elt) : EvOk prog w C H n c (.ListComp elt [⟨.Name x px, iter, [], 0⟩] scope pos) := by
  intro sc loc st d st' e A env ρ s hR he R hL Q E hq
  obtain ⟨hco, e⟩ := guard_some e
  · obtain ⟨hc, hx⟩ := comp_facts hco
    obtain ⟨dv, st1, e1, e⟩ := bd_some e
    obtain ⟨⟨items, src⟩, e2, e⟩ := Option.bind_eq_some_iff.mp e
    obtain ⟨vs, st2, e3, e⟩ := bd_some e
    obtain ⟨hlen, e⟩ := guard_some e
    · obtain ⟨rfl, rfl⟩ := pair_some e
      refine wpAny_ListComp hc.free hc.kind hc.names (h1 _ _ _ _ _ e1 A env ρ s hR he R hL _ _ fun v ρ1 g1 t1 S1 R1 r1 => ?_) (folded_of e1 env)
      refine start_items (s := { s with heap := g1, toks := t1 }) (x := x) (px := px) hR.1 e2 R1 r1 fun I It g2 hI it hk h0 => ?_
      refine compBlock_ok (s := { s with heap := g2, toks := t1 }) (RR := fun acc cenv r s' => ∃ m, s'.heap.Ns cenv.locals m ∧ ∀ h', Heap.SameBut cenv.locals s'.heap h' →
            match r with | .ok _ => Q acc { s' with heap := h' } | .error x => wpAny (model prog w) A (passOn "comprehension.variables-let-go" x cenv) Q E { s' with heap := h' }) hR he hc h2 (fun loc st b st' e L ρ s R hl Q E hq => ?_) it e3 hlen R1 (fun a m => by rw [List.mem_singleton.mp m]; exact hI) hk h0 fun D L us ρ3 h3 t3 k3 loc3 hDL fD fL S3 R3 L3 D3 N3 U3 => ?_
      · obtain ⟨rfl, rfl⟩ := pair_some e
        exact wpAny_tests_nil (hq ρ s.heap s.toks .refl R)
      · obtain ⟨m, hn, hm⟩ := L3.1
        refine ⟨m, hn, fun h'' hs'' => ?_⟩
        obtain ⟨S4, R4, r4⟩ := comp_done hDL fD fL S3 R3 L3 D3 N3 U3 hlen ⟨_, R1⟩ hs''
        exact hq _ _ h'' t3 (S1.trans S4) R4 r4
theorem swaps_yes {elt : Expr} {gens : List Comprehension} {scope : Scope} {lp py : Pos} {y : Str} {l : Nat} {env : Env} {sc : Sc} (he : EnvOk env sc) (hy : sc.lookup y = some .local) (hl : py.line = lp.line) (hn : (scope.names.any fun n => n.1 == y && (n.2 == .local || n.2 == .cell)) = false) :
    swapsWith (.ListComp elt gens scope lp) (some (.Name y py)) l env = pure true := by
  have h1 : env.blockKind = .function := by unfold Env.blockKind; rw [he.kind]; rfl
  have h2 : env.kindOf y = some .local := by unfold Env.kindOf; rw [he.names]; exact hy
  show (pure (env.blockKind == .function && env.kindOf y == some .local && py.line == lp.line && !(scope.names.any fun (n, k) => n == y && (k == .local || k == .cell))) : Sem Bool) = pure true
  rw [h1, h2, hl]
  have hn' : (scope.names.any fun (n, k) => n == y && (k == .local || k == .cell)) = false := hn
  rw [hn']
  simp
theorem ex_Pick (B : Base prog w K C H mg mb) (hbe : bootBuiltins (Str.ofString "enumerate") = some (.type "enumerate")) {y x₁ x₂ f : Str} {py p₁ p₂ tp fp cp lp p : Pos} {k : Nat} {elt e t : Expr} {scope : Scope} (h1 : EvOk prog w C H n c e) (h2 : EvOk prog w C H n c elt) (h3 : EvTOk prog w C H n c t) :
    ExOk prog w C H n c (.Assign [.Name y py] (.ListComp elt [⟨.Tuple [.Name x₁ p₁, .Name x₂ p₂] k tp, .Call (.Name f fp) [e] [] cp, [t], 0⟩] scope lp) p) := by
  intro sc loc st fl loc' st' q A env ρ s hR he R hL Q E hq
  obtain ⟨hpk, q⟩ := guard_some q
  · obtain ⟨d, st1, e1, q⟩ := bd_some q
    obtain ⟨⟨items, src⟩, e2, q⟩ := Option.bind_eq_some_iff.mp q
    obtain ⟨vs, st2, e3, q⟩ := bd_some q
    obtain ⟨u, st3, e4, q⟩ := bd_some q
    obtain ⟨rfl, rfl, rfl⟩ := triple_some q
    unfold pickOk at hpk
    simp only [Bool.and_eq_true, Bool.not_eq_true', beq_iff_eq (α := Str), beq_iff_eq (α := Nat)] at hpk
    obtain ⟨⟨⟨⟨⟨⟨hkk, rfl⟩, hc1⟩, hc2⟩, hy⟩, hl⟩, hn⟩ := hpk
    have hk := glob_of hkk
    obtain ⟨hc, hx1⟩ := comp_facts hc1
    obtain ⟨hlen, e4⟩ := guard_some e4
    · obtain ⟨rfl, rfl⟩ := pair_some e4
      have hsw := swaps_yes (elt := elt) (gens := [⟨.Tuple [.Name x₁ p₁, .Name x₂ p₂] k tp, .Call (.Name (Str.ofString "enumerate") fp) [e] [] cp, [t], 0⟩]) (l := p.line) he (isLocal_iff hy) hl hn
      rw [exec_Assign_Name_used _ _ _ _ hsw]
      refine wpAny_bind (wpAny_standAt (wpAny_bind ?_))
      show wpAny _ A (do let _ ← comprehension (.ListComp elt [⟨.Tuple [.Name x₁ p₁, .Name x₂ p₂] k tp, .Call (.Name (Str.ofString "enumerate") fp) [e] [] cp, [t], 0⟩] scope lp) scope env _ (newList []) false (eval (.Call (.Name (Str.ofString "enumerate") fp) [e] [] cp) env) (some (assign (.Name y py) env))) _ _ s
      refine wpAny_bind (wpAny_mono (wpAny_comprehension_use (Q := fun _ s' => Q .next s') rfl (fun _ => rfl) hc.free hc.kind hc.names ?_) (fun _ s' hq => wpAny_pure (wpAny_pure hq)) fun _ _ e => e)
      refine call_one B h1 e1 hR he R hL hk B.enum (by decide) (by decide) hbe fun v ρ1 g1 t1 S1 R1 r1 => ?_
      refine start_enum (s := { s with heap := g1, toks := t1 }) (es := [.Name x₁ p₁, .Name x₂ p₂]) (k := k) (pt := tp) hR.1 e2 R1 r1 fun I own It g2 hI it hkx h0 => ?_
      have L1 := hL.step S1
      refine compBlock_ok (s := { s with heap := g2, toks := t1 }) (RR := fun acc cenv r s' => match r with
          | .ok _ => wpAny (model prog w) A (assign (.Name y py) env acc) (fun _ s'' => ∃ m, s''.heap.Ns cenv.locals m ∧ ∀ h', Heap.SameBut cenv.locals s''.heap h' → Q .next { s'' with heap := h' }) E s'
          | .error x => ∃ m, s'.heap.Ns cenv.locals m ∧ ∀ h', Heap.SameBut cenv.locals s'.heap h' → wpAny (model prog w) A (passOn "comprehension.variables-let-go" x cenv) (fun _ s' => Q .next s') E { s' with heap := h' }) hR he hc h2 (fun loc st b st' e L ρ s R hl Q E hq => ?_) it e3 hlen R1 hI hkx h0 fun D L us ρ3 h3 t3 k3 loc3 hDL fD fL S3 R3 L3 D3 N3 U3 => ?_
      · refine wpAny_tests_one (h3 _ _ _ _ _ e A (compEnv scope L env) ρ s hR ⟨hc.kind, rfl, he.glob, he.bui⟩ R hl Q E hq)
      · have hne : env.locals ≠ L := by
          rintro rfl
          obtain ⟨o, ho⟩ := L1.own
          rw [fL] at ho; cases ho
        have hL3 := L1.step S3
        have hLD : env.locals ≠ D := by
          rintro rfl
          obtain ⟨o, ho⟩ := L1.own
          rw [fD] at ho; cases ho
        obtain ⟨S4, R4, r4⟩ := comp_done hDL fD fL S3 R3 L3 D3 N3 U3 hlen ⟨_, R1⟩ ⟨rfl, fun _ _ => rfl⟩
        refine wpAny_assign_Name (store_ok (s := { s with heap := h3, toks := t3 }) hy he R4 (L1.step S4) r4 fun h5 t5 S5 R5 L5 => ?_)
        have hLn : L ∉ adrs (ρ3 ++ [(D, D)]) := by
          rw [adrs_append]
          intro m
          rcases List.mem_append.mp m with m | m
          · exact L3.2.1 m
          · simp [adrs] at m; exact hDL m.symm
        obtain ⟨m, hnL, hmL⟩ := L3.1
        obtain ⟨o, ho, hnt⟩ := Ns.noTup hnL
        have hnL5 : h5.Ns L m := hnL.at' fun o e => S5.keep _ _ e hLn (by simpa using Ne.symm hne)
        refine ⟨m, hnL5, fun h6 hs6' => ?_⟩
        have hs6 : Heap.SameBut L h5 h6 := hs6'
        obtain ⟨o5, ho5, hnt5⟩ := Ns.noTup hnL5
        have hb : But [L] h5 h6 := fun b o hb e => (hs6.2 b (by simpa using hb)).trans e
        have tt : ∀ a ∈ [L], ∃ o, h5.get? a = some o ∧ ∀ vs k, o ≠ tupO vs k := fun a m => by rw [List.mem_singleton.mp m]; exact ⟨o5, ho5, hnt5⟩
        have N5 : ∀ a ∈ [L], a ∉ adrs (ρ3 ++ [(D, D)]) := fun a m => by rw [List.mem_singleton.mp m]; exact hLn
        have H5 : ∀ a ∈ [L], H.get? a = none := fun a m => by rw [List.mem_singleton.mp m]; exact L3.2.2
        refine hq .next _ h6 t5 (S1.nil.trans ((S4.nil.trans S5).but (fun a m => by rw [List.mem_singleton.mp m]; exact fL) hb)) (R5.but hb tt N5 H5) (L5.but hb tt (by simpa using hne)) trivial
end
end Mine

set_option autoImplicit false
set_option linter.unusedVariables false
set_option maxRecDepth 100000
namespace Mine
open PySem PySem.W PyProof.Rows PySem.Calls

section
variable {prog : Program} {w : World} {K : Frag} {C : Addr} {H : Heap} {mg mb : Str → Option Value} {n : Nat} {c : CallT}

theorem ev_no {e : Expr} (h : ∀ sc loc st, ev c e sc loc st = none) : EvOk prog w C H n c e := by
  intro sc loc st d st' q
  rw [h] at q; cases q
theorem evT_no {e : Expr} (h : ∀ sc loc whole st, evT c e sc loc whole st = none) : EvTOk prog w C H n c e := by
  intro sc loc st d st' q
  rw [h] at q; cases q
theorem evs_all {es : List Expr} (h : ∀ e ∈ es, EvOk prog w C H n c e) : EvsOk prog w C H n c es := by
  induction es with
  | nil => exact evs_nil
  | cons e es ih => exact evs_cons (h e (.head _)) (ih fun e m => h e (.tail _ m))
theorem evAll_all {op : BoolOp} {es : List Expr} (h : ∀ e ∈ es, EvTOk prog w C H n c e) : EvAllOk prog w C H n c op es := by
  induction es with
  | nil => exact evAll_nil
  | cons e es ih => exact evAll_cons (h e (.head _)) (ih fun e m => h e (.tail _ m))
theorem evBool_all {op : BoolOp} : ∀ {es : List Expr}, (∀ e ∈ es, EvOk prog w C H n c e) → EvBoolOk prog w C H n c op es
  | [], _ => by
    intro sc loc st d st' q
    exact no_some q
  | [e], h => evBool_one (h e (.head _))
  | e :: f :: es, h => evBool_cons (h e (.head _)) (evBool_all fun e m => h e (.tail _ m))
theorem cmp1_some {l : Expr} {p : Pos} {sc : Sc} {loc : Loc} {st : St} {ops : List CmpOp} {rs : List Expr} {r : V × St} (e : ev c (.Compare l ops rs p) sc loc st = some r) : ∃ op x, ops = [op] ∧ rs = [x] := by
  match ops, rs with
  | [op], [x] => exact ⟨op, x, rfl, rfl⟩
  | [], _ => exact no_some e
  | _ :: _ :: _, _ => exact no_some e
  | [_], [] => exact no_some e
  | [_], _ :: _ :: _ => exact no_some e
theorem cmp2_some {l : Expr} {p : Pos} {sc : Sc} {loc : Loc} {st : St} {W : St → Option (V × St)} {ops : List CmpOp} {rs : List Expr} {r : Bool × St} (e : evT c (.Compare l ops rs p) sc loc W st = some r) :
    (∃ op x, ops = [op] ∧ rs = [x]) ∨ ∃ o p x y, ops = [o, p] ∧ rs = [x, y] := by
  match ops, rs with
  | [op], [x] => exact .inl ⟨op, x, rfl, rfl⟩
  | [o, p], [x, y] => exact .inr ⟨o, p, x, y, rfl, rfl⟩
  | [], _ => exact no_some e
  | _ :: _ :: _ :: _, _ => exact no_some e
  | [_], [] => exact no_some e
  | [_], _ :: _ :: _ => exact no_some e
  | [_, _], [] => exact no_some e
  | [_, _], [_] => exact no_some e
  | [_, _], _ :: _ :: _ :: _ => exact no_some e
theorem comp_some {elt : Expr} {scope : Scope} {p : Pos} {sc : Sc} {loc : Loc} {st : St} {gens : List Comprehension} {r : V × St} (e : ev c (.ListComp elt gens scope p) sc loc st = some r) : ∃ x px iter, gens = [⟨.Name x px, iter, [], 0⟩] := by
  cases gens with
  | nil => exact no_some e
  | cons g gs =>
    obtain ⟨t, iter, ifs, k⟩ := g
    cases t with
    | Name x px =>
      cases ifs with
      | cons i is => exact no_some e
      | nil =>
        match k, e with
        | .ofNat 0, e =>
          cases gs with
          | nil => exact ⟨x, px, iter, rfl⟩
          | cons g gs => exact no_some e
        | .ofNat (k + 1), e => exact no_some e
        | .negSucc k, e => exact no_some e
    | _ => exact no_some e
theorem dict_some {p : Pos} {sc : Sc} {loc : Loc} {st : St} {ks : List (Option Expr)} {vs : List Expr} {r : V × St} (e : ev c (.Dict ks vs p) sc loc st = some r) :
    ∃ k₁ i₁ p₁ k₂ i₂ p₂ e₁ e₂, ks = [some (.Constant (.str k₁) i₁ p₁), some (.Constant (.str k₂) i₂ p₂)] ∧ vs = [e₁, e₂] := by
  cases ks with
  | nil => exact no_some e
  | cons a ks =>
  cases a with
  | none => exact no_some e
  | some a =>
  cases a with
  | Constant v i p =>
    cases v with
    | str k₁ =>
      cases ks with
      | nil => exact no_some e
      | cons a ks =>
      cases a with
      | none => exact no_some e
      | some a =>
      cases a with
      | Constant v i p =>
        cases v with
        | str k₂ =>
          cases ks with
          | cons a ks => exact no_some e
          | nil =>
            match vs with
            | [e₁, e₂] => exact ⟨_, _, _, _, _, _, _, _, rfl, rfl⟩
            | [] => exact no_some e
            | [_] => exact no_some e
            | _ :: _ :: _ :: _ => exact no_some e
        | _ => exact no_some e
      | _ => exact no_some e
    | _ => exact no_some e
  | _ => exact no_some e
section
variable {x a b d e N : Nat}
theorem z12 (q : x = 1 + a + b) (h : x < N + 1) : a < N := by omega
theorem z13 (q : x = 1 + a + b + d) (h : x < N + 1) : a < N := by omega
theorem z23 (q : x = 1 + a + b + d) (h : x < N + 1) : b < N := by omega
theorem z14 (q : x = 1 + a + b + d + e) (h : x < N + 1) : a < N := by omega
theorem z24 (q : x = 1 + a + b + d + e) (h : x < N + 1) : b < N := by omega
theorem z35 {y : Nat} (q : x = 1 + a + b + d + e + y) (h : x < N + 1) : d < N := by omega
theorem z34 (q : x = 1 + a + b + d + e) (h : x < N + 1) : d < N := by omega
end
theorem sz_opt {o : Option Expr} {e : Expr} {N : Nat} (q : o = some e) (h : sizeOf o < N) : sizeOf e < N := by subst q; exact Nat.lt_of_le_of_lt (by rw [Option.some.sizeOf_spec]; exact Nat.le_add_left _ _) h
theorem sz_iter {t iter : Expr} {ifs : List Expr} {k : Int} : sizeOf iter < sizeOf (⟨t, iter, ifs, k⟩ : Comprehension) := by rw [Comprehension.mk.sizeOf_spec]; omega
theorem ev_all (B : Base prog w K C H mg mb) (hC : CallOk prog w K C H n c) (N : Nat) : ∀ e : Expr, sizeOf e < N → EvOk prog w C H n c e ∧ EvTOk prog w C H n c e := by
  induction N with
  | zero => intro e h; exact absurd h (Nat.not_lt_zero _)
  | succ N ih =>
    intro e he
    have one : ∀ e, sizeOf e < N → EvOk prog w C H n c e := fun e h => (ih e h).1
    have tst : ∀ e, sizeOf e < N → EvTOk prog w C H n c e := fun e h => (ih e h).2
    have mem : ∀ (es : List Expr), sizeOf es < N → ∀ e ∈ es, EvOk prog w C H n c e := fun es hs e m => one e (Nat.lt_trans (List.sizeOf_lt_of_mem m) hs)
    have memT : ∀ (es : List Expr), sizeOf es < N → ∀ e ∈ es, EvTOk prog w C H n c e := fun es hs e m => tst e (Nat.lt_trans (List.sizeOf_lt_of_mem m) hs)
    have opt : ∀ o : Option Expr, sizeOf o < N → EvOOk prog w C H n c o := fun o hs => evO_ok fun e h => one e (sz_opt h hs)
    cases e with
    | Constant k j p => exact ⟨ev_Constant k j p, evT_no fun _ _ _ _ => rfl⟩
    | Name x p => exact ⟨ev_Name B x p, evT_whole (ev_Name B x p) (fun _ _ _ _ => rfl) fun _ _ => rfl⟩
    | BoolOp op es p =>
      have hs := z23 (Expr.BoolOp.sizeOf_spec op es p) he
      exact ⟨ev_BoolOp (evBool_all (mem es hs)), evT_BoolOp (evAll_all (memT es hs))⟩
    | BinOp l op r p => exact ⟨ev_BinOp (one l (z14 (Expr.BinOp.sizeOf_spec l op r p) he)) (one r (z34 (Expr.BinOp.sizeOf_spec l op r p) he)), evT_no fun _ _ _ _ => rfl⟩
    | UnaryOp op x p =>
      have hs := ih x (z23 (Expr.UnaryOp.sizeOf_spec op x p) he)
      refine ⟨ev_UnaryOp hs.1, ?_⟩
      cases op with
      | Not => exact evT_Not hs.2
      | _ => exact evT_no fun _ _ _ _ => rfl
    | IfExp t b o p =>
      have q := Expr.IfExp.sizeOf_spec t b o p
      exact ⟨ev_IfExp (tst t (z14 q he)) (one b (z24 q he)) (one o (z34 q he)), evT_no fun _ _ _ _ => rfl⟩
    | List es p => exact ⟨ev_List (evs_all (mem es (z12 (Expr.List.sizeOf_spec es p) he))), evT_no fun _ _ _ _ => rfl⟩
    | Tuple es k p => exact ⟨ev_Tuple (evs_all (mem es (z13 (Expr.Tuple.sizeOf_spec es k p) he))), evT_no fun _ _ _ _ => rfl⟩
    | Attribute o a p => exact ⟨ev_Attribute B (one o (z13 (Expr.Attribute.sizeOf_spec o a p) he)), evT_no fun _ _ _ _ => rfl⟩
    | Compare l ops rs p =>
      have q := Expr.Compare.sizeOf_spec l ops rs p
      have hl := one l (z14 q he)
      have hr := mem rs (z34 q he)
      refine ⟨?_, ?_⟩
      · intro sc loc st d st' z
        obtain ⟨op, x, rfl, rfl⟩ := cmp1_some z
        exact ev_Compare1 hl (hr _ (.head _)) sc loc st d st' z
      · intro sc loc st d st' z
        rcases cmp2_some z with ⟨op, x, rfl, rfl⟩ | ⟨o, p, x, y, rfl, rfl⟩
        · exact evT_Compare1 hl (hr _ (.head _)) sc loc st d st' z
        · exact evT_Compare2 hl (hr _ (.head _)) (hr _ (.tail _ (.head _))) sc loc st d st' z
    | Call f args kws p =>
      have q := Expr.Call.sizeOf_spec f args kws p
      have ha := evs_all (mem args (z24 q he))
      have call : EvOk prog w C H n c (.Call f args kws p) := by
        cases kws with
        | cons k ks => cases f <;> exact ev_no fun _ _ _ => rfl
        | nil =>
          cases f with
          | Name x q => exact ev_CallName B hC ha
          | Attribute o x r => exact ev_CallAttr B hC (one o (Nat.lt_trans (z13 (Expr.Attribute.sizeOf_spec o x r) (Nat.lt_succ_self _)) (z14 q he))) ha
          | _ => exact ev_no fun _ _ _ => rfl
      exact ⟨call, evT_whole call (fun _ _ _ _ => rfl) fun _ _ => rfl⟩
    | Subscript o i p =>
      have q := Expr.Subscript.sizeOf_spec o i p
      have ho := one o (z13 q he)
      have hi := z23 q he
      refine ⟨?_, evT_no fun _ _ _ _ => rfl⟩
      cases i with
      | Slice l u st r =>
        have q2 := Expr.Slice.sizeOf_spec l u st r
        cases st with
        | none => exact ev_Subscript_slice ho (opt l (Nat.lt_trans (z14 q2 (Nat.lt_succ_self _)) hi)) (opt u (Nat.lt_trans (z24 q2 (Nat.lt_succ_self _)) hi))
        | some e => exact ev_Subscript_item ho (one _ hi) fun _ _ _ => rfl
      | _ => exact ev_Subscript_item ho (one _ hi) fun _ _ _ => rfl
    | ListComp elt gens scope p =>
      have q := Expr.ListComp.sizeOf_spec elt gens scope p
      have h1 := one elt (z14 q he)
      have h2 := z24 q he
      refine ⟨?_, evT_no fun _ _ _ _ => rfl⟩
      intro sc loc st d st' z
      obtain ⟨x, px, iter, rfl⟩ := comp_some z
      exact ev_ListComp (one iter (Nat.lt_trans sz_iter (Nat.lt_trans (List.sizeOf_lt_of_mem (.head _)) h2))) h1 sc loc st d st' z
    | Dict ks vs p =>
      have hv := mem vs (z23 (Expr.Dict.sizeOf_spec ks vs p) he)
      refine ⟨?_, evT_no fun _ _ _ _ => rfl⟩
      intro sc loc st d st' z
      obtain ⟨k₁, i₁, p₁, k₂, i₂, p₂, e₁, e₂, rfl, rfl⟩ := dict_some z
      exact ev_Dict (hv _ (.head _)) (hv _ (.tail _ (.head _))) sc loc st d st' z
    | _ => exact ⟨ev_no fun _ _ _ => rfl, evT_no fun _ _ _ _ => rfl⟩
end
end Mine

set_option autoImplicit false
set_option linter.unusedVariables false
set_option maxRecDepth 100000
namespace Mine
open PySem PySem.W PyProof.Rows PySem.Calls

section
variable {prog : Program} {w : World} {K : Frag} {C : Addr} {H : Heap} {mg mb : Str → Option Value} {n : Nat} {c : CallT}

theorem ev_ok (B : Base prog w K C H mg mb) (hC : CallOk prog w K C H n c) (e : Expr) : EvOk prog w C H n c e := (ev_all B hC (sizeOf e + 1) e (Nat.lt_succ_self _)).1
theorem evT_ok (B : Base prog w K C H mg mb) (hC : CallOk prog w K C H n c) (e : Expr) : EvTOk prog w C H n c e := (ev_all B hC (sizeOf e + 1) e (Nat.lt_succ_self _)).2
theorem evO_any (B : Base prog w K C H mg mb) (hC : CallOk prog w K C H n c) (e : Option Expr) : EvOOk prog w C H n c e := evO_ok fun e _ => ev_ok B hC e
theorem st_no {t : Expr} (h : ∀ sc d loc st, storeT c sc t d loc st = none) : StOk prog w C H n c t := by
  intro sc d loc st loc' st' q
  rw [h] at q; cases q
theorem st_ok (B : Base prog w K C H mg mb) (hC : CallOk prog w K C H n c) (t : Expr) : StOk prog w C H n c t := by
  cases t with
  | Name x p => exact st_Name
  | Tuple es k p => exact st_Tuple
  | Attribute o a p => exact st_Attribute B (ev_ok B hC o)
  | Subscript o i p =>
    cases i with
    | Slice l u st q =>
      cases st with
      | none => exact st_Subscript_slice (ev_ok B hC o) (evO_any B hC l) (evO_any B hC u)
      | some e => exact st_Subscript_item (ev_ok B hC o) (ev_ok B hC _) fun _ _ _ _ => rfl
    | _ => exact st_Subscript_item (ev_ok B hC o) (ev_ok B hC _) fun _ _ _ _ => rfl
  | _ => exact st_no fun _ _ _ _ => rfl
theorem ex_no {t : Stmt} (h : ∀ sc loc st, ex c t sc loc st = none) : ExOk prog w C H n c t := by
  intro sc loc st d l' st' q
  rw [h] at q; cases q
theorem exs_all {ts : List Stmt} (h : ∀ t ∈ ts, ExOk prog w C H n c t) : ExsOk prog w C H n c ts := by
  induction ts with
  | nil => exact exs_nil
  | cons e es ih => exact exs_cons (h e (.head _)) (ih fun e m => h e (.tail _ m))
/-- a for over what is no call, or over a call -/
theorem for_inv {t iter : Expr} {b o : List Stmt} {p : Pos} {sc : Sc} {loc : Loc} {st : St} {r : (Fl × Loc) × St} (q : ex c (.For t iter b o p) sc loc st = some r) : (∃ f fp e cp, iter = .Call (.Name f fp) [e] [] cp) ∨
    (o = [] ∧ isNm t = true ∧ (bd (ev c iter sc loc st) fun v st => (itemsV v st).bind fun its => forL its.2 (bindT sc t) (fun loc st => exs c b sc loc st) its.1 loc st) = some r) := by
  have fin : (if o.isEmpty then (if isNm t then bd (ev c iter sc loc st) fun v st => (itemsV v st).bind fun its => forL its.2 (bindT sc t) (fun loc st => exs c b sc loc st) its.1 loc st else none) else none) = some r → (∃ f fp e cp, iter = .Call (.Name f fp) [e] [] cp) ∨
      (o = [] ∧ isNm t = true ∧ (bd (ev c iter sc loc st) fun v st => (itemsV v st).bind fun its => forL its.2 (bindT sc t) (fun loc st => exs c b sc loc st) its.1 loc st) = some r) := fun q => by
    obtain ⟨ho, q⟩ := guard_some q
    obtain ⟨hn, q⟩ := guard_some q
    exact .inr ⟨List.isEmpty_iff.mp ho, hn, q⟩
  cases iter with
  | Call f args kws cp =>
    cases f with
    | Name f fp =>
      match args, kws with
      | [e], [] => exact .inl ⟨_, _, _, _, rfl⟩
      | [], _ => exact fin q
      | _ :: _ :: _, _ => exact fin q
      | [_], _ :: _ => exact fin q
    | _ => exact fin q
  | _ => exact fin q
noncomputable def AsgInv (c : CallT) (ts : List Expr) (e : Expr) (sc : Sc) (loc : Loc) (st : St) (r : (Fl × Loc) × St) : Prop :=
    (∃ y py elt x₁ p₁ x₂ p₂ k tp f fp e' cp t' scope lp, ts = [.Name y py] ∧ e = .ListComp elt [⟨.Tuple [.Name x₁ p₁, .Name x₂ p₂] k tp, .Call (.Name f fp) [e'] [] cp, [t'], 0⟩] scope lp) ∨
    ∃ t, ts = [t] ∧ assignOk t e = true ∧ (bd (ev c e sc loc st) fun v st => bd (storeT c sc t v loc st) fun loc st => some ((Fl.next, loc), st)) = some r
theorem asg_fin {t e : Expr} {sc : Sc} {loc : Loc} {st : St} {r : (Fl × Loc) × St} (q : (if assignOk t e then bd (ev c e sc loc st) fun v st => bd (storeT c sc t v loc st) fun loc st => some ((Fl.next, loc), st) else none) = some r) : AsgInv c [t] e sc loc st r :=
  .inr ⟨t, rfl, guard_some q⟩
theorem asg_gen {y : Str} {py p : Pos} {elt : Expr} {gens : List Comprehension} {scope : Scope} {lp : Pos} {sc : Sc} {loc : Loc} {st : St} {r : (Fl × Loc) × St} (q : ex c (.Assign [.Name y py] (.ListComp elt gens scope lp) p) sc loc st = some r) : AsgInv c [.Name y py] (.ListComp elt gens scope lp) sc loc st r := by
  cases gens with
  | nil => exact asg_fin q
  | cons g gs =>
  obtain ⟨tg, iter, ifs, k⟩ := g
  cases tg with
  | Tuple es tk tp =>
    cases es with
    | nil => exact asg_fin q
    | cons a es =>
    cases a with
    | Name x₁ p₁ =>
      cases es with
      | nil => exact asg_fin q
      | cons a es =>
      cases a with
      | Name x₂ p₂ =>
        cases es with
        | cons a es => exact asg_fin q
        | nil =>
        cases iter with
        | Call f args kws cp =>
          cases f with
          | Name f fp =>
            cases args with
            | nil => exact asg_fin q
            | cons e' args =>
            cases args with
            | cons a args => exact asg_fin q
            | nil =>
            cases kws with
            | cons a kws => exact asg_fin q
            | nil =>
            cases ifs with
            | nil => exact asg_fin q
            | cons t' ifs =>
            cases ifs with
            | cons a ifs => exact asg_fin q
            | nil =>
            cases k with
            | negSucc k => exact asg_fin q
            | ofNat k =>
            cases k with
            | succ k => exact asg_fin q
            | zero =>
            cases gs with
            | cons a gs => exact asg_fin q
            | nil => exact .inl ⟨_, _, _, _, _, _, _, _, _, _, _, _, _, _, _, _, rfl, rfl⟩
          | _ => exact asg_fin q
        | _ => exact asg_fin q
      | _ => exact asg_fin q
    | _ => exact asg_fin q
  | _ => exact asg_fin q
/-- an assignment is of a picked list, or to one target -/
theorem assign_inv {ts : List Expr} {e : Expr} {p : Pos} {sc : Sc} {loc : Loc} {st : St} {r : (Fl × Loc) × St} (q : ex c (.Assign ts e p) sc loc st = some r) : AsgInv c ts e sc loc st r := by
  cases ts with
  | nil => exact no_some q
  | cons t ts =>
  cases ts with
  | cons t' ts => cases t <;> first | exact no_some q | (cases e <;> exact no_some q)
  | nil =>
  cases t with
  | Name y py =>
    cases e with
    | ListComp elt gens scope lp => exact asg_gen q
    | _ => exact asg_fin q
  | _ => exact asg_fin q
theorem ex_all (B : Base prog w K C H mg mb) (hbe : bootBuiltins (Str.ofString "enumerate") = some (.type "enumerate")) (hbr : bootBuiltins (Str.ofString "range") = some (.type "range")) (hC : CallOk prog w K C H n c) (N : Nat) : ∀ t : Stmt, sizeOf t < N → ExOk prog w C H n c t := by
  induction N with
  | zero => intro e h; exact absurd h (Nat.not_lt_zero _)
  | succ N ih =>
    intro t ht
    have mem : ∀ (ts : List Stmt), sizeOf ts < N → ExsOk prog w C H n c ts := fun ts hs => exs_all fun t m => ih t (Nat.lt_trans (List.sizeOf_lt_of_mem m) hs)
    cases t with
    | Expr e p => exact ex_Expr (ev_ok B hC e)
    | Return eo p => exact ex_Return (evO_any B hC eo)
    | AugAssign t op e p => exact ex_AugAssign (ev_ok B hC e)
    | If t b o p =>
      have q := Stmt.If.sizeOf_spec t b o p
      exact ex_If (evT_ok B hC t) (mem b (z24 q ht)) (mem o (z34 q ht))
    | While t b o p => exact ex_While (evT_ok B hC t) (mem b (z24 (Stmt.While.sizeOf_spec t b o p) ht))
    | For t iter b o p =>
      have hb := mem b (z35 (Stmt.For.sizeOf_spec t iter b o p) ht)
      intro sc loc st d l' st' z
      rcases for_inv z with ⟨f, fp, e, cp, rfl⟩ | h
      · exact ex_For B hbe hbr (ev_ok B hC e) hb sc loc st d l' st' z
      · exact for_any (ev_ok B hC iter) hb h.1 h.2.1 h.2.2
    | Assign ts e p =>
      intro sc loc st d l' st' z
      rcases assign_inv z with ⟨y, py, elt, x₁, p₁, x₂, p₂, k, tp, f, fp, e', cp, t', scope, lp, rfl, rfl⟩ | ⟨t, rfl, h⟩
      · exact ex_Pick B hbe (ev_ok B hC _) (ev_ok B hC _) (evT_ok B hC _) sc loc st d l' st' z
      · exact ex_Assign (ev_ok B hC e) (st_ok B hC t) h.1 h.2
    | _ => exact ex_no fun _ _ _ => rfl
theorem exs_ok (B : Base prog w K C H mg mb) (hbe : bootBuiltins (Str.ofString "enumerate") = some (.type "enumerate")) (hbr : bootBuiltins (Str.ofString "range") = some (.type "range")) (hC : CallOk prog w K C H n c) (ts : List Stmt) : ExsOk prog w C H n c ts :=
  exs_all fun t _ => ex_all B hbe hbr hC (sizeOf t + 1) t (Nat.lt_succ_self _)
theorem boot_enum : bootBuiltins (Str.ofString "enumerate") = some (.type "enumerate") := by kernel_rfl
theorem boot_range : bootBuiltins (Str.ofString "range") = some (.type "range") := by kernel_rfl
end
end Mine

set_option autoImplicit false
set_option linter.unusedVariables false
set_option maxRecDepth 100000
namespace Mine
open PySem PySem.W PyProof.Rows PySem.Calls

section
variable {prog : Program} {w : World} {K : Frag} {C : Addr} {H : Heap} {mg mb : Str → Option Value} {n : Nat} {c : CallT}

theorem zip_names {α : Type} : ∀ {ps : List Str} {us : List α} {x : Str × α}, x ∈ ps.zip us → x.1 ∈ ps
  | p :: ps, u :: us, x, h => by
    rw [List.zip_cons_cons] at h
    rcases List.mem_cons.mp h with rfl | h
    · exact .head _
    · exact .tail _ (zip_names h)
  | [], _, _, h => by simp at h
  | _ :: _, [], _, h => by simp at h
theorem zip_nodup {α : Type} {ps : List Str} {us : List α} (h : ps.Nodup) (l : us.length = ps.length) : ((ps.zip us).map (·.1)).Nodup := by
  rw [List.map_fst_zip (by omega)]; exact h
theorem CRoom.deeper {A : Around} {env : Env} (h : CRoom (n + 1) A) : Room n (A.deeper env) := by
  obtain ⟨a, b, d⟩ := h
  refine ⟨a, ?_, ?_⟩
  · show A.depth + 1 + 3 * n + 1 < 900
    omega
  · show A.units + 3 + 20 * n + 100 < 9900
    omega
/-- every call that the interpreter answers, the machine answers alike -/
theorem call_ok (B : Base prog w K C H mg mb) : ∀ n, CallOk prog w K C H n (callF n)
  | 0 => by
    intro f args st d st' e
    rw [callF] at e; cases e
  | n + 1 => by
    intro f args st d st' e A s ρ a vs hR hf R r RR hq
    have ih := call_ok B n
    rw [callF] at e
    split at e
    · rename_i hlen
      obtain ⟨⟨fl, loc'⟩, st1, e1, e2⟩ := bd_some e
      obtain ⟨oc, od, osl, fd, hK, F⟩ := hf
      have X := B.now R
      obtain ⟨us, hb, ru⟩ := F.binds H ρ s vs args X r hlen
      have hul : us.length = (recOf f).params.length := by rw [ru.length, hlen]
      refine codeAny_call_def (o := ⟨oc, od, .func fd, osl⟩) (fd := fd) (body := (recOf f).body) (binds := (recOf f).params.zip us) ?_ (X _ _ hK) rfl (B.lim.keeps R.base) (codeRec_of X F.code) F.body hb (by rw [F.scope]; exact F.cell) (fun x hx => by rw [F.scope]; exact F.loc _ (zip_names hx)) (fun h₀ hn hk => ?_) (by rw [F.scope]; exact F.coro) (by rw [F.scope]; exact F.gen) (by rw [F.scope]; exact F.kind)
      · have := hR.2.1
        show A.depth < 1000
        omega
      · have S0 : Step [] ρ s.heap ρ h₀ := Step.of_ext hk
        have fL : s.heap.get? s.heap.objs.size = none := fresh_size s.heap
        have hL : Lc H s.heap.objs.size ρ h₀ ((recOf f).params.zip (fillArgs f args)) := by
          refine ⟨⟨_, hn, ?_⟩, R.notIn fL, R.notH fL⟩
          intro x
          have := RM.zip (H := H) (ρ := ρ) (h := h₀) (recOf f).params us _ (ru.mono ⟨[], by simp⟩ S0.tup) x
          simp only [lookup_rev x (zip_nodup F.nodup hul)]
          exact this
        have he : EnvOk (callEnv fd s.heap.objs.size a) (recOf f).scope.names := by
          refine ⟨?_, ?_, F.glob, F.bui⟩
          · show fd.scope.kind = _
            rw [F.scope]; exact F.kind
          · show fd.scope.names = _
            rw [F.scope]
        refine exs_ok B boot_enum boot_range ih (recOf f).body _ _ _ _ _ _ e1 _ (callEnv fd s.heap.objs.size a) ρ { s with heap := h₀, toks := s.toks + ((recOf f).params.zip us).length } (CRoom.deeper hR) he (R.keeps hk) hL _ _ fun f' ρ1 h1 t1 S1 R1 L1 F1 => ?_
        have S : Step [] ρ s.heap ρ1 h1 := (S0.nil.trans S1).drop fL
        cases fl with
        | next =>
          cases f' <;> first | (exact absurd F1 id) | skip
          simp only at e2
          cases e2
          exact hq _ ρ1 h1 t1 S R1 .none
        | ret u =>
          cases f' <;> first | (exact absurd F1 id) | skip
          simp only at e2
          cases e2
          exact hq _ ρ1 h1 t1 S R1 F1
    · cases e
end
end Mine

set_option autoImplicit false
set_option linter.unusedVariables false
set_option maxRecDepth 100000
namespace Mine
open PySem PySem.W PyProof.Rows PySem.Calls

section
variable {H h : Heap} {ρ : Rho} {K : Frag}
theorem okV_rv {v : Value} {d : V} (e : okV v d = true) : RV H ρ h v d := by
  cases v with
  | int i t => cases d <;> first | exact no_true e | (obtain rfl := eq_of_beq e; exact .int ..)
  | str x t => cases d <;> first | exact no_true e | (obtain rfl := eq_of_beq e; exact .str ..)
  | none => cases d <;> first | exact no_true e | exact .none
  | _ => exact no_true e
theorem okVs_rv : ∀ {vs : List Value} {ds : List V}, okVs vs ds = true → RVs H ρ h vs ds
  | [], [], _ => .nil
  | [], _ :: _, e => no_true e
  | _ :: _, [], e => no_true e
  | v :: vs, d :: ds, e => by
    obtain ⟨a, b⟩ := Bool.and_eq_true_iff.mp e
    exact .cons (okV_rv a) (okVs_rv b)
theorem okTup_at {v : Value} {ds : List V} (e : okTup K v ds = true) : ∃ a vs n, v = .ref a ∧ K.lookup a = some (tupO vs n) ∧ okVs vs ds = true := by
  cases v with
  | ref a =>
    replace e : (match K.lookup a with
      | some o => (match o.data with | .seq xs _ => okVs xs.toList ds | _ => false) && o.cls == .type "tuple" && o.dict == none && o.slots.isEmpty
      | none => false) = true := e
    cases ho : K.lookup a with
    | none => rw [ho] at e; exact no_true e
    | some o =>
      rw [ho] at e
      obtain ⟨c, d, x, sl⟩ := o
      obtain ⟨e, e4⟩ := Bool.and_eq_true_iff.mp e
      obtain ⟨e, e3⟩ := Bool.and_eq_true_iff.mp e
      obtain ⟨e, e2⟩ := Bool.and_eq_true_iff.mp e
      cases x with
      | seq xs n =>
        obtain rfl : c = .type "tuple" := eq_of_beq e2
        obtain rfl : d = none := eq_of_beq e3
        obtain rfl : sl = #[] := Array.isEmpty_iff.mp e4
        exact ⟨a, xs.toList, n, rfl, by rw [ho], e⟩
      | _ => exact no_true e
  | _ => exact no_true e
theorem okAny_rv {v : Value} {d : V} (e : okAny K v d = true) (X : K.In h) : RV H ρ h v d := by
  cases d with
  | tup ds =>
    obtain ⟨e, l⟩ := Bool.and_eq_true_iff.mp e
    obtain ⟨a, vs, n, rfl, ho, q⟩ := okTup_at e
    exact .tup (X _ _ ho) (Nat.le_of_ble_eq_true l) (okVs_rv q)
  | _ => exact okV_rv e
theorem some2_true {o : Option (Option Value)} {f : Value → Bool} (e : (match o with | some (some v) => f v | _ => false) = true) : ∃ v, o = some (some v) ∧ f v = true := by
  cases o with
  | none => exact no_true e
  | some y => cases y with
    | none => exact no_true e
    | some v => exact ⟨v, rfl, e⟩
end

/-! ## a def's record -/
noncomputable def fnChk (f : Fn) : Bool := (recOf f).scope.kind == .function && !(recOf f).scope.isCoroutine && !(recOf f).scope.isGenerator && (recOf f).scope.names.all (fun x => x.2 != .cell) && (recOf f).params.all (fun x => (recOf f).scope.names.lookup x == some .local) && decide (recOf f).params.Nodup
theorem fn_chk (f : Fn) : fnChk f = true := by cases f <;> kernel_rfl
end Mine

set_option autoImplicit false
set_option linter.unusedVariables false
set_option maxRecDepth 100000
namespace Mine
open PySem PySem.W PyProof.Rows PySem.Calls

theorem lookup_all {α : Type} {l : List (Str × α)} {p : Str → α → Prop} (h : ∀ e ∈ l, p e.1 e.2) (x : Str) (f : α) (e : l.lookup x = some f) : p x f := h _ (lookup_mem e)
theorem len1 {α : Type} {l : List α} (h : l.length = 1) : ∃ a, l = [a] := List.length_eq_one_iff.mp h
theorem len2 {α : Type} {l : List α} (h : l.length = 2) : ∃ a b, l = [a, b] := by
  match l, h with
  | [a, b], _ => exact ⟨a, b, rfl⟩
theorem len3 {α : Type} {l : List α} (h : l.length = 3) : ∃ a b c, l = [a, b, c] := by
  match l, h with
  | [a, b, c], _ => exact ⟨a, b, c, rfl⟩
theorem len5 {α : Type} {l : List α} (h : l.length = 5) : ∃ a b c d e, l = [a, b, c, d, e] := by
  match l, h with
  | [a, b, c, d, e], _ => exact ⟨a, b, c, d, e, rfl⟩
theorem len6 {α : Type} {l : List α} (h : l.length = 6) : ∃ a b c d e f, l = [a, b, c, d, e, f] := by
  match l, h with
  | [a, b, c, d, e, f], _ => exact ⟨a, b, c, d, e, f, rfl⟩
noncomputable def argsD (f : Fn) : Arguments := match argsOf f with
  | some a => a
  | none => default
theorem argsD_of {f : Fn} {p : Arguments} (h : some p = argsOf f) : p = argsD f := by unfold argsD; rw [← h]
theorem bind_eq (f : Fn) (hf : f ≠ .m_codes) {fd : FuncData} (hp : fd.params = argsD f) (hd : fd.defaults = .none) {vs : List Value} (h : vs.length = (recOf f).params.length) : bindArgs fd ⟨vs, []⟩ = pure ((recOf f).params.zip vs) := by
  obtain ⟨nm, qn, pr, bd, sc, gl, cl, df, kd, dc, pm, an, co, ct, bu⟩ := fd
  obtain rfl : pr = argsD f := hp
  obtain rfl : df = .none := hd
  cases f with
  | m_codes => exact absurd rfl hf
  | clamp => obtain ⟨a, b, c, rfl⟩ := len3 h; kernel_rfl
  | erased_pen => obtain ⟨a, rfl⟩ := len1 h; kernel_rfl
  | blank_cell => obtain ⟨a, rfl⟩ := len1 h; kernel_rfl
  | is_blank => obtain ⟨a, rfl⟩ := len1 h; kernel_rfl
  | is_plain_blank => obtain ⟨a, rfl⟩ := len1 h; kernel_rfl
  | line_blanks => obtain ⟨a, b, rfl⟩ := len2 h; kernel_rfl
  | right_half => obtain ⟨a, rfl⟩ := len1 h; kernel_rfl
  | line_part => obtain ⟨a, b, rfl⟩ := len2 h; kernel_rfl
  | line_slice => obtain ⟨a, b, c, rfl⟩ := len3 h; kernel_rfl
  | line_codes => obtain ⟨a, rfl⟩ := len1 h; kernel_rfl
  | deck => obtain ⟨a, rfl⟩ := len1 h; kernel_rfl
  | draw => obtain ⟨a, b, rfl⟩ := len2 h; kernel_rfl
  | pen => obtain ⟨a, rfl⟩ := len1 h; kernel_rfl
  | sign => obtain ⟨a, rfl⟩ := len1 h; kernel_rfl
  | lpart => obtain ⟨a, b, rfl⟩ := len2 h; kernel_rfl
  | lput => obtain ⟨a, b, c, rfl⟩ := len3 h; kernel_rfl
  | deed => obtain ⟨a, b, c, rfl⟩ := len3 h; kernel_rfl
  | lcodes => obtain ⟨a, rfl⟩ := len1 h; kernel_rfl
  | lused => obtain ⟨a, rfl⟩ := len1 h; kernel_rfl
  | law => obtain ⟨a, rfl⟩ := len1 h; kernel_rfl
  | m_init => obtain ⟨a, b, c, rfl⟩ := len3 h; kernel_rfl
  | m_part => obtain ⟨a, b, rfl⟩ := len2 h; kernel_rfl
  | m_put => obtain ⟨a, b, c, rfl⟩ := len3 h; kernel_rfl
  | m_put_cells => obtain ⟨a, b, c, rfl⟩ := len3 h; kernel_rfl
  | m_shift => obtain ⟨a, b, c, d, e, f, rfl⟩ := len6 h; kernel_rfl
  | m_insert => obtain ⟨a, b, c, d, e, rfl⟩ := len5 h; kernel_rfl
  | m_delete => obtain ⟨a, b, c, d, e, rfl⟩ := len5 h; kernel_rfl
  | m_copy => obtain ⟨a, rfl⟩ := len1 h; kernel_rfl
  | m_used => obtain ⟨a, rfl⟩ := len1 h; kernel_rfl
  | m_equals => obtain ⟨a, b, rfl⟩ := len2 h; kernel_rfl
theorem codes_eq {fd : FuncData} (hp : fd.params = argsD .m_codes) {s : Shared} {T : Addr} {us : List Value} {n : Nat} (hd : fd.defaults = .ref T) (ho : s.heap.get? T = some (tupO us n)) {u v : Value} (e : us = [u, v]) (x : Value) :
    BindsTo s fd ⟨[x], []⟩ ((recOf .m_codes).params.zip [x, u, v]) ∧ ∀ y z, BindsTo s fd ⟨[x, y, z], []⟩ ((recOf .m_codes).params.zip [x, y, z]) := by
  obtain ⟨nm, qn, pr, bd, sc, gl, cl, df, kd, dc, pm, an, co, ct, bu⟩ := fd
  obtain rfl : pr = argsD .m_codes := hp
  obtain rfl : df = .ref T := hd
  subst e
  exact ⟨BindsTo.of_defaults rfl ho rfl rfl rfl, fun y z => BindsTo.of_defaults rfl ho rfl rfl rfl⟩
theorem fn_binds (f : Fn) {K : Frag} {fd : FuncData} (hp : fd.params = argsD f) (hd : dfltOk K fd.defaults f = true) (H : Heap) (ρ : Rho) (s : Shared) (vs : List Value) (ds : List V) (X : K.In s.heap) (r : RVs H ρ s.heap vs ds)
    (hl : (fillArgs f ds).length = (recOf f).params.length) : ∃ us, BindsTo s fd ⟨vs, []⟩ ((recOf f).params.zip us) ∧ RVs H ρ s.heap us (fillArgs f ds) := by
  by_cases hf : f = .m_codes
  · subst hf
    obtain ⟨T, us, n, hT, ho, hu⟩ := okTup_at hd
    have rv := okVs_rv (H := H) (ρ := ρ) (h := s.heap) hu
    obtain ⟨u, v, rfl, r1, r2⟩ := rv.two_inv
    have cq := fun x => codes_eq hp hT (X _ _ ho) rfl x
    match ds, hl with
    | [d], _ =>
      obtain ⟨x, rfl, rx⟩ := r.one_inv
      exact ⟨[x, u, v], (cq x).1, .cons rx (.cons r1 (.cons r2 .nil))⟩
    | [d, e, g], _ =>
      obtain ⟨x, ws, rfl, rx, rw⟩ := r.cons_inv
      obtain ⟨y, z, rfl, ry, rz⟩ := rw.two_inv
      exact ⟨[x, y, z], (cq x).2 y z, .cons rx (.cons ry (.cons rz .nil))⟩
    | [], hl => cases hl
    | [_, _], hl => cases hl
    | p :: q :: r :: s :: t, hl => exact absurd (show (p :: q :: r :: s :: t).length = 3 from hl) (by simp)
  · have h1 : fillArgs f ds = ds := by cases f <;> first | rfl | exact absurd rfl hf
    have h2 : fd.defaults = .none := by cases f <;> first | exact eq_of_beq hd | exact absurd rfl hf
    rw [h1] at hl ⊢
    exact ⟨vs, BindsTo.of_eq (bind_eq f hf hp h2 (r.length.trans hl)), r⟩
theorem fnLook_at {K : Frag} {f : Fn} {v : Option (Option Value)} (e : fnLook K f v = fnWant f) : ∃ a, v = some (some (.ref a)) ∧ typeIn K (.ref a) = some (.type "function") ∧ FnAt K f a := by
  have no : ∀ {p : Prop}, none = fnWant f → p := fun e => by cases e
  unfold fnLook at e
  cases v with
  | none => exact no e
  | some v =>
  cases v with
  | none => exact no e
  | some v =>
  cases v with
  | ref a =>
    simp only at e
    cases ho : K.lookup a with
    | none => rw [ho] at e; exact no e
    | some o =>
    rw [ho] at e
    obtain ⟨oc, od, x, osl⟩ := o
    cases x with
    | func fd =>
      have e := Option.some.inj e
      simp only [Prod.mk.injEq] at e
      obtain ⟨e1, e2, e3, e4⟩ := e
      obtain ⟨e4, b6⟩ := Bool.and_eq_true_iff.mp e4
      obtain ⟨e4, b5⟩ := Bool.and_eq_true_iff.mp e4
      obtain ⟨e4, b4⟩ := Bool.and_eq_true_iff.mp e4
      obtain ⟨e4, b3⟩ := Bool.and_eq_true_iff.mp e4
      obtain ⟨b1, b2⟩ := Bool.and_eq_true_iff.mp e4
      have c := fn_chk f
      simp only [fnChk, Bool.and_eq_true, List.all_eq_true, decide_eq_true_eq, beq_iff_eq, bne_iff_ne, Bool.not_eq_true'] at c
      obtain ⟨⟨⟨⟨⟨c1, c2⟩, c3⟩, c4⟩, c5⟩, c6⟩ := c
      refine ⟨a, rfl, ?_, oc, od, osl, fd, ho, e1, e2, eq_of_beq b1, eq_of_beq b2, List.isEmpty_iff.mp b3, b4, c1, c2, c3, c4, c5, c6, fn_binds f (argsD_of e3) b6⟩
      show (K.lookup a).map (·.cls) = _
      rw [ho]
      exact congrArg some (eq_of_beq b5)
    | _ => exact no e
  | _ => exact no e
theorem map_at {α β : Type} {f g : α → β} : ∀ {l : List α}, l.map f = l.map g → ∀ e ∈ l, f e = g e
  | [], _, _, m => nomatch m
  | a :: l, h, e, m => by
    obtain ⟨h1, h2⟩ := List.cons.inj h
    cases m with
    | head => exact h1
    | tail _ m => exact map_at h2 e m
theorem see_base {prog : Program} {w : World} {K : Frag} {C : Addr} {H : Heap} {mg mb : Str → Option Value} (S : seesAt K C = wants) (X : K.In H) (g : H.Ns mainGlobals mg) (b : H.Ns builtinsNs mb) (lim : H.NoLimit)
    (bi : ∀ x : Str, x ≠ "__name__" → mb x = bootBuiltins x) : Base prog w K C H mg mb ∧ ∃ a, mg (Str.ofString "law") = some (.ref a) ∧ FnAt K .law a := by
  obtain ⟨F, S⟩ := Prod.mk.inj S
  obtain ⟨Sl, S⟩ := List.cons.inj S
  obtain ⟨Si, S⟩ := List.cons.inj S
  obtain ⟨St, Sm⟩ := List.append_inj S (by rw [List.length_map, List.length_map])
  simp only [flags, Bool.and_eq_true, List.all_eq_true, beq_iff_eq, Bool.or_eq_true] at F
  obtain ⟨⟨⟨⟨⟨⟨⟨⟨⟨⟨⟨⟨⟨⟨a1, a2⟩, a3⟩, a4⟩, a5⟩, a6⟩, a7⟩, a8⟩, a9⟩, a10⟩, a11⟩, a12⟩, a13⟩, a14⟩, a15⟩ := F
  have top : ∀ x f, tops.lookup x = some f → ∃ a, mg x = some (.ref a) ∧ FnAt K f a := lookup_all fun e he => by
    obtain ⟨a, h1, _, h2⟩ := fnLook_at (map_at St e he)
    exact ⟨a, mg_of X g h1, h2⟩
  refine ⟨⟨X, g, b, lim, bi, mg_of X g a1, a6, a7, a10, a11, a12, a8, a9, ?_, fnLook_at Si, lookup_all fun e he => fnLook_at (map_at Sm e he), top, ?_, ?_, mg_none_of X g a4, mg_none_of X g a5⟩, ?_⟩
  · rintro x (rfl | rfl | rfl)
    · exact a13
    · exact a14
    · exact a15
  · refine lookup_all (p := fun x d => ∃ v, mg x = some v ∧ RV H [] H v d) fun e he => ?_
    obtain ⟨v, h1, h2⟩ := some2_true (a2 e he)
    exact ⟨v, mg_of X g h1, okAny_rv h2 X⟩
  · exact lookup_all (p := fun x _ => x ≠ Str.ofString "Line" → mg x = none) fun e he hx => by
      rcases a3 e he with q | q
      · exact absurd q hx
      · exact mg_none_of X g q
  · obtain ⟨a, h1, _, h2⟩ := fnLook_at Sl
    exact ⟨a, mg_of X g h1, h2⟩
end Mine

set_option autoImplicit false
set_option linter.unusedVariables false
set_option maxRecDepth 10000
namespace Mine
open PySem

/-! ## names -/
theorem ofs_inj {a b : String} : (Str.ofString a = Str.ofString b) = (a = b) := by
  apply propext
  constructor
  · intro h
    rw [Str.ofString_eq_toList, Str.ofString_eq_toList] at h
    have h1 : (a.toList.map Char.toNat).toArray = (b.toList.map Char.toNat).toArray := congrArg Str.cps h
    have h2 : a.toList.map Char.toNat = b.toList.map Char.toNat := by simpa using congrArg Array.toList h1
    have h3 : a.toList = b.toList := List.map_inj_right (f := Char.toNat) (fun x y e => Char.ext (UInt32.toNat_inj.mp e)) |>.mp h2
    exact String.toList_inj.mp h3
  · rintro rfl; rfl
theorem look_cons {α : Type} {a b : String} {v : α} {r : List (Str × α)} : List.lookup (Str.ofString a) ((Str.ofString b, v) :: r) = if a = b then some v else List.lookup (Str.ofString a) r := by
  rw [List.lookup_cons]
  by_cases e : a = b
  · subst e; simp
  · rw [if_neg e]
    have : (Str.ofString a == Str.ofString b) = false := beq_eq_false_iff_ne.mpr (fun h => e (ofs_inj.mp h))
    rw [this]
theorem setL_cons {a b : String} {v u : V} {r : Loc} : setL (Str.ofString a) v ((Str.ofString b, u) :: r) = if a = b then (Str.ofString a, v) :: r else (Str.ofString b, u) :: setL (Str.ofString a) v r := by
  rw [setL]
  by_cases e : a = b
  · rw [if_pos e, if_pos (congrArg _ e)]
  · rw [if_neg e, if_neg (fun h => e (ofs_inj.mp h))]
theorem setL_nil {a : Str} {v : V} : setL a v [] = [(a, v)] := by rw [setL]

/-! ## what holds behind a run -/
noncomputable def Post {α : Type} (x : Option (α × St)) (Q : α → St → Prop) : Prop := ∃ a st, x = some (a, st) ∧ Q a st
noncomputable def PostO {α : Type} (x : Option α) (Q : α → Prop) : Prop := ∃ a, x = some a ∧ Q a
noncomputable def kont (fl : Fl × Loc) (A : Loc → Prop) (B : V → Loc → Prop) : Prop := match fl with
  | (.next, l) => A l
  | (.ret v, l) => B v l
section
variable {α β γ : Type} {C : CallT} {sc : Sc} {loc loc' : Loc} {st : St} {Q : α → St → Prop} {R : V → St → Prop} {F : Fl × Loc → St → Prop} {T : Bool → St → Prop} {Z : List V → St → Prop} {Y : Loc → St → Prop} {A : Loc → Prop} {B : V → Loc → Prop} {K : α → Prop}

theorem k_next (h : A loc) : kont (.next, loc) A B := h
theorem k_ret {v : V} (h : B v loc) : kont (.ret v, loc) A B := h
theorem p_some {a : α} (h : Q a st) : Post (some (a, st)) Q := ⟨_, _, rfl, h⟩
theorem po_some {a : α} (h : K a) : PostO (some a) K := ⟨_, rfl, h⟩
theorem p_eq {x y : Option (α × St)} (e : x = y) (h : Post y Q) : Post x Q := e ▸ h
theorem po_eq {x : Option α} {a : α} (e : x = some a) (h : K a) : PostO x K := ⟨a, e, h⟩
theorem p_bd {x : Option (β × St)} {f : β → St → Option (α × St)} (h : Post x fun b st => Post (f b st) Q) : Post (bd x f) Q := by
  obtain ⟨b, s, rfl, q⟩ := h; exact q
theorem p_bind {x : Option β} {f : β → Option (α × St)} (h : PostO x fun b => Post (f b) Q) : Post (x.bind f) Q := by
  obtain ⟨b, rfl, q⟩ := h; exact q
theorem p_map {x : Option β} {f : β → α × St} (h : PostO x fun b => Q (f b).1 (f b).2) : Post (x.map f) Q := by
  obtain ⟨b, rfl, q⟩ := h; exact ⟨_, _, rfl, q⟩
theorem po_map {x : Option γ} {f : γ → α} (h : PostO x fun b => K (f b)) : PostO (x.map f) K := by
  obtain ⟨b, rfl, q⟩ := h; exact ⟨_, rfl, q⟩
theorem p_guard {c : Prop} [Decidable c] {x : Option (α × St)} (hc : c) (h : Post x Q) : Post (if c then x else none) Q := by rw [if_pos hc]; exact h
theorem p_ite {c : Prop} [Decidable c] {x y : Option (α × St)} (h : if c then Post x Q else Post y Q) : Post (if c then x else y) Q := by
  by_cases hc : c
  · rw [if_pos hc] at h ⊢; exact h
  · rw [if_neg hc] at h ⊢; exact h
theorem Post.mono {x : Option (α × St)} {Q' : α → St → Prop} (h : Post x Q) (i : ∀ a st, Q a st → Q' a st) : Post x Q' := by
  obtain ⟨a, s, e, q⟩ := h; exact ⟨a, s, e, i _ _ q⟩
theorem PostO.mono {x : Option α} {K' : α → Prop} (h : PostO x K) (i : ∀ a, K a → K' a) : PostO x K' := by
  obtain ⟨a, e, q⟩ := h; exact ⟨a, e, i _ q⟩

/-! ## statements -/
theorem s_nil (h : F (.next, loc) st) : Post (exs C [] sc loc st) F := p_some h
theorem s_cons {s : Stmt} {r : List Stmt} (h : Post (ex C s sc loc st) fun fl st => kont fl (fun l => Post (exs C r sc l st) F) (fun v l => F (.ret v, l) st)) : Post (exs C (s :: r) sc loc st) F :=
  p_eq (y := bd (ex C s sc loc st) (fun fl st => (match fl.1 with | .next => exs C r sc fl.2 st | .ret v => some ((.ret v, fl.2), st)))) rfl (p_bd (h.mono fun fl st q => by
    obtain ⟨f, l⟩ := fl
    cases f with
    | next => exact q
    | ret v => exact p_some q))
theorem s_ret {e : Expr} {p : Pos} (h : Post (ev C e sc loc st) fun v st => F (.ret v, loc) st) : Post (ex C (.Return (some e) p) sc loc st) F :=
  p_eq (y := bd (evO C (some e) sc loc st) (fun v st => some ((.ret v, loc), st))) rfl (p_bd (h.mono fun _ _ => p_some))
theorem s_ret0 {p : Pos} (h : F (.ret .none, loc) st) : Post (ex C (.Return none p) sc loc st) F := p_some h
theorem s_if {t : Expr} {b o : List Stmt} {p : Pos} (h : Post (evT C t sc loc (ev C t sc loc) st) fun c st => if c then Post (exs C b sc loc st) F else Post (exs C o sc loc st) F) : Post (ex C (.If t b o p) sc loc st) F :=
  p_eq (y := bd (evT C t sc loc (ev C t sc loc) st) (fun c st => if c then exs C b sc loc st else exs C o sc loc st)) rfl (p_bd (h.mono fun _ _ => p_ite))
theorem s_expr {f : Expr} {args : List Expr} {kws : List Keyword} {p p' : Pos} (h : Post (ev C (.Call f args kws p) sc loc st) fun v st => plainV v = true ∧ F (.next, loc) st) : Post (ex C (.Expr (.Call f args kws p) p') sc loc st) F :=
  p_eq (y := bd (ev C (.Call f args kws p) sc loc st) (fun v st => if plainV v then some ((.next, loc), st) else none)) rfl (p_bd (h.mono fun _ _ q => p_guard q.1 (p_some q.2)))
theorem s_while {t : Expr} {b : List Stmt} {p : Pos} (h : Post (whileL (fun loc st => evT C t sc loc (ev C t sc loc) st) (fun loc st => exs C b sc loc st) 64 loc st) F) : Post (ex C (.While t b [] p) sc loc st) F := h
theorem s_for {x : Str} {px : Pos} {it : Expr} {b : List Stmt} {p : Pos} (e : ex C (.For (.Name x px) it b [] p) sc loc st = bd (ev C it sc loc st) fun v st => (itemsV v st).bind fun its => forL its.2 (bindT sc (.Name x px)) (fun loc st => exs C b sc loc st) its.1 loc st)
    (h : Post (ev C it sc loc st) fun v st => PostO (itemsV v st) fun its => Post (forL its.2 (bindT sc (.Name x px)) (fun loc st => exs C b sc loc st) its.1 loc st) F) : Post (ex C (.For (.Name x px) it b [] p) sc loc st) F :=
  p_eq e (p_bd (h.mono fun _ _ => p_bind))
theorem s_range {x f : Str} {px pf : Pos} {a : Expr} {pc : Pos} {b : List Stmt} {p : Pos} (h1 : (sc.lookup f == some .globalImplicit && !(f == Str.ofString "enumerate") && f == Str.ofString "range") = true)
    (h : Post (ev C a sc loc st) fun v st => PostO (rangeOf v) fun its => Post (forL none (bindT sc (.Name x px)) (fun loc st => exs C b sc loc st) its loc st) F) : Post (ex C (.For (.Name x px) (.Call (.Name f pf) [a] [] pc) b [] p) sc loc st) F := by
  simp only [Bool.and_eq_true, Bool.not_eq_true'] at h1
  obtain ⟨⟨h1, h2⟩, h3⟩ := h1
  refine p_eq (y := bd (ev C a sc loc st) fun v st => (rangeOf v).bind fun its => forL none (bindT sc (.Name x px)) (fun loc st => exs C b sc loc st) its loc st) ?_ (p_bd (h.mono fun _ _ => p_bind))
  show (if sc.lookup f == some .globalImplicit then
        (if f == Str.ofString "enumerate" && isTp (.Name x px) then bd (ev C a sc loc st) fun v st => (enumOf v st).bind fun its => forL its.2 (bindT sc (.Name x px)) (fun loc st => exs C b sc loc st) its.1 loc st
        else if f == Str.ofString "range" && isNm (.Name x px) then bd (ev C a sc loc st) fun v st => (rangeOf v).bind fun its => forL none (bindT sc (.Name x px)) (fun loc st => exs C b sc loc st) its loc st
        else none) else none) = _
  rw [h1, h2, h3]; rfl
theorem s_enum {es : List Expr} {k : Nat} {f : Str} {px pf : Pos} {a : Expr} {pc : Pos} {b : List Stmt} {p : Pos} (h1 : (sc.lookup f == some .globalImplicit && f == Str.ofString "enumerate") = true)
    (h : Post (ev C a sc loc st) fun v st => PostO (enumOf v st) fun its => Post (forL its.2 (bindT sc (.Tuple es k px)) (fun loc st => exs C b sc loc st) its.1 loc st) F) : Post (ex C (.For (.Tuple es k px) (.Call (.Name f pf) [a] [] pc) b [] p) sc loc st) F := by
  simp only [Bool.and_eq_true] at h1
  obtain ⟨h1, h2⟩ := h1
  refine p_eq (y := bd (ev C a sc loc st) fun v st => (enumOf v st).bind fun its => forL its.2 (bindT sc (.Tuple es k px)) (fun loc st => exs C b sc loc st) its.1 loc st) ?_ (p_bd (h.mono fun _ _ => p_bind))
  show (if sc.lookup f == some .globalImplicit then
        (if f == Str.ofString "enumerate" && isTp (.Tuple es k px) then bd (ev C a sc loc st) fun v st => (enumOf v st).bind fun its => forL its.2 (bindT sc (.Tuple es k px)) (fun loc st => exs C b sc loc st) its.1 loc st
        else if f == Str.ofString "range" && isNm (.Tuple es k px) then bd (ev C a sc loc st) fun v st => (rangeOf v).bind fun its => forL none (bindT sc (.Tuple es k px)) (fun loc st => exs C b sc loc st) its loc st
        else none) else none) = _
  rw [h1, h2]; rfl
theorem s_aug {x : Str} {px : Pos} {e : Expr} {p : Pos} {i : Int} (h1 : isLocal sc x = true) (h2 : loc.lookup x = some (.int i)) (h : Post (ev C e sc loc st) fun b st => ∃ j : Int, b = .int j ∧ F (.next, setL x (.int (i - j)) loc) st) : Post (ex C (.AugAssign (.Name x px) .Sub e p) sc loc st) F := by
  refine p_eq (y := if isLocal sc x && (Operator.Sub == .Sub || Operator.Sub == .Add) then (loc.lookup x).bind fun a => bd (ev C e sc loc st) fun b st => (match a, b with
      | .int _, .int _ => bd (binV .Sub a b st) fun c st => some ((.next, setL x c loc), st)
      | _, _ => none) else none) rfl ?_
  rw [h1, h2]
  exact p_bd (h.mono fun b st ⟨j, e, q⟩ => by subst e; exact p_some q)
theorem s_assign {t e : Expr} {p : Pos} (h0 : ex C (.Assign [t] e p) sc loc st = if assignOk t e then bd (ev C e sc loc st) fun v st => bd (storeT C sc t v loc st) fun loc st => some ((.next, loc), st) else none) (h1 : assignOk t e = true)
    (h : Post (ev C e sc loc st) fun v st => Post (storeT C sc t v loc st) fun l st => F (.next, l) st) : Post (ex C (.Assign [t] e p) sc loc st) F :=
  p_eq h0 (p_guard h1 (p_bd (h.mono fun _ _ q => p_bd (q.mono fun _ _ => p_some))))
theorem s_pick {y f x₁ x₂ : Str} {py p₁ p₂ tp fp cp lp pos : Pos} {k : Nat} {elt e t : Expr} {scope : Scope} (h1 : pickOk sc y f py lp scope x₁ x₂ = true)
    (h : Post (ev C e sc loc st) fun v st => PostO (enumOf v st) fun its =>
      Post (compL its.2 (bindT scope.names (.Tuple [.Name x₁ p₁, .Name x₂ p₂] k tp)) (fun loc st => evT C t scope.names loc (ev C t scope.names loc) st) (fun loc st => ev C elt scope.names loc st) its.1 [] [] st) fun vs st => Post (mkList vs st) fun u st => F (.next, setL y u loc) st) :
    Post (ex C (.Assign [.Name y py] (.ListComp elt [⟨.Tuple [.Name x₁ p₁, .Name x₂ p₂] k tp, .Call (.Name f fp) [e] [] cp, [t], 0⟩] scope lp) pos) sc loc st) F := by
  refine p_eq (y := if pickOk sc y f py lp scope x₁ x₂ then
      bd (ev C e sc loc st) fun v st => (enumOf v st).bind fun its => bd (compL its.2 (bindT scope.names (.Tuple [.Name x₁ p₁, .Name x₂ p₂] k tp)) (fun loc st => evT C t scope.names loc (ev C t scope.names loc) st) (fun loc st => ev C elt scope.names loc st) its.1 [] [] st) fun vs st =>
        bd (mkList vs st) fun u st => some ((.next, setL y u loc), st)
      else none) rfl (p_guard h1 (p_bd (h.mono fun _ _ q => p_bind (q.mono fun _ q => p_bd (q.mono fun _ _ q => p_bd (q.mono fun _ _ => p_some))))))

/-! ## stores -/
theorem t_name {x : Str} {p : Pos} {v : V} (h1 : isLocal sc x = true) (h2 : setL x v loc = loc') (h : Y loc' st) : Post (storeT C sc (.Name x p) v loc st) Y := by
  subst h2
  exact p_eq (y := (if isLocal sc x then some (setL x v loc) else none).map (·, st)) rfl (by rw [h1]; exact p_some h)
theorem t_tuple {es : List Expr} {k : Nat} {p : Pos} {vs : List V} (h1 : bindNames sc es vs loc = some loc') (h : Y loc' st) : Post (storeT C sc (.Tuple es k p) (.tup vs) loc st) Y :=
  p_eq (y := (bindNames sc es vs loc).map (·, st)) rfl (by rw [h1]; exact p_some h)
theorem t_attr {o : Expr} {x : Str} {p : Pos} {v : V} (h1 : baseOk o = true) (h : Post (ev C o sc loc st) fun ov st => PostO (setAttrV ov x v st) fun st => Y loc st) : Post (storeT C sc (.Attribute o x p) v loc st) Y :=
  p_eq (y := if baseOk o then bd (ev C o sc loc st) fun ov st => (setAttrV ov x v st).map (loc, ·) else none) rfl (p_guard h1 (p_bd (h.mono fun _ _ q => by refine p_map ?_; exact q)))
theorem t_slice {o : Expr} {l u : Option Expr} {p p' : Pos} {v : V} (h : Post (ev C o sc loc st) fun ov st => Post (evO C l sc loc st) fun lv st => Post (evO C u sc loc st) fun uv st => PostO (setSliceV ov lv uv v st) fun st => Y loc st) : Post (storeT C sc (.Subscript o (.Slice l u none p') p) v loc st) Y :=
  p_eq (y := bd (ev C o sc loc st) fun ov st => bd (evO C l sc loc st) fun lv st => bd (evO C u sc loc st) fun uv st => (setSliceV ov lv uv v st).map (loc, ·)) rfl (p_bd (h.mono fun _ _ q => p_bd (q.mono fun _ _ q => p_bd (q.mono fun _ _ q => by refine p_map ?_; exact q))))
theorem t_sub {o i : Expr} {p : Pos} {v : V} (e : storeT C sc (.Subscript o i p) v loc st = bd (ev C o sc loc st) fun ov st => bd (ev C i sc loc st) fun iv st => (setItemV ov iv v st).map (loc, ·))
    (h : Post (ev C o sc loc st) fun ov st => Post (ev C i sc loc st) fun iv st => PostO (setItemV ov iv v st) fun st => Y loc st) : Post (storeT C sc (.Subscript o i p) v loc st) Y :=
  p_eq e (p_bd (h.mono fun _ _ q => p_bd (q.mono fun _ _ q => by refine p_map ?_; exact q)))

/-! ## expressions -/
theorem e_none {k : Nat} {p : Pos} (h : R .none st) : Post (ev C (.Constant .none k p) sc loc st) R := p_some h
theorem e_bool {b : Bool} {k : Nat} {p : Pos} (h : R (.bool b) st) : Post (ev C (.Constant (.bool b) k p) sc loc st) R := p_some h
theorem e_int {i : Int} {k : Nat} {p : Pos} (h : R (.int i) st) : Post (ev C (.Constant (.int i) k p) sc loc st) R := p_some h
theorem e_str {x : Str} {k : Nat} {p : Pos} (h : R (.str x) st) : Post (ev C (.Constant (.str x) k p) sc loc st) R := p_some h
noncomputable def debugName (x : Str) : Bool := x == Str.ofString "__debug__"
theorem e_name {x : Str} {p : Pos} {v : V} (h1 : (!debugName x && sc.lookup x == some .local) = true) (h2 : loc.lookup x = some v) (h : R v st) : Post (ev C (.Name x p) sc loc st) R := by
  simp only [debugName, Bool.and_eq_true, Bool.not_eq_true', beq_eq_false_iff_ne, beq_iff_eq] at h1
  refine p_eq (y := if x = Str.ofString "__debug__" then none else (match sc.lookup x with
    | some .local => (loc.lookup x).map (·, st)
    | some .globalImplicit => (globs.lookup x).map (·, st)
    | _ => none)) rfl ?_
  rw [if_neg h1.1, h1.2, h2]
  exact p_some h
theorem e_glob {x : Str} {p : Pos} {v : V} (h1 : (!debugName x && sc.lookup x == some .globalImplicit) = true) (h2 : globs.lookup x = some v) (h : R v st) : Post (ev C (.Name x p) sc loc st) R := by
  simp only [debugName, Bool.and_eq_true, Bool.not_eq_true', beq_eq_false_iff_ne, beq_iff_eq] at h1
  refine p_eq (y := if x = Str.ofString "__debug__" then none else (match sc.lookup x with
    | some .local => (loc.lookup x).map (·, st)
    | some .globalImplicit => (globs.lookup x).map (·, st)
    | _ => none)) rfl ?_
  rw [if_neg h1.1, h1.2, h2]
  exact p_some h
theorem e_boolop {op : BoolOp} {es : List Expr} {p : Pos} (h : Post (evBool C op es sc loc st) R) : Post (ev C (.BoolOp op es p) sc loc st) R := h
theorem b_one {op : BoolOp} {e : Expr} (h : Post (ev C e sc loc st) R) : Post (evBool C op [e] sc loc st) R := p_eq (y := bd (ev C e sc loc st) (fun v st => some (v, st))) rfl (p_bd (h.mono fun _ _ => p_some))
theorem b_cons {op : BoolOp} {e e' : Expr} {es : List Expr} (h : Post (ev C e sc loc st) fun v st => PostO (truthV v) fun b => if goesOn op b then Post (evBool C op (e' :: es) sc loc st) R else R v st) : Post (evBool C op (e :: e' :: es) sc loc st) R :=
  p_eq (y := bd (ev C e sc loc st) (fun v st => (truthV v).bind fun b => if goesOn op b then evBool C op (e' :: es) sc loc st else some (v, st))) rfl (p_bd (h.mono fun v st q => p_bind (q.mono fun b q => p_ite (by
    split
    · rename_i hb; rw [if_pos hb] at q; exact q
    · rename_i hb; rw [if_neg hb] at q; exact p_some q))))
theorem e_bin {l r : Expr} {op : Operator} {p : Pos} (h : Post (ev C l sc loc st) fun a st => Post (ev C r sc loc st) fun b st => Post (binV op a b st) R) : Post (ev C (.BinOp l op r p) sc loc st) R :=
  p_eq (y := bd (ev C l sc loc st) (fun a st => bd (ev C r sc loc st) fun b st => binV op a b st)) rfl (p_bd (h.mono fun _ _ => p_bd))
theorem e_neg {i : Int} {k : Nat} {p p' : Pos} (h : R (.int (-i)) st) : Post (ev C (.UnaryOp .USub (.Constant (.int i) k p) p') sc loc st) R := p_some h
theorem e_not {x : Expr} {p : Pos} (h : Post (ev C x sc loc st) fun a st => PostO (truthV a) fun b => R (.bool (!b)) st) : Post (ev C (.UnaryOp .Not x p) sc loc st) R :=
  p_eq (y := bd (ev C x sc loc st) (fun a st => (truthV a).map fun b => (.bool (!b), st))) rfl (p_bd (h.mono fun _ _ q => by refine p_map ?_; exact q))
theorem e_if {t b o : Expr} {p : Pos} (h : Post (evT C t sc loc (ev C t sc loc) st) fun c st => if c then Post (ev C b sc loc st) R else Post (ev C o sc loc st) R) : Post (ev C (.IfExp t b o p) sc loc st) R :=
  p_eq (y := bd (evT C t sc loc (ev C t sc loc) st) (fun c st => if c then ev C b sc loc st else ev C o sc loc st)) rfl (p_bd (h.mono fun _ _ => p_ite))
theorem e_list {es : List Expr} {p : Pos} (h : Post (evs C es sc loc st) fun vs st => Post (mkList vs st) R) : Post (ev C (.List es p) sc loc st) R := p_eq (y := bd (evs C es sc loc st) (fun vs st => mkList vs st)) rfl (p_bd h)
theorem e_tuple {es : List Expr} {k : Nat} {p : Pos} (h : Post (evs C es sc loc st) fun vs st => Nat.ble vs.length 4096 = true ∧ R (.tup vs) st) : Post (ev C (.Tuple es k p) sc loc st) R :=
  p_eq (y := bd (evs C es sc loc st) (fun vs st => if vs.length ≤ 4096 then some (.tup vs, st) else none)) rfl (p_bd (h.mono fun _ _ q => p_guard (Nat.le_of_ble_eq_true q.1) (p_some q.2)))
theorem e_dict {k₁ k₂ : Str} {i₁ i₂ : Nat} {p₁ p₂ p : Pos} {e₁ e₂ : Expr} (h1 : (k₁ == k₂) = false) (h : Post (ev C e₁ sc loc st) fun v₁ st => Post (ev C e₂ sc loc st) fun v₂ st => Post (alloc (.dict [(k₁, v₁), (k₂, v₂)]) st) R) :
    Post (ev C (.Dict [some (.Constant (.str k₁) i₁ p₁), some (.Constant (.str k₂) i₂ p₂)] [e₁, e₂] p) sc loc st) R :=
  p_eq (y := bd (ev C e₁ sc loc st) (fun v₁ st => bd (ev C e₂ sc loc st) fun v₂ st => if k₁ = k₂ then none else alloc (.dict [(k₁, v₁), (k₂, v₂)]) st)) rfl (p_bd (h.mono fun _ _ q => p_bd (q.mono fun _ _ q => by rw [if_neg (beq_eq_false_iff_ne.mp h1)]; exact q)))
theorem e_cmp {l r : Expr} {op : CmpOp} {p : Pos} (h : Post (ev C l sc loc st) fun a st => Post (ev C r sc loc st) fun b st => PostO (cmpV op a b st) fun c => R (.bool c) st) : Post (ev C (.Compare l [op] [r] p) sc loc st) R :=
  p_eq (y := bd (ev C l sc loc st) (fun a st => bd (ev C r sc loc st) fun b st => (cmpV op a b st).map fun c => (.bool c, st))) rfl (p_bd (h.mono fun _ _ q => p_bd (q.mono fun _ _ q => by refine p_map ?_; exact q)))
theorem e_call {x : Str} {p' p : Pos} {args : List Expr} {f : Fn} (h1 : (!debugName x && sc.lookup x == some .globalImplicit) = true) (h2 : tops.lookup x = some f) (h : Post (evs C args sc loc st) fun vs st => Post (C f vs st) R) : Post (ev C (.Call (.Name x p') args [] p) sc loc st) R := by
  simp only [debugName, Bool.and_eq_true, Bool.not_eq_true', beq_eq_false_iff_ne, beq_iff_eq] at h1
  refine p_eq (y := if sc.lookup x = some .globalImplicit ∧ x ≠ Str.ofString "__debug__" then bd (evs C args sc loc st) fun vs st => callTop C x vs st else none) rfl (p_guard ⟨h1.2, h1.1⟩ (p_bd (h.mono fun vs st q => ?_)))
  unfold callTop; rw [h2]; exact q
theorem e_callB {x : Str} {p' p : Pos} {args : List Expr} {b : Bi} (h1 : (!debugName x && sc.lookup x == some .globalImplicit && (tops.lookup x).isNone) = true) (h2 : bis.lookup x = some b) (h : Post (evs C args sc loc st) fun vs st => Post (callBi C b vs st) R) : Post (ev C (.Call (.Name x p') args [] p) sc loc st) R := by
  simp only [debugName, Bool.and_eq_true, Bool.not_eq_true', beq_eq_false_iff_ne, beq_iff_eq, Option.isNone_iff_eq_none] at h1
  refine p_eq (y := if sc.lookup x = some .globalImplicit ∧ x ≠ Str.ofString "__debug__" then bd (evs C args sc loc st) fun vs st => callTop C x vs st else none) rfl (p_guard ⟨h1.1.2, h1.1.1⟩ (p_bd (h.mono fun vs st q => ?_)))
  unfold callTop; rw [h1.2, h2]; exact q
theorem e_meth {o : Expr} {x : Str} {p' p : Pos} {args : List Expr} (h1 : (baseOk o && (p'.endLine == p.line) && decide (args.length < 20)) = true) (h : Post (ev C o sc loc st) fun ov st => PostO (methV ov x st) fun m => Post (evs C args sc loc st) fun vs st => Post (callMe C m vs st) R) : Post (ev C (.Call (.Attribute o x p') args [] p) sc loc st) R :=
  p_eq (y := if baseOk o && (p'.endLine == p.line) && decide (args.length < 20) then
        bd (ev C o sc loc st) fun ov st => (methV ov x st).bind fun m => bd (evs C args sc loc st) fun vs st => callMe C m vs st
      else none) rfl (p_guard h1 (p_bd (h.mono fun _ _ q => p_bind (q.mono fun _ => p_bd))))
theorem e_attr {o : Expr} {x : Str} {p : Pos} (h1 : baseOk o = true) (h : Post (ev C o sc loc st) fun ov st => Post (getAttrV ov x st) R) : Post (ev C (.Attribute o x p) sc loc st) R :=
  p_eq (y := if baseOk o then bd (ev C o sc loc st) fun ov st => getAttrV ov x st else none) rfl (p_guard h1 (p_bd h))
theorem e_slice {o : Expr} {l u : Option Expr} {p p' : Pos} (h : Post (ev C o sc loc st) fun ov st => Post (evO C l sc loc st) fun lv st => Post (evO C u sc loc st) fun uv st => Post (getSliceV ov lv uv st) R) : Post (ev C (.Subscript o (.Slice l u none p') p) sc loc st) R :=
  p_eq (y := bd (ev C o sc loc st) fun ov st => bd (evO C l sc loc st) fun lv st => bd (evO C u sc loc st) fun uv st => getSliceV ov lv uv st) rfl (p_bd (h.mono fun _ _ q => p_bd (q.mono fun _ _ => p_bd)))
theorem e_sub {o i : Expr} {p : Pos} (e : ev C (.Subscript o i p) sc loc st = bd (ev C o sc loc st) fun ov st => bd (ev C i sc loc st) fun iv st => getItemV ov iv st)
    (h : Post (ev C o sc loc st) fun ov st => Post (ev C i sc loc st) fun iv st => Post (getItemV ov iv st) R) : Post (ev C (.Subscript o i p) sc loc st) R := p_eq e (p_bd (h.mono fun _ _ => p_bd))
theorem e_comp {elt iter : Expr} {x : Str} {px p : Pos} {scope : Scope} (h1 : compOk scope x = true) (h : Post (ev C iter sc loc st) fun v st => PostO (itemsV v st) fun its => Post (compL its.2 (bindT scope.names (.Name x px)) (fun _ st => some (true, st)) (fun loc st => ev C elt scope.names loc st) its.1 [] [] st) fun vs st => Post (mkList vs st) R) :
    Post (ev C (.ListComp elt [⟨.Name x px, iter, [], 0⟩] scope p) sc loc st) R :=
  p_eq (y := if compOk scope x then
        bd (ev C iter sc loc st) fun v st => (itemsV v st).bind fun its => bd (compL its.2 (bindT scope.names (.Name x px)) (fun _ st => some (true, st)) (fun loc st => ev C elt scope.names loc st) its.1 [] [] st) fun vs st => mkList vs st
      else none) rfl (p_guard h1 (p_bd (h.mono fun _ _ q => p_bind (q.mono fun _ => p_bd))))
theorem o_none (h : R .none st) : Post (evO C none sc loc st) R := p_some h
theorem o_some {e : Expr} (h : Post (ev C e sc loc st) R) : Post (evO C (some e) sc loc st) R := h
theorem es_nil (h : Z [] st) : Post (evs C [] sc loc st) Z := p_some h
theorem es_cons {e : Expr} {es : List Expr} (h : Post (ev C e sc loc st) fun v st => Post (evs C es sc loc st) fun vs st => Z (v :: vs) st) : Post (evs C (e :: es) sc loc st) Z :=
  p_eq (y := bd (ev C e sc loc st) (fun v st => bd (evs C es sc loc st) fun vs st => some (v :: vs, st))) rfl (p_bd (h.mono fun _ _ q => p_bd (q.mono fun _ _ => p_some)))

/-! ## tests -/
section
variable {W : St → Option (V × St)}
theorem c_not {x : Expr} {p : Pos} (h : Post (evT C x sc loc (ev C x sc loc) st) fun b st => T (!b) st) : Post (evT C (.UnaryOp .Not x p) sc loc W st) T :=
  p_eq (y := bd (evT C x sc loc (ev C x sc loc) st) (fun b st => some (!b, st))) rfl (p_bd (h.mono fun _ _ => p_some))
theorem c_boolop {op : BoolOp} {es : List Expr} {p : Pos} (h : Post (evAll C op es sc loc st) T) : Post (evT C (.BoolOp op es p) sc loc W st) T := h
theorem c_cmp {l r : Expr} {op : CmpOp} {p : Pos} (h : Post (ev C l sc loc st) fun a st => Post (ev C r sc loc st) fun b st => PostO (cmpV op a b st) fun c => T c st) : Post (evT C (.Compare l [op] [r] p) sc loc W st) T :=
  p_eq (y := bd (ev C l sc loc st) (fun a st => bd (ev C r sc loc st) fun b st => (cmpV op a b st).map (·, st))) rfl (p_bd (h.mono fun _ _ q => p_bd (q.mono fun _ _ q => by refine p_map ?_; exact q)))
theorem c_cmp2 {l r₁ r₂ : Expr} {op₁ op₂ : CmpOp} {p : Pos} (h1 : (op₂ == .In || op₂ == .NotIn) = false) (h : Post (ev C l sc loc st) fun a st => Post (ev C r₁ sc loc st) fun b st => PostO (cmpV op₁ a b st) fun c => if c then Post (ev C r₂ sc loc st) fun d st => PostO (cmpV op₂ b d st) fun c => T c st else T false st) :
    Post (evT C (.Compare l [op₁, op₂] [r₁, r₂] p) sc loc W st) T := by
  refine p_eq (y := bd (ev C l sc loc st) (fun a st => bd (ev C r₁ sc loc st) fun b st => (cmpV op₁ a b st).bind fun c =>
        if c then bd (ev C r₂ sc loc st) fun d st => (cmpV op₂ b d st).map (·, st) else if (op₂ == .In || op₂ == .NotIn) then none else some (false, st))) rfl (p_bd (h.mono fun _ _ q => p_bd (q.mono fun _ _ q => p_bind (q.mono fun c q => ?_))))
  cases c with
  | true => exact p_bd (Post.mono q fun _ _ q => by refine p_map ?_; exact q)
  | false => rw [h1]; exact p_some q
theorem c_name {x : Str} {p : Pos} (h : Post (W st) fun v st => PostO (truthV v) fun b => T b st) : Post (evT C (.Name x p) sc loc W st) T :=
  p_eq (y := bd (W st) (fun v st => (truthV v).map (·, st))) rfl (p_bd (h.mono fun _ _ q => by refine p_map ?_; exact q))
theorem c_call {f : Expr} {args : List Expr} {kws : List Keyword} {p : Pos} (h : Post (W st) fun v st => PostO (truthV v) fun b => T b st) : Post (evT C (.Call f args kws p) sc loc W st) T :=
  p_eq (y := bd (W st) (fun v st => (truthV v).map (·, st))) rfl (p_bd (h.mono fun _ _ q => by refine p_map ?_; exact q))
theorem a_one {op : BoolOp} {e : Expr} (h : Post (evT C e sc loc (ev C e sc loc) st) T) : Post (evAll C op [e] sc loc st) T :=
  p_eq (y := bd (evT C e sc loc (ev C e sc loc) st) (fun b st => if goesOn op b then some (op == .And, st) else some (b, st))) rfl (p_bd (h.mono fun b st q => by
    cases op <;> cases b <;> exact p_some q))
theorem a_cons {op : BoolOp} {e e' : Expr} {es : List Expr} (h : Post (evT C e sc loc (ev C e sc loc) st) fun b st => if goesOn op b then Post (evAll C op (e' :: es) sc loc st) T else T b st) : Post (evAll C op (e :: e' :: es) sc loc st) T :=
  p_eq (y := bd (evT C e sc loc (ev C e sc loc) st) (fun b st => if goesOn op b then evAll C op (e' :: es) sc loc st else some (b, st))) rfl (p_bd (h.mono fun b st q => p_ite (by
    split
    · rename_i hb; rw [if_pos hb] at q; exact q
    · rename_i hb; rw [if_neg hb] at q; exact p_some q)))
end

/-! ## ints and truths -/
theorem v_add {i j : Int} (h : R (.int (i + j)) st) : Post (binV .Add (.int i) (.int j) st) R := p_some h
theorem v_sub {i j : Int} (h : R (.int (i - j)) st) : Post (binV .Sub (.int i) (.int j) st) R := p_some h
theorem v_mul {i j : Int} (h1 : (small i && small j) = true) (h : R (.int (i * j)) st) : Post (binV .Mult (.int i) (.int j) st) R := p_eq (y := if small i && small j then some (.int (i * j), st) else none) rfl (p_guard h1 (p_some h))
theorem v_div {i j : Int} (h1 : 0 < j ∧ j < 1073741824) (h : R (.int (i / j)) st) : Post (binV .FloorDiv (.int i) (.int j) st) R := p_eq (y := if 0 < j ∧ j < 1073741824 then some (.int (i / j), st) else none) rfl (p_guard h1 (p_some h))
theorem v_mod {i j : Int} (h1 : 0 < j) (h : R (.int (i % j)) st) : Post (binV .Mod (.int i) (.int j) st) R := p_eq (y := if 0 < j then some (.int (i % j), st) else none) rfl (p_guard h1 (p_some h))
variable {KB : Bool → Prop}
theorem q_lt {i j : Int} (h : KB (decide (i < j))) : PostO (cmpV .Lt (.int i) (.int j) st) KB := ⟨_, rfl, h⟩
theorem q_le {i j : Int} (h : KB (decide (i ≤ j))) : PostO (cmpV .LtE (.int i) (.int j) st) KB := ⟨_, rfl, h⟩
theorem q_gt {i j : Int} (h : KB (decide (i > j))) : PostO (cmpV .Gt (.int i) (.int j) st) KB := ⟨_, rfl, h⟩
theorem q_ge {i j : Int} (h : KB (decide (i ≥ j))) : PostO (cmpV .GtE (.int i) (.int j) st) KB := ⟨_, rfl, h⟩
theorem q_is1 (h : KB true) : PostO (cmpV .Is .none .none st) KB := ⟨_, rfl, h⟩
theorem q_is2 {i : Int} (h : KB false) : PostO (cmpV .Is (.int i) .none st) KB := ⟨_, rfl, h⟩
theorem q_eq {i j : Int} (h : KB (decide (i = j))) : PostO (cmpV .Eq (.int i) (.int j) st) KB := ⟨_, rfl, h⟩
theorem q_ne {i j : Int} (h : KB (!decide (i = j))) : PostO (cmpV .NotEq (.int i) (.int j) st) KB := ⟨_, rfl, h⟩
theorem q_truth {b : Bool} (h : KB b) : PostO (truthV (.bool b)) KB := ⟨_, rfl, h⟩
end
/-! ## ways -/
theorem w_yes {b : Bool} {A B : Prop} (h : b = true) (q : A) : if b = true then A else B := by rw [if_pos h]; exact q
theorem w_no {b : Bool} {A B : Prop} (h : b = false) (q : B) : if b = true then A else B := by rw [h]; exact q
end Mine

set_option autoImplicit false
set_option linter.unusedVariables false
set_option maxRecDepth 10000
namespace Mine
open PySem

theorem P_callF {n : Nat} {f : Fn} {args : List V} {st : St} {R : V → St → Prop} (loc : Loc) (hp : (recOf f).params = loc.map (·.1)) (ha : fillArgs f args = loc.map (·.2))
    (h : Post (exs (callF n) (recOf f).body (recOf f).scope.names loc st) (fun fl st => kont fl (fun _ => R .none st) (fun v _ => R v st))) : Post (callF (n + 1) f args st) R := by
  have hz : ∀ l : Loc, (l.map (·.1)).zip (l.map (·.2)) = l := fun l => by
    induction l with
    | nil => rfl
    | cons a l ih => rw [List.map_cons, List.map_cons, List.zip_cons_cons, ih]
  rw [callF, hp, ha, hz, if_pos (by rw [List.length_map, List.length_map])]
  refine p_bd (h.mono fun fl st q => ?_)
  obtain ⟨f, l⟩ := fl
  cases f with
  | next => exact p_some q
  | ret v => exact p_some q
/-! lookups -/
theorem look0 {α : Type} {x : Str} {v : α} {l : List (Str × α)} : List.lookup x ((x, v) :: l) = some v := by rw [List.lookup_cons, beq_self_eq_true]
theorem lookS {α : Type} {x y : Str} {u : α} {l : List (Str × α)} {o : Option α} (h : (x == y) = false) (h2 : List.lookup x l = o) : List.lookup x ((y, u) :: l) = o := by rw [List.lookup_cons, h, h2]
theorem look_hit {x : Str} {v : V} {l : Loc} : List.lookup x (setL x v l) = some v := by
  induction l with
  | nil => rw [setL]; exact look0
  | cons a l ih =>
    obtain ⟨y, u⟩ := a
    rw [setL]
    by_cases e : x = y
    · rw [if_pos e]; exact look0
    · rw [if_neg e]; exact lookS (beq_eq_false_iff_ne.mpr e) ih
theorem look_skip {x y : Str} {u : V} {l : Loc} {o : Option V} (h : (x == y) = false) (h2 : List.lookup x l = o) : List.lookup x (setL y u l) = o := by
  induction l generalizing o with
  | nil => rw [setL]; exact lookS h h2
  | cons a l ih =>
    obtain ⟨z, w⟩ := a
    rw [setL]
    by_cases e : y = z
    · rw [if_pos e, lookS h rfl]
      subst e
      rw [lookS h rfl] at h2; exact h2
    · rw [if_neg e, List.lookup_cons]
      rw [List.lookup_cons] at h2
      split at h2
      · exact h2
      · exact ih h2

/-! ## what the state holds -/
abbrev Held := List (Nat × O)
noncomputable def At (st : St) (L : Held) : Prop := (∀ p ∈ L, st[p.1]? = some p.2) ∧ (L.map (·.1)).Nodup
section
variable {st : St} {L L' : Held} {a i : Nat} {o o' : O}
theorem At.get (h : At st L) (hi : L[i]? = some (a, o)) : st[a]? = some o := h.1 (a, o) (List.mem_of_getElem? hi)
theorem At.nil : At st [] := ⟨fun _ h => (nomatch h), by simp⟩
theorem At.alloc (h : At st L) : At (st ++ [o]) ((st.length, o) :: L) := by
  have hlt : ∀ p ∈ L, p.1 < st.length := fun p hp => (List.getElem?_eq_some_iff.mp (h.1 p hp)).1
  refine ⟨fun p hp => ?_, ?_⟩
  · rcases List.mem_cons.mp hp with rfl | hp
    · simp
    · rw [List.getElem?_append_left (hlt p hp)]; exact h.1 p hp
  · rw [List.map_cons, List.nodup_cons]
    refine ⟨fun hm => ?_, h.2⟩
    obtain ⟨p, hp, e⟩ := List.mem_map.mp hm
    have := hlt p hp
    omega
theorem nodup_inj {α : Type} {l : List α} (h : l.Nodup) {i j : Nat} {x : α} (hi : l[i]? = some x) (hj : l[j]? = some x) : i = j := by
  obtain ⟨a, ha⟩ := List.getElem?_eq_some_iff.mp hi
  obtain ⟨b, hb⟩ := List.getElem?_eq_some_iff.mp hj
  have hp := List.pairwise_iff_getElem.mp h
  rcases Nat.lt_trichotomy i j with q | q | q
  · exact absurd (ha.trans hb.symm) (hp i j a b q)
  · exact q
  · exact absurd (hb.trans ha.symm) (hp j i b a q)
theorem At.upd (h : At st L) (hi : L[i]? = some (a, o)) : At (setO st a o') (L.set i (a, o')) := by
  obtain ⟨hil, hie⟩ := List.getElem?_eq_some_iff.mp hi
  have hal : a < st.length := (List.getElem?_eq_some_iff.mp (h.get hi)).1
  have hm : (L.set i (a, o')).map (·.1) = L.map (·.1) := by
    rw [List.map_set]
    apply List.ext_getElem?
    intro j
    by_cases e : i = j
    · subst e
      rw [List.getElem?_set_self (by simpa using hil), List.getElem?_map, hi]; rfl
    · rw [List.getElem?_set_ne e]
  refine ⟨fun p hp => ?_, by rw [hm]; exact h.2⟩
  obtain ⟨j, hj⟩ := List.mem_iff_getElem?.mp hp
  unfold setO
  by_cases e : i = j
  · subst e
    rw [List.getElem?_set_self hil] at hj
    cases hj
    rw [List.getElem?_set_self hal]
  · rw [List.getElem?_set_ne e] at hj
    have hne : a ≠ p.1 := by
      intro he
      have h1 : (L.map (·.1))[i]? = some a := by rw [List.getElem?_map, hi]; rfl
      have h2 : (L.map (·.1))[j]? = some a := by rw [List.getElem?_map, hj]; simp [he]
      exact e (nodup_inj h.2 h1 h2)
    rw [List.getElem?_set_ne hne]
    exact h.1 p (List.mem_of_getElem? hj)
theorem At.sub (h : At st L) (s : List.Sublist L' L) : At st L' := ⟨fun p hp => h.1 p (s.subset hp), h.2.sublist (s.map _)⟩
theorem At.ne (h : At st L) {j b : Nat} {q : O} (hi : L[i]? = some (a, o)) (hj : L[j]? = some (b, q)) (hij : i ≠ j) : a ≠ b := by
  rintro rfl
  have h1 : (L.map (·.1))[i]? = some a := by rw [List.getElem?_map, hi]; rfl
  have h2 : (L.map (·.1))[j]? = some a := by rw [List.getElem?_map, hj]; rfl
  exact hij (nodup_inj h.2 h1 h2)
end

/-! ## the steps that look at the state -/
section
variable {C : CallT} {st : St} {L : Held} {a b i j : Nat} {vs ws : List V} {kvs : List (Str × V)} {v u : V} {x : Str} {R : V → St → Prop} {Y : St → Prop}

theorem P_mkList (h : At st L) (hn : vs.length ≤ 4096) (hq : ∀ r st', At st' ((r, .list vs) :: L) → R (.ref r) st') : Post (mkList vs st) R :=
  ⟨_, _, if_pos hn, hq _ _ h.alloc⟩
theorem P_alloc {o : O} (h : At st L) (hq : ∀ r st', At st' ((r, o) :: L) → R (.ref r) st') : Post (alloc o st) R := ⟨_, _, rfl, hq _ _ h.alloc⟩
theorem P_itemT {k : Int} (e : getI vs k = some v) (hq : R v st) : Post (getItemV (.tup vs) (.int k) st) R := ⟨v, st, by unfold getItemV; simp only [e]; rfl, hq⟩
theorem P_itemL {k : Int} (h : At st L) (hi : L[i]? = some (a, .list vs)) (e : getI vs k = some v) (hq : R v st) : Post (getItemV (.ref a) (.int k) st) R :=
  ⟨v, st, by unfold getItemV; simp only [h.get hi, e]; rfl, hq⟩
theorem P_itemD (h : At st L) (hi : L[i]? = some (a, .dict kvs)) (e : kvs.lookup x = some v) (hq : R v st) : Post (getItemV (.ref a) (.str x) st) R :=
  ⟨v, st, by unfold getItemV; simp only [h.get hi, e]; rfl, hq⟩
theorem P_sliceL {l u : V} {lo hi' : Option Nat} (h : At st L) (hi : L[i]? = some (a, .list vs)) (hl : bnd l = some lo) (hu : bnd u = some hi') (hn : vs.length ≤ 4096)
    (hq : ∀ r st', At st' ((r, .list (cut vs lo hi')) :: L) → R (.ref r) st') : Post (getSliceV (.ref a) l u st) R := by
  unfold getSliceV
  rw [hl, hu]
  simp only [Option.bind_some]
  rw [h.get hi]
  refine P_mkList h ?_ hq
  unfold cut
  simp only [List.length_take, List.length_drop]
  omega
theorem P_sliceF {l u : V} {lo hi' : Option Nat} (h : At st L) (hl : bnd l = some lo) (hu : bnd u = some hi') (hn : vs.length ≤ 4096)
    (hq : ∀ r st', At st' ((r, .list (cut vs lo hi')) :: L) → R (.ref r) st') : Post (getSliceV (.froz vs) l u st) R := by
  unfold getSliceV
  rw [hl, hu]
  simp only [Option.bind_some]
  refine P_mkList h ?_ hq
  unfold cut
  simp only [List.length_take, List.length_drop]
  omega
theorem P_setL {k : Int} (h : At st L) (hi : L[i]? = some (a, .list vs)) (e : place k vs.length = some j) (hq : ∀ st', At st' (L.set i (a, .list (vs.set j v))) → Y st') : PostO (setItemV (.ref a) (.int k) v st) Y :=
  ⟨_, by unfold setItemV; simp only [h.get hi, e]; rfl, hq _ (h.upd hi)⟩
theorem P_setD (h : At st L) (hi : L[i]? = some (a, .dict kvs)) (e : (kvs.lookup x).isSome = true) (hq : ∀ st', At st' (L.set i (a, .dict (setL x v kvs))) → Y st') : PostO (setItemV (.ref a) (.str x) v st) Y :=
  ⟨_, by unfold setItemV; simp only [h.get hi, e]; rfl, hq _ (h.upd hi)⟩
theorem P_setSlice {l u : V} {lo hi' : Option Nat} (h : At st L) (hi : L[i]? = some (a, .list vs)) (hj : L[j]? = some (b, .list ws)) (hij : i ≠ j) (hl : bnd l = some lo) (hu : bnd u = some hi') (hn : vs.length + ws.length ≤ 4096)
    (hq : ∀ st', At st' (L.set i (a, .list (splice vs lo hi' ws))) → Y st') : PostO (setSliceV (.ref a) l u (.ref b) st) Y := by
  refine ⟨_, ?_, hq _ (h.upd hi)⟩
  unfold setSliceV
  rw [hl, hu]
  simp only [Option.bind_some]
  rw [h.get hi, h.get hj]
  exact if_pos ⟨h.ne hi hj hij, hn⟩
theorem P_attr (h : At st L) (hi : L[i]? = some (a, .inst kvs)) (hx : x = Str.ofString "cells" ∨ x = Str.ofString "is_wrapped" ∨ x = Str.ofString "size") (e : kvs.lookup x = some v) (hq : R v st) : Post (getAttrV (.ref a) x st) R :=
  ⟨v, st, by unfold getAttrV; simp only [h.get hi, if_pos hx, e]; rfl, hq⟩
theorem P_setattr (h : At st L) (hi : L[i]? = some (a, .inst kvs)) (hx : x = Str.ofString "cells" ∨ x = Str.ofString "is_wrapped" ∨ x = Str.ofString "size") (e : (setL x v kvs).length ≤ 100)
    (hq : ∀ st', At st' (L.set i (a, .inst (setL x v kvs))) → Y st') : PostO (setAttrV (.ref a) x v st) Y :=
  ⟨_, by unfold setAttrV; simp only [h.get hi]; exact if_pos ⟨hx, e⟩, hq _ (h.upd hi)⟩
theorem P_addL (h : At st L) (hi : L[i]? = some (a, .list vs)) (hj : L[j]? = some (b, .list ws)) (hn : vs.length + ws.length ≤ 4096) (hq : ∀ r st', At st' ((r, .list (vs ++ ws)) :: L) → R (.ref r) st') : Post (binV .Add (.ref a) (.ref b) st) R := by
  have e : binV .Add (.ref a) (.ref b) st = mkList (vs ++ ws) st := by
    unfold binV
    simp only [h.get hi, h.get hj]
  rw [e]
  exact P_mkList h (by rw [List.length_append]; exact hn) hq
theorem P_mulL {k : Int} (h : At st L) (hi : L[i]? = some (a, .list [v])) (hn : k ≤ 4096 ∧ -(2 ^ 63) ≤ k) (hq : ∀ r st', At st' ((r, .list (List.replicate k.toNat v)) :: L) → R (.ref r) st') : Post (binV .Mult (.ref a) (.int k) st) R := by
  have e : binV .Mult (.ref a) (.int k) st = mkList (List.replicate k.toNat v) st := by
    unfold binV
    simp only [h.get hi]
    rw [if_pos hn]
  rw [e]
  exact P_mkList h (by rw [List.length_replicate]; omega) hq
theorem b_max {p q : Int} (h : R (.int (max p q)) st) : Post (callBi C .max [.int p, .int q] st) R := p_some h
theorem b_min {p q : Int} (h : R (.int (min p q)) st) : Post (callBi C .min [.int p, .int q] st) R := p_some h
theorem b_int {p : Int} (h : R (.int p) st) : Post (callBi C .int [.int p] st) R := p_some h
theorem P_len (h : At st L) (hi : L[i]? = some (a, .list vs)) (hq : R (.int vs.length) st) : Post (callBi C .len [.ref a] st) R :=
  ⟨_, st, by show (match st[a]? with | some (.list vs) => some (V.int vs.length, st) | _ => none) = _; rw [h.get hi], hq⟩
theorem P_listR (h : At st L) (hi : L[i]? = some (a, .list vs)) (hn : vs.length ≤ 4096) (hq : ∀ r st', At st' ((r, .list vs) :: L) → R (.ref r) st') : Post (callBi C .list [.ref a] st) R := by
  have e : callBi C .list [.ref a] st = mkList vs st := by
    show (match st[a]? with | some (.list vs) => mkList vs st | _ => none) = _; rw [h.get hi]
  rw [e]
  exact P_mkList h hn hq
theorem P_listT (h : At st L) (hn : vs.length ≤ 4096) (hq : ∀ r st', At st' ((r, .list vs) :: L) → R (.ref r) st') : Post (callBi C .list [.tup vs] st) R := P_mkList (vs := vs) h hn hq
theorem P_extT (h : At st L) (hi : L[i]? = some (a, .list vs)) (hn : vs.length + ws.length ≤ 4096) (hq : ∀ st', At st' (L.set i (a, .list (vs ++ ws))) → R .none st') : Post (callMe C (.list .extend a) [.tup ws] st) R :=
  ⟨_, _, by unfold callMe; simp only [h.get hi]; exact if_pos hn, hq _ (h.upd hi)⟩
theorem P_extR (h : At st L) (hi : L[i]? = some (a, .list vs)) (hj : L[j]? = some (b, .list ws)) (hn : vs.length + ws.length ≤ 4096) (hq : ∀ st', At st' (L.set i (a, .list (vs ++ ws))) → R .none st') : Post (callMe C (.list .extend a) [.ref b] st) R :=
  ⟨_, _, by unfold callMe; simp only [h.get hi, h.get hj]; exact if_pos hn, hq _ (h.upd hi)⟩
theorem P_app (h : At st L) (hi : L[i]? = some (a, .list vs)) (hn : vs.length ≤ 4096) (hq : ∀ st', At st' (L.set i (a, .list (vs ++ [v]))) → R .none st') : Post (callMe C (.list .append a) [v] st) R :=
  ⟨_, _, by unfold callMe; simp only [h.get hi]; exact if_pos hn, hq _ (h.upd hi)⟩
theorem P_pop (h : At st L) (hi : L[i]? = some (a, .list vs)) (e : vs.getLast? = some v) (hq : ∀ st', At st' (L.set i (a, .list vs.dropLast)) → R v st') : Post (callMe C (.list .pop a) [] st) R :=
  ⟨_, _, by unfold callMe; simp only [h.get hi, e], hq _ (h.upd hi)⟩
theorem P_pop0 (h : At st L) (hi : L[i]? = some (a, .list (v :: vs))) (hq : ∀ st', At st' (L.set i (a, .list vs)) → R v st') : Post (callMe C (.list .pop a) [.int 0] st) R :=
  ⟨_, _, by unfold callMe; simp only [h.get hi], hq _ (h.upd hi)⟩
theorem m_own {f : Fn} {args : List V} (h : Post (C f (.ref a :: args) st) R) : Post (callMe C (.own f a) args st) R := h
theorem P_methI {f : Fn} {K : Me → Prop} (h : At st L) (hi : L[i]? = some (a, .inst kvs)) (hx : meths.lookup x = some f) (e : (kvs.lookup x).isNone = true) (hq : K (.own f a)) : PostO (methV (.ref a) x st) K :=
  ⟨_, by unfold methV; simp only [h.get hi, e, if_true, hx]; rfl, hq⟩
theorem P_methL {m : Lm} {K : Me → Prop} (h : At st L) (hi : L[i]? = some (a, .list vs)) (hx : lms.lookup x = some m) (hq : K (.list m a)) : PostO (methV (.ref a) x st) K :=
  ⟨_, by unfold methV; simp only [h.get hi, hx]; rfl, hq⟩
theorem P_itemsR {K : List V × Option (Nat × List V) → Prop} (h : At st L) (hi : L[i]? = some (a, .list vs)) (hq : K (vs, some (a, vs))) : PostO (itemsV (.ref a) st) K :=
  ⟨_, by unfold itemsV; simp only [h.get hi], hq⟩
theorem i_tup {K : List V × Option (Nat × List V) → Prop} : K (vs, none) → PostO (itemsV (.tup vs) st) K := fun h => ⟨_, rfl, h⟩
theorem P_enum {K : List V × Option (Nat × List V) → Prop} (h : At st L) (hi : L[i]? = some (a, .list vs)) (hq : K (enumV 0 vs, some (a, vs))) : PostO (enumOf (.ref a) st) K :=
  ⟨_, by unfold enumOf; simp only [h.get hi], hq⟩
theorem P_line {args : List V} (h : At st L) (hq : ∀ r st', At st' ((r, .inst []) :: L) → Post (C .m_init (.ref r :: args) st') fun v st'' => v = .none ∧ R (.ref r) st'') : Post (callBi C .line args st) R := by
  refine p_eq (y := bd (C .m_init (.ref st.length :: args) (st ++ [.inst []])) fun v st' => (match v with | .none => some (.ref st.length, st') | _ => none)) rfl (p_bd ((hq _ _ h.alloc).mono fun v s q => ?_))
  obtain ⟨rfl, q⟩ := q
  exact p_some q
theorem bnd_none : bnd .none = some none := rfl
theorem bnd_nat {k : Nat} : bnd (.int (k : Int)) = some (some k) := by
  unfold bnd
  simp only
  rw [if_pos (Int.natCast_nonneg k), Int.toNat_natCast]
theorem bnd_int {k : Int} {m : Nat} (e : k = m) : bnd (.int k) = some (some m) := by subst e; exact bnd_nat
theorem place_nat {k : Int} {m n : Nat} (e : k = m) (h : m < n) : place k n = some m := by
  subst e
  unfold place
  rw [if_pos (Int.natCast_nonneg m), if_pos (by omega), Int.toNat_natCast]
theorem getI_nat {k : Int} {m : Nat} (e : k = m) (h : vs[m]? = some v) : getI vs k = some v := by
  unfold getI
  rw [place_nat e (List.getElem?_eq_some_iff.mp h).1]
  exact h
theorem place_last {n : Nat} (h : 0 < n) : place (-1) n = some (n - 1) := by
  unfold place
  rw [if_neg (by omega), if_pos (by omega)]
  congr 1; omega
theorem getI_last (h : vs.getLast? = some v) : getI vs (-1) = some v := by
  have hn : 0 < vs.length := by
    cases vs with
    | nil => simp at h
    | cons a t => simp
  unfold getI
  rw [place_last hn, Option.bind_some, ← List.getLast?_eq_getElem? (l := vs)]
  exact h

/-! loops -/
theorem sameL_held {st : St} {L : Held} (h : At st L) (hi : L[i]? = some (a, .list vs)) (hs : eqbs vs vs = true) : sameL st (some (a, vs)) = true := by
  show (match st[a]? with | some (.list ws) => eqbs ws vs | _ => false) = true
  rw [h.get hi]; exact hs
mutual
theorem eqb_rfl : ∀ v : V, v.eqb v = true
  | .none => rfl
  | .bool b => beq_self_eq_true b
  | .int i => decide_eq_true rfl
  | .str s => decide_eq_true rfl
  | .tup a => eqbs_rfl a
  | .ref a => decide_eq_true rfl
  | .froz a => eqbs_rfl a
theorem eqbs_rfl : ∀ vs : List V, eqbs vs vs = true
  | [] => rfl
  | v :: vs => by rw [eqbs, eqb_rfl v, eqbs_rfl vs]; rfl
end
theorem l_nil {bindv : V → Loc → Option Loc} {body : Loc → St → Option ((Fl × Loc) × St)} {F : Fl × Loc → St → Prop} {loc : Loc} (h : F (.next, loc) st) : Post (forL none bindv body [] loc st) F := by
  rw [forL, if_pos (show sameL st none = true from rfl)]; exact p_some h
theorem l_cons {bindv : V → Loc → Option Loc} {body : Loc → St → Option ((Fl × Loc) × St)} {F : Fl × Loc → St → Prop} {loc loc' : Loc} {rest : List V} (h1 : bindv v loc = some loc') (h : Post (body loc' st) fun fl st => kont fl (fun l => Post (forL none bindv body rest l st) F) (fun v l => F (.ret v, l) st)) : Post (forL none bindv body (v :: rest) loc st) F := by
  rw [forL, if_pos (show sameL st none = true from rfl), h1]
  refine p_bd (h.mono fun fl st q => ?_)
  obtain ⟨f, l⟩ := fl
  cases f with
  | next => exact q
  | ret v => exact p_some q
theorem bindT_name {sc : Sc} {x : Str} {p : Pos} {loc : Loc} (h : isLocal sc x = true) : bindT sc (.Name x p) v loc = some (setL x v loc) := by
  show (if isLocal sc x then some (setL x v loc) else none) = _
  rw [h]; rfl
theorem bindT_tup {sc : Sc} {x y : Str} {p q r : Pos} {k : Nat} {loc : Loc} (h : (isLocal sc x && isLocal sc y) = true) : bindT sc (.Tuple [.Name x p, .Name y q] k r) (.tup [v, u]) loc = some (setL y u (setL x v loc)) := by
  rw [Bool.and_eq_true] at h
  show (if isLocal sc x then (if isLocal sc y then some (setL y u (setL x v loc)) else none) else none) = _
  rw [h.1, h.2]; rfl
theorem bn_nil {sc : Sc} {loc : Loc} : bindNames sc [] [] loc = some loc := rfl
theorem bn_cons {sc : Sc} {loc : Loc} {o : Option Loc} {x : Str} {p : Pos} {es : List Expr} (h : isLocal sc x = true) (h2 : bindNames sc es vs (setL x v loc) = o) : bindNames sc (.Name x p :: es) (v :: vs) loc = o := by
  show (if isLocal sc x then bindNames sc es vs (setL x v loc) else none) = _
  rw [h]; exact h2
/-- a for loop by what holds between its turns -/
theorem P_for {src : Option (Nat × List V)} {bindv : V → Loc → Option Loc} {body : Loc → St → Option ((Fl × Loc) × St)} {F : Fl × Loc → St → Prop} (I : List V → Loc → St → Prop)
    (hs : ∀ its loc st, I its loc st → sameL st src = true)
    (hstep : ∀ v rest loc st, I (v :: rest) loc st → ∃ loc', bindv v loc = some loc' ∧ Post (body loc' st) fun fl st => kont fl (fun l => I rest l st) (fun v l => F (.ret v, l) st))
    (hend : ∀ loc st, I [] loc st → F (.next, loc) st) : ∀ (its : List V) (loc : Loc) (st : St), I its loc st → Post (forL src bindv body its loc st) F
  | [], loc, st, h => by
    rw [forL, if_pos (hs _ _ _ h)]; exact p_some (hend _ _ h)
  | v :: rest, loc, st, h => by
    obtain ⟨loc', e, p⟩ := hstep v rest loc st h
    rw [forL, if_pos (hs _ _ _ h), e]
    refine p_bd (p.mono fun fl st q => ?_)
    obtain ⟨f, l⟩ := fl
    cases f with
    | next => exact P_for I hs hstep hend rest l st q
    | ret v => exact p_some q
/-- a while loop by what holds and by a count that falls -/
theorem P_while {test : Loc → St → Option (Bool × St)} {body : Loc → St → Option ((Fl × Loc) × St)} {F : Fl × Loc → St → Prop} (I : Nat → Loc → St → Prop)
    (hstep : ∀ k loc st, I k loc st → Post (test loc st) fun b st => if b then 0 < k ∧ Post (body loc st) fun fl st => kont fl (fun l => I (k - 1) l st) (fun v l => F (.ret v, l) st) else F (.next, loc) st) :
    ∀ (n k : Nat) (loc : Loc) (st : St), k < n → I k loc st → Post (whileL test body n loc st) F
  | 0, k, _, _, hk, _ => absurd hk (Nat.not_lt_zero _)
  | n + 1, k, loc, st, hk, h => by
    rw [whileL]
    refine p_bd ((hstep k loc st h).mono fun b st q => ?_)
    cases b with
    | false => exact p_some q
    | true =>
      refine p_bd (Post.mono (And.right q) fun fl st q' => ?_)
      obtain ⟨f, l⟩ := fl
      cases f with
      | next => exact P_while I hstep n (k - 1) l st (by have : 0 < k := And.left q; omega) q'
      | ret v => exact p_some q'
theorem P_comp {src : Option (Nat × List V)} {bindv : V → Loc → Option Loc} {test : Loc → St → Option (Bool × St)} {elt : Loc → St → Option (V × St)} {F : List V → St → Prop} (I : List V → Loc → List V → St → Prop)
    (hs : ∀ its loc acc st, I its loc acc st → sameL st src = true)
    (hstep : ∀ v rest loc acc st, I (v :: rest) loc acc st → ∃ loc', bindv v loc = some loc' ∧ Post (test loc' st) fun b st => if b then Post (elt loc' st) fun u st => I rest loc' (acc ++ [u]) st else I rest loc' acc st)
    (hend : ∀ loc acc st, I [] loc acc st → F acc st) : ∀ (its : List V) (loc : Loc) (acc : List V) (st : St), I its loc acc st → Post (compL src bindv test elt its loc acc st) F
  | [], loc, acc, st, h => by
    rw [compL, if_pos (hs _ _ _ _ h)]; exact p_some (hend _ _ _ h)
  | v :: rest, loc, acc, st, h => by
    obtain ⟨loc', e, p⟩ := hstep v rest loc acc st h
    rw [compL, if_pos (hs _ _ _ _ h), e]
    refine p_bd (p.mono fun b st q => ?_)
    cases b with
    | false => exact P_comp I hs hstep hend rest loc' acc st q
    | true => exact p_bd (Post.mono q fun u st q' => P_comp I hs hstep hend rest loc' _ st q')
end
end Mine

set_option autoImplicit false
set_option linter.unusedVariables false
set_option maxRecDepth 10000
namespace Mine
open PySem

/-! ## cells -/
structure Cell where
  code : Option Int
  w : Int
  b : Int
  g : Int
  deriving DecidableEq
noncomputable def codeV : Option Int → V
  | none => .tup []
  | some k => .tup [.int k]
noncomputable def pv (b g : Int) : V := .tup [.int b, .int (-1), .int g, .int (-1), .int 0]
noncomputable def cv (c : Cell) : V := .tup [codeV c.code, .int c.w, pv c.b c.g, .bool false]
noncomputable def blankC (g : Int) : Cell := ⟨none, 1, 0, g⟩
noncomputable def halfC (c : Cell) : Cell := ⟨none, 0, c.b, c.g⟩
noncomputable def codeD : Option Int → PyData
  | none => .tuple []
  | some k => .tuple [.int k]
noncomputable def pd (b g : Int) : PyData := .tuple [.int b, .int (-1), .int g, .int (-1), .int 0]
noncomputable def cd (c : Cell) : PyData := .tuple [codeD c.code, .int c.w, pd c.b c.g, .bool false]
theorem py_code {st : St} (o : Option Int) : toPy st 3 (codeV o) = some (codeD o) := by cases o <;> rfl
theorem py_code4 {st : St} (o : Option Int) : toPy st 4 (codeV o) = some (codeD o) := by cases o <;> rfl
theorem py_cell {st : St} (c : Cell) : toPy st 4 (cv c) = some (cd c) := by
  unfold cv
  rw [toPy, toPys, py_code, toPys, toPy, toPys, show toPy st 3 (pv c.b c.g) = some (pd c.b c.g) from rfl, toPys, toPy, toPys]
  rfl
theorem py_cells {st : St} : ∀ cs : List Cell, toPys st 4 (cs.map cv) = some (cs.map cd)
  | [] => rfl
  | c :: cs => by rw [List.map_cons, toPys, py_cell, py_cells cs]; rfl
theorem py_ints {st : St} : ∀ is : List Int, toPys st 4 (is.map .int) = some (is.map .int)
  | [] => rfl
  | i :: is => by rw [List.map_cons, toPys, toPy, py_ints is]; rfl
theorem eqv_code (o p : Option Int) : PyData.eqv (codeD o) (codeD p) = decide (o = p) := by
  cases o with
  | none => cases p <;> simp [codeD, PyData.eqv, PyData.eqvAll]
  | some a =>
    cases p with
    | none => simp [codeD, PyData.eqv, PyData.eqvAll]
    | some b => simp [codeD, PyData.eqv, PyData.eqvAll, Bool.beq_eq_decide_eq]
theorem eqv_cell (c d : Cell) : PyData.eqv (cd c) (cd d) = decide (c = d) := by
  obtain ⟨c1, c2, c3, c4⟩ := c
  obtain ⟨d1, d2, d3, d4⟩ := d
  simp only [cd, pd, PyData.eqv, PyData.eqvAll, eqv_code, Cell.mk.injEq, Bool.and_true, beq_self_eq_true, Bool.decide_and, Bool.beq_eq_decide_eq, Bool.true_and]
theorem eqv_cells : ∀ cs ds : List Cell, PyData.eqvAll (cs.map cd) (ds.map cd) = decide (cs = ds)
  | [], [] => by simp [PyData.eqvAll]
  | [], _ :: _ => by simp [PyData.eqvAll]
  | _ :: _, [] => by simp [PyData.eqvAll]
  | c :: cs, d :: ds => by simp only [List.map_cons, PyData.eqvAll, eqv_cell, eqv_cells cs ds, List.cons.injEq, Bool.decide_and]
theorem eqv_ints : ∀ cs ds : List Int, PyData.eqvAll (cs.map .int) (ds.map .int) = decide (cs = ds)
  | [], [] => by simp [PyData.eqvAll]
  | [], _ :: _ => by simp [PyData.eqvAll]
  | _ :: _, [] => by simp [PyData.eqvAll]
  | c :: cs, d :: ds => by simp only [List.map_cons, PyData.eqvAll, PyData.eqv, eqv_ints cs ds, List.cons.injEq, Bool.decide_and, Bool.beq_eq_decide_eq]

section
variable {C : CallT} {st : St} {L : Held} {a b i j : Nat} {c d : Cell} {cs ds : List Cell} {is js : List Int} {R : V → St → Prop} {K : Bool → Prop}
theorem eqV_of {x y : V} {p q : PyData} (hx : toPy2 st 4 x = some p) (hy : toPy2 st 4 y = some q) : cmpV .Eq x y st = some (PyData.eqv p q) := by
  show eqV st x y = _
  unfold eqV
  rw [hx, hy]
theorem neV_of {x y : V} {p : Bool} (h : cmpV .Eq x y st = some p) : cmpV .NotEq x y st = some (!p) := by
  show (cmpV .Eq x y st).map (!·) = _
  rw [h]; rfl
theorem toPys1_of : ∀ {vs : List V} {ps : List PyData}, toPys st 4 vs = some ps → (∀ v ∈ vs, ∀ a, v ≠ .ref a) → toPys1 st 4 vs = some ps
  | [], ps, h, _ => h
  | v :: vs, ps, h, hn => by
    rw [toPys] at h
    rw [toPys1]
    have hv : toPy1 st 4 v = toPy st 4 v := by
      have := hn v (.head _)
      cases v <;> first | rfl | exact absurd rfl (this _)
    rw [hv]
    cases h1 : toPy st 4 v with
    | none => rw [h1] at h; cases h
    | some p =>
      cases h2 : toPys st 4 vs with
      | none => rw [h1, h2] at h; cases h
      | some qs =>
        rw [h1, h2] at h
        rw [toPys1_of h2 fun v m => hn v (.tail _ m)]
        exact h
theorem py2_code (o : Option Int) : toPy2 st 4 (codeV o) = some (codeD o) := by cases o <;> rfl
theorem py2_cell (c : Cell) : toPy2 st 4 (cv c) = some (cd c) := by
  show (toPys1 st 4 [codeV c.code, .int c.w, pv c.b c.g, .bool false]).map PyData.tuple = _
  rw [toPys1, toPys1, toPys1, toPys1, toPys1]
  rw [show toPy1 st 4 (codeV c.code) = some (codeD c.code) by cases c.code <;> rfl]
  rfl
theorem C_code {o : Option Int} : cmpV .Eq (codeV o) (.tup []) st = some (decide (o = none)) := by
  exact (eqV_of (py2_code o) (py2_code none)).trans (by rw [eqv_code])
theorem C_codeNe {o : Option Int} : cmpV .NotEq (codeV o) (.tup []) st = some (!decide (o = none)) := neV_of C_code
theorem C_cell : cmpV .Eq (cv c) (cv d) st = some (decide (c = d)) := by rw [eqV_of (py2_cell c) (py2_cell d), eqv_cell]
theorem C_cellNe : cmpV .NotEq (cv c) (cv d) st = some (!decide (c = d)) := neV_of C_cell
theorem P_eqC (h : At st L) (hi : L[i]? = some (a, .list (cs.map cv))) (hj : L[j]? = some (b, .list (ds.map cv))) (hq : K (decide (cs = ds))) : PostO (cmpV .Eq (.ref a) (.ref b) st) K := by
  refine ⟨_, eqV_of (p := .list (cs.map cd)) (q := .list (ds.map cd)) ?_ ?_, ?_⟩
  · show (match st[a]? with | some (.list vs) => (toPys st 4 vs).map PyData.list | _ => none) = _
    rw [h.get hi]; simp only [py_cells]; rfl
  · show (match st[b]? with | some (.list vs) => (toPys st 4 vs).map PyData.list | _ => none) = _
    rw [h.get hj]; simp only [py_cells]; rfl
  · rw [PyData.eqv, eqv_cells]; exact hq
theorem P_neC (h : At st L) (hi : L[i]? = some (a, .list (cs.map cv))) (hj : L[j]? = some (b, .list (ds.map cv))) (hq : K (!decide (cs = ds))) : PostO (cmpV .NotEq (.ref a) (.ref b) st) K := by
  obtain ⟨x, e, rfl⟩ := P_eqC (K := fun x => x = decide (cs = ds)) h hi hj rfl
  exact ⟨_, neV_of e, hq⟩
theorem P_eqI (h : At st L) (hi : L[i]? = some (a, .list (is.map .int))) (hj : L[j]? = some (b, .list (js.map .int))) (hq : K (decide (is = js))) : PostO (cmpV .Eq (.ref a) (.ref b) st) K := by
  refine ⟨_, eqV_of (p := .list (is.map .int)) (q := .list (js.map .int)) ?_ ?_, ?_⟩
  · show (match st[a]? with | some (.list vs) => (toPys st 4 vs).map PyData.list | _ => none) = _
    rw [h.get hi]; simp only [py_ints]; rfl
  · show (match st[b]? with | some (.list vs) => (toPys st 4 vs).map PyData.list | _ => none) = _
    rw [h.get hj]; simp only [py_ints]; rfl
  · rw [PyData.eqv, eqv_ints]; exact hq
theorem P_neI (h : At st L) (hi : L[i]? = some (a, .list (is.map .int))) (hj : L[j]? = some (b, .list (js.map .int))) (hq : K (!decide (is = js))) : PostO (cmpV .NotEq (.ref a) (.ref b) st) K := by
  obtain ⟨x, e, rfl⟩ := P_eqI (K := fun x => x = decide (is = js)) h hi hj rfl
  exact ⟨_, neV_of e, hq⟩
theorem i_cv0 (h : R (codeV c.code) st) : Post (getItemV (cv c) (.int 0) st) R := p_eq (y := some (codeV c.code, st)) rfl (p_some h)
theorem i_cv1 (h : R (.int c.w) st) : Post (getItemV (cv c) (.int 1) st) R := p_eq (y := some (.int c.w, st)) rfl (p_some h)
theorem i_cv2 (h : R (pv c.b c.g) st) : Post (getItemV (cv c) (.int 2) st) R := p_eq (y := some (pv c.b c.g, st)) rfl (p_some h)
theorem i_cv3 (h : R (.bool false) st) : Post (getItemV (cv c) (.int 3) st) R := p_eq (y := some (.bool false, st)) rfl (p_some h)
theorem i_pv2 {b g : Int} (h : R (.int g) st) : Post (getItemV (pv b g) (.int 2) st) R := p_eq (y := some (.int g, st)) rfl (p_some h)
theorem q_code {o : Option Int} (h : K (decide (o = none))) : PostO (cmpV .Eq (codeV o) (.tup []) st) K := po_eq C_code h
theorem q_codeNe {o : Option Int} (h : K (!decide (o = none))) : PostO (cmpV .NotEq (codeV o) (.tup []) st) K := po_eq C_codeNe h
theorem q_cell (h : K (decide (c = d))) : PostO (cmpV .Eq (cv c) (cv d) st) K := po_eq C_cell h
theorem q_cellNe (h : K (!decide (c = d))) : PostO (cmpV .NotEq (cv c) (cv d) st) K := po_eq C_cellNe h
theorem P_lenC (h : At st L) (hi : L[i]? = some (a, .list (cs.map cv))) (hq : R (.int cs.length) st) : Post (callBi C .len [.ref a] st) R := P_len h hi (by rw [List.length_map]; exact hq)
theorem P_cellAt {k : Int} {m : Nat} (h : At st L) (hi : L[i]? = some (a, .list (cs.map cv))) (e : k = m) (hc : cs[m]? = some c) (hq : R (cv c) st) : Post (getItemV (.ref a) (.int k) st) R :=
  P_itemL h hi (getI_nat e (by rw [List.getElem?_map, hc]; rfl)) hq
end

theorem dt {p : Prop} {i : Decidable p} (h : p) : @decide p i = true := decide_eq_true h
theorem df {p : Prop} {i : Decidable p} (h : ¬ p) : @decide p i = false := decide_eq_false h
theorem nt {b : Bool} (h : b = false) : (!b) = true := by rw [h]; rfl
theorem nf {b : Bool} (h : b = true) : (!b) = false := by rw [h]; rfl
theorem at' {b : Bool} (h : b = true) : goesOn .And b = true := h
theorem af {b : Bool} (h : b = false) : goesOn .And b = false := h
theorem ot {b : Bool} (h : b = false) : goesOn .Or b = true := nt h
theorem of' {b : Bool} (h : b = true) : goesOn .Or b = false := nf h
theorem tl_clamp : tops.lookup (Str.ofString "clamp") = some .clamp := by kernel_rfl
theorem tl_erased_pen : tops.lookup (Str.ofString "erased_pen") = some .erased_pen := by kernel_rfl
theorem tl_blank_cell : tops.lookup (Str.ofString "blank_cell") = some .blank_cell := by kernel_rfl
theorem tl_is_blank : tops.lookup (Str.ofString "is_blank") = some .is_blank := by kernel_rfl
theorem tl_is_plain_blank : tops.lookup (Str.ofString "is_plain_blank") = some .is_plain_blank := by kernel_rfl
theorem tl_line_blanks : tops.lookup (Str.ofString "line_blanks") = some .line_blanks := by kernel_rfl
theorem tl_right_half : tops.lookup (Str.ofString "right_half") = some .right_half := by kernel_rfl
theorem tl_line_part : tops.lookup (Str.ofString "line_part") = some .line_part := by kernel_rfl
theorem tl_line_slice : tops.lookup (Str.ofString "line_slice") = some .line_slice := by kernel_rfl
theorem tl_line_codes : tops.lookup (Str.ofString "line_codes") = some .line_codes := by kernel_rfl
theorem tl_deck : tops.lookup (Str.ofString "_law_deck") = some .deck := by kernel_rfl
theorem tl_draw : tops.lookup (Str.ofString "_law_draw") = some .draw := by kernel_rfl
theorem tl_pen : tops.lookup (Str.ofString "_law_pen") = some .pen := by kernel_rfl
theorem tl_sign : tops.lookup (Str.ofString "_law_sign") = some .sign := by kernel_rfl
theorem tl_lpart : tops.lookup (Str.ofString "_law_part") = some .lpart := by kernel_rfl
theorem tl_lput : tops.lookup (Str.ofString "_law_put") = some .lput := by kernel_rfl
theorem tl_deed : tops.lookup (Str.ofString "_law_deed") = some .deed := by kernel_rfl
theorem tl_lcodes : tops.lookup (Str.ofString "_law_codes") = some .lcodes := by kernel_rfl
theorem tl_lused : tops.lookup (Str.ofString "_law_used") = some .lused := by kernel_rfl
theorem bl_max : bis.lookup (Str.ofString "max") = some .max := by kernel_rfl
theorem bl_min : bis.lookup (Str.ofString "min") = some .min := by kernel_rfl
theorem bl_len : bis.lookup (Str.ofString "len") = some .len := by kernel_rfl
theorem bl_list : bis.lookup (Str.ofString "list") = some .list := by kernel_rfl
theorem bl_int : bis.lookup (Str.ofString "int") = some .int := by kernel_rfl
theorem bl_line : bis.lookup (Str.ofString "Line") = some .line := by kernel_rfl
theorem gl_plain : globs.lookup (Str.ofString "PLAIN") = some (pv 0 (-1)) := by kernel_rfl
theorem gl_no : globs.lookup (Str.ofString "NO_COLOUR") = some (.int (-1)) := by kernel_rfl
theorem gl_back : globs.lookup (Str.ofString "BACK") = some (.int 2) := by kernel_rfl
theorem gl_sizes : globs.lookup (Str.ofString "LINE_SIZES") = some (.tup [.str (Str.ofString "single"), .str (Str.ofString "wide"), .str (Str.ofString "top"), .str (Str.ofString "bottom")]) := by kernel_rfl
theorem perm_erase {α : Type} : ∀ {l : List α} {i : Nat} {x : α}, l[i]? = some x → (x :: l.eraseIdx i).Perm l
  | [], _, _, h => by simp at h
  | y :: l, 0, x, h => by
    simp only [List.getElem?_cons_zero, Option.some.injEq] at h
    subst h
    exact .refl _
  | y :: l, i + 1, x, h => by
    rw [List.eraseIdx_cons_succ]
    exact (List.Perm.swap y x _).trans ((perm_erase (l := l) (i := i) (by simpa using h)).cons y)
theorem At.focus {st : St} {L : Held} {i a : Nat} {o : O} (h : At st L) (hi : L[i]? = some (a, o)) : At st ((a, o) :: L.eraseIdx i) := by
  have hp := perm_erase hi
  exact ⟨fun p m => h.1 p (hp.subset m), (hp.map _).nodup_iff.mpr h.2⟩
section
variable {α : Type} {a0 a1 a2 a3 a4 a5 a6 a7 a8 a9 : α} {l : List α}
theorem ix0 : (a0 :: l)[0]? = some a0 := rfl
theorem ix1 : (a0 :: a1 :: l)[1]? = some a1 := rfl
theorem ix2 : (a0 :: a1 :: a2 :: l)[2]? = some a2 := rfl
theorem ix3 : (a0 :: a1 :: a2 :: a3 :: l)[3]? = some a3 := rfl
theorem ix4 : (a0 :: a1 :: a2 :: a3 :: a4 :: l)[4]? = some a4 := rfl
theorem ix5 : (a0 :: a1 :: a2 :: a3 :: a4 :: a5 :: l)[5]? = some a5 := rfl
theorem ix6 : (a0 :: a1 :: a2 :: a3 :: a4 :: a5 :: a6 :: l)[6]? = some a6 := rfl
theorem ix7 : (a0 :: a1 :: a2 :: a3 :: a4 :: a5 :: a6 :: a7 :: l)[7]? = some a7 := rfl
theorem ix8 : (a0 :: a1 :: a2 :: a3 :: a4 :: a5 :: a6 :: a7 :: a8 :: l)[8]? = some a8 := rfl
theorem ix9 : (a0 :: a1 :: a2 :: a3 :: a4 :: a5 :: a6 :: a7 :: a8 :: a9 :: l)[9]? = some a9 := rfl
end
end Mine

set_option autoImplicit false
set_option linter.unusedVariables false
namespace Mine

/-! ## rows of cells: signs that stand whole -/
noncomputable def OkCode (o : Option Int) : Prop := ∀ k, o = some k → k ≠ 32 ∧ k ≠ 122
inductive WF : List Cell → Prop
  | nil : WF []
  | one {c : Cell} {r : List Cell} : c.w = 1 → OkCode c.code → WF r → WF (c :: r)
  | two {c : Cell} {r : List Cell} : c.w = 2 → c.code ≠ none → OkCode c.code → WF r → WF (c :: halfC c :: r)
/-- a blank in the place of a cut half -/
noncomputable def fx (k : Int) (c : Cell) : Cell := if c.w = k then blankC c.g else c
noncomputable def fixH : List Cell → List Cell
  | [] => []
  | c :: r => fx 0 c :: r
noncomputable def fixL : List Cell → List Cell
  | [] => []
  | [c] => [fx 2 c]
  | c :: d :: r => c :: fixL (d :: r)
noncomputable def cutC (cs : List Cell) (m : Nat) : List Cell := fixL (cs.take m) ++ fixH (cs.drop m)
noncomputable def over (cs : List Cell) (m : Nat) (s : List Cell) : List Cell := fixL (cs.take m) ++ s ++ fixH (cs.drop (m + s.length))

theorem fixH_len (l : List Cell) : (fixH l).length = l.length := by cases l <;> rfl
theorem fixL_len : ∀ l : List Cell, (fixL l).length = l.length
  | [] => rfl
  | [_] => rfl
  | c :: d :: r => by rw [fixL, List.length_cons, List.length_cons, fixL_len (d :: r)]
theorem fixL_snoc (d : Cell) : ∀ l : List Cell, fixL (l ++ [d]) = l ++ [fx 2 d]
  | [] => rfl
  | [c] => rfl
  | c :: e :: r => by
    show c :: fixL (e :: (r ++ [d])) = _
    have := fixL_snoc d (e :: r)
    rw [List.cons_append] at this
    rw [this]; rfl
theorem WF.append {l r : List Cell} (hl : WF l) (hr : WF r) : WF (l ++ r) := by
  induction hl with
  | nil => exact hr
  | one h1 h2 _ ih => exact .one h1 h2 ih
  | two h1 h2 h3 _ ih => exact .two h1 h2 h3 ih
theorem okBlank : OkCode none := fun _ h => nomatch h
theorem WF.blank {g : Int} {r : List Cell} (h : WF r) : WF (blankC g :: r) := .one rfl okBlank h
theorem WF.fx0 {c : Cell} {r : List Cell} (h : WF (c :: r)) : fx 0 c = c := by
  cases h with
  | one h _ _ => exact if_neg (by omega)
  | two h _ _ _ => exact if_neg (by omega)
theorem WF.fixH_id {l : List Cell} (h : WF l) : fixH l = l := by
  cases l with
  | nil => rfl
  | cons c r => rw [fixH, h.fx0]
theorem WF.fixL_id {l : List Cell} (h : WF l) : fixL l = l := by
  induction h with
  | nil => rfl
  | @one c r h1 _ hr ih =>
    cases r with
    | nil => rw [fixL, fx, if_neg (by omega)]
    | cons d r => rw [fixL, ih]
  | @two c r h1 _ _ hr ih =>
    rw [fixL]
    cases r with
    | nil => rw [fixL, fx, if_neg (by show (halfC c).w ≠ 2; unfold halfC; simp)]
    | cons d r => rw [fixL, ih]
/-- what a cut leaves on its left and on its right stands whole -/
theorem WF.cut {cs : List Cell} (h : WF cs) : ∀ m, WF (fixL (cs.take m)) ∧ WF (fixH (cs.drop m)) := by
  induction h with
  | nil => intro m; rw [List.take_nil, List.drop_nil]; exact ⟨.nil, .nil⟩
  | @one c r h1 h2 hr ih =>
    intro m
    cases m with
    | zero => exact ⟨.nil, by rw [List.drop_zero, (WF.one h1 h2 hr).fixH_id]; exact .one h1 h2 hr⟩
    | succ m =>
      rw [List.take_succ_cons, List.drop_succ_cons]
      refine ⟨?_, (ih m).2⟩
      have := (ih m).1
      cases e : r.take m with
      | nil => rw [fixL, fx, if_neg (by omega)]; exact .one h1 h2 .nil
      | cons d t => rw [e] at this; rw [fixL]; exact .one h1 h2 this
  | @two c r h1 h2 h3 hr ih =>
    intro m
    match m with
    | 0 => exact ⟨.nil, by rw [List.drop_zero, (WF.two h1 h2 h3 hr).fixH_id]; exact .two h1 h2 h3 hr⟩
    | 1 =>
      refine ⟨?_, ?_⟩
      · show WF [fx 2 c]
        rw [fx, if_pos h1]; exact .blank .nil
      · show WF (fx 0 (halfC c) :: r)
        rw [fx, if_pos (show (halfC c).w = 0 from rfl)]; exact .blank hr
    | m + 2 =>
      rw [List.take_succ_cons, List.take_succ_cons, List.drop_succ_cons, List.drop_succ_cons]
      refine ⟨?_, (ih m).2⟩
      have := (ih m).1
      rw [fixL]
      cases e : r.take m with
      | nil =>
        have e2 : fixL [halfC c] = [halfC c] := by rw [fixL, fx, if_neg (by show (halfC c).w ≠ 2; unfold halfC; simp)]
        rw [e2]; exact .two h1 h2 h3 .nil
      | cons d t => rw [e] at this; rw [fixL]; exact .two h1 h2 h3 this
theorem WF.cutC {cs : List Cell} (h : WF cs) (m : Nat) : WF (Mine.cutC cs m) := (h.cut m).1.append (h.cut m).2
theorem WF.over {cs : List Cell} (h : WF cs) (m : Nat) {s : List Cell} (hs : WF s) : WF (Mine.over cs m s) := ((h.cut m).1.append hs).append (h.cut _).2
theorem cutC_len (cs : List Cell) (m : Nat) : (cutC cs m).length = cs.length := by
  unfold cutC
  rw [List.length_append, fixL_len, fixH_len, List.length_take, List.length_drop]; omega
theorem over_len (cs : List Cell) (m : Nat) {s : List Cell} (hs : m + s.length ≤ cs.length) : (over cs m s).length = cs.length := by
  unfold over
  rw [List.length_append, List.length_append, fixL_len, fixH_len, List.length_take, List.length_drop]; omega
/-- two neighbours: the left is a wide sign's left half where the right is its right half -/
theorem WF.pair {cs : List Cell} (h : WF cs) : ∀ {l r : List Cell} {d c : Cell}, cs = l ++ d :: c :: r → (d.w = 2 ↔ c.w = 0) := by
  induction h with
  | nil => intro l r d c e; simp at e
  | @one a t h1 h2 ht ih =>
    intro l r d c e
    cases l with
    | nil =>
      simp only [List.nil_append, List.cons.injEq] at e
      obtain ⟨rfl, rfl⟩ := e
      have : c.w ≠ 0 := by cases ht <;> omega
      exact ⟨fun q => by omega, fun q => absurd q this⟩
    | cons b l =>
      simp only [List.cons_append, List.cons.injEq] at e
      exact ih e.2
  | @two a t h1 h2 h3 ht ih =>
    intro l r d c e
    match l with
    | [] =>
      simp only [List.nil_append, List.cons.injEq] at e
      obtain ⟨rfl, rfl, rfl⟩ := e
      exact ⟨fun _ => rfl, fun _ => h1⟩
    | [b] =>
      simp only [List.cons_append, List.nil_append, List.cons.injEq] at e
      obtain ⟨rfl, rfl, rfl⟩ := e
      have : c.w ≠ 0 := by cases ht <;> omega
      refine ⟨fun q => ?_, fun q => absurd q this⟩
      have : (halfC a).w = 0 := rfl
      omega
    | b :: b' :: l =>
      simp only [List.cons_append, List.cons.injEq] at e
      exact ih e.2.2
theorem split2 {cs : List Cell} {m : Nat} (h0 : 0 < m) (h1 : m < cs.length) : ∃ l d c r, cs = l ++ d :: c :: r ∧ l.length + 1 = m := by
  obtain ⟨k, rfl⟩ : ∃ k, m = k + 1 := ⟨m - 1, by omega⟩
  refine ⟨cs.take k, cs[k], cs[k + 1], cs.drop (k + 2), ?_, ?_⟩
  · rw [← List.drop_eq_getElem_cons, ← List.drop_eq_getElem_cons, List.take_append_drop]
  · rw [List.length_take]; omega
theorem cutC_mid {l r : List Cell} {d c : Cell} : cutC (l ++ d :: c :: r) (l.length + 1) = l ++ fx 2 d :: fx 0 c :: r := by
  unfold cutC
  have e1 : (l ++ d :: c :: r).take (l.length + 1) = l ++ [d] := by
    rw [List.take_append, List.take_of_length_le (by omega), show l.length + 1 - l.length = 1 by omega]; rfl
  have e2 : (l ++ d :: c :: r).drop (l.length + 1) = c :: r := by
    rw [List.drop_append, List.drop_of_length_le (by omega), show l.length + 1 - l.length = 1 by omega]; rfl
  rw [e1, e2, fixL_snoc, fixH]; simp
theorem cut2 (cs : List Cell) {m k : Nat} (hk : 1 ≤ k) (hm : m + k ≤ cs.length) : ∃ A mid D : List Cell, A.length = m ∧ mid.length = k ∧ cutC (cutC cs m) (m + k) = A ++ (mid ++ D) ∧ ∀ s : List Cell, s.length = k → over cs m s = A ++ (s ++ D) := by
  have hA : (fixL (cs.take m)).length = m := by rw [fixL_len, List.length_take]; omega
  refine ⟨fixL (cs.take m), fixL ((fixH (cs.drop m)).take k), fixH (cs.drop (m + k)), hA, ?_, ?_, ?_⟩
  · rw [fixL_len, List.length_take, fixH_len, List.length_drop]; omega
  · rw [show cutC cs m = fixL (cs.take m) ++ fixH (cs.drop m) from rfl]
    generalize hAe : fixL (cs.take m) = A at hA
    unfold cutC
    have e1 : (A ++ fixH (cs.drop m)).take (m + k) = A ++ (fixH (cs.drop m)).take k := by
      rw [List.take_append, List.take_of_length_le (by omega), hA, show m + k - m = k by omega]
    have e2 : (A ++ fixH (cs.drop m)).drop (m + k) = (fixH (cs.drop m)).drop k := by
      rw [List.drop_append, List.drop_of_length_le (by omega), hA, show m + k - m = k by omega]; rfl
    have e3 : (fixH (cs.drop m)).drop k = cs.drop (m + k) := by
      obtain ⟨j, rfl⟩ : ∃ j, k = j + 1 := ⟨k - 1, by omega⟩
      have : cs.drop (m + (j + 1)) = (cs.drop m).drop (j + 1) := by rw [List.drop_drop]
      rw [this]
      cases cs.drop m with
      | nil => rfl
      | cons c r => rfl
    have e4 : ∀ X : List Cell, X ≠ [] → fixL (A ++ X) = A ++ fixL X := by
      intro X hX
      obtain ⟨Y, y, rfl⟩ : ∃ Y y, X = Y ++ [y] := ⟨X.dropLast, X.getLast hX, (List.dropLast_concat_getLast hX).symm⟩
      rw [← List.append_assoc, fixL_snoc, fixL_snoc, List.append_assoc]
    rw [e1, e2, e3, e4, List.append_assoc]
    intro q
    have := congrArg List.length q
    rw [List.length_take, fixH_len, List.length_drop] at this
    simp at this; omega
  · intro s hs
    unfold over
    rw [hs, List.append_assoc]
theorem WF.cut_zero {cs : List Cell} (h : WF cs) : Mine.cutC cs 0 = cs := by
  unfold Mine.cutC
  rw [List.take_zero, List.drop_zero, h.fixH_id]; rfl
theorem WF.cut_end {cs : List Cell} (h : WF cs) {m : Nat} (hm : cs.length ≤ m) : Mine.cutC cs m = cs := by
  unfold Mine.cutC
  rw [List.take_of_length_le hm, List.drop_of_length_le hm, h.fixL_id]; simp [fixH]
end Mine

set_option autoImplicit false
set_option linter.unusedVariables false
namespace Mine
noncomputable def midC (cs : List Cell) (m s : Nat) : List Cell := fixL ((fixH (cs.drop m)).take s)
noncomputable def insC (cs : List Cell) (m s k : Nat) (g : Int) : List Cell := fixL (cs.take m) ++ ((List.replicate k (blankC g) ++ fixL ((midC cs m s).take (s - k))) ++ fixH (cs.drop (m + s)))
noncomputable def delC (cs : List Cell) (m s k : Nat) (g : Int) : List Cell := fixL (cs.take m) ++ ((fixH ((midC cs m s).drop k) ++ List.replicate k (blankC g)) ++ fixH (cs.drop (m + s)))
theorem fixL_app' (A X : List Cell) (h : X ≠ []) : fixL (A ++ X) = A ++ fixL X := by
  obtain ⟨Y, y, rfl⟩ : ∃ Y y, X = Y ++ [y] := ⟨X.dropLast, X.getLast h, (List.dropLast_concat_getLast h).symm⟩
  rw [← List.append_assoc, fixL_snoc, fixL_snoc, List.append_assoc]
theorem fixL_app {A : List Cell} (X : List Cell) (h : fixL A = A) : fixL (A ++ X) = A ++ fixL X := by
  by_cases e : X = []
  · subst e; rw [List.append_nil, h]; simp [fixL]
  · exact fixL_app' A X e
theorem fixH_app {D : List Cell} (Y : List Cell) (h : fixH D = D) : fixH (Y ++ D) = fixH Y ++ D := by
  cases Y with
  | nil => rw [List.nil_append, h]; rfl
  | cons c r => rfl
theorem fixH_drop (l : List Cell) {k : Nat} (hk : 1 ≤ k) : (fixH l).drop k = l.drop k := by
  obtain ⟨j, rfl⟩ : ∃ j, k = j + 1 := ⟨k - 1, by omega⟩
  cases l <;> rfl
theorem midC_len (cs : List Cell) {m s : Nat} (h : m + s ≤ cs.length) : (midC cs m s).length = s := by
  unfold midC
  rw [fixL_len, List.length_take, fixH_len, List.length_drop]; omega
theorem WF.mid {cs : List Cell} (h : WF cs) (m s : Nat) : WF (midC cs m s) := ((h.cut m).2.cut s).1
theorem cut_two (cs : List Cell) {m s : Nat} (hs : 1 ≤ s) (hm : m + s ≤ cs.length) : cutC (cutC cs m) (m + s) = fixL (cs.take m) ++ (midC cs m s ++ fixH (cs.drop (m + s))) := by
  have hA : (fixL (cs.take m)).length = m := by rw [fixL_len, List.length_take]; omega
  rw [show cutC cs m = fixL (cs.take m) ++ fixH (cs.drop m) from rfl]
  unfold midC
  generalize hAe : fixL (cs.take m) = A at hA
  unfold cutC
  have e1 : (A ++ fixH (cs.drop m)).take (m + s) = A ++ (fixH (cs.drop m)).take s := by
    rw [List.take_append, List.take_of_length_le (by omega), hA, show m + s - m = s by omega]
  have e2 : (A ++ fixH (cs.drop m)).drop (m + s) = (fixH (cs.drop m)).drop s := by
    rw [List.drop_append, List.drop_of_length_le (by omega), hA, show m + s - m = s by omega]; rfl
  rw [e1, e2, fixH_drop _ hs, List.drop_drop, fixL_app', List.append_assoc]
  intro q
  have := congrArg List.length q
  rw [List.length_take, fixH_len, List.length_drop] at this
  simp at this; omega
theorem cut_in {A M D : List Cell} (hA : WF A) (hM : WF M) (hD : WF D) {t k : Nat} (ht : t ≤ M.length) (hk : k = A.length + t) : cutC (A ++ (M ++ D)) k = A ++ (cutC M t ++ D) := by
  subst hk
  unfold cutC
  have e1 : (A ++ (M ++ D)).take (A.length + t) = A ++ M.take t := by
    rw [List.take_append, List.take_of_length_le (by omega), show A.length + t - A.length = t by omega, List.take_append_of_le_length ht]
  have e2 : (A ++ (M ++ D)).drop (A.length + t) = M.drop t ++ D := by
    rw [List.drop_append, List.drop_of_length_le (by omega), show A.length + t - A.length = t by omega, List.drop_append_of_le_length ht]; rfl
  rw [e1, e2, fixL_app _ hA.fixL_id, fixH_app _ hD.fixH_id, List.append_assoc, List.append_assoc]
theorem wf_blanks (k : Nat) (g : Int) : WF (List.replicate k (blankC g)) := by
  induction k with
  | zero => exact .nil
  | succ k ih => rw [List.replicate_succ]; exact .blank ih
theorem WF.ins {cs : List Cell} (h : WF cs) (m s k : Nat) (g : Int) : WF (insC cs m s k g) :=
  (h.cut m).1.append (((wf_blanks k g).append ((h.mid m s).cut _).1).append (h.cut _).2)
theorem WF.del {cs : List Cell} (h : WF cs) (m s k : Nat) (g : Int) : WF (delC cs m s k g) :=
  (h.cut m).1.append ((((h.mid m s).cut _).2.append (wf_blanks k g)).append (h.cut _).2)
theorem insC_len (cs : List Cell) {m s k : Nat} (g : Int) (h : m + s ≤ cs.length) (hk : k ≤ s) : (insC cs m s k g).length = cs.length := by
  unfold insC
  rw [List.length_append, List.length_append, List.length_append, fixL_len, fixL_len, fixH_len, List.length_take, List.length_take, List.length_drop, List.length_replicate, midC_len cs h]; omega
theorem delC_len (cs : List Cell) {m s k : Nat} (g : Int) (h : m + s ≤ cs.length) (hk : k ≤ s) : (delC cs m s k g).length = cs.length := by
  unfold delC
  rw [List.length_append, List.length_append, List.length_append, fixL_len, fixH_len, fixH_len, List.length_take, List.length_drop, List.length_drop, List.length_replicate, midC_len cs h]; omega
theorem cutC_take (M : List Cell) (t : Nat) (h : t ≤ M.length) : (cutC M t).take t = fixL (M.take t) := by
  unfold cutC
  rw [List.take_append, List.take_of_length_le (by rw [fixL_len, List.length_take]; omega), fixL_len, List.length_take, show t - min t M.length = 0 by omega, List.take_zero, List.append_nil]
theorem cutC_drop (M : List Cell) (t : Nat) (h : t ≤ M.length) : (cutC M t).drop t = fixH (M.drop t) := by
  unfold cutC
  rw [List.drop_append, List.drop_of_length_le (by rw [fixL_len, List.length_take]; omega), fixL_len, List.length_take, show t - min t M.length = 0 by omega]; rfl
theorem splice_mid {α : Type} (A M D S : List α) {lo hi : Nat} (hl : lo = A.length) (hh : hi = A.length + M.length) :
    (A ++ (M ++ D)).take (min lo (A ++ (M ++ D)).length) ++ S ++ (A ++ (M ++ D)).drop (max (min lo (A ++ (M ++ D)).length) (min hi (A ++ (M ++ D)).length)) = A ++ (S ++ D) := by
  subst hl hh
  simp only [List.length_append]
  rw [show min A.length (A.length + (M.length + D.length)) = A.length by omega, show max A.length (min (A.length + M.length) (A.length + (M.length + D.length))) = A.length + M.length by omega]
  simp
end Mine

set_option autoImplicit false
set_option linter.unusedVariables false
set_option maxRecDepth 10000
namespace Mine
open PySem
section
variable {n : Nat} {st : St} {L : Held} {c : Cell} {cs : List Cell} {a : Nat} {R : V → St → Prop}
theorem clamp_ok {a b c : Int} (h : R (.int (max b (min a c))) st) : Post (callF (n + 1) .clamp [.int a, .int b, .int c] st) R := by
  refine P_callF [(Str.ofString "value", .int a), (Str.ofString "least", .int b), (Str.ofString "most", .int c)] rfl rfl ?_
  ((conv => enter [1, 2]; whnf); (conv => enter [1, 3]; whnf); with_reducible refine s_cons ?_; with_reducible refine s_ret ?_; with_reducible refine e_callB (by kernel_rfl) bl_max ?_; with_reducible refine es_cons ?_; refine e_name (by kernel_rfl) (by with_reducible refine lookS (by kernel_rfl) ?_; with_reducible exact look0) ?_; with_reducible refine es_cons ?_; with_reducible refine e_callB (by kernel_rfl) bl_min ?_; with_reducible refine es_cons ?_; refine e_name (by kernel_rfl) look0 ?_; with_reducible refine es_cons ?_; refine e_name (by kernel_rfl) (by with_reducible refine lookS (by kernel_rfl) ?_; with_reducible refine lookS (by kernel_rfl) ?_; with_reducible exact look0) ?_; with_reducible refine es_nil ?_; with_reducible refine b_min ?_; with_reducible refine es_nil ?_; with_reducible refine b_max ?_; with_reducible refine k_ret ?_; with_reducible refine k_ret ?_)
  exact h
theorem erased_pen_ok {b g : Int} (h : R (pv 0 g) st) : Post (callF (n + 1) .erased_pen [pv b g] st) R := by
  refine P_callF [(Str.ofString "pen", pv b g)] rfl rfl ?_
  ((conv => enter [1, 2]; whnf); (conv => enter [1, 3]; whnf); with_reducible refine s_cons ?_; with_reducible refine s_ret ?_; with_reducible refine e_tuple ?_; with_reducible refine es_cons ?_; with_reducible refine e_int ?_; with_reducible refine es_cons ?_; refine e_glob (by kernel_rfl) gl_no ?_; with_reducible refine es_cons ?_; refine e_sub (by kernel_rfl) ?_; refine e_name (by kernel_rfl) look0 ?_; refine e_glob (by kernel_rfl) gl_back ?_; with_reducible refine i_pv2 ?_; with_reducible refine es_cons ?_; refine e_glob (by kernel_rfl) gl_no ?_; with_reducible refine es_cons ?_; with_reducible refine e_int ?_; with_reducible refine es_nil ?_; refine ⟨by kernel_rfl, ?_⟩; with_reducible refine k_ret ?_; with_reducible refine k_ret ?_)
  exact h
theorem blank_cell_ok {b g : Int} (h : R (cv (blankC g)) st) : Post (callF (n + 2) .blank_cell [pv b g] st) R := by
  refine P_callF [(Str.ofString "pen", pv b g)] rfl rfl ?_
  ((conv => enter [1, 2]; whnf); (conv => enter [1, 3]; whnf); with_reducible refine s_cons ?_; with_reducible refine s_ret ?_; with_reducible refine e_tuple ?_; with_reducible refine es_cons ?_; with_reducible refine e_tuple ?_; with_reducible refine es_nil ?_; refine ⟨by kernel_rfl, ?_⟩; with_reducible refine es_cons ?_; with_reducible refine e_int ?_; with_reducible refine es_cons ?_; with_reducible refine e_call (by kernel_rfl) tl_erased_pen ?_; with_reducible refine es_cons ?_; refine e_name (by kernel_rfl) look0 ?_; with_reducible refine es_nil ?_)
  refine erased_pen_ok ?_
  (with_reducible refine es_cons ?_; with_reducible refine e_bool ?_; with_reducible refine es_nil ?_; refine ⟨by kernel_rfl, ?_⟩; with_reducible refine k_ret ?_; with_reducible refine k_ret ?_)
  exact h
theorem right_half_ok (h : R (cv (halfC c)) st) : Post (callF (n + 1) .right_half [cv c] st) R := by
  refine P_callF [(Str.ofString "cell", cv c)] rfl rfl ?_
  ((conv => enter [1, 2]; whnf); (conv => enter [1, 3]; whnf); with_reducible refine s_cons ?_; with_reducible refine s_ret ?_; with_reducible refine e_tuple ?_; with_reducible refine es_cons ?_; with_reducible refine e_tuple ?_; with_reducible refine es_nil ?_; refine ⟨by kernel_rfl, ?_⟩; with_reducible refine es_cons ?_; with_reducible refine e_int ?_; with_reducible refine es_cons ?_; refine e_sub (by kernel_rfl) ?_; refine e_name (by kernel_rfl) look0 ?_; with_reducible refine e_int ?_; with_reducible refine i_cv2 ?_; with_reducible refine es_cons ?_; refine e_sub (by kernel_rfl) ?_; refine e_name (by kernel_rfl) look0 ?_; with_reducible refine e_int ?_; with_reducible refine i_cv3 ?_; with_reducible refine es_nil ?_; refine ⟨by kernel_rfl, ?_⟩; with_reducible refine k_ret ?_; with_reducible refine k_ret ?_)
  exact h
noncomputable def isBlankC (c : Cell) : Bool := decide (c.code = none) && decide (c.w = 1)
theorem is_blank_ok (h : R (.bool (isBlankC c)) st) : Post (callF (n + 1) .is_blank [cv c] st) R := by
  refine P_callF [(Str.ofString "cell", cv c)] rfl rfl ?_
  ((conv => enter [1, 2]; whnf); (conv => enter [1, 3]; whnf); with_reducible refine s_cons ?_; with_reducible refine s_ret ?_; with_reducible refine e_boolop ?_; with_reducible refine b_cons ?_; with_reducible refine e_cmp ?_; refine e_sub (by kernel_rfl) ?_; refine e_name (by kernel_rfl) look0 ?_; with_reducible refine e_int ?_; with_reducible refine i_cv0 ?_; with_reducible refine e_tuple ?_; with_reducible refine es_nil ?_; refine ⟨by kernel_rfl, ?_⟩; with_reducible refine q_code ?_; with_reducible refine q_truth ?_)
  unfold isBlankC at h
  by_cases e : c.code = none
  · (refine w_yes (by with_reducible refine at' ?_; with_reducible refine dt ?_; assumption) ?_; with_reducible refine b_one ?_; with_reducible refine e_cmp ?_; refine e_sub (by kernel_rfl) ?_; refine e_name (by kernel_rfl) look0 ?_; with_reducible refine e_int ?_; with_reducible refine i_cv1 ?_; with_reducible refine e_int ?_; with_reducible refine q_eq ?_; with_reducible refine k_ret ?_; with_reducible refine k_ret ?_)
    rw [dt e] at h; exact h
  · (refine w_no (by with_reducible refine af ?_; with_reducible refine df ?_; assumption) ?_; with_reducible refine k_ret ?_; with_reducible refine k_ret ?_)
    rw [df e] at h ⊢; exact h
theorem is_plain_blank_ok (h : R (.bool (decide (c = blankC (-1)))) st) : Post (callF (n + 1) .is_plain_blank [cv c] st) R := by
  refine P_callF [(Str.ofString "cell", cv c)] rfl rfl ?_
  ((conv => enter [1, 2]; whnf); (conv => enter [1, 3]; whnf); with_reducible refine s_cons ?_; with_reducible refine s_ret ?_; with_reducible refine e_cmp ?_; refine e_name (by kernel_rfl) look0 ?_; with_reducible refine e_tuple ?_; with_reducible refine es_cons ?_; with_reducible refine e_tuple ?_; with_reducible refine es_nil ?_; refine ⟨by kernel_rfl, ?_⟩; with_reducible refine es_cons ?_; with_reducible refine e_int ?_; with_reducible refine es_cons ?_; refine e_glob (by kernel_rfl) gl_plain ?_; with_reducible refine es_cons ?_; with_reducible refine e_bool ?_; with_reducible refine es_nil ?_; refine ⟨by kernel_rfl, ?_⟩)
  exact ⟨_, C_cell (d := blankC (-1)), h⟩
theorem line_blanks_ok {k : Int} {b g : Int} (h : At st L) (hk : k ≤ 4096) (hq : ∀ r st', At st' ((r, .list ((List.replicate k.toNat (blankC g)).map cv)) :: L) → R (.ref r) st') : Post (callF (n + 3) .line_blanks [.int k, pv b g] st) R := by
  refine P_callF [(Str.ofString "many", .int k), (Str.ofString "pen", pv b g)] rfl rfl ?_
  ((conv => enter [1, 2]; whnf); (conv => enter [1, 3]; whnf); with_reducible refine s_cons ?_; with_reducible refine s_ret ?_; with_reducible refine e_bin ?_; with_reducible refine e_list ?_; with_reducible refine es_cons ?_; with_reducible refine e_call (by kernel_rfl) tl_blank_cell ?_; with_reducible refine es_cons ?_; refine e_name (by kernel_rfl) (by with_reducible refine lookS (by kernel_rfl) ?_; with_reducible exact look0) ?_; with_reducible refine es_nil ?_)
  refine blank_cell_ok ?_
  (with_reducible refine es_nil ?_)
  refine P_mkList h (Nat.le_of_ble_eq_true rfl) fun r st h => ?_
  (with_reducible refine e_callB (by kernel_rfl) bl_max ?_; with_reducible refine es_cons ?_; with_reducible refine e_int ?_; with_reducible refine es_cons ?_; refine e_name (by kernel_rfl) look0 ?_; with_reducible refine es_nil ?_; with_reducible refine b_max ?_)
  refine P_mulL h ix0 (by omega) fun r st h => ?_
  (with_reducible refine k_ret ?_; with_reducible refine k_ret ?_)
  refine hq r st ?_
  rw [List.map_replicate, show k.toNat = (max 0 k).toNat by omega]
  exact h.sub (.cons_cons _ (.cons _ (.refl _)))
theorem mid0 {α : Type} {l r : List α} {d : α} : (l ++ d :: r)[l.length]? = some d := by rw [List.getElem?_append_right (Nat.le_refl _), Nat.sub_self]; rfl
theorem mid1 {α : Type} {l r : List α} {d c : α} : (l ++ d :: c :: r)[l.length + 1]? = some c := by rw [List.getElem?_append_right (by omega), show l.length + 1 - l.length = 1 by omega]; rfl
theorem set0 {α : Type} {l r : List α} {d x : α} : (l ++ d :: r).set l.length x = l ++ x :: r := by rw [List.set_append_right _ _ (Nat.le_refl _), Nat.sub_self]; rfl
theorem set1 {α : Type} {l r : List α} {d c x : α} : (l ++ d :: c :: r).set (l.length + 1) x = l ++ d :: x :: r := by rw [List.set_append_right _ _ (by omega), show l.length + 1 - l.length = 1 by omega]; rfl
theorem P_setC {k : Int} {m : Nat} {KS : St → Prop} {i : Nat} (h : At st L) (hi : L[i]? = some (a, .list (cs.map cv))) (e : k = m) (hm : m < cs.length) (hq : ∀ st', At st' (L.set i (a, .list ((cs.set m c).map cv))) → KS st') : PostO (setItemV (.ref a) (.int k) (cv c) st) KS :=
  P_setL h hi (place_nat e (by rw [List.length_map]; exact hm)) (by rw [← List.map_set]; exact hq)
theorem line_part_ok {k : Int} {m : Nat} (h : At st ((a, .list (cs.map cv)) :: L)) (hw : WF cs) (hk : k = m) (hq : ∀ st', At st' ((a, .list ((cutC cs m).map cv)) :: L) → R .none st') : Post (callF (n + 3) .line_part [.ref a, .int k] st) R := by
  subst hk
  refine P_callF [(Str.ofString "cells", .ref a), (Str.ofString "at", .int m)] rfl rfl ?_
  by_cases h0 : 0 < m
  · ((conv => enter [1, 2]; whnf); (conv => enter [1, 3]; whnf); with_reducible refine s_cons ?_; with_reducible refine s_if ?_; with_reducible refine c_boolop ?_; with_reducible refine a_cons ?_; with_reducible refine c_cmp2 (by kernel_rfl) ?_; with_reducible refine e_int ?_; refine e_name (by kernel_rfl) (by with_reducible refine lookS (by kernel_rfl) ?_; with_reducible exact look0) ?_; with_reducible refine q_lt ?_; refine w_yes (by with_reducible refine dt ?_; omega) ?_; with_reducible refine e_callB (by kernel_rfl) bl_len ?_; with_reducible refine es_cons ?_; refine e_name (by kernel_rfl) look0 ?_; with_reducible refine es_nil ?_)
    refine P_lenC h ix0 ?_
    (with_reducible refine q_lt ?_)
    by_cases h1 : m < cs.length
    · obtain ⟨l, d, c, r, rfl, rfl⟩ := split2 h0 h1
      have hp := hw.pair rfl
      rw [cutC_mid] at hq
      have hl0 : l.length < (l ++ d :: c :: r).length := by rw [List.length_append]; exact Nat.lt_add_of_pos_right (Nat.succ_pos _)
      (refine w_yes (by with_reducible refine at' ?_; with_reducible refine dt ?_; omega) ?_; with_reducible refine a_one ?_; with_reducible refine c_cmp ?_; refine e_sub (by kernel_rfl) ?_; refine e_sub (by kernel_rfl) ?_; refine e_name (by kernel_rfl) look0 ?_; refine e_name (by kernel_rfl) (by with_reducible refine lookS (by kernel_rfl) ?_; with_reducible exact look0) ?_)
      refine P_cellAt h ix0 rfl mid1 ?_
      by_cases h2 : c.w = 0
      · rw [show fx 2 d = blankC d.g from if_pos (hp.mpr h2), show fx 0 c = blankC c.g from if_pos h2] at hq
        (with_reducible refine e_int ?_; with_reducible refine i_cv1 ?_; with_reducible refine e_int ?_; with_reducible refine q_eq ?_; refine w_yes (by with_reducible refine dt ?_; assumption) ?_; with_reducible refine s_cons ?_; refine s_assign (by kernel_rfl) (by kernel_rfl) ?_; with_reducible refine e_call (by kernel_rfl) tl_blank_cell ?_; with_reducible refine es_cons ?_; refine e_sub (by kernel_rfl) ?_; refine e_sub (by kernel_rfl) ?_; refine e_name (by kernel_rfl) look0 ?_; with_reducible refine e_bin ?_; refine e_name (by kernel_rfl) (by with_reducible refine lookS (by kernel_rfl) ?_; with_reducible exact look0) ?_; with_reducible refine e_int ?_; with_reducible refine v_sub ?_)
        refine P_cellAt h ix0 (m := l.length) (by omega) mid0 ?_
        (with_reducible refine e_int ?_; with_reducible refine i_cv2 ?_; with_reducible refine es_nil ?_)
        refine blank_cell_ok ?_
        (refine t_sub (by kernel_rfl) ?_; refine e_name (by kernel_rfl) look0 ?_; with_reducible refine e_bin ?_; refine e_name (by kernel_rfl) (by with_reducible refine lookS (by kernel_rfl) ?_; with_reducible exact look0) ?_; with_reducible refine e_int ?_; with_reducible refine v_sub ?_)
        refine P_setC h ix0 (m := l.length) (by omega) hl0 fun st h => ?_
        rw [set0] at h
        (with_reducible refine k_next ?_; with_reducible refine s_cons ?_; refine s_assign (by kernel_rfl) (by kernel_rfl) ?_; with_reducible refine e_call (by kernel_rfl) tl_blank_cell ?_; with_reducible refine es_cons ?_; refine e_sub (by kernel_rfl) ?_; refine e_sub (by kernel_rfl) ?_; refine e_name (by kernel_rfl) look0 ?_; refine e_name (by kernel_rfl) (by with_reducible refine lookS (by kernel_rfl) ?_; with_reducible exact look0) ?_)
        refine P_cellAt h ix0 rfl mid1 ?_
        (with_reducible refine e_int ?_; with_reducible refine i_cv2 ?_; with_reducible refine es_nil ?_)
        refine blank_cell_ok ?_
        (refine t_sub (by kernel_rfl) ?_; refine e_name (by kernel_rfl) look0 ?_; refine e_name (by kernel_rfl) (by with_reducible refine lookS (by kernel_rfl) ?_; with_reducible exact look0) ?_)
        refine P_setC h ix0 (m := l.length + 1) rfl (by rw [List.length_append] at h1 ⊢; exact h1) fun st h => ?_
        rw [set1] at h
        (with_reducible refine k_next ?_; with_reducible refine s_nil ?_; with_reducible refine k_next ?_; with_reducible refine s_nil ?_; with_reducible refine k_next ?_)
        exact hq _ h
      · (with_reducible refine e_int ?_; with_reducible refine i_cv1 ?_; with_reducible refine e_int ?_; with_reducible refine q_eq ?_; refine w_no (by with_reducible refine df ?_; assumption) ?_; with_reducible refine s_nil ?_; with_reducible refine k_next ?_; with_reducible refine s_nil ?_; with_reducible refine k_next ?_)
        rw [show fx 2 d = d from if_neg (fun q => h2 (hp.mp q)), show fx 0 c = c from if_neg h2] at hq
        exact hq _ h
    · (refine w_no (by with_reducible refine af ?_; with_reducible refine df ?_; omega) ?_; refine w_no (by with_reducible refine df ?_; omega) ?_; with_reducible refine s_nil ?_; with_reducible refine k_next ?_; with_reducible refine s_nil ?_; with_reducible refine k_next ?_)
      rw [hw.cut_end (by omega)] at hq
      exact hq _ h
  · ((conv => enter [1, 2]; whnf); (conv => enter [1, 3]; whnf); with_reducible refine s_cons ?_; with_reducible refine s_if ?_; with_reducible refine c_boolop ?_; with_reducible refine a_cons ?_; with_reducible refine c_cmp2 (by kernel_rfl) ?_; with_reducible refine e_int ?_; refine e_name (by kernel_rfl) (by with_reducible refine lookS (by kernel_rfl) ?_; with_reducible exact look0) ?_; with_reducible refine q_lt ?_; refine w_no (by with_reducible refine df ?_; omega) ?_; refine w_no (by with_reducible refine af ?_; rfl) ?_; refine w_no (by rfl) ?_; with_reducible refine s_nil ?_; with_reducible refine k_next ?_; with_reducible refine s_nil ?_; with_reducible refine k_next ?_)
    obtain rfl : m = 0 := by omega
    rw [hw.cut_zero] at hq
    exact hq _ h
theorem lpart_ok {k : Int} {m : Nat} (h : At st ((a, .list (cs.map cv)) :: L)) (hw : WF cs) (hz : cs.length ≤ 100) (hk : k = m) (hq : ∀ st', At st' ((a, .list ((cutC cs m).map cv)) :: L) → R .none st') : Post (callF (n + 3) .lpart [.ref a, .int k] st) R := by
  subst hk
  refine P_callF [(Str.ofString "cells", .ref a), (Str.ofString "at", .int m)] rfl rfl ?_
  by_cases h0 : 0 < m
  · ((conv => enter [1, 2]; whnf); (conv => enter [1, 3]; whnf); with_reducible refine s_cons ?_; with_reducible refine s_if ?_; with_reducible refine c_boolop ?_; with_reducible refine a_cons ?_; with_reducible refine c_cmp2 (by kernel_rfl) ?_; with_reducible refine e_int ?_; refine e_name (by kernel_rfl) (by with_reducible refine lookS (by kernel_rfl) ?_; with_reducible exact look0) ?_; with_reducible refine q_lt ?_; refine w_yes (by with_reducible refine dt ?_; omega) ?_; with_reducible refine e_callB (by kernel_rfl) bl_len ?_; with_reducible refine es_cons ?_; refine e_name (by kernel_rfl) look0 ?_; with_reducible refine es_nil ?_)
    refine P_lenC h ix0 ?_
    (with_reducible refine q_lt ?_)
    by_cases h1 : m < cs.length
    · obtain ⟨l, d, c, r, rfl, rfl⟩ := split2 h0 h1
      have hp := hw.pair rfl
      rw [cutC_mid] at hq
      (refine w_yes (by with_reducible refine at' ?_; with_reducible refine dt ?_; omega) ?_; with_reducible refine a_one ?_; with_reducible refine c_cmp ?_; refine e_sub (by kernel_rfl) ?_; refine e_sub (by kernel_rfl) ?_; refine e_name (by kernel_rfl) look0 ?_; with_reducible refine e_bin ?_; refine e_name (by kernel_rfl) (by with_reducible refine lookS (by kernel_rfl) ?_; with_reducible exact look0) ?_; with_reducible refine e_int ?_; with_reducible refine v_sub ?_)
      refine P_cellAt h ix0 (m := l.length) (by omega) mid0 ?_
      by_cases h2 : d.w = 2
      · rw [show fx 2 d = blankC d.g from if_pos h2, show fx 0 c = blankC c.g from if_pos (hp.mp h2)] at hq
        (with_reducible refine e_int ?_; with_reducible refine i_cv1 ?_; with_reducible refine e_int ?_; with_reducible refine q_eq ?_; refine w_yes (by with_reducible refine dt ?_; assumption) ?_; with_reducible refine s_cons ?_; refine s_assign (by kernel_rfl) (by kernel_rfl) ?_; with_reducible refine e_list ?_; with_reducible refine es_cons ?_; with_reducible refine e_call (by kernel_rfl) tl_blank_cell ?_; with_reducible refine es_cons ?_; refine e_sub (by kernel_rfl) ?_; refine e_sub (by kernel_rfl) ?_; refine e_name (by kernel_rfl) look0 ?_; with_reducible refine e_bin ?_; refine e_name (by kernel_rfl) (by with_reducible refine lookS (by kernel_rfl) ?_; with_reducible exact look0) ?_; with_reducible refine e_int ?_; with_reducible refine v_sub ?_)
        refine P_cellAt h ix0 (m := l.length) (by omega) mid0 ?_
        (with_reducible refine e_int ?_; with_reducible refine i_cv2 ?_; with_reducible refine es_nil ?_)
        refine blank_cell_ok ?_
        (with_reducible refine es_cons ?_; with_reducible refine e_call (by kernel_rfl) tl_blank_cell ?_; with_reducible refine es_cons ?_; refine e_sub (by kernel_rfl) ?_; refine e_sub (by kernel_rfl) ?_; refine e_name (by kernel_rfl) look0 ?_; refine e_name (by kernel_rfl) (by with_reducible refine lookS (by kernel_rfl) ?_; with_reducible exact look0) ?_)
        refine P_cellAt h ix0 rfl mid1 ?_
        (with_reducible refine e_int ?_; with_reducible refine i_cv2 ?_; with_reducible refine es_nil ?_)
        refine blank_cell_ok ?_
        (with_reducible refine es_nil ?_)
        refine P_mkList h (Nat.le_of_ble_eq_true rfl) fun b st h => ?_
        (with_reducible refine t_slice ?_; refine e_name (by kernel_rfl) look0 ?_; with_reducible refine o_some ?_; with_reducible refine e_bin ?_; refine e_name (by kernel_rfl) (by with_reducible refine lookS (by kernel_rfl) ?_; with_reducible exact look0) ?_; with_reducible refine e_int ?_; with_reducible refine v_sub ?_; with_reducible refine o_some ?_; with_reducible refine e_bin ?_; refine e_name (by kernel_rfl) (by with_reducible refine lookS (by kernel_rfl) ?_; with_reducible exact look0) ?_; with_reducible refine e_int ?_; with_reducible refine v_add ?_)
        refine P_setSlice h (i := 1) (j := 0) rfl rfl (by decide) (bnd_int (m := l.length) (by omega)) (bnd_int (m := l.length + 2) (by omega)) (by rw [List.length_map]; show _ + 2 ≤ 4096; omega) fun st h => ?_
        dsimp only [List.set_cons_zero, List.set_cons_succ, List.eraseIdx_cons_zero, List.eraseIdx_cons_succ] at h
        (with_reducible refine k_next ?_; with_reducible refine s_nil ?_; with_reducible refine k_next ?_; with_reducible refine s_nil ?_; with_reducible refine k_next ?_)
        refine hq _ (h.sub ?_)
        refine .cons _ ?_
        refine cast (congrArg (fun x => List.Sublist ((a, O.list x) :: L) _) ?_) (List.Sublist.refl _)
        unfold splice
        simp [List.drop_append]
      · (with_reducible refine e_int ?_; with_reducible refine i_cv1 ?_; with_reducible refine e_int ?_; with_reducible refine q_eq ?_; refine w_no (by with_reducible refine df ?_; assumption) ?_; with_reducible refine s_nil ?_; with_reducible refine k_next ?_; with_reducible refine s_nil ?_; with_reducible refine k_next ?_)
        rw [show fx 2 d = d from if_neg h2, show fx 0 c = c from if_neg (fun q => h2 (hp.mpr q))] at hq
        exact hq _ h
    · (refine w_no (by with_reducible refine af ?_; with_reducible refine df ?_; omega) ?_; refine w_no (by with_reducible refine df ?_; omega) ?_; with_reducible refine s_nil ?_; with_reducible refine k_next ?_; with_reducible refine s_nil ?_; with_reducible refine k_next ?_)
      rw [hw.cut_end (by omega)] at hq
      exact hq _ h
  · ((conv => enter [1, 2]; whnf); (conv => enter [1, 3]; whnf); with_reducible refine s_cons ?_; with_reducible refine s_if ?_; with_reducible refine c_boolop ?_; with_reducible refine a_cons ?_; with_reducible refine c_cmp2 (by kernel_rfl) ?_; with_reducible refine e_int ?_; refine e_name (by kernel_rfl) (by with_reducible refine lookS (by kernel_rfl) ?_; with_reducible exact look0) ?_; with_reducible refine q_lt ?_; refine w_no (by with_reducible refine df ?_; omega) ?_; refine w_no (by with_reducible refine af ?_; rfl) ?_; refine w_no (by rfl) ?_; with_reducible refine s_nil ?_; with_reducible refine k_next ?_; with_reducible refine s_nil ?_; with_reducible refine k_next ?_)
    obtain rfl : m = 0 := by omega
    rw [hw.cut_zero] at hq
    exact hq _ h
end
end Mine

set_option autoImplicit false
set_option linter.unusedVariables false
set_option maxRecDepth 10000
set_option maxHeartbeats 4000000
namespace Mine
open PySem
section
variable {n : Nat} {st : St} {L : Held} {c : Cell} {cs ss : List Cell} {a p q i : Nat} {R : V → St → Prop} {K : Me → Prop}
abbrev lineO (a : Nat) : O := .inst [(Str.ofString "cells", .ref a), (Str.ofString "is_wrapped", .bool false), (Str.ofString "size", .str (Str.ofString "single"))]
theorem P_cells (h : At st L) (hi : L[i]? = some (p, lineO a)) (hq : R (.ref a) st) : Post (getAttrV (.ref p) (Str.ofString "cells") st) R := P_attr h hi (.inl rfl) look0 hq
theorem P_wrapped (h : At st L) (hi : L[i]? = some (p, lineO a)) (hq : R (.bool false) st) : Post (getAttrV (.ref p) (Str.ofString "is_wrapped") st) R := P_attr h hi (.inr (.inl rfl)) (by (with_reducible refine lookS (by kernel_rfl) ?_; with_reducible exact look0)) hq
theorem P_size (h : At st L) (hi : L[i]? = some (p, lineO a)) (hq : R (.str (Str.ofString "single")) st) : Post (getAttrV (.ref p) (Str.ofString "size") st) R := P_attr h hi (.inr (.inr rfl)) (by (with_reducible refine lookS (by kernel_rfl) ?_; with_reducible refine lookS (by kernel_rfl) ?_; with_reducible exact look0)) hq
theorem P_m (x : Str) (f : Fn) (h : At st L) (hi : L[i]? = some (p, lineO a)) (h1 : (x == Str.ofString "cells" || x == Str.ofString "is_wrapped" || x == Str.ofString "size") = false) (h2 : meths.lookup x = some f) (hq : K (.own f p)) : PostO (methV (.ref p) x st) K := by
  simp only [Bool.or_eq_false_iff] at h1
  exact P_methI h hi h2 (by rw [lookS h1.1.1 (lookS h1.1.2 (lookS h1.2 rfl))]; rfl) hq
theorem P_m_part (h : At st L) (hi : L[i]? = some (p, lineO a)) (hq : K (.own .m_part p)) : PostO (methV (.ref p) (Str.ofString "part") st) K := P_m _ _ h hi (by kernel_rfl) (by kernel_rfl) hq
theorem P_m_put (h : At st L) (hi : L[i]? = some (p, lineO a)) (hq : K (.own .m_put p)) : PostO (methV (.ref p) (Str.ofString "put") st) K := P_m _ _ h hi (by kernel_rfl) (by kernel_rfl) hq
theorem line_slice_ok {l r : Int} {lo hi : Nat} (h : At st ((a, .list (cs.map cv)) :: L)) (hz : cs.length ≤ 100) (hl : l = lo) (hr : r + 1 = hi)
    (hq : ∀ b st', At st' ((b, .list ((fixL (fixH ((cs.drop lo).take (hi - lo)))).map cv)) :: (a, .list (cs.map cv)) :: L) → R (.ref b) st') : Post (callF (n + 3) .line_slice [.ref a, .int l, .int r] st) R := by
  refine P_callF [(Str.ofString "cells", .ref a), (Str.ofString "left", .int l), (Str.ofString "right", .int r)] rfl rfl ?_
  ((conv => enter [1, 2]; whnf); (conv => enter [1, 3]; whnf); with_reducible refine s_cons ?_; refine s_assign (by kernel_rfl) (by kernel_rfl) ?_; with_reducible refine e_callB (by kernel_rfl) bl_list ?_; with_reducible refine es_cons ?_; with_reducible refine e_slice ?_; refine e_name (by kernel_rfl) look0 ?_; with_reducible refine o_some ?_; with_reducible refine e_callB (by kernel_rfl) bl_max ?_; with_reducible refine es_cons ?_; with_reducible refine e_int ?_; with_reducible refine es_cons ?_; refine e_name (by kernel_rfl) (by with_reducible refine lookS (by kernel_rfl) ?_; with_reducible exact look0) ?_; with_reducible refine es_nil ?_; with_reducible refine b_max ?_; with_reducible refine o_some ?_; with_reducible refine e_callB (by kernel_rfl) bl_max ?_; with_reducible refine es_cons ?_; with_reducible refine e_int ?_; with_reducible refine es_cons ?_; with_reducible refine e_bin ?_; refine e_name (by kernel_rfl) (by with_reducible refine lookS (by kernel_rfl) ?_; with_reducible refine lookS (by kernel_rfl) ?_; with_reducible exact look0) ?_; with_reducible refine e_int ?_; with_reducible refine v_add ?_; with_reducible refine es_nil ?_; with_reducible refine b_max ?_)
  refine P_sliceL h ix0 (bnd_int (m := lo) (by omega)) (bnd_int (m := hi) (by omega)) (by rw [List.length_map]; omega) fun b st h => ?_
  generalize hs : (cs.drop lo).take (hi - lo) = s at hq
  have hs' : cut (cs.map cv) (some lo) (some hi) = s.map cv := by rw [← hs, List.map_take, List.map_drop]; rfl
  have hsl : s.length ≤ 100 := by rw [← hs, List.length_take, List.length_drop]; omega
  rw [hs'] at h
  (with_reducible refine es_nil ?_)
  refine P_listR h ix0 (by rw [List.length_map]; omega) fun f st h => ?_
  (with_reducible refine t_name (by kernel_rfl) rfl ?_; with_reducible refine k_next ?_; with_reducible refine s_cons ?_)
  -- the first
  refine Post.mono (Q := fun fl st => fl = (Fl.next, setL (Str.ofString "found") (.ref f) [(Str.ofString "cells", .ref a), (Str.ofString "left", .int l), (Str.ofString "right", .int r)]) ∧ At st ((f, .list ((fixH s).map cv)) :: (a, .list (cs.map cv)) :: L)) ?_ ?_
  · (with_reducible refine s_if ?_; with_reducible refine c_boolop ?_; with_reducible refine a_cons ?_; with_reducible refine c_cmp ?_; refine e_name (by kernel_rfl) look_hit ?_; with_reducible refine e_list ?_; with_reducible refine es_nil ?_)
    refine P_mkList h (Nat.zero_le _) fun e st h => ?_
    skip
    refine P_neC h (i := 1) (j := 0) (ds := []) rfl rfl ?_
    cases s with
    | nil =>
      (refine w_no (by with_reducible refine af ?_; with_reducible refine nf ?_; with_reducible refine dt ?_; rfl) ?_; refine w_no (by with_reducible refine nf ?_; with_reducible refine dt ?_; rfl) ?_; with_reducible refine s_nil ?_)
      exact ⟨rfl, h.sub (.cons _ (.cons_cons _ (.cons _ (.refl _))))⟩
    | cons c t =>
      have hne : ¬ (c :: t) = [] := List.cons_ne_nil _ _
      (refine w_yes (by with_reducible refine at' ?_; with_reducible refine nt ?_; with_reducible refine df ?_; assumption) ?_; with_reducible refine a_one ?_; with_reducible refine c_cmp ?_; refine e_sub (by kernel_rfl) ?_; refine e_sub (by kernel_rfl) ?_; refine e_name (by kernel_rfl) look_hit ?_; with_reducible refine e_int ?_)
      refine P_cellAt h (m := 0) ix1 rfl rfl ?_
      by_cases hw : c.w = 0
      · (with_reducible refine e_int ?_; with_reducible refine i_cv1 ?_; with_reducible refine e_int ?_; with_reducible refine q_eq ?_; refine w_yes (by with_reducible refine dt ?_; assumption) ?_; with_reducible refine s_cons ?_; refine s_assign (by kernel_rfl) (by kernel_rfl) ?_; with_reducible refine e_call (by kernel_rfl) tl_blank_cell ?_; with_reducible refine es_cons ?_; refine e_sub (by kernel_rfl) ?_; refine e_sub (by kernel_rfl) ?_; refine e_name (by kernel_rfl) look_hit ?_; with_reducible refine e_int ?_)
        refine P_cellAt h (m := 0) ix1 rfl rfl ?_
        (with_reducible refine e_int ?_; with_reducible refine i_cv2 ?_; with_reducible refine es_nil ?_)
        refine blank_cell_ok ?_
        (refine t_sub (by kernel_rfl) ?_; refine e_name (by kernel_rfl) look_hit ?_; with_reducible refine e_int ?_)
        refine P_setC (cs := c :: t) h ix1 (m := 0) rfl (Nat.succ_pos _) fun st h => ?_
        dsimp only [List.set_cons_zero, List.set_cons_succ, List.eraseIdx_cons_zero, List.eraseIdx_cons_succ] at h
        (with_reducible refine k_next ?_; with_reducible refine s_nil ?_)
        refine ⟨rfl, ?_⟩
        rw [fixH, fx, if_pos hw]
        exact h.sub (.cons _ (.cons_cons _ (.cons _ (.refl _))))
      · (with_reducible refine e_int ?_; with_reducible refine i_cv1 ?_; with_reducible refine e_int ?_; with_reducible refine q_eq ?_; refine w_no (by with_reducible refine df ?_; assumption) ?_; with_reducible refine s_nil ?_)
        refine ⟨rfl, ?_⟩
        rw [fixH, fx, if_neg hw]
        exact h.sub (.cons _ (.cons_cons _ (.cons _ (.refl _))))
  · rintro fl st ⟨rfl, h⟩
    have hl2 : (fixH s).length ≤ 100 := by rw [fixH_len]; exact hsl
    generalize fixH s = s at h hq hl2
    (with_reducible refine k_next ?_; with_reducible refine s_cons ?_; with_reducible refine s_if ?_; with_reducible refine c_boolop ?_; with_reducible refine a_cons ?_; with_reducible refine c_cmp ?_; refine e_name (by kernel_rfl) look_hit ?_; with_reducible refine e_list ?_; with_reducible refine es_nil ?_)
    refine P_mkList h (Nat.zero_le _) fun e st h => ?_
    skip
    refine P_neC h (i := 1) (j := 0) (ds := []) rfl rfl ?_
    rcases List.eq_nil_or_concat s with rfl | ⟨Y, y, rfl⟩
    · (refine w_no (by with_reducible refine af ?_; with_reducible refine nf ?_; with_reducible refine dt ?_; rfl) ?_; refine w_no (by with_reducible refine nf ?_; with_reducible refine dt ?_; rfl) ?_; with_reducible refine s_nil ?_; with_reducible refine k_next ?_; with_reducible refine s_cons ?_; with_reducible refine s_ret ?_; refine e_name (by kernel_rfl) look_hit ?_; with_reducible refine k_ret ?_; with_reducible refine k_ret ?_)
      exact hq f _ (h.sub (.cons _ (.refl _)))
    · rw [List.concat_eq_append] at *
      rw [fixL_snoc] at hq
      have hne : ¬ Y ++ [y] = [] := by simp
      have hgl : ((Y ++ [y]).map cv).getLast? = some (cv y) := by simp
      (refine w_yes (by with_reducible refine at' ?_; with_reducible refine nt ?_; with_reducible refine df ?_; assumption) ?_; with_reducible refine a_one ?_; with_reducible refine c_cmp ?_; refine e_sub (by kernel_rfl) ?_; refine e_sub (by kernel_rfl) ?_; refine e_name (by kernel_rfl) look_hit ?_; with_reducible refine e_neg ?_)
      refine P_itemL h (i := 1) rfl (getI_last hgl) ?_
      by_cases hw : y.w = 2
      · rw [show fx 2 y = blankC y.g from if_pos hw] at hq
        (with_reducible refine e_int ?_; with_reducible refine i_cv1 ?_; with_reducible refine e_int ?_; with_reducible refine q_eq ?_; refine w_yes (by with_reducible refine dt ?_; assumption) ?_; with_reducible refine s_cons ?_; refine s_assign (by kernel_rfl) (by kernel_rfl) ?_; with_reducible refine e_call (by kernel_rfl) tl_blank_cell ?_; with_reducible refine es_cons ?_; refine e_sub (by kernel_rfl) ?_; refine e_sub (by kernel_rfl) ?_; refine e_name (by kernel_rfl) look_hit ?_; with_reducible refine e_neg ?_)
        refine P_itemL h (i := 1) rfl (getI_last hgl) ?_
        (with_reducible refine e_int ?_; with_reducible refine i_cv2 ?_; with_reducible refine es_nil ?_)
        refine blank_cell_ok ?_
        (refine t_sub (by kernel_rfl) ?_; refine e_name (by kernel_rfl) look_hit ?_; with_reducible refine e_neg ?_)
        refine P_setL h (i := 1) rfl (place_last (by simp)) fun st h => ?_
        dsimp only [List.set_cons_zero, List.set_cons_succ, List.eraseIdx_cons_zero, List.eraseIdx_cons_succ] at h
        (with_reducible refine k_next ?_; with_reducible refine s_nil ?_; with_reducible refine k_next ?_; with_reducible refine s_cons ?_; with_reducible refine s_ret ?_; refine e_name (by kernel_rfl) look_hit ?_; with_reducible refine k_ret ?_; with_reducible refine k_ret ?_)
        refine hq f _ (h.sub (.cons _ ?_))
        have e1 : ((Y ++ [y]).map cv).set (((Y ++ [y]).map cv).length - 1) (cv (blankC y.g)) = (Y ++ [blankC y.g]).map cv := by
          simp
        rw [e1]
        exact .refl _
      · rw [show fx 2 y = y from if_neg hw] at hq
        (with_reducible refine e_int ?_; with_reducible refine i_cv1 ?_; with_reducible refine e_int ?_; with_reducible refine q_eq ?_; refine w_no (by with_reducible refine df ?_; assumption) ?_; with_reducible refine s_nil ?_; with_reducible refine k_next ?_; with_reducible refine s_cons ?_; with_reducible refine s_ret ?_; refine e_name (by kernel_rfl) look_hit ?_; with_reducible refine k_ret ?_; with_reducible refine k_ret ?_)
        exact hq f _ (h.sub (.cons _ (.refl _)))
theorem part_ok {k : Int} {m : Nat} (h : At st ((p, lineO a) :: (a, .list (cs.map cv)) :: L)) (hw : WF cs) (hk : k = m) (hq : ∀ st', At st' ((p, lineO a) :: (a, .list ((cutC cs m).map cv)) :: L) → R .none st') : Post (callF (n + 4) .m_part [.ref p, .int k] st) R := by
  refine P_callF [(Str.ofString "self", .ref p), (Str.ofString "at", .int k)] rfl rfl ?_
  ((conv => enter [1, 2]; whnf); (conv => enter [1, 3]; whnf); with_reducible refine s_cons ?_; with_reducible refine s_expr ?_; with_reducible refine e_call (by kernel_rfl) tl_line_part ?_; with_reducible refine es_cons ?_; with_reducible refine e_attr (by kernel_rfl) ?_; refine e_name (by kernel_rfl) look0 ?_)
  refine P_cells h ix0 ?_
  (with_reducible refine es_cons ?_; refine e_name (by kernel_rfl) (by with_reducible refine lookS (by kernel_rfl) ?_; with_reducible exact look0) ?_; with_reducible refine es_nil ?_)
  have h := h.focus ix1
  refine line_part_ok h hw hk fun st h => ?_
  (refine ⟨rfl, ?_⟩; with_reducible refine k_next ?_; with_reducible refine s_nil ?_; with_reducible refine k_next ?_)
  exact hq _ (h.focus ix1)
noncomputable def glyph (c : Cell) : List Cell := if c.w = 2 then [c, halfC c] else [c]
noncomputable def fit (cs : List Cell) (m : Nat) (c : Cell) : List Cell := if c.w = 2 ∧ m + 1 = cs.length then [blankC c.g] else glyph c
theorem put1 {cs : List Cell} {m : Nat} {c : Cell} {K : St → Prop} (h : At st ((p, lineO a) :: (a, .list ((cutC (cutC cs m) (m + 1)).map cv)) :: L)) (hm : m + 1 ≤ cs.length) (hq : ∀ st', At st' ((p, lineO a) :: (a, .list ((over cs m [c]).map cv)) :: L) → K st') : PostO (setItemV (.ref a) (.int m) (cv c) st) K := by
  obtain ⟨A, mid, D, hA, hmid, e1, e2⟩ := cut2 cs (m := m) (k := 1) (by omega) hm
  obtain ⟨x, rfl⟩ := List.length_eq_one_iff.mp hmid
  rw [e1] at h
  rw [e2 _ rfl] at hq
  refine P_setC h (i := 1) rfl (m := A.length) (by omega) (by rw [List.length_append]; exact Nat.lt_add_of_pos_right (Nat.succ_pos _)) fun st h => ?_
  rw [List.singleton_append, set0] at h
  exact hq _ h
theorem two_of {α : Type} {l : List α} (h : l.length = 2) : ∃ a b, l = [a, b] := by
  cases l with
  | nil => cases h
  | cons a l =>
    cases l with
    | nil => cases h
    | cons b l => cases l with
      | nil => exact ⟨a, b, rfl⟩
      | cons c l => cases h
theorem put_ok {k : Int} {m : Nat} (h : At st ((p, lineO a) :: (a, .list (cs.map cv)) :: L)) (hw : WF cs) (hz : cs.length ≤ 100) (hk : k = m) (hm : m < cs.length) (hc : c.w = 1 ∨ c.w = 2)
    (hq : ∀ st', At st' ((p, lineO a) :: (a, .list ((over cs m (fit cs m c)).map cv)) :: L) → R .none st') : Post (callF (n + 5) .m_put [.ref p, .int k, cv c] st) R := by
  subst hk
  refine P_callF [(Str.ofString "self", .ref p), (Str.ofString "column", .int m), (Str.ofString "cell", cv c)] rfl rfl ?_
  ((conv => enter [1, 2]; whnf); (conv => enter [1, 3]; whnf); with_reducible refine s_cons ?_; with_reducible refine s_if ?_; with_reducible refine c_boolop ?_; with_reducible refine a_cons ?_; with_reducible refine c_not ?_; with_reducible refine c_cmp2 (by kernel_rfl) ?_; with_reducible refine e_int ?_; refine e_name (by kernel_rfl) (by with_reducible refine lookS (by kernel_rfl) ?_; with_reducible exact look0) ?_; with_reducible refine q_le ?_; refine w_yes (by with_reducible refine dt ?_; omega) ?_; with_reducible refine e_callB (by kernel_rfl) bl_len ?_; with_reducible refine es_cons ?_; with_reducible refine e_attr (by kernel_rfl) ?_; refine e_name (by kernel_rfl) look0 ?_)
  refine P_cells h ix0 ?_
  (with_reducible refine es_nil ?_)
  refine P_lenC h ix1 ?_
  (with_reducible refine q_lt ?_; refine w_yes (by with_reducible refine ot ?_; with_reducible refine nf ?_; with_reducible refine dt ?_; omega) ?_; with_reducible refine a_one ?_; with_reducible refine c_cmp ?_; refine e_sub (by kernel_rfl) ?_; refine e_name (by kernel_rfl) (by with_reducible refine lookS (by kernel_rfl) ?_; with_reducible refine lookS (by kernel_rfl) ?_; with_reducible exact look0) ?_; with_reducible refine e_int ?_; with_reducible refine i_cv1 ?_; with_reducible refine e_int ?_; with_reducible refine q_eq ?_; refine w_no (by with_reducible refine df ?_; omega) ?_; with_reducible refine s_nil ?_; with_reducible refine k_next ?_; with_reducible refine s_cons ?_; with_reducible refine s_if ?_; with_reducible refine c_boolop ?_; with_reducible refine a_cons ?_; with_reducible refine c_cmp ?_; refine e_sub (by kernel_rfl) ?_; refine e_name (by kernel_rfl) (by with_reducible refine lookS (by kernel_rfl) ?_; with_reducible refine lookS (by kernel_rfl) ?_; with_reducible exact look0) ?_; with_reducible refine e_int ?_; with_reducible refine i_cv1 ?_; with_reducible refine e_int ?_; with_reducible refine q_eq ?_)
  unfold fit glyph at hq
  by_cases h2 : c.w = 2
  · (refine w_yes (by with_reducible refine at' ?_; with_reducible refine dt ?_; assumption) ?_; with_reducible refine a_one ?_; with_reducible refine c_cmp ?_; with_reducible refine e_bin ?_; refine e_name (by kernel_rfl) (by with_reducible refine lookS (by kernel_rfl) ?_; with_reducible exact look0) ?_; with_reducible refine e_int ?_; with_reducible refine v_add ?_; with_reducible refine e_callB (by kernel_rfl) bl_len ?_; with_reducible refine es_cons ?_; with_reducible refine e_attr (by kernel_rfl) ?_; refine e_name (by kernel_rfl) look0 ?_)
    refine P_cells h ix0 ?_
    (with_reducible refine es_nil ?_)
    refine P_lenC h ix1 ?_
    by_cases h3 : m + 1 = cs.length
    · (with_reducible refine q_eq ?_; refine w_yes (by with_reducible refine dt ?_; omega) ?_; with_reducible refine s_cons ?_; refine s_assign (by kernel_rfl) (by kernel_rfl) ?_; with_reducible refine e_call (by kernel_rfl) tl_blank_cell ?_; with_reducible refine es_cons ?_; refine e_sub (by kernel_rfl) ?_; refine e_name (by kernel_rfl) (by with_reducible refine lookS (by kernel_rfl) ?_; with_reducible refine lookS (by kernel_rfl) ?_; with_reducible exact look0) ?_; with_reducible refine e_int ?_; with_reducible refine i_cv2 ?_; with_reducible refine es_nil ?_)
      rw [if_pos ⟨h2, h3⟩] at hq
      refine blank_cell_ok ?_
      (with_reducible refine t_name (by kernel_rfl) rfl ?_; with_reducible refine k_next ?_; with_reducible refine s_nil ?_; with_reducible refine k_next ?_; with_reducible refine s_cons ?_; with_reducible refine s_expr ?_; with_reducible refine e_meth (by kernel_rfl) ?_; refine e_name (by kernel_rfl) (by with_reducible refine look_skip (by kernel_rfl) ?_; with_reducible exact look0) ?_)
      refine P_m_part h ix0 ?_
      (with_reducible refine es_cons ?_; refine e_name (by kernel_rfl) (by with_reducible refine look_skip (by kernel_rfl) ?_; with_reducible refine lookS (by kernel_rfl) ?_; with_reducible exact look0) ?_; with_reducible refine es_nil ?_; with_reducible refine m_own ?_)
      refine part_ok h hw rfl fun st h => ?_
      (refine ⟨rfl, ?_⟩; with_reducible refine k_next ?_; with_reducible refine s_cons ?_; with_reducible refine s_expr ?_; with_reducible refine e_meth (by kernel_rfl) ?_; refine e_name (by kernel_rfl) (by with_reducible refine look_skip (by kernel_rfl) ?_; with_reducible exact look0) ?_)
      refine P_m_part h ix0 ?_
      (with_reducible refine es_cons ?_; with_reducible refine e_bin ?_; refine e_name (by kernel_rfl) (by with_reducible refine look_skip (by kernel_rfl) ?_; with_reducible refine lookS (by kernel_rfl) ?_; with_reducible exact look0) ?_; refine e_sub (by kernel_rfl) ?_; refine e_name (by kernel_rfl) look_hit ?_; with_reducible refine e_int ?_; with_reducible refine i_cv1 ?_; with_reducible refine v_add ?_; with_reducible refine es_nil ?_; with_reducible refine m_own ?_)
      refine part_ok h (hw.cutC m) (m := m + 1) rfl fun st h => ?_
      (refine ⟨rfl, ?_⟩; with_reducible refine k_next ?_; with_reducible refine s_cons ?_; refine s_assign (by kernel_rfl) (by kernel_rfl) ?_; refine e_name (by kernel_rfl) look_hit ?_; refine t_sub (by kernel_rfl) ?_; with_reducible refine e_attr (by kernel_rfl) ?_; refine e_name (by kernel_rfl) (by with_reducible refine look_skip (by kernel_rfl) ?_; with_reducible exact look0) ?_)
      refine P_cells h ix0 ?_
      (refine e_name (by kernel_rfl) (by with_reducible refine look_skip (by kernel_rfl) ?_; with_reducible refine lookS (by kernel_rfl) ?_; with_reducible exact look0) ?_)
      refine put1 h (by omega) fun st h => ?_
      (with_reducible refine k_next ?_; with_reducible refine s_cons ?_; with_reducible refine s_if ?_; with_reducible refine c_cmp ?_; refine e_sub (by kernel_rfl) ?_; refine e_name (by kernel_rfl) look_hit ?_; with_reducible refine e_int ?_; with_reducible refine i_cv1 ?_; with_reducible refine e_int ?_; with_reducible refine q_eq ?_)
      have : ¬ (blankC c.g).w = 2 := fun q => absurd (show (1 : Int) = 2 from q) (by decide)
      (refine w_no (by with_reducible refine df ?_; assumption) ?_; with_reducible refine s_nil ?_; with_reducible refine k_next ?_; with_reducible refine s_nil ?_; with_reducible refine k_next ?_)
      exact hq _ h
    · (with_reducible refine q_eq ?_; refine w_no (by with_reducible refine df ?_; omega) ?_; with_reducible refine s_nil ?_; with_reducible refine k_next ?_; with_reducible refine s_cons ?_; with_reducible refine s_expr ?_; with_reducible refine e_meth (by kernel_rfl) ?_; refine e_name (by kernel_rfl) look0 ?_)
      rw [if_neg (fun q => h3 q.2), if_pos h2] at hq
      refine P_m_part h ix0 ?_
      (with_reducible refine es_cons ?_; refine e_name (by kernel_rfl) (by with_reducible refine lookS (by kernel_rfl) ?_; with_reducible exact look0) ?_; with_reducible refine es_nil ?_; with_reducible refine m_own ?_)
      refine part_ok h hw rfl fun st h => ?_
      (refine ⟨rfl, ?_⟩; with_reducible refine k_next ?_; with_reducible refine s_cons ?_; with_reducible refine s_expr ?_; with_reducible refine e_meth (by kernel_rfl) ?_; refine e_name (by kernel_rfl) look0 ?_)
      refine P_m_part h ix0 ?_
      (with_reducible refine es_cons ?_; with_reducible refine e_bin ?_; refine e_name (by kernel_rfl) (by with_reducible refine lookS (by kernel_rfl) ?_; with_reducible exact look0) ?_; refine e_sub (by kernel_rfl) ?_; refine e_name (by kernel_rfl) (by with_reducible refine lookS (by kernel_rfl) ?_; with_reducible refine lookS (by kernel_rfl) ?_; with_reducible exact look0) ?_; with_reducible refine e_int ?_; with_reducible refine i_cv1 ?_; with_reducible refine v_add ?_; with_reducible refine es_nil ?_; with_reducible refine m_own ?_)
      refine part_ok h (hw.cutC m) (m := m + 2) (by omega) fun st h => ?_
      (refine ⟨rfl, ?_⟩; with_reducible refine k_next ?_; with_reducible refine s_cons ?_; refine s_assign (by kernel_rfl) (by kernel_rfl) ?_; refine e_name (by kernel_rfl) (by with_reducible refine lookS (by kernel_rfl) ?_; with_reducible refine lookS (by kernel_rfl) ?_; with_reducible exact look0) ?_; refine t_sub (by kernel_rfl) ?_; with_reducible refine e_attr (by kernel_rfl) ?_; refine e_name (by kernel_rfl) look0 ?_)
      refine P_cells h ix0 ?_
      (refine e_name (by kernel_rfl) (by with_reducible refine lookS (by kernel_rfl) ?_; with_reducible exact look0) ?_)
      obtain ⟨A, mid, D, hA, hmid, e1, e2⟩ := cut2 cs (m := m) (k := 2) (by omega) (by omega)
      obtain ⟨x, y, rfl⟩ := two_of hmid
      rw [e1] at h
      rw [e2 _ rfl] at hq
      refine P_setC h (i := 1) rfl (m := A.length) (by omega) (by rw [List.length_append]; exact Nat.lt_add_of_pos_right (Nat.succ_pos _)) fun st h => ?_
      rw [List.cons_append, set0] at h
      (with_reducible refine k_next ?_; with_reducible refine s_cons ?_; with_reducible refine s_if ?_; with_reducible refine c_cmp ?_; refine e_sub (by kernel_rfl) ?_; refine e_name (by kernel_rfl) (by with_reducible refine lookS (by kernel_rfl) ?_; with_reducible refine lookS (by kernel_rfl) ?_; with_reducible exact look0) ?_; with_reducible refine e_int ?_; with_reducible refine i_cv1 ?_; with_reducible refine e_int ?_; with_reducible refine q_eq ?_; refine w_yes (by with_reducible refine dt ?_; assumption) ?_; with_reducible refine s_cons ?_; refine s_assign (by kernel_rfl) (by kernel_rfl) ?_; with_reducible refine e_call (by kernel_rfl) tl_right_half ?_; with_reducible refine es_cons ?_; refine e_name (by kernel_rfl) (by with_reducible refine lookS (by kernel_rfl) ?_; with_reducible refine lookS (by kernel_rfl) ?_; with_reducible exact look0) ?_; with_reducible refine es_nil ?_)
      refine right_half_ok ?_
      (refine t_sub (by kernel_rfl) ?_; with_reducible refine e_attr (by kernel_rfl) ?_; refine e_name (by kernel_rfl) look0 ?_)
      refine P_cells h ix0 ?_
      (with_reducible refine e_bin ?_; refine e_name (by kernel_rfl) (by with_reducible refine lookS (by kernel_rfl) ?_; with_reducible exact look0) ?_; with_reducible refine e_int ?_; with_reducible refine v_add ?_)
      refine P_setC h (i := 1) rfl (m := A.length + 1) (by omega) (by rw [List.length_append]; exact Nat.add_lt_add_left (Nat.succ_lt_succ (Nat.succ_pos _)) _) fun st h => ?_
      dsimp only [List.set_cons_zero, List.set_cons_succ, List.eraseIdx_cons_zero, List.eraseIdx_cons_succ] at h
      rw [List.cons_append, set1] at h
      (with_reducible refine k_next ?_; with_reducible refine s_nil ?_; with_reducible refine k_next ?_; with_reducible refine s_nil ?_; with_reducible refine k_next ?_)
      exact hq _ h
  · (refine w_no (by with_reducible refine af ?_; with_reducible refine df ?_; assumption) ?_; refine w_no (by with_reducible refine df ?_; assumption) ?_; with_reducible refine s_nil ?_; with_reducible refine k_next ?_; with_reducible refine s_cons ?_; with_reducible refine s_expr ?_; with_reducible refine e_meth (by kernel_rfl) ?_; refine e_name (by kernel_rfl) look0 ?_)
    rw [if_neg (fun q => h2 q.1), if_neg h2] at hq
    refine P_m_part h ix0 ?_
    (with_reducible refine es_cons ?_; refine e_name (by kernel_rfl) (by with_reducible refine lookS (by kernel_rfl) ?_; with_reducible exact look0) ?_; with_reducible refine es_nil ?_; with_reducible refine m_own ?_)
    refine part_ok h hw rfl fun st h => ?_
    (refine ⟨rfl, ?_⟩; with_reducible refine k_next ?_; with_reducible refine s_cons ?_; with_reducible refine s_expr ?_; with_reducible refine e_meth (by kernel_rfl) ?_; refine e_name (by kernel_rfl) look0 ?_)
    refine P_m_part h ix0 ?_
    (with_reducible refine es_cons ?_; with_reducible refine e_bin ?_; refine e_name (by kernel_rfl) (by with_reducible refine lookS (by kernel_rfl) ?_; with_reducible exact look0) ?_; refine e_sub (by kernel_rfl) ?_; refine e_name (by kernel_rfl) (by with_reducible refine lookS (by kernel_rfl) ?_; with_reducible refine lookS (by kernel_rfl) ?_; with_reducible exact look0) ?_; with_reducible refine e_int ?_; with_reducible refine i_cv1 ?_; with_reducible refine v_add ?_; with_reducible refine es_nil ?_; with_reducible refine m_own ?_)
    refine part_ok h (hw.cutC m) (m := m + 1) (by omega) fun st h => ?_
    (refine ⟨rfl, ?_⟩; with_reducible refine k_next ?_; with_reducible refine s_cons ?_; refine s_assign (by kernel_rfl) (by kernel_rfl) ?_; refine e_name (by kernel_rfl) (by with_reducible refine lookS (by kernel_rfl) ?_; with_reducible refine lookS (by kernel_rfl) ?_; with_reducible exact look0) ?_; refine t_sub (by kernel_rfl) ?_; with_reducible refine e_attr (by kernel_rfl) ?_; refine e_name (by kernel_rfl) look0 ?_)
    refine P_cells h ix0 ?_
    (refine e_name (by kernel_rfl) (by with_reducible refine lookS (by kernel_rfl) ?_; with_reducible exact look0) ?_)
    refine put1 h (by omega) fun st h => ?_
    (with_reducible refine k_next ?_; with_reducible refine s_cons ?_; with_reducible refine s_if ?_; with_reducible refine c_cmp ?_; refine e_sub (by kernel_rfl) ?_; refine e_name (by kernel_rfl) (by with_reducible refine lookS (by kernel_rfl) ?_; with_reducible refine lookS (by kernel_rfl) ?_; with_reducible exact look0) ?_; with_reducible refine e_int ?_; with_reducible refine i_cv1 ?_; with_reducible refine e_int ?_; with_reducible refine q_eq ?_; refine w_no (by with_reducible refine df ?_; assumption) ?_; with_reducible refine s_nil ?_; with_reducible refine k_next ?_; with_reducible refine s_nil ?_; with_reducible refine k_next ?_)
    exact hq _ h
theorem put_cells_ok {k : Int} {m : Nat} (h : At st ((p, lineO a) :: (a, .list (cs.map cv)) :: (q, .list (ss.map cv)) :: L)) (hw : WF cs) (hs : WF ss) (hn : ss ≠ []) (hz : cs.length ≤ 100) (hz' : ss.length ≤ 100) (hk : k = m) (hm : m < cs.length)
    (hq : ∀ st', At st' ((p, lineO a) :: (a, .list ((over cs m (fixL (ss.take (cs.length - m)))).map cv)) :: (q, .list (ss.map cv)) :: L) → R .none st') : Post (callF (n + 5) .m_put_cells [.ref p, .int k, .ref q] st) R := by
  subst hk
  refine P_callF [(Str.ofString "self", .ref p), (Str.ofString "column", .int m), (Str.ofString "cells", .ref q)] rfl rfl ?_
  have hn' : ¬ ss = [] := hn
  ((conv => enter [1, 2]; whnf); (conv => enter [1, 3]; whnf); with_reducible refine s_cons ?_; with_reducible refine s_if ?_; with_reducible refine c_boolop ?_; with_reducible refine a_cons ?_; with_reducible refine c_not ?_; with_reducible refine c_cmp2 (by kernel_rfl) ?_; with_reducible refine e_int ?_; refine e_name (by kernel_rfl) (by with_reducible refine lookS (by kernel_rfl) ?_; with_reducible exact look0) ?_; with_reducible refine q_le ?_; refine w_yes (by with_reducible refine dt ?_; omega) ?_; with_reducible refine e_callB (by kernel_rfl) bl_len ?_; with_reducible refine es_cons ?_; with_reducible refine e_attr (by kernel_rfl) ?_; refine e_name (by kernel_rfl) look0 ?_)
  refine P_cells h ix0 ?_
  (with_reducible refine es_nil ?_)
  refine P_lenC h ix1 ?_
  (with_reducible refine q_lt ?_; refine w_yes (by with_reducible refine ot ?_; with_reducible refine nf ?_; with_reducible refine dt ?_; omega) ?_; with_reducible refine a_one ?_; with_reducible refine c_cmp ?_; refine e_name (by kernel_rfl) (by with_reducible refine lookS (by kernel_rfl) ?_; with_reducible refine lookS (by kernel_rfl) ?_; with_reducible exact look0) ?_; with_reducible refine e_list ?_; with_reducible refine es_nil ?_)
  refine P_mkList h (Nat.zero_le _) fun e st h => ?_
  skip
  refine P_eqC h (i := 3) (j := 0) (ds := []) rfl rfl ?_
  (refine w_no (by with_reducible refine df ?_; assumption) ?_; with_reducible refine s_nil ?_; with_reducible refine k_next ?_; with_reducible refine s_cons ?_; refine s_assign (by kernel_rfl) (by kernel_rfl) ?_; with_reducible refine e_call (by kernel_rfl) tl_line_slice ?_; with_reducible refine es_cons ?_; refine e_name (by kernel_rfl) (by with_reducible refine lookS (by kernel_rfl) ?_; with_reducible refine lookS (by kernel_rfl) ?_; with_reducible exact look0) ?_; with_reducible refine es_cons ?_; with_reducible refine e_int ?_; with_reducible refine es_cons ?_; with_reducible refine e_bin ?_; with_reducible refine e_bin ?_; with_reducible refine e_callB (by kernel_rfl) bl_len ?_; with_reducible refine es_cons ?_; with_reducible refine e_attr (by kernel_rfl) ?_; refine e_name (by kernel_rfl) look0 ?_)
  refine P_cells h ix1 ?_
  (with_reducible refine es_nil ?_)
  refine P_lenC h ix2 ?_
  (refine e_name (by kernel_rfl) (by with_reducible refine lookS (by kernel_rfl) ?_; with_reducible exact look0) ?_; with_reducible refine v_sub ?_; with_reducible refine e_int ?_; with_reducible refine v_sub ?_; with_reducible refine es_nil ?_)
  have h := h.focus ix3
  dsimp only [List.set_cons_zero, List.set_cons_succ, List.eraseIdx_cons_zero, List.eraseIdx_cons_succ] at h
  refine line_slice_ok h hz' (lo := 0) (hi := cs.length - m) rfl (by omega) fun f st h => ?_
  (with_reducible refine t_name (by kernel_rfl) rfl ?_; with_reducible refine k_next ?_; with_reducible refine s_cons ?_; with_reducible refine s_expr ?_; with_reducible refine e_meth (by kernel_rfl) ?_; refine e_name (by kernel_rfl) (by with_reducible refine look_skip (by kernel_rfl) ?_; with_reducible exact look0) ?_)
  rw [List.drop_zero, Nat.sub_zero] at h
  have hfx : fixH (ss.take (cs.length - m)) = ss.take (cs.length - m) := by
    cases ss with
    | nil => rw [List.take_nil]; rfl
    | cons c r =>
      obtain ⟨j, hj⟩ : ∃ j, cs.length - m = j + 1 := ⟨cs.length - m - 1, by omega⟩
      rw [hj, List.take_succ_cons, fixH, hs.fx0]
  rw [hfx] at h
  generalize hss : fixL (ss.take (cs.length - m)) = s at h hq
  have hsl : s.length = min (cs.length - m) ss.length := by rw [← hss, fixL_len, List.length_take]
  have hs1 : 0 < ss.length := List.length_pos_iff.mpr hn
  refine P_m_part h ix3 ?_
  (with_reducible refine es_cons ?_; refine e_name (by kernel_rfl) (by with_reducible refine look_skip (by kernel_rfl) ?_; with_reducible refine lookS (by kernel_rfl) ?_; with_reducible exact look0) ?_; with_reducible refine es_nil ?_; with_reducible refine m_own ?_)
  have h := (h.focus ix4).focus ix4
  dsimp only [List.set_cons_zero, List.set_cons_succ, List.eraseIdx_cons_zero, List.eraseIdx_cons_succ] at h
  refine part_ok h hw rfl fun st h => ?_
  (refine ⟨rfl, ?_⟩; with_reducible refine k_next ?_; with_reducible refine s_cons ?_; with_reducible refine s_expr ?_; with_reducible refine e_meth (by kernel_rfl) ?_; refine e_name (by kernel_rfl) (by with_reducible refine look_skip (by kernel_rfl) ?_; with_reducible exact look0) ?_)
  refine P_m_part h ix0 ?_
  (with_reducible refine es_cons ?_; with_reducible refine e_bin ?_; refine e_name (by kernel_rfl) (by with_reducible refine look_skip (by kernel_rfl) ?_; with_reducible refine lookS (by kernel_rfl) ?_; with_reducible exact look0) ?_; with_reducible refine e_callB (by kernel_rfl) bl_len ?_; with_reducible refine es_cons ?_; refine e_name (by kernel_rfl) look_hit ?_; with_reducible refine es_nil ?_)
  refine P_lenC h ix2 ?_
  (with_reducible refine v_add ?_; with_reducible refine es_nil ?_; with_reducible refine m_own ?_)
  refine part_ok h (hw.cutC m) (m := m + s.length) (by omega) fun st h => ?_
  (refine ⟨rfl, ?_⟩; with_reducible refine k_next ?_; with_reducible refine s_cons ?_; refine s_assign (by kernel_rfl) (by kernel_rfl) ?_; refine e_name (by kernel_rfl) look_hit ?_; with_reducible refine t_slice ?_; with_reducible refine e_attr (by kernel_rfl) ?_; refine e_name (by kernel_rfl) (by with_reducible refine look_skip (by kernel_rfl) ?_; with_reducible exact look0) ?_)
  refine P_cells h ix0 ?_
  (with_reducible refine o_some ?_; refine e_name (by kernel_rfl) (by with_reducible refine look_skip (by kernel_rfl) ?_; with_reducible refine lookS (by kernel_rfl) ?_; with_reducible exact look0) ?_; with_reducible refine o_some ?_; with_reducible refine e_bin ?_; refine e_name (by kernel_rfl) (by with_reducible refine look_skip (by kernel_rfl) ?_; with_reducible refine lookS (by kernel_rfl) ?_; with_reducible exact look0) ?_; with_reducible refine e_callB (by kernel_rfl) bl_len ?_; with_reducible refine es_cons ?_; refine e_name (by kernel_rfl) look_hit ?_; with_reducible refine es_nil ?_)
  refine P_lenC h ix2 ?_
  (with_reducible refine v_add ?_)
  obtain ⟨A, mid, D, hA, hmid, e1, e2⟩ := cut2 cs (m := m) (k := s.length) (by omega) (by omega)
  have hl := congrArg List.length e1
  rw [cutC_len, cutC_len, List.length_append, List.length_append] at hl
  rw [e1] at h
  rw [e2 _ rfl] at hq
  refine P_setSlice h (i := 1) (j := 2) rfl rfl (by decide) (bnd_int (m := A.length) (by omega)) (bnd_int (m := A.length + s.length) (by omega)) (by rw [List.length_map, List.length_map, List.length_append, List.length_append]; omega) fun st h => ?_
  dsimp only [List.set_cons_zero, List.set_cons_succ, List.eraseIdx_cons_zero, List.eraseIdx_cons_succ] at h
  (with_reducible refine k_next ?_; with_reducible refine s_nil ?_; with_reducible refine k_next ?_)
  have e3 : splice ((A ++ (mid ++ D)).map cv) (some A.length) (some (A.length + s.length)) (s.map cv) = (A ++ (s ++ D)).map cv := by
    unfold splice
    rw [← hmid]
    simp only [Option.getD_some, List.length_map, List.length_append, ← List.map_take, ← List.map_drop, ← List.map_append]
    rw [show min A.length (A.length + (mid.length + D.length)) = A.length by omega, show max A.length (min (A.length + mid.length) (A.length + (mid.length + D.length))) = A.length + mid.length by omega]
    simp
  rw [e3] at h
  refine hq _ (h.sub ?_)
  exact .cons_cons _ (.cons_cons _ (.cons _ (.cons_cons _ (.cons _ (.refl _)))))
end
end Mine

set_option autoImplicit false
set_option linter.unusedVariables false
set_option maxRecDepth 10000
set_option maxHeartbeats 4000000
namespace Mine
open PySem
section
variable {n : Nat} {st : St} {L : Held} {c : Cell} {cs ss : List Cell} {a p q i : Nat} {R : V → St → Prop} {K : Me → Prop}
theorem shift_ins {k j r b g : Int} {m s t : Nat} (h : At st ((p, lineO a) :: (a, .list (cs.map cv)) :: L)) (hw : WF cs) (hz : cs.length ≤ 100) (hk : k = m) (hr : r + 1 = (m : Int) + s) (hs : 1 ≤ s) (hm : m + s ≤ cs.length) (hj : 1 ≤ j) (ht : min j s = t)
    (hq : ∀ st', At st' ((p, lineO a) :: (a, .list ((insC cs m s t g).map cv)) :: L) → R .none st') : Post (callF (n + 5) .m_shift [.ref p, .int k, .int j, .int r, pv b g, .bool false] st) R := by
  refine P_callF [(Str.ofString "self", .ref p), (Str.ofString "column", .int k), (Str.ofString "many", .int j), (Str.ofString "right", .int r), (Str.ofString "pen", pv b g), (Str.ofString "is_back", .bool false)] rfl rfl ?_
  ((conv => enter [1, 2]; whnf); (conv => enter [1, 3]; whnf); with_reducible refine s_cons ?_; refine s_assign (by kernel_rfl) (by kernel_rfl) ?_; with_reducible refine e_callB (by kernel_rfl) bl_min ?_; with_reducible refine es_cons ?_; refine e_name (by kernel_rfl) (by with_reducible refine lookS (by kernel_rfl) ?_; with_reducible refine lookS (by kernel_rfl) ?_; with_reducible refine lookS (by kernel_rfl) ?_; with_reducible exact look0) ?_; with_reducible refine es_cons ?_; with_reducible refine e_bin ?_; with_reducible refine e_callB (by kernel_rfl) bl_len ?_; with_reducible refine es_cons ?_; with_reducible refine e_attr (by kernel_rfl) ?_; refine e_name (by kernel_rfl) look0 ?_)
  refine P_cells h ix0 ?_
  (with_reducible refine es_nil ?_)
  refine P_lenC h ix1 ?_
  have hmin : min r ((cs.length : Int) - 1) = r := by omega
  have hk0 : 0 ≤ k := by omega
  have hkr : k ≤ r := by omega
  (with_reducible refine e_int ?_; with_reducible refine v_sub ?_; with_reducible refine es_nil ?_; with_reducible refine b_min ?_; with_reducible refine t_name (by kernel_rfl) rfl ?_; with_reducible refine k_next ?_; with_reducible refine s_cons ?_; with_reducible refine s_if ?_; with_reducible refine c_not ?_; with_reducible refine c_cmp2 (by kernel_rfl) ?_; with_reducible refine e_int ?_; refine e_name (by kernel_rfl) (by with_reducible refine look_skip (by kernel_rfl) ?_; with_reducible refine lookS (by kernel_rfl) ?_; with_reducible exact look0) ?_; with_reducible refine q_le ?_; refine w_yes (by with_reducible refine dt ?_; assumption) ?_; refine e_name (by kernel_rfl) look_hit ?_; with_reducible refine q_le ?_; refine w_no (by with_reducible refine nf ?_; with_reducible refine dt ?_; omega) ?_; with_reducible refine s_nil ?_; with_reducible refine k_next ?_; with_reducible refine s_cons ?_; refine s_assign (by kernel_rfl) (by kernel_rfl) ?_; with_reducible refine e_call (by kernel_rfl) tl_clamp ?_; with_reducible refine es_cons ?_; refine e_name (by kernel_rfl) (by with_reducible refine look_skip (by kernel_rfl) ?_; with_reducible refine lookS (by kernel_rfl) ?_; with_reducible refine lookS (by kernel_rfl) ?_; with_reducible exact look0) ?_; with_reducible refine es_cons ?_; with_reducible refine e_int ?_; with_reducible refine es_cons ?_; with_reducible refine e_bin ?_; with_reducible refine e_bin ?_; refine e_name (by kernel_rfl) look_hit ?_; refine e_name (by kernel_rfl) (by with_reducible refine look_skip (by kernel_rfl) ?_; with_reducible refine lookS (by kernel_rfl) ?_; with_reducible exact look0) ?_; with_reducible refine v_sub ?_; with_reducible refine e_int ?_; with_reducible refine v_add ?_; with_reducible refine es_nil ?_)
  rw [hmin]
  clear hmin
  skip
  refine clamp_ok ?_
  rw [show max 0 (min j (r - k + 1)) = (t : Int) by rw [show r - k + 1 = (s : Int) by omega, ht]; exact Int.max_eq_right (Int.natCast_nonneg t)]
  have hts : t ≤ s := by omega
  have hr2 : r + 1 = ((m + s : Nat) : Int) := hr
  have ht4 : (t : Int) ≤ 4096 := by omega
  clear ht hj hkr hk0
  (with_reducible refine t_name (by kernel_rfl) rfl ?_; with_reducible refine k_next ?_; with_reducible refine s_cons ?_; refine s_assign (by kernel_rfl) (by kernel_rfl) ?_; with_reducible refine e_if ?_; with_reducible refine c_name ?_; refine e_name (by kernel_rfl) (by with_reducible refine look_skip (by kernel_rfl) ?_; with_reducible refine look_skip (by kernel_rfl) ?_; with_reducible refine lookS (by kernel_rfl) ?_; with_reducible refine lookS (by kernel_rfl) ?_; with_reducible refine lookS (by kernel_rfl) ?_; with_reducible refine lookS (by kernel_rfl) ?_; with_reducible refine lookS (by kernel_rfl) ?_; with_reducible exact look0) ?_; with_reducible refine q_truth ?_; refine w_no (by rfl) ?_; with_reducible refine e_tuple ?_; with_reducible refine es_cons ?_; refine e_name (by kernel_rfl) (by with_reducible refine look_skip (by kernel_rfl) ?_; with_reducible refine look_skip (by kernel_rfl) ?_; with_reducible refine lookS (by kernel_rfl) ?_; with_reducible exact look0) ?_; with_reducible refine es_cons ?_; with_reducible refine e_bin ?_; with_reducible refine e_bin ?_; refine e_name (by kernel_rfl) (by with_reducible refine look_skip (by kernel_rfl) ?_; with_reducible exact look_hit) ?_; with_reducible refine e_int ?_; with_reducible refine v_add ?_; refine e_name (by kernel_rfl) look_hit ?_; with_reducible refine v_sub ?_; with_reducible refine es_nil ?_; refine ⟨by kernel_rfl, ?_⟩; with_reducible refine t_tuple (by with_reducible refine bn_cons (by kernel_rfl) ?_; with_reducible refine bn_cons (by kernel_rfl) ?_; with_reducible exact bn_nil) ?_; with_reducible refine k_next ?_; with_reducible refine s_cons ?_; refine s_for (by kernel_rfl) ?_; with_reducible refine e_tuple ?_; with_reducible refine es_cons ?_; refine e_name (by kernel_rfl) (by with_reducible refine look_skip (by kernel_rfl) ?_; with_reducible refine look_skip (by kernel_rfl) ?_; with_reducible refine look_skip (by kernel_rfl) ?_; with_reducible refine look_skip (by kernel_rfl) ?_; with_reducible refine lookS (by kernel_rfl) ?_; with_reducible exact look0) ?_; with_reducible refine es_cons ?_; with_reducible refine e_bin ?_; refine e_name (by kernel_rfl) (by with_reducible refine look_skip (by kernel_rfl) ?_; with_reducible refine look_skip (by kernel_rfl) ?_; with_reducible refine look_skip (by kernel_rfl) ?_; with_reducible exact look_hit) ?_; with_reducible refine e_int ?_; with_reducible refine v_add ?_; with_reducible refine es_cons ?_; refine e_name (by kernel_rfl) (by with_reducible refine look_skip (by kernel_rfl) ?_; with_reducible exact look_hit) ?_; with_reducible refine es_cons ?_; refine e_name (by kernel_rfl) look_hit ?_; with_reducible refine es_nil ?_; refine ⟨by kernel_rfl, ?_⟩; with_reducible refine i_tup ?_; with_reducible refine l_cons (by exact bindT_name (by kernel_rfl)) ?_; with_reducible refine s_cons ?_; with_reducible refine s_expr ?_; with_reducible refine e_meth (by kernel_rfl) ?_; refine e_name (by kernel_rfl) (by with_reducible refine look_skip (by kernel_rfl) ?_; with_reducible refine look_skip (by kernel_rfl) ?_; with_reducible refine look_skip (by kernel_rfl) ?_; with_reducible refine look_skip (by kernel_rfl) ?_; with_reducible refine look_skip (by kernel_rfl) ?_; with_reducible exact look0) ?_)
  refine P_m_part h ix0 ?_
  (with_reducible refine es_cons ?_; refine e_name (by kernel_rfl) look_hit ?_; with_reducible refine es_nil ?_; with_reducible refine m_own ?_)
  refine part_ok h hw hk fun st h => ?_
  (refine ⟨rfl, ?_⟩; with_reducible refine k_next ?_; with_reducible refine s_nil ?_; with_reducible refine k_next ?_; with_reducible refine l_cons (by exact bindT_name (by kernel_rfl)) ?_; with_reducible refine s_cons ?_; with_reducible refine s_expr ?_; with_reducible refine e_meth (by kernel_rfl) ?_; refine e_name (by kernel_rfl) (by with_reducible refine look_skip (by kernel_rfl) ?_; with_reducible refine look_skip (by kernel_rfl) ?_; with_reducible refine look_skip (by kernel_rfl) ?_; with_reducible refine look_skip (by kernel_rfl) ?_; with_reducible refine look_skip (by kernel_rfl) ?_; with_reducible refine look_skip (by kernel_rfl) ?_; with_reducible exact look0) ?_)
  refine P_m_part h ix0 ?_
  (with_reducible refine es_cons ?_; refine e_name (by kernel_rfl) look_hit ?_; with_reducible refine es_nil ?_; with_reducible refine m_own ?_)
  refine part_ok h (hw.cutC m) (m := m + s) (by first | assumption | with_reducible rfl | omega) fun st h => ?_
  (refine ⟨rfl, ?_⟩; with_reducible refine k_next ?_; with_reducible refine s_nil ?_; with_reducible refine k_next ?_; with_reducible refine l_cons (by exact bindT_name (by kernel_rfl)) ?_; with_reducible refine s_cons ?_; with_reducible refine s_expr ?_; with_reducible refine e_meth (by kernel_rfl) ?_; refine e_name (by kernel_rfl) (by with_reducible refine look_skip (by kernel_rfl) ?_; with_reducible refine look_skip (by kernel_rfl) ?_; with_reducible refine look_skip (by kernel_rfl) ?_; with_reducible refine look_skip (by kernel_rfl) ?_; with_reducible refine look_skip (by kernel_rfl) ?_; with_reducible refine look_skip (by kernel_rfl) ?_; with_reducible refine look_skip (by kernel_rfl) ?_; with_reducible exact look0) ?_)
  have hA : (fixL (cs.take m)).length = m := by rw [fixL_len, List.length_take]; exact Nat.min_eq_left (Nat.le_trans (Nat.le_add_right m s) hm)
  have hM := midC_len cs hm
  have hD : (fixH (cs.drop (m + s))).length = cs.length - (m + s) := by rw [fixH_len, List.length_drop]
  have wA := (hw.cut m).1
  have wM := hw.mid m s
  have wD := (hw.cut (m + s)).2
  rw [cut_two cs hs hm] at h
  unfold insC at hq
  generalize fixL (cs.take m) = A at h hq hA wA
  generalize midC cs m s = M at h hq hM wM
  generalize fixH (cs.drop (m + s)) = D at h hq hD wD
  have hAm : A.length ≤ m := Nat.le_of_eq hA
  have hA0 : m = A.length + 0 := hA.symm
  have hAM : m + s = A.length + M.length := by rw [hA, hM]
  have hsM : s ≤ M.length := Nat.le_of_eq hM.symm
  have h0M : 0 ≤ M.length := Nat.zero_le _
  have hlen : A.length + (M.length + D.length) = cs.length := by rw [hA, hM, hD, ← Nat.add_assoc]; exact Nat.add_sub_cancel' hm
  have hAe : m + (s - t) = A.length + (s - t) := by rw [hA]
  have hstM : s - t ≤ M.length := Nat.le_trans (Nat.sub_le s t) hsM
  have hr3 : r + 1 - (t : Int) = ((m + (s - t) : Nat) : Int) := by omega
  have wAll : WF (A ++ (M ++ D)) := wA.append (wM.append wD)
  refine P_m_part h ix0 ?_
  (with_reducible refine es_cons ?_; refine e_name (by kernel_rfl) look_hit ?_; with_reducible refine es_nil ?_; with_reducible refine m_own ?_)
  refine part_ok h wAll hk fun st h => ?_
  (refine ⟨rfl, ?_⟩; with_reducible refine k_next ?_; with_reducible refine s_nil ?_; with_reducible refine k_next ?_; with_reducible refine l_cons (by exact bindT_name (by kernel_rfl)) ?_; with_reducible refine s_cons ?_; with_reducible refine s_expr ?_; with_reducible refine e_meth (by kernel_rfl) ?_; refine e_name (by kernel_rfl) (by with_reducible refine look_skip (by kernel_rfl) ?_; with_reducible refine look_skip (by kernel_rfl) ?_; with_reducible refine look_skip (by kernel_rfl) ?_; with_reducible refine look_skip (by kernel_rfl) ?_; with_reducible refine look_skip (by kernel_rfl) ?_; with_reducible refine look_skip (by kernel_rfl) ?_; with_reducible refine look_skip (by kernel_rfl) ?_; with_reducible refine look_skip (by kernel_rfl) ?_; with_reducible exact look0) ?_)
  rw [cut_in wA wM wD (t := 0) (by first | assumption | with_reducible rfl | omega) (by first | assumption | with_reducible rfl | omega), wM.cut_zero] at h
  refine P_m_part h ix0 ?_
  (with_reducible refine es_cons ?_; refine e_name (by kernel_rfl) look_hit ?_; with_reducible refine es_nil ?_; with_reducible refine m_own ?_)
  refine part_ok h wAll (m := m + (s - t)) (by first | assumption | with_reducible rfl | omega) fun st h => ?_
  (refine ⟨rfl, ?_⟩; with_reducible refine k_next ?_; with_reducible refine s_nil ?_; with_reducible refine k_next ?_; with_reducible refine l_nil ?_; with_reducible refine k_next ?_; with_reducible refine s_cons ?_; refine s_assign (by kernel_rfl) (by kernel_rfl) ?_; with_reducible refine e_tuple ?_; with_reducible refine es_cons ?_; with_reducible refine e_slice ?_; with_reducible refine e_attr (by kernel_rfl) ?_; refine e_name (by kernel_rfl) (by with_reducible refine look_skip (by kernel_rfl) ?_; with_reducible refine look_skip (by kernel_rfl) ?_; with_reducible refine look_skip (by kernel_rfl) ?_; with_reducible refine look_skip (by kernel_rfl) ?_; with_reducible refine look_skip (by kernel_rfl) ?_; with_reducible refine look_skip (by kernel_rfl) ?_; with_reducible refine look_skip (by kernel_rfl) ?_; with_reducible refine look_skip (by kernel_rfl) ?_; with_reducible exact look0) ?_)
  rw [cut_in wA wM wD (t := s - t) (by first | assumption | with_reducible rfl | omega) (by first | assumption | with_reducible rfl | omega)] at h
  refine P_cells h ix0 ?_
  (with_reducible refine o_some ?_; refine e_name (by kernel_rfl) (by with_reducible refine look_skip (by kernel_rfl) ?_; with_reducible refine look_skip (by kernel_rfl) ?_; with_reducible refine look_skip (by kernel_rfl) ?_; with_reducible refine look_skip (by kernel_rfl) ?_; with_reducible refine look_skip (by kernel_rfl) ?_; with_reducible exact look_hit) ?_; with_reducible refine o_some ?_; refine e_name (by kernel_rfl) (by with_reducible refine look_skip (by kernel_rfl) ?_; with_reducible refine look_skip (by kernel_rfl) ?_; with_reducible refine look_skip (by kernel_rfl) ?_; with_reducible refine look_skip (by kernel_rfl) ?_; with_reducible exact look_hit) ?_)
  have hC : (cutC M (s - t)).length = M.length := cutC_len ..
  have hstC : s - t ≤ (cutC M (s - t)).length := hC ▸ hstM
  refine P_sliceL h ix1 (bnd_int (m := m) (by first | assumption | with_reducible rfl | omega)) (bnd_int (m := m + (s - t)) (by first | assumption | with_reducible rfl | omega)) (by simp only [List.length_map, List.length_append, hC]; rw [hlen]; exact Nat.le_trans hz (Nat.le_of_ble_eq_true rfl)) fun f st h => ?_
  have e1 : cut ((A ++ (cutC M (s - t) ++ D)).map cv) (some m) (some (m + (s - t))) = (fixL (M.take (s - t))).map cv := by
    unfold cut
    simp only [Option.getD_some, ← List.map_take, ← List.map_drop]
    congr 1
    rw [List.drop_append, List.drop_of_length_le (by first | assumption | with_reducible rfl | omega), show m - A.length = 0 by rw [hA, Nat.sub_self], List.drop_zero, List.nil_append, Nat.add_sub_cancel_left, List.take_append_of_le_length (by first | assumption | with_reducible rfl | omega), cutC_take _ _ (by first | assumption | with_reducible rfl | omega)]
  rw [e1] at h
  (with_reducible refine es_cons ?_; with_reducible refine e_call (by kernel_rfl) tl_line_blanks ?_; with_reducible refine es_cons ?_; refine e_name (by kernel_rfl) (by with_reducible refine look_skip (by kernel_rfl) ?_; with_reducible refine look_skip (by kernel_rfl) ?_; with_reducible refine look_skip (by kernel_rfl) ?_; with_reducible refine look_skip (by kernel_rfl) ?_; with_reducible refine look_skip (by kernel_rfl) ?_; with_reducible refine look_skip (by kernel_rfl) ?_; with_reducible exact look_hit) ?_; with_reducible refine es_cons ?_; refine e_name (by kernel_rfl) (by with_reducible refine look_skip (by kernel_rfl) ?_; with_reducible refine look_skip (by kernel_rfl) ?_; with_reducible refine look_skip (by kernel_rfl) ?_; with_reducible refine look_skip (by kernel_rfl) ?_; with_reducible refine look_skip (by kernel_rfl) ?_; with_reducible refine look_skip (by kernel_rfl) ?_; with_reducible refine look_skip (by kernel_rfl) ?_; with_reducible refine look_skip (by kernel_rfl) ?_; with_reducible refine lookS (by kernel_rfl) ?_; with_reducible refine lookS (by kernel_rfl) ?_; with_reducible refine lookS (by kernel_rfl) ?_; with_reducible refine lookS (by kernel_rfl) ?_; with_reducible exact look0) ?_; with_reducible refine es_nil ?_)
  refine line_blanks_ok h (by first | assumption | with_reducible rfl | omega) fun e st h => ?_
  (with_reducible refine es_nil ?_; refine ⟨by kernel_rfl, ?_⟩; with_reducible refine t_tuple (by with_reducible refine bn_cons (by kernel_rfl) ?_; with_reducible refine bn_cons (by kernel_rfl) ?_; with_reducible exact bn_nil) ?_; with_reducible refine k_next ?_; with_reducible refine s_cons ?_; refine s_assign (by kernel_rfl) (by kernel_rfl) ?_; with_reducible refine e_if ?_; with_reducible refine c_name ?_; refine e_name (by kernel_rfl) (by with_reducible refine look_skip (by kernel_rfl) ?_; with_reducible refine look_skip (by kernel_rfl) ?_; with_reducible refine look_skip (by kernel_rfl) ?_; with_reducible refine look_skip (by kernel_rfl) ?_; with_reducible refine look_skip (by kernel_rfl) ?_; with_reducible refine look_skip (by kernel_rfl) ?_; with_reducible refine look_skip (by kernel_rfl) ?_; with_reducible refine look_skip (by kernel_rfl) ?_; with_reducible refine look_skip (by kernel_rfl) ?_; with_reducible refine look_skip (by kernel_rfl) ?_; with_reducible refine lookS (by kernel_rfl) ?_; with_reducible refine lookS (by kernel_rfl) ?_; with_reducible refine lookS (by kernel_rfl) ?_; with_reducible refine lookS (by kernel_rfl) ?_; with_reducible refine lookS (by kernel_rfl) ?_; with_reducible exact look0) ?_; with_reducible refine q_truth ?_; refine w_no (by rfl) ?_; with_reducible refine e_bin ?_; refine e_name (by kernel_rfl) look_hit ?_; refine e_name (by kernel_rfl) (by with_reducible refine look_skip (by kernel_rfl) ?_; with_reducible exact look_hit) ?_)
  rw [Int.toNat_natCast] at h
  refine P_addL h (i := 0) (j := 1) rfl rfl (by simp only [List.length_map, List.length_replicate, fixL_len, List.length_take]; rw [hM, Nat.min_eq_left (Nat.sub_le s t), Nat.add_sub_cancel' hts]; exact Nat.le_trans (Nat.le_add_left s m) (Nat.le_trans hm (Nat.le_trans hz (Nat.le_of_ble_eq_true rfl)))) fun u st h => ?_
  (with_reducible refine t_slice ?_; with_reducible refine e_attr (by kernel_rfl) ?_; refine e_name (by kernel_rfl) (by with_reducible refine look_skip (by kernel_rfl) ?_; with_reducible refine look_skip (by kernel_rfl) ?_; with_reducible refine look_skip (by kernel_rfl) ?_; with_reducible refine look_skip (by kernel_rfl) ?_; with_reducible refine look_skip (by kernel_rfl) ?_; with_reducible refine look_skip (by kernel_rfl) ?_; with_reducible refine look_skip (by kernel_rfl) ?_; with_reducible refine look_skip (by kernel_rfl) ?_; with_reducible refine look_skip (by kernel_rfl) ?_; with_reducible refine look_skip (by kernel_rfl) ?_; with_reducible exact look0) ?_)
  refine P_cells h ix3 ?_
  (with_reducible refine o_some ?_; refine e_name (by kernel_rfl) (by with_reducible refine look_skip (by kernel_rfl) ?_; with_reducible refine look_skip (by kernel_rfl) ?_; with_reducible refine look_skip (by kernel_rfl) ?_; with_reducible refine look_skip (by kernel_rfl) ?_; with_reducible refine look_skip (by kernel_rfl) ?_; with_reducible refine look_skip (by kernel_rfl) ?_; with_reducible refine look_skip (by kernel_rfl) ?_; with_reducible refine look_skip (by kernel_rfl) ?_; with_reducible refine look_skip (by kernel_rfl) ?_; with_reducible refine look_skip (by kernel_rfl) ?_; with_reducible refine lookS (by kernel_rfl) ?_; with_reducible exact look0) ?_; with_reducible refine o_some ?_; with_reducible refine e_bin ?_; refine e_name (by kernel_rfl) (by with_reducible refine look_skip (by kernel_rfl) ?_; with_reducible refine look_skip (by kernel_rfl) ?_; with_reducible refine look_skip (by kernel_rfl) ?_; with_reducible refine look_skip (by kernel_rfl) ?_; with_reducible refine look_skip (by kernel_rfl) ?_; with_reducible refine look_skip (by kernel_rfl) ?_; with_reducible refine look_skip (by kernel_rfl) ?_; with_reducible refine look_skip (by kernel_rfl) ?_; with_reducible refine look_skip (by kernel_rfl) ?_; with_reducible exact look_hit) ?_; with_reducible refine e_int ?_; with_reducible refine v_add ?_)
  rw [← List.map_append] at h
  have hl : (List.replicate t (blankC g) ++ fixL (M.take (s - t))).length = s := by
    rw [List.length_append, List.length_replicate, fixL_len, List.length_take, hM, Nat.min_eq_left (Nat.sub_le s t), Nat.add_sub_cancel' hts]
  generalize List.replicate t (blankC g) ++ fixL (M.take (s - t)) = B at h hq hl
  refine P_setSlice h (i := 4) (j := 0) rfl rfl (by decide) (bnd_int (m := m) (by first | assumption | with_reducible rfl | omega)) (bnd_int (m := m + s) (by first | assumption | with_reducible rfl | omega)) (by simp only [List.length_map, List.length_append, hC, hl]; rw [hlen]; exact Nat.le_trans (Nat.add_le_add hz (Nat.le_trans (Nat.le_add_left s m) (Nat.le_trans hm hz))) (Nat.le_of_ble_eq_true rfl)) fun st h => ?_
  dsimp only [List.set_cons_zero, List.set_cons_succ, List.eraseIdx_cons_zero, List.eraseIdx_cons_succ] at h
  have e2 : splice ((A ++ (cutC M (s - t) ++ D)).map cv) (some m) (some (m + s)) (B.map cv) = (A ++ (B ++ D)).map cv := by
    unfold splice
    simp only [Option.getD_some, List.map_append]
    exact splice_mid _ _ _ _ (by simpa using hA.symm) (by rw [List.length_map, List.length_map, hC]; exact hAM)
  rw [e2] at h
  (with_reducible refine k_next ?_; with_reducible refine s_nil ?_; with_reducible refine k_next ?_)
  refine hq _ (h.sub ?_)
  exact .cons _ (.cons _ (.cons _ (.refl _)))
theorem shift_del {k j r b g : Int} {m s t : Nat} (h : At st ((p, lineO a) :: (a, .list (cs.map cv)) :: L)) (hw : WF cs) (hz : cs.length ≤ 100) (hk : k = m) (hr : r + 1 = (m : Int) + s) (hs : 1 ≤ s) (hm : m + s ≤ cs.length) (hj : 1 ≤ j) (ht : min j s = t)
    (hq : ∀ st', At st' ((p, lineO a) :: (a, .list ((delC cs m s t g).map cv)) :: L) → R .none st') : Post (callF (n + 5) .m_shift [.ref p, .int k, .int j, .int r, pv b g, .bool true] st) R := by
  refine P_callF [(Str.ofString "self", .ref p), (Str.ofString "column", .int k), (Str.ofString "many", .int j), (Str.ofString "right", .int r), (Str.ofString "pen", pv b g), (Str.ofString "is_back", .bool true)] rfl rfl ?_
  ((conv => enter [1, 2]; whnf); (conv => enter [1, 3]; whnf); with_reducible refine s_cons ?_; refine s_assign (by kernel_rfl) (by kernel_rfl) ?_; with_reducible refine e_callB (by kernel_rfl) bl_min ?_; with_reducible refine es_cons ?_; refine e_name (by kernel_rfl) (by with_reducible refine lookS (by kernel_rfl) ?_; with_reducible refine lookS (by kernel_rfl) ?_; with_reducible refine lookS (by kernel_rfl) ?_; with_reducible exact look0) ?_; with_reducible refine es_cons ?_; with_reducible refine e_bin ?_; with_reducible refine e_callB (by kernel_rfl) bl_len ?_; with_reducible refine es_cons ?_; with_reducible refine e_attr (by kernel_rfl) ?_; refine e_name (by kernel_rfl) look0 ?_)
  refine P_cells h ix0 ?_
  (with_reducible refine es_nil ?_)
  refine P_lenC h ix1 ?_
  have hmin : min r ((cs.length : Int) - 1) = r := by omega
  have hk0 : 0 ≤ k := by omega
  have hkr : k ≤ r := by omega
  (with_reducible refine e_int ?_; with_reducible refine v_sub ?_; with_reducible refine es_nil ?_; with_reducible refine b_min ?_; with_reducible refine t_name (by kernel_rfl) rfl ?_; with_reducible refine k_next ?_; with_reducible refine s_cons ?_; with_reducible refine s_if ?_; with_reducible refine c_not ?_; with_reducible refine c_cmp2 (by kernel_rfl) ?_; with_reducible refine e_int ?_; refine e_name (by kernel_rfl) (by with_reducible refine look_skip (by kernel_rfl) ?_; with_reducible refine lookS (by kernel_rfl) ?_; with_reducible exact look0) ?_; with_reducible refine q_le ?_; refine w_yes (by with_reducible refine dt ?_; assumption) ?_; refine e_name (by kernel_rfl) look_hit ?_; with_reducible refine q_le ?_; refine w_no (by with_reducible refine nf ?_; with_reducible refine dt ?_; omega) ?_; with_reducible refine s_nil ?_; with_reducible refine k_next ?_; with_reducible refine s_cons ?_; refine s_assign (by kernel_rfl) (by kernel_rfl) ?_; with_reducible refine e_call (by kernel_rfl) tl_clamp ?_; with_reducible refine es_cons ?_; refine e_name (by kernel_rfl) (by with_reducible refine look_skip (by kernel_rfl) ?_; with_reducible refine lookS (by kernel_rfl) ?_; with_reducible refine lookS (by kernel_rfl) ?_; with_reducible exact look0) ?_; with_reducible refine es_cons ?_; with_reducible refine e_int ?_; with_reducible refine es_cons ?_; with_reducible refine e_bin ?_; with_reducible refine e_bin ?_; refine e_name (by kernel_rfl) look_hit ?_; refine e_name (by kernel_rfl) (by with_reducible refine look_skip (by kernel_rfl) ?_; with_reducible refine lookS (by kernel_rfl) ?_; with_reducible exact look0) ?_; with_reducible refine v_sub ?_; with_reducible refine e_int ?_; with_reducible refine v_add ?_; with_reducible refine es_nil ?_)
  rw [hmin]
  clear hmin
  skip
  refine clamp_ok ?_
  rw [show max 0 (min j (r - k + 1)) = (t : Int) by rw [show r - k + 1 = (s : Int) by omega, ht]; exact Int.max_eq_right (Int.natCast_nonneg t)]
  have hts : t ≤ s := by omega
  have hr2 : r + 1 = ((m + s : Nat) : Int) := hr
  have ht4 : (t : Int) ≤ 4096 := by omega
  clear ht hj hkr hk0
  (with_reducible refine t_name (by kernel_rfl) rfl ?_; with_reducible refine k_next ?_; with_reducible refine s_cons ?_; refine s_assign (by kernel_rfl) (by kernel_rfl) ?_; with_reducible refine e_if ?_; with_reducible refine c_name ?_; refine e_name (by kernel_rfl) (by with_reducible refine look_skip (by kernel_rfl) ?_; with_reducible refine look_skip (by kernel_rfl) ?_; with_reducible refine lookS (by kernel_rfl) ?_; with_reducible refine lookS (by kernel_rfl) ?_; with_reducible refine lookS (by kernel_rfl) ?_; with_reducible refine lookS (by kernel_rfl) ?_; with_reducible refine lookS (by kernel_rfl) ?_; with_reducible exact look0) ?_; with_reducible refine q_truth ?_; refine w_yes (by rfl) ?_; with_reducible refine e_tuple ?_; with_reducible refine es_cons ?_; with_reducible refine e_bin ?_; refine e_name (by kernel_rfl) (by with_reducible refine look_skip (by kernel_rfl) ?_; with_reducible refine look_skip (by kernel_rfl) ?_; with_reducible refine lookS (by kernel_rfl) ?_; with_reducible exact look0) ?_; refine e_name (by kernel_rfl) look_hit ?_; with_reducible refine v_add ?_; with_reducible refine es_cons ?_; with_reducible refine e_bin ?_; refine e_name (by kernel_rfl) (by with_reducible refine look_skip (by kernel_rfl) ?_; with_reducible exact look_hit) ?_; with_reducible refine e_int ?_; with_reducible refine v_add ?_; with_reducible refine es_nil ?_; refine ⟨by kernel_rfl, ?_⟩; with_reducible refine t_tuple (by with_reducible refine bn_cons (by kernel_rfl) ?_; with_reducible refine bn_cons (by kernel_rfl) ?_; with_reducible exact bn_nil) ?_; with_reducible refine k_next ?_; with_reducible refine s_cons ?_; refine s_for (by kernel_rfl) ?_; with_reducible refine e_tuple ?_; with_reducible refine es_cons ?_; refine e_name (by kernel_rfl) (by with_reducible refine look_skip (by kernel_rfl) ?_; with_reducible refine look_skip (by kernel_rfl) ?_; with_reducible refine look_skip (by kernel_rfl) ?_; with_reducible refine look_skip (by kernel_rfl) ?_; with_reducible refine lookS (by kernel_rfl) ?_; with_reducible exact look0) ?_; with_reducible refine es_cons ?_; with_reducible refine e_bin ?_; refine e_name (by kernel_rfl) (by with_reducible refine look_skip (by kernel_rfl) ?_; with_reducible refine look_skip (by kernel_rfl) ?_; with_reducible refine look_skip (by kernel_rfl) ?_; with_reducible exact look_hit) ?_; with_reducible refine e_int ?_; with_reducible refine v_add ?_; with_reducible refine es_cons ?_; refine e_name (by kernel_rfl) (by with_reducible refine look_skip (by kernel_rfl) ?_; with_reducible exact look_hit) ?_; with_reducible refine es_cons ?_; refine e_name (by kernel_rfl) look_hit ?_; with_reducible refine es_nil ?_; refine ⟨by kernel_rfl, ?_⟩; with_reducible refine i_tup ?_; with_reducible refine l_cons (by exact bindT_name (by kernel_rfl)) ?_; with_reducible refine s_cons ?_; with_reducible refine s_expr ?_; with_reducible refine e_meth (by kernel_rfl) ?_; refine e_name (by kernel_rfl) (by with_reducible refine look_skip (by kernel_rfl) ?_; with_reducible refine look_skip (by kernel_rfl) ?_; with_reducible refine look_skip (by kernel_rfl) ?_; with_reducible refine look_skip (by kernel_rfl) ?_; with_reducible refine look_skip (by kernel_rfl) ?_; with_reducible exact look0) ?_)
  refine P_m_part h ix0 ?_
  (with_reducible refine es_cons ?_; refine e_name (by kernel_rfl) look_hit ?_; with_reducible refine es_nil ?_; with_reducible refine m_own ?_)
  refine part_ok h hw hk fun st h => ?_
  (refine ⟨rfl, ?_⟩; with_reducible refine k_next ?_; with_reducible refine s_nil ?_; with_reducible refine k_next ?_; with_reducible refine l_cons (by exact bindT_name (by kernel_rfl)) ?_; with_reducible refine s_cons ?_; with_reducible refine s_expr ?_; with_reducible refine e_meth (by kernel_rfl) ?_; refine e_name (by kernel_rfl) (by with_reducible refine look_skip (by kernel_rfl) ?_; with_reducible refine look_skip (by kernel_rfl) ?_; with_reducible refine look_skip (by kernel_rfl) ?_; with_reducible refine look_skip (by kernel_rfl) ?_; with_reducible refine look_skip (by kernel_rfl) ?_; with_reducible refine look_skip (by kernel_rfl) ?_; with_reducible exact look0) ?_)
  refine P_m_part h ix0 ?_
  (with_reducible refine es_cons ?_; refine e_name (by kernel_rfl) look_hit ?_; with_reducible refine es_nil ?_; with_reducible refine m_own ?_)
  refine part_ok h (hw.cutC m) (m := m + s) (by first | assumption | with_reducible rfl | omega) fun st h => ?_
  (refine ⟨rfl, ?_⟩; with_reducible refine k_next ?_; with_reducible refine s_nil ?_; with_reducible refine k_next ?_; with_reducible refine l_cons (by exact bindT_name (by kernel_rfl)) ?_; with_reducible refine s_cons ?_; with_reducible refine s_expr ?_; with_reducible refine e_meth (by kernel_rfl) ?_; refine e_name (by kernel_rfl) (by with_reducible refine look_skip (by kernel_rfl) ?_; with_reducible refine look_skip (by kernel_rfl) ?_; with_reducible refine look_skip (by kernel_rfl) ?_; with_reducible refine look_skip (by kernel_rfl) ?_; with_reducible refine look_skip (by kernel_rfl) ?_; with_reducible refine look_skip (by kernel_rfl) ?_; with_reducible refine look_skip (by kernel_rfl) ?_; with_reducible exact look0) ?_)
  have hA : (fixL (cs.take m)).length = m := by rw [fixL_len, List.length_take]; exact Nat.min_eq_left (Nat.le_trans (Nat.le_add_right m s) hm)
  have hM := midC_len cs hm
  have hD : (fixH (cs.drop (m + s))).length = cs.length - (m + s) := by rw [fixH_len, List.length_drop]
  have wA := (hw.cut m).1
  have wM := hw.mid m s
  have wD := (hw.cut (m + s)).2
  rw [cut_two cs hs hm] at h
  unfold delC at hq
  generalize fixL (cs.take m) = A at h hq hA wA
  generalize midC cs m s = M at h hq hM wM
  generalize fixH (cs.drop (m + s)) = D at h hq hD wD
  have hAm : A.length ≤ m := Nat.le_of_eq hA
  have hA0 : m = A.length + 0 := hA.symm
  have hAM : m + s = A.length + M.length := by rw [hA, hM]
  have hsM : s ≤ M.length := Nat.le_of_eq hM.symm
  have h0M : 0 ≤ M.length := Nat.zero_le _
  have hlen : A.length + (M.length + D.length) = cs.length := by rw [hA, hM, hD, ← Nat.add_assoc]; exact Nat.add_sub_cancel' hm
  have hAt : m + t = A.length + t := by rw [hA]
  have htM : t ≤ M.length := Nat.le_trans hts hsM
  have hAs : m + s = A.length + s := by rw [hA]
  have wAll : WF (A ++ (M ++ D)) := wA.append (wM.append wD)
  refine P_m_part h ix0 ?_
  (with_reducible refine es_cons ?_; refine e_name (by kernel_rfl) look_hit ?_; with_reducible refine es_nil ?_; with_reducible refine m_own ?_)
  refine part_ok h wAll (m := m + t) (by first | assumption | with_reducible rfl | omega) fun st h => ?_
  (refine ⟨rfl, ?_⟩; with_reducible refine k_next ?_; with_reducible refine s_nil ?_; with_reducible refine k_next ?_; with_reducible refine l_cons (by exact bindT_name (by kernel_rfl)) ?_; with_reducible refine s_cons ?_; with_reducible refine s_expr ?_; with_reducible refine e_meth (by kernel_rfl) ?_; refine e_name (by kernel_rfl) (by with_reducible refine look_skip (by kernel_rfl) ?_; with_reducible refine look_skip (by kernel_rfl) ?_; with_reducible refine look_skip (by kernel_rfl) ?_; with_reducible refine look_skip (by kernel_rfl) ?_; with_reducible refine look_skip (by kernel_rfl) ?_; with_reducible refine look_skip (by kernel_rfl) ?_; with_reducible refine look_skip (by kernel_rfl) ?_; with_reducible refine look_skip (by kernel_rfl) ?_; with_reducible exact look0) ?_)
  rw [cut_in wA wM wD (t := t) (by first | assumption | with_reducible rfl | omega) (by first | assumption | with_reducible rfl | omega)] at h
  have wC : WF (cutC M t) := wM.cutC t
  have hC : (cutC M t).length = M.length := cutC_len ..
  have htC : t ≤ (cutC M t).length := hC ▸ htM
  have hsC : s ≤ (cutC M t).length := hC ▸ hsM
  have hCs : (cutC M t).length ≤ s := hC ▸ Nat.le_of_eq hM
  refine P_m_part h ix0 ?_
  (with_reducible refine es_cons ?_; refine e_name (by kernel_rfl) look_hit ?_; with_reducible refine es_nil ?_; with_reducible refine m_own ?_)
  refine part_ok h (wA.append (wC.append wD)) (m := m + s) (by first | assumption | with_reducible rfl | omega) fun st h => ?_
  (refine ⟨rfl, ?_⟩; with_reducible refine k_next ?_; with_reducible refine s_nil ?_; with_reducible refine k_next ?_; with_reducible refine l_nil ?_; with_reducible refine k_next ?_; with_reducible refine s_cons ?_; refine s_assign (by kernel_rfl) (by kernel_rfl) ?_; with_reducible refine e_tuple ?_; with_reducible refine es_cons ?_; with_reducible refine e_slice ?_; with_reducible refine e_attr (by kernel_rfl) ?_; refine e_name (by kernel_rfl) (by with_reducible refine look_skip (by kernel_rfl) ?_; with_reducible refine look_skip (by kernel_rfl) ?_; with_reducible refine look_skip (by kernel_rfl) ?_; with_reducible refine look_skip (by kernel_rfl) ?_; with_reducible refine look_skip (by kernel_rfl) ?_; with_reducible refine look_skip (by kernel_rfl) ?_; with_reducible refine look_skip (by kernel_rfl) ?_; with_reducible refine look_skip (by kernel_rfl) ?_; with_reducible exact look0) ?_)
  rw [cut_in wA wC wD (t := s) (by first | assumption | with_reducible rfl | omega) (by first | assumption | with_reducible rfl | omega), wC.cut_end (by first | assumption | with_reducible rfl | omega)] at h
  refine P_cells h ix0 ?_
  (with_reducible refine o_some ?_; refine e_name (by kernel_rfl) (by with_reducible refine look_skip (by kernel_rfl) ?_; with_reducible refine look_skip (by kernel_rfl) ?_; with_reducible refine look_skip (by kernel_rfl) ?_; with_reducible refine look_skip (by kernel_rfl) ?_; with_reducible refine look_skip (by kernel_rfl) ?_; with_reducible exact look_hit) ?_; with_reducible refine o_some ?_; refine e_name (by kernel_rfl) (by with_reducible refine look_skip (by kernel_rfl) ?_; with_reducible refine look_skip (by kernel_rfl) ?_; with_reducible refine look_skip (by kernel_rfl) ?_; with_reducible refine look_skip (by kernel_rfl) ?_; with_reducible exact look_hit) ?_)
  refine P_sliceL h ix1 (bnd_int (m := m + t) (by first | assumption | with_reducible rfl | omega)) (bnd_int (m := m + s) (by first | assumption | with_reducible rfl | omega)) (by simp only [List.length_map, List.length_append, hC]; rw [hlen]; exact Nat.le_trans hz (Nat.le_of_ble_eq_true rfl)) fun f st h => ?_
  have e1 : cut ((A ++ (cutC M t ++ D)).map cv) (some (m + t)) (some (m + s)) = (fixH (M.drop t)).map cv := by
    unfold cut
    simp only [Option.getD_some, ← List.map_take, ← List.map_drop]
    congr 1
    rw [List.drop_append, List.drop_of_length_le (by first | assumption | with_reducible rfl | omega), show m + t - A.length = t by rw [hA, Nat.add_sub_cancel_left], List.nil_append, Nat.add_sub_add_left, List.drop_append_of_le_length (by first | assumption | with_reducible rfl | omega), cutC_drop _ _ (by first | assumption | with_reducible rfl | omega), List.take_append_of_le_length (by rw [fixH_len, List.length_drop]; omega), List.take_of_length_le (by rw [fixH_len, List.length_drop]; omega)]
  rw [e1] at h
  (with_reducible refine es_cons ?_; with_reducible refine e_call (by kernel_rfl) tl_line_blanks ?_; with_reducible refine es_cons ?_; refine e_name (by kernel_rfl) (by with_reducible refine look_skip (by kernel_rfl) ?_; with_reducible refine look_skip (by kernel_rfl) ?_; with_reducible refine look_skip (by kernel_rfl) ?_; with_reducible refine look_skip (by kernel_rfl) ?_; with_reducible refine look_skip (by kernel_rfl) ?_; with_reducible refine look_skip (by kernel_rfl) ?_; with_reducible exact look_hit) ?_; with_reducible refine es_cons ?_; refine e_name (by kernel_rfl) (by with_reducible refine look_skip (by kernel_rfl) ?_; with_reducible refine look_skip (by kernel_rfl) ?_; with_reducible refine look_skip (by kernel_rfl) ?_; with_reducible refine look_skip (by kernel_rfl) ?_; with_reducible refine look_skip (by kernel_rfl) ?_; with_reducible refine look_skip (by kernel_rfl) ?_; with_reducible refine look_skip (by kernel_rfl) ?_; with_reducible refine look_skip (by kernel_rfl) ?_; with_reducible refine lookS (by kernel_rfl) ?_; with_reducible refine lookS (by kernel_rfl) ?_; with_reducible refine lookS (by kernel_rfl) ?_; with_reducible refine lookS (by kernel_rfl) ?_; with_reducible exact look0) ?_; with_reducible refine es_nil ?_)
  refine line_blanks_ok h (by first | assumption | with_reducible rfl | omega) fun e st h => ?_
  (with_reducible refine es_nil ?_; refine ⟨by kernel_rfl, ?_⟩; with_reducible refine t_tuple (by with_reducible refine bn_cons (by kernel_rfl) ?_; with_reducible refine bn_cons (by kernel_rfl) ?_; with_reducible exact bn_nil) ?_; with_reducible refine k_next ?_; with_reducible refine s_cons ?_; refine s_assign (by kernel_rfl) (by kernel_rfl) ?_; with_reducible refine e_if ?_; with_reducible refine c_name ?_; refine e_name (by kernel_rfl) (by with_reducible refine look_skip (by kernel_rfl) ?_; with_reducible refine look_skip (by kernel_rfl) ?_; with_reducible refine look_skip (by kernel_rfl) ?_; with_reducible refine look_skip (by kernel_rfl) ?_; with_reducible refine look_skip (by kernel_rfl) ?_; with_reducible refine look_skip (by kernel_rfl) ?_; with_reducible refine look_skip (by kernel_rfl) ?_; with_reducible refine look_skip (by kernel_rfl) ?_; with_reducible refine look_skip (by kernel_rfl) ?_; with_reducible refine look_skip (by kernel_rfl) ?_; with_reducible refine lookS (by kernel_rfl) ?_; with_reducible refine lookS (by kernel_rfl) ?_; with_reducible refine lookS (by kernel_rfl) ?_; with_reducible refine lookS (by kernel_rfl) ?_; with_reducible refine lookS (by kernel_rfl) ?_; with_reducible exact look0) ?_; with_reducible refine q_truth ?_; refine w_yes (by rfl) ?_; with_reducible refine e_bin ?_; refine e_name (by kernel_rfl) (by with_reducible refine look_skip (by kernel_rfl) ?_; with_reducible exact look_hit) ?_; refine e_name (by kernel_rfl) look_hit ?_)
  rw [Int.toNat_natCast] at h
  refine P_addL h (i := 1) (j := 0) rfl rfl (by simp only [List.length_map, List.length_replicate, fixH_len, List.length_drop]; rw [hM, Nat.sub_add_cancel hts]; exact Nat.le_trans (Nat.le_add_left s m) (Nat.le_trans hm (Nat.le_trans hz (Nat.le_of_ble_eq_true rfl)))) fun u st h => ?_
  (with_reducible refine t_slice ?_; with_reducible refine e_attr (by kernel_rfl) ?_; refine e_name (by kernel_rfl) (by with_reducible refine look_skip (by kernel_rfl) ?_; with_reducible refine look_skip (by kernel_rfl) ?_; with_reducible refine look_skip (by kernel_rfl) ?_; with_reducible refine look_skip (by kernel_rfl) ?_; with_reducible refine look_skip (by kernel_rfl) ?_; with_reducible refine look_skip (by kernel_rfl) ?_; with_reducible refine look_skip (by kernel_rfl) ?_; with_reducible refine look_skip (by kernel_rfl) ?_; with_reducible refine look_skip (by kernel_rfl) ?_; with_reducible refine look_skip (by kernel_rfl) ?_; with_reducible exact look0) ?_)
  refine P_cells h ix3 ?_
  (with_reducible refine o_some ?_; refine e_name (by kernel_rfl) (by with_reducible refine look_skip (by kernel_rfl) ?_; with_reducible refine look_skip (by kernel_rfl) ?_; with_reducible refine look_skip (by kernel_rfl) ?_; with_reducible refine look_skip (by kernel_rfl) ?_; with_reducible refine look_skip (by kernel_rfl) ?_; with_reducible refine look_skip (by kernel_rfl) ?_; with_reducible refine look_skip (by kernel_rfl) ?_; with_reducible refine look_skip (by kernel_rfl) ?_; with_reducible refine look_skip (by kernel_rfl) ?_; with_reducible refine look_skip (by kernel_rfl) ?_; with_reducible refine lookS (by kernel_rfl) ?_; with_reducible exact look0) ?_; with_reducible refine o_some ?_; with_reducible refine e_bin ?_; refine e_name (by kernel_rfl) (by with_reducible refine look_skip (by kernel_rfl) ?_; with_reducible refine look_skip (by kernel_rfl) ?_; with_reducible refine look_skip (by kernel_rfl) ?_; with_reducible refine look_skip (by kernel_rfl) ?_; with_reducible refine look_skip (by kernel_rfl) ?_; with_reducible refine look_skip (by kernel_rfl) ?_; with_reducible refine look_skip (by kernel_rfl) ?_; with_reducible refine look_skip (by kernel_rfl) ?_; with_reducible refine look_skip (by kernel_rfl) ?_; with_reducible exact look_hit) ?_; with_reducible refine e_int ?_; with_reducible refine v_add ?_)
  rw [← List.map_append] at h
  have hl : (fixH (M.drop t) ++ List.replicate t (blankC g)).length = s := by
    rw [List.length_append, List.length_replicate, fixH_len, List.length_drop, hM, Nat.sub_add_cancel hts]
  generalize fixH (M.drop t) ++ List.replicate t (blankC g) = B at h hq hl
  refine P_setSlice h (i := 4) (j := 0) rfl rfl (by decide) (bnd_int (m := m) (by first | assumption | with_reducible rfl | omega)) (bnd_int (m := m + s) (by first | assumption | with_reducible rfl | omega)) (by simp only [List.length_map, List.length_append, hC, hl]; rw [hlen]; exact Nat.le_trans (Nat.add_le_add hz (Nat.le_trans (Nat.le_add_left s m) (Nat.le_trans hm hz))) (Nat.le_of_ble_eq_true rfl)) fun st h => ?_
  dsimp only [List.set_cons_zero, List.set_cons_succ, List.eraseIdx_cons_zero, List.eraseIdx_cons_succ] at h
  have e2 : splice ((A ++ (cutC M t ++ D)).map cv) (some m) (some (m + s)) (B.map cv) = (A ++ (B ++ D)).map cv := by
    unfold splice
    simp only [Option.getD_some, List.map_append]
    exact splice_mid _ _ _ _ (by simpa using hA.symm) (by rw [List.length_map, List.length_map, hC]; exact hAM)
  rw [e2] at h
  (with_reducible refine k_next ?_; with_reducible refine s_nil ?_; with_reducible refine k_next ?_)
  refine hq _ (h.sub ?_)
  exact .cons _ (.cons _ (.cons _ (.refl _)))
theorem P_m_shift (h : At st L) (hi : L[i]? = some (p, lineO a)) (hq : K (.own .m_shift p)) : PostO (methV (.ref p) (Str.ofString "shift") st) K := P_m _ _ h hi (by kernel_rfl) (by kernel_rfl) hq
theorem insert_ok {k j r b g : Int} {m s t : Nat} (h : At st ((p, lineO a) :: (a, .list (cs.map cv)) :: L)) (hw : WF cs) (hz : cs.length ≤ 100) (hk : k = m) (hr : r + 1 = (m : Int) + s) (hs : 1 ≤ s) (hm : m + s ≤ cs.length) (hj : 1 ≤ j) (ht : min j s = t)
    (hq : ∀ st', At st' ((p, lineO a) :: (a, .list ((insC cs m s t g).map cv)) :: L) → R .none st') : Post (callF (n + 6) .m_insert [.ref p, .int k, .int j, .int r, pv b g] st) R := by
  refine P_callF [(Str.ofString "self", .ref p), (Str.ofString "column", .int k), (Str.ofString "many", .int j), (Str.ofString "right", .int r), (Str.ofString "pen", pv b g)] rfl rfl ?_
  ((conv => enter [1, 2]; whnf); (conv => enter [1, 3]; whnf); with_reducible refine s_cons ?_; with_reducible refine s_expr ?_; with_reducible refine e_meth (by kernel_rfl) ?_; refine e_name (by kernel_rfl) look0 ?_)
  refine P_m_shift h ix0 ?_
  (with_reducible refine es_cons ?_; refine e_name (by kernel_rfl) (by with_reducible refine lookS (by kernel_rfl) ?_; with_reducible exact look0) ?_; with_reducible refine es_cons ?_; refine e_name (by kernel_rfl) (by with_reducible refine lookS (by kernel_rfl) ?_; with_reducible refine lookS (by kernel_rfl) ?_; with_reducible exact look0) ?_; with_reducible refine es_cons ?_; refine e_name (by kernel_rfl) (by with_reducible refine lookS (by kernel_rfl) ?_; with_reducible refine lookS (by kernel_rfl) ?_; with_reducible refine lookS (by kernel_rfl) ?_; with_reducible exact look0) ?_; with_reducible refine es_cons ?_; refine e_name (by kernel_rfl) (by with_reducible refine lookS (by kernel_rfl) ?_; with_reducible refine lookS (by kernel_rfl) ?_; with_reducible refine lookS (by kernel_rfl) ?_; with_reducible refine lookS (by kernel_rfl) ?_; with_reducible exact look0) ?_; with_reducible refine es_cons ?_; with_reducible refine e_bool ?_; with_reducible refine es_nil ?_; with_reducible refine m_own ?_)
  refine shift_ins h hw hz hk hr hs hm hj ht fun st h => ?_
  (refine ⟨rfl, ?_⟩; with_reducible refine k_next ?_; with_reducible refine s_nil ?_; with_reducible refine k_next ?_)
  exact hq _ h
theorem delete_ok {k j r b g : Int} {m s t : Nat} (h : At st ((p, lineO a) :: (a, .list (cs.map cv)) :: L)) (hw : WF cs) (hz : cs.length ≤ 100) (hk : k = m) (hr : r + 1 = (m : Int) + s) (hs : 1 ≤ s) (hm : m + s ≤ cs.length) (hj : 1 ≤ j) (ht : min j s = t)
    (hq : ∀ st', At st' ((p, lineO a) :: (a, .list ((delC cs m s t g).map cv)) :: L) → R .none st') : Post (callF (n + 6) .m_delete [.ref p, .int k, .int j, .int r, pv b g] st) R := by
  refine P_callF [(Str.ofString "self", .ref p), (Str.ofString "column", .int k), (Str.ofString "many", .int j), (Str.ofString "right", .int r), (Str.ofString "pen", pv b g)] rfl rfl ?_
  ((conv => enter [1, 2]; whnf); (conv => enter [1, 3]; whnf); with_reducible refine s_cons ?_; with_reducible refine s_expr ?_; with_reducible refine e_meth (by kernel_rfl) ?_; refine e_name (by kernel_rfl) look0 ?_)
  refine P_m_shift h ix0 ?_
  (with_reducible refine es_cons ?_; refine e_name (by kernel_rfl) (by with_reducible refine lookS (by kernel_rfl) ?_; with_reducible exact look0) ?_; with_reducible refine es_cons ?_; refine e_name (by kernel_rfl) (by with_reducible refine lookS (by kernel_rfl) ?_; with_reducible refine lookS (by kernel_rfl) ?_; with_reducible exact look0) ?_; with_reducible refine es_cons ?_; refine e_name (by kernel_rfl) (by with_reducible refine lookS (by kernel_rfl) ?_; with_reducible refine lookS (by kernel_rfl) ?_; with_reducible refine lookS (by kernel_rfl) ?_; with_reducible exact look0) ?_; with_reducible refine es_cons ?_; refine e_name (by kernel_rfl) (by with_reducible refine lookS (by kernel_rfl) ?_; with_reducible refine lookS (by kernel_rfl) ?_; with_reducible refine lookS (by kernel_rfl) ?_; with_reducible refine lookS (by kernel_rfl) ?_; with_reducible exact look0) ?_; with_reducible refine es_cons ?_; with_reducible refine e_bool ?_; with_reducible refine es_nil ?_; with_reducible refine m_own ?_)
  refine shift_del h hw hz hk hr hs hm hj ht fun st h => ?_
  (refine ⟨rfl, ?_⟩; with_reducible refine k_next ?_; with_reducible refine s_nil ?_; with_reducible refine k_next ?_)
  exact hq _ h
end
end Mine

set_option autoImplicit false
set_option linter.unusedVariables false
set_option maxRecDepth 10000
set_option maxHeartbeats 4000000
namespace Mine
open PySem
section
variable {n : Nat} {st : St} {L : Held} {c : Cell} {cs ds ss : List Cell} {a b p q i j : Nat} {R : V → St → Prop} {K : Me → Prop} {KB : Bool → Prop} {KS : St → Prop}
theorem sl_eq {x : Str} {v : V} {l : Loc} {u : V} : setL x v ((x, u) :: l) = (x, v) :: l := by rw [setL, if_pos rfl]
theorem sl_ne {x y : Str} {v u : V} {l l' : Loc} (h : (x == y) = false) (h2 : setL x v l = l') : setL x v ((y, u) :: l) = (y, u) :: l' := by rw [setL, if_neg (beq_eq_false_iff_ne.mp h), h2]
theorem init_ok {k : Int} {b g : Int} (h : At st ((p, .inst []) :: L)) (hk : k ≤ 4096) (hq : ∀ a st', At st' ((p, lineO a) :: (a, .list ((List.replicate k.toNat (blankC g)).map cv)) :: L) → R .none st') : Post (callF (n + 4) .m_init [.ref p, .int k, pv b g] st) R := by
  refine P_callF [(Str.ofString "self", .ref p), (Str.ofString "columns", .int k), (Str.ofString "pen", pv b g)] rfl rfl ?_
  ((conv => enter [1, 2]; whnf); (conv => enter [1, 3]; whnf); with_reducible refine s_cons ?_; refine s_assign (by kernel_rfl) (by kernel_rfl) ?_; with_reducible refine e_call (by kernel_rfl) tl_line_blanks ?_; with_reducible refine es_cons ?_; refine e_name (by kernel_rfl) (by with_reducible refine lookS (by kernel_rfl) ?_; with_reducible exact look0) ?_; with_reducible refine es_cons ?_; refine e_name (by kernel_rfl) (by with_reducible refine lookS (by kernel_rfl) ?_; with_reducible refine lookS (by kernel_rfl) ?_; with_reducible exact look0) ?_; with_reducible refine es_nil ?_)
  refine line_blanks_ok h hk fun a st h => ?_
  (with_reducible refine t_attr (by kernel_rfl) ?_; refine e_name (by kernel_rfl) look0 ?_)
  have e1 : ∀ v, setL (Str.ofString "cells") v [] = [(Str.ofString "cells", v)] := fun v => rfl
  refine P_setattr h ix1 (.inl rfl) (by rw [e1]; exact Nat.le_of_ble_eq_true rfl) fun st h => ?_
  dsimp only [List.set_cons_zero, List.set_cons_succ, List.eraseIdx_cons_zero, List.eraseIdx_cons_succ] at h
  rw [e1] at h
  have e2 : ∀ u v, setL (Str.ofString "is_wrapped") v [(Str.ofString "cells", u)] = [(Str.ofString "cells", u), (Str.ofString "is_wrapped", v)] := fun u v => sl_ne (by kernel_rfl) rfl
  (with_reducible refine k_next ?_; with_reducible refine s_cons ?_; refine s_assign (by kernel_rfl) (by kernel_rfl) ?_; with_reducible refine e_bool ?_; with_reducible refine t_attr (by kernel_rfl) ?_; refine e_name (by kernel_rfl) look0 ?_)
  refine P_setattr h ix1 (.inr (.inl rfl)) (by rw [e2]; exact Nat.le_of_ble_eq_true rfl) fun st h => ?_
  dsimp only [List.set_cons_zero, List.set_cons_succ, List.eraseIdx_cons_zero, List.eraseIdx_cons_succ] at h
  rw [e2] at h
  (with_reducible refine k_next ?_; with_reducible refine s_cons ?_; refine s_assign (by kernel_rfl) (by kernel_rfl) ?_; refine e_sub (by kernel_rfl) ?_; refine e_glob (by kernel_rfl) gl_sizes ?_; with_reducible refine e_int ?_)
  refine P_itemT (by rfl) ?_
  have e3 : ∀ u v w, setL (Str.ofString "size") w [(Str.ofString "cells", u), (Str.ofString "is_wrapped", v)] = [(Str.ofString "cells", u), (Str.ofString "is_wrapped", v), (Str.ofString "size", w)] := fun u v w => sl_ne (by kernel_rfl) (sl_ne (by kernel_rfl) rfl)
  (with_reducible refine t_attr (by kernel_rfl) ?_; refine e_name (by kernel_rfl) look0 ?_)
  refine P_setattr h ix1 (.inr (.inr rfl)) (by rw [e3]; exact Nat.le_of_ble_eq_true rfl) fun st h => ?_
  dsimp only [List.set_cons_zero, List.set_cons_succ, List.eraseIdx_cons_zero, List.eraseIdx_cons_succ] at h
  rw [e3] at h
  (with_reducible refine k_next ?_; with_reducible refine s_nil ?_; with_reducible refine k_next ?_)
  exact hq a _ (h.focus ix1)
theorem setA_cells {u v w x : V} : setL (Str.ofString "cells") x [(Str.ofString "cells", u), (Str.ofString "is_wrapped", v), (Str.ofString "size", w)] = [(Str.ofString "cells", x), (Str.ofString "is_wrapped", v), (Str.ofString "size", w)] := sl_eq
theorem setA_wrapped {u v w x : V} : setL (Str.ofString "is_wrapped") x [(Str.ofString "cells", u), (Str.ofString "is_wrapped", v), (Str.ofString "size", w)] = [(Str.ofString "cells", u), (Str.ofString "is_wrapped", x), (Str.ofString "size", w)] := sl_ne (by kernel_rfl) sl_eq
theorem setA_size {u v w x : V} : setL (Str.ofString "size") x [(Str.ofString "cells", u), (Str.ofString "is_wrapped", v), (Str.ofString "size", w)] = [(Str.ofString "cells", u), (Str.ofString "is_wrapped", v), (Str.ofString "size", x)] := sl_ne (by kernel_rfl) (sl_ne (by kernel_rfl) sl_eq)
theorem copy_ok (h : At st ((p, lineO a) :: (a, .list (cs.map cv)) :: L)) (hz : cs.length ≤ 60) (hq : ∀ q b st', At st' ((q, lineO b) :: (b, .list (cs.map cv)) :: (p, lineO a) :: (a, .list (cs.map cv)) :: L) → R (.ref q) st') : Post (callF (n + 5) .m_copy [.ref p] st) R := by
  refine P_callF [(Str.ofString "self", .ref p)] rfl rfl ?_
  ((conv => enter [1, 2]; whnf); (conv => enter [1, 3]; whnf); with_reducible refine s_cons ?_; refine s_assign (by kernel_rfl) (by kernel_rfl) ?_; with_reducible refine e_callB (by kernel_rfl) bl_line ?_; with_reducible refine es_cons ?_; with_reducible refine e_int ?_; with_reducible refine es_cons ?_; refine e_glob (by kernel_rfl) gl_plain ?_; with_reducible refine es_nil ?_)
  refine P_line h fun q st h => ?_
  refine init_ok (b := 0) (g := -1) h (by decide) fun f st h => ?_
  refine ⟨rfl, ?_⟩
  (with_reducible refine t_name (by kernel_rfl) rfl ?_; with_reducible refine k_next ?_; with_reducible refine s_cons ?_; refine s_assign (by kernel_rfl) (by kernel_rfl) ?_; with_reducible refine e_callB (by kernel_rfl) bl_list ?_; with_reducible refine es_cons ?_; with_reducible refine e_attr (by kernel_rfl) ?_; refine e_name (by kernel_rfl) (by with_reducible refine look_skip (by kernel_rfl) ?_; with_reducible exact look0) ?_)
  refine P_cells h (i := 2) rfl ?_
  (with_reducible refine es_nil ?_)
  refine P_listR h (i := 3) rfl (by rw [List.length_map]; omega) fun b st h => ?_
  (with_reducible refine t_attr (by kernel_rfl) ?_; refine e_name (by kernel_rfl) look_hit ?_)
  refine P_setattr h (i := 1) rfl (.inl rfl) (by rw [setA_cells]; exact Nat.le_of_ble_eq_true rfl) fun st h => ?_
  dsimp only [List.set_cons_zero, List.set_cons_succ, List.eraseIdx_cons_zero, List.eraseIdx_cons_succ] at h
  rw [setA_cells] at h
  (with_reducible refine k_next ?_; with_reducible refine s_cons ?_; refine s_assign (by kernel_rfl) (by kernel_rfl) ?_; with_reducible refine e_attr (by kernel_rfl) ?_; refine e_name (by kernel_rfl) (by with_reducible refine look_skip (by kernel_rfl) ?_; with_reducible exact look0) ?_)
  refine P_wrapped h (i := 3) rfl ?_
  (with_reducible refine t_attr (by kernel_rfl) ?_; refine e_name (by kernel_rfl) look_hit ?_)
  refine P_setattr h (i := 1) rfl (.inr (.inl rfl)) (by rw [setA_wrapped]; exact Nat.le_of_ble_eq_true rfl) fun st h => ?_
  dsimp only [List.set_cons_zero, List.set_cons_succ, List.eraseIdx_cons_zero, List.eraseIdx_cons_succ] at h
  rw [setA_wrapped] at h
  (with_reducible refine k_next ?_; with_reducible refine s_cons ?_; refine s_assign (by kernel_rfl) (by kernel_rfl) ?_; with_reducible refine e_attr (by kernel_rfl) ?_; refine e_name (by kernel_rfl) (by with_reducible refine look_skip (by kernel_rfl) ?_; with_reducible exact look0) ?_)
  refine P_size h (i := 3) rfl ?_
  (with_reducible refine t_attr (by kernel_rfl) ?_; refine e_name (by kernel_rfl) look_hit ?_)
  refine P_setattr h (i := 1) rfl (.inr (.inr rfl)) (by rw [setA_size]; exact Nat.le_of_ble_eq_true rfl) fun st h => ?_
  dsimp only [List.set_cons_zero, List.set_cons_succ, List.eraseIdx_cons_zero, List.eraseIdx_cons_succ] at h
  rw [setA_size] at h
  (with_reducible refine k_next ?_; with_reducible refine s_cons ?_; with_reducible refine s_ret ?_; refine e_name (by kernel_rfl) look_hit ?_; with_reducible refine k_ret ?_; with_reducible refine k_ret ?_)
  refine hq q b _ ?_
  have h := h.focus ix1
  dsimp only [List.set_cons_zero, List.set_cons_succ, List.eraseIdx_cons_zero, List.eraseIdx_cons_succ] at h
  exact h.sub (.cons_cons _ (.cons_cons _ (.cons _ (.refl _))))
theorem py_line {a : Nat} (h : At st L) (hi : L[i]? = some (a, .list (cs.map cv))) : toPy2 st 4 (.tup [.ref a, .bool false, .str (Str.ofString "single")]) = some (.tuple [.list (cs.map cd), .bool false, .str (Str.ofString "single")]) := by
  show (toPys1 st 4 [.ref a, .bool false, .str (Str.ofString "single")]).map PyData.tuple = _
  have e : toPy1 st 4 (.ref a) = some (.list (cs.map cd)) := by
    show (match st[a]? with | some (.list vs) => (toPys st 4 vs).map PyData.list | _ => none) = _
    rw [h.get hi]; simp only [py_cells]; rfl
  have e3 : toPy1 st 4 (.str (Str.ofString "single")) = some (.str (Str.ofString "single")) := by
    show (if PyData.strOk (Str.ofString "single") then some (PyData.str (Str.ofString "single")) else none) = _
    rw [if_pos (by decide +kernel)]
  rw [toPys1, toPys1, toPys1, toPys1, e, e3]
  rfl
theorem equals_ok (h : At st ((p, lineO a) :: (a, .list (cs.map cv)) :: (q, lineO b) :: (b, .list (ds.map cv)) :: L)) (hq : R (.bool (decide (cs = ds))) st) : Post (callF (n + 1) .m_equals [.ref p, .ref q] st) R := by
  refine P_callF [(Str.ofString "self", .ref p), (Str.ofString "other", .ref q)] rfl rfl ?_
  ((conv => enter [1, 2]; whnf); (conv => enter [1, 3]; whnf); with_reducible refine s_cons ?_; with_reducible refine s_ret ?_; with_reducible refine e_cmp ?_; with_reducible refine e_tuple ?_; with_reducible refine es_cons ?_; with_reducible refine e_attr (by kernel_rfl) ?_; refine e_name (by kernel_rfl) look0 ?_)
  refine P_cells h (i := 0) rfl ?_
  (with_reducible refine es_cons ?_; with_reducible refine e_attr (by kernel_rfl) ?_; refine e_name (by kernel_rfl) look0 ?_)
  refine P_wrapped h (i := 0) rfl ?_
  (with_reducible refine es_cons ?_; with_reducible refine e_attr (by kernel_rfl) ?_; refine e_name (by kernel_rfl) look0 ?_)
  refine P_size h (i := 0) rfl ?_
  (with_reducible refine es_nil ?_; refine ⟨by kernel_rfl, ?_⟩; with_reducible refine e_tuple ?_; with_reducible refine es_cons ?_; with_reducible refine e_attr (by kernel_rfl) ?_; refine e_name (by kernel_rfl) (by with_reducible refine lookS (by kernel_rfl) ?_; with_reducible exact look0) ?_)
  refine P_cells h (i := 2) rfl ?_
  (with_reducible refine es_cons ?_; with_reducible refine e_attr (by kernel_rfl) ?_; refine e_name (by kernel_rfl) (by with_reducible refine lookS (by kernel_rfl) ?_; with_reducible exact look0) ?_)
  refine P_wrapped h (i := 2) rfl ?_
  (with_reducible refine es_cons ?_; with_reducible refine e_attr (by kernel_rfl) ?_; refine e_name (by kernel_rfl) (by with_reducible refine lookS (by kernel_rfl) ?_; with_reducible exact look0) ?_)
  refine P_size h (i := 2) rfl ?_
  (with_reducible refine es_nil ?_; refine ⟨by kernel_rfl, ?_⟩)
  refine ⟨_, eqV_of (py_line h (i := 1) rfl) (py_line h (i := 3) rfl), ?_⟩
  have e : PyData.eqv (.tuple [.list (cs.map cd), .bool false, .str (Str.ofString "single")]) (.tuple [.list (ds.map cd), .bool false, .str (Str.ofString "single")]) = decide (cs = ds) := by
    simp only [PyData.eqv, PyData.eqvAll, eqv_cells, beq_self_eq_true, Bool.and_true]
  rw [e]
  (with_reducible refine k_ret ?_; with_reducible refine k_ret ?_)
  exact hq
noncomputable def trimN (f : Cell → Bool) (cs : List Cell) : Nat → Nat
  | 0 => 0
  | k + 1 => match cs[k]? with
    | some c => if f c then trimN f cs k else k + 1
    | none => k + 1
theorem trimN_le (f : Cell → Bool) (cs : List Cell) : ∀ k, trimN f cs k ≤ k
  | 0 => Nat.le_refl _
  | k + 1 => by
    rw [trimN]
    have := trimN_le f cs k
    split
    · split <;> omega
    · omega
theorem trimN_yes {f : Cell → Bool} {cs : List Cell} {k : Nat} (h : cs[k]? = some c) (hf : f c = true) : trimN f cs (k + 1) = trimN f cs k := by rw [trimN, h]; simp only [hf, if_true]
theorem trimN_no {f : Cell → Bool} {cs : List Cell} {k : Nat} (h : cs[k]? = some c) (hf : f c = false) : trimN f cs (k + 1) = k + 1 := by rw [trimN, h]; simp only [hf]; rfl
theorem used_ok (h : At st ((p, lineO a) :: (a, .list (cs.map cv)) :: L)) (hz : cs.length ≤ 60) (hq : ∀ st', At st' ((p, lineO a) :: (a, .list (cs.map cv)) :: L) → R (.int (trimN (fun c => decide (c = blankC (-1))) cs cs.length)) st') : Post (callF (n + 2) .m_used [.ref p] st) R := by
  refine P_callF [(Str.ofString "self", .ref p)] rfl rfl ?_
  ((conv => enter [1, 2]; whnf); (conv => enter [1, 3]; whnf); with_reducible refine s_cons ?_; refine s_assign (by kernel_rfl) (by kernel_rfl) ?_; with_reducible refine e_callB (by kernel_rfl) bl_len ?_; with_reducible refine es_cons ?_; with_reducible refine e_attr (by kernel_rfl) ?_; refine e_name (by kernel_rfl) look0 ?_)
  refine P_cells h ix0 ?_
  (with_reducible refine es_nil ?_)
  refine P_lenC h ix1 ?_
  (with_reducible refine t_name (by kernel_rfl) rfl ?_; with_reducible refine k_next ?_; with_reducible refine s_cons ?_; with_reducible refine s_while ?_)
  refine Post.mono (Q := fun fl st => fl.1 = Fl.next ∧ fl.2.lookup (Str.ofString "last") = some (V.int (trimN (fun c => decide (c = blankC (-1))) cs cs.length)) ∧ At st ((p, lineO a) :: (a, .list (cs.map cv)) :: L)) (P_while (fun k loc st => loc.lookup (Str.ofString "self") = some (V.ref p) ∧ loc.lookup (Str.ofString "last") = some (V.int (k : Int)) ∧ At st ((p, lineO a) :: (a, .list (cs.map cv)) :: L) ∧ k ≤ cs.length ∧ trimN (fun c => decide (c = blankC (-1))) cs k = trimN (fun c => decide (c = blankC (-1))) cs cs.length) ?_ 64 cs.length _ _ (by omega) ⟨by (with_reducible refine look_skip (by kernel_rfl) ?_; with_reducible exact look0), by (with_reducible exact look_hit), h, Nat.le_refl _, rfl⟩) ?_
  · rintro k loc st ⟨l1, l2, h, hk, ht⟩
    (with_reducible refine c_boolop ?_; with_reducible refine a_cons ?_; with_reducible refine c_cmp ?_; refine e_name (by kernel_rfl) (by assumption) ?_; with_reducible refine e_int ?_; with_reducible refine q_gt ?_)
    cases k with
    | zero =>
      (refine w_no (by with_reducible refine af ?_; with_reducible refine df ?_; omega) ?_; refine w_no (by with_reducible refine df ?_; omega) ?_)
      rw [← ht]
      exact ⟨rfl, l2, h⟩
    | succ k =>
      (refine w_yes (by with_reducible refine at' ?_; with_reducible refine dt ?_; omega) ?_; with_reducible refine a_one ?_; with_reducible refine c_call ?_; with_reducible refine e_call (by kernel_rfl) tl_is_plain_blank ?_; with_reducible refine es_cons ?_; refine e_sub (by kernel_rfl) ?_; with_reducible refine e_attr (by kernel_rfl) ?_; refine e_name (by kernel_rfl) (by assumption) ?_)
      refine P_cells h ix0 ?_
      (with_reducible refine e_bin ?_; refine e_name (by kernel_rfl) (by assumption) ?_; with_reducible refine e_int ?_; with_reducible refine v_sub ?_)
      obtain ⟨c, hc⟩ : ∃ c, cs[k]? = some c := ⟨cs[k], List.getElem?_eq_getElem (by omega)⟩
      refine P_cellAt h (m := k) ix1 (by omega) hc ?_
      (with_reducible refine es_nil ?_)
      refine is_plain_blank_ok ?_
      by_cases hf : c = blankC (-1)
      · (with_reducible refine q_truth ?_; refine w_yes (by with_reducible refine dt ?_; assumption) ?_)
        refine ⟨Nat.succ_pos _, ?_⟩
        (with_reducible refine s_cons ?_; with_reducible refine s_aug (by kernel_rfl) (by assumption) ?_; with_reducible refine e_int ?_)
        refine ⟨1, rfl, ?_⟩
        (with_reducible refine k_next ?_; with_reducible refine s_nil ?_; with_reducible refine k_next ?_)
        refine ⟨look_skip (by kernel_rfl) l1, ?_, h, by omega, ?_⟩
        · rw [look_hit, show ((k + 1 : Nat) : Int) - 1 = ((k + 1 - 1 : Nat) : Int) by omega]
        · rw [show k + 1 - 1 = k by omega, ← ht, trimN_yes hc (dt hf)]
      · (with_reducible refine q_truth ?_; refine w_no (by with_reducible refine df ?_; assumption) ?_)
        rw [← ht, trimN_no hc (df hf)]
        exact ⟨rfl, l2, h⟩
  · rintro ⟨f, loc⟩ st ⟨rfl, l2, h⟩
    (with_reducible refine k_next ?_; with_reducible refine s_cons ?_; with_reducible refine s_ret ?_; refine e_name (by kernel_rfl) (by assumption) ?_; with_reducible refine k_ret ?_; with_reducible refine k_ret ?_)
    exact hq _ h
noncomputable def codesC (cs : List Cell) : List Int := cs.flatMap fun c => if c.w = 0 then [] else [c.code.getD 32]
theorem codesC_len : ∀ cs : List Cell, (codesC cs).length ≤ cs.length
  | [] => Nat.le_refl _
  | c :: cs => by
    have := codesC_len cs
    unfold codesC at this ⊢
    rw [List.flatMap_cons, List.length_append, List.length_cons]
    split <;> simp at this ⊢ <;> omega
theorem P_m_extend {vs : List V} (h : At st L) (hi : L[i]? = some (a, .list vs)) (hq : K (.list .extend a)) : PostO (methV (.ref a) (Str.ofString "extend") st) K := P_methL h hi (by kernel_rfl) hq
theorem line_codes_ok (h : At st ((a, .list (cs.map cv)) :: L)) (hz : cs.length ≤ 60) (hq : ∀ r st', At st' ((r, .list ((codesC (cs.take (trimN isBlankC cs cs.length))).map .int)) :: (a, .list (cs.map cv)) :: L) → R (.ref r) st') : Post (callF (n + 2) .line_codes [.ref a] st) R := by
  refine P_callF [(Str.ofString "cells", .ref a)] rfl rfl ?_
  ((conv => enter [1, 2]; whnf); (conv => enter [1, 3]; whnf); with_reducible refine s_cons ?_; refine s_assign (by kernel_rfl) (by kernel_rfl) ?_; with_reducible refine e_callB (by kernel_rfl) bl_len ?_; with_reducible refine es_cons ?_; refine e_name (by kernel_rfl) look0 ?_; with_reducible refine es_nil ?_)
  refine P_lenC h ix0 ?_
  (with_reducible refine t_name (by kernel_rfl) rfl ?_; with_reducible refine k_next ?_; with_reducible refine s_cons ?_; with_reducible refine s_while ?_)
  generalize hT : trimN isBlankC cs cs.length = T at hq
  have hTle : T ≤ cs.length := hT ▸ trimN_le ..
  refine Post.mono (Q := fun fl st => fl.1 = Fl.next ∧ fl.2.lookup (Str.ofString "cells") = some (V.ref a) ∧ fl.2.lookup (Str.ofString "last") = some (V.int (T : Int)) ∧ At st ((a, .list (cs.map cv)) :: L)) (P_while (fun k loc st => loc.lookup (Str.ofString "cells") = some (V.ref a) ∧ loc.lookup (Str.ofString "last") = some (V.int (k : Int)) ∧ At st ((a, .list (cs.map cv)) :: L) ∧ k ≤ cs.length ∧ trimN isBlankC cs k = T) ?_ 64 cs.length _ _ (by omega) ⟨by (with_reducible refine look_skip (by kernel_rfl) ?_; with_reducible exact look0), by (with_reducible exact look_hit), h, Nat.le_refl _, hT⟩) ?_
  · rintro k loc st ⟨l1, l2, h, hk, ht⟩
    (with_reducible refine c_boolop ?_; with_reducible refine a_cons ?_; with_reducible refine c_cmp ?_; refine e_name (by kernel_rfl) (by assumption) ?_; with_reducible refine e_int ?_; with_reducible refine q_gt ?_)
    cases k with
    | zero =>
      (refine w_no (by with_reducible refine af ?_; with_reducible refine df ?_; omega) ?_; refine w_no (by with_reducible refine df ?_; omega) ?_)
      rw [← ht]
      exact ⟨rfl, l1, l2, h⟩
    | succ k =>
      (refine w_yes (by with_reducible refine at' ?_; with_reducible refine dt ?_; omega) ?_; with_reducible refine a_one ?_; with_reducible refine c_call ?_; with_reducible refine e_call (by kernel_rfl) tl_is_blank ?_; with_reducible refine es_cons ?_; refine e_sub (by kernel_rfl) ?_; refine e_name (by kernel_rfl) (by assumption) ?_; with_reducible refine e_bin ?_; refine e_name (by kernel_rfl) (by assumption) ?_; with_reducible refine e_int ?_; with_reducible refine v_sub ?_)
      obtain ⟨c, hc⟩ : ∃ c, cs[k]? = some c := ⟨cs[k], List.getElem?_eq_getElem (by omega)⟩
      refine P_cellAt h (m := k) ix0 (by omega) hc ?_
      (with_reducible refine es_nil ?_)
      refine is_blank_ok ?_
      by_cases hf : isBlankC c = true
      · rw [trimN_yes hc hf] at ht
        (with_reducible refine q_truth ?_)
        rw [hf]
        (refine w_yes (by rfl) ?_)
        refine ⟨Nat.succ_pos _, ?_⟩
        (with_reducible refine s_cons ?_; with_reducible refine s_aug (by kernel_rfl) (by assumption) ?_; with_reducible refine e_int ?_)
        refine ⟨1, rfl, ?_⟩
        (with_reducible refine k_next ?_; with_reducible refine s_nil ?_; with_reducible refine k_next ?_)
        refine ⟨look_skip (by kernel_rfl) l1, ?_, h, by omega, ht⟩
        rw [look_hit, show ((k + 1 : Nat) : Int) - 1 = ((k + 1 - 1 : Nat) : Int) by omega]
      · have hf : isBlankC c = false := by simpa using hf
        rw [trimN_no hc hf] at ht
        (with_reducible refine q_truth ?_)
        rw [hf]
        (refine w_no (by rfl) ?_)
        rw [ht] at l2
        exact ⟨rfl, l1, l2, h⟩
  · rintro ⟨fl, loc⟩ st ⟨rfl, l1, l2, h⟩
    (with_reducible refine k_next ?_; with_reducible refine s_cons ?_; refine s_assign (by kernel_rfl) (by kernel_rfl) ?_; with_reducible refine e_list ?_; with_reducible refine es_nil ?_)
    refine P_mkList h (Nat.zero_le _) fun f st h => ?_
    (with_reducible refine t_name (by kernel_rfl) rfl ?_; with_reducible refine k_next ?_; with_reducible refine s_cons ?_; refine s_for (by kernel_rfl) ?_; with_reducible refine e_slice ?_; refine e_name (by kernel_rfl) (by with_reducible refine look_skip (by kernel_rfl) ?_; assumption) ?_; with_reducible refine o_none ?_; with_reducible refine o_some ?_; refine e_name (by kernel_rfl) (by with_reducible refine look_skip (by kernel_rfl) ?_; assumption) ?_)
    refine P_sliceL h ix1 bnd_none (bnd_int (m := T) rfl) (by rw [List.length_map]; omega) fun e st h => ?_
    have e1 : cut (cs.map cv) none (some T) = (cs.take T).map cv := by rw [List.map_take]; rfl
    rw [e1] at h
    skip
    refine P_itemsR h ix0 ?_
    have hsl : (cs.take T).length ≤ 60 := by rw [List.length_take]; omega
    generalize cs.take T = s at h hq hsl
    refine Post.mono (Q := fun fl st => fl.1 = Fl.next ∧ fl.2.lookup (Str.ofString "found") = some (V.ref f) ∧ At st ((e, .list (s.map cv)) :: (f, .list ((codesC s).map .int)) :: (a, .list (cs.map cv)) :: L))
      (P_for (fun rest loc st => ∃ don res, s = don ++ res ∧ rest = res.map cv ∧ loc.lookup (Str.ofString "found") = some (V.ref f) ∧ At st ((e, .list (s.map cv)) :: (f, .list ((codesC don).map .int)) :: (a, .list (cs.map cv)) :: L)) ?_ ?_ ?_ _ _ _ ⟨[], s, rfl, rfl, by (with_reducible exact look_hit), h⟩) ?_
    · rintro its loc st ⟨don, res, _, _, _, h⟩
      exact sameL_held h (i := 0) rfl (eqbs_rfl _)
    · rintro v rest loc st ⟨don, res, hs, hr, l3, h⟩
      cases res with
      | nil => cases hr
      | cons c res =>
      rw [List.map_cons] at hr
      cases hr
      refine ⟨_, bindT_name (by kernel_rfl), ?_⟩
      have hs' : s = (don ++ [c]) ++ res := by rw [hs, List.append_assoc]; rfl
      have hcod : codesC (don ++ [c]) = codesC don ++ (if c.w = 0 then [] else [c.code.getD 32]) := by
        unfold codesC; rw [List.flatMap_append]; simp
      have hl1 : (codesC don).length ≤ 60 := by
        have := codesC_len don
        have := congrArg List.length hs
        rw [List.length_append] at this; omega
      have l4 : List.lookup (Str.ofString "found") (setL (Str.ofString "cell") (cv c) loc) = some (V.ref f) := look_skip (by kernel_rfl) l3
      have fin : ∀ ws st', (if c.w = 0 then [] else [c.code.getD 32]) = ws → At st' ((e, .list (s.map cv)) :: (f, .list ((codesC don).map .int ++ ws.map .int)) :: (a, .list (cs.map cv)) :: L) → ∃ don' res', s = don' ++ res' ∧ res.map cv = res'.map cv ∧ List.lookup (Str.ofString "found") (setL (Str.ofString "cell") (cv c) loc) = some (V.ref f) ∧ At st' ((e, .list (s.map cv)) :: (f, .list ((codesC don').map .int)) :: (a, .list (cs.map cv)) :: L) :=
        fun ws st' hws h => ⟨don ++ [c], res, hs', rfl, l4, by rw [hcod, hws, List.map_append]; exact h⟩
      by_cases hw : c.w = 0
      · (with_reducible refine s_cons ?_; with_reducible refine s_if ?_; with_reducible refine c_cmp ?_; refine e_sub (by kernel_rfl) ?_; refine e_name (by kernel_rfl) look_hit ?_; with_reducible refine e_int ?_; with_reducible refine i_cv1 ?_; with_reducible refine e_int ?_; with_reducible refine q_ne ?_; refine w_no (by with_reducible refine nf ?_; with_reducible refine dt ?_; assumption) ?_; with_reducible refine s_nil ?_; with_reducible refine k_next ?_; with_reducible refine s_nil ?_; with_reducible refine k_next ?_)
        exact fin [] st (if_pos hw) (by rw [List.map_nil, List.append_nil]; exact h)
      · (with_reducible refine s_cons ?_; with_reducible refine s_if ?_; with_reducible refine c_cmp ?_; refine e_sub (by kernel_rfl) ?_; refine e_name (by kernel_rfl) look_hit ?_; with_reducible refine e_int ?_; with_reducible refine i_cv1 ?_; with_reducible refine e_int ?_; with_reducible refine q_ne ?_; refine w_yes (by with_reducible refine nt ?_; with_reducible refine df ?_; assumption) ?_; with_reducible refine s_cons ?_; with_reducible refine s_expr ?_; with_reducible refine e_meth (by kernel_rfl) ?_; refine e_name (by kernel_rfl) (by assumption) ?_)
        refine P_m_extend h ix1 ?_
        by_cases hcd : c.code = none
        · (with_reducible refine es_cons ?_; with_reducible refine e_if ?_; with_reducible refine c_cmp ?_; refine e_sub (by kernel_rfl) ?_; refine e_name (by kernel_rfl) look_hit ?_; with_reducible refine e_int ?_; with_reducible refine i_cv0 ?_; with_reducible refine e_tuple ?_; with_reducible refine es_nil ?_; refine ⟨by kernel_rfl, ?_⟩; with_reducible refine q_codeNe ?_; refine w_no (by with_reducible refine nf ?_; with_reducible refine dt ?_; assumption) ?_; with_reducible refine e_tuple ?_; with_reducible refine es_cons ?_; with_reducible refine e_int ?_; with_reducible refine es_nil ?_; refine ⟨by kernel_rfl, ?_⟩; with_reducible refine es_nil ?_)
          refine P_extT h (i := 1) rfl (by rw [List.length_map]; show _ + 1 ≤ 4096; omega) fun st h => ?_
          dsimp only [List.set_cons_zero, List.set_cons_succ, List.eraseIdx_cons_zero, List.eraseIdx_cons_succ] at h
          (refine ⟨rfl, ?_⟩; with_reducible refine k_next ?_; with_reducible refine s_nil ?_; with_reducible refine k_next ?_; with_reducible refine s_nil ?_; with_reducible refine k_next ?_)
          exact fin [32] st (by rw [if_neg hw, hcd]; rfl) h
        · (with_reducible refine es_cons ?_; with_reducible refine e_if ?_; with_reducible refine c_cmp ?_; refine e_sub (by kernel_rfl) ?_; refine e_name (by kernel_rfl) look_hit ?_; with_reducible refine e_int ?_; with_reducible refine i_cv0 ?_; with_reducible refine e_tuple ?_; with_reducible refine es_nil ?_; refine ⟨by kernel_rfl, ?_⟩; with_reducible refine q_codeNe ?_; refine w_yes (by with_reducible refine nt ?_; with_reducible refine df ?_; assumption) ?_; refine e_sub (by kernel_rfl) ?_; refine e_name (by kernel_rfl) look_hit ?_; with_reducible refine e_int ?_; with_reducible refine i_cv0 ?_; with_reducible refine es_nil ?_)
          obtain ⟨k, hk⟩ : ∃ k, c.code = some k := Option.ne_none_iff_exists'.mp hcd
          rw [hk]
          refine P_extT (ws := [.int k]) h (i := 1) rfl (by rw [List.length_map]; show _ + 1 ≤ 4096; omega) fun st h => ?_
          dsimp only [List.set_cons_zero, List.set_cons_succ, List.eraseIdx_cons_zero, List.eraseIdx_cons_succ] at h
          (refine ⟨rfl, ?_⟩; with_reducible refine k_next ?_; with_reducible refine s_nil ?_; with_reducible refine k_next ?_; with_reducible refine s_nil ?_; with_reducible refine k_next ?_)
          exact fin [k] st (by rw [if_neg hw, hk]; rfl) h
    · rintro loc st ⟨don, res, hs, hr, l3, h⟩
      cases res with
      | cons c res => cases hr
      | nil =>
      rw [List.append_nil] at hs
      subst hs
      exact ⟨rfl, l3, h⟩
    · rintro ⟨fl, loc⟩ st ⟨rfl, l3, h⟩
      (with_reducible refine k_next ?_; with_reducible refine s_cons ?_; with_reducible refine s_ret ?_; refine e_name (by kernel_rfl) (by assumption) ?_; with_reducible refine k_ret ?_; with_reducible refine k_ret ?_)
      exact hq f st (h.sub (.cons _ (.refl _)))
theorem codes0_ok (h : At st ((p, lineO a) :: (a, .list (cs.map cv)) :: L)) (hz : cs.length ≤ 60) (hq : ∀ r st', At st' ((r, .list ((codesC ((fixL (fixH cs)).take (trimN isBlankC (fixL (fixH cs)) cs.length))).map .int)) :: (p, lineO a) :: (a, .list (cs.map cv)) :: L) → R (.ref r) st') : Post (callF (n + 4) .m_codes [.ref p] st) R := by
  refine P_callF [(Str.ofString "self", .ref p), (Str.ofString "left", .int 0), (Str.ofString "right", .none)] rfl rfl ?_
  ((conv => enter [1, 2]; whnf); (conv => enter [1, 3]; whnf); with_reducible refine s_cons ?_; with_reducible refine s_ret ?_; with_reducible refine e_call (by kernel_rfl) tl_line_codes ?_; with_reducible refine es_cons ?_; with_reducible refine e_call (by kernel_rfl) tl_line_slice ?_; with_reducible refine es_cons ?_; with_reducible refine e_attr (by kernel_rfl) ?_; refine e_name (by kernel_rfl) look0 ?_)
  refine P_cells h ix0 ?_
  (with_reducible refine es_cons ?_; refine e_name (by kernel_rfl) (by with_reducible refine lookS (by kernel_rfl) ?_; with_reducible exact look0) ?_; with_reducible refine es_cons ?_; with_reducible refine e_if ?_; with_reducible refine c_cmp ?_; refine e_name (by kernel_rfl) (by with_reducible refine lookS (by kernel_rfl) ?_; with_reducible refine lookS (by kernel_rfl) ?_; with_reducible exact look0) ?_; with_reducible refine e_none ?_; with_reducible refine q_is1 ?_; refine w_yes (by rfl) ?_; with_reducible refine e_bin ?_; with_reducible refine e_callB (by kernel_rfl) bl_len ?_; with_reducible refine es_cons ?_; with_reducible refine e_attr (by kernel_rfl) ?_; refine e_name (by kernel_rfl) look0 ?_)
  refine P_cells h ix0 ?_
  (with_reducible refine es_nil ?_)
  refine P_lenC h ix1 ?_
  (with_reducible refine e_int ?_; with_reducible refine v_sub ?_; with_reducible refine es_nil ?_)
  have h := h.focus ix1
  dsimp only [List.set_cons_zero, List.set_cons_succ, List.eraseIdx_cons_zero, List.eraseIdx_cons_succ] at h
  refine line_slice_ok h (by omega) (lo := 0) (hi := cs.length) rfl (by omega) fun f st h => ?_
  rw [List.drop_zero, Nat.sub_zero, List.take_length] at h
  have hl : (fixL (fixH cs)).length = cs.length := by rw [fixL_len, fixH_len]
  rw [← hl] at hq
  (with_reducible refine es_nil ?_)
  refine line_codes_ok h (by omega) fun r st h => ?_
  (with_reducible refine k_ret ?_; with_reducible refine k_ret ?_)
  refine hq r _ ?_
  have h := (h.focus ix3).focus ix1
  dsimp only [List.set_cons_zero, List.set_cons_succ, List.eraseIdx_cons_zero, List.eraseIdx_cons_succ] at h
  exact h.sub (.cons_cons _ (.cons_cons _ (.cons _ (.refl _))))
theorem codes2_ok {l r : Int} {lo hi : Nat} (h : At st ((p, lineO a) :: (a, .list (cs.map cv)) :: L)) (hz : cs.length ≤ 60) (hl : l = lo) (hr : r + 1 = hi)
    (hq : ∀ r st' s, s = fixL (fixH ((cs.drop lo).take (hi - lo))) → At st' ((r, .list ((codesC (s.take (trimN isBlankC s s.length))).map .int)) :: (p, lineO a) :: (a, .list (cs.map cv)) :: L) → R (.ref r) st') : Post (callF (n + 4) .m_codes [.ref p, .int l, .int r] st) R := by
  refine P_callF [(Str.ofString "self", .ref p), (Str.ofString "left", .int l), (Str.ofString "right", .int r)] rfl rfl ?_
  ((conv => enter [1, 2]; whnf); (conv => enter [1, 3]; whnf); with_reducible refine s_cons ?_; with_reducible refine s_ret ?_; with_reducible refine e_call (by kernel_rfl) tl_line_codes ?_; with_reducible refine es_cons ?_; with_reducible refine e_call (by kernel_rfl) tl_line_slice ?_; with_reducible refine es_cons ?_; with_reducible refine e_attr (by kernel_rfl) ?_; refine e_name (by kernel_rfl) look0 ?_)
  refine P_cells h ix0 ?_
  (with_reducible refine es_cons ?_; refine e_name (by kernel_rfl) (by with_reducible refine lookS (by kernel_rfl) ?_; with_reducible exact look0) ?_; with_reducible refine es_cons ?_; with_reducible refine e_if ?_; with_reducible refine c_cmp ?_; refine e_name (by kernel_rfl) (by with_reducible refine lookS (by kernel_rfl) ?_; with_reducible refine lookS (by kernel_rfl) ?_; with_reducible exact look0) ?_; with_reducible refine e_none ?_; with_reducible refine q_is2 ?_; refine w_no (by rfl) ?_; refine e_name (by kernel_rfl) (by with_reducible refine lookS (by kernel_rfl) ?_; with_reducible refine lookS (by kernel_rfl) ?_; with_reducible exact look0) ?_; with_reducible refine es_nil ?_)
  have h := h.focus ix1
  dsimp only [List.set_cons_zero, List.set_cons_succ, List.eraseIdx_cons_zero, List.eraseIdx_cons_succ] at h
  refine line_slice_ok h (by omega) (lo := lo) (hi := hi) hl hr fun f st h => ?_
  (with_reducible refine es_nil ?_)
  refine line_codes_ok h (by rw [fixL_len, fixH_len, List.length_take, List.length_drop]; omega) fun r st h => ?_
  (with_reducible refine k_ret ?_; with_reducible refine k_ret ?_)
  refine hq r _ _ rfl ?_
  have h := (h.focus ix3).focus ix1
  dsimp only [List.set_cons_zero, List.set_cons_succ, List.eraseIdx_cons_zero, List.eraseIdx_cons_succ] at h
  exact h.sub (.cons_cons _ (.cons_cons _ (.cons _ (.refl _))))
end
end Mine

set_option autoImplicit false
set_option linter.unusedVariables false
set_option maxRecDepth 10000
set_option maxHeartbeats 4000000
namespace Mine
open PySem
section
variable {n : Nat} {st : St} {L : Held} {c : Cell} {cs ds ss : List Cell} {a b p q i j d l e : Nat} {is ns : List Int} {m : Int} {R : V → St → Prop} {K : Me → Prop} {KB : Bool → Prop} {KS : St → Prop}
abbrev deckO (l : Nat) (m : Int) : O := .dict [(Str.ofString "left", .ref l), (Str.ofString "mixed", .int m)]
noncomputable def Mix (m : Int) : Prop := 0 ≤ m ∧ m < 1000003
theorem small_mix (h : Mix m) {k : Int} (h1 : -10000 < k) (h2 : k < 10000) : (small m && small k) = true := by
  obtain ⟨a, b⟩ := h
  simp only [small, Bool.and_eq_true, decide_eq_true_eq]; omega
theorem mix_mod {z : Int} : Mix (z % 1000003) := ⟨Int.emod_nonneg _ (by decide), Int.emod_lt_of_pos _ (by decide)⟩
theorem deck_ok (h : At st L) (hn : ns.length ≤ 63) (hq : ∀ d l m (is : List Int) st', Mix m → At st' ((d, deckO l m) :: (l, .list (is.map .int)) :: L) → R (.ref d) st') : Post (callF (n + 1) .deck [.froz (ns.map .int)] st) R := by
  refine P_callF [(Str.ofString "script", .froz (ns.map .int))] rfl rfl ?_
  ((conv => enter [1, 2]; whnf); (conv => enter [1, 3]; whnf); with_reducible refine s_cons ?_; refine s_assign (by kernel_rfl) (by kernel_rfl) ?_; with_reducible refine e_tuple ?_; with_reducible refine es_cons ?_; with_reducible refine e_comp (by kernel_rfl) ?_; with_reducible refine e_slice ?_; refine e_name (by kernel_rfl) look0 ?_; with_reducible refine o_none ?_; with_reducible refine o_some ?_; with_reducible refine e_int ?_)
  refine P_sliceF h bnd_none (bnd_int (m := 24) rfl) (by rw [List.length_map]; omega) fun b st h => ?_
  have e1 : cut (ns.map V.int) none (some 24) = (ns.take 24).map .int := by rw [List.map_take]; rfl
  rw [e1] at h
  have hl : (ns.take 24).length ≤ 24 := by rw [List.length_take]; omega
  generalize ns.take 24 = xs at h hl
  skip
  refine P_itemsR h ix0 ?_
  refine P_comp (fun rest loc acc st => ∃ (don res : List Int), xs = don ++ res ∧ rest = res.map .int ∧ acc = (don.map (· % 1000003)).map .int ∧ At st ((b, .list (xs.map .int)) :: L)) ?_ ?_ ?_ _ _ _ _ ⟨[], xs, rfl, rfl, rfl, h⟩
  · rintro its loc acc st ⟨_, _, _, _, _, h⟩
    exact sameL_held h (i := 0) rfl (eqbs_rfl _)
  · rintro v rest loc acc st ⟨don, res, hs, hr, rfl, h⟩
    cases res with
    | nil => cases hr
    | cons c res =>
    rw [List.map_cons] at hr
    cases hr
    refine ⟨_, bindT_name (by kernel_rfl), ?_⟩
    refine p_some (w_yes rfl ?_)
    (with_reducible refine e_bin ?_; with_reducible refine e_callB (by kernel_rfl) bl_int ?_; with_reducible refine es_cons ?_; refine e_name (by kernel_rfl) look_hit ?_; with_reducible refine es_nil ?_; with_reducible refine b_int ?_; with_reducible refine e_int ?_)
    refine v_mod (by decide) ?_
    exact ⟨don ++ [c], res, by rw [hs, List.append_assoc]; rfl, rfl, by rw [List.map_append, List.map_append]; rfl, h⟩
  · rintro loc acc st ⟨don, res, hs, hr, rfl, h⟩
    have hd : don.length ≤ 24 := by have := congrArg List.length hs; rw [List.length_append] at this; omega
    refine P_mkList h (by rw [List.length_map, List.length_map]; omega) fun l st h => ?_
    (with_reducible refine es_cons ?_; with_reducible refine e_int ?_; with_reducible refine es_nil ?_; refine ⟨by kernel_rfl, ?_⟩; with_reducible refine t_tuple (by with_reducible refine bn_cons (by kernel_rfl) ?_; with_reducible refine bn_cons (by kernel_rfl) ?_; with_reducible exact bn_nil) ?_; with_reducible refine k_next ?_; with_reducible refine s_cons ?_; refine s_for (by kernel_rfl) ?_; refine e_name (by kernel_rfl) (by with_reducible refine look_skip (by kernel_rfl) ?_; with_reducible exact look_hit) ?_)
    refine P_itemsR h ix0 ?_
    refine Post.mono (Q := fun fl st => ∃ m, Mix m ∧ fl.1 = Fl.next ∧ fl.2.lookup (Str.ofString "left") = some (V.ref l) ∧ fl.2.lookup (Str.ofString "mixed") = some (V.int m) ∧ At st ((l, .list ((don.map (· % 1000003)).map .int)) :: (b, .list (xs.map .int)) :: L))
      (P_for (fun rest loc st => ∃ m, Mix m ∧ (∀ v ∈ rest, ∃ i : Int, v = .int i) ∧ loc.lookup (Str.ofString "left") = some (V.ref l) ∧ loc.lookup (Str.ofString "mixed") = some (V.int m) ∧ At st ((l, .list ((don.map (· % 1000003)).map .int)) :: (b, .list (xs.map .int)) :: L)) ?_ ?_ ?_ _ _ _ ⟨3537, ⟨by decide, by decide⟩, ?_, by (with_reducible refine look_skip (by kernel_rfl) ?_; with_reducible exact look_hit), by (with_reducible exact look_hit), h⟩) ?_
    · rintro its loc st ⟨_, _, _, _, _, h⟩
      exact sameL_held h (i := 0) rfl (eqbs_rfl _)
    · rintro v rest loc st ⟨m, hm, hr, l1, l2, h⟩
      obtain ⟨i, rfl⟩ := hr v (.head _)
      refine ⟨_, bindT_name (by kernel_rfl), ?_⟩
      (with_reducible refine s_cons ?_; refine s_assign (by kernel_rfl) (by kernel_rfl) ?_; with_reducible refine e_bin ?_; with_reducible refine e_bin ?_; with_reducible refine e_bin ?_; with_reducible refine e_bin ?_; refine e_name (by kernel_rfl) (by with_reducible refine look_skip (by kernel_rfl) ?_; assumption) ?_; with_reducible refine e_int ?_)
      refine v_mul (small_mix hm (by decide) (by decide)) ?_
      (refine e_name (by kernel_rfl) look_hit ?_; with_reducible refine v_add ?_; with_reducible refine e_int ?_; with_reducible refine v_add ?_; with_reducible refine e_int ?_)
      refine v_mod (by decide) ?_
      (with_reducible refine t_name (by kernel_rfl) rfl ?_; with_reducible refine k_next ?_; with_reducible refine s_nil ?_; with_reducible refine k_next ?_)
      exact ⟨_, mix_mod, fun v hv => hr v (.tail _ hv), look_skip (by kernel_rfl) (look_skip (by kernel_rfl) l1), look_hit, h⟩
    · rintro loc st ⟨m, hm, _, l1, l2, h⟩
      exact ⟨m, hm, rfl, l1, l2, h⟩
    · intro v hv
      obtain ⟨i, _, rfl⟩ := List.mem_map.mp hv
      exact ⟨i, rfl⟩
    · rintro ⟨fl, loc⟩ st ⟨m, hm, rfl, l1, l2, h⟩
      (with_reducible refine k_next ?_; with_reducible refine s_cons ?_; with_reducible refine s_ret ?_; with_reducible refine e_dict (by kernel_rfl) ?_; refine e_name (by kernel_rfl) (by assumption) ?_; refine e_name (by kernel_rfl) (by assumption) ?_)
      refine P_alloc h fun d st h => ?_
      (with_reducible refine k_ret ?_; with_reducible refine k_ret ?_)
      exact hq d l m _ st hm (h.sub (.cons_cons _ (.cons_cons _ (.cons _ (.refl _)))))
theorem P_m_pop {vs : List V} (h : At st L) (hi : L[i]? = some (a, .list vs)) (hq : K (.list .pop a)) : PostO (methV (.ref a) (Str.ofString "pop") st) K := P_methL h hi (by kernel_rfl) hq
theorem look_left {l : Nat} {m : Int} : List.lookup (Str.ofString "left") [(Str.ofString "left", V.ref l), (Str.ofString "mixed", V.int m)] = some (.ref l) := look0
theorem look_mixed {l : Nat} {m : Int} : List.lookup (Str.ofString "mixed") [(Str.ofString "left", V.ref l), (Str.ofString "mixed", V.int m)] = some (.int m) := lookS (by kernel_rfl) look0
theorem set_mixed {l : Nat} {m : Int} {v : V} : setL (Str.ofString "mixed") v [(Str.ofString "left", V.ref l), (Str.ofString "mixed", V.int m)] = [(Str.ofString "left", V.ref l), (Str.ofString "mixed", v)] := sl_ne (by kernel_rfl) sl_eq
theorem draw_ok {k' : Int} {k : Nat} (h : At st ((d, deckO l m) :: (l, .list (is.map .int)) :: L)) (hm : Mix m) (hk' : k' = k) (hk : 0 < k) (hq : ∀ (r : Nat) m (is : List Int) st', r < k → Mix m → At st' ((d, deckO l m) :: (l, .list (is.map .int)) :: L) → R (.int r) st') : Post (callF (n + 1) .draw [.ref d, .int k'] st) R := by
  subst hk'
  refine P_callF [(Str.ofString "deck", .ref d), (Str.ofString "many", .int k)] rfl rfl ?_
  ((conv => enter [1, 2]; whnf); (conv => enter [1, 3]; whnf); with_reducible refine s_cons ?_; with_reducible refine s_if ?_; with_reducible refine c_cmp ?_; refine e_sub (by kernel_rfl) ?_; refine e_name (by kernel_rfl) look0 ?_; with_reducible refine e_str ?_)
  refine P_itemD h ix0 look_left ?_
  (with_reducible refine e_list ?_; with_reducible refine es_nil ?_)
  refine P_mkList h (Nat.zero_le _) fun b st h => ?_
  refine P_neI h (i := 2) (j := 0) (js := []) rfl rfl ?_
  have fin : ∀ (z : Int) m (is : List Int) st, Mix m → At st ((d, deckO l m) :: (l, .list (is.map .int)) :: L) → R (.int (z % (k : Int))) st := by
    intro z m is st hm h
    have h0 := Int.emod_nonneg z (show (k : Int) ≠ 0 by omega)
    have h1 := Int.emod_lt_of_pos z (show 0 < (k : Int) by omega)
    have := hq (z % (k : Int)).toNat m is st (by omega) hm h
    rw [Int.toNat_of_nonneg h0] at this
    exact this
  cases is with
  | cons x is =>
    have hne : ¬ x :: is = [] := List.cons_ne_nil _ _
    (refine w_yes (by with_reducible refine nt ?_; with_reducible refine df ?_; assumption) ?_; with_reducible refine s_cons ?_; with_reducible refine s_ret ?_; with_reducible refine e_bin ?_; with_reducible refine e_meth (by kernel_rfl) ?_; refine e_sub (by kernel_rfl) ?_; refine e_name (by kernel_rfl) look0 ?_; with_reducible refine e_str ?_)
    refine P_itemD h ix1 look_left ?_
    refine P_m_pop h (i := 2) rfl ?_
    (with_reducible refine es_cons ?_; with_reducible refine e_int ?_; with_reducible refine es_nil ?_)
    refine P_pop0 h (i := 2) rfl fun st h => ?_
    dsimp only [List.set_cons_zero, List.set_cons_succ, List.eraseIdx_cons_zero, List.eraseIdx_cons_succ] at h
    (refine e_name (by kernel_rfl) (by with_reducible refine lookS (by kernel_rfl) ?_; with_reducible exact look0) ?_)
    refine v_mod (by omega) ?_
    (with_reducible refine k_ret ?_; with_reducible refine k_ret ?_; with_reducible refine k_ret ?_)
    exact fin _ _ is _ hm (h.sub (.cons _ (.refl _)))
  | nil =>
    (refine w_no (by with_reducible refine nf ?_; with_reducible refine dt ?_; rfl) ?_; with_reducible refine s_nil ?_; with_reducible refine k_next ?_; with_reducible refine s_cons ?_; refine s_assign (by kernel_rfl) (by kernel_rfl) ?_; with_reducible refine e_bin ?_; with_reducible refine e_bin ?_; with_reducible refine e_bin ?_; refine e_sub (by kernel_rfl) ?_; refine e_name (by kernel_rfl) look0 ?_; with_reducible refine e_str ?_)
    refine P_itemD h ix1 look_mixed ?_
    (with_reducible refine e_int ?_)
    refine v_mul (small_mix hm (by decide) (by decide)) ?_
    (with_reducible refine e_int ?_; with_reducible refine v_add ?_; with_reducible refine e_int ?_)
    refine v_mod (by decide) ?_
    (refine t_sub (by kernel_rfl) ?_; refine e_name (by kernel_rfl) look0 ?_; with_reducible refine e_str ?_)
    refine P_setD h ix1 (by rw [look_mixed]; rfl) fun st h => ?_
    dsimp only [List.set_cons_zero, List.set_cons_succ, List.eraseIdx_cons_zero, List.eraseIdx_cons_succ] at h
    rw [set_mixed] at h
    (with_reducible refine k_next ?_; with_reducible refine s_cons ?_; with_reducible refine s_ret ?_; with_reducible refine e_bin ?_; with_reducible refine e_bin ?_; refine e_sub (by kernel_rfl) ?_; refine e_name (by kernel_rfl) look0 ?_; with_reducible refine e_str ?_)
    refine P_itemD h ix1 look_mixed ?_
    (with_reducible refine e_int ?_)
    refine v_div (by decide) ?_
    (refine e_name (by kernel_rfl) (by with_reducible refine lookS (by kernel_rfl) ?_; with_reducible exact look0) ?_)
    refine v_mod (by omega) ?_
    (with_reducible refine k_ret ?_; with_reducible refine k_ret ?_)
    exact fin _ _ [] _ mix_mod (h.sub (.cons _ (.refl _)))
theorem pen_ok (h : At st ((d, deckO l m) :: (l, .list (is.map .int)) :: L)) (hm : Mix m) (hq : ∀ b g m (is : List Int) st', Mix m → At st' ((d, deckO l m) :: (l, .list (is.map .int)) :: L) → R (pv b g) st') : Post (callF (n + 2) .pen [.ref d] st) R := by
  refine P_callF [(Str.ofString "deck", .ref d)] rfl rfl ?_
  ((conv => enter [1, 2]; whnf); (conv => enter [1, 3]; whnf); with_reducible refine s_cons ?_; with_reducible refine s_ret ?_; with_reducible refine e_tuple ?_; with_reducible refine es_cons ?_; with_reducible refine e_call (by kernel_rfl) tl_draw ?_; with_reducible refine es_cons ?_; refine e_name (by kernel_rfl) look0 ?_; with_reducible refine es_cons ?_; with_reducible refine e_int ?_; with_reducible refine es_nil ?_)
  refine draw_ok h hm (k := 2) rfl (by decide) fun r m is st hr hm h => ?_
  (with_reducible refine es_cons ?_; with_reducible refine e_neg ?_; with_reducible refine es_cons ?_; refine e_sub (by kernel_rfl) ?_; with_reducible refine e_list ?_; with_reducible refine es_cons ?_; with_reducible refine e_neg ?_; with_reducible refine es_cons ?_; with_reducible refine e_int ?_; with_reducible refine es_cons ?_; with_reducible refine e_int ?_; with_reducible refine es_nil ?_)
  refine P_mkList h (Nat.le_of_ble_eq_true rfl) fun f st h => ?_
  (with_reducible refine e_call (by kernel_rfl) tl_draw ?_; with_reducible refine es_cons ?_; refine e_name (by kernel_rfl) look0 ?_; with_reducible refine es_cons ?_; with_reducible refine e_int ?_; with_reducible refine es_nil ?_)
  have h := (h.focus ix2).focus ix2
  dsimp only [List.set_cons_zero, List.set_cons_succ, List.eraseIdx_cons_zero, List.eraseIdx_cons_succ] at h
  refine draw_ok h hm (k := 3) rfl (by decide) fun u m is st hu hm h => ?_
  have get : ∃ g : Int, getI [V.int (-1), V.int 2, V.int 4] (u : Int) = some (.int g) := by
    match u, hu with
    | 0, _ => exact ⟨-1, rfl⟩
    | 1, _ => exact ⟨2, rfl⟩
    | 2, _ => exact ⟨4, rfl⟩
  obtain ⟨g, hg⟩ := get
  refine P_itemL h (i := 2) rfl hg ?_
  (with_reducible refine es_cons ?_; with_reducible refine e_neg ?_; with_reducible refine es_cons ?_; with_reducible refine e_int ?_; with_reducible refine es_nil ?_; refine ⟨by kernel_rfl, ?_⟩; with_reducible refine k_ret ?_; with_reducible refine k_ret ?_)
  exact hq r g m is st hm (h.sub (.cons_cons _ (.cons_cons _ (.cons _ (.refl _)))))
noncomputable def GoodSign (c : Cell) : Prop := (c.w = 1 ∨ c.w = 2) ∧ ∃ k, c.code = some k ∧ k ≠ 32 ∧ k ≠ 122
theorem sign_ok (h : At st ((d, deckO l m) :: (l, .list (is.map .int)) :: L)) (hm : Mix m) (hq : ∀ c s m (is : List Int) st', GoodSign c → Mix m → At st' ((s, .list ((glyph c).map cv)) :: (d, deckO l m) :: (l, .list (is.map .int)) :: L) → R (.ref s) st') : Post (callF (n + 3) .sign [.ref d] st) R := by
  refine P_callF [(Str.ofString "deck", .ref d)] rfl rfl ?_
  ((conv => enter [1, 2]; whnf); (conv => enter [1, 3]; whnf); with_reducible refine s_cons ?_; refine s_assign (by kernel_rfl) (by kernel_rfl) ?_; with_reducible refine e_tuple ?_; with_reducible refine es_cons ?_; with_reducible refine e_cmp ?_; with_reducible refine e_call (by kernel_rfl) tl_draw ?_; with_reducible refine es_cons ?_; refine e_name (by kernel_rfl) look0 ?_; with_reducible refine es_cons ?_; with_reducible refine e_int ?_; with_reducible refine es_nil ?_)
  refine draw_ok h hm (k := 2) rfl (by decide) fun r m is st hr hm h => ?_
  (with_reducible refine e_int ?_; with_reducible refine q_eq ?_; with_reducible refine es_cons ?_; with_reducible refine e_call (by kernel_rfl) tl_draw ?_; with_reducible refine es_cons ?_; refine e_name (by kernel_rfl) look0 ?_; with_reducible refine es_cons ?_; with_reducible refine e_int ?_; with_reducible refine es_nil ?_)
  refine draw_ok h hm (k := 3) rfl (by decide) fun u m is st hu hm h => ?_
  (with_reducible refine es_cons ?_; with_reducible refine e_call (by kernel_rfl) tl_pen ?_; with_reducible refine es_cons ?_; refine e_name (by kernel_rfl) look0 ?_; with_reducible refine es_nil ?_)
  refine pen_ok h hm fun b g m is st hm h => ?_
  (with_reducible refine es_nil ?_; refine ⟨by kernel_rfl, ?_⟩; with_reducible refine t_tuple (by with_reducible refine bn_cons (by kernel_rfl) ?_; with_reducible refine bn_cons (by kernel_rfl) ?_; with_reducible refine bn_cons (by kernel_rfl) ?_; with_reducible exact bn_nil) ?_; with_reducible refine k_next ?_; with_reducible refine s_cons ?_)
  refine s_if ?_
  refine c_name ?_
  by_cases hw : (r : Int) = 0
  · (refine e_name (by kernel_rfl) (by with_reducible refine look_skip (by kernel_rfl) ?_; with_reducible refine look_skip (by kernel_rfl) ?_; with_reducible exact look_hit) ?_; with_reducible refine q_truth ?_; refine w_yes (by with_reducible refine dt ?_; assumption) ?_; with_reducible refine s_cons ?_; refine s_assign (by kernel_rfl) (by kernel_rfl) ?_; with_reducible refine e_tuple ?_; with_reducible refine es_cons ?_; with_reducible refine e_tuple ?_; with_reducible refine es_cons ?_; with_reducible refine e_bin ?_; with_reducible refine e_int ?_; refine e_name (by kernel_rfl) (by with_reducible refine look_skip (by kernel_rfl) ?_; with_reducible exact look_hit) ?_; with_reducible refine v_add ?_; with_reducible refine es_nil ?_; refine ⟨by kernel_rfl, ?_⟩; with_reducible refine es_cons ?_; with_reducible refine e_int ?_; with_reducible refine es_cons ?_; refine e_name (by kernel_rfl) look_hit ?_; with_reducible refine es_cons ?_; with_reducible refine e_bool ?_; with_reducible refine es_nil ?_; refine ⟨by kernel_rfl, ?_⟩; with_reducible refine t_name (by kernel_rfl) rfl ?_; with_reducible refine k_next ?_; with_reducible refine s_cons ?_; with_reducible refine s_ret ?_; with_reducible refine e_list ?_; with_reducible refine es_cons ?_; refine e_name (by kernel_rfl) look_hit ?_; with_reducible refine es_cons ?_; with_reducible refine e_call (by kernel_rfl) tl_right_half ?_; with_reducible refine es_cons ?_; refine e_name (by kernel_rfl) look_hit ?_; with_reducible refine es_nil ?_)
    refine right_half_ok (c := ⟨some (19968 + u), 2, b, g⟩) ?_
    (with_reducible refine es_nil ?_)
    refine P_mkList h (Nat.le_of_ble_eq_true rfl) fun s st h => ?_
    (with_reducible refine k_ret ?_; with_reducible refine k_ret ?_; with_reducible refine k_ret ?_)
    exact hq ⟨some (19968 + u), 2, b, g⟩ s m is st ⟨.inr rfl, _, rfl, by omega, by omega⟩ hm h
  · (refine e_name (by kernel_rfl) (by with_reducible refine look_skip (by kernel_rfl) ?_; with_reducible refine look_skip (by kernel_rfl) ?_; with_reducible exact look_hit) ?_; with_reducible refine q_truth ?_; refine w_no (by with_reducible refine df ?_; assumption) ?_; with_reducible refine s_nil ?_; with_reducible refine k_next ?_; with_reducible refine s_cons ?_; with_reducible refine s_ret ?_; with_reducible refine e_list ?_; with_reducible refine es_cons ?_; with_reducible refine e_tuple ?_; with_reducible refine es_cons ?_; with_reducible refine e_tuple ?_; with_reducible refine es_cons ?_; with_reducible refine e_bin ?_; with_reducible refine e_int ?_; refine e_name (by kernel_rfl) (by with_reducible refine look_skip (by kernel_rfl) ?_; with_reducible exact look_hit) ?_; with_reducible refine v_add ?_; with_reducible refine es_nil ?_; refine ⟨by kernel_rfl, ?_⟩; with_reducible refine es_cons ?_; with_reducible refine e_int ?_; with_reducible refine es_cons ?_; refine e_name (by kernel_rfl) look_hit ?_; with_reducible refine es_cons ?_; with_reducible refine e_bool ?_; with_reducible refine es_nil ?_; refine ⟨by kernel_rfl, ?_⟩; with_reducible refine es_nil ?_)
    refine P_mkList h (Nat.le_of_ble_eq_true rfl) fun s st h => ?_
    (with_reducible refine k_ret ?_; with_reducible refine k_ret ?_)
    exact hq ⟨some (97 + u), 1, b, g⟩ s m is st ⟨.inl rfl, _, rfl, by omega, by omega⟩ hm h
theorem lput_ok {k : Int} {m s : Nat} (h : At st ((e, .list (cs.map cv)) :: (s, .list ((glyph c).map cv)) :: L)) (hw : WF cs) (hz : cs.length ≤ 60) (hk : k = m) (hm : m < cs.length) (hc : c.w = 1 ∨ c.w = 2)
    (hq : ∀ st', At st' ((e, .list ((over cs m (fit cs m c)).map cv)) :: L) → R .none st') : Post (callF (n + 4) .lput [.ref e, .int k, .ref s] st) R := by
  refine P_callF [(Str.ofString "cells", .ref e), (Str.ofString "column", .int k), (Str.ofString "sign", .ref s)] rfl rfl ?_
  ((conv => enter [1, 2]; whnf); (conv => enter [1, 3]; whnf); with_reducible refine s_cons ?_; with_reducible refine s_if ?_; with_reducible refine c_cmp ?_; refine e_name (by kernel_rfl) (by with_reducible refine lookS (by kernel_rfl) ?_; with_reducible exact look0) ?_; with_reducible refine e_callB (by kernel_rfl) bl_len ?_; with_reducible refine es_cons ?_; refine e_name (by kernel_rfl) look0 ?_; with_reducible refine es_nil ?_)
  refine P_lenC h ix0 ?_
  (with_reducible refine q_ge ?_; refine w_no (by with_reducible refine df ?_; omega) ?_; with_reducible refine s_nil ?_; with_reducible refine k_next ?_; with_reducible refine s_cons ?_)
  refine Post.mono (Q := fun fl st => ∃ t : Nat, fl.1 = Fl.next ∧ fl.2.lookup (Str.ofString "cells") = some (V.ref e) ∧ fl.2.lookup (Str.ofString "column") = some (V.int k) ∧ fl.2.lookup (Str.ofString "sign") = some (V.ref t) ∧ At st ((e, .list (cs.map cv)) :: (t, .list ((fit cs m c).map cv)) :: L)) ?_ ?_
  · refine s_if ?_
    (with_reducible refine c_boolop ?_; with_reducible refine a_cons ?_; with_reducible refine c_cmp ?_; with_reducible refine e_callB (by kernel_rfl) bl_len ?_; with_reducible refine es_cons ?_; refine e_name (by kernel_rfl) (by with_reducible refine lookS (by kernel_rfl) ?_; with_reducible refine lookS (by kernel_rfl) ?_; with_reducible exact look0) ?_; with_reducible refine es_nil ?_)
    refine P_lenC h ix1 ?_
    unfold fit
    by_cases h2 : c.w = 2
    · have hg : glyph c = [c, halfC c] := if_pos h2
      rw [hg] at h ⊢
      have hlen : ([c, halfC c].length : Int) = 2 := rfl
      (with_reducible refine e_int ?_; with_reducible refine q_eq ?_; refine w_yes (by with_reducible refine at' ?_; with_reducible refine dt ?_; assumption) ?_; with_reducible refine a_one ?_; with_reducible refine c_cmp ?_; with_reducible refine e_bin ?_; refine e_name (by kernel_rfl) (by with_reducible refine lookS (by kernel_rfl) ?_; with_reducible exact look0) ?_; with_reducible refine e_int ?_; with_reducible refine v_add ?_; with_reducible refine e_callB (by kernel_rfl) bl_len ?_; with_reducible refine es_cons ?_; refine e_name (by kernel_rfl) look0 ?_; with_reducible refine es_nil ?_)
      refine P_lenC h ix0 ?_
      by_cases h3 : m + 1 = cs.length
      · (with_reducible refine q_eq ?_; refine w_yes (by with_reducible refine dt ?_; omega) ?_; with_reducible refine s_cons ?_; refine s_assign (by kernel_rfl) (by kernel_rfl) ?_; with_reducible refine e_list ?_; with_reducible refine es_cons ?_; with_reducible refine e_call (by kernel_rfl) tl_blank_cell ?_; with_reducible refine es_cons ?_; refine e_sub (by kernel_rfl) ?_; refine e_sub (by kernel_rfl) ?_; refine e_name (by kernel_rfl) (by with_reducible refine lookS (by kernel_rfl) ?_; with_reducible refine lookS (by kernel_rfl) ?_; with_reducible exact look0) ?_; with_reducible refine e_int ?_)
        rw [if_pos ⟨h2, h3⟩]
        refine P_cellAt h (m := 0) ix1 rfl rfl ?_
        (with_reducible refine e_int ?_; with_reducible refine i_cv2 ?_; with_reducible refine es_nil ?_)
        refine blank_cell_ok ?_
        (with_reducible refine es_nil ?_)
        refine P_mkList h (Nat.le_of_ble_eq_true rfl) fun t st h => ?_
        (with_reducible refine t_name (by kernel_rfl) rfl ?_; with_reducible refine k_next ?_; with_reducible refine s_nil ?_)
        exact ⟨t, rfl, look_skip (by kernel_rfl) look0, look_skip (by kernel_rfl) (lookS (by kernel_rfl) look0), look_hit, (h.focus ix1).sub (.cons_cons _ (.cons_cons _ (.cons _ (.refl _))))⟩
      · (with_reducible refine q_eq ?_; refine w_no (by with_reducible refine df ?_; omega) ?_; with_reducible refine s_nil ?_)
        rw [if_neg (fun q => h3 q.2)]
        exact ⟨s, rfl, look0, lookS (by kernel_rfl) look0, lookS (by kernel_rfl) (lookS (by kernel_rfl) look0), h⟩
    · have hg : glyph c = [c] := if_neg h2
      rw [hg] at h ⊢
      have hlen : ([c].length : Int) = 1 := rfl
      (with_reducible refine e_int ?_; with_reducible refine q_eq ?_; refine w_no (by with_reducible refine af ?_; with_reducible refine df ?_; omega) ?_; refine w_no (by with_reducible refine df ?_; omega) ?_; with_reducible refine s_nil ?_)
      rw [if_neg (fun q => h2 q.1)]
      exact ⟨s, rfl, look0, lookS (by kernel_rfl) look0, lookS (by kernel_rfl) (lookS (by kernel_rfl) look0), h⟩
  · have hfl : 1 ≤ (fit cs m c).length ∧ m + (fit cs m c).length ≤ cs.length := by
      unfold fit glyph
      split
      · exact ⟨Nat.le_refl _, hm⟩
      · split
        · exact ⟨Nat.le_succ _, by show m + 2 ≤ _; omega⟩
        · exact ⟨Nat.le_refl _, hm⟩
    generalize fit cs m c = s at hq hfl
    obtain ⟨hs, hms⟩ := hfl
    rintro ⟨fl, loc⟩ st ⟨t, rfl, l1, l2, l3, h⟩
    (with_reducible refine k_next ?_; with_reducible refine s_cons ?_; with_reducible refine s_expr ?_; with_reducible refine e_call (by kernel_rfl) tl_lpart ?_; with_reducible refine es_cons ?_; refine e_name (by kernel_rfl) (by assumption) ?_; with_reducible refine es_cons ?_; refine e_name (by kernel_rfl) (by assumption) ?_; with_reducible refine es_nil ?_)
    refine lpart_ok h hw (by omega) hk fun st h => ?_
    (refine ⟨rfl, ?_⟩; with_reducible refine k_next ?_; with_reducible refine s_cons ?_; with_reducible refine s_expr ?_; with_reducible refine e_call (by kernel_rfl) tl_lpart ?_; with_reducible refine es_cons ?_; refine e_name (by kernel_rfl) (by assumption) ?_; with_reducible refine es_cons ?_; with_reducible refine e_bin ?_; refine e_name (by kernel_rfl) (by assumption) ?_; with_reducible refine e_callB (by kernel_rfl) bl_len ?_; with_reducible refine es_cons ?_; refine e_name (by kernel_rfl) (by assumption) ?_; with_reducible refine es_nil ?_)
    refine P_lenC h ix1 ?_
    (with_reducible refine v_add ?_; with_reducible refine es_nil ?_)
    refine lpart_ok h (hw.cutC m) (by rw [cutC_len]; omega) (m := m + s.length) (by omega) fun st h => ?_
    (refine ⟨rfl, ?_⟩; with_reducible refine k_next ?_; with_reducible refine s_cons ?_; refine s_assign (by kernel_rfl) (by kernel_rfl) ?_; refine e_name (by kernel_rfl) (by assumption) ?_; with_reducible refine t_slice ?_; refine e_name (by kernel_rfl) (by assumption) ?_; with_reducible refine o_some ?_; refine e_name (by kernel_rfl) (by assumption) ?_; with_reducible refine o_some ?_; with_reducible refine e_bin ?_; refine e_name (by kernel_rfl) (by assumption) ?_; with_reducible refine e_callB (by kernel_rfl) bl_len ?_; with_reducible refine es_cons ?_; refine e_name (by kernel_rfl) (by assumption) ?_; with_reducible refine es_nil ?_)
    refine P_lenC h ix1 ?_
    (with_reducible refine v_add ?_)
    rw [cut_two cs hs hms] at h
    have hA : (fixL (cs.take m)).length = m := by rw [fixL_len, List.length_take]; omega
    have hM := midC_len cs hms
    have hD : (fixH (cs.drop (m + s.length))).length = cs.length - (m + s.length) := by rw [fixH_len, List.length_drop]
    unfold over at hq
    generalize fixL (cs.take m) = A at h hq hA
    generalize midC cs m s.length = M at h hM
    generalize fixH (cs.drop (m + s.length)) = D at h hq hD
    refine P_setSlice h (i := 0) (j := 1) rfl rfl (by decide) (bnd_int (m := m) (by omega)) (bnd_int (m := m + s.length) (by omega)) (by simp only [List.length_map, List.length_append]; omega) fun st h => ?_
    dsimp only [List.set_cons_zero, List.set_cons_succ, List.eraseIdx_cons_zero, List.eraseIdx_cons_succ] at h
    have e2 : splice ((A ++ (M ++ D)).map cv) (some m) (some (m + s.length)) (s.map cv) = (A ++ (s ++ D)).map cv := by
      unfold splice
      simp only [Option.getD_some, List.map_append]
      exact splice_mid _ _ _ _ (by simpa using hA.symm) (by simp; omega)
    rw [e2, ← List.append_assoc] at h
    (with_reducible refine k_next ?_; with_reducible refine s_nil ?_; with_reducible refine k_next ?_)
    exact hq _ (h.sub (.cons_cons _ (.cons _ (.refl _))))
end
end Mine

set_option autoImplicit false
set_option linter.unusedVariables false
set_option maxRecDepth 10000
set_option maxHeartbeats 4000000
namespace Mine
open PySem
section
variable {n : Nat} {st : St} {L : Held} {c : Cell} {cs ds ss : List Cell} {a b p q i j d l e : Nat} {is ns : List Int} {m : Int} {R : V → St → Prop} {K : Me → Prop} {KB : Bool → Prop} {KS : St → Prop}
noncomputable def rawF (len i : Nat) (c : Cell) : List Int := if (c.w = 2 ∧ i + 1 = len) ∨ (c.w = 0 ∧ i = 0) then [32] else if 0 < c.w then [c.code.getD 32] else []
noncomputable def rawFrom (len : Nat) : Nat → List Cell → List Int
  | _, [] => []
  | i, c :: r => rawF len i c ++ rawFrom len (i + 1) r
noncomputable def strip32 (is : List Int) : List Int := (is.reverse.dropWhile (fun k => decide (k = 32))).reverse
theorem strip_nil : strip32 [] = [] := rfl
theorem strip_yes : strip32 (is ++ [32]) = strip32 is := by unfold strip32; simp
theorem strip_no {k : Int} (h : k ≠ 32) : strip32 (is ++ [k]) = is ++ [k] := by unfold strip32; simp [h]
theorem P_m_append {vs : List V} (h : At st L) (hi : L[i]? = some (a, .list vs)) (hq : K (.list .append a)) : PostO (methV (.ref a) (Str.ofString "append") st) K := P_methL h hi (by kernel_rfl) hq
theorem lcodes_ok (h : At st ((e, .list (cs.map cv)) :: L)) (hz : cs.length ≤ 60) (hw : ∀ c ∈ cs, 0 ≤ c.w) (hq : ∀ r st', At st' ((r, .list ((strip32 (rawFrom cs.length 0 cs)).map .int)) :: (e, .list (cs.map cv)) :: L) → R (.ref r) st') : Post (callF (n + 1) .lcodes [.ref e] st) R := by
  refine P_callF [(Str.ofString "cells", .ref e)] rfl rfl ?_
  ((conv => enter [1, 2]; whnf); (conv => enter [1, 3]; whnf); with_reducible refine s_cons ?_; refine s_assign (by kernel_rfl) (by kernel_rfl) ?_; with_reducible refine e_list ?_; with_reducible refine es_nil ?_)
  refine P_mkList h (Nat.zero_le _) fun f st h => ?_
  (with_reducible refine t_name (by kernel_rfl) rfl ?_; with_reducible refine k_next ?_; with_reducible refine s_cons ?_; with_reducible refine s_enum (by kernel_rfl) ?_; refine e_name (by kernel_rfl) (by with_reducible refine look_skip (by kernel_rfl) ?_; with_reducible exact look0) ?_)
  refine P_enum h (i := 1) rfl ?_
  refine Post.mono (Q := fun fl st => fl.1 = Fl.next ∧ fl.2.lookup (Str.ofString "found") = some (V.ref f) ∧ (rawFrom cs.length 0 cs).length ≤ cs.length ∧ At st ((f, .list ((rawFrom cs.length 0 cs).map .int)) :: (e, .list (cs.map cv)) :: L))
    (P_for (fun rest loc st => ∃ (don res : List Cell) (is : List Int), cs = don ++ res ∧ rest = enumV don.length (res.map cv) ∧ loc.lookup (Str.ofString "cells") = some (V.ref e) ∧ loc.lookup (Str.ofString "found") = some (V.ref f) ∧ is.length ≤ don.length ∧ is ++ rawFrom cs.length don.length res = rawFrom cs.length 0 cs ∧ At st ((f, .list (is.map .int)) :: (e, .list (cs.map cv)) :: L)) ?_ ?_ ?_ _ _ _ ⟨[], cs, [], rfl, rfl, by (with_reducible refine look_skip (by kernel_rfl) ?_; with_reducible exact look0), by (with_reducible exact look_hit), Nat.le_refl _, rfl, h⟩) ?_
  · rintro its loc st ⟨_, _, _, _, _, _, _, _, _, h⟩
    exact sameL_held h (i := 1) rfl (eqbs_rfl _)
  · rintro v rest loc st ⟨don, res, is, hs, hr, l1, l2, hl, his, h⟩
    cases res with
    | nil => cases hr
    | cons c res =>
    rw [List.map_cons, enumV] at hr
    cases hr
    refine ⟨_, bindT_tup (by kernel_rfl), ?_⟩
    have hs' : cs = (don ++ [c]) ++ res := by rw [hs, List.append_assoc]; rfl
    have hcl : don.length + 1 ≤ cs.length := by rw [hs, List.length_append]; exact Nat.add_le_add_left (Nat.succ_le_succ (Nat.zero_le _)) _
    have hisl : (is.map V.int).length ≤ 60 := by rw [List.length_map]; omega
    have m1 : List.lookup (Str.ofString "cells") (setL (Str.ofString "cell") (cv c) (setL (Str.ofString "at") (V.int don.length) loc)) = some (V.ref e) := look_skip (by kernel_rfl) (look_skip (by kernel_rfl) l1)
    have m2 : List.lookup (Str.ofString "found") (setL (Str.ofString "cell") (cv c) (setL (Str.ofString "at") (V.int don.length) loc)) = some (V.ref f) := look_skip (by kernel_rfl) (look_skip (by kernel_rfl) l2)
    have key : ∀ ws : List Int, rawF cs.length don.length c = ws → ws.length ≤ 1 → ∀ st', At st' ((f, .list (is.map .int ++ ws.map .int)) :: (e, .list (cs.map cv)) :: L) → ∃ (don' res' : List Cell) (is : List Int), cs = don' ++ res' ∧ enumV (don.length + 1) (res.map cv) = enumV don'.length (res'.map cv) ∧ List.lookup (Str.ofString "cells") (setL (Str.ofString "cell") (cv c) (setL (Str.ofString "at") (V.int don.length) loc)) = some (V.ref e) ∧ List.lookup (Str.ofString "found") (setL (Str.ofString "cell") (cv c) (setL (Str.ofString "at") (V.int don.length) loc)) = some (V.ref f) ∧ is.length ≤ don'.length ∧ is ++ rawFrom cs.length don'.length res' = rawFrom cs.length 0 cs ∧ At st' ((f, .list (is.map .int)) :: (e, .list (cs.map cv)) :: L) := by
      rintro ws hws hwl st' h
      refine ⟨don ++ [c], res, is ++ ws, hs', by rw [List.length_append]; rfl, m1, m2, ?_, ?_, ?_⟩
      · rw [List.length_append, List.length_append]; exact Nat.add_le_add hl hwl
      · rw [← his, rawFrom, hws, List.append_assoc, List.length_append]; rfl
      · rw [List.map_append]; exact h
    have hcw := hw c (by rw [hs]; exact List.mem_append_right _ (.head _))
    by_cases hend : (c.w = 2 ∧ don.length + 1 = cs.length) ∨ (c.w = 0 ∧ don.length = 0)
    · have app : At st ((f, .list (is.map .int)) :: (e, .list (cs.map cv)) :: L) → rawF cs.length don.length c = [32] := fun _ => if_pos hend
      by_cases h2 : c.w = 2
      · (with_reducible refine s_cons ?_; with_reducible refine s_if ?_; with_reducible refine c_boolop ?_; with_reducible refine a_cons ?_; with_reducible refine c_boolop ?_; with_reducible refine a_cons ?_; with_reducible refine c_cmp ?_; refine e_sub (by kernel_rfl) ?_; refine e_name (by kernel_rfl) look_hit ?_; with_reducible refine e_int ?_; with_reducible refine i_cv1 ?_; with_reducible refine e_int ?_; with_reducible refine q_eq ?_; refine w_yes (by with_reducible refine at' ?_; with_reducible refine dt ?_; assumption) ?_; with_reducible refine a_one ?_; with_reducible refine c_cmp ?_; with_reducible refine e_bin ?_; refine e_name (by kernel_rfl) (by with_reducible refine look_skip (by kernel_rfl) ?_; with_reducible exact look_hit) ?_; with_reducible refine e_int ?_; with_reducible refine v_add ?_; with_reducible refine e_callB (by kernel_rfl) bl_len ?_; with_reducible refine es_cons ?_; refine e_name (by kernel_rfl) (by assumption) ?_; with_reducible refine es_nil ?_)
        refine P_lenC h (i := 1) rfl ?_
        (with_reducible refine q_eq ?_; refine w_no (by with_reducible refine of' ?_; with_reducible refine dt ?_; omega) ?_; refine w_yes (by with_reducible refine dt ?_; omega) ?_; with_reducible refine s_cons ?_; with_reducible refine s_expr ?_; with_reducible refine e_meth (by kernel_rfl) ?_; refine e_name (by kernel_rfl) (by assumption) ?_)
        refine P_m_append h ix0 ?_
        (with_reducible refine es_cons ?_; with_reducible refine e_int ?_; with_reducible refine es_nil ?_)
        refine P_app h (i := 0) rfl (by omega) fun st h => ?_
        dsimp only [List.set_cons_zero, List.set_cons_succ, List.eraseIdx_cons_zero, List.eraseIdx_cons_succ] at h
        (refine ⟨rfl, ?_⟩; with_reducible refine k_next ?_; with_reducible refine s_nil ?_; with_reducible refine k_next ?_; with_reducible refine s_nil ?_; with_reducible refine k_next ?_)
        exact key [32] (if_pos hend) (Nat.le_refl _) _ h
      · (with_reducible refine s_cons ?_; with_reducible refine s_if ?_; with_reducible refine c_boolop ?_; with_reducible refine a_cons ?_; with_reducible refine c_boolop ?_; with_reducible refine a_cons ?_; with_reducible refine c_cmp ?_; refine e_sub (by kernel_rfl) ?_; refine e_name (by kernel_rfl) look_hit ?_; with_reducible refine e_int ?_; with_reducible refine i_cv1 ?_; with_reducible refine e_int ?_; with_reducible refine q_eq ?_; refine w_no (by with_reducible refine af ?_; with_reducible refine df ?_; assumption) ?_; refine w_yes (by with_reducible refine ot ?_; with_reducible refine df ?_; assumption) ?_; with_reducible refine a_one ?_; with_reducible refine c_boolop ?_; with_reducible refine a_cons ?_; with_reducible refine c_cmp ?_; refine e_sub (by kernel_rfl) ?_; refine e_name (by kernel_rfl) look_hit ?_; with_reducible refine e_int ?_; with_reducible refine i_cv1 ?_; with_reducible refine e_int ?_; with_reducible refine q_eq ?_; refine w_yes (by with_reducible refine at' ?_; with_reducible refine dt ?_; omega) ?_; with_reducible refine a_one ?_; with_reducible refine c_cmp ?_; refine e_name (by kernel_rfl) (by with_reducible refine look_skip (by kernel_rfl) ?_; with_reducible exact look_hit) ?_; with_reducible refine e_int ?_; with_reducible refine q_eq ?_; refine w_yes (by with_reducible refine dt ?_; omega) ?_; with_reducible refine s_cons ?_; with_reducible refine s_expr ?_; with_reducible refine e_meth (by kernel_rfl) ?_; refine e_name (by kernel_rfl) (by assumption) ?_)
        refine P_m_append h ix0 ?_
        (with_reducible refine es_cons ?_; with_reducible refine e_int ?_; with_reducible refine es_nil ?_)
        refine P_app h (i := 0) rfl (by omega) fun st h => ?_
        dsimp only [List.set_cons_zero, List.set_cons_succ, List.eraseIdx_cons_zero, List.eraseIdx_cons_succ] at h
        (refine ⟨rfl, ?_⟩; with_reducible refine k_next ?_; with_reducible refine s_nil ?_; with_reducible refine k_next ?_; with_reducible refine s_nil ?_; with_reducible refine k_next ?_)
        exact key [32] (if_pos hend) (Nat.le_refl _) _ h
    · have hraw : rawF cs.length don.length c = if 0 < c.w then [c.code.getD 32] else [] := if_neg hend
      refine s_cons (s_if ?_)
      refine Post.mono (Q := fun b st' => b = false ∧ st' = st) ?_ ?_
      · by_cases h2 : c.w = 2
        · (with_reducible refine c_boolop ?_; with_reducible refine a_cons ?_; with_reducible refine c_boolop ?_; with_reducible refine a_cons ?_; with_reducible refine c_cmp ?_; refine e_sub (by kernel_rfl) ?_; refine e_name (by kernel_rfl) look_hit ?_; with_reducible refine e_int ?_; with_reducible refine i_cv1 ?_; with_reducible refine e_int ?_; with_reducible refine q_eq ?_; refine w_yes (by with_reducible refine at' ?_; with_reducible refine dt ?_; assumption) ?_; with_reducible refine a_one ?_; with_reducible refine c_cmp ?_; with_reducible refine e_bin ?_; refine e_name (by kernel_rfl) (by with_reducible refine look_skip (by kernel_rfl) ?_; with_reducible exact look_hit) ?_; with_reducible refine e_int ?_; with_reducible refine v_add ?_; with_reducible refine e_callB (by kernel_rfl) bl_len ?_; with_reducible refine es_cons ?_; refine e_name (by kernel_rfl) (by assumption) ?_; with_reducible refine es_nil ?_)
          refine P_lenC h (i := 1) rfl ?_
          (with_reducible refine q_eq ?_; refine w_yes (by with_reducible refine ot ?_; with_reducible refine df ?_; omega) ?_; with_reducible refine a_one ?_; with_reducible refine c_boolop ?_; with_reducible refine a_cons ?_; with_reducible refine c_cmp ?_; refine e_sub (by kernel_rfl) ?_; refine e_name (by kernel_rfl) look_hit ?_; with_reducible refine e_int ?_; with_reducible refine i_cv1 ?_; with_reducible refine e_int ?_; with_reducible refine q_eq ?_; refine w_no (by with_reducible refine af ?_; with_reducible refine df ?_; omega) ?_)
          exact ⟨df (by omega), rfl⟩
        · by_cases h0 : c.w = 0
          · (with_reducible refine c_boolop ?_; with_reducible refine a_cons ?_; with_reducible refine c_boolop ?_; with_reducible refine a_cons ?_; with_reducible refine c_cmp ?_; refine e_sub (by kernel_rfl) ?_; refine e_name (by kernel_rfl) look_hit ?_; with_reducible refine e_int ?_; with_reducible refine i_cv1 ?_; with_reducible refine e_int ?_; with_reducible refine q_eq ?_; refine w_no (by with_reducible refine af ?_; with_reducible refine df ?_; assumption) ?_; refine w_yes (by with_reducible refine ot ?_; with_reducible refine df ?_; assumption) ?_; with_reducible refine a_one ?_; with_reducible refine c_boolop ?_; with_reducible refine a_cons ?_; with_reducible refine c_cmp ?_; refine e_sub (by kernel_rfl) ?_; refine e_name (by kernel_rfl) look_hit ?_; with_reducible refine e_int ?_; with_reducible refine i_cv1 ?_; with_reducible refine e_int ?_; with_reducible refine q_eq ?_; refine w_yes (by with_reducible refine at' ?_; with_reducible refine dt ?_; assumption) ?_; with_reducible refine a_one ?_; with_reducible refine c_cmp ?_; refine e_name (by kernel_rfl) (by with_reducible refine look_skip (by kernel_rfl) ?_; with_reducible exact look_hit) ?_; with_reducible refine e_int ?_; with_reducible refine q_eq ?_)
            exact ⟨df (by omega), rfl⟩
          · (with_reducible refine c_boolop ?_; with_reducible refine a_cons ?_; with_reducible refine c_boolop ?_; with_reducible refine a_cons ?_; with_reducible refine c_cmp ?_; refine e_sub (by kernel_rfl) ?_; refine e_name (by kernel_rfl) look_hit ?_; with_reducible refine e_int ?_; with_reducible refine i_cv1 ?_; with_reducible refine e_int ?_; with_reducible refine q_eq ?_; refine w_no (by with_reducible refine af ?_; with_reducible refine df ?_; assumption) ?_; refine w_yes (by with_reducible refine ot ?_; with_reducible refine df ?_; assumption) ?_; with_reducible refine a_one ?_; with_reducible refine c_boolop ?_; with_reducible refine a_cons ?_; with_reducible refine c_cmp ?_; refine e_sub (by kernel_rfl) ?_; refine e_name (by kernel_rfl) look_hit ?_; with_reducible refine e_int ?_; with_reducible refine i_cv1 ?_; with_reducible refine e_int ?_; with_reducible refine q_eq ?_; refine w_no (by with_reducible refine af ?_; with_reducible refine df ?_; assumption) ?_)
            exact ⟨df (by omega), rfl⟩
      · rintro b st' ⟨rfl, rfl⟩
        by_cases hp : c.w > 0
        · (refine w_no (by rfl) ?_; with_reducible refine s_cons ?_; with_reducible refine s_if ?_; with_reducible refine c_cmp ?_; refine e_sub (by kernel_rfl) ?_; refine e_name (by kernel_rfl) look_hit ?_; with_reducible refine e_int ?_; with_reducible refine i_cv1 ?_; with_reducible refine e_int ?_; with_reducible refine q_gt ?_; refine w_yes (by with_reducible refine dt ?_; assumption) ?_; with_reducible refine s_cons ?_; with_reducible refine s_expr ?_; with_reducible refine e_meth (by kernel_rfl) ?_; refine e_name (by kernel_rfl) (by assumption) ?_)
          refine P_m_extend h ix0 ?_
          by_cases hcd : c.code = none
          · (with_reducible refine es_cons ?_; with_reducible refine e_if ?_; with_reducible refine c_cmp ?_; refine e_sub (by kernel_rfl) ?_; refine e_name (by kernel_rfl) look_hit ?_; with_reducible refine e_int ?_; with_reducible refine i_cv0 ?_; with_reducible refine e_tuple ?_; with_reducible refine es_nil ?_; refine ⟨by kernel_rfl, ?_⟩; with_reducible refine q_codeNe ?_; refine w_no (by with_reducible refine nf ?_; with_reducible refine dt ?_; assumption) ?_; with_reducible refine e_list ?_; with_reducible refine es_cons ?_; with_reducible refine e_int ?_; with_reducible refine es_nil ?_)
            refine P_mkList h (Nat.le_of_ble_eq_true rfl) fun g st h => ?_
            (with_reducible refine es_nil ?_)
            refine P_extR h (i := 1) (j := 0) rfl rfl (by show _ + 1 ≤ 4096; omega) fun st h => ?_
            dsimp only [List.set_cons_zero, List.set_cons_succ, List.eraseIdx_cons_zero, List.eraseIdx_cons_succ] at h
            (refine ⟨rfl, ?_⟩; with_reducible refine k_next ?_; with_reducible refine s_nil ?_; with_reducible refine k_next ?_; with_reducible refine s_nil ?_; with_reducible refine k_next ?_; with_reducible refine s_nil ?_; with_reducible refine k_next ?_)
            exact key [32] (by rw [hraw, if_pos hp, hcd]; rfl) (Nat.le_refl _) _ (h.sub (.cons _ (.refl _)))
          · obtain ⟨k, hk⟩ : ∃ k, c.code = some k := Option.ne_none_iff_exists'.mp hcd
            (with_reducible refine es_cons ?_; with_reducible refine e_if ?_; with_reducible refine c_cmp ?_; refine e_sub (by kernel_rfl) ?_; refine e_name (by kernel_rfl) look_hit ?_; with_reducible refine e_int ?_; with_reducible refine i_cv0 ?_; with_reducible refine e_tuple ?_; with_reducible refine es_nil ?_; refine ⟨by kernel_rfl, ?_⟩; with_reducible refine q_codeNe ?_; refine w_yes (by with_reducible refine nt ?_; with_reducible refine df ?_; assumption) ?_; with_reducible refine e_callB (by kernel_rfl) bl_list ?_; with_reducible refine es_cons ?_; refine e_sub (by kernel_rfl) ?_; refine e_name (by kernel_rfl) look_hit ?_; with_reducible refine e_int ?_; with_reducible refine i_cv0 ?_; with_reducible refine es_nil ?_)
            rw [hk]
            refine P_listT (vs := [.int k]) h (Nat.le_of_ble_eq_true rfl) fun g st h => ?_
            (with_reducible refine es_nil ?_)
            refine P_extR h (i := 1) (j := 0) rfl rfl (by show _ + 1 ≤ 4096; omega) fun st h => ?_
            dsimp only [List.set_cons_zero, List.set_cons_succ, List.eraseIdx_cons_zero, List.eraseIdx_cons_succ] at h
            (refine ⟨rfl, ?_⟩; with_reducible refine k_next ?_; with_reducible refine s_nil ?_; with_reducible refine k_next ?_; with_reducible refine s_nil ?_; with_reducible refine k_next ?_; with_reducible refine s_nil ?_; with_reducible refine k_next ?_)
            exact key [k] (by rw [hraw, if_pos hp, hk]; rfl) (Nat.le_refl _) _ (h.sub (.cons _ (.refl _)))
        · (refine w_no (by rfl) ?_; with_reducible refine s_cons ?_; with_reducible refine s_if ?_; with_reducible refine c_cmp ?_; refine e_sub (by kernel_rfl) ?_; refine e_name (by kernel_rfl) look_hit ?_; with_reducible refine e_int ?_; with_reducible refine i_cv1 ?_; with_reducible refine e_int ?_; with_reducible refine q_gt ?_; refine w_no (by with_reducible refine df ?_; assumption) ?_; with_reducible refine s_nil ?_; with_reducible refine k_next ?_; with_reducible refine s_nil ?_; with_reducible refine k_next ?_; with_reducible refine s_nil ?_; with_reducible refine k_next ?_)
          exact key [] (by rw [hraw, if_neg hp]) (Nat.zero_le _) _ (by rw [List.map_nil, List.append_nil]; exact h)
  · rintro loc st ⟨don, res, is, hs, hr, l1, l2, hl, his, h⟩
    cases res with
    | cons c res => cases hr
    | nil =>
    rw [rawFrom, List.append_nil] at his
    rw [← his]
    rw [List.append_nil] at hs
    exact ⟨rfl, l2, by rw [hs]; exact hl, h⟩
  · rintro ⟨fl, loc⟩ st ⟨rfl, l2, hlen, h⟩
    generalize rawFrom cs.length 0 cs = is at h hq hlen
    (with_reducible refine k_next ?_; with_reducible refine s_cons ?_; with_reducible refine s_while ?_)
    refine Post.mono (Q := fun fl st => fl.1 = Fl.next ∧ fl.2.lookup (Str.ofString "found") = some (V.ref f) ∧ At st ((f, .list ((strip32 is).map .int)) :: (e, .list (cs.map cv)) :: L)) (P_while (fun k loc st => ∃ js : List Int, k = js.length ∧ loc.lookup (Str.ofString "found") = some (V.ref f) ∧ strip32 js = strip32 is ∧ At st ((f, .list (js.map .int)) :: (e, .list (cs.map cv)) :: L)) ?_ 64 is.length _ _ (by omega) ⟨is, rfl, l2, rfl, h⟩) ?_
    · rintro k loc st ⟨js, rfl, l2, hjs, h⟩
      (with_reducible refine c_boolop ?_; with_reducible refine a_cons ?_; with_reducible refine c_cmp ?_; refine e_name (by kernel_rfl) (by assumption) ?_; with_reducible refine e_list ?_; with_reducible refine es_nil ?_)
      refine P_mkList h (Nat.zero_le _) fun b st h => ?_
      skip
      refine P_neI h (i := 1) (j := 0) (js := []) rfl rfl ?_
      rcases List.eq_nil_or_concat js with rfl | ⟨ks, k, rfl⟩
      · (refine w_no (by with_reducible refine af ?_; with_reducible refine nf ?_; with_reducible refine dt ?_; rfl) ?_; refine w_no (by with_reducible refine nf ?_; with_reducible refine dt ?_; rfl) ?_)
        rw [← hjs]
        exact ⟨rfl, l2, h.sub (.cons _ (.refl _))⟩
      · rw [List.concat_eq_append] at *
        have hne : ¬ ks ++ [k] = [] := by simp
        (refine w_yes (by with_reducible refine at' ?_; with_reducible refine nt ?_; with_reducible refine df ?_; assumption) ?_; with_reducible refine a_one ?_; with_reducible refine c_cmp ?_; refine e_sub (by kernel_rfl) ?_; refine e_name (by kernel_rfl) (by assumption) ?_; with_reducible refine e_neg ?_)
        refine P_itemL h (i := 1) rfl (getI_last (v := .int k) (by rw [List.map_append]; exact List.getLast?_concat ..)) ?_
        by_cases h32 : k = 32
        · (with_reducible refine e_int ?_; with_reducible refine q_eq ?_; refine w_yes (by with_reducible refine dt ?_; assumption) ?_)
          refine ⟨by rw [List.length_append]; exact Nat.succ_pos _, ?_⟩
          (with_reducible refine s_cons ?_; with_reducible refine s_expr ?_; with_reducible refine e_meth (by kernel_rfl) ?_; refine e_name (by kernel_rfl) (by assumption) ?_)
          refine P_m_pop h (i := 1) rfl ?_
          (with_reducible refine es_nil ?_)
          refine P_pop h (i := 1) rfl (v := .int k) (by rw [List.map_append]; exact List.getLast?_concat ..) fun st h => ?_
          dsimp only [List.set_cons_zero, List.set_cons_succ, List.eraseIdx_cons_zero, List.eraseIdx_cons_succ] at h
          (refine ⟨rfl, ?_⟩; with_reducible refine k_next ?_; with_reducible refine s_nil ?_; with_reducible refine k_next ?_)
          refine ⟨ks, by rw [List.length_append]; rfl, l2, ?_, ?_⟩
          · rw [← hjs, h32, strip_yes]
          · rw [List.map_append] at h
            have := h.sub (.cons _ (.refl _))
            rw [show ([k].map V.int) = [.int k] from rfl, List.dropLast_concat] at this
            exact this
        · (with_reducible refine e_int ?_; with_reducible refine q_eq ?_; refine w_no (by with_reducible refine df ?_; assumption) ?_)
          rw [← hjs, strip_no h32]
          exact ⟨rfl, l2, h.sub (.cons _ (.refl _))⟩
    · rintro ⟨fl, loc⟩ st ⟨rfl, l2, h⟩
      (with_reducible refine k_next ?_; with_reducible refine s_cons ?_; with_reducible refine s_ret ?_; refine e_name (by kernel_rfl) (by assumption) ?_; with_reducible refine k_ret ?_; with_reducible refine k_ret ?_)
      exact hq f _ h
theorem lused_ok (h : At st ((e, .list (cs.map cv)) :: L)) (hz : cs.length ≤ 60) (hq : ∀ st', At st' ((e, .list (cs.map cv)) :: L) → R (.int (trimN (fun c => decide (c = blankC (-1))) cs cs.length)) st') : Post (callF (n + 3) .lused [.ref e] st) R := by
  refine P_callF [(Str.ofString "cells", .ref e)] rfl rfl ?_
  ((conv => enter [1, 2]; whnf); (conv => enter [1, 3]; whnf); with_reducible refine s_cons ?_; with_reducible refine s_pick (by kernel_rfl) ?_; refine e_name (by kernel_rfl) look0 ?_)
  refine P_enum h ix0 ?_
  refine P_comp (fun rest loc acc st => ∃ (don res : List Cell) (js : List Int), cs = don ++ res ∧ rest = enumV don.length (res.map cv) ∧ acc = js.map .int ∧ js.length ≤ don.length ∧ (match js.getLast? with | some k => k + 1 | none => 0) = (trimN (fun c => decide (c = blankC (-1))) cs don.length : Int) ∧ At st ((e, .list (cs.map cv)) :: L)) ?_ ?_ ?_ _ _ _ _ ⟨[], cs, [], rfl, rfl, rfl, Nat.le_refl _, rfl, h⟩
  · rintro its loc acc st ⟨_, _, _, _, _, _, _, _, h⟩
    exact sameL_held h (i := 0) rfl (eqbs_rfl _)
  · rintro v rest loc acc st ⟨don, res, js, hs, hr, rfl, hl, hjs, h⟩
    cases res with
    | nil => cases hr
    | cons c res =>
    rw [List.map_cons, enumV] at hr
    cases hr
    have hs' : cs = (don ++ [c]) ++ res := by rw [hs, List.append_assoc]; rfl
    have hc : cs[don.length]? = some c := by rw [hs]; exact mid0
    refine ⟨_, bindT_tup (by kernel_rfl), ?_⟩
    (with_reducible refine c_cmp ?_; refine e_name (by kernel_rfl) look_hit ?_; with_reducible refine e_call (by kernel_rfl) tl_blank_cell ?_; with_reducible refine es_cons ?_; refine e_glob (by kernel_rfl) gl_plain ?_; with_reducible refine es_nil ?_)
    refine blank_cell_ok (b := 0) (g := -1) ?_
    by_cases hb : c = blankC (-1)
    · (with_reducible refine q_cellNe ?_; refine w_no (by with_reducible refine nf ?_; with_reducible refine dt ?_; assumption) ?_)
      refine ⟨don ++ [c], res, js, hs', by rw [List.length_append]; rfl, rfl, by rw [List.length_append]; exact Nat.le_succ_of_le hl, ?_, h⟩
      rw [hjs, List.length_append, List.length_singleton, trimN_yes hc (dt hb)]
    · (with_reducible refine q_cellNe ?_; refine w_yes (by with_reducible refine nt ?_; with_reducible refine df ?_; assumption) ?_; refine e_name (by kernel_rfl) (by with_reducible refine look_skip (by kernel_rfl) ?_; with_reducible exact look_hit) ?_)
      refine ⟨don ++ [c], res, js ++ [(don.length : Int)], hs', by rw [List.length_append]; rfl, by rw [List.map_append]; rfl, by rw [List.length_append, List.length_append]; exact Nat.add_le_add_right hl 1, ?_, h⟩
      rw [List.length_append, List.length_singleton, trimN_no hc (df hb), List.getLast?_concat]
      rfl
  · rintro loc acc st ⟨don, res, js, hs, hr, rfl, hl, hjs, h⟩
    cases res with
    | cons c res => cases hr
    | nil =>
    rw [List.append_nil] at hs
    rw [← hs] at hjs
    have hlen : js.length ≤ 60 := by have := congrArg List.length hs; omega
    refine P_mkList h (by rw [List.length_map]; omega) fun f st h => ?_
    (with_reducible refine k_next ?_; with_reducible refine s_cons ?_; with_reducible refine s_ret ?_; with_reducible refine e_if ?_; with_reducible refine c_cmp ?_; refine e_name (by kernel_rfl) look_hit ?_; with_reducible refine e_list ?_; with_reducible refine es_nil ?_)
    refine P_mkList h (Nat.zero_le _) fun g st h => ?_
    refine P_neI h (i := 1) (j := 0) (js := []) rfl rfl ?_
    have fin := hq _ (h.sub (.cons _ (.cons _ (.refl _))))
    rw [← hjs] at fin
    rcases List.eq_nil_or_concat js with rfl | ⟨ks, k, rfl⟩
    · (refine w_no (by with_reducible refine nf ?_; with_reducible refine dt ?_; rfl) ?_; with_reducible refine e_int ?_; with_reducible refine k_ret ?_; with_reducible refine k_ret ?_)
      exact fin
    · rw [List.concat_eq_append] at *
      have hne : ¬ ks ++ [k] = [] := by simp
      rw [List.getLast?_concat] at fin
      (refine w_yes (by with_reducible refine nt ?_; with_reducible refine df ?_; assumption) ?_; with_reducible refine e_bin ?_; refine e_sub (by kernel_rfl) ?_; refine e_name (by kernel_rfl) look_hit ?_; with_reducible refine e_neg ?_)
      refine P_itemL h (i := 1) rfl (getI_last (v := .int k) (by rw [List.map_append]; exact List.getLast?_concat ..)) ?_
      (with_reducible refine e_int ?_; with_reducible refine v_add ?_; with_reducible refine k_ret ?_; with_reducible refine k_ret ?_)
      exact fin
end
end Mine

set_option autoImplicit false
set_option linter.unusedVariables false
namespace Mine
section
variable {cs s s₁ s₂ : List Cell} {c c₁ c₂ : Cell} {m : Nat}
theorem WF.mem (h : WF cs) : ∀ c ∈ cs, (c.w = 0 ∨ c.w = 1 ∨ c.w = 2) ∧ (c.w = 2 → c.code ≠ none) ∧ OkCode c.code := by
  induction h with
  | nil => intro c hc; cases hc
  | one h1 h2 _ ih =>
    intro c hc
    rcases List.mem_cons.mp hc with rfl | hc
    · exact ⟨.inr (.inl h1), fun q => by omega, h2⟩
    · exact ih c hc
  | @two a r h1 h2 h3 _ ih =>
    intro c hc
    rcases List.mem_cons.mp hc with rfl | hc
    · exact ⟨.inr (.inr h1), fun _ => h2, h3⟩
    · rcases List.mem_cons.mp hc with rfl | hc
      · exact ⟨.inl rfl, fun q => absurd (show (0 : Int) = 2 from q) (by decide), okBlank⟩
      · exact ih c hc
theorem glyph_wf (h : GoodSign c) : WF (glyph c) := by
  obtain ⟨hw, k, hk, h1, h2⟩ := h
  have ok : OkCode c.code := by intro j hj; rw [hk] at hj; cases hj; exact ⟨h1, h2⟩
  unfold glyph
  by_cases h : c.w = 2
  · rw [if_pos h]; exact .two h (by rw [hk]; simp) ok .nil
  · rw [if_neg h]; exact .one (by omega) ok .nil
theorem fit_wf (h : GoodSign c) : WF (fit cs m c) := by
  unfold fit
  split
  · exact .blank .nil
  · exact glyph_wf h
theorem glyph_len (h : c.w = 1 ∨ c.w = 2) : ((glyph c).length : Int) = c.w := by
  unfold glyph
  split <;> simp <;> omega
theorem fit_len (h : c.w = 1 ∨ c.w = 2) (hm : m < cs.length) : 1 ≤ (fit cs m c).length ∧ m + (fit cs m c).length ≤ cs.length := by
  unfold fit glyph
  split
  · simp; omega
  · split <;> simp <;> omega
theorem over_over (hw : WF cs) (h1 : WF s₁) (h2 : 1 ≤ s₂.length) (hm : m + s₁.length + s₂.length ≤ cs.length) : over (over cs m s₁) (m + s₁.length) s₂ = over cs m (s₁ ++ s₂) := by
  have hA : (fixL (cs.take m)).length = m := by rw [fixL_len, List.length_take]; omega
  have wA := (hw.cut m).1
  unfold over
  have e1 : (fixL (cs.take m) ++ s₁ ++ fixH (cs.drop (m + s₁.length))).take (m + s₁.length) = fixL (cs.take m) ++ s₁ := by
    rw [List.take_append_of_le_length (by rw [List.length_append]; omega), List.take_of_length_le (by rw [List.length_append]; omega)]
  have e2 : (fixL (cs.take m) ++ s₁ ++ fixH (cs.drop (m + s₁.length))).drop (m + s₁.length + s₂.length) = cs.drop (m + (s₁ ++ s₂).length) := by
    rw [List.drop_append, List.drop_of_length_le (by rw [List.length_append]; omega), List.length_append, hA, List.nil_append, show m + s₁.length + s₂.length - (m + s₁.length) = s₂.length by omega, fixH_drop _ h2, List.drop_drop, List.length_append, Nat.add_assoc]
  rw [e1, e2, (wA.append h1).fixL_id, List.append_assoc, List.append_assoc, List.append_assoc, List.append_assoc]
/-- two signs put one behind the other are one row of cells put -/
theorem put_two (hw : WF cs) (hm : m < cs.length) (h1 : GoodSign c₁) (h2 : GoodSign c₂) :
    (if m + (glyph c₁).length < cs.length then over (over cs m (fit cs m c₁)) (m + (glyph c₁).length) (fit (over cs m (fit cs m c₁)) (m + (glyph c₁).length) c₂) else over cs m (fit cs m c₁)) = over cs m (fixL ((glyph c₁ ++ glyph c₂).take (cs.length - m))) := by
  have w1 := glyph_wf h1
  have w2 := glyph_wf h2
  by_cases ha : c₁.w = 2 ∧ m + 1 = cs.length
  · have hg : glyph c₁ = [c₁, halfC c₁] := if_pos ha.1
    rw [hg, if_neg (by simp; omega), show cs.length - m = 1 by omega]
    show over cs m (fit cs m c₁) = over cs m [fx 2 c₁]
    rw [fit, if_pos ha, fx, if_pos ha.1]
  · have hf : fit cs m c₁ = glyph c₁ := if_neg ha
    have hl := fit_len (cs := cs) (m := m) h1.1 hm
    rw [hf] at hl ⊢
    by_cases hb : m + (glyph c₁).length < cs.length
    · rw [if_pos hb]
      have hol := over_len cs m (s := glyph c₁) (by omega)
      have hl2 := fit_len (cs := over cs m (glyph c₁)) (m := m + (glyph c₁).length) h2.1 (by omega)
      rw [hol] at hl2
      rw [over_over hw w1 hl2.1 hl2.2]
      congr 1
      rw [List.take_append, List.take_of_length_le (by omega), fixL_app _ w1.fixL_id]
      congr 1
      unfold fit
      rw [hol]
      by_cases hc : c₂.w = 2 ∧ m + (glyph c₁).length + 1 = cs.length
      · rw [if_pos hc, show cs.length - m - (glyph c₁).length = 1 by omega, show glyph c₂ = [c₂, halfC c₂] from if_pos hc.1]
        show _ = [fx 2 c₂]
        rw [fx, if_pos hc.1]
      · rw [if_neg hc, List.take_of_length_le, w2.fixL_id]
        have := glyph_len h2.1
        have := h2.1
        omega
    · rw [if_neg hb]
      rw [List.take_append_of_le_length (by omega), List.take_of_length_le (by omega), w1.fixL_id]
/-! codes -/
theorem codesC_append (a b : List Cell) : codesC (a ++ b) = codesC a ++ codesC b := by unfold codesC; rw [List.flatMap_append]
theorem codesC_cons (c : Cell) (b : List Cell) : codesC (c :: b) = (if c.w = 0 then [] else [c.code.getD 32]) ++ codesC b := rfl
theorem trimN_pre (f : Cell → Bool) (t r : List Cell) : ∀ k, k ≤ t.length → trimN f (t ++ r) k = trimN f t k
  | 0, _ => rfl
  | k + 1, h => by rw [trimN, trimN, List.getElem?_append_left (by omega), trimN_pre f t r k (by omega)]
theorem WF.pre {t : List Cell} {c : Cell} (h : WF (t ++ [c])) (hc : c.w = 1) : WF t := by
  have := (h.cut t.length).1
  rw [List.take_left] at this
  rcases List.eq_nil_or_concat t with rfl | ⟨u, d, rfl⟩
  · exact .nil
  · rw [List.concat_eq_append] at *
    have hp := h.pair (l := u) (r := []) (d := d) (c := c) (by simp)
    rw [fixL_snoc, fx, if_neg (by omega)] at this
    exact this
theorem codes_law : ∀ (n : Nat) (s : List Cell), s.length = n → WF s → strip32 (codesC s) = codesC (s.take (trimN isBlankC s s.length)) := by
  intro n
  induction n with
  | zero =>
    intro s hs _
    obtain rfl := List.length_eq_zero_iff.mp hs
    rfl
  | succ n ih =>
    intro s hs hw
    rcases List.eq_nil_or_concat s with rfl | ⟨t, c, rfl⟩
    · simp at hs
    · rw [List.concat_eq_append] at *
      have hl : (t ++ [c]).length = t.length + 1 := by simp
      have hc : (t ++ [c])[t.length]? = some c := mid0
      have hm := hw.mem c (by simp)
      by_cases hb : isBlankC c = true
      · have hb' : c.code = none ∧ c.w = 1 := by unfold isBlankC at hb; simpa using hb
        rw [hl, trimN_yes hc hb, trimN_pre _ _ _ _ (Nat.le_refl _), List.take_append_of_le_length (trimN_le ..), codesC_append, codesC_cons, if_neg (by omega), hb'.1]
        show strip32 (codesC t ++ ([32] ++ [])) = _
        rw [List.append_nil, strip_yes]
        exact ih t (by omega) (hw.pre hb'.2)
      · rw [hl, trimN_no hc (by simpa using hb), List.take_of_length_le (by omega)]
        rcases hm.1 with h0 | h1 | h2
        · rcases List.eq_nil_or_concat t with rfl | ⟨u, d, rfl⟩
          · have := hw.fx0
            rw [fx, if_pos h0] at this
            rw [← this] at h0
            exact absurd (show (1 : Int) = 0 from h0) (by decide)
          · rw [List.concat_eq_append] at *
            have hp := hw.pair (l := u) (r := []) (d := d) (c := c) (by simp)
            have hd := hw.mem d (by simp)
            have hdw := hp.mpr h0
            obtain ⟨k, hk⟩ : ∃ k, d.code = some k := Option.ne_none_iff_exists'.mp (hd.2.1 hdw)
            have hk32 := (hd.2.2 k hk).1
            rw [codesC_append, codesC_append, codesC_cons, codesC_cons, if_pos h0, if_neg (by omega), hk]
            show strip32 ((codesC u ++ ([k] ++ [])) ++ ([] ++ [])) = (codesC u ++ ([k] ++ [])) ++ ([] ++ [])
            simp only [List.append_nil]
            rw [strip_no hk32]
        · have hcn : c.code ≠ none := fun q => hb (by unfold isBlankC; simp [q, h1])
          obtain ⟨k, hk⟩ : ∃ k, c.code = some k := Option.ne_none_iff_exists'.mp hcn
          have hk32 := (hm.2.2 k hk).1
          rw [codesC_append, codesC_cons, if_neg (by omega), hk]
          show strip32 (codesC t ++ ([k] ++ [])) = codesC t ++ ([k] ++ [])
          rw [List.append_nil, strip_no hk32]
        · have := hw.fixL_id
          rw [fixL_snoc] at this
          have e := List.append_cancel_left this
          simp only [List.cons.injEq, and_true] at e
          rw [fx, if_pos h2] at e
          rw [← e] at h2
          exact absurd (show (1 : Int) = 2 from h2) (by decide)
theorem raw_tail : ∀ (r : List Cell) (i : Nat), 1 ≤ i → (∀ c ∈ r, 0 ≤ c.w) → rawFrom (i + r.length) i r = codesC (fixL r)
  | [], _, _, _ => rfl
  | [c], i, hi, hw => by
    have := hw c (.head _)
    rw [rawFrom, rawFrom, fixL, codesC_cons, rawF, fx]
    by_cases h2 : c.w = 2
    · rw [if_pos (.inl ⟨h2, rfl⟩), if_pos h2, if_neg (by show (1 : Int) ≠ 0; decide)]; rfl
    · rw [if_neg (by omega), if_neg h2]
      by_cases h0 : c.w = 0
      · rw [if_neg (by omega), if_pos h0]; rfl
      · rw [if_pos (by omega), if_neg h0]; rfl
  | c :: d :: r, i, hi, hw => by
    have := hw c (.head _)
    rw [rawFrom, fixL, codesC_cons, rawF]
    have ih := raw_tail (d :: r) (i + 1) (by omega) fun c hc => hw c (.tail _ hc)
    rw [show i + (c :: d :: r).length = i + 1 + (d :: r).length by simp only [List.length_cons]; omega, ih]
    congr 1
    rw [if_neg (by simp only [List.length_cons]; omega)]
    by_cases h0 : c.w = 0
    · rw [if_neg (by omega), if_pos h0]
    · rw [if_pos (by omega), if_neg h0]
theorem raw_all : ∀ (cs : List Cell), (∀ c ∈ cs, 0 ≤ c.w) → rawFrom cs.length 0 cs = codesC (fixL (fixH cs))
  | [], _ => rfl
  | [c], hw => by
    have := hw c (.head _)
    rw [rawFrom, rawFrom, fixH, fixL, codesC_cons, rawF]
    by_cases h0 : c.w = 0
    · rw [if_pos (.inr ⟨h0, rfl⟩), show fx 0 c = blankC c.g from if_pos h0, show fx 2 (blankC c.g) = blankC c.g from if_neg (by show (1 : Int) ≠ 2; decide), if_neg (by show (1 : Int) ≠ 0; decide)]; rfl
    · rw [show fx 0 c = c from if_neg h0]
      by_cases h2 : c.w = 2
      · rw [if_pos (.inl ⟨h2, rfl⟩), show fx 2 c = blankC c.g from if_pos h2, if_neg (by show (1 : Int) ≠ 0; decide)]; rfl
      · rw [if_neg (by omega), show fx 2 c = c from if_neg h2, if_pos (by omega), if_neg h0]; rfl
  | c :: d :: r, hw => by
    have := hw c (.head _)
    have ih := raw_tail (d :: r) 1 (by omega) fun c hc => hw c (.tail _ hc)
    rw [rawFrom, fixH, fixL, codesC_cons, rawF, show (c :: d :: r).length = 1 + (d :: r).length by simp only [List.length_cons]; omega, ih]
    congr 1
    by_cases h0 : c.w = 0
    · rw [if_pos (.inr ⟨h0, rfl⟩), show fx 0 c = blankC c.g from if_pos h0, if_neg (by show (1 : Int) ≠ 0; decide)]; rfl
    · rw [show fx 0 c = c from if_neg h0, if_neg (by simp only [List.length_cons]; omega), if_pos (by omega), if_neg h0]
theorem put_differs (hw : WF cs) (hn : cs ≠ []) : over cs 0 (fit cs 0 ⟨some 122, 1, 0, -1⟩) ≠ cs := by
  intro h
  cases cs with
  | nil => exact hn rfl
  | cons c r =>
    have e : fit (c :: r) 0 ⟨some 122, 1, 0, -1⟩ = [⟨some 122, 1, 0, -1⟩] := rfl
    rw [e] at h
    have := (hw.mem c (.head _)).2.2
    have h1 : (⟨some 122, 1, 0, -1⟩ : Cell) = c := (List.cons.inj h).1
    rw [← h1] at this
    exact (this 122 rfl).2 rfl
end
end Mine

set_option autoImplicit false
set_option linter.unusedVariables false
set_option maxRecDepth 10000
set_option maxHeartbeats 4000000
namespace Mine
open PySem
section
variable {n : Nat} {st : St} {L : Held} {c : Cell} {cs ds ss : List Cell} {a b p q i j d l e : Nat} {is ns : List Int} {m : Int} {R : V → St → Prop} {K : Me → Prop} {KB : Bool → Prop} {KS : St → Prop}
theorem P_m_put_cells (h : At st L) (hi : L[i]? = some (p, lineO a)) (hq : K (.own .m_put_cells p)) : PostO (methV (.ref p) (Str.ofString "put_cells") st) K := P_m _ _ h hi (by kernel_rfl) (by kernel_rfl) hq
theorem P_m_insert (h : At st L) (hi : L[i]? = some (p, lineO a)) (hq : K (.own .m_insert p)) : PostO (methV (.ref p) (Str.ofString "insert") st) K := P_m _ _ h hi (by kernel_rfl) (by kernel_rfl) hq
theorem P_m_delete (h : At st L) (hi : L[i]? = some (p, lineO a)) (hq : K (.own .m_delete p)) : PostO (methV (.ref p) (Str.ofString "delete") st) K := P_m _ _ h hi (by kernel_rfl) (by kernel_rfl) hq
/-- the signs of a row put one by one -/
noncomputable def stepL (x : List Cell × Nat) (c : Cell) : List Cell × Nat := (if 0 < c.w ∧ x.2 < x.1.length then over x.1 x.2 (fit x.1 x.2 c) else x.1, x.2 + c.w.toNat)
theorem step_glyph {x : List Cell × Nat} (h : c.w = 1 ∨ c.w = 2) : (glyph c).foldl stepL x = (if x.2 < x.1.length then over x.1 x.2 (fit x.1 x.2 c) else x.1, x.2 + (glyph c).length) := by
  have hg := glyph_len h
  unfold glyph at hg ⊢
  by_cases h2 : c.w = 2
  · rw [if_pos h2] at hg ⊢
    show stepL (stepL x c) (halfC c) = _
    have e : ∀ y, stepL y (halfC c) = y := fun y => by
      unfold stepL
      rw [if_neg (by show ¬ ((0 : Int) < 0 ∧ _); omega)]
      rfl
    rw [e, stepL]
    congr 1
    · by_cases hx : x.2 < x.1.length
      · rw [if_pos ⟨by omega, hx⟩, if_pos hx]
      · rw [if_neg (fun q => hx q.2), if_neg hx]
    · rw [h2]; rfl
  · rw [if_neg h2] at hg ⊢
    show stepL x c = _
    rw [stepL]
    congr 1
    · by_cases hx : x.2 < x.1.length
      · rw [if_pos ⟨by omega, hx⟩, if_pos hx]
      · rw [if_neg (fun q => hx q.2), if_neg hx]
    · rw [show c.w = 1 by omega]; rfl
theorem step_two {c₁ c₂ : Cell} {m : Nat} (hw : WF cs) (hm : m < cs.length) (h1 : GoodSign c₁) (h2 : GoodSign c₂) : ((glyph c₁ ++ glyph c₂).foldl stepL (cs, m)).1 = over cs m (fixL ((glyph c₁ ++ glyph c₂).take (cs.length - m))) := by
  rw [List.foldl_append, step_glyph h1.1, step_glyph h2.1]
  simp only [if_pos hm]
  have hl := fit_len (cs := cs) (m := m) h1.1 hm
  rw [over_len cs m hl.2]
  exact put_two hw hm h1 h2
theorem step_inv {r : List Cell} {x : List Cell × Nat} (hx : WF x.1) (hr : ∀ c ∈ r, 0 < c.w → GoodSign c) : WF (r.foldl stepL x).1 ∧ (r.foldl stepL x).1.length = x.1.length := by
  induction r generalizing x with
  | nil => exact ⟨hx, rfl⟩
  | cons c r ih =>
    rw [List.foldl_cons]
    have h1 : WF (stepL x c).1 ∧ (stepL x c).1.length = x.1.length := by
      unfold stepL
      by_cases h : 0 < c.w ∧ x.2 < x.1.length
      · have hg := hr c (.head _) h.1
        simp only [if_pos h]
        exact ⟨hx.over _ (fit_wf hg), over_len _ _ (fit_len hg.1 h.2).2⟩
      · simp only [if_neg h]; exact ⟨hx, trivial⟩
    obtain ⟨a, b⟩ := ih h1.1 fun c hc => hr c (.tail _ hc)
    exact ⟨a, b.trans h1.2⟩
theorem deed_ok (h : At st ((d, deckO l m) :: (l, .list (is.map .int)) :: (p, lineO a) :: (a, .list (cs.map cv)) :: (e, .list (cs.map cv)) :: L)) (hm : Mix m) (hw : WF cs) (h3 : 3 ≤ cs.length) (hz : cs.length ≤ 6)
    (hq : ∀ cs' m (is : List Int) st', WF cs' → cs'.length = cs.length → Mix m → At st' ((d, deckO l m) :: (l, .list (is.map .int)) :: (p, lineO a) :: (a, .list (cs'.map cv)) :: (e, .list (cs'.map cv)) :: L) → R .none st') : Post (callF (n + 7) .deed [.ref d, .ref p, .ref e] st) R := by
  refine P_callF [(Str.ofString "deck", .ref d), (Str.ofString "line", .ref p), (Str.ofString "cells", .ref e)] rfl rfl ?_
  ((conv => enter [1, 2]; whnf); (conv => enter [1, 3]; whnf); with_reducible refine s_cons ?_; refine s_assign (by kernel_rfl) (by kernel_rfl) ?_; with_reducible refine e_tuple ?_; with_reducible refine es_cons ?_; with_reducible refine e_call (by kernel_rfl) tl_draw ?_; with_reducible refine es_cons ?_; refine e_name (by kernel_rfl) look0 ?_; with_reducible refine es_cons ?_; with_reducible refine e_int ?_; with_reducible refine es_nil ?_)
  have h60 : cs.length ≤ 60 := by omega
  have h100 : cs.length ≤ 100 := Nat.le_trans h60 (Nat.le_of_ble_eq_true rfl)
  refine draw_ok h hm (k := 5) rfl (by decide) fun way m is st hway hm h => ?_
  (with_reducible refine es_cons ?_; with_reducible refine e_call (by kernel_rfl) tl_draw ?_; with_reducible refine es_cons ?_; refine e_name (by kernel_rfl) look0 ?_; with_reducible refine es_cons ?_; with_reducible refine e_callB (by kernel_rfl) bl_len ?_; with_reducible refine es_cons ?_; refine e_name (by kernel_rfl) (by with_reducible refine lookS (by kernel_rfl) ?_; with_reducible refine lookS (by kernel_rfl) ?_; with_reducible exact look0) ?_; with_reducible refine es_nil ?_)
  refine P_lenC h ix4 ?_
  (with_reducible refine es_nil ?_)
  refine draw_ok h hm (k := cs.length) rfl (by first | assumption | with_reducible rfl | omega) fun col m is st hcol hm h => ?_
  (with_reducible refine es_nil ?_; refine ⟨by kernel_rfl, ?_⟩; with_reducible refine t_tuple (by with_reducible refine bn_cons (by kernel_rfl) ?_; with_reducible refine bn_cons (by kernel_rfl) ?_; with_reducible exact bn_nil) ?_; with_reducible refine k_next ?_; with_reducible refine s_cons ?_)
  refine s_if ?_
  by_cases hA : (way : Int) < 2
  · (with_reducible refine c_cmp ?_; refine e_name (by kernel_rfl) (by with_reducible refine look_skip (by kernel_rfl) ?_; with_reducible exact look_hit) ?_; with_reducible refine e_int ?_; with_reducible refine q_lt ?_; refine w_yes (by with_reducible refine dt ?_; assumption) ?_; with_reducible refine s_cons ?_; refine s_assign (by kernel_rfl) (by kernel_rfl) ?_; with_reducible refine e_call (by kernel_rfl) tl_sign ?_; with_reducible refine es_cons ?_; refine e_name (by kernel_rfl) (by with_reducible refine look_skip (by kernel_rfl) ?_; with_reducible refine look_skip (by kernel_rfl) ?_; with_reducible exact look0) ?_; with_reducible refine es_nil ?_)
    refine sign_ok h hm fun c s m is st hc hm h => ?_
    (with_reducible refine t_name (by kernel_rfl) rfl ?_; with_reducible refine k_next ?_; with_reducible refine s_cons ?_; with_reducible refine s_expr ?_; with_reducible refine e_meth (by kernel_rfl) ?_; refine e_name (by kernel_rfl) (by with_reducible refine look_skip (by kernel_rfl) ?_; with_reducible refine look_skip (by kernel_rfl) ?_; with_reducible refine look_skip (by kernel_rfl) ?_; with_reducible refine lookS (by kernel_rfl) ?_; with_reducible exact look0) ?_)
    refine P_m_put h (i := 3) rfl ?_
    have hg0 : (glyph c)[0]? = some c := by unfold glyph; split <;> rfl
    (with_reducible refine es_cons ?_; refine e_name (by kernel_rfl) (by with_reducible refine look_skip (by kernel_rfl) ?_; with_reducible exact look_hit) ?_; with_reducible refine es_cons ?_; refine e_sub (by kernel_rfl) ?_; refine e_name (by kernel_rfl) look_hit ?_; with_reducible refine e_int ?_)
    refine P_cellAt h (i := 0) (m := 0) rfl rfl hg0 ?_
    (with_reducible refine es_nil ?_; with_reducible refine m_own ?_)
    have h := (h.focus (i := 4) rfl).focus (i := 4) rfl
    dsimp only [List.set_cons_zero, List.set_cons_succ, List.eraseIdx_cons_zero, List.eraseIdx_cons_succ] at h
    refine put_ok h hw (by first | assumption | with_reducible rfl | omega) rfl hcol hc.1 fun st h => ?_
    (refine ⟨rfl, ?_⟩; with_reducible refine k_next ?_; with_reducible refine s_cons ?_; with_reducible refine s_expr ?_; with_reducible refine e_call (by kernel_rfl) tl_lput ?_; with_reducible refine es_cons ?_; refine e_name (by kernel_rfl) (by with_reducible refine look_skip (by kernel_rfl) ?_; with_reducible refine look_skip (by kernel_rfl) ?_; with_reducible refine look_skip (by kernel_rfl) ?_; with_reducible refine lookS (by kernel_rfl) ?_; with_reducible refine lookS (by kernel_rfl) ?_; with_reducible exact look0) ?_; with_reducible refine es_cons ?_; refine e_name (by kernel_rfl) (by with_reducible refine look_skip (by kernel_rfl) ?_; with_reducible exact look_hit) ?_; with_reducible refine es_cons ?_; refine e_name (by kernel_rfl) look_hit ?_; with_reducible refine es_nil ?_)
    have h := (h.focus (i := 2) rfl).focus (i := 5) rfl
    dsimp only [List.set_cons_zero, List.set_cons_succ, List.eraseIdx_cons_zero, List.eraseIdx_cons_succ] at h
    refine lput_ok h hw (by first | assumption | with_reducible rfl | omega) rfl hcol hc.1 fun st h => ?_
    (refine ⟨rfl, ?_⟩; with_reducible refine k_next ?_; with_reducible refine s_nil ?_; with_reducible refine k_next ?_; with_reducible refine s_nil ?_; with_reducible refine k_next ?_)
    refine hq _ m is st (hw.over col (fit_wf (cs := cs) (m := col) hc)) (over_len _ _ (fit_len hc.1 hcol).2) hm ?_
    exact (((h.focus (i := 2) rfl).focus (i := 2) rfl).focus (i := 4) rfl).focus (i := 4) rfl
  · by_cases hB : (way : Int) = 2
    · (with_reducible refine c_cmp ?_; refine e_name (by kernel_rfl) (by with_reducible refine look_skip (by kernel_rfl) ?_; with_reducible exact look_hit) ?_; with_reducible refine e_int ?_; with_reducible refine q_lt ?_; refine w_no (by with_reducible refine df ?_; assumption) ?_; with_reducible refine s_cons ?_; with_reducible refine s_if ?_; with_reducible refine c_cmp ?_; refine e_name (by kernel_rfl) (by with_reducible refine look_skip (by kernel_rfl) ?_; with_reducible exact look_hit) ?_; with_reducible refine e_int ?_; with_reducible refine q_eq ?_; refine w_yes (by with_reducible refine dt ?_; assumption) ?_; with_reducible refine s_cons ?_; refine s_assign (by kernel_rfl) (by kernel_rfl) ?_; with_reducible refine e_bin ?_; with_reducible refine e_call (by kernel_rfl) tl_sign ?_; with_reducible refine es_cons ?_; refine e_name (by kernel_rfl) (by with_reducible refine look_skip (by kernel_rfl) ?_; with_reducible refine look_skip (by kernel_rfl) ?_; with_reducible exact look0) ?_; with_reducible refine es_nil ?_)
      refine sign_ok h hm fun c₁ s₁ m is st hc₁ hm h => ?_
      (with_reducible refine e_call (by kernel_rfl) tl_sign ?_; with_reducible refine es_cons ?_; refine e_name (by kernel_rfl) (by with_reducible refine look_skip (by kernel_rfl) ?_; with_reducible refine look_skip (by kernel_rfl) ?_; with_reducible exact look0) ?_; with_reducible refine es_nil ?_)
      have h := (h.focus (i := 2) rfl).focus (i := 2) rfl
      dsimp only [List.set_cons_zero, List.set_cons_succ, List.eraseIdx_cons_zero, List.eraseIdx_cons_succ] at h
      refine sign_ok h hm fun c₂ s₂ m is st hc₂ hm h => ?_
      have hgl : ∀ c, (glyph c).length ≤ 2 := fun c => by unfold glyph; split <;> exact Nat.le_of_ble_eq_true rfl
      refine P_addL h (i := 3) (j := 0) rfl rfl (by rw [List.length_map, List.length_map]; have := hgl c₁; have := hgl c₂; omega) fun t st h => ?_
      rw [← List.map_append] at h
      have wss : WF (glyph c₁ ++ glyph c₂) := (glyph_wf hc₁).append (glyph_wf hc₂)
      have hss : ∀ c ∈ glyph c₁ ++ glyph c₂, 0 < c.w → GoodSign c := by
        have one : ∀ c₀, GoodSign c₀ → ∀ c ∈ glyph c₀, 0 < c.w → GoodSign c := by
          intro c₀ h0 c hc hcw
          unfold glyph at hc
          split at hc
          · simp only [List.mem_cons, List.not_mem_nil, or_false] at hc
            rcases hc with rfl | rfl
            · exact h0
            · exact absurd (show (0 : Int) < 0 from hcw) (by decide)
          · simp only [List.mem_cons, List.not_mem_nil, or_false] at hc
            rw [hc]; exact h0
        intro c hc
        rcases List.mem_append.mp hc with hc | hc
        · exact one c₁ hc₁ c hc
        · exact one c₂ hc₂ c hc
      have h2 := step_two hw hcol hc₁ hc₂
      have hn : glyph c₁ ++ glyph c₂ ≠ [] := by unfold glyph; split <;> exact fun q => nomatch q
      have hsl : (glyph c₁ ++ glyph c₂).length ≤ 4 := by rw [List.length_append]; have := hgl c₁; have := hgl c₂; omega
      generalize hSS : glyph c₁ ++ glyph c₂ = ss at h wss hss h2 hn hsl
      (with_reducible refine t_name (by kernel_rfl) rfl ?_; with_reducible refine k_next ?_; with_reducible refine s_cons ?_; with_reducible refine s_expr ?_; with_reducible refine e_meth (by kernel_rfl) ?_; refine e_name (by kernel_rfl) (by with_reducible refine look_skip (by kernel_rfl) ?_; with_reducible refine look_skip (by kernel_rfl) ?_; with_reducible refine look_skip (by kernel_rfl) ?_; with_reducible refine lookS (by kernel_rfl) ?_; with_reducible exact look0) ?_)
      refine P_m_put_cells h (i := 5) rfl ?_
      have h := (h.focus (i := 6) rfl).focus (i := 6) rfl
      dsimp only [List.set_cons_zero, List.set_cons_succ, List.eraseIdx_cons_zero, List.eraseIdx_cons_succ] at h
      (with_reducible refine es_cons ?_; refine e_name (by kernel_rfl) (by with_reducible refine look_skip (by kernel_rfl) ?_; with_reducible exact look_hit) ?_; with_reducible refine es_cons ?_; refine e_name (by kernel_rfl) look_hit ?_; with_reducible refine es_nil ?_; with_reducible refine m_own ?_)
      refine put_cells_ok h hw wss hn (by first | assumption | with_reducible rfl | omega) (by first | assumption | with_reducible rfl | omega) rfl hcol fun st h => ?_
      rw [← h2] at h
      (refine ⟨rfl, ?_⟩; with_reducible refine k_next ?_; with_reducible refine s_cons ?_; refine s_assign (by kernel_rfl) (by kernel_rfl) ?_; refine e_name (by kernel_rfl) (by with_reducible refine look_skip (by kernel_rfl) ?_; with_reducible exact look_hit) ?_; with_reducible refine t_name (by kernel_rfl) rfl ?_; with_reducible refine k_next ?_; with_reducible refine s_cons ?_; refine s_for (by kernel_rfl) ?_; refine e_name (by kernel_rfl) (by with_reducible refine look_skip (by kernel_rfl) ?_; with_reducible exact look_hit) ?_)
      refine P_itemsR h (i := 2) rfl ?_
      have h := (h.focus (i := 2) rfl).focus (i := 7) rfl
      dsimp only [List.set_cons_zero, List.set_cons_succ, List.eraseIdx_cons_zero, List.eraseIdx_cons_succ] at h
      have fin := step_inv (r := ss) (x := (cs, col)) hw hss
      refine Post.mono (Q := fun fl st => fl.1 = Fl.next ∧ At st ((e, .list ((ss.foldl stepL (cs, col)).1.map cv)) :: (t, .list (ss.map cv)) :: (p, lineO a) :: (a, .list ((ss.foldl stepL (cs, col)).1.map cv)) :: (d, deckO l m) :: (l, .list (is.map .int)) :: L))
        (P_for (fun rest loc st => ∃ (don res : List Cell), ss = don ++ res ∧ rest = res.map cv ∧ loc.lookup (Str.ofString "cells") = some (V.ref e) ∧ loc.lookup (Str.ofString "at") = some (V.int (don.foldl stepL (cs, col)).2) ∧
        At st ((e, .list ((don.foldl stepL (cs, col)).1.map cv)) :: (t, .list (ss.map cv)) :: (p, lineO a) :: (a, .list ((ss.foldl stepL (cs, col)).1.map cv)) :: (d, deckO l m) :: (l, .list (is.map .int)) :: L)) ?_ ?_ ?_ _ _ _ ⟨[], ss, rfl, rfl, by (with_reducible refine look_skip (by kernel_rfl) ?_; with_reducible refine look_skip (by kernel_rfl) ?_; with_reducible refine look_skip (by kernel_rfl) ?_; with_reducible refine look_skip (by kernel_rfl) ?_; with_reducible refine lookS (by kernel_rfl) ?_; with_reducible refine lookS (by kernel_rfl) ?_; with_reducible exact look0), look_hit, ?_⟩) ?_
      · rintro its loc st ⟨_, _, _, _, _, _, h⟩
        exact sameL_held h (i := 1) rfl (eqbs_rfl _)
      · rintro v rest loc st ⟨don, res, hs, hr, l1, l2, h⟩
        cases res with
        | nil => cases hr
        | cons c res =>
        rw [List.map_cons] at hr
        cases hr
        have hs' : ss = (don ++ [c]) ++ res := by rw [hs, List.append_assoc]; rfl
        have hfold : (don ++ [c]).foldl stepL (cs, col) = stepL (don.foldl stepL (cs, col)) c := by rw [List.foldl_append]; rfl
        have hcm : c ∈ ss := by rw [hs]; exact List.mem_append_right _ (.head _)
        have hinv := step_inv (r := don) (x := (cs, col)) hw fun c hc => hss c (by rw [hs]; exact List.mem_append_left _ hc)
        have hwc := (wss.mem c hcm).1
        generalize hX : don.foldl stepL (cs, col) = X at h hfold hinv l2
        refine ⟨_, bindT_name (by kernel_rfl), ?_⟩
        have m1 : List.lookup (Str.ofString "cells") (setL (Str.ofString "cell") (cv c) loc) = some (V.ref e) := look_skip (by kernel_rfl) l1
        have m2 : List.lookup (Str.ofString "at") (setL (Str.ofString "cell") (cv c) loc) = some (V.int X.2) := look_skip (by kernel_rfl) l2
        have key : ∀ st', At st' ((e, .list ((stepL X c).1.map cv)) :: (t, .list (ss.map cv)) :: (p, lineO a) :: (a, .list ((ss.foldl stepL (cs, col)).1.map cv)) :: (d, deckO l m) :: (l, .list (is.map .int)) :: L) →
              ∃ (don res' : List Cell), ss = don ++ res' ∧ res.map cv = res'.map cv ∧ List.lookup (Str.ofString "cells") (setL (Str.ofString "at") (V.int (X.2 + c.w)) (setL (Str.ofString "cell") (cv c) loc)) = some (V.ref e) ∧ List.lookup (Str.ofString "at") (setL (Str.ofString "at") (V.int (X.2 + c.w)) (setL (Str.ofString "cell") (cv c) loc)) = some (V.int (don.foldl stepL (cs, col)).2) ∧
                At st' ((e, .list ((don.foldl stepL (cs, col)).1.map cv)) :: (t, .list (ss.map cv)) :: (p, lineO a) :: (a, .list ((ss.foldl stepL (cs, col)).1.map cv)) :: (d, deckO l m) :: (l, .list (is.map .int)) :: L) := by
            intro st' h
            refine ⟨don ++ [c], res, hs', rfl, look_skip (by kernel_rfl) m1, ?_, by rw [hfold]; exact h⟩
            have e1 : ((don ++ [c]).foldl stepL (cs, col)).2 = X.2 + c.w.toNat := by rw [hfold]; rfl
            rw [look_hit, e1, show ((X.2 + c.w.toNat : Nat) : Int) = (X.2 : Int) + c.w by omega]
        refine s_cons ?_
        refine Post.mono (Q := fun fl st => fl = (Fl.next, setL (Str.ofString "cell") (cv c) loc) ∧ At st ((e, .list ((stepL X c).1.map cv)) :: (t, .list (ss.map cv)) :: (p, lineO a) :: (a, .list ((ss.foldl stepL (cs, col)).1.map cv)) :: (d, deckO l m) :: (l, .list (is.map .int)) :: L)) ?_ ?_
        · refine s_if ?_
          by_cases hcw : c.w > 0
          · (with_reducible refine c_boolop ?_; with_reducible refine a_cons ?_; with_reducible refine c_cmp ?_; refine e_sub (by kernel_rfl) ?_; refine e_name (by kernel_rfl) look_hit ?_; with_reducible refine e_int ?_; with_reducible refine i_cv1 ?_; with_reducible refine e_int ?_; with_reducible refine q_gt ?_; refine w_yes (by with_reducible refine at' ?_; with_reducible refine dt ?_; assumption) ?_; with_reducible refine a_one ?_; with_reducible refine c_cmp ?_; refine e_name (by kernel_rfl) (by assumption) ?_; with_reducible refine e_callB (by kernel_rfl) bl_len ?_; with_reducible refine es_cons ?_; refine e_name (by kernel_rfl) (by assumption) ?_; with_reducible refine es_nil ?_)
            refine P_lenC h ix0 ?_
            by_cases hat : X.2 < X.1.length
            · (with_reducible refine q_lt ?_; refine w_yes (by with_reducible refine dt ?_; omega) ?_; with_reducible refine s_cons ?_; with_reducible refine s_expr ?_; with_reducible refine e_call (by kernel_rfl) tl_lput ?_; with_reducible refine es_cons ?_; refine e_name (by kernel_rfl) (by assumption) ?_; with_reducible refine es_cons ?_; refine e_name (by kernel_rfl) (by assumption) ?_; with_reducible refine es_cons ?_; with_reducible refine e_if ?_; with_reducible refine c_cmp ?_; refine e_sub (by kernel_rfl) ?_; refine e_name (by kernel_rfl) look_hit ?_; with_reducible refine e_int ?_; with_reducible refine i_cv1 ?_; with_reducible refine e_int ?_; with_reducible refine q_eq ?_)
              have hst : (stepL X c).1 = over X.1 X.2 (fit X.1 X.2 c) := if_pos ⟨hcw, hat⟩
              have hgc := hss c hcm hcw
              rw [hst]
              have hXl : X.1.length ≤ 60 := by rw [hinv.2]; exact h60
              by_cases hc2 : c.w = 2
              · have hg : glyph c = [c, halfC c] := if_pos hc2
                (refine w_yes (by with_reducible refine dt ?_; assumption) ?_; with_reducible refine e_list ?_; with_reducible refine es_cons ?_; refine e_name (by kernel_rfl) look_hit ?_; with_reducible refine es_cons ?_; with_reducible refine e_call (by kernel_rfl) tl_right_half ?_; with_reducible refine es_cons ?_; refine e_name (by kernel_rfl) look_hit ?_; with_reducible refine es_nil ?_)
                refine right_half_ok ?_
                (with_reducible refine es_nil ?_)
                refine P_mkList h (Nat.le_of_ble_eq_true rfl) fun f st h => ?_
                rw [show [cv c, cv (halfC c)] = (glyph c).map cv by rw [hg]; rfl] at h
                have h := h.focus (i := 1) rfl
                (with_reducible refine es_nil ?_)
                refine lput_ok h hinv.1 hXl rfl hat hgc.1 fun st h => ?_
                (refine ⟨rfl, ?_⟩; with_reducible refine k_next ?_; with_reducible refine s_nil ?_)
                exact ⟨rfl, h⟩
              · have hg : glyph c = [c] := if_neg hc2
                (refine w_no (by with_reducible refine df ?_; assumption) ?_; with_reducible refine e_list ?_; with_reducible refine es_cons ?_; refine e_name (by kernel_rfl) look_hit ?_; with_reducible refine es_nil ?_)
                refine P_mkList h (Nat.le_of_ble_eq_true rfl) fun f st h => ?_
                rw [show [cv c] = (glyph c).map cv by rw [hg]; rfl] at h
                have h := h.focus (i := 1) rfl
                (with_reducible refine es_nil ?_)
                refine lput_ok h hinv.1 hXl rfl hat hgc.1 fun st h => ?_
                (refine ⟨rfl, ?_⟩; with_reducible refine k_next ?_; with_reducible refine s_nil ?_)
                exact ⟨rfl, h⟩
            · (with_reducible refine q_lt ?_; refine w_no (by with_reducible refine df ?_; omega) ?_; with_reducible refine s_nil ?_)
              rw [show (stepL X c).1 = X.1 from if_neg (fun q => hat q.2)]
              exact ⟨rfl, h⟩
          · (with_reducible refine c_boolop ?_; with_reducible refine a_cons ?_; with_reducible refine c_cmp ?_; refine e_sub (by kernel_rfl) ?_; refine e_name (by kernel_rfl) look_hit ?_; with_reducible refine e_int ?_; with_reducible refine i_cv1 ?_; with_reducible refine e_int ?_; with_reducible refine q_gt ?_; refine w_no (by with_reducible refine af ?_; with_reducible refine df ?_; assumption) ?_; refine w_no (by with_reducible refine df ?_; assumption) ?_; with_reducible refine s_nil ?_)
            rw [show (stepL X c).1 = X.1 from if_neg (fun q => hcw q.1)]
            exact ⟨rfl, h⟩
        · rintro fl st ⟨rfl, h⟩
          (with_reducible refine k_next ?_; with_reducible refine s_cons ?_; refine s_assign (by kernel_rfl) (by kernel_rfl) ?_; with_reducible refine e_bin ?_; refine e_name (by kernel_rfl) (by assumption) ?_; refine e_sub (by kernel_rfl) ?_; refine e_name (by kernel_rfl) look_hit ?_; with_reducible refine e_int ?_; with_reducible refine i_cv1 ?_; with_reducible refine v_add ?_; with_reducible refine t_name (by kernel_rfl) rfl ?_; with_reducible refine k_next ?_; with_reducible refine s_nil ?_; with_reducible refine k_next ?_)
          exact key _ h
      · rintro loc st ⟨don, res, hs, hr, l1, l2, h⟩
        cases res with
        | cons c res => cases hr
        | nil =>
        rw [List.append_nil] at hs
        subst hs
        exact ⟨rfl, h⟩
      · exact h.sub (.cons_cons _ (.cons_cons _ (.cons_cons _ (.cons_cons _ (.cons _ (.cons_cons _ (.cons_cons _ (.cons _ (.refl _)))))))))
      · rintro ⟨fl, loc⟩ st ⟨rfl, h⟩
        (with_reducible refine k_next ?_; with_reducible refine s_nil ?_; with_reducible refine k_next ?_; with_reducible refine s_nil ?_; with_reducible refine k_next ?_; with_reducible refine s_nil ?_; with_reducible refine k_next ?_)
        refine hq _ m is st fin.1 fin.2 hm ?_
        have h := (((h.focus (i := 3) rfl).focus (i := 3) rfl).focus (i := 5) rfl).focus (i := 5) rfl
        exact h.sub (.cons_cons _ (.cons_cons _ (.cons_cons _ (.cons_cons _ (.cons_cons _ (.cons _ (.refl _)))))))
    · (with_reducible refine c_cmp ?_; refine e_name (by kernel_rfl) (by with_reducible refine look_skip (by kernel_rfl) ?_; with_reducible exact look_hit) ?_; with_reducible refine e_int ?_; with_reducible refine q_lt ?_; refine w_no (by with_reducible refine df ?_; assumption) ?_; with_reducible refine s_cons ?_; with_reducible refine s_if ?_; with_reducible refine c_cmp ?_; refine e_name (by kernel_rfl) (by with_reducible refine look_skip (by kernel_rfl) ?_; with_reducible exact look_hit) ?_; with_reducible refine e_int ?_; with_reducible refine q_eq ?_; refine w_no (by with_reducible refine df ?_; assumption) ?_; with_reducible refine s_cons ?_; refine s_assign (by kernel_rfl) (by kernel_rfl) ?_; with_reducible refine e_bin ?_; refine e_name (by kernel_rfl) look_hit ?_; with_reducible refine e_call (by kernel_rfl) tl_draw ?_; with_reducible refine es_cons ?_; refine e_name (by kernel_rfl) (by with_reducible refine look_skip (by kernel_rfl) ?_; with_reducible refine look_skip (by kernel_rfl) ?_; with_reducible exact look0) ?_; with_reducible refine es_cons ?_; with_reducible refine e_bin ?_; with_reducible refine e_callB (by kernel_rfl) bl_len ?_; with_reducible refine es_cons ?_; refine e_name (by kernel_rfl) (by with_reducible refine look_skip (by kernel_rfl) ?_; with_reducible refine look_skip (by kernel_rfl) ?_; with_reducible refine lookS (by kernel_rfl) ?_; with_reducible refine lookS (by kernel_rfl) ?_; with_reducible exact look0) ?_; with_reducible refine es_nil ?_)
      refine P_lenC h ix4 ?_
      (refine e_name (by kernel_rfl) look_hit ?_; with_reducible refine v_sub ?_; with_reducible refine es_nil ?_)
      refine draw_ok h hm (k := cs.length - col) (by first | assumption | with_reducible rfl | omega) (by first | assumption | with_reducible rfl | omega) fun r m is st hr hm h => ?_
      (with_reducible refine v_add ?_; with_reducible refine t_name (by kernel_rfl) rfl ?_; with_reducible refine k_next ?_; with_reducible refine s_cons ?_; refine s_assign (by kernel_rfl) (by kernel_rfl) ?_; with_reducible refine e_tuple ?_; with_reducible refine es_cons ?_; with_reducible refine e_bin ?_; with_reducible refine e_int ?_; with_reducible refine e_call (by kernel_rfl) tl_draw ?_; with_reducible refine es_cons ?_; refine e_name (by kernel_rfl) (by with_reducible refine look_skip (by kernel_rfl) ?_; with_reducible refine look_skip (by kernel_rfl) ?_; with_reducible refine look_skip (by kernel_rfl) ?_; with_reducible exact look0) ?_; with_reducible refine es_cons ?_; with_reducible refine e_int ?_; with_reducible refine es_nil ?_)
      refine draw_ok h hm (k := 3) rfl (by decide) fun u m is st hu hm h => ?_
      (with_reducible refine v_add ?_; with_reducible refine es_cons ?_; with_reducible refine e_call (by kernel_rfl) tl_pen ?_; with_reducible refine es_cons ?_; refine e_name (by kernel_rfl) (by with_reducible refine look_skip (by kernel_rfl) ?_; with_reducible refine look_skip (by kernel_rfl) ?_; with_reducible refine look_skip (by kernel_rfl) ?_; with_reducible exact look0) ?_; with_reducible refine es_nil ?_)
      refine pen_ok h hm fun pb pg m is st hm h => ?_
      have h := h.focus (i := 4) rfl
      dsimp only [List.set_cons_zero, List.set_cons_succ, List.eraseIdx_cons_zero, List.eraseIdx_cons_succ] at h
      (with_reducible refine es_nil ?_; refine ⟨by kernel_rfl, ?_⟩; with_reducible refine t_tuple (by with_reducible refine bn_cons (by kernel_rfl) ?_; with_reducible refine bn_cons (by kernel_rfl) ?_; with_reducible exact bn_nil) ?_; with_reducible refine k_next ?_; with_reducible refine s_cons ?_; with_reducible refine s_expr ?_; with_reducible refine e_call (by kernel_rfl) tl_lpart ?_; with_reducible refine es_cons ?_; refine e_name (by kernel_rfl) (by with_reducible refine look_skip (by kernel_rfl) ?_; with_reducible refine look_skip (by kernel_rfl) ?_; with_reducible refine look_skip (by kernel_rfl) ?_; with_reducible refine look_skip (by kernel_rfl) ?_; with_reducible refine look_skip (by kernel_rfl) ?_; with_reducible refine lookS (by kernel_rfl) ?_; with_reducible refine lookS (by kernel_rfl) ?_; with_reducible exact look0) ?_; with_reducible refine es_cons ?_; refine e_name (by kernel_rfl) (by with_reducible refine look_skip (by kernel_rfl) ?_; with_reducible refine look_skip (by kernel_rfl) ?_; with_reducible refine look_skip (by kernel_rfl) ?_; with_reducible exact look_hit) ?_; with_reducible refine es_nil ?_)
      refine lpart_ok h hw (by first | assumption | with_reducible rfl | omega) rfl fun st h => ?_
      obtain ⟨s, hs⟩ : ∃ s, s = r + 1 := ⟨_, rfl⟩
      have hcr : (col : Int) + r + 1 = ((col + s : Nat) : Int) := by rw [hs]; rfl
      (refine ⟨rfl, ?_⟩; with_reducible refine k_next ?_; with_reducible refine s_cons ?_; with_reducible refine s_expr ?_; with_reducible refine e_call (by kernel_rfl) tl_lpart ?_; with_reducible refine es_cons ?_; refine e_name (by kernel_rfl) (by with_reducible refine look_skip (by kernel_rfl) ?_; with_reducible refine look_skip (by kernel_rfl) ?_; with_reducible refine look_skip (by kernel_rfl) ?_; with_reducible refine look_skip (by kernel_rfl) ?_; with_reducible refine look_skip (by kernel_rfl) ?_; with_reducible refine lookS (by kernel_rfl) ?_; with_reducible refine lookS (by kernel_rfl) ?_; with_reducible exact look0) ?_; with_reducible refine es_cons ?_; with_reducible refine e_bin ?_; refine e_name (by kernel_rfl) (by with_reducible refine look_skip (by kernel_rfl) ?_; with_reducible refine look_skip (by kernel_rfl) ?_; with_reducible exact look_hit) ?_; with_reducible refine e_int ?_; with_reducible refine v_add ?_; with_reducible refine es_nil ?_)
      refine lpart_ok h (hw.cutC col) (by rw [cutC_len]; omega) (m := col + s) (by first | assumption | with_reducible rfl | omega) fun st h => ?_
      have hcs : col + s ≤ cs.length := by omega
      have hs1 : 1 ≤ s := hs ▸ Nat.le_add_left 1 r
      (refine ⟨rfl, ?_⟩; with_reducible refine k_next ?_; with_reducible refine s_cons ?_; refine s_assign (by kernel_rfl) (by kernel_rfl) ?_; with_reducible refine e_tuple ?_; with_reducible refine es_cons ?_; with_reducible refine e_slice ?_; refine e_name (by kernel_rfl) (by with_reducible refine look_skip (by kernel_rfl) ?_; with_reducible refine look_skip (by kernel_rfl) ?_; with_reducible refine look_skip (by kernel_rfl) ?_; with_reducible refine look_skip (by kernel_rfl) ?_; with_reducible refine look_skip (by kernel_rfl) ?_; with_reducible refine lookS (by kernel_rfl) ?_; with_reducible refine lookS (by kernel_rfl) ?_; with_reducible exact look0) ?_; with_reducible refine o_some ?_; refine e_name (by kernel_rfl) (by with_reducible refine look_skip (by kernel_rfl) ?_; with_reducible refine look_skip (by kernel_rfl) ?_; with_reducible refine look_skip (by kernel_rfl) ?_; with_reducible exact look_hit) ?_; with_reducible refine o_some ?_; with_reducible refine e_bin ?_; refine e_name (by kernel_rfl) (by with_reducible refine look_skip (by kernel_rfl) ?_; with_reducible refine look_skip (by kernel_rfl) ?_; with_reducible exact look_hit) ?_; with_reducible refine e_int ?_; with_reducible refine v_add ?_)
      have hA := (show (fixL (cs.take col)).length = col by rw [fixL_len, List.length_take]; omega)
      have hM := midC_len cs hcs
      have hD : (fixH (cs.drop (col + s))).length = cs.length - (col + s) := by rw [fixH_len, List.length_drop]
      have wM := hw.mid col s
      have eI : ∀ k, insC cs col s k pg = fixL (cs.take col) ++ ((List.replicate k (blankC pg) ++ fixL ((midC cs col s).take (s - k))) ++ fixH (cs.drop (col + s))) := fun k => rfl
      have eD : ∀ k, delC cs col s k pg = fixL (cs.take col) ++ ((fixH ((midC cs col s).drop k) ++ List.replicate k (blankC pg)) ++ fixH (cs.drop (col + s))) := fun k => rfl
      rw [cut_two cs (by first | assumption | with_reducible rfl | omega) hcs] at h
      generalize fixL (cs.take col) = A at h eI eD hA
      generalize midC cs col s = M at h eI eD hM wM
      generalize fixH (cs.drop (col + s)) = D at h eI eD hD
      have hMs : M.length ≤ s := Nat.le_of_eq hM
      have hsM : s ≤ M.length := Nat.le_of_eq hM.symm
      have hM6 : M.length ≤ 6 := Nat.le_trans hMs (by omega)
      have hM1 : M.length ≤ 100 := Nat.le_trans hM6 (Nat.le_of_ble_eq_true rfl)
      have hM4 : M.length ≤ 4096 := Nat.le_trans hM6 (Nat.le_of_ble_eq_true rfl)
      have hAc : A.length ≤ col := Nat.le_of_eq hA
      have hAll : ((A ++ (M ++ D)).map cv).length ≤ 6 := by rw [List.length_map, List.length_append, List.length_append]; omega
      refine P_sliceL h ix0 (bnd_int (m := col) (by first | assumption | with_reducible rfl | omega)) (bnd_int (m := col + s) (by first | assumption | with_reducible rfl | omega)) (by first | assumption | with_reducible rfl | omega) fun f st h => ?_
      have e1 : cut ((A ++ (M ++ D)).map cv) (some col) (some (col + s)) = M.map cv := by
        unfold cut
        simp only [Option.getD_some, ← List.map_take, ← List.map_drop]
        congr 1
        rw [List.drop_append, List.drop_of_length_le (by first | assumption | with_reducible rfl | omega), show col - A.length = 0 by rw [hA, Nat.sub_self], List.drop_zero, List.nil_append, Nat.add_sub_cancel_left, List.take_append_of_le_length (by first | assumption | with_reducible rfl | omega), List.take_of_length_le (by first | assumption | with_reducible rfl | omega)]
      rw [e1] at h
      (with_reducible refine es_cons ?_; with_reducible refine e_bin ?_; with_reducible refine e_bin ?_; refine e_name (by kernel_rfl) (by with_reducible refine look_skip (by kernel_rfl) ?_; with_reducible refine look_skip (by kernel_rfl) ?_; with_reducible exact look_hit) ?_; with_reducible refine e_int ?_; with_reducible refine v_add ?_; refine e_name (by kernel_rfl) (by with_reducible refine look_skip (by kernel_rfl) ?_; with_reducible refine look_skip (by kernel_rfl) ?_; with_reducible refine look_skip (by kernel_rfl) ?_; with_reducible exact look_hit) ?_; with_reducible refine v_sub ?_; with_reducible refine es_nil ?_; refine ⟨by kernel_rfl, ?_⟩; with_reducible refine t_tuple (by with_reducible refine bn_cons (by kernel_rfl) ?_; with_reducible refine bn_cons (by kernel_rfl) ?_; with_reducible exact bn_nil) ?_; with_reducible refine k_next ?_; with_reducible refine s_cons ?_; refine s_assign (by kernel_rfl) (by kernel_rfl) ?_; with_reducible refine e_bin ?_; with_reducible refine e_list ?_; with_reducible refine es_cons ?_; with_reducible refine e_call (by kernel_rfl) tl_blank_cell ?_; with_reducible refine es_cons ?_; refine e_name (by kernel_rfl) (by with_reducible refine look_skip (by kernel_rfl) ?_; with_reducible refine look_skip (by kernel_rfl) ?_; with_reducible exact look_hit) ?_; with_reducible refine es_nil ?_)
      refine blank_cell_ok ?_
      (with_reducible refine es_nil ?_)
      refine P_mkList h (Nat.le_of_ble_eq_true rfl) fun g st h => ?_
      (with_reducible refine e_callB (by kernel_rfl) bl_min ?_; with_reducible refine es_cons ?_; refine e_name (by kernel_rfl) (by with_reducible refine look_skip (by kernel_rfl) ?_; with_reducible refine look_skip (by kernel_rfl) ?_; with_reducible refine look_skip (by kernel_rfl) ?_; with_reducible exact look_hit) ?_; with_reducible refine es_cons ?_; refine e_name (by kernel_rfl) look_hit ?_; with_reducible refine es_nil ?_; with_reducible refine b_min ?_)
      obtain ⟨k, hk⟩ : ∃ k : Nat, min (1 + (u : Int)) s = k := ⟨(min (1 + (u : Int)) s).toNat, by omega⟩
      rw [show min (1 + (u : Int)) ((col : Int) + r + 1 - col) = k by rw [← hk, hs]; omega]
      have hks : k ≤ s := by omega
      have hkM : k ≤ M.length := Nat.le_trans hks hsM
      have hk6 : k ≤ 6 := Nat.le_trans hkM hM6
      have hkz : (k : Int) ≤ 4096 ∧ -(2 ^ 63) ≤ (k : Int) := ⟨by omega, by omega⟩
      refine P_mulL h ix0 (by first | assumption | with_reducible rfl | omega) fun bl st h => ?_
      rw [Int.toNat_natCast, ← List.map_replicate] at h
      have fin : ∀ (S : List Cell) (y x : Nat) (xs : List V) (Ms : List Cell) (a' : List Cell) st, S.length = s → a' = A ++ (S ++ D) → WF a' → a'.length = cs.length →
          At st ((y, .list (S.map cv)) :: (x, .list xs) :: (f, .list (Ms.map cv)) :: (p, lineO a) :: (a, .list (a'.map cv)) :: (bl, .list ((List.replicate k (blankC pg)).map cv)) :: (g, .list [cv (blankC pg)]) :: (e, .list ((A ++ (M ++ D)).map cv)) :: (d, deckO l m) :: (l, .list (is.map .int)) :: L) →
          PostO (setSliceV (.ref e) (.int col) (.int (col + r + 1)) (.ref y) st) fun st => R .none st := by
        intro S y x xs Ms a' st hS ha' hwa hla h
        refine P_setSlice h (i := 7) (j := 0) rfl rfl (by decide) (bnd_int (m := col) (by first | assumption | with_reducible rfl | omega)) (bnd_int (m := col + s) (by first | assumption | with_reducible rfl | omega)) (by rw [List.length_map (f := cv) (as := S)]; omega) fun st h => ?_
        dsimp only [List.set_cons_zero, List.set_cons_succ, List.eraseIdx_cons_zero, List.eraseIdx_cons_succ] at h
        have e2 : splice ((A ++ (M ++ D)).map cv) (some col) (some (col + s)) (S.map cv) = a'.map cv := by
          unfold splice
          rw [ha']
          simp only [Option.getD_some, List.map_append]
          exact splice_mid _ _ _ _ (by simpa using hA.symm) (by simp; omega)
        rw [e2] at h
        refine hq a' m is st hwa hla hm ?_
        have h := ((((h.focus (i := 7) rfl).focus (i := 5) rfl).focus (i := 5) rfl).focus (i := 9) rfl).focus (i := 9) rfl
        exact h.sub (.cons_cons _ (.cons_cons _ (.cons_cons _ (.cons_cons _ (.cons_cons _ (.cons _ (.cons _ (.cons _ (.cons _ (.cons _ (.refl _)))))))))))
      have h := (h.focus (i := 7) rfl).focus (i := 7) rfl
      dsimp only [List.set_cons_zero, List.set_cons_succ, List.eraseIdx_cons_zero, List.eraseIdx_cons_succ] at h
      by_cases hC : (way : Int) = 3
      · (with_reducible refine t_name (by kernel_rfl) rfl ?_; with_reducible refine k_next ?_; with_reducible refine s_cons ?_; with_reducible refine s_if ?_; with_reducible refine c_cmp ?_; refine e_name (by kernel_rfl) (by with_reducible refine look_skip (by kernel_rfl) ?_; with_reducible refine look_skip (by kernel_rfl) ?_; with_reducible refine look_skip (by kernel_rfl) ?_; with_reducible refine look_skip (by kernel_rfl) ?_; with_reducible refine look_skip (by kernel_rfl) ?_; with_reducible refine look_skip (by kernel_rfl) ?_; with_reducible refine look_skip (by kernel_rfl) ?_; with_reducible exact look_hit) ?_; with_reducible refine e_int ?_; with_reducible refine q_eq ?_; refine w_yes (by with_reducible refine dt ?_; assumption) ?_; with_reducible refine s_cons ?_; with_reducible refine s_expr ?_; with_reducible refine e_meth (by kernel_rfl) ?_; refine e_name (by kernel_rfl) (by with_reducible refine look_skip (by kernel_rfl) ?_; with_reducible refine look_skip (by kernel_rfl) ?_; with_reducible refine look_skip (by kernel_rfl) ?_; with_reducible refine look_skip (by kernel_rfl) ?_; with_reducible refine look_skip (by kernel_rfl) ?_; with_reducible refine look_skip (by kernel_rfl) ?_; with_reducible refine look_skip (by kernel_rfl) ?_; with_reducible refine look_skip (by kernel_rfl) ?_; with_reducible refine lookS (by kernel_rfl) ?_; with_reducible exact look0) ?_)
        refine P_m_insert h (i := 0) rfl ?_
        (with_reducible refine es_cons ?_; refine e_name (by kernel_rfl) (by with_reducible refine look_skip (by kernel_rfl) ?_; with_reducible refine look_skip (by kernel_rfl) ?_; with_reducible refine look_skip (by kernel_rfl) ?_; with_reducible refine look_skip (by kernel_rfl) ?_; with_reducible refine look_skip (by kernel_rfl) ?_; with_reducible refine look_skip (by kernel_rfl) ?_; with_reducible exact look_hit) ?_; with_reducible refine es_cons ?_; refine e_name (by kernel_rfl) (by with_reducible refine look_skip (by kernel_rfl) ?_; with_reducible refine look_skip (by kernel_rfl) ?_; with_reducible refine look_skip (by kernel_rfl) ?_; with_reducible refine look_skip (by kernel_rfl) ?_; with_reducible exact look_hit) ?_; with_reducible refine es_cons ?_; refine e_name (by kernel_rfl) (by with_reducible refine look_skip (by kernel_rfl) ?_; with_reducible refine look_skip (by kernel_rfl) ?_; with_reducible refine look_skip (by kernel_rfl) ?_; with_reducible refine look_skip (by kernel_rfl) ?_; with_reducible refine look_skip (by kernel_rfl) ?_; with_reducible exact look_hit) ?_; with_reducible refine es_cons ?_; refine e_name (by kernel_rfl) (by with_reducible refine look_skip (by kernel_rfl) ?_; with_reducible refine look_skip (by kernel_rfl) ?_; with_reducible refine look_skip (by kernel_rfl) ?_; with_reducible exact look_hit) ?_; with_reducible refine es_nil ?_; with_reducible refine m_own ?_)
        refine insert_ok h hw (by first | assumption | with_reducible rfl | omega) rfl (s := s) (t := k) (by first | assumption | with_reducible rfl | omega) (by first | assumption | with_reducible rfl | omega) hcs (by first | assumption | with_reducible rfl | omega) hk fun st h => ?_
        (refine ⟨rfl, ?_⟩; with_reducible refine k_next ?_; with_reducible refine s_cons ?_; with_reducible refine s_expr ?_; with_reducible refine e_call (by kernel_rfl) tl_lpart ?_; with_reducible refine es_cons ?_; refine e_name (by kernel_rfl) (by with_reducible refine look_skip (by kernel_rfl) ?_; with_reducible refine look_skip (by kernel_rfl) ?_; with_reducible exact look_hit) ?_; with_reducible refine es_cons ?_; with_reducible refine e_bin ?_; refine e_name (by kernel_rfl) (by with_reducible refine look_skip (by kernel_rfl) ?_; with_reducible exact look_hit) ?_; with_reducible refine e_callB (by kernel_rfl) bl_len ?_; with_reducible refine es_cons ?_; refine e_name (by kernel_rfl) look_hit ?_; with_reducible refine es_nil ?_)
        refine P_lenC h (i := 2) rfl ?_
        (with_reducible refine v_sub ?_; with_reducible refine es_nil ?_)
        rw [List.length_replicate]
        have h := h.focus (i := 4) rfl
        dsimp only [List.set_cons_zero, List.set_cons_succ, List.eraseIdx_cons_zero, List.eraseIdx_cons_succ] at h
        refine lpart_ok h wM (by first | assumption | with_reducible rfl | omega) (m := s - k) (by first | assumption | with_reducible rfl | omega) fun st h => ?_
        (refine ⟨rfl, ?_⟩; with_reducible refine k_next ?_; with_reducible refine s_cons ?_; refine s_assign (by kernel_rfl) (by kernel_rfl) ?_; with_reducible refine e_bin ?_; refine e_name (by kernel_rfl) look_hit ?_; with_reducible refine e_slice ?_; refine e_name (by kernel_rfl) (by with_reducible refine look_skip (by kernel_rfl) ?_; with_reducible refine look_skip (by kernel_rfl) ?_; with_reducible exact look_hit) ?_; with_reducible refine o_none ?_; with_reducible refine o_some ?_; with_reducible refine e_bin ?_; refine e_name (by kernel_rfl) (by with_reducible refine look_skip (by kernel_rfl) ?_; with_reducible exact look_hit) ?_; with_reducible refine e_callB (by kernel_rfl) bl_len ?_; with_reducible refine es_cons ?_; refine e_name (by kernel_rfl) look_hit ?_; with_reducible refine es_nil ?_)
        refine P_lenC h (i := 3) rfl ?_
        (with_reducible refine v_sub ?_)
        rw [List.length_replicate]
        refine P_sliceL h (i := 0) rfl bnd_none (bnd_int (m := s - k) (by first | assumption | with_reducible rfl | omega)) (by rw [List.length_map, cutC_len]; assumption) fun x st h => ?_
        have e3 : cut ((cutC M (s - k)).map cv) none (some (s - k)) = (fixL (M.take (s - k))).map cv := by
          unfold cut
          simp only [Option.getD_some, Option.getD_none, List.drop_zero, Nat.sub_zero, ← List.map_take]
          rw [cutC_take _ _ (by first | assumption | with_reducible rfl | omega)]
        rw [e3] at h
        skip
        have hl2 : (fixL (M.take (s - k))).length ≤ 6 := by rw [fixL_len, List.length_take]; exact Nat.le_trans (Nat.min_le_right _ _) hM6
        refine P_addL h (i := 4) (j := 0) rfl rfl (by rw [List.length_map, List.length_map, List.length_replicate]; exact Nat.le_trans (Nat.add_le_add hk6 hl2) (Nat.le_of_ble_eq_true rfl)) fun y st h => ?_
        rw [← List.map_append] at h
        (with_reducible refine t_slice ?_; refine e_name (by kernel_rfl) (by with_reducible refine look_skip (by kernel_rfl) ?_; with_reducible refine look_skip (by kernel_rfl) ?_; with_reducible refine look_skip (by kernel_rfl) ?_; with_reducible refine look_skip (by kernel_rfl) ?_; with_reducible refine look_skip (by kernel_rfl) ?_; with_reducible refine look_skip (by kernel_rfl) ?_; with_reducible refine look_skip (by kernel_rfl) ?_; with_reducible refine look_skip (by kernel_rfl) ?_; with_reducible refine lookS (by kernel_rfl) ?_; with_reducible refine lookS (by kernel_rfl) ?_; with_reducible exact look0) ?_; with_reducible refine o_some ?_; refine e_name (by kernel_rfl) (by with_reducible refine look_skip (by kernel_rfl) ?_; with_reducible refine look_skip (by kernel_rfl) ?_; with_reducible refine look_skip (by kernel_rfl) ?_; with_reducible refine look_skip (by kernel_rfl) ?_; with_reducible refine look_skip (by kernel_rfl) ?_; with_reducible refine look_skip (by kernel_rfl) ?_; with_reducible exact look_hit) ?_; with_reducible refine o_some ?_; with_reducible refine e_bin ?_; refine e_name (by kernel_rfl) (by with_reducible refine look_skip (by kernel_rfl) ?_; with_reducible refine look_skip (by kernel_rfl) ?_; with_reducible refine look_skip (by kernel_rfl) ?_; with_reducible refine look_skip (by kernel_rfl) ?_; with_reducible refine look_skip (by kernel_rfl) ?_; with_reducible exact look_hit) ?_; with_reducible refine e_int ?_; with_reducible refine v_add ?_)
        refine (fin _ y x _ _ _ st ?_ (by rw [eI k, List.append_assoc]) (hw.ins col s k pg) (insC_len cs pg hcs (by first | assumption | with_reducible rfl | omega)) h).mono fun _ q => ?_
        · rw [List.length_append, List.length_replicate, fixL_len, List.length_take]; omega
        · (with_reducible refine k_next ?_; with_reducible refine s_nil ?_; with_reducible refine k_next ?_; with_reducible refine s_nil ?_; with_reducible refine k_next ?_; with_reducible refine s_nil ?_; with_reducible refine k_next ?_; with_reducible refine s_nil ?_; with_reducible refine k_next ?_)
          exact q
      · (with_reducible refine t_name (by kernel_rfl) rfl ?_; with_reducible refine k_next ?_; with_reducible refine s_cons ?_; with_reducible refine s_if ?_; with_reducible refine c_cmp ?_; refine e_name (by kernel_rfl) (by with_reducible refine look_skip (by kernel_rfl) ?_; with_reducible refine look_skip (by kernel_rfl) ?_; with_reducible refine look_skip (by kernel_rfl) ?_; with_reducible refine look_skip (by kernel_rfl) ?_; with_reducible refine look_skip (by kernel_rfl) ?_; with_reducible refine look_skip (by kernel_rfl) ?_; with_reducible refine look_skip (by kernel_rfl) ?_; with_reducible exact look_hit) ?_; with_reducible refine e_int ?_; with_reducible refine q_eq ?_; refine w_no (by with_reducible refine df ?_; assumption) ?_; with_reducible refine s_cons ?_; with_reducible refine s_expr ?_; with_reducible refine e_meth (by kernel_rfl) ?_; refine e_name (by kernel_rfl) (by with_reducible refine look_skip (by kernel_rfl) ?_; with_reducible refine look_skip (by kernel_rfl) ?_; with_reducible refine look_skip (by kernel_rfl) ?_; with_reducible refine look_skip (by kernel_rfl) ?_; with_reducible refine look_skip (by kernel_rfl) ?_; with_reducible refine look_skip (by kernel_rfl) ?_; with_reducible refine look_skip (by kernel_rfl) ?_; with_reducible refine look_skip (by kernel_rfl) ?_; with_reducible refine lookS (by kernel_rfl) ?_; with_reducible exact look0) ?_)
        refine P_m_delete h (i := 0) rfl ?_
        (with_reducible refine es_cons ?_; refine e_name (by kernel_rfl) (by with_reducible refine look_skip (by kernel_rfl) ?_; with_reducible refine look_skip (by kernel_rfl) ?_; with_reducible refine look_skip (by kernel_rfl) ?_; with_reducible refine look_skip (by kernel_rfl) ?_; with_reducible refine look_skip (by kernel_rfl) ?_; with_reducible refine look_skip (by kernel_rfl) ?_; with_reducible exact look_hit) ?_; with_reducible refine es_cons ?_; refine e_name (by kernel_rfl) (by with_reducible refine look_skip (by kernel_rfl) ?_; with_reducible refine look_skip (by kernel_rfl) ?_; with_reducible refine look_skip (by kernel_rfl) ?_; with_reducible refine look_skip (by kernel_rfl) ?_; with_reducible exact look_hit) ?_; with_reducible refine es_cons ?_; refine e_name (by kernel_rfl) (by with_reducible refine look_skip (by kernel_rfl) ?_; with_reducible refine look_skip (by kernel_rfl) ?_; with_reducible refine look_skip (by kernel_rfl) ?_; with_reducible refine look_skip (by kernel_rfl) ?_; with_reducible refine look_skip (by kernel_rfl) ?_; with_reducible exact look_hit) ?_; with_reducible refine es_cons ?_; refine e_name (by kernel_rfl) (by with_reducible refine look_skip (by kernel_rfl) ?_; with_reducible refine look_skip (by kernel_rfl) ?_; with_reducible refine look_skip (by kernel_rfl) ?_; with_reducible exact look_hit) ?_; with_reducible refine es_nil ?_; with_reducible refine m_own ?_)
        refine delete_ok h hw (by first | assumption | with_reducible rfl | omega) rfl (s := s) (t := k) (by first | assumption | with_reducible rfl | omega) (by first | assumption | with_reducible rfl | omega) hcs (by first | assumption | with_reducible rfl | omega) hk fun st h => ?_
        (refine ⟨rfl, ?_⟩; with_reducible refine k_next ?_; with_reducible refine s_cons ?_; with_reducible refine s_expr ?_; with_reducible refine e_call (by kernel_rfl) tl_lpart ?_; with_reducible refine es_cons ?_; refine e_name (by kernel_rfl) (by with_reducible refine look_skip (by kernel_rfl) ?_; with_reducible refine look_skip (by kernel_rfl) ?_; with_reducible exact look_hit) ?_; with_reducible refine es_cons ?_; with_reducible refine e_callB (by kernel_rfl) bl_len ?_; with_reducible refine es_cons ?_; refine e_name (by kernel_rfl) look_hit ?_; with_reducible refine es_nil ?_)
        refine P_lenC h (i := 2) rfl ?_
        rw [List.length_replicate]
        (with_reducible refine es_nil ?_)
        have h := h.focus (i := 4) rfl
        dsimp only [List.set_cons_zero, List.set_cons_succ, List.eraseIdx_cons_zero, List.eraseIdx_cons_succ] at h
        refine lpart_ok h wM (by first | assumption | with_reducible rfl | omega) (m := k) rfl fun st h => ?_
        (refine ⟨rfl, ?_⟩; with_reducible refine k_next ?_; with_reducible refine s_cons ?_; refine s_assign (by kernel_rfl) (by kernel_rfl) ?_; with_reducible refine e_bin ?_; with_reducible refine e_slice ?_; refine e_name (by kernel_rfl) (by with_reducible refine look_skip (by kernel_rfl) ?_; with_reducible refine look_skip (by kernel_rfl) ?_; with_reducible exact look_hit) ?_; with_reducible refine o_some ?_; with_reducible refine e_callB (by kernel_rfl) bl_len ?_; with_reducible refine es_cons ?_; refine e_name (by kernel_rfl) look_hit ?_; with_reducible refine es_nil ?_)
        refine P_lenC h (i := 3) rfl ?_
        rw [List.length_replicate]
        (with_reducible refine o_none ?_)
        refine P_sliceL h (i := 0) rfl (bnd_int (m := k) rfl) bnd_none (by rw [List.length_map, cutC_len]; assumption) fun x st h => ?_
        have e3 : cut ((cutC M k).map cv) (some k) none = (fixH (M.drop k)).map cv := by
          unfold cut
          simp only [Option.getD_some, Option.getD_none, ← List.map_drop, ← List.map_take, List.length_map]
          rw [cutC_drop _ _ (by first | assumption | with_reducible rfl | omega), List.take_of_length_le (by rw [fixH_len, List.length_drop, cutC_len]; omega)]
        rw [e3] at h
        (refine e_name (by kernel_rfl) look_hit ?_)
        have hl2 : (fixH (M.drop k)).length ≤ 6 := by rw [fixH_len, List.length_drop]; exact Nat.le_trans (Nat.sub_le _ _) hM6
        refine P_addL h (i := 0) (j := 4) rfl rfl (by rw [List.length_map, List.length_map, List.length_replicate]; exact Nat.le_trans (Nat.add_le_add hl2 hk6) (Nat.le_of_ble_eq_true rfl)) fun y st h => ?_
        rw [← List.map_append] at h
        (with_reducible refine t_slice ?_; refine e_name (by kernel_rfl) (by with_reducible refine look_skip (by kernel_rfl) ?_; with_reducible refine look_skip (by kernel_rfl) ?_; with_reducible refine look_skip (by kernel_rfl) ?_; with_reducible refine look_skip (by kernel_rfl) ?_; with_reducible refine look_skip (by kernel_rfl) ?_; with_reducible refine look_skip (by kernel_rfl) ?_; with_reducible refine look_skip (by kernel_rfl) ?_; with_reducible refine look_skip (by kernel_rfl) ?_; with_reducible refine lookS (by kernel_rfl) ?_; with_reducible refine lookS (by kernel_rfl) ?_; with_reducible exact look0) ?_; with_reducible refine o_some ?_; refine e_name (by kernel_rfl) (by with_reducible refine look_skip (by kernel_rfl) ?_; with_reducible refine look_skip (by kernel_rfl) ?_; with_reducible refine look_skip (by kernel_rfl) ?_; with_reducible refine look_skip (by kernel_rfl) ?_; with_reducible refine look_skip (by kernel_rfl) ?_; with_reducible refine look_skip (by kernel_rfl) ?_; with_reducible exact look_hit) ?_; with_reducible refine o_some ?_; with_reducible refine e_bin ?_; refine e_name (by kernel_rfl) (by with_reducible refine look_skip (by kernel_rfl) ?_; with_reducible refine look_skip (by kernel_rfl) ?_; with_reducible refine look_skip (by kernel_rfl) ?_; with_reducible refine look_skip (by kernel_rfl) ?_; with_reducible refine look_skip (by kernel_rfl) ?_; with_reducible exact look_hit) ?_; with_reducible refine e_int ?_; with_reducible refine v_add ?_)
        refine (fin _ y x _ _ _ st ?_ (by rw [eD k, List.append_assoc]) (hw.del col s k pg) (delC_len cs pg hcs (by first | assumption | with_reducible rfl | omega)) h).mono fun _ q => ?_
        · rw [List.length_append, List.length_replicate, fixH_len, List.length_drop]; omega
        · (with_reducible refine k_next ?_; with_reducible refine s_nil ?_; with_reducible refine k_next ?_; with_reducible refine s_nil ?_; with_reducible refine k_next ?_; with_reducible refine s_nil ?_; with_reducible refine k_next ?_; with_reducible refine s_nil ?_; with_reducible refine k_next ?_)
          exact q
end
end Mine

set_option autoImplicit false
set_option linter.unusedVariables false
set_option maxRecDepth 10000
set_option maxHeartbeats 4000000
namespace Mine
open PySem
section
variable {n : Nat} {st : St} {L : Held} {c : Cell} {cs ds ss : List Cell} {a b p q i j d l e : Nat} {is ns : List Int} {m : Int} {R : V → St → Prop} {K : Me → Prop} {KB : Bool → Prop} {KS : St → Prop}
theorem P_m_codes (h : At st L) (hi : L[i]? = some (p, lineO a)) (hq : K (.own .m_codes p)) : PostO (methV (.ref p) (Str.ofString "codes") st) K := P_m _ _ h hi (by kernel_rfl) (by kernel_rfl) hq
theorem P_m_used (h : At st L) (hi : L[i]? = some (p, lineO a)) (hq : K (.own .m_used p)) : PostO (methV (.ref p) (Str.ofString "used") st) K := P_m _ _ h hi (by kernel_rfl) (by kernel_rfl) hq
theorem P_m_copy (h : At st L) (hi : L[i]? = some (p, lineO a)) (hq : K (.own .m_copy p)) : PostO (methV (.ref p) (Str.ofString "copy") st) K := P_m _ _ h hi (by kernel_rfl) (by kernel_rfl) hq
theorem P_m_equals (h : At st L) (hi : L[i]? = some (p, lineO a)) (hq : K (.own .m_equals p)) : PostO (methV (.ref p) (Str.ofString "equals") st) K := P_m _ _ h hi (by kernel_rfl) (by kernel_rfl) hq
theorem fixH_take (X : List Cell) (k : Nat) : fixH (X.take k) = (fixH X).take k := by cases X <;> cases k <;> rfl
theorem law_ok (hn : ns.length ≤ 63) : Post (callF (n + 8) .law [.froz (ns.map .int)] []) fun v _ => v = .bool true := by
  have h : At [] [] := .nil
  refine P_callF [(Str.ofString "script", .froz (ns.map .int))] rfl rfl ?_
  ((conv => enter [1, 2]; whnf); (conv => enter [1, 3]; whnf); with_reducible refine s_cons ?_; refine s_assign (by kernel_rfl) (by kernel_rfl) ?_; with_reducible refine e_call (by kernel_rfl) tl_deck ?_; with_reducible refine es_cons ?_; refine e_name (by kernel_rfl) look0 ?_; with_reducible refine es_nil ?_)
  refine deck_ok h hn fun d l m is st hm h => ?_
  (with_reducible refine t_name (by kernel_rfl) rfl ?_; with_reducible refine k_next ?_; with_reducible refine s_cons ?_; refine s_assign (by kernel_rfl) (by kernel_rfl) ?_; with_reducible refine e_bin ?_; with_reducible refine e_int ?_; with_reducible refine e_call (by kernel_rfl) tl_draw ?_; with_reducible refine es_cons ?_; refine e_name (by kernel_rfl) look_hit ?_; with_reducible refine es_cons ?_; with_reducible refine e_int ?_; with_reducible refine es_nil ?_)
  refine draw_ok h hm (k := 4) rfl (by decide) fun r m is st hr hm h => ?_
  (with_reducible refine v_add ?_; with_reducible refine t_name (by kernel_rfl) rfl ?_; with_reducible refine k_next ?_; with_reducible refine s_cons ?_; refine s_assign (by kernel_rfl) (by kernel_rfl) ?_; with_reducible refine e_tuple ?_; with_reducible refine es_cons ?_; with_reducible refine e_callB (by kernel_rfl) bl_line ?_; with_reducible refine es_cons ?_; refine e_name (by kernel_rfl) look_hit ?_; with_reducible refine es_cons ?_; refine e_glob (by kernel_rfl) gl_plain ?_; with_reducible refine es_nil ?_)
  obtain ⟨N, hN⟩ : ∃ N, N = 3 + r := ⟨_, rfl⟩
  rw [show (3 : Int) + (r : Int) = N by rw [hN]; rfl]
  have N3 : 3 ≤ N := hN ▸ Nat.le_add_right 3 r
  have N6 : N ≤ 6 := hN ▸ Nat.add_le_add_left (Nat.le_of_lt_succ hr) 3
  clear hN
  refine P_line h fun p st h => ?_
  refine init_ok (b := 0) (g := -1) h (by first | assumption | with_reducible rfl | omega) fun a st h => ⟨rfl, ?_⟩
  (with_reducible refine es_cons ?_; with_reducible refine e_bin ?_; with_reducible refine e_list ?_; with_reducible refine es_cons ?_; with_reducible refine e_call (by kernel_rfl) tl_blank_cell ?_; with_reducible refine es_cons ?_; refine e_glob (by kernel_rfl) gl_plain ?_; with_reducible refine es_nil ?_)
  refine blank_cell_ok (b := 0) (g := -1) ?_
  (with_reducible refine es_nil ?_)
  refine P_mkList h (Nat.le_of_ble_eq_true rfl) fun g st h => ?_
  (refine e_name (by kernel_rfl) look_hit ?_)
  refine P_mulL h ix0 (by first | assumption | with_reducible rfl | omega) fun e st h => ?_
  rw [Int.toNat_natCast, ← List.map_replicate] at h
  have h := (h.focus (i := 5) rfl).focus (i := 5) rfl
  dsimp only [List.set_cons_zero, List.set_cons_succ, List.eraseIdx_cons_zero, List.eraseIdx_cons_succ] at h
  (with_reducible refine es_nil ?_; refine ⟨by kernel_rfl, ?_⟩; with_reducible refine t_tuple (by with_reducible refine bn_cons (by kernel_rfl) ?_; with_reducible refine bn_cons (by kernel_rfl) ?_; with_reducible exact bn_nil) ?_; with_reducible refine k_next ?_; with_reducible refine s_cons ?_; with_reducible refine s_range (by kernel_rfl) ?_; with_reducible refine e_bin ?_; with_reducible refine e_int ?_; with_reducible refine e_call (by kernel_rfl) tl_draw ?_; with_reducible refine es_cons ?_; refine e_name (by kernel_rfl) (by with_reducible refine look_skip (by kernel_rfl) ?_; with_reducible refine look_skip (by kernel_rfl) ?_; with_reducible refine look_skip (by kernel_rfl) ?_; with_reducible exact look_hit) ?_; with_reducible refine es_cons ?_; with_reducible refine e_int ?_; with_reducible refine es_nil ?_)
  refine draw_ok h hm (k := 8) rfl (by decide) fun t m is st ht hm h => ?_
  (with_reducible refine v_add ?_)
  refine ⟨_, if_pos (by first | assumption | with_reducible rfl | omega), ?_⟩
  have h := ((((h.focus (i := 2) rfl).focus (i := 5) rfl).focus (i := 5) rfl).focus (i := 4) rfl).focus (i := 4) rfl
  dsimp only [List.set_cons_zero, List.set_cons_succ, List.eraseIdx_cons_zero, List.eraseIdx_cons_succ] at h
  have h := h.sub (.cons_cons _ (.cons_cons _ (.cons_cons _ (.cons_cons _ (.cons_cons _ (.cons _ (.refl _)))))))
  have w0 : WF (List.replicate N (blankC (-1))) := wf_blanks ..
  have l0 : (List.replicate N (blankC (-1))).length = N := List.length_replicate ..
  refine Post.mono (Q := fun fl st => ∃ (cs : List Cell) (m : Int) (is : List Int), fl.1 = Fl.next ∧ (fl.2.lookup (Str.ofString "deck") = some (V.ref d) ∧ fl.2.lookup (Str.ofString "columns") = some (V.int N) ∧ fl.2.lookup (Str.ofString "line") = some (V.ref p) ∧ fl.2.lookup (Str.ofString "cells") = some (V.ref e)) ∧ WF cs ∧ cs.length = N ∧ Mix m ∧ At st ((d, deckO l m) :: (l, .list (is.map .int)) :: (p, lineO a) :: (a, .list (cs.map cv)) :: (e, .list (cs.map cv)) :: []))
    (P_for (fun rest loc st => ∃ (cs : List Cell) (m : Int) (is : List Int), (loc.lookup (Str.ofString "deck") = some (V.ref d) ∧ loc.lookup (Str.ofString "columns") = some (V.int N) ∧ loc.lookup (Str.ofString "line") = some (V.ref p) ∧ loc.lookup (Str.ofString "cells") = some (V.ref e)) ∧ WF cs ∧ cs.length = N ∧ Mix m ∧ At st ((d, deckO l m) :: (l, .list (is.map .int)) :: (p, lineO a) :: (a, .list (cs.map cv)) :: (e, .list (cs.map cv)) :: [])) (fun _ _ _ _ => rfl) ?_ ?_ _ _ _ ⟨_, m, is, ⟨by (with_reducible refine look_skip (by kernel_rfl) ?_; with_reducible refine look_skip (by kernel_rfl) ?_; with_reducible refine look_skip (by kernel_rfl) ?_; with_reducible exact look_hit), by (with_reducible refine look_skip (by kernel_rfl) ?_; with_reducible refine look_skip (by kernel_rfl) ?_; with_reducible exact look_hit), by (with_reducible refine look_skip (by kernel_rfl) ?_; with_reducible exact look_hit), by (with_reducible exact look_hit)⟩, w0, l0, hm, h⟩) ?_
  · rintro v rest loc st ⟨cs, m, is, ⟨l1, l2, l3, l4⟩, hw, hl, hm, h⟩
    have c3 : 3 ≤ cs.length := hl ▸ N3
    have c6 : cs.length ≤ 6 := hl ▸ N6
    have c60 : cs.length ≤ 60 := Nat.le_trans c6 (Nat.le_of_ble_eq_true rfl)
    have c100 : cs.length ≤ 100 := Nat.le_trans c6 (Nat.le_of_ble_eq_true rfl)
    have c4 : cs.length ≤ 4096 := Nat.le_trans c6 (Nat.le_of_ble_eq_true rfl)
    have c0 : 0 < cs.length := Nat.lt_of_lt_of_le (by decide) c3
    refine ⟨_, bindT_name (by kernel_rfl), ?_⟩
    (with_reducible refine s_cons ?_; with_reducible refine s_expr ?_; with_reducible refine e_call (by kernel_rfl) tl_deed ?_; with_reducible refine es_cons ?_; refine e_name (by kernel_rfl) (by with_reducible refine look_skip (by kernel_rfl) ?_; assumption) ?_; with_reducible refine es_cons ?_; refine e_name (by kernel_rfl) (by with_reducible refine look_skip (by kernel_rfl) ?_; assumption) ?_; with_reducible refine es_cons ?_; refine e_name (by kernel_rfl) (by with_reducible refine look_skip (by kernel_rfl) ?_; assumption) ?_; with_reducible refine es_nil ?_)
    refine deed_ok h hm hw (by first | assumption | with_reducible rfl | omega) (by first | assumption | with_reducible rfl | omega) fun cs' m is st hw' hl' hm h => ?_
    (refine ⟨rfl, ?_⟩; with_reducible refine k_next ?_; with_reducible refine s_cons ?_; with_reducible refine s_if ?_; with_reducible refine c_cmp ?_; with_reducible refine e_callB (by kernel_rfl) bl_list ?_; with_reducible refine es_cons ?_; with_reducible refine e_attr (by kernel_rfl) ?_; refine e_name (by kernel_rfl) (by with_reducible refine look_skip (by kernel_rfl) ?_; assumption) ?_)
    refine P_cells h ix2 ?_
    (with_reducible refine es_nil ?_)
    refine P_listR h ix3 (by rw [List.length_map, hl']; exact c4) fun f st h => ?_
    (refine e_name (by kernel_rfl) (by with_reducible refine look_skip (by kernel_rfl) ?_; assumption) ?_)
    refine P_neC h (i := 0) (j := 5) rfl rfl ?_
    (refine w_no (by with_reducible refine nf ?_; with_reducible refine dt ?_; rfl) ?_; with_reducible refine s_nil ?_; with_reducible refine k_next ?_; with_reducible refine s_nil ?_; with_reducible refine k_next ?_)
    exact ⟨cs', m, is, ⟨look_skip (by kernel_rfl) l1, look_skip (by kernel_rfl) l2, look_skip (by kernel_rfl) l3, look_skip (by kernel_rfl) l4⟩, hw', hl'.trans hl, hm, h.sub (.cons _ (.refl _))⟩
  · rintro loc st ⟨cs, m, is, h⟩
    exact ⟨cs, m, is, rfl, h⟩
  · rintro ⟨fl, loc⟩ st ⟨cs, m, is, rfl, ⟨l1, l2, l3, l4⟩, hw, hl, hm, h⟩
    have c3 : 3 ≤ cs.length := hl ▸ N3
    have c6 : cs.length ≤ 6 := hl ▸ N6
    have c60 : cs.length ≤ 60 := Nat.le_trans c6 (Nat.le_of_ble_eq_true rfl)
    have c100 : cs.length ≤ 100 := Nat.le_trans c6 (Nat.le_of_ble_eq_true rfl)
    have c4 : cs.length ≤ 4096 := Nat.le_trans c6 (Nat.le_of_ble_eq_true rfl)
    have c0 : 0 < cs.length := Nat.lt_of_lt_of_le (by decide) c3
    have hn0 : ∀ c ∈ cs, 0 ≤ c.w := fun c hc => by rcases (hw.mem c hc).1 with q | q | q <;> rw [q] <;> decide
    (with_reducible refine k_next ?_; with_reducible refine s_cons ?_; refine s_assign (by kernel_rfl) (by kernel_rfl) ?_; with_reducible refine e_call (by kernel_rfl) tl_draw ?_; with_reducible refine es_cons ?_; refine e_name (by kernel_rfl) (by assumption) ?_; with_reducible refine es_cons ?_; refine e_name (by kernel_rfl) (by assumption) ?_; with_reducible refine es_nil ?_)
    refine draw_ok h hm (k := N) rfl (by first | assumption | with_reducible rfl | omega) fun lf m is st hlf hm h => ?_
    (with_reducible refine t_name (by kernel_rfl) rfl ?_; with_reducible refine k_next ?_; with_reducible refine s_cons ?_; refine s_assign (by kernel_rfl) (by kernel_rfl) ?_; with_reducible refine e_bin ?_; refine e_name (by kernel_rfl) look_hit ?_; with_reducible refine e_call (by kernel_rfl) tl_draw ?_; with_reducible refine es_cons ?_; refine e_name (by kernel_rfl) (by with_reducible refine look_skip (by kernel_rfl) ?_; assumption) ?_; with_reducible refine es_cons ?_; with_reducible refine e_bin ?_; refine e_name (by kernel_rfl) (by with_reducible refine look_skip (by kernel_rfl) ?_; assumption) ?_; refine e_name (by kernel_rfl) look_hit ?_; with_reducible refine v_sub ?_; with_reducible refine es_nil ?_)
    refine draw_ok h hm (k := N - lf) (by first | assumption | with_reducible rfl | omega) (by first | assumption | with_reducible rfl | omega) fun rt m is st hrt hm h => ?_
    (with_reducible refine v_add ?_; with_reducible refine t_name (by kernel_rfl) rfl ?_; with_reducible refine k_next ?_; with_reducible refine s_cons ?_; with_reducible refine s_if ?_; with_reducible refine c_boolop ?_; with_reducible refine a_cons ?_; with_reducible refine c_cmp ?_; with_reducible refine e_callB (by kernel_rfl) bl_list ?_; with_reducible refine es_cons ?_; with_reducible refine e_meth (by kernel_rfl) ?_; refine e_name (by kernel_rfl) (by with_reducible refine look_skip (by kernel_rfl) ?_; with_reducible refine look_skip (by kernel_rfl) ?_; assumption) ?_)
    -- the codes of the whole line
    refine P_m_codes h (i := 2) rfl ?_
    have h := (h.focus (i := 3) rfl).focus (i := 3) rfl
    dsimp only [List.set_cons_zero, List.set_cons_succ, List.eraseIdx_cons_zero, List.eraseIdx_cons_succ] at h
    (with_reducible refine es_nil ?_; with_reducible refine m_own ?_)
    refine codes0_ok h (by first | assumption | with_reducible rfl | omega) fun r1 st h => ?_
    rw [hw.fixH_id, hw.fixL_id] at h
    (with_reducible refine es_nil ?_)
    refine P_listR h (i := 0) rfl (by rw [List.length_map]; have := codesC_len (cs.take (trimN isBlankC cs cs.length)); rw [List.length_take] at this; exact Nat.le_trans this (Nat.le_trans (Nat.min_le_right _ _) c4)) fun r2 st h => ?_
    have h := h.focus (i := 6) rfl
    dsimp only [List.set_cons_zero, List.set_cons_succ, List.eraseIdx_cons_zero, List.eraseIdx_cons_succ] at h
    (with_reducible refine e_call (by kernel_rfl) tl_lcodes ?_; with_reducible refine es_cons ?_; refine e_name (by kernel_rfl) (by with_reducible refine look_skip (by kernel_rfl) ?_; with_reducible refine look_skip (by kernel_rfl) ?_; assumption) ?_; with_reducible refine es_nil ?_)
    refine lcodes_ok h (by first | assumption | with_reducible rfl | omega) hn0 fun r3 st h => ?_
    rw [raw_all cs hn0, hw.fixH_id, hw.fixL_id, codes_law _ cs rfl hw] at h
    refine P_neI h (i := 2) (j := 0) rfl rfl ?_
    (refine w_yes (by with_reducible refine ot ?_; with_reducible refine nf ?_; with_reducible refine dt ?_; rfl) ?_; with_reducible refine a_one ?_; with_reducible refine c_cmp ?_; with_reducible refine e_callB (by kernel_rfl) bl_list ?_; with_reducible refine es_cons ?_; with_reducible refine e_meth (by kernel_rfl) ?_; refine e_name (by kernel_rfl) (by with_reducible refine look_skip (by kernel_rfl) ?_; with_reducible refine look_skip (by kernel_rfl) ?_; assumption) ?_)
    -- the codes of a stretch
    refine P_m_codes h (i := 4) rfl ?_
    have h := h.sub (.cons _ (.cons_cons _ (.cons _ (.cons _ (.refl _)))))
    have h := (h.focus (i := 2) rfl).focus (i := 2) rfl
    dsimp only [List.set_cons_zero, List.set_cons_succ, List.eraseIdx_cons_zero, List.eraseIdx_cons_succ] at h
    (with_reducible refine es_cons ?_; refine e_name (by kernel_rfl) (by with_reducible refine look_skip (by kernel_rfl) ?_; with_reducible exact look_hit) ?_; with_reducible refine es_cons ?_; refine e_name (by kernel_rfl) look_hit ?_; with_reducible refine es_nil ?_; with_reducible refine m_own ?_)
    refine codes2_ok h (by first | assumption | with_reducible rfl | omega) (lo := lf) (hi := lf + rt + 1) rfl (by first | assumption | with_reducible rfl | omega) fun r1 st s hs h => ?_
    have hsw : WF s := by
      rw [hs, fixH_take]
      exact ((hw.cut lf).2.cut _).1
    have hsl : s.length ≤ 6 := by rw [hs, fixL_len, fixH_len, List.length_take, List.length_drop]; exact Nat.le_trans (Nat.min_le_right _ _) (Nat.le_trans (Nat.sub_le _ _) c6)
    (with_reducible refine es_nil ?_)
    refine P_listR h (i := 0) rfl (by rw [List.length_map]; have := codesC_len (s.take (trimN isBlankC s s.length)); rw [List.length_take] at this; exact Nat.le_trans this (Nat.le_trans (Nat.min_le_right _ _) (Nat.le_trans hsl (Nat.le_of_ble_eq_true rfl)))) fun r2 st h => ?_
    (with_reducible refine e_call (by kernel_rfl) tl_lcodes ?_; with_reducible refine es_cons ?_; with_reducible refine e_slice ?_; refine e_name (by kernel_rfl) (by with_reducible refine look_skip (by kernel_rfl) ?_; with_reducible refine look_skip (by kernel_rfl) ?_; assumption) ?_; with_reducible refine o_some ?_; refine e_name (by kernel_rfl) (by with_reducible refine look_skip (by kernel_rfl) ?_; with_reducible exact look_hit) ?_; with_reducible refine o_some ?_; with_reducible refine e_bin ?_; refine e_name (by kernel_rfl) look_hit ?_; with_reducible refine e_int ?_; with_reducible refine v_add ?_)
    refine P_sliceL h (i := 4) rfl (bnd_int (m := lf) rfl) (bnd_int (m := lf + rt + 1) (by first | assumption | with_reducible rfl | omega)) (by rw [List.length_map]; exact c4) fun f st h => ?_
    have e1 : cut (cs.map cv) (some lf) (some (lf + rt + 1)) = ((cs.drop lf).take (lf + rt + 1 - lf)).map cv := by
      rw [List.map_take, List.map_drop]; rfl
    rw [e1] at h
    have hn1 : ∀ c ∈ (cs.drop lf).take (lf + rt + 1 - lf), 0 ≤ c.w := fun c hc => hn0 c (List.mem_of_mem_drop (List.mem_of_mem_take hc))
    (with_reducible refine es_nil ?_)
    refine lcodes_ok h (by rw [List.length_take, List.length_drop]; exact Nat.le_trans (Nat.min_le_right _ _) (Nat.le_trans (Nat.sub_le _ _) c60)) hn1 fun r3 st h => ?_
    rw [raw_all _ hn1, ← hs, codes_law _ s rfl hsw] at h
    refine P_neI h (i := 2) (j := 0) rfl rfl ?_
    (refine w_no (by with_reducible refine nf ?_; with_reducible refine dt ?_; rfl) ?_; with_reducible refine s_nil ?_; with_reducible refine k_next ?_; with_reducible refine s_cons ?_; with_reducible refine s_if ?_; with_reducible refine c_cmp ?_; with_reducible refine e_meth (by kernel_rfl) ?_; refine e_name (by kernel_rfl) (by with_reducible refine look_skip (by kernel_rfl) ?_; with_reducible refine look_skip (by kernel_rfl) ?_; assumption) ?_)
    -- the columns that are used
    refine P_m_used h (i := 4) rfl ?_
    have h := h.sub (.cons _ (.cons _ (.cons _ (.cons _ (.refl _)))))
    (with_reducible refine es_nil ?_; with_reducible refine m_own ?_)
    refine used_ok h (by first | assumption | with_reducible rfl | omega) fun st h => ?_
    have h := h.focus (i := 2) rfl
    dsimp only [List.set_cons_zero, List.set_cons_succ, List.eraseIdx_cons_zero, List.eraseIdx_cons_succ] at h
    (with_reducible refine e_call (by kernel_rfl) tl_lused ?_; with_reducible refine es_cons ?_; refine e_name (by kernel_rfl) (by with_reducible refine look_skip (by kernel_rfl) ?_; with_reducible refine look_skip (by kernel_rfl) ?_; assumption) ?_; with_reducible refine es_nil ?_)
    refine lused_ok h (by first | assumption | with_reducible rfl | omega) fun st h => ?_
    (with_reducible refine q_ne ?_; refine w_no (by with_reducible refine nf ?_; with_reducible refine dt ?_; first | with_reducible rfl | omega) ?_; with_reducible refine s_nil ?_; with_reducible refine k_next ?_; with_reducible refine s_cons ?_; refine s_assign (by kernel_rfl) (by kernel_rfl) ?_; with_reducible refine e_meth (by kernel_rfl) ?_; refine e_name (by kernel_rfl) (by with_reducible refine look_skip (by kernel_rfl) ?_; with_reducible refine look_skip (by kernel_rfl) ?_; assumption) ?_)
    -- a copy
    refine P_m_copy h (i := 1) rfl ?_
    have h := (h.focus (i := 2) rfl).focus (i := 2) rfl
    dsimp only [List.set_cons_zero, List.set_cons_succ, List.eraseIdx_cons_zero, List.eraseIdx_cons_succ] at h
    (with_reducible refine es_nil ?_; with_reducible refine m_own ?_)
    refine copy_ok h (by first | assumption | with_reducible rfl | omega) fun q b st h => ?_
    (with_reducible refine t_name (by kernel_rfl) rfl ?_; with_reducible refine k_next ?_; with_reducible refine s_cons ?_; with_reducible refine s_expr ?_; with_reducible refine e_meth (by kernel_rfl) ?_; refine e_name (by kernel_rfl) look_hit ?_)
    refine P_m_put h (i := 0) rfl ?_
    (with_reducible refine es_cons ?_; with_reducible refine e_int ?_; with_reducible refine es_cons ?_; with_reducible refine e_tuple ?_; with_reducible refine es_cons ?_; with_reducible refine e_tuple ?_; with_reducible refine es_cons ?_; with_reducible refine e_int ?_; with_reducible refine es_nil ?_; refine ⟨by kernel_rfl, ?_⟩; with_reducible refine es_cons ?_; with_reducible refine e_int ?_; with_reducible refine es_cons ?_; refine e_glob (by kernel_rfl) gl_plain ?_; with_reducible refine es_cons ?_; with_reducible refine e_bool ?_; with_reducible refine es_nil ?_; refine ⟨by kernel_rfl, ?_⟩; with_reducible refine es_nil ?_; with_reducible refine m_own ?_)
    refine put_ok (c := ⟨some 122, 1, 0, -1⟩) h hw (by first | assumption | with_reducible rfl | omega) (m := 0) rfl (by first | assumption | with_reducible rfl | omega) (.inl rfl) fun st h => ?_
    have hd := put_differs hw (by intro q; rw [q] at c0; exact absurd c0 (Nat.lt_irrefl 0))
    generalize over cs 0 (fit cs 0 ⟨some 122, 1, 0, -1⟩) = ds at h hd
    (refine ⟨rfl, ?_⟩; with_reducible refine k_next ?_; with_reducible refine s_cons ?_; with_reducible refine s_ret ?_; with_reducible refine e_boolop ?_; with_reducible refine b_cons ?_; with_reducible refine e_cmp ?_; with_reducible refine e_callB (by kernel_rfl) bl_list ?_; with_reducible refine es_cons ?_; with_reducible refine e_attr (by kernel_rfl) ?_; refine e_name (by kernel_rfl) (by with_reducible refine look_skip (by kernel_rfl) ?_; with_reducible refine look_skip (by kernel_rfl) ?_; with_reducible refine look_skip (by kernel_rfl) ?_; assumption) ?_)
    refine P_cells h (i := 2) rfl ?_
    (with_reducible refine es_nil ?_)
    refine P_listR h (i := 3) rfl (by rw [List.length_map]; exact c4) fun f st h => ?_
    (refine e_name (by kernel_rfl) (by with_reducible refine look_skip (by kernel_rfl) ?_; with_reducible refine look_skip (by kernel_rfl) ?_; with_reducible refine look_skip (by kernel_rfl) ?_; assumption) ?_)
    refine P_eqC h (i := 0) (j := 5) rfl rfl ?_
    (with_reducible refine q_truth ?_; refine w_yes (by with_reducible refine at' ?_; with_reducible refine dt ?_; rfl) ?_; with_reducible refine b_cons ?_; with_reducible refine e_not ?_; with_reducible refine e_meth (by kernel_rfl) ?_; refine e_name (by kernel_rfl) (by with_reducible refine look_skip (by kernel_rfl) ?_; with_reducible refine look_skip (by kernel_rfl) ?_; with_reducible refine look_skip (by kernel_rfl) ?_; assumption) ?_)
    refine P_m_equals h (i := 3) rfl ?_
    have h := (h.focus (i := 4) rfl).focus (i := 4) rfl
    dsimp only [List.set_cons_zero, List.set_cons_succ, List.eraseIdx_cons_zero, List.eraseIdx_cons_succ] at h
    have h := h.sub (.cons_cons _ (.cons_cons _ (.cons _ (.refl _))))
    (with_reducible refine es_cons ?_; refine e_name (by kernel_rfl) look_hit ?_; with_reducible refine es_nil ?_; with_reducible refine m_own ?_)
    refine equals_ok h ?_
    have hd' : ¬ cs = ds := Ne.symm hd
    (with_reducible refine q_truth ?_; with_reducible refine q_truth ?_; refine w_yes (by with_reducible refine at' ?_; with_reducible refine nt ?_; with_reducible refine df ?_; assumption) ?_; with_reducible refine b_one ?_; with_reducible refine e_meth (by kernel_rfl) ?_; refine e_name (by kernel_rfl) (by with_reducible refine look_skip (by kernel_rfl) ?_; with_reducible refine look_skip (by kernel_rfl) ?_; with_reducible refine look_skip (by kernel_rfl) ?_; assumption) ?_)
    refine P_m_equals h (i := 0) rfl ?_
    (with_reducible refine es_cons ?_; with_reducible refine e_meth (by kernel_rfl) ?_; refine e_name (by kernel_rfl) (by with_reducible refine look_skip (by kernel_rfl) ?_; with_reducible refine look_skip (by kernel_rfl) ?_; with_reducible refine look_skip (by kernel_rfl) ?_; assumption) ?_)
    refine P_m_copy h (i := 0) rfl ?_
    (with_reducible refine es_nil ?_; with_reducible refine m_own ?_)
    refine copy_ok h (by first | assumption | with_reducible rfl | omega) fun q2 b2 st h => ?_
    have h := (h.focus (i := 3) rfl).focus (i := 3) rfl
    dsimp only [List.set_cons_zero, List.set_cons_succ, List.eraseIdx_cons_zero, List.eraseIdx_cons_succ] at h
    (with_reducible refine es_nil ?_; with_reducible refine m_own ?_)
    refine equals_ok h ?_
    (with_reducible refine k_ret ?_; with_reducible refine k_ret ?_)
    exact congrArg V.bool (dt rfl)
end
end Mine

set_option autoImplicit false
set_option maxRecDepth 100000
namespace Mine
open PySem PySem.W PyProof.Rows PySem.Calls
/-! ## the head: the top's run, in one check of few steps -/
noncomputable def bootTree (P : Params) : BT := (((((((((((BT.nil.ins 0 (boot_o_0 P)).ins 1 (boot_o_1 P)).ins 2 (boot_o_2 P)).ins 3 (boot_o_3 P)).ins 4 (boot_o_4 P)).ins 5 (boot_o_5 P)).ins 6 (boot_o_6 P)).ins 7 (boot_o_7 P)).ins 8 (boot_o_8 P)).ins 9 (boot_o_9 P)).ins 10 (boot_o_10 P))
noncomputable def bootT (P : Params) (os : OsState) : SharedT := ⟨bootTree P, 11, (boot_heap P).life, #[], boot_drawn, boot_toks, os⟩
theorem bootT_abs (P : Params) (os : OsState) : (bootT P os).abs = ⟨boot_heap P, Array.mk [], boot_drawn, boot_toks, os⟩ := by kernel_rfl
/-- the top's run over a tree of objects, by the library's quick forms of its steps -/
noncomputable def runQ (p : Program) (w : World) : Nat → SharedT → Thread → Option SharedT
  | 0, _, _ => none
  | n + 1, s, t => match through t with
    | true => some s
    | false => match Fast.tw6613529449190102663 11 (some (.ref 6)) t with
      | false => none
      | true => match Fast.tw10156331382660048174 (Fast.tw11892475500146522536 Fast.tw14364793385576792824) p w s t with
        | some (s', t') => runQ p w n s' t'
        | none => none
theorem runQ_spec {p : Program} {w : World} : ∀ {n : Nat} {s r : SharedT} {t : Thread}, runQ p w n s t = some r → topRun treeTable p w 11 (some (.ref 6)) n s.abs t = some r.abs
  | 0, _, _, _, h => by cases h
  | n + 1, s, r, t, h => by
    unfold runQ at h
    rw [← Fast.te6613529449190102663, ← Fast.te10156331382660048174, ← Fast.te11892475500146522536, ← Fast.te14364793385576792824] at h
    unfold topRun
    cases ht : through t with
    | true => rw [ht] at h; cases h; rfl
    | false =>
      rw [ht] at h
      cases hk : stepOk 11 (some (.ref 6)) t with
      | false => rw [hk] at h; cases h
      | true =>
        rw [hk] at h
        cases hs : stepT (denote treeTable) p w s t with
        | none => rw [hs] at h; cases h
        | some x => obtain ⟨s₂, t₂⟩ := x; rw [hs] at h; rw [stepT_spec hs]; exact runQ_spec h
noncomputable def testsQ (p : Program) (P : Params) (s : Shared) : Bool := staticsOk (importedModules p.main.body) (boot_heap P) s.heap && namesBound p s.heap && gensDone s && laidKept (boot_heap P) s.heap
theorem boot_size (P : Params) : ((boot_heap P).isNs mainGlobals && (Array.mk [] : Array GenState).size == 0, (boot_heap P).objs.size, (boot_heap P).nsMap mainGlobals "__annotations__") = (true, 11, some (.ref 6)) := by kernel_rfl
/-- what the run ends in is looked at: three looks, each a check of its own -/
theorem left_of {p q : Program} {loose : List Str} {Xt : Shared → Bool} {α : Type} {Yf : Shared → α} {Ya : World → α} {N M : Nat} {g0 : Bool}
    (open_ : ∀ w : World, (fencedOpening treeTable p w N).map (fun s => (s.heap, s.gens, s.drawn, s.toks)) = some (boot_heap w.params, Array.mk [], boot_drawn, boot_toks)) (le : Nat.ble M N = true)
    (a : ∀ (w : World) (os : OsState), (runQ p w M (bootT w.params os) (topStub p)).map (fun r => testsQ p w.params r.abs) = some true)
    (b : ∀ (w : World) (os : OsState), (runQ p w M (bootT w.params os) (topStub p)).map (fun r => openSeen q loose (importedModules p.main.body) Xt g0 r.abs) = some (openGood q loose))
    (c : ∀ (w : World) (os : OsState), (runQ p w M (bootT w.params os) (topStub p)).map (fun r => Yf r.abs) = some (Ya w)) : LeftO p q loose Xt Yf Ya N g0 := fun w => by
  obtain ⟨⟨h, gs, d, k, os⟩, e, e'⟩ := Option.map_eq_some_iff.mp (open_ w)
  obtain ⟨rfl, rfl, rfl, rfl⟩ : h = boot_heap w.params ∧ gs = Array.mk [] ∧ d = boot_drawn ∧ k = boot_toks := by simpa using e'
  obtain ⟨z1, z2, z3⟩ : _ ∧ _ ∧ _ := by simpa only [Prod.mk.injEq] using boot_size w.params
  obtain ⟨r, hr, l1⟩ := Option.map_eq_some_iff.mp (a w os)
  have l2 := b w os
  have l3 := c w os
  rw [hr] at l2 l3
  have l2 := Option.some.inj l2
  have l3 := Option.some.inj l3
  have t1 := topRun_mono (N - M) _ _ _ _ (bootT_abs w.params os ▸ runQ_spec hr)
  rw [show M + (N - M) = N by have := Nat.le_of_ble_eq_true le; omega] at t1
  have t : topFrom treeTable p w N ⟨boot_heap w.params, Array.mk [], boot_drawn, boot_toks, os⟩ = some r.abs := by
    unfold topFrom
    dsimp only
    rw [z1, z2, z3, t1]
    show (match testsQ p w.params r.abs with | true => _ | false => _) = _
    rw [l1]
  unfold openEnds
  rw [e]
  show (topFrom treeTable p w N _).map _ = _
  rw [t]
  exact congrArg some (Prod.ext l2 l3)
noncomputable def q : Program := view PySem.Challenge.pw_np0273_01 [0, 2, 3, 4, 5, 6, 7, 8, 9, 11, 12, 13, 14, 15, 16, 17, 19, 20, 21, 22, 23, 24, 25, 26, 27, 28]
def loose : List Str := [Str.ofString "PLAIN", Str.ofString "Line"]
def lv : List (Str × WData) := [(Str.ofString "PLAIN", .tuple [.int 0, .int (-1), .int (-1), .int (-1), .int 0])]
noncomputable def Xt (s : Shared) : Bool := xlAt q lv s && recOk (RowW.records PySem.Challenge.rw_np0273_01.row.toRowW) s
theorem opened (w : World) : (fencedOpening treeTable PySem.Challenge.pw_np0273_01 w 3158).map (fun s => (s.heap, s.gens, s.drawn, s.toks)) = some (boot_heap w.params, Array.mk [], boot_drawn, boot_toks) :=
  boot_open (by kernel_rfl) (by kernel_rfl) (fun s => by kernel_rfl) w
theorem look_a (w : World) (os : OsState) : (runQ PySem.Challenge.pw_np0273_01 w 2000 (bootT w.params os) (topStub PySem.Challenge.pw_np0273_01)).map (fun r => testsQ PySem.Challenge.pw_np0273_01 w.params r.abs) = some true := by kernel_rfl
theorem look_b (w : World) (os : OsState) : (runQ PySem.Challenge.pw_np0273_01 w 2000 (bootT w.params os) (topStub PySem.Challenge.pw_np0273_01)).map (fun r => openSeen q loose (importedModules PySem.Challenge.pw_np0273_01.main.body) Xt true r.abs) = some (openGood q loose) := by kernel_rfl
theorem look_c (w : World) (os : OsState) : (runQ PySem.Challenge.pw_np0273_01 w 2000 (bootT w.params os) (topStub PySem.Challenge.pw_np0273_01)).map (fun r => hook.obs r.abs) = some (hook.val w) := by kernel_rfl
theorem left : LeftO PySem.Challenge.rw_np0273_01.row.prog q loose Xt hook.obs hook.val 3158 := left_of opened (by kernel_rfl) look_a look_b look_c
end Mine

set_option autoImplicit false
set_option maxRecDepth 100000
namespace Mine
open PySem PySem.W PyProof.Rows PySem.Calls
theorem said : PySem.Challenge.rw_np0273_01.wellSaid = true := by
  rw [Fast.te9446332074065402090]
  unfold Fast.tw9446332074065402090 Fast.tw17960256430627541270 Fast.tw2436336058641802641 Fast.tw12908688711261696721
  repeat' with_reducible refine look_both ?_ ?_
  all_goals decide +kernel
end Mine

set_option autoImplicit false
set_option linter.unusedVariables false
set_option maxRecDepth 100000
namespace Mine
open PySem PySem.W PyProof.Rows PySem.Calls
theorem rvs_ints {H : Heap} {ρ : Rho} {h : Heap} {vs : List Value} {ns : List Int} (hI : IntsAre vs ns) : RVs H ρ h vs (ns.map .int) := by
  induction hI with
  | nil => exact .nil
  | cons n t _ ih => exact .cons (.int ..) ih
/-- what the walk is to show: the law's call ends in True -/
noncomputable def Walk : Prop := ∀ (prog : Program) (w : World) (s : Shared) (mg mb : Str → Option Value) (fa a : Addr) (vs : List Value) (ns : List Int) (R : Result → Shared → Prop), hook.says w s.heap → s.heap.Ns mainGlobals mg → s.heap.Ns builtinsNs mb → s.heap.NoLimit →
  (∀ x : Str, x ≠ "__name__" → mb x = bootBuiltins x) → mg (Str.ofString "law") = some (.ref fa) → s.heap.IsList a vs.toArray → IntsAre vs ns → ns.length ≤ 63 →
  (∀ h' tk', (∀ b o, s.heap.get? b = some o → h'.get? b = some o) → R (.ok (.ret (.bool true))) { s with heap := h', toks := tk' }) → codeAny (model prog w) callerA (.call (.ref fa) ⟨[.ref a], []⟩) R s
/-- the law's run ends in True -/
theorem join : Walk := by
  intro prog w s mg mb fa a vs ns R Y g b lim bi hmg hL hI hn hq
  obtain ⟨K, C, X, S⟩ := Y
  obtain ⟨B, fa', h1, h2⟩ := see_base (prog := prog) (w := w) S X g b lim bi
  obtain rfl : fa = fa' := by rw [hmg] at h1; cases h1; rfl
  obtain ⟨v, st', e, rfl⟩ := law_ok (n := 1) (ns := ns) hn
  refine call_ok B 9 .law _ _ _ _ e callerA s [] fa [.ref a] ?_ h2 ⟨rfl, .nil, fun _ _ _ h => (nomatch h), fun _ _ e => e, fun _ h => (nomatch h)⟩ (.cons (.froz hL (by rw [List.length_map]; omega) (rvs_ints hI)) .nil) R fun v ρ h' tk S R' rv => ?_
  · exact ⟨rfl, by decide, by decide⟩
  · obtain rfl := rv.bool_inv
    exact hq h' tk fun b o e => R'.base b o e
end Mine

set_option autoImplicit false
open PySem PySem.W PyProof.Rows
set_option maxRecDepth 100000 in
set_option maxHeartbeats 8000000 in
theorem PySem.Challenge.cw_np0273_01_holds : PySem.Challenge.rw_np0273_01.Holds := by
  w_on
  refine holds_law Mine.said fun said => ?_
  refine holds_open (q := Mine.q) (loose := Mine.loose) (Xt := Mine.Xt) (XP := XL Mine.q Mine.lv) (Yf := Mine.hook.obs) (Ya := Mine.hook.val) (YP := Mine.hook.says) (N := 3158) Mine.left Mine.hook.of Mine.hook.keeps (fun s e => xl_of s (Bool.and_eq_true_iff.mp e).1) XL.keeps (by rfl) (by rfl) (by rfl) (fun s e => recFacts_of (Bool.and_eq_true_iff.mp e).2) (by rfl) said (by decide +kernel) ⟨rfl, rfl, rfl, rfl, rfl, by decide +kernel⟩ ?hw ?hc
  case hw => w_witness2
  w_strict
  intro w s₀ s₁ mg mb G Y fa o pm cd doc dV kV ho hd' hcd hD hmg hg args vals as hpre hlay hrd hwl hlo
  have T := G.T
  wrow_args hpre hlay hrd hwl hlo
  rename_i ns _ _ _ _ _ _ _ a vs _ hL _ _ _ hI _ hn _
  refine enter_call ?_
  refine Mine.join _ _ _ _ _ _ _ _ _ _ Y T.g T.b T.nolimit T.builtins hmg hL hI (by omega) ?_
  intro h' tk' keep
  exact GoodW.toG ⟨.inl ⟨.bool true, .bool true, [], rfl, raisesW_false (by wrow_none_raised), .bool true, by wrow_post, unshared_nil⟩, keep, rfl, hg⟩

