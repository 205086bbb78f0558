import PyProof.Rows.All
import Wide.All
import OpenK.AllK
import Wide.FinOn
import Open.Row
import OpenK.KMake
import KE.KTryMore
import KE.KIsAll
import PyProof.ExcAttrAll.ValueError
import PySem.Challenge.RW_uf020030_01
set_option Elab.async false
set_option maxRecDepth 100000

section
set_option maxRecDepth 100000
namespace Mine
open PySem
set_option linter.unusedVariables false

/-- abstract values -/
inductive V where
  | none | bool (b : Bool) | int (i : Int) | str (s : List Nat)
  | tup (l : List V) | loc (n : Nat) | script
  | fn (f : Str) | cls (c : Str) | bi (b : String) | ty (t : String) | exc (c : Str)
  deriving Inhabited

/-- abstract mutable cells -/
inductive Cell where
  | list (l : List V)
  deriving Inhabited
abbrev Store := List Cell
abbrev Loc := List (Option V)

inductive Out (α : Type) where
  | ok (a : α) (σ : Store) | exc (c : Str) (σ : Store) | bad
noncomputable def Out.bind {α β : Type} : Out α → (α → Store → Out β) → Out β
  | .ok a σ, k => k a σ
  | .exc c σ, _ => .exc c σ
  | .bad, _ => .bad
noncomputable def Out.ofOpt {α : Type} (σ : Store) : Option α → Out α
  | some a => .ok a σ
  | .none => .bad

inductive SOut where
  | next (ℓ : Loc) (σ : Store) | cont (ℓ : Loc) (σ : Store) | ret (v : V) (σ : Store) | exc (c : Str) (ℓ : Loc) (σ : Store) | bad
noncomputable def Out.bindS {α : Type} : Out α → Loc → (α → Store → SOut) → SOut
  | .ok a σ, _, k => k a σ
  | .exc c σ, ℓ, _ => .exc c ℓ σ
  | .bad, _, _ => .bad
noncomputable def SOut.seq : SOut → (Loc → Store → SOut) → SOut
  | .next ℓ σ, k => k ℓ σ
  | o, _ => o

inductive Bop where | add | sub | mul | fdiv | mod | pow
  deriving DecidableEq
inductive Cop where | lt | le | gt | ge | eq | ne | is | isnot | isin | notin
  deriving DecidableEq

mutual
inductive E where
  | int (i : Int) | str (s : List Nat) | bool (b : Bool) | none
  | var (i : Nat) | glob (x : Str)
  | bin (o : Bop) (a b : E) | neg (a : E) | not (a : E)
  | and (l : List E) | or (l : List E)
  | cmp (o : Cop) (a b : E) | cmp2 (o p : Cop) (a b c : E)
  | call (f : E) (as : List E)
  | sub (o i : E)
  | list (es : List E) | tup (es : List E)
end
instance : Inhabited E := ⟨.none⟩

inductive AT where | name (i : Nat)

inductive S where
  | asg (t : AT) (e : E) | expr (e : E) | ret (e : E)
  | ite (c : E) (a b : List S)
  | raise (c : Str) (msg : List Nat) | try (b : List S) (d : Str) (x : Nat) (h : List S)
  | pass | cont
  deriving Inhabited

structure FnD where
  np : Nat
  nl : Nat
  body : List S
structure Prog where
  fn : Str → Option FnD
  glob : Str → Option V
  exc : Str → Bool
  isa : Str → V → Option Bool
  ns : List Int

noncomputable def szL : Nat := 16777216

/-! ### primitive operations -/
noncomputable def mulOk (a b : Int) : Bool := decide (a.natAbs < 2 ^ 64) || decide (b.natAbs < 2 ^ 64)

noncomputable def intP : V → V → Option (Int × Int)
  | .int a, .int b => some (a, b)
  | _, _ => .none
noncomputable def binI (o : Bop) (a b : Int) (σ : Store) : Out V :=
  match o with
  | .add => .ok (.int (a + b)) σ
  | .sub => .ok (.int (a - b)) σ
  | .mul => if mulOk a b then .ok (.int (a * b)) σ else .bad
  | .fdiv => if 0 < b ∧ b < 1073741824 then .ok (.int (a / b)) σ else .bad
  | .mod => if 0 < b then .ok (.int (a % b)) σ else .bad
  | .pow => if a = 10 ∧ 0 ≤ b ∧ b ≤ 18 then .ok (.int (a ^ b.toNat)) σ else .bad
noncomputable def binL (σ : Store) : V → V → Out V
  | .loc i, .loc j => match σ[i]?, σ[j]? with
    | some (.list a), some (.list b) => if a.length + b.length ≤ szL then .ok (.loc σ.length) (σ ++ [.list (a ++ b)]) else .bad
    | _, _ => .bad
  | _, _ => .bad
noncomputable def binV (o : Bop) (a b : V) (σ : Store) : Out V :=
  match intP a b with
  | some p => binI o p.1 p.2 σ
  | .none => if o = .add then binL σ a b else .bad


noncomputable def veq (a b : V) : Option Bool := (intP a b).map fun p => decide (p.1 = p.2)
noncomputable def boolsOf : List V → Option (List Bool)
  | [] => some []
  | .bool i :: l => (boolsOf l).map (i :: ·)
  | _ => .none
noncomputable def inB (σ : Store) : V → V → Option Bool
  | .bool b, .loc n => match σ[n]? with
    | some (.list l) => (boolsOf l).map fun bs => bs.any (· == b)
    | _ => .none
  | _, _ => .none
noncomputable def cmpV (P : Prog) (o : Cop) (a b : V) (σ : Store) : Option Bool :=
  match o with
  | .lt => (intP a b).map fun p => decide (p.1 < p.2)
  | .le => (intP a b).map fun p => decide (p.1 ≤ p.2)
  | .gt => (intP a b).map fun p => decide (p.2 < p.1)
  | .ge => (intP a b).map fun p => decide (p.2 ≤ p.1)
  | .eq => veq a b
  | .ne => (veq a b).map (!·)
  | .notin => (inB σ a b).map (!·)
  | _ => .none

noncomputable def truthV : V → Option Bool
  | .bool b => some b
  | _ => .none

noncomputable def idx (l : List V) (i : Int) : Option V := if 0 ≤ i ∧ i < 4611686018427387904 then l[i.toNat]? else if i = -1 then l.getLast? else .none

noncomputable def subV (P : Prog) (v k : V) (σ : Store) : Option V :=
  match v, k with
  | .tup l, .int i => idx l i
  | .script, .int i => idx (P.ns.map .int) i
  | .loc n, k => match σ[n]? with
    | some (.list l) => match k with | .int i => idx l i | _ => .none
    | _ => .none
  | _, _ => .none

noncomputable def isaV (P : Prog) (σ : Store) (v t : V) : Option Bool :=
  match v, t with
  | .int _, .ty n => if n = "int" then some true else if n = "bool" then some false else .none
  | .bool _, .ty n => if n = "int" ∨ n = "bool" then some true else .none
  | .str _, .ty n => if n = "int" then some false else .none
  | .none, .ty n => if n = "int" then some false else .none
  | .tup _, .ty n => if n = "int" then some false else .none
  | .exc c, .cls d => P.isa c (.cls d)
  | .exc c, .ty n => P.isa c (.ty n)
  | _, _ => .none

noncomputable def prim (P : Prog) (hd : Bool) (b : String) (as : List V) (σ : Store) : Out V :=
  match as with
  | [v] => if b = "len" then (match v with
    | .script => if P.ns.length ≤ szL then .ok (.int P.ns.length) σ else .bad
    | _ => .bad) else .bad
  | [v, t] => if b = "isinstance" then .ofOpt σ ((isaV P σ v t).map .bool) else .bad
  | _ => .bad

/-! ### the interpreter -/
section
variable (P : Prog) (hd : Bool) (C : V → List V → Store → Out V)
mutual
noncomputable def evE : E → Loc → Store → Out V
  | .int i, _, σ => .ok (.int i) σ
  | .str s, _, σ => if hd then .bad else .ok (.str s) σ
  | .bool b, _, σ => .ok (.bool b) σ
  | .none, _, σ => .ok .none σ
  | .var i, ℓ, σ => match ℓ[i]? with | some (some v) => .ok v σ | _ => .bad
  | .glob x, _, σ => .ofOpt σ (P.glob x)
  | .bin o a b, ℓ, σ => (evE a ℓ σ).bind fun va σ => (evE b ℓ σ).bind fun vb σ => binV o va vb σ
  | .neg a, ℓ, σ => (evE a ℓ σ).bind fun v σ => match v with | .int i => .ok (.int (-i)) σ | _ => .bad
  | .not a, ℓ, σ => (evE a ℓ σ).bind fun v σ => match truthV v with | some b => .ok (.bool (!b)) σ | _ => .bad
  | .and l, ℓ, σ => evAnd l ℓ σ
  | .or l, ℓ, σ => evOr l ℓ σ
  | .cmp o a b, ℓ, σ => (evE a ℓ σ).bind fun va σ => (evE b ℓ σ).bind fun vb σ => (Out.ofOpt σ (cmpV P o va vb σ)).bind fun r σ => .ok (.bool r) σ
  | .cmp2 o p a b c, ℓ, σ => (evE a ℓ σ).bind fun va σ => (evE b ℓ σ).bind fun vb σ => (Out.ofOpt σ (cmpV P o va vb σ)).bind fun r σ =>
      if r then (evE c ℓ σ).bind fun vc σ => (Out.ofOpt σ (cmpV P p vb vc σ)).bind fun r σ => .ok (.bool r) σ else .ok (.bool false) σ
  | .call f as, ℓ, σ => (evE f ℓ σ).bind fun vf σ => (evEs as ℓ σ).bind fun vs σ => C vf vs σ
  | .sub o i, ℓ, σ => (evE o ℓ σ).bind fun vo σ => (evE i ℓ σ).bind fun vi σ => .ofOpt σ (subV P vo vi σ)
  | .list es, ℓ, σ => (evEs es ℓ σ).bind fun vs σ => .ok (.loc σ.length) (σ ++ [.list vs])
  | .tup es, ℓ, σ => (evEs es ℓ σ).bind fun vs σ => .ok (.tup vs) σ
noncomputable def evEs : List E → Loc → Store → Out (List V)
  | [], _, σ => .ok [] σ
  | e :: es, ℓ, σ => (evE e ℓ σ).bind fun v σ => (evEs es ℓ σ).bind fun vs σ => .ok (v :: vs) σ
noncomputable def evAnd : List E → Loc → Store → Out V
  | [], _, _ => .bad
  | [e], ℓ, σ => evE e ℓ σ
  | e :: es, ℓ, σ => (evE e ℓ σ).bind fun v σ => match truthV v with | some true => evAnd es ℓ σ | some false => .ok v σ | _ => .bad
noncomputable def evOr : List E → Loc → Store → Out V
  | [], _, _ => .bad
  | [e], ℓ, σ => evE e ℓ σ
  | e :: es, ℓ, σ => (evE e ℓ σ).bind fun v σ => match truthV v with | some true => .ok v σ | some false => evOr es ℓ σ | _ => .bad
end

noncomputable def evB (e : E) (ℓ : Loc) (σ : Store) : Out Bool := (evE P hd C e ℓ σ).bind fun v σ => .ofOpt σ (truthV v)

end

noncomputable def catches (P : Prog) (c d : Str) : Bool := match P.isa c (.cls d), P.glob d with
  | some true, some (.cls d') => d' == d
  | _, _ => false
noncomputable def asgT (P : Prog) (hd : Bool) (C : V → List V → Store → Out V) : AT → V → Loc → Store → SOut
  | .name i, v, ℓ, σ => .next (ℓ.set i (some v)) σ
section
variable (P : Prog) (C : Bool → V → List V → Store → Out V)
mutual
/-- hd: whether an exception is being handled (then nothing may be raised) -/
noncomputable def exS : S → Bool → Loc → Store → SOut
  | .asg t e, hd, ℓ, σ => (evE P hd (C hd) e ℓ σ).bindS ℓ fun v σ => asgT P hd (C hd) t v ℓ σ
  | .expr e, hd, ℓ, σ => (evE P hd (C hd) e ℓ σ).bindS ℓ fun _ σ => .next ℓ σ
  | .ret e, hd, ℓ, σ => (evE P hd (C hd) e ℓ σ).bindS ℓ fun v σ => .ret v σ
  | .ite c a b, hd, ℓ, σ => (evB P hd (C hd) c ℓ σ).bindS ℓ fun r σ => if r then exSs a hd ℓ σ else exSs b hd ℓ σ
  | .raise c _, hd, ℓ, σ => if hd then .bad else if P.exc c then .exc c ℓ σ else .bad
  | .try b d x h, hd, ℓ, σ => if hd then .bad else match exSs b false ℓ σ with
    | .exc c ℓ' σ' => if catches P c d then (match exSs h true (ℓ'.set x (some (.exc c))) σ' with
      | .ret v σ'' => .ret v σ''
      | _ => .bad) else .bad
    | .next ℓ' σ' => .next ℓ' σ'
    | .ret v σ' => .ret v σ'
    | _ => .bad
  | .pass, _, ℓ, σ => .next ℓ σ
  | .cont, _, ℓ, σ => .cont ℓ σ
noncomputable def exSs : List S → Bool → Loc → Store → SOut
  | [], _, ℓ, σ => .next ℓ σ
  | s :: ss, hd, ℓ, σ => (exS s hd ℓ σ).seq fun ℓ σ => exSs ss hd ℓ σ
end
end

noncomputable def runBody (P : Prog) (C : Bool → V → List V → Store → Out V) (d : FnD) (hd : Bool) (as : List V) (σ : Store) : Out V :=
  if as.length = d.np then
    match exSs P C d.body hd (as.map some ++ List.replicate (d.nl - d.np) .none) σ with
    | .next _ σ => .ok .none σ
    | .ret v σ => .ok v σ
    | .exc c _ σ => .exc c σ
    | _ => .bad
  else .bad

noncomputable def callN (P : Prog) : Nat → Bool → V → List V → Store → Out V
  | 0, _, _, _, _ => .bad
  | n + 1, hd, f, as, σ => match f with
    | .fn f => match P.fn f with
      | some d => runBody P (callN P n) d hd as σ
      | .none => .bad
    | .bi b => prim P hd b as σ
    | _ => .bad

end Mine
end

section
set_option maxRecDepth 100000
namespace Mine
open PySem
set_option linter.unusedVariables false

/-! ### compiling the row's AST -/
noncomputable def kindIdx (sc : Scope) (x : Str) : Option (Nat × NameKind) :=
  (sc.names.findIdx? (fun p => p.1 == x)).bind fun i => (sc.names[i]?).map fun p => (i, p.2)
noncomputable def badName (x : Str) : Bool := x == "__debug__" || x == "__classdict__"
noncomputable def cVar (sc : Scope) (x : Str) : Option Nat := if badName x then .none else match kindIdx sc x with
  | some (i, .local) => some i
  | some (i, .cell) => some i
  | some (i, .free) => some i
  | _ => .none
/-- a name that is stored -/
noncomputable def cTo (sc : Scope) (x : Str) : Option Nat := if badName x then .none else match kindIdx sc x with
  | some (i, .local) => some i
  | some (i, .cell) => some i
  | _ => .none
noncomputable def isGlob (sc : Scope) (x : Str) : Bool := !badName x && match kindIdx sc x with
  | some (_, .globalImplicit) => true
  | _ => false
noncomputable def cName (sc : Scope) (x : Str) : Option E := match cVar sc x with
  | some i => some (.var i)
  | .none => if isGlob sc x then some (.glob x) else .none
noncomputable def cBop : Operator → Option Bop
  | .Add => some .add | .Sub => some .sub | .Mult => some .mul | .FloorDiv => some .fdiv | .Mod => some .mod | .Pow => some .pow
  | _ => .none
noncomputable def cCop : CmpOp → Cop
  | .Lt => .lt | .LtE => .le | .Gt => .gt | .GtE => .ge | .Eq => .eq | .NotEq => .ne | .Is => .is | .IsNot => .isnot | .In => .isin | .NotIn => .notin
noncomputable def isNil {α : Type} : List α → Bool
  | [] => true
  | _ => false
noncomputable def cUn (op : UnaryOp) (a : E) : Option E := match op with
  | .USub => some (.neg a)
  | .Not => some (.not a)
  | _ => .none
noncomputable def cBool (op : BoolOp) (l : List E) : E := match op with
  | .And => .and l
  | .Or => .or l
noncomputable def isSliceE : Expr → Bool
  | .Slice .. => true
  | _ => false

mutual
noncomputable def cE (sc : Scope) : Expr → Option E
  | .Constant c _ _ => match c with
    | .int i => some (.int i)
    | .str s => some (.str s.cps.toList)
    | .bool b => some (.bool b)
    | .none => some .none
    | _ => .none
  | .Name x _ => cName sc x
  | .BinOp l op r _ => (cBop op).bind fun o => (cE sc l).bind fun a => (cE sc r).bind fun b => some (.bin o a b)
  | .UnaryOp op x _ => (cE sc x).bind fun a => cUn op a
  | .BoolOp op vs _ => (cEs sc vs).bind fun l => if isNil l then .none else some (cBool op l)
  | .Compare l ops cs _ => (cE sc l).bind fun a => (cEs sc cs).bind fun bs => match ops, bs with
    | [o], [b] => some (.cmp (cCop o) a b)
    | [o, p], [b, c] => some (.cmp2 (cCop o) (cCop p) a b c)
    | _, _ => .none
  | .Call (.Name x _) as ks _ => if isNil ks && isGlob sc x && x != "super" && decide (as.length < 29) then (cEs sc as).bind fun as' => some (.call (.glob x) as') else .none
  | .Subscript o i _ => if isSliceE i then .none else (cE sc o).bind fun o' => (cE sc i).bind fun i' => some (.sub o' i')
  | .List es _ => if es.length ≤ 1000 then (cEs sc es).map .list else .none
  | .Tuple es _ _ => if es.length ≤ 1000 then (cEs sc es).map .tup else .none
  | _ => .none
noncomputable def cEs (sc : Scope) : List Expr → Option (List E)
  | [] => some []
  | e :: es => (cE sc e).bind fun a => (cEs sc es).map (a :: ·)
end

noncomputable def cAT (sc : Scope) : Expr → Option AT
  | .Name x _ => (cTo sc x).map .name
  | _ => .none
noncomputable def isTupE : Expr → Bool
  | .Tuple .. => true
  | .List .. => true
  | _ => false
/-- an assignment whose stores the compiler may exchange is let by only for a plain local name -/
noncomputable def asgOk (sc : Scope) (t v : Expr) : Bool := !(isTupE t && isTupE v)

noncomputable def cRaise (sc : Scope) : Option Expr → Option Expr → Option (Str × List Nat)
  | some (.Call (.Name c _) as ks _), .none => match as, ks with
    | [.Constant (.str m) _ _], [] => if isGlob sc c then some (c, m.cps.toList) else .none
    | _, _ => .none
  | _, _ => .none

mutual
noncomputable def cS (sc : Scope) : Stmt → Option S
  | .Assign ts v _ => match ts with
    | [t] => if asgOk sc t v then (cAT sc t).bind fun t' => (cE sc v).bind fun v' => some (.asg t' v') else .none
    | _ => .none
  | .Expr v _ => (cE sc v).map .expr
  | .Return v _ => match v with | some v => (cE sc v).map .ret | .none => .none
  | .If c a b _ => (cE sc c).bind fun c' => (cSs sc a).bind fun a' => (cSs sc b).bind fun b' => some (.ite c' a' b')
  | .Raise e c _ => (cRaise sc e c).map fun r => .raise r.1 r.2
  | .Try b hs o f _ => if isNil o && isNil f then (cSs sc b).bind fun b' => cHs sc hs b' else .none
  | .Pass _ => some .pass
  | .Continue _ => some .cont
  | _ => .none
noncomputable def cHs (sc : Scope) : List ExceptHandler → List S → Option S
  | [], _ => .none
  | h :: hs, b' => if isNil hs then cH sc h b' else .none
noncomputable def cH (sc : Scope) : ExceptHandler → List S → Option S
  | .ExceptHandler ty name b _, b' => (cSs sc b).bind fun h' => match ty, name with
    | some (.Name d _), some x => if isGlob sc d && !isNil b then (match kindIdx sc x with
        | some (i, .local) => if badName x then .none else some (.try b' d i h')
        | _ => .none) else .none
    | _, _ => .none
noncomputable def cSs (sc : Scope) : List Stmt → Option (List S)
  | [] => some []
  | s :: ss => (cS sc s).bind fun a => (cSs sc ss).map (a :: ·)
end

/-- a def: plain parameters, standing first in its scope -/
noncomputable def cFn (params : Arguments) (sc : Scope) (body : List Stmt) : Option FnD :=
  if isNil params.posonlyargs && isNil params.kwonlyargs && params.vararg.isNone && params.kwarg.isNone && isNil params.defaults &&
    sc.kind == .function && !sc.isGenerator && !sc.isCoroutine && (sc.names.take params.args.length).map (·.1) == params.args.map (·.arg) &&
    ((sc.names.take params.args.length).all fun p => p.2 == .local) && (sc.names.all fun p => p.2 == .local || p.2 == .globalImplicit) && decide (sc.names.map (·.1)).Nodup
  then (cSs sc body).map fun b => ⟨params.args.length, sc.names.length, b⟩ else .none
end Mine
end

section
set_option maxRecDepth 100000
set_option linter.unusedVariables false
namespace Mine
open PySem PySem.W PySem.Calls PyProof.Rows

abbrev Rho := List (Addr × Addr)
structure Cx where
  P : Prog
  al : Str → Option Addr
  scr : Addr
  prog : Program
  w : World
  os : OsState

/-! ### how abstract values are borne -/
mutual
inductive Rv (X : Cx) (ρ : Rho) (h : Heap) : V → Value → Prop
  | none : Rv X ρ h .none .none
  | bool (b : Bool) : Rv X ρ h (.bool b) (.bool b)
  | int (i : Int) (t : Tok) : Rv X ρ h (.int i) (.int i t)
  | str (s : Str) (t : Tok) : Rv X ρ h (.str s.cps.toList) (.str s t)
  | tup {l : List V} {a : Addr} {items : List Value} (o : Obj) (n : Nat) (ho : h.get? a = some o) (hc : o.cls = .type "tuple") (hd : o.data = .seq items.toArray n) (hl : RvL X ρ h l items) : Rv X ρ h (.tup l) (.ref a)
  | loc {n : Nat} {p : Addr × Addr} (hp : ρ[n]? = some p) : Rv X ρ h (.loc n) (.ref p.1)
  | script : Rv X ρ h .script (.ref X.scr)
  | fn {f : Str} {a : Addr} (ha : X.al f = some a) : Rv X ρ h (.fn f) (.ref a)
  | cls {c : Str} {a : Addr} (ha : X.al c = some a) : Rv X ρ h (.cls c) (.ref a)
  | bi (b : String) : Rv X ρ h (.bi b) (.builtin b)
  | ty (t : String) : Rv X ρ h (.ty t) (.type t)
  | exc {c : Str} {a C : Addr} (o : Obj) (vs : Array Value) (ha : X.al c = some C) (ho : h.get? a = some o) (hc : o.cls = .ref C) (hd : o.data = .fields vs) : Rv X ρ h (.exc c) (.ref a)
inductive RvL (X : Cx) (ρ : Rho) (h : Heap) : List V → List Value → Prop
  | nil : RvL X ρ h [] []
  | cons {v : V} {x : Value} {vs : List V} {xs : List Value} (hv : Rv X ρ h v x) (hl : RvL X ρ h vs xs) : RvL X ρ h (v :: vs) (x :: xs)
end

/-- what every step keeps: a tuple stays, a record of an own class stays one, what is no record stays none, a name space stays one -/
noncomputable def Fz1 (o : Obj) (h' : Heap) (a : Addr) : Prop := (o.cls = .type "tuple" → (∃ items n, o.data = .seq items n) → ∃ o', h'.get? a = some o' ∧ o'.cls = o.cls ∧ o'.data = o.data) ∧
  (∀ C vs, o.cls = .ref C → o.data = .fields vs → ∃ o' vs', h'.get? a = some o' ∧ o'.cls = o.cls ∧ o'.data = .fields vs') ∧ ((∀ vs, o.data ≠ .fields vs) → ∃ o', h'.get? a = some o' ∧ ∀ vs, o'.data ≠ .fields vs) ∧
  (∀ es ep, o.data = .dict es ep → ∃ o' es' ep', h'.get? a = some o' ∧ o'.data = .dict es' ep')
noncomputable def Fz (h h' : Heap) : Prop := ∀ a o, h.get? a = some o → Fz1 o h' a
theorem Fz.trans {h₁ h₂ h₃ : Heap} (x : Fz h₁ h₂) (y : Fz h₂ h₃) : Fz h₁ h₃ := fun a o e => by
  obtain ⟨t₂, f₂, g₂, d₂⟩ := x a o e
  refine ⟨fun ht hs => ?_, fun C vs hc hv => ?_, fun z => ?_, fun es ep z => ?_⟩
  · obtain ⟨o₂, e₂, c2, d2⟩ := t₂ ht hs
    obtain ⟨o₃, e₃, c3, d3⟩ := (y a o₂ e₂).1 (c2.trans ht) (by rw [d2]; exact hs)
    exact ⟨o₃, e₃, c3.trans c2, d3.trans d2⟩
  · obtain ⟨o₂, vs', e₂, c2, hv'⟩ := f₂ C vs hc hv
    obtain ⟨o₃, vs'', e₃, c3, r⟩ := (y a o₂ e₂).2.1 C vs' (c2.trans hc) hv'
    exact ⟨o₃, vs'', e₃, c3.trans c2, r⟩
  · obtain ⟨o₂, e₂, z₂⟩ := g₂ z
    exact (y a o₂ e₂).2.2.1 z₂
  · obtain ⟨o₂, es', ep', e₂, z₂⟩ := d₂ es ep z
    exact (y a o₂ e₂).2.2.2 _ _ z₂
theorem Fz.keep1 {h' : Heap} {a : Addr} {o : Obj} (e : h'.get? a = some o) : Fz1 o h' a :=
  ⟨fun _ _ => ⟨o, e, rfl, rfl⟩, fun _ vs _ hv => ⟨o, vs, e, rfl, hv⟩, fun z => ⟨o, e, z⟩, fun es ep z => ⟨o, es, ep, e, z⟩⟩
theorem Fz.of_keeps {h h' : Heap} (k : ∀ b o, h.get? b = some o → h'.get? b = some o) : Fz h h' := fun a o e => Fz.keep1 (k a o e)
theorem Fz.refl (h : Heap) : Fz h h := .of_keeps fun _ _ e => e
theorem Fz.funFrames {h h' B : Heap} (x : Fz h h') : ∀ {l : List Env}, h.FunFrames B l → h'.FunFrames B l
  | [], _ => trivial
  | _ :: _, ⟨hk, ⟨L, o, hf, hn, ho, hd⟩, hr⟩ => by
    obtain ⟨o', e, g⟩ := (x L o ho).2.2.1 hd
    exact ⟨hk, ⟨L, o', hf, hn, e, g⟩, x.funFrames hr⟩
/-- one object changes, no tuple and no record -/
theorem Fz.but {h h' : Heap} {a : Addr} {o o' : Obj} (hs : ∀ b ob, b ≠ a → h.get? b = some ob → h'.get? b = some ob) (ho : h.get? a = some o) (ho' : h'.get? a = some o') (ht : o.cls = .type "tuple" → ∀ items n, o.data ≠ .seq items n) (hn : ∀ vs, o.data ≠ .fields vs) (hn' : ∀ vs, o'.data ≠ .fields vs)
    (hdd : ∀ es ep, o.data = .dict es ep → ∃ es' ep', o'.data = .dict es' ep') : Fz h h' := fun b ob e => by
  by_cases q : b = a
  · subst q
    rw [ho] at e; cases e
    exact ⟨fun t ⟨i, n, z⟩ => absurd z (ht t i n), fun _ vs _ e => absurd e (hn vs), fun _ => ⟨o', ho', hn'⟩, fun es ep z => let ⟨es', ep', w⟩ := hdd es ep z; ⟨o', es', ep', ho', w⟩⟩
  · exact Fz.keep1 (hs b ob q e)
/-- a record of a built-in class changes, or goes -/
theorem Fz.rec {h h' : Heap} {a : Addr} {o : Obj} {T : String} {vs : Array Value} (hs : ∀ b ob, b ≠ a → h.get? b = some ob → h'.get? b = some ob) (ho : h.get? a = some o) (hc : o.cls = .type T) (hd : o.data = .fields vs) : Fz h h' := fun b ob e => by
  by_cases q : b = a
  · subst q
    rw [ho] at e; cases e
    exact ⟨(fun _ ⟨i, n, z⟩ => by rw [hd] at z; cases z), (fun _ _ z _ => by rw [hc] at z; cases z), (fun z => absurd hd (z vs)), (fun _ _ z => by rw [hd] at z; cases z)⟩
  · exact Fz.keep1 (hs b ob q e)
theorem Fz.push (h : Heap) (o : Obj) : Fz h (h.push o) := .of_keeps fun _ _ e => Heap.get?_push_of_some o e

noncomputable def Rle (ρ ρ' : Rho) : Prop := ∀ (n : Nat) (p : Addr × Addr), ρ[n]? = some p → ρ'[n]? = some p
theorem Rle.refl (ρ : Rho) : Rle ρ ρ := fun _ _ e => e
theorem Rle.trans {a b c : Rho} (x : Rle a b) (y : Rle b c) : Rle a c := fun n p e => y n p (x n p e)
theorem Rle.append (ρ l : Rho) : Rle ρ (ρ ++ l) := fun n p e => by
  obtain ⟨h, e⟩ := List.getElem?_eq_some_iff.mp e
  rw [List.getElem?_append_left h, List.getElem?_eq_getElem h, e]

mutual
theorem Rv.mono {X : Cx} {ρ ρ' : Rho} {h h' : Heap} (hr : Rle ρ ρ') (hf : Fz h h') : ∀ {v : V} {x : Value}, Rv X ρ h v x → Rv X ρ' h' v x
  | _, _, .none => .none
  | _, _, .bool b => .bool b
  | _, _, .int i t => .int i t
  | _, _, .str s t => .str s t
  | _, _, .tup o n ho hc hd hl => by
    obtain ⟨o', e, c, d⟩ := (hf _ o ho).1 hc ⟨_, _, hd⟩
    exact .tup o' n e (c.trans hc) (d.trans hd) (RvL.mono hr hf hl)
  | _, _, .loc hp => .loc (hr _ _ hp)
  | _, _, .script => .script
  | _, _, .fn ha => .fn ha
  | _, _, .cls ha => .cls ha
  | _, _, .bi b => .bi b
  | _, _, .ty t => .ty t
  | _, _, .exc o vs ha ho hc hd => by
    obtain ⟨o', vs', e, c, hv⟩ := (hf _ o ho).2.1 _ vs hc hd
    exact .exc o' vs' ha e (c.trans hc) hv
theorem RvL.mono {X : Cx} {ρ ρ' : Rho} {h h' : Heap} (hr : Rle ρ ρ') (hf : Fz h h') : ∀ {v : List V} {x : List Value}, RvL X ρ h v x → RvL X ρ' h' v x
  | _, _, .nil => .nil
  | _, _, .cons hv hl => .cons (Rv.mono hr hf hv) (RvL.mono hr hf hl)
end

theorem RvL.length {X : Cx} {ρ : Rho} {h : Heap} : ∀ {l : List V} {xs : List Value}, RvL X ρ h l xs → l.length = xs.length
  | _, _, .nil => rfl
  | _, _, .cons _ hl => by simp [hl.length]
theorem RvL.get {X : Cx} {ρ : Rho} {h : Heap} : ∀ {l : List V} {xs : List Value}, RvL X ρ h l xs → ∀ {i : Nat} {v : V}, l[i]? = some v → ∃ x, xs[i]? = some x ∧ Rv X ρ h v x
  | _, _, .nil, i, v, e => by simp at e
  | _, _, .cons hv hl, 0, v, e => by simp at e; subst e; exact ⟨_, rfl, hv⟩
  | _, _, .cons hv hl, i + 1, v, e => by
    simp at e
    obtain ⟨x, e1, e2⟩ := hl.get e
    exact ⟨x, by simpa using e1, e2⟩
theorem RvL.append {X : Cx} {ρ : Rho} {h : Heap} : ∀ {l : List V} {xs : List Value}, RvL X ρ h l xs → ∀ {l' : List V} {xs' : List Value}, RvL X ρ h l' xs' → RvL X ρ h (l ++ l') (xs ++ xs')
  | _, _, .nil, _, _, r => r
  | _, _, .cons hv hl, _, _, r => .cons hv (hl.append r)
theorem RvL.take {X : Cx} {ρ : Rho} {h : Heap} : ∀ (k : Nat) {l : List V} {xs : List Value}, RvL X ρ h l xs → RvL X ρ h (l.take k) (xs.take k)
  | 0, _, _, _ => by simpa using .nil
  | k + 1, _, _, .nil => by simpa using .nil
  | k + 1, _, _, .cons hv hl => by simpa using .cons hv (hl.take k)
theorem RvL.drop {X : Cx} {ρ : Rho} {h : Heap} : ∀ (k : Nat) {l : List V} {xs : List Value}, RvL X ρ h l xs → RvL X ρ h (l.drop k) (xs.drop k)
  | 0, _, _, r => by simpa using r
  | k + 1, _, _, .nil => by simpa using .nil
  | k + 1, _, _, .cons hv hl => by simpa using hl.drop k
theorem RvL.reverse {X : Cx} {ρ : Rho} {h : Heap} : ∀ {l : List V} {xs : List Value}, RvL X ρ h l xs → RvL X ρ h l.reverse xs.reverse
  | _, _, .nil => .nil
  | _, _, .cons hv hl => by simpa using hl.reverse.append (.cons hv .nil)
theorem RvL.set {X : Cx} {ρ : Rho} {h : Heap} {v : V} {x : Value} (hv' : Rv X ρ h v x) : ∀ (k : Nat) {l : List V} {xs : List Value}, RvL X ρ h l xs → RvL X ρ h (l.set k v) (xs.set k x)
  | _, _, _, .nil => by simpa using .nil
  | 0, _, _, .cons hv hl => by simpa using .cons hv' hl
  | k + 1, _, _, .cons hv hl => by simpa using .cons hv (hl.set hv' k)

/-! ### cells -/
noncomputable def CellOk (X : Cx) (ρ : Rho) (h : Heap) (p : Addr × Addr) : Cell → Prop
  | .list l => p.2 = p.1 ∧ ∃ o n items, h.get? p.1 = some o ∧ o.cls = .type "list" ∧ o.data = .seq (List.toArray items) n ∧ RvL X ρ h l items ∧ o.dict = none ∧ o.slots = #[]

theorem CellOk.mono {X : Cx} {ρ ρ' : Rho} {h h' : Heap} (hr : Rle ρ ρ') (hf : Fz h h') {p : Addr × Addr} {c : Cell} (h1 : ∀ o, h.get? p.1 = some o → h'.get? p.1 = some o) (h2 : ∀ o, h.get? p.2 = some o → h'.get? p.2 = some o)
    (x : CellOk X ρ h p c) : CellOk X ρ' h' p c := by
  cases c with
  | list l => obtain ⟨q, o, n, items, a, b, c, d, e⟩ := x; exact ⟨q, o, n, items, h1 _ a, b, c, d.mono hr hf, e⟩
end Mine
end

section
set_option maxRecDepth 100000
set_option linter.unusedVariables false
namespace Mine
open PySem PySem.W PySem.Calls PyProof.Rows

/-- what stands at the law's entry -/
structure Cy extends Cx where
  G0 : Heap

abbrev frs (stk : List Env) : List Addr := stk.filterMap (·.frame)

noncomputable def KeepG (stk : List Env) (G h : Heap) : Prop := ∀ b o, G.get? b = some o → ∃ sl, h.get? b = some { o with slots := sl } ∧ (b ∉ frs stk → sl = o.slots)

/-- an object that is a cell -/
abbrev isC (o : Obj) : Prop := ∃ y, o.data = .cell y

/-- how a frame bears its names -/
structure FrOk (X : Cx) (ρ : Rho) (h : Heap) (env : Env) (ℓ : Loc) : Prop where
  kind : env.scope.kind = .function
  gl : env.globals = mainGlobals
  bl : env.builtins = builtinsNs
  len : ℓ.length = env.scope.names.length
  nd : (env.scope.names.map (·.1)).Nodup
  ns : ∃ m, h.Ns env.locals m ∧ ∀ (i : Nat) (v : V) (x : Str), ℓ[i]? = some (some v) → env.scope.names[i]? = some (x, .local) → ∃ y, m x = some y ∧ Rv X ρ h v y
  cl : ∀ (i : Nat) (x : Str) (k : NameKind), env.scope.names[i]? = some (x, k) → k = .cell ∨ k = .free → ∃ c o y, env.cells.lookup x = some c ∧ h.get? c = some o ∧ isC o ∧ o.data = .cell y ∧
    ∀ v, ℓ[i]? = some (some v) → ∃ z, y = some z ∧ Rv X ρ h v z

/-- the frames are name spaces -/
noncomputable def FrD (h : Heap) (stk : List Env) : Prop := ∀ b ∈ frs stk, ∃ o es ep, h.get? b = some o ∧ o.data = .dict es ep
theorem Fz.frD {h h' : Heap} {stk : List Env} (x : Fz h h') (d : FrD h stk) : FrD h' stk := fun b hb => by
  obtain ⟨o, es, ep, e, z⟩ := d b hb
  exact (x b o e).2.2.2 es ep z

structure Inv (X : Cy) (G : Heap) (stk : List Env) (env : Env) (ℓ : Loc) (σ : Store) (ρ : Rho) (s : Shared) : Prop where
  keep : KeepG stk G s.heap
  base : ∀ b o, X.G0.get? b = some o → G.get? b = some o
  ff : s.heap.FunFrames X.G0 stk
  fd : FrD s.heap stk
  fr : FrOk X.toCx ρ s.heap env ℓ
  ownL : G.get? env.locals = none ∧ ∀ (n : Nat) p, ρ[n]? = some p → p.1 ≠ env.locals ∧ p.2 ≠ env.locals
  ownC : env.func.isSome = true → ∀ x c, env.cells.lookup x = some c → G.get? c = none ∧ c ≠ env.locals ∧ ∀ y, env.cells.lookup y = some c → y = x
  len : ρ.length = σ.length
  cells : ∀ (n : Nat) c p, σ[n]? = some c → ρ[n]? = some p → CellOk X.toCx ρ s.heap p c
  sep : ∀ (n m : Nat) p q, ρ[n]? = some p → ρ[m]? = some q → n ≠ m → p.1 ≠ q.1 ∧ p.1 ≠ q.2 ∧ p.2 ≠ q.1 ∧ p.2 ≠ q.2
  fresh : ∀ (n : Nat) p, ρ[n]? = some p → G.get? p.1 = none ∧ G.get? p.2 = none
  gens : s.gens = #[]
  os : s.os = X.os

theorem Inv.frBase {X : Cy} {G : Heap} {stk : List Env} {env : Env} {ℓ : Loc} {σ : Store} {ρ : Rho} {s : Shared} (I : Inv X G stk env ℓ σ ρ s) {b : Addr} {o : Obj} (e : X.G0.get? b = some o) : s.heap.get? b = some o := by
  obtain ⟨sl, e1, e2⟩ := I.keep b o (I.base b o e)
  have : b ∉ frs stk := fun hm => by rw [(I.ff.mem hm).1] at e; cases e
  rw [e2 this] at e1
  exact e1

/-- an exception on its way (f: the frame that it passes) -/
structure Fly (X : Cy) (G : Heap) (f : Addr) (c : Str) (e : Value) (h : Heap) : Prop where
  at_ : ∃ ea C oe vs, e = .ref ea ∧ X.al c = some C ∧ h.get? ea = some oe ∧ oe.cls = .ref C ∧ oe.data = .fields vs ∧ G.get? ea = none ∧
    (vs[1]? = some .none ∨ ∃ T oT ts, vs[1]? = some (.ref T) ∧ T ≠ ea ∧ G.get? T = none ∧ h.get? T = some oT ∧ oT.data = .fields ts ∧ ts[3]? = some .none)

noncomputable def AOk (A : Around) (stk : List Env) (hd : Bool) (D U : Nat) : Prop := A.frames = some stk ∧ A.depth ≤ D ∧ A.units ≤ U ∧ (hd = false → A.handled = none)

section
variable (X : Cy) (A : Around) (G : Heap) (stk : List Env) (env : Env) (ℓ : Loc)
/-- where a step may end -/
noncomputable def Qok {α β : Type} (RR : α → β → Rho → Heap → Prop) (o : Out α) (ρ : Rho) (s : Shared) (b : β) (s' : Shared) : Prop :=
  ∃ a σ' ρ', o = .ok a σ' ∧ Rle ρ ρ' ∧ Fz s.heap s'.heap ∧ Inv X G stk env ℓ σ' ρ' s' ∧ RR a b ρ' s'.heap
noncomputable def Qex {α : Type} (o : Out α) (ρ : Rho) (s : Shared) (e : Value) (s' : Shared) : Prop :=
  ∃ c σ' ρ', o = .exc c σ' ∧ Rle ρ ρ' ∧ Fz s.heap s'.heap ∧ Inv X G stk env ℓ σ' ρ' s' ∧ ∀ f, env.frame = some f → Fly X G f c e s'.heap
noncomputable def Snd {α β : Type} (R : Rho → Heap → Prop) (RR : α → β → Rho → Heap → Prop) (t : Sem β) (m : Store → Out α) : Prop :=
  ∀ σ ρ s, Inv X G stk env ℓ σ ρ s → R ρ s.heap → m σ ≠ .bad → wpAny (model X.prog X.w) A t (Qok X G stk env ℓ RR (m σ) ρ s) (Qex X G stk env ℓ (m σ) ρ s) s
end

noncomputable def HMono (R : Rho → Heap → Prop) : Prop := ∀ ρ ρ' h h', Rle ρ ρ' → Fz h h' → R ρ h → R ρ' h'
noncomputable def rV (X : Cy) : V → Value → Rho → Heap → Prop := fun v x ρ h => Rv X.toCx ρ h v x
noncomputable def rL (X : Cy) : List V → List Value → Rho → Heap → Prop := fun v x ρ h => RvL X.toCx ρ h v x
noncomputable def rEq {α : Type} : α → α → Rho → Heap → Prop := fun a b _ _ => a = b
noncomputable def rT {α β : Type} : α → β → Rho → Heap → Prop := fun _ _ _ _ => True
noncomputable def rO (X : Cy) : Option V → Value → Rho → Heap → Prop := fun v x ρ h => match v with | some v => Rv X.toCx ρ h v x | .none => x = .none
theorem rV_mono (X : Cy) (v : V) (x : Value) : HMono (rV X v x) := fun _ _ _ _ a b c => Rv.mono a b c
theorem rL_mono (X : Cy) (v : List V) (x : List Value) : HMono (rL X v x) := fun _ _ _ _ a b c => RvL.mono a b c
theorem rO_mono (X : Cy) (v : Option V) (x : Value) : HMono (rO X v x) := fun _ _ _ _ a b c => by
  cases v with
  | none => exact c
  | some v => exact Rv.mono a b c
theorem rEq_mono {α : Type} (a b : α) : HMono (rEq a b) := fun _ _ _ _ _ _ c => c
theorem hTrue : HMono fun _ _ => True := fun _ _ _ _ _ _ c => c
theorem HMono.and {R S : Rho → Heap → Prop} (a : HMono R) (b : HMono S) : HMono fun ρ h => R ρ h ∧ S ρ h := fun _ _ _ _ x y z => ⟨a _ _ _ _ x y z.1, b _ _ _ _ x y z.2⟩

section
variable {X : Cy} {A : Around} {G : Heap} {stk : List Env} {env : Env} {ℓ : Loc} {α β γ δ : Type} {R : Rho → Heap → Prop}

theorem Snd.bind {RR : α → β → Rho → Heap → Prop} {RS : γ → δ → Rho → Heap → Prop} {t : Sem β} {m : Store → Out α} {k : β → Sem δ} {f : α → Store → Out γ} (hR : HMono R)
    (h1 : Snd X A G stk env ℓ R RR t m) (h2 : ∀ a b, Snd X A G stk env ℓ (fun ρ h => R ρ h ∧ RR a b ρ h) RS (k b) (f a)) :
    Snd X A G stk env ℓ R RS (t >>= k) (fun σ => (m σ).bind f) := by
  intro σ ρ s I hr hb
  have hb' : m σ ≠ .bad := fun q => hb (by simp only [q, Out.bind])
  refine wpAny_bind (wpAny_mono (h1 σ ρ s I hr hb') ?_ ?_)
  · intro b s' ⟨a, σ', ρ', e, le, fz, I', rr⟩
    have e2 : (m σ).bind f = f a σ' := by rw [e]; rfl
    simp only [e2] at hb ⊢
    refine wpAny_mono (h2 a b σ' ρ' s' I' ⟨hR _ _ _ _ le fz hr, rr⟩ hb) ?_ ?_
    · intro d s'' ⟨c, σ'', ρ'', e', le', fz', I'', rs⟩
      exact ⟨c, σ'', ρ'', e', le.trans le', fz.trans fz', I'', rs⟩
    · intro e s'' ⟨c, σ'', ρ'', e', le', fz', I'', fl⟩
      exact ⟨c, σ'', ρ'', e', le.trans le', fz.trans fz', I'', fl⟩
  · intro e s' ⟨c, σ', ρ', e', le, fz, I', fl⟩
    refine ⟨c, σ', ρ', ?_, le, fz, I', fl⟩
    simp only [e', Out.bind]

theorem Snd.mono {RR RS : α → β → Rho → Heap → Prop} {t : Sem β} {m : Store → Out α} {S : Rho → Heap → Prop} (h : Snd X A G stk env ℓ R RR t m) (hR : ∀ ρ h, S ρ h → R ρ h) (hS : ∀ a b ρ h, RR a b ρ h → RS a b ρ h) :
    Snd X A G stk env ℓ S RS t m := fun σ ρ s I hr hb => wpAny_mono (h σ ρ s I (hR _ _ hr) hb)
      (fun b s' ⟨a, σ', ρ', e, le, fz, I', rr⟩ => ⟨a, σ', ρ', e, le, fz, I', hS _ _ _ _ rr⟩) fun _ _ x => x

theorem Snd.pure {RR : α → β → Rho → Heap → Prop} {a : α} {b : β} (h : ∀ ρ h, R ρ h → RR a b ρ h) : Snd X A G stk env ℓ R RR (Pure.pure b) (fun σ => .ok a σ) :=
  fun σ ρ s I hr _ => wpAny_pure ⟨a, σ, ρ, rfl, Rle.refl _, Fz.refl _, I, h _ _ hr⟩
theorem Snd.bad {RR : α → β → Rho → Heap → Prop} {t : Sem β} : Snd X A G stk env ℓ R RR t (fun _ => .bad) := fun _ _ _ _ _ h => absurd rfl h
theorem Snd.holding {RR : α → β → Rho → Heap → Prop} {t : Sem β} {m : Store → Out α} {vs : List Value} (h : Snd X A G stk env ℓ R RR t m) : Snd X A G stk env ℓ R RR (PySem.holding vs t) m :=
  fun σ ρ s I hr hb => wpAny_holding (h σ ρ s I hr hb)
/-- a step of the model that has no counterpart -/
theorem Snd.skip {RR : α → β → Rho → Heap → Prop} {t : Sem γ} {k : γ → Sem β} {m : Store → Out α} {c : γ} (ht : ∀ (Q : γ → Shared → Prop) (E : Value → Shared → Prop) (s : Shared), Q c s → wpAny (model X.prog X.w) A t Q E s)
    (h : Snd X A G stk env ℓ R RR (k c) m) : Snd X A G stk env ℓ R RR (t >>= k) m := fun σ ρ s I hr hb => wpAny_bind (ht _ _ _ (h σ ρ s I hr hb))
theorem Snd.at {RR : α → β → Rho → Heap → Prop} {pos : Pos} {k : Unit → Sem β} {m : Store → Out α} (h : Snd X A G stk env ℓ R RR (k ()) m) : Snd X A G stk env ℓ R RR (standAt pos >>= k) m :=
  Snd.skip (fun _ _ _ q => wpAny_standAt q) h
theorem wpAny_point' {M : Model} {A : Around} {Q : Unit → Shared → Prop} {E : Value → Shared → Prop} {s : Shared} (h : Q () s) : wpAny M A point Q E s := fun _ _ _ => h

theorem wpAny_release {M : Model} {A : Around} {vs keep : List Value} {Q : Unit → Shared → Prop} {E : Value → Shared → Prop} {s : Shared} (h : Q () s) : wpAny M A (release vs keep) Q E s := by
  unfold release
  generalize (vs.filter fun | .ref _ => true | _ => false) = l
  have : ∀ l, wpAny M A (release.go keep l) Q E s := by
    intro l
    induction l with
    | nil => exact wpAny_pure h
    | cons a r ih =>
      cases r with
      | nil => exact wpAny_pure h
      | cons b r => exact wpAny_bind (wpAny_holding (wpAny_point' ih))
  exact this l
theorem Snd.operate {RR : α → Value → Rho → Heap → Prop} {t : Sem Value} {m : Store → Out α} {vs : List Value} (h : Snd X A G stk env ℓ R RR t m) : Snd X A G stk env ℓ R RR (PySem.operate vs t) m :=
  fun σ ρ s I hr hb => by
    unfold PySem.operate
    refine wpAny_bind (wpAny_mono (wpAny_holding (h σ ρ s I hr hb)) (fun b s' q => wpAny_bind (wpAny_release (wpAny_pure q))) fun _ _ x => x)
end
end Mine
end

section
set_option maxRecDepth 100000
set_option linter.unusedVariables false
namespace Mine
open PySem PySem.W PySem.Calls PyProof.Rows

theorem ns_data {h h' : Heap} {a : Addr} {m : Str → Option Value} (hn : h.Ns a m) (k : ∀ o, h.get? a = some o → ∃ o', h'.get? a = some o' ∧ o'.data = o.data) : h'.Ns a m := by
  obtain ⟨o, es, ep, ho, hd, r⟩ := hn
  obtain ⟨o', e, d⟩ := k o ho
  exact ⟨o', es, ep, e, d.trans hd, r⟩
theorem ns_at {h : Heap} {a : Addr} {m : Str → Option Value} (hn : h.Ns a m) : ∃ o, h.get? a = some o ∧ ∀ vs, o.data ≠ .fields vs := by
  obtain ⟨o, es, ep, ho, hd, r⟩ := hn
  exact ⟨o, ho, fun vs q => by rw [hd] at q; cases q⟩

theorem FrOk.mono {X : Cx} {ρ ρ' : Rho} {h h' : Heap} {env : Env} {ℓ : Loc} (F : FrOk X ρ h env ℓ) (le : Rle ρ ρ') (fz : Fz h h')
    (hL : ∀ o, h.get? env.locals = some o → ∃ o', h'.get? env.locals = some o' ∧ o'.data = o.data)
    (hC : ∀ x c, env.cells.lookup x = some c → ∀ o, h.get? c = some o → isC o → (∃ y, o.data = .cell y) → ∃ o', h'.get? c = some o' ∧ o'.cls = o.cls ∧ o'.data = o.data) : FrOk X ρ' h' env ℓ := by
  obtain ⟨k, g, b, ln, nd, ⟨m, hm, hr⟩, hc⟩ := F
  refine ⟨k, g, b, ln, nd, ⟨m, ns_data hm hL, fun i v x e1 e2 => ?_⟩, fun i x k e1 e2 => ?_⟩
  · obtain ⟨y, a, r⟩ := hr i v x e1 e2; exact ⟨y, a, r.mono le fz⟩
  · obtain ⟨c, o, y, a1, a2, a3, a4, a5⟩ := hc i x k e1 e2
    obtain ⟨o', b1, b2, b3⟩ := hC x c a1 o a2 a3 ⟨y, a4⟩
    refine ⟨c, o', y, a1, b1, ⟨y, b3.trans a4⟩, b3.trans a4, fun v hv => ?_⟩
    obtain ⟨z, r1, r2⟩ := a5 v hv
    exact ⟨z, r1, r2.mono le fz⟩

section
variable {X : Cy} {G : Heap} {stk : List Env} {env : Env} {ℓ ℓ' : Loc} {σ σ' : Store} {ρ ρ' : Rho} {s s' : Shared}

theorem Inv.cast (I : Inv X G stk env ℓ σ ρ s) (hh : s'.heap = s.heap) (hg : s'.gens = s.gens) (ho : s'.os = s.os) : Inv X G stk env ℓ σ ρ s' :=
  { keep := hh ▸ I.keep, base := I.base, ff := hh ▸ I.ff, fd := hh ▸ I.fd, fr := hh ▸ I.fr, ownL := I.ownL, ownC := I.ownC, len := I.len, cells := hh ▸ I.cells, sep := I.sep, fresh := I.fresh, gens := hg.trans I.gens, os := ho.trans I.os }

theorem Inv.chg (I : Inv X G stk env ℓ σ ρ s) (Ch : Addr → Prop) (fz : Fz s.heap s'.heap) (hs : ∀ b o, s.heap.get? b = some o → ¬ Ch b → s'.heap.get? b = some o) (hG : ∀ b, Ch b → G.get? b = none)
    (hF : FrOk X.toCx ρ' s'.heap env ℓ') (hown : ∀ (n : Nat) p, ρ'[n]? = some p → p.1 ≠ env.locals ∧ p.2 ≠ env.locals) (len : ρ'.length = σ'.length)
    (cells : ∀ (n : Nat) c p, σ'[n]? = some c → ρ'[n]? = some p → CellOk X.toCx ρ' s'.heap p c)
    (sep : ∀ (n m : Nat) p q, ρ'[n]? = some p → ρ'[m]? = some q → n ≠ m → p.1 ≠ q.1 ∧ p.1 ≠ q.2 ∧ p.2 ≠ q.1 ∧ p.2 ≠ q.2)
    (fresh : ∀ (n : Nat) p, ρ'[n]? = some p → G.get? p.1 = none ∧ G.get? p.2 = none) (hg : s'.gens = s.gens) (ho : s'.os = s.os) : Inv X G stk env ℓ' σ' ρ' s' :=
  { keep := fun b o e => by
      obtain ⟨sl, e1, e2⟩ := I.keep b o e
      exact ⟨sl, hs b _ e1 (fun q => by rw [hG b q] at e; cases e), e2⟩
    base := I.base, ff := fz.funFrames I.ff, fd := fz.frD I.fd, fr := hF, ownL := ⟨I.ownL.1, hown⟩, ownC := I.ownC, len := len, cells := cells, sep := sep, fresh := fresh, gens := hg.trans I.gens, os := ho.trans I.os }

theorem Inv.frMono (I : Inv X G stk env ℓ σ ρ s) {h' : Heap} (le : Rle ρ ρ') (fz : Fz s.heap h') (k : ∀ b o, s.heap.get? b = some o → h'.get? b = some o) : FrOk X.toCx ρ' h' env ℓ :=
  I.fr.mono le fz (fun o e => ⟨o, k _ _ e, rfl⟩) fun x c _ o e _ _ => ⟨o, k _ _ e, rfl, rfl⟩

/-- the heap grows by things of no cell -/
theorem Inv.grow (I : Inv X G stk env ℓ σ ρ s) (k : ∀ b o, s.heap.get? b = some o → s'.heap.get? b = some o) (hg : s'.gens = s.gens) (ho : s'.os = s.os) : Inv X G stk env ℓ σ ρ s' := by
  have fz : Fz s.heap s'.heap := .of_keeps k
  exact I.chg (fun _ => False) fz (fun b o e _ => k b o e) (fun _ q => q.elim) (I.frMono (Rle.refl _) fz k) I.ownL.2 I.len
    (fun n c p e1 e2 => (I.cells n c p e1 e2).mono (Rle.refl _) fz (k _) (k _)) I.sep I.fresh hg ho

theorem Inv.freshAddr (I : Inv X G stk env ℓ σ ρ s) : G.get? s.heap.objs.size = none ∧ s.heap.objs.size ≠ env.locals ∧ ∀ (n : Nat) p, ρ[n]? = some p → p.1 ≠ s.heap.objs.size ∧ p.2 ≠ s.heap.objs.size := by
  have lt : ∀ {b : Addr} {o : Obj}, s.heap.get? b = some o → b ≠ s.heap.objs.size := fun e => Nat.ne_of_lt (Heap.lt_size e)
  refine ⟨?_, ?_, fun n p e => ?_⟩
  · cases q : G.get? s.heap.objs.size with
    | none => rfl
    | some o => obtain ⟨sl, e, _⟩ := I.keep _ o q; exact absurd rfl (lt e)
  · obtain ⟨m, hm, _⟩ := I.fr.ns
    obtain ⟨o, ho, _⟩ := ns_at hm
    exact (lt ho).symm
  · have hn : n < σ.length := by rw [← I.len]; exact (List.getElem?_eq_some_iff.mp e).1
    have hc := I.cells n _ p (List.getElem?_eq_getElem hn) e
    revert hc
    cases σ[n] with
    | list l => rintro ⟨q, o, n, items, a, b, c, d⟩; exact ⟨lt a, q ▸ lt a⟩

/-- what a cell's two addresses hold -/
theorem CellOk.at {X : Cx} {ρ : Rho} {h : Heap} {p : Addr × Addr} {c : Cell} (x : CellOk X ρ h p c) : (∃ o, h.get? p.1 = some o ∧ ¬ isC o ∧ ∀ vs, o.data ≠ .fields vs) ∧ ∃ o, h.get? p.2 = some o ∧ ¬ isC o ∧ ∀ vs, o.data ≠ .fields vs := by
  cases c with
  | list l => obtain ⟨q, o, n, items, a, b, c, d⟩ := x; rw [q]; exact ⟨⟨o, a, (fun ⟨_, e⟩ => by rw [c] at e; cases e), by rw [c]; intro _ e; cases e⟩, ⟨o, a, (fun ⟨_, e⟩ => by rw [c] at e; cases e), by rw [c]; intro _ e; cases e⟩⟩

theorem Inv.cellOf (I : Inv X G stk env ℓ σ ρ s) {n : Nat} {c : Cell} (e : σ[n]? = some c) : ∃ p, ρ[n]? = some p ∧ CellOk X.toCx ρ s.heap p c := by
  have hn : n < ρ.length := by rw [I.len]; exact (List.getElem?_eq_some_iff.mp e).1
  exact ⟨_, List.getElem?_eq_getElem hn, I.cells n c _ e (List.getElem?_eq_getElem hn)⟩
theorem Inv.rhoCell (I : Inv X G stk env ℓ σ ρ s) {n : Nat} {p : Addr × Addr} (e : ρ[n]? = some p) : ∃ c, σ[n]? = some c ∧ CellOk X.toCx ρ s.heap p c := by
  have hn : n < σ.length := by rw [← I.len]; exact (List.getElem?_eq_some_iff.mp e).1
  exact ⟨_, List.getElem?_eq_getElem hn, I.cells n _ p (List.getElem?_eq_getElem hn) e⟩
/-- the frame's cells are no cells of the store -/
theorem Inv.notCell (I : Inv X G stk env ℓ σ ρ s) {n : Nat} {p : Addr × Addr} (e : ρ[n]? = some p) {c : Addr} {o : Obj} (ho : s.heap.get? c = some o) (hc : isC o) : p.1 ≠ c ∧ p.2 ≠ c := by
  obtain ⟨cl, _, h⟩ := I.rhoCell e
  obtain ⟨⟨o1, a1, b1, _⟩, ⟨o2, a2, b2, _⟩⟩ := h.at
  exact ⟨fun q => by rw [q, ho] at a1; cases a1; exact b1 hc, fun q => by rw [q, ho] at a2; cases a2; exact b2 hc⟩

/-- a new cell -/
theorem Inv.newCell (I : Inv X G stk env ℓ σ ρ s) {c : Cell} (le : Rle ρ (ρ ++ [(s.heap.objs.size, s.heap.objs.size)])) (k : ∀ b o, s.heap.get? b = some o → s'.heap.get? b = some o)
    (hc : CellOk X.toCx (ρ ++ [(s.heap.objs.size, s.heap.objs.size)]) s'.heap (s.heap.objs.size, s.heap.objs.size) c)
    (hg : s'.gens = s.gens) (ho : s'.os = s.os) : Inv X G stk env ℓ (σ ++ [c]) (ρ ++ [(s.heap.objs.size, s.heap.objs.size)]) s' := by
  have fz : Fz s.heap s'.heap := .of_keeps k
  obtain ⟨f1, f2, f3⟩ := I.freshAddr
  have split : ∀ {n : Nat} {p : Addr × Addr}, (ρ ++ [(s.heap.objs.size, s.heap.objs.size)])[n]? = some p → ρ[n]? = some p ∨ (n = ρ.length ∧ p = (s.heap.objs.size, s.heap.objs.size)) := fun {n p} e => by
    by_cases q : n < ρ.length
    · rw [List.getElem?_append_left q] at e; exact .inl e
    · rw [List.getElem?_append_right (Nat.le_of_not_lt q)] at e
      by_cases q' : n - ρ.length = 0
      · rw [q'] at e; cases e; exact .inr ⟨by omega, rfl⟩
      · rw [List.getElem?_eq_none (by simp; omega)] at e; cases e
  refine I.chg (fun _ => False) fz (fun b o e _ => k b o e) (fun _ q => q.elim) (I.frMono le fz k) (fun n p e => ?_) (by simp [I.len]) (fun n c' p e1 e2 => ?_) (fun n m p q e1 e2 hne => ?_) (fun n p e => ?_) hg ho
  · rcases split e with e | ⟨_, rfl⟩
    · exact I.ownL.2 n p e
    · exact ⟨f2, f2⟩
  · rcases split e2 with e | ⟨rfl, rfl⟩
    · have hn : n < σ.length := by rw [← I.len]; exact (List.getElem?_eq_some_iff.mp e).1
      rw [List.getElem?_append_left hn] at e1
      exact (I.cells n c' p e1 e).mono le fz (k _) (k _)
    · rw [I.len, List.getElem?_append_right (Nat.le_refl _)] at e1
      simp at e1; subst e1; exact hc
  · rcases split e1 with a | ⟨a1, rfl⟩ <;> rcases split e2 with b | ⟨b1, rfl⟩
    · exact I.sep n m p q a b hne
    · obtain ⟨x, y⟩ := f3 n p a; exact ⟨x, x, y, y⟩
    · obtain ⟨x, y⟩ := f3 m q b; exact ⟨x.symm, y.symm, x.symm, y.symm⟩
    · exact absurd (a1.trans b1.symm) hne
  · rcases split e with e | ⟨_, rfl⟩
    · exact I.fresh n p e
    · exact ⟨f1, f1⟩

/-- a cell changes: the heap is as it was but at one of the cell's addresses -/
theorem Inv.setCell (I : Inv X G stk env ℓ σ ρ s) {n : Nat} {p : Addr × Addr} {c : Cell} {a : Addr} (hp : ρ[n]? = some p) (ha : a = p.1 ∨ a = p.2) (fz : Fz s.heap s'.heap) (k : ∀ b o, b ≠ a → s.heap.get? b = some o → s'.heap.get? b = some o)
    (hc : CellOk X.toCx ρ s'.heap p c) (hg : s'.gens = s.gens) (ho : s'.os = s.os) : Inv X G stk env ℓ (σ.set n c) ρ s' := by
  have hne : a ≠ env.locals := ha.elim (fun q => q ▸ (I.ownL.2 n p hp).1) fun q => q ▸ (I.ownL.2 n p hp).2
  have hG : G.get? a = none := ha.elim (fun q => q ▸ (I.fresh n p hp).1) fun q => q ▸ (I.fresh n p hp).2
  refine I.chg (fun b => b = a) fz (fun b o e q => k b o q e) (fun b q => q ▸ hG) (I.fr.mono (Rle.refl _) fz (fun o e => ⟨o, k _ _ hne.symm e, rfl⟩) fun x c' _ o e hcl _ => ⟨o, k _ _ (fun q => ?_) e, rfl, rfl⟩) I.ownL.2 (by simp [I.len])
    (fun m c' q e1 e2 => ?_) I.sep I.fresh hg ho
  · obtain ⟨h1, h2⟩ := I.notCell hp e hcl
    rcases ha with rfl | rfl
    · exact h1 q.symm
    · exact h2 q.symm
  · by_cases hm : m = n
    · subst hm
      rw [hp] at e2; cases e2
      rw [List.getElem?_set] at e1
      simp at e1
      obtain ⟨_, rfl⟩ := e1
      exact hc
    · rw [List.getElem?_set_ne (Ne.symm hm)] at e1
      obtain ⟨x1, x2, x3, x4⟩ := I.sep n m p q hp e2 (Ne.symm hm)
      refine (I.cells m c' q e1 e2).mono (Rle.refl _) fz (fun o e => k _ _ (fun z => ?_) e) (fun o e => k _ _ (fun z => ?_) e)
      · rcases ha with rfl | rfl
        · exact x1 z.symm
        · exact x3 z.symm
      · rcases ha with rfl | rfl
        · exact x2 z.symm
        · exact x4 z.symm
end
end Mine
end

section
set_option maxRecDepth 100000
set_option linter.unusedVariables false
namespace Mine
open PySem PySem.W PySem.Calls PyProof.Rows

theorem lookup_of_findIdx {l : List (Str × NameKind)} {x : Str} : ∀ {i : Nat}, l.findIdx? (fun p => p.1 == x) = some i → ∃ k, l[i]? = some (x, k) ∧ l.lookup x = some k := by
  induction l with
  | nil => intro i e; simp at e
  | cons p r ih =>
    intro i e
    rw [List.findIdx?_cons] at e
    by_cases h : (p.1 == x) = true
    · rw [if_pos h] at e; cases e
      obtain ⟨y, k⟩ := p
      have : y = x := eq_of_beq h
      subst this
      exact ⟨k, rfl, by simp [List.lookup]⟩
    · rw [if_neg h] at e
      cases q : r.findIdx? (fun p => p.1 == x) with
      | none => rw [q] at e; cases e
      | some j =>
        rw [q] at e; cases e
        obtain ⟨k, a, b⟩ := ih q
        obtain ⟨y, k'⟩ := p
        refine ⟨k, by simpa using a, ?_⟩
        have : (x == y) = false := by
          cases hh : x == y with
          | false => rfl
          | true => exact absurd (by simp [eq_of_beq hh]) h
        rw [List.lookup, this]; exact b
theorem kindIdx_spec {sc : Scope} {x : Str} {i : Nat} {k : NameKind} (e : kindIdx sc x = some (i, k)) : sc.names[i]? = some (x, k) ∧ sc.names.lookup x = some k := by
  unfold kindIdx at e
  cases q : sc.names.findIdx? (fun p => p.1 == x) with
  | none => rw [q] at e; cases e
  | some j =>
    rw [q] at e
    obtain ⟨k', a, b⟩ := lookup_of_findIdx q
    simp only [Option.bind_some, a, Option.map_some, Option.some.injEq, Prod.mk.injEq] at e
    obtain ⟨rfl, rfl⟩ := e
    exact ⟨a, b⟩

/-- the scope that a text was compiled by is the frame's, but that a comprehension's free names are its cells -/
noncomputable def ScOk (sc : Scope) (env : Env) : Prop := ∀ x i k, kindIdx sc x = some (i, k) → ∃ k', env.scope.names[i]? = some (x, k') ∧ env.kindOf x = some k' ∧ (k' = k ∨ (k = .free ∧ k' = .cell))
theorem ScOk.self (env : Env) : ScOk env.scope env := fun x i k e => let ⟨a, b⟩ := kindIdx_spec e; ⟨k, a, b, .inl rfl⟩

structure GlobOk (X : Cy) : Prop where
  glob : ∃ mg mb, X.G0.Ns mainGlobals mg ∧ X.G0.Ns builtinsNs mb ∧ (∀ x v, X.P.glob x = some v → ∃ y, (mg x = some y ∨ (mg x = none ∧ mb x = some y)) ∧ Rv X.toCx [] X.G0 v y) ∧
    ∀ x : Str, (x = "range" → mg x = none ∧ mb x = some (.type "range")) ∧ (x = "enumerate" → mg x = none ∧ mb x = some (.type "enumerate")) ∧ (x = "zip" → mg x = none ∧ mb x = some (.type "zip"))

section
variable {X : Cy} {A : Around} {G : Heap} {stk : List Env} {env : Env} {ℓ : Loc} {σ : Store} {ρ : Rho} {s : Shared} {R : Rho → Heap → Prop}

theorem fz0 (I : Inv X G stk env ℓ σ ρ s) : Fz X.G0 s.heap := .of_keeps fun b o e => I.frBase e
theorem rle0 (ρ : Rho) : Rle [] ρ := fun n p e => by simp at e

theorem badName_debug {x : Str} (h : badName x = false) : (x == ("__debug__" : Str)) = false := by
  unfold badName at h; simp only [Bool.or_eq_false_iff] at h; exact h.1
theorem badName_cd {x : Str} (h : badName x = false) : (x == ("__classdict__" : Str)) = false := by
  unfold badName at h; simp only [Bool.or_eq_false_iff] at h; exact h.2

theorem wp_loadName_any {Q : Value → Shared → Prop} {E : Value → Shared → Prop} (I : Inv X G stk env ℓ σ ρ s) {x : Str} {i : Nat} {k : NameKind} {v : V} (hx : env.scope.names[i]? = some (x, k)) (hk : env.kindOf x = some k)
    (hkk : k = .local ∨ k = .cell ∨ k = .free) (hv : ℓ[i]? = some (some v)) (hb : badName x = false) (h : ∀ y, Rv X.toCx ρ s.heap v y → Q y s) : wpAny (model X.prog X.w) A (loadName env x) Q E s := by
  have kd := I.fr.kind
  rcases hkk with rfl | rfl | rfl
  · obtain ⟨m, hm, hr⟩ := I.fr.ns
    obtain ⟨y, hy, r⟩ := hr i v x hv hx
    exact wpAny_loadName_local kd hk hm hy (h y r)
  · obtain ⟨c, o, y, a1, a2, a3, a4, a5⟩ := I.fr.cl i x _ hx (.inl rfl)
    obtain ⟨z, rfl, r⟩ := a5 v hv
    unfold loadName
    simp only [Env.blockKind, kd, hk, ScopeKind.isAnnotationScope, Bool.false_and, Bool.false_eq_true, if_false]
    unfold cellOf cellGet
    rw [a1]
    refine wpAny_bind (wpAny_pure ?_)
    refine wpAny_bind (wpAny_bind (wpAny_load a2 ?_))
    rw [a4]
    exact wpAny_pure (wpAny_pure (h z r))
  · obtain ⟨c, o, y, a1, a2, a3, a4, a5⟩ := I.fr.cl i x _ hx (.inr rfl)
    obtain ⟨z, rfl, r⟩ := a5 v hv
    unfold loadName
    simp only [Env.blockKind, kd, hk, ScopeKind.isAnnotationScope, Bool.false_and, Bool.false_eq_true, if_false, badName_cd hb]
    unfold cellOf cellGet
    rw [a1]
    refine wpAny_bind (wpAny_pure ?_)
    refine wpAny_bind (wpAny_bind (wpAny_load a2 ?_))
    rw [a4]
    exact wpAny_pure (wpAny_pure (h z r))

theorem wp_loadGlob {Q : Value → Shared → Prop} {E : Value → Shared → Prop} (hB : GlobOk X) (I : Inv X G stk env ℓ σ ρ s) {x : Str} {y : Value} (hk : env.kindOf x = some .globalImplicit)
    (hy : ∀ mg mb, X.G0.Ns mainGlobals mg → X.G0.Ns builtinsNs mb → (mg x = some y ∨ (mg x = none ∧ mb x = some y))) (h : Q y s) : wpAny (model X.prog X.w) A (loadName env x) Q E s := by
  obtain ⟨mg, mb, h1, h2, _⟩ := hB.glob
  have kd := I.fr.kind
  have g1 : s.heap.Ns mainGlobals mg := h1.keeps fun b o e => I.frBase e
  have g2 : s.heap.Ns builtinsNs mb := h2.keeps fun b o e => I.frBase e
  unfold loadName
  simp only [Env.blockKind, kd, hk, ScopeKind.isAnnotationScope, Bool.false_and, Bool.false_eq_true, if_false]
  unfold loadGlobal
  rw [I.fr.gl, I.fr.bl]
  refine wpAny_bind (wpAny_nsGet g1 ?_)
  rcases hy mg mb h1 h2 with e | ⟨e1, e2⟩
  · rw [e]; exact wpAny_pure h
  · rw [e1]; refine wpAny_bind (wpAny_nsGet g2 ?_); rw [e2]; exact wpAny_pure h

theorem ns_unique {h : Heap} {a : Addr} {m m' : Str → Option Value} (x : h.Ns a m) (y : h.Ns a m') : m = m' := by
  obtain ⟨o, es, ep, ho, hd, _, hm⟩ := x
  obtain ⟨o', es', ep', ho', hd', _, hm'⟩ := y
  rw [ho] at ho'; cases ho'
  rw [hd] at hd'; cases hd'
  funext n
  rw [← hm n, ← hm' n]

theorem cVar_spec {sc : Scope} {x : Str} {i : Nat} (e : cVar sc x = some i) : badName x = false ∧ ∃ k, kindIdx sc x = some (i, k) ∧ (k = .local ∨ k = .cell ∨ k = .free) := by
  unfold cVar at e
  split at e
  · cases e
  · rename_i hb
    refine ⟨by simpa using hb, ?_⟩
    split at e <;> first | (cases e; rename_i q; exact ⟨_, q, by simp⟩) | cases e
theorem isGlob_spec {sc : Scope} {x : Str} (e : isGlob sc x = true) : badName x = false ∧ ∃ i, kindIdx sc x = some (i, .globalImplicit) := by
  unfold isGlob at e
  simp only [Bool.and_eq_true, Bool.not_eq_true'] at e
  refine ⟨e.1, ?_⟩
  have e2 := e.2
  split at e2
  · rename_i i q; exact ⟨i, q⟩
  · cases e2

theorem ev_name (hB : GlobOk X) {sc : Scope} (hs : ScOk sc env) {x : Str} {pos : Pos} {e : E} {hd : Bool} {C : V → List V → Store → Out V} (he : cName sc x = some e) :
    Snd X A G stk env ℓ R (rV X) (eval (.Name x pos) env) (fun σ => evE X.P hd C e ℓ σ) := by
  intro σ ρ s I hr hb
  unfold cName at he
  show wpAny _ _ (do standAt pos; if x == ("__debug__" : Str) then debugConstant else loadName env x) _ _ _
  refine wpAny_bind (wpAny_standAt ?_)
  split at he
  · rename_i i q
    cases he
    obtain ⟨hn, k, e1, e2⟩ := cVar_spec q
    obtain ⟨k', f1, f2, f3⟩ := hs x i k e1
    rw [badName_debug hn]
    simp only [evE] at hb ⊢
    cases hv : ℓ[i]? with
    | none => rw [hv] at hb; exact absurd rfl hb
    | some o =>
      cases o with
      | none => rw [hv] at hb; exact absurd rfl hb
      | some v =>
        refine wp_loadName_any I f1 f2 ?_ hv hn fun y r => ⟨v, σ, ρ, rfl, Rle.refl _, Fz.refl _, I, r⟩
        rcases f3 with rfl | ⟨_, rfl⟩
        · exact e2
        · exact .inr (.inl rfl)
  · split at he
    · rename_i hg
      cases he
      obtain ⟨hn, i, e1⟩ := isGlob_spec hg
      obtain ⟨k', f1, f2, f3⟩ := hs x i _ e1
      rw [badName_debug hn]
      have : k' = .globalImplicit := by
        rcases f3 with rfl | ⟨q, _⟩
        · rfl
        · cases q
      subst this
      simp only [evE] at hb ⊢
      cases hv : X.P.glob x with
      | none => rw [hv] at hb; exact absurd rfl hb
      | some v =>
        obtain ⟨mg, mb, h1, h2, h3, _⟩ := hB.glob
        obtain ⟨y, hy, r⟩ := h3 x v hv
        exact wp_loadGlob hB I f2 (fun mg' mb' z1 z2 => ns_unique h1 z1 ▸ ns_unique h2 z2 ▸ hy) ⟨v, σ, ρ, rfl, Rle.refl _, Fz.refl _, I, r.mono (rle0 _) (fz0 I)⟩
    · cases he
end
end Mine
end

section
set_option maxRecDepth 100000
set_option linter.unusedVariables false
namespace Mine
open PySem PySem.W PySem.Calls PyProof.Rows

theorem nodup_names {l : List (Str × NameKind)} (nd : (l.map (·.1)).Nodup) {i j : Nat} {x : Str} {k k' : NameKind} (h1 : l[i]? = some (x, k)) (h2 : l[j]? = some (x, k')) : i = j := by
  obtain ⟨a, e1⟩ := List.getElem?_eq_some_iff.mp h1
  obtain ⟨b, e2⟩ := List.getElem?_eq_some_iff.mp h2
  have := (List.nodup_iff_pairwise_ne.mp nd)
  refine (List.getElem_inj (xs := l.map (·.1)) (h₀ := by simpa using a) (h₁ := by simpa using b) nd).mp ?_
  simp only [List.getElem_map, e1, e2]

section
variable {X : Cy} {A : Around} {G : Heap} {stk : List Env} {env : Env} {ℓ : Loc} {σ : Store} {ρ : Rho} {s : Shared}

theorem wp_store {Q : Unit → Shared → Prop} {E : Value → Shared → Prop} (I : Inv X G stk env ℓ σ ρ s) {x : Str} {i : Nat} {k : NameKind} {v : V} {y : Value} (hx : env.scope.names[i]? = some (x, k)) (hk : env.kindOf x = some k)
    (hkk : k = .local ∨ (k = .cell ∧ env.func.isSome = true)) (hv : Rv X.toCx ρ s.heap v y)
    (h : ∀ s', Fz s.heap s'.heap → Inv X G stk env (ℓ.set i (some v)) σ ρ s' → Q () s') : wpAny (model X.prog X.w) A (storeName env x y) Q E s := by
  have kd := I.fr.kind
  have hilt : i < ℓ.length := by rw [I.fr.len]; exact (List.getElem?_eq_some_iff.mp hx).1
  rcases hkk with rfl | ⟨rfl, hfun⟩
  · obtain ⟨m, hm, hr⟩ := I.fr.ns
    refine wpAny_storeName_local hk hm (fun h' hn' hs' => ?_) (by rw [kd]; rfl)
    obtain ⟨o, es, ep, ho, hd, _⟩ := hm
    obtain ⟨o', es', ep', ho', hd', _⟩ := id hn'
    have fz : Fz s.heap h' := .but (fun b ob q e => (hs'.2 b q).trans e) ho ho' (fun _ _ _ q => by rw [hd] at q; cases q) (fun _ q => by rw [hd] at q; cases q) (fun _ q => by rw [hd'] at q; cases q) (fun _ _ _ => ⟨es', ep', hd'⟩)
    refine h _ fz ?_
    refine I.chg (fun b => b = env.locals) fz (fun b ob e q => (hs'.2 b q).trans e) (fun b q => q ▸ I.ownL.1) ?_ I.ownL.2 I.len (fun n c p e1 e2 => ?_) I.sep I.fresh rfl rfl
    · refine ⟨kd, I.fr.gl, I.fr.bl, by simp [I.fr.len], I.fr.nd, ⟨_, hn', fun j u z e1 e2 => ?_⟩, fun j z kz e1 e2 => ?_⟩
      · by_cases q : j = i
        · subst q
          rw [hx] at e2; cases e2
          rw [List.getElem?_set] at e1
          simp [hilt] at e1; subst e1
          exact ⟨y, by simp, hv.mono (Rle.refl _) fz⟩
        · rw [List.getElem?_set_ne (Ne.symm q)] at e1
          obtain ⟨w, a, r⟩ := hr j u z e1 e2
          have : z ≠ x := fun hz => q (nodup_names I.fr.nd e2 (hz ▸ hx))
          exact ⟨w, by simp [this, a], r.mono (Rle.refl _) fz⟩
      · have q : j ≠ i := fun q => by subst q; rw [hx] at e1; cases e1; rcases e2 with q | q <;> cases q
        obtain ⟨c, oc, w, a1, a2, a3, a4, a5⟩ := I.fr.cl j z kz e1 e2
        have hne : c ≠ env.locals := fun q => by rw [q, ho] at a2; cases a2; rw [hd] at a4; cases a4
        refine ⟨c, oc, w, a1, (hs'.2 c hne).trans a2, a3, a4, fun u hu => ?_⟩
        rw [List.getElem?_set_ne (Ne.symm q)] at hu
        obtain ⟨z', r1, r2⟩ := a5 u hu
        exact ⟨z', r1, r2.mono (Rle.refl _) fz⟩
    · obtain ⟨n1, n2⟩ := I.ownL.2 n p e2
      exact (I.cells n c p e1 e2).mono (Rle.refl _) fz (fun o e => (hs'.2 _ n1).trans e) (fun o e => (hs'.2 _ n2).trans e)
  · obtain ⟨c, oc, w, a1, a2, a3, a4, a5⟩ := I.fr.cl i x _ hx (.inl rfl)
    obtain ⟨f1, f2, f3⟩ := I.ownC hfun x c a1
    unfold storeName
    simp only [hk, kd]
    simp only [show (some NameKind.cell == some NameKind.globalImplicit) = false from rfl, show (ScopeKind.function == ScopeKind.class) = false from rfl, Bool.false_and, Bool.false_eq_true, if_false]
    unfold cellOf cellSet
    rw [a1]
    refine wpAny_bind (wpAny_pure (wpAny_bind (wpAny_load a2 ?_)))
    rw [a4]
    refine wpAny_update a2 ?_
    have ho' := Heap.get?_update_self (fun o => { o with data := .cell (some y) }) a2 rfl
    have hs' : ∀ b ob, b ≠ c → s.heap.get? b = some ob → (s.heap.update c fun o => { o with data := .cell (some y) }).get? b = some ob := fun b ob q e => (Heap.get?_update_other _ _ (Ne.symm q)).trans e
    have fz : Fz s.heap (s.heap.update c fun o => { o with data := .cell (some y) }) := .but hs' a2 ho' (fun _ _ _ q => by rw [a4] at q; cases q) (fun _ q => by rw [a4] at q; cases q) (fun _ q => by cases q) (fun _ _ q => by rw [a4] at q; cases q)
    refine h _ fz ?_
    refine I.chg (s' := { s with heap := s.heap.update c fun o => { o with data := .cell (some y) } }) (fun b => b = c) fz (fun b ob e q => hs' b ob q e) (fun b q => q ▸ f1) ?_ I.ownL.2 I.len (fun n cc p e1 e2 => ?_) I.sep I.fresh rfl rfl
    · obtain ⟨m, hm, hr⟩ := I.fr.ns
      refine ⟨kd, I.fr.gl, I.fr.bl, by simp [I.fr.len], I.fr.nd, ⟨m, ns_data hm fun o e => ⟨o, hs' _ _ (Ne.symm f2) e, rfl⟩, fun j u z e1 e2 => ?_⟩, fun j z kz e1 e2 => ?_⟩
      · have q : j ≠ i := fun q => by subst q; rw [hx] at e2; cases e2
        rw [List.getElem?_set_ne (Ne.symm q)] at e1
        obtain ⟨w, a, r⟩ := hr j u z e1 e2
        exact ⟨w, a, r.mono (Rle.refl _) fz⟩
      · by_cases q : j = i
        · subst q
          rw [hx] at e1; cases e1
          refine ⟨c, _, some y, a1, ho', ⟨_, rfl⟩, rfl, fun u hu => ?_⟩
          rw [List.getElem?_set] at hu
          simp [hilt] at hu; subst hu
          exact ⟨y, rfl, hv.mono (Rle.refl _) fz⟩
        · obtain ⟨c', oc', w', b1, b2, b3, b4, b5⟩ := I.fr.cl j z kz e1 e2
          have hne : c' ≠ c := fun hq => q (by
            subst hq
            have hz : z = x := f3 z b1
            subst hz
            exact nodup_names I.fr.nd e1 hx)
          refine ⟨c', oc', w', b1, hs' _ _ hne b2, b3, b4, fun u hu => ?_⟩
          rw [List.getElem?_set_ne (Ne.symm q)] at hu
          obtain ⟨z', r1, r2⟩ := b5 u hu
          exact ⟨z', r1, r2.mono (Rle.refl _) fz⟩
    · obtain ⟨n1, n2⟩ := I.notCell e2 a2 a3
      exact (I.cells n cc p e1 e2).mono (Rle.refl _) fz (fun o e => hs' _ _ n1 e) (fun o e => hs' _ _ n2 e)

theorem wp_bindName {Q : Unit → Shared → Prop} {E : Value → Shared → Prop} (I : Inv X G stk env ℓ σ ρ s) {x : Str} {i : Nat} {k : NameKind} {v : V} {y : Value} (hx : env.scope.names[i]? = some (x, k)) (hk : env.kindOf x = some k)
    (hkk : k = .local ∨ (k = .cell ∧ env.func.isSome = true)) (hv : Rv X.toCx ρ s.heap v y)
    (h : ∀ s', Fz s.heap s'.heap → Inv X G stk env (ℓ.set i (some v)) σ ρ s' → Q () s') : wpAny (model X.prog X.w) A (bindName env x y) Q E s := by
  unfold bindName
  refine wpAny_bind (wpAny_holding (wpAny_point' (wpAny_bind (wp_store I hx hk hkk hv fun s' fz I' => wpAny_point' (h s' fz I')))))
end
end Mine
end

section
set_option maxRecDepth 100000
set_option linter.unusedVariables false
namespace Mine
open PySem PySem.W PySem.Calls PyProof.Rows

/-- all that stands in a heap, but one address -/
noncomputable def allNews (h : Heap) (L : Addr) : List (Addr × Obj) := (List.range h.objs.size).filterMap fun a => if a = L then none else (h.get? a).map fun o => (a, o)
theorem mem_allNews {h : Heap} {L a : Addr} {o : Obj} (e : h.get? a = some o) (n : a ≠ L) : (a, o) ∈ allNews h L :=
  List.mem_filterMap.mpr ⟨a, List.mem_range.mpr (Heap.lt_size e), by rw [if_neg n, e]; rfl⟩
theorem allNews_ok (h : Heap) (L : Addr) : News {} L h (allNews h L) := fun p hp => by
  obtain ⟨a, _, e⟩ := List.mem_filterMap.mp hp
  split at e
  · cases e
  · rename_i n
    obtain ⟨o, ho, rfl⟩ := Option.map_eq_some_iff.mp e
    exact ⟨ho, n, rfl⟩

section
variable {X : Cy} {A : Around} {G : Heap} {stk : List Env} {env : Env} {ℓ : Loc} {σ : Store} {ρ : Rho} {s s' : Shared}

theorem frEmpty {h : Heap} {L : Addr} {m : Str → Option Value} (hm : h.Ns L m) : Fr {} L h m := ⟨hm, (fun b o e => by cases e), Nat.zero_le _⟩

/-- the heap is as it was but for new things and the frame's object, whose names are as they were -/
theorem Inv.ofNews (I : Inv X G stk env ℓ σ ρ s) {m : Str → Option Value} (hm : s.heap.Ns env.locals m) (F' : s'.heap.Ns env.locals m) (k : ∀ b o, b ≠ env.locals → s.heap.get? b = some o → s'.heap.get? b = some o)
    (hg : s'.gens = s.gens) (ho : s'.os = s.os) : Fz s.heap s'.heap ∧ Inv X G stk env ℓ σ ρ s' := by
  obtain ⟨o, es, ep, h1, h2, _⟩ := id hm
  obtain ⟨o', es', ep', h1', h2', _⟩ := id F'
  have fz : Fz s.heap s'.heap := .but k h1 h1' (fun _ _ _ q => by rw [h2] at q; cases q) (fun _ q => by rw [h2] at q; cases q) (fun _ q => by rw [h2'] at q; cases q) (fun _ _ _ => ⟨_, _, h2'⟩)
  refine ⟨fz, I.chg (fun b => b = env.locals) fz (fun b ob e q => k b ob q e) (fun b q => q ▸ I.ownL.1) ?_ I.ownL.2 I.len (fun n c p e1 e2 => ?_) I.sep I.fresh hg ho⟩
  · obtain ⟨m', hm', hr⟩ := I.fr.ns
    have := ns_unique hm hm'
    subst this
    refine ⟨I.fr.kind, I.fr.gl, I.fr.bl, I.fr.len, I.fr.nd, ⟨m, F', fun j u z e1 e2 => ?_⟩, fun j z kz e1 e2 => ?_⟩
    · obtain ⟨w, a, r⟩ := hr j u z e1 e2; exact ⟨w, a, r.mono (Rle.refl _) fz⟩
    · obtain ⟨c, oc, w, a1, a2, a3, a4, a5⟩ := I.fr.cl j z kz e1 e2
      have hne : c ≠ env.locals := fun q => by rw [q, h1] at a2; cases a2; rw [h2] at a4; cases a4
      refine ⟨c, oc, w, a1, k _ _ hne a2, a3, a4, fun u hu => ?_⟩
      obtain ⟨z', r1, r2⟩ := a5 u hu
      exact ⟨z', r1, r2.mono (Rle.refl _) fz⟩
  · obtain ⟨n1, n2⟩ := I.ownL.2 n p e2
    exact (I.cells n c p e1 e2).mono (Rle.refl _) fz (fun o e => k _ _ n1 e) (fun o e => k _ _ n2 e)

theorem Inv.fresh' (I : Inv X G stk env ℓ σ ρ s) {a : Addr} (h : s.heap.get? a = none) : G.get? a = none ∧ a ≠ env.locals ∧ ∀ (n : Nat) p, ρ[n]? = some p → p.1 ≠ a ∧ p.2 ≠ a := by
  refine ⟨?_, ?_, fun n p e => ?_⟩
  · cases q : G.get? a with
    | none => rfl
    | some o => obtain ⟨sl, e, _⟩ := I.keep _ o q; rw [h] at e; cases e
  · obtain ⟨m, hm, _⟩ := I.fr.ns
    obtain ⟨o, ho, _⟩ := ns_at hm
    intro q; rw [q, ho] at h; cases h
  · obtain ⟨c, _, hc⟩ := I.rhoCell e
    obtain ⟨⟨o1, a1, _⟩, ⟨o2, a2, _⟩⟩ := hc.at
    exact ⟨(fun q => by rw [q, h] at a1; cases a1), (fun q => by rw [q, h] at a2; cases a2)⟩
theorem get?_size (h : Heap) : h.get? h.objs.size = none := by
  cases q : h.get? h.objs.size with
  | none => rfl
  | some o => exact absurd (Heap.lt_size q) (Nat.lt_irrefl _)

/-- a thing that stands becomes a cell -/
theorem Inv.adopt (I : Inv X G stk env ℓ σ ρ s) {a d : Addr} {c : Cell} (ha : G.get? a = none ∧ a ≠ env.locals ∧ ∀ (n : Nat) p, ρ[n]? = some p → p.1 ≠ a ∧ p.2 ≠ a) (hd : G.get? d = none ∧ d ≠ env.locals ∧ ∀ (n : Nat) p, ρ[n]? = some p → p.1 ≠ d ∧ p.2 ≠ d)
    (hc : CellOk X.toCx (ρ ++ [(a, d)]) s.heap (a, d) c) : Inv X G stk env ℓ (σ ++ [c]) (ρ ++ [(a, d)]) s := by
  have le : Rle ρ (ρ ++ [(a, d)]) := Rle.append _ _
  have split : ∀ {n : Nat} {p : Addr × Addr}, (ρ ++ [(a, d)])[n]? = some p → ρ[n]? = some p ∨ (n = ρ.length ∧ p = (a, d)) := fun {n p} e => by
    by_cases q : n < ρ.length
    · rw [List.getElem?_append_left q] at e; exact .inl e
    · rw [List.getElem?_append_right (Nat.le_of_not_lt q)] at e
      by_cases q' : n - ρ.length = 0
      · rw [q'] at e; cases e; exact .inr ⟨by omega, rfl⟩
      · rw [List.getElem?_eq_none (by simp; omega)] at e; cases e
  refine I.chg (fun _ => False) (Fz.refl _) (fun b o e _ => e) (fun _ q => q.elim) (I.fr.mono le (Fz.refl _) (fun o e => ⟨o, e, rfl⟩) fun x c _ o e _ _ => ⟨o, e, rfl, rfl⟩) (fun n p e => ?_) (by simp [I.len]) (fun n c' p e1 e2 => ?_) (fun n m p q e1 e2 hne => ?_) (fun n p e => ?_) rfl rfl
  · rcases split e with e | ⟨_, rfl⟩
    · exact I.ownL.2 n p e
    · exact ⟨ha.2.1, hd.2.1⟩
  · rcases split e2 with e | ⟨rfl, rfl⟩
    · have hn : n < σ.length := by rw [← I.len]; exact (List.getElem?_eq_some_iff.mp e).1
      rw [List.getElem?_append_left hn] at e1
      exact (I.cells n c' p e1 e).mono le (Fz.refl _) (fun _ e => e) (fun _ e => e)
    · rw [I.len, List.getElem?_append_right (Nat.le_refl _)] at e1
      simp at e1; subst e1; exact hc
  · rcases split e1 with x | ⟨a1, rfl⟩ <;> rcases split e2 with y | ⟨b1, rfl⟩
    · exact I.sep n m p q x y hne
    · exact ⟨(ha.2.2 n p x).1, (hd.2.2 n p x).1, (ha.2.2 n p x).2, (hd.2.2 n p x).2⟩
    · exact ⟨(ha.2.2 m q y).1.symm, (ha.2.2 m q y).2.symm, (hd.2.2 m q y).1.symm, (hd.2.2 m q y).2.symm⟩
    · exact absurd (a1.trans b1.symm) hne
  · rcases split e with e | ⟨_, rfl⟩
    · exact I.fresh n p e
    · exact ⟨ha.1, hd.1⟩

/-- the end of a rule that lays one new list -/
theorem Inv.newList (I : Inv X G stk env ℓ σ ρ s) {m : Str → Option Value} (hm : s.heap.Ns env.locals m) {a : Addr} {l : List V} {items : List Value} (hfr : s.heap.get? a = none) (hl : RvL X.toCx ρ s.heap l items)
    (F' : s'.heap.Ns env.locals m) (k : ∀ b o, b ≠ env.locals → s.heap.get? b = some o → s'.heap.get? b = some o) {o : Obj} {n : Nat} (ho' : s'.heap.get? a = some o) (hc : o.cls = .type "list") (hd : o.data = .seq items.toArray n) (hdd : o.dict = none ∧ o.slots = #[])
    (hg : s'.gens = s.gens) (ho : s'.os = s.os) : Fz s.heap s'.heap ∧ Inv X G stk env ℓ (σ ++ [.list l]) (ρ ++ [(a, a)]) s' ∧ Rv X.toCx (ρ ++ [(a, a)]) s'.heap (.loc σ.length) (.ref a) := by
  obtain ⟨fz, I'⟩ := I.ofNews hm F' k hg ho
  have fr := I.fresh' hfr
  refine ⟨fz, I'.adopt fr fr ⟨rfl, o, n, items, ho', hc, hd, hl.mono (Rle.append _ _) fz, hdd⟩, ?_⟩
  exact Rv.loc (p := (a, a)) (by rw [← I.len, List.getElem?_append_right (Nat.le_refl _)]; simp)
end
end Mine
end

section
set_option maxRecDepth 100000
set_option linter.unusedVariables false
namespace Mine
open PySem PySem.W PySem.Calls PyProof.Rows

theorem intBits_le {a : Int} (h : a.natAbs < 2 ^ 64) : Builtin.Int.intBits a ≤ 64 := by
  exact intBits_le_64 (by omega) (by omega)

section
variable {X : Cy} {A : Around} {G : Heap} {stk : List Env} {env : Env} {ℓ : Loc} {σ : Store} {ρ : Rho} {s s' : Shared} {R : Rho → Heap → Prop} {α β : Type}

theorem qok_same {RR : α → β → Rho → Heap → Prop} (I : Inv X G stk env ℓ σ ρ s) {o : Out α} {a : α} {b : β} (e : o = .ok a σ) (rr : RR a b ρ s'.heap) (hh : s'.heap = s.heap := by rfl) (hg : s'.gens = s.gens := by rfl) (ho : s'.os = s.os := by rfl) :
    Qok X G stk env ℓ RR o ρ s b s' := ⟨a, σ, ρ, e, Rle.refl _, by rw [hh]; exact Fz.refl _, I.cast hh hg ho, rr⟩

theorem tup_inv {l : List V} {x : Value} (h : Rv X.toCx ρ s.heap (.tup l) x) : ∃ a items n o, x = .ref a ∧ s.heap.get? a = some o ∧ o.cls = .type "tuple" ∧ o.data = .seq (List.toArray items) n ∧ RvL X.toCx ρ s.heap l items := by
  cases h with | tup o n ho hc hd hl => exact ⟨_, _, n, o, rfl, ho, hc, hd, hl⟩
theorem loc_inv {h : Heap} {n : Nat} {x : Value} (h : Rv X.toCx ρ h (.loc n) x) : ∃ p, x = .ref p.1 ∧ ρ[n]? = some p := by
  cases h with | loc hp => exact ⟨_, rfl, hp⟩
theorem Inv.listAt (I : Inv X G stk env ℓ σ ρ s) {n : Nat} {l : List V} {x : Value} (h : Rv X.toCx ρ s.heap (.loc n) x) (e : σ[n]? = some (.list l)) :
    ∃ a items k o, x = .ref a ∧ ρ[n]? = some (a, a) ∧ s.heap.get? a = some o ∧ o.cls = .type "list" ∧ o.data = .seq (List.toArray items) k ∧ RvL X.toCx ρ s.heap l items := by
  obtain ⟨p, rfl, hp⟩ := loc_inv h
  obtain ⟨p', hp', hc⟩ := I.cellOf e
  rw [hp] at hp'; cases hp'
  obtain ⟨q, o, k, items, a1, a2, a3, a4, _⟩ := hc
  refine ⟨p.1, items, k, o, rfl, ?_, a1, a2, a3, a4⟩
  rw [hp]
  obtain ⟨p1, p2⟩ := p
  simp only at q; rw [q]
theorem isList_of {h : Heap} {a : Addr} {o : Obj} {items : List Value} {n : Nat} (ho : h.get? a = some o) (hc : o.cls = .type "list") (hd : o.data = .seq items.toArray n) : h.IsList a items.toArray := ⟨o, ho, hc, n, hd⟩

theorem intP_spec {a b : V} {p : Int × Int} (h : intP a b = some p) : a = .int p.1 ∧ b = .int p.2 := by
  unfold intP at h
  split at h
  · cases h; exact ⟨rfl, rfl⟩
  · cases h
theorem snd_bin {op : Operator} {o : Bop} (hop : cBop op = some o) (a b : V) (x y : Value) (hR : ∀ ρ h, R ρ h → Rv X.toCx ρ h a x ∧ Rv X.toCx ρ h b y) :
    Snd X A G stk env ℓ R (rV X) (binaryOp op x y) (fun σ => binV o a b σ) := by
  intro σ ρ s I hr hb
  obtain ⟨ra, rb⟩ := hR _ _ hr
  dsimp only at hb ⊢
  unfold binV at hb ⊢
  cases hi : intP a b with
  | some p =>
    obtain ⟨rfl, rfl⟩ := intP_spec hi
    obtain ⟨a, b⟩ := p
    rw [hi] at hb
    dsimp only at hb ⊢
    cases ra; cases rb
    cases op <;> cases hop <;> unfold binI at hb ⊢ <;> dsimp only at hb ⊢
    · exact PyProof.Rows.add_int (qok_same I rfl (.int _ _))
    · exact PyProof.Rows.sub_int (qok_same I rfl (.int _ _))
    · split at hb
      · rename_i hm
        rw [if_pos hm]
        refine PyProof.Rows.mul_int (qok_same I rfl (.int _ _)) ?_
        simp only [mulOk, Bool.or_eq_true, decide_eq_true_eq] at hm
        rcases hm with hm | hm
        · exact IntMulOk.of_left (intBits_le hm)
        · exact IntMulOk.of_right (intBits_le hm)
      · exact absurd rfl hb
    · split at hb
      · rename_i hp
        rw [if_pos hp]
        refine PyProof.Rows.mod_int' (by omega) (qok_same I rfl ?_)
        rw [Int.fmod_eq_emod_of_nonneg _ (by omega)]
        exact .int _ _
      · exact absurd rfl hb
    · split at hb
      · rename_i hp
        rw [if_pos hp]
        exact PyProof.Rows.pow_int_small hp.2.1 (by omega) (by rw [hp.1]; decide) (qok_same I rfl (.int _ _))
      · exact absurd rfl hb
    · split at hb
      · rename_i hp
        rw [if_pos hp]
        refine PyProof.Rows.floordiv_int (by omega) (qok_same I rfl ?_) (.inl (PyProof.noPylong_small (by omega)))
        rw [Int.fdiv_eq_ediv_of_nonneg _ (by omega)]
        exact .int _ _
      · exact absurd rfl hb
  | none =>
    rw [hi] at hb
    dsimp only at hb ⊢
    split at hb
    · rename_i ho
      rw [if_pos ho]
      subst ho
      cases op <;> cases hop
      cases a <;> cases b <;> first | exact absurd rfl hb | skip
      rename_i i j
      unfold binL at hb ⊢
      dsimp only at hb ⊢
      cases e1 : σ[i]? with
      | none => rw [e1] at hb; exact absurd rfl hb
      | some c1 =>
        cases e2 : σ[j]? with
        | none => rw [e1, e2] at hb; exact absurd rfl hb
        | some c2 =>
          obtain ⟨l1⟩ := c1
          obtain ⟨l2⟩ := c2
          rw [e1, e2] at hb
          dsimp only at hb ⊢
          split at hb
          · rename_i hz
            rw [if_pos hz]
            obtain ⟨a1, it1, k1, o1, rfl, p1, g1, c1, d1, r1⟩ := I.listAt ra e1
            obtain ⟨a2, it2, k2, o2, rfl, p2, g2, c2, d2, r2⟩ := I.listAt rb e2
            obtain ⟨m, hm, _⟩ := I.fr.ns
            refine add_arrays (frEmpty hm) (allNews_ok s.heap env.locals) (isList_of g1 c1 d1) (isList_of g2 c2 d2) (fun h' F' N' => ?_) (by simpa [r1.length, r2.length, sizeLine, szL] using hz)
            obtain ⟨fz, I', rv⟩ := I.newList (s' := { s with heap := h' }) hm (get?_size _) (r1.append r2) F'.ns (fun b o hb e => (N' _ (.tail _ (mem_allNews e hb))).1) (N' _ (.head _)).1 rfl (by simp; rfl) ⟨rfl, rfl⟩ rfl rfl
            exact ⟨_, _, _, rfl, Rle.append _ _, fz, I', rv⟩
          · exact absurd rfl hb
    · exact absurd rfl hb
end
end Mine
end

section
set_option maxRecDepth 100000
set_option linter.unusedVariables false
namespace Mine
open PySem PySem.W PySem.Calls PyProof.Rows

section
variable {X : Cy} {A : Around} {G : Heap} {stk : List Env} {env : Env} {ℓ : Loc} {σ : Store} {ρ : Rho} {s s' : Shared} {R : Rho → Heap → Prop} {α β : Type}

theorem ofOpt_bad {α : Type} {σ : Store} {o : Option α} (h : Out.ofOpt σ o ≠ .bad) : ∃ a, o = some a := by
  cases o with
  | none => exact absurd rfl h
  | some a => exact ⟨a, rfl⟩

theorem bools_read {h : Heap} : ∀ {l : List V} {items : List Value} {bs : List Bool}, RvL X.toCx ρ h l items → boolsOf l = some bs → ∃ as, ReadsAll h items (bs.map .bool) as
  | _, _, _, .nil, e => by cases e; exact ⟨[], .nil⟩
  | _, _, _, .cons hv hl, e => by
    cases hv <;> first | (cases e; done) | skip
    obtain ⟨bs', e1, rfl⟩ := Option.map_eq_some_iff.mp e
    obtain ⟨as, r⟩ := bools_read hl e1
    exact ⟨_, .cons (.bool _) r⟩
theorem bools_lay : ∀ bs : List Bool, PyData.canLayAll0 (bs.map .bool) = true
  | [] => rfl
  | b :: bs => by rw [List.map_cons, PyData.canLayAll0, bools_lay bs]; rfl
theorem bools_depth : ∀ bs : List Bool, PyData.depthAll (bs.map .bool) ≤ 8
  | [] => by simp [PyData.depthAll]
  | b :: bs => by
    have := bools_depth bs
    rw [List.map_cons, PyData.depthAll]
    simp only [PyData.depth]
    omega

/-- a comparison -/
theorem wp_cmp {op : CmpOp} {a b : V} {x y : Value} {r : Bool} {Q : Value → Shared → Prop} {E : Value → Shared → Prop} (hu : A.units + 80 < cLine) (I : Inv X G stk env ℓ σ ρ s) (ra : Rv X.toCx ρ s.heap a x) (rb : Rv X.toCx ρ s.heap b y)
    (h : cmpV X.P (cCop op) a b σ = some r) (q : ∀ tk, Q (.bool r) { s with toks := tk }) : wpAny (model X.prog X.w) A (compareOp op x y) Q E s := by
  have hints : ∀ {p : Int × Int}, intP a b = some p → ∃ t u, x = .int p.1 t ∧ y = .int p.2 u := fun {p} e => by
    obtain ⟨rfl, rfl⟩ := intP_spec e
    cases ra; cases rb; exact ⟨_, _, rfl, rfl⟩
  cases op with
  | Lt =>
    obtain ⟨p, e, rfl⟩ := Option.map_eq_some_iff.mp h
    obtain ⟨t, u, rfl, rfl⟩ := hints e
    exact PyProof.Rows.lt_int (q s.toks)
  | LtE =>
    obtain ⟨p, e, rfl⟩ := Option.map_eq_some_iff.mp h
    obtain ⟨t, u, rfl, rfl⟩ := hints e
    exact PyProof.Rows.le_int (q s.toks)
  | Gt =>
    obtain ⟨p, e, rfl⟩ := Option.map_eq_some_iff.mp h
    obtain ⟨t, u, rfl, rfl⟩ := hints e
    exact PyProof.Rows.gt_int (q s.toks)
  | GtE =>
    obtain ⟨p, e, rfl⟩ := Option.map_eq_some_iff.mp h
    obtain ⟨t, u, rfl, rfl⟩ := hints e
    exact PyProof.Rows.ge_int (q s.toks)
  | Eq =>
    obtain ⟨p, e, rfl⟩ := Option.map_eq_some_iff.mp h
    obtain ⟨t, u, rfl, rfl⟩ := hints e
    exact PyProof.Rows.eq_int (q s.toks)
  | NotEq =>
    obtain ⟨v, e, rfl⟩ := Option.map_eq_some_iff.mp h
    obtain ⟨p, e', rfl⟩ := Option.map_eq_some_iff.mp e
    obtain ⟨t, u, rfl, rfl⟩ := hints e'
    exact PyProof.Rows.ne_int (q s.toks)
  | Is => cases h
  | IsNot => cases h
  | In => cases h
  | NotIn =>
    obtain ⟨v, e, rfl⟩ := Option.map_eq_some_iff.mp h
    unfold inB at e
    split at e
    · rename_i bb n
      split at e
      · rename_i l e0
        obtain ⟨bs, e1, rfl⟩ := Option.map_eq_some_iff.mp e
        obtain ⟨aa, items, k, o, rfl, _, h1, h2, h3, h4⟩ := I.listAt rb e0
        cases ra
        obtain ⟨as, r1⟩ := bools_read h4 e1
        refine SeqAt.notIn_list_reads (Reads.list h1 h2 h3 (by simpa using r1)) (.bool bb) (bools_lay bs) rfl (by have := bools_depth bs; have := Nat.min_le_left (PyData.depthAll (bs.map .bool)) (PyData.bool bb).depth; omega) ?_
        have : ((bs.map PyData.bool).any fun y => PyData.eqv y (.bool bb)) = bs.any (· == bb) := by
          rw [List.any_map]; rfl
        rw [this]
        exact q s.toks
      · cases e
    · cases e
end
end Mine
end

section
set_option maxRecDepth 100000
set_option linter.unusedVariables false
namespace Mine
open PySem PySem.W PySem.Calls PyProof.Rows

theorem starEach_cons {e : Expr} {es : List Expr} {env : Env} (h : ∀ v p, e ≠ .Starred v p) : starEach (e :: es) env = (false, eval e env) :: starEach es env := by
  cases e <;> first | rfl | exact absurd rfl (h _ _)

section
variable {X : Cy} {A : Around} {G : Heap} {stk : List Env} {env : Env} {ℓ : Loc} {σ : Store} {ρ : Rho} {s s' : Shared} {R : Rho → Heap → Prop} {α β : Type}

theorem snd_const {c : Const} {e : E} {hd : Bool} {C : V → List V → Store → Out V} {k : Nat} {pos : Pos} {sc : Scope} (he : cE sc (.Constant c k pos) = some e) :
    Snd X A G stk env ℓ R (rV X) (eval (.Constant c k pos) env) (fun σ => evE X.P hd C e ℓ σ) := by
  intro σ ρ s I hr hb
  show wpAny _ _ (constValue env c) _ _ _
  cases c with
  | none => simp only [cE, Option.some.injEq] at he; subst he; exact wpAny_pure (qok_same I (by simp only [evE]) .none)
  | bool b => simp only [cE, Option.some.injEq] at he; subst he; exact wpAny_pure (qok_same I (by simp only [evE]) (.bool b))
  | int i => simp only [cE, Option.some.injEq] at he; subst he; exact fun _ _ _ => qok_same (s' := { s with toks := s.toks + 1 }) I (by simp only [evE]) (.int i _)
  | str x => simp only [cE, Option.some.injEq] at he; subst he; simp only [evE] at hb ⊢; cases hd <;> first | exact absurd rfl hb | exact wpAny_mkText (qok_same I rfl (.str x _))
  | _ => simp [cE] at he

theorem Snd.of {α β : Type} {RR : α → β → Rho → Heap → Prop} {t : Sem β} {m : Store → Out α} (h : ∀ σ ρ s, Inv X G stk env ℓ σ ρ s → R ρ s.heap → m σ ≠ .bad → wpAny (model X.prog X.w) A t (Qok X G stk env ℓ RR (m σ) ρ s) (Qex X G stk env ℓ (m σ) ρ s) s) : Snd X A G stk env ℓ R RR t m := h

/-- what is known of a compiled expression in a frame -/
noncomputable def EOk (X : Cy) (G : Heap) (stk : List Env) (env : Env) (ℓ : Loc) (A : Around) (x : Expr) (m : Store → Out V) : Prop := Snd X A G stk env ℓ (fun _ _ => True) (rV X) (eval x env) m
theorem EOk.under {x : Expr} {m : Store → Out V} (h : EOk X G stk env ℓ A x m) : Snd X A G stk env ℓ R (rV X) (eval x env) m := h.mono (fun _ _ _ => trivial) fun _ _ _ _ r => r

theorem snd_spliced {pos : Pos} {hd : Bool} {C : V → List V → Store → Out V} {sc : Scope} : ∀ {xs : List Expr} {es : List E} {R : Rho → Heap → Prop} (hR : HMono R), cEs sc xs = some es → (∀ x ∈ xs, ∀ e, cE sc x = some e → EOk X G stk env ℓ A x (fun σ => evE X.P hd C e ℓ σ)) →
    Snd X A G stk env ℓ R (rL X) (spliced (backTo pos (starEach xs env))) (fun σ => evEs X.P hd C es ℓ σ)
  | [], es, R, hR, he, ih => by
    simp only [cEs, Option.some.injEq] at he; subst he
    intro σ ρ s I hr hb
    exact wpAny_pure (qok_same I (by simp only [evEs]) .nil)
  | x :: xs, es, R, hR, he, ih => by
    simp only [cEs] at he
    obtain ⟨e, e1, e2⟩ := Option.bind_eq_some_iff.mp he
    obtain ⟨es', e3, rfl⟩ := Option.map_eq_some_iff.mp e2
    have ns : ∀ v p, x ≠ .Starred v p := fun v p q => by subst q; simp [cE] at e1
    rw [starEach_cons ns]
    show Snd X A G stk env ℓ R (rL X) (eval x env >>= fun v => (Pure.pure [v] : Sem (List Value)) >>= fun here => (PySem.holding here (spliced (backTo pos (starEach xs env)))) >>= fun r => Pure.pure (here ++ r)) _
    have := Snd.bind (RS := rL X) (f := fun v σ => (evEs X.P hd C es' ℓ σ).bind fun vs σ => .ok (v :: vs) σ) hR (ih x (.head _) e e1).under (k := fun v => (Pure.pure [v] : Sem (List Value)) >>= fun here => (PySem.holding here (spliced (backTo pos (starEach xs env)))) >>= fun r => Pure.pure (here ++ r)) (fun v y => ?_)
    · exact this
    · refine Snd.skip (c := [y]) (fun _ _ _ q => wpAny_pure q) ?_
      refine Snd.bind (hR.and (rV_mono X v y)) (Snd.holding (snd_spliced (hR.and (rV_mono X v y)) e3 fun x' hx' => ih x' (.tail _ hx'))) fun vs ys => ?_
      exact Snd.pure fun ρ h r => .cons r.1.2 r.2

theorem snd_newList {vs : List V} {ys : List Value} (hR : ∀ ρ h, R ρ h → RvL X.toCx ρ h vs ys) (hz : vs.length ≤ 1000) : Snd X A G stk env ℓ R (rV X) (newList ys) (fun σ => .ok (.loc σ.length) (σ ++ [.list vs])) := by
  intro σ ρ s I hr hb
  have rl := hR _ _ hr
  obtain ⟨m, hm, _⟩ := I.fr.ns
  have hln := rl.length
  refine newList_N (frEmpty hm) (allNews_ok s.heap env.locals) (fun h' F' N' => ?_) (by rw [sizeLine_eq]; omega)
  obtain ⟨fz, I', rv⟩ := I.newList (s' := { s with heap := h' }) hm (get?_size _) rl F'.ns (fun b o hb e => (N' _ (.tail _ (mem_allNews e hb))).1) (N' _ (.head _)).1 rfl rfl ⟨rfl, rfl⟩ rfl rfl
  exact ⟨_, _, _, rfl, Rle.append _ _, fz, I', rv⟩
theorem snd_newTuple {vs : List V} {ys : List Value} (hR : ∀ ρ h, R ρ h → RvL X.toCx ρ h vs ys) (hz : vs.length ≤ 1000) : Snd X A G stk env ℓ R (rV X) (newTuple ys) (fun σ => .ok (.tup vs) σ) := by
  intro σ ρ s I hr hb
  have rl := hR _ _ hr
  obtain ⟨m, hm, _⟩ := I.fr.ns
  have hln := rl.length
  refine newTuple_N (frEmpty hm) (allNews_ok s.heap env.locals) (fun h' F' N' => ?_) (by rw [sizeLine_eq]; omega)
  obtain ⟨fz, I'⟩ := I.ofNews (s' := { s with heap := h' }) hm F'.ns (fun b o hb e => (N' _ (.tail _ (mem_allNews e hb))).1) rfl rfl
  exact ⟨_, _, _, rfl, Rle.refl _, fz, I', .tup _ 0 (N' _ (.head _)).1 rfl rfl (rl.mono (Rle.refl _) fz)⟩
end
end Mine
end

section
set_option maxRecDepth 100000
set_option linter.unusedVariables false
namespace Mine
open PySem PySem.W PySem.Calls PyProof.Rows

section
variable {X : Cy} {A : Around} {G : Heap} {stk : List Env} {env : Env} {ℓ : Loc} {σ : Store} {ρ : Rho} {s s' : Shared} {R : Rho → Heap → Prop}

theorem sub_eq {slice : Expr} (h : ∀ a b c p, slice ≠ .Slice a b c p) (o i : Value) : subscripted slice false o i = operate [o, i] (getItem o i) := by
  cases slice <;> first | rfl | exact absurd rfl (h _ _ _ _)

theorem idx_spec {l : List V} {i : Int} {v : V} (h : idx l i = some v) : (0 ≤ i ∧ i < 4611686018427387904 ∧ l[i.toNat]? = some v) ∨ (i = -1 ∧ l ≠ [] ∧ l[l.length - 1]? = some v) := by
  unfold idx at h
  split at h
  · rename_i q; exact .inl ⟨q.1, q.2, h⟩
  · split at h
    · rename_i q
      refine .inr ⟨q, fun e => by subst e; simp at h, ?_⟩
      rwa [List.getLast?_eq_getElem?] at h
    · cases h

theorem scriptAt (hS : ∃ o n items, X.G0.get? X.scr = some o ∧ o.cls = .type "list" ∧ o.data = .seq (List.toArray items) n ∧ RvL X.toCx [] X.G0 (X.P.ns.map .int) items) (I : Inv X G stk env ℓ σ ρ s) :
    ∃ items n o, s.heap.get? X.scr = some o ∧ o.cls = .type "list" ∧ o.data = .seq (List.toArray items) n ∧ RvL X.toCx ρ s.heap (X.P.ns.map .int) items := by
  obtain ⟨o, n, items, h1, h2, h3, h4⟩ := hS
  exact ⟨items, n, o, I.frBase h1, h2, h3, h4.mono (rle0 _) (fz0 I)⟩

theorem wp_itemList {l : List V} {items : List Value} {a : Addr} {o : Obj} {n : Nat} {i : Int} {u : Tok} {v : V} {value slice : Expr} {Q : Value → Shared → Prop} {E : Value → Shared → Prop} (h1 : s.heap.get? a = some o) (h2 : o.cls = .type "list") (h3 : o.data = .seq (List.toArray items) n) (rl : RvL X.toCx ρ s.heap l items)
    (hi : idx l i = some v) (hs : ∀ a b c p, slice ≠ .Slice a b c p) (h : ∀ y, Rv X.toCx ρ s.heap v y → Q y s) : wpAny (model X.prog X.w) A (subscriptTail value slice (.ref a) (.int i u)) Q E s := by
  have hl := isList_of h1 h2 h3
  refine tail_any hl.typeIs slot_list_getitem.lookup ?_ (sub_eq hs _ _)
  have hln := rl.length
  rcases idx_spec hi with ⟨i0, i1, e⟩ | ⟨rfl, ne, e⟩
  · obtain ⟨y, ey, ry⟩ := rl.get e
    exact wpAny_getItem_list hl i0 (by omega) (by simpa using ey) (h y ry)
  · obtain ⟨y, ey, ry⟩ := rl.get e
    have hpos : 0 < l.length := List.length_pos_iff.mpr ne
    refine kde_getNeg hl (by omega) (by omega) (seqIndex_neg (by omega) (by omega)) ?_ (h y ry)
    rw [← ey]; congr 1; omega
theorem wp_itemTup {l : List V} {items : List Value} {a : Addr} {o : Obj} {n : Nat} {i : Int} {u : Tok} {v : V} {value slice : Expr} {Q : Value → Shared → Prop} {E : Value → Shared → Prop} (h1 : s.heap.get? a = some o) (h2 : o.cls = .type "tuple") (h3 : o.data = .seq (List.toArray items) n) (rl : RvL X.toCx ρ s.heap l items)
    (hi : idx l i = some v) (hs : ∀ a b c p, slice ≠ .Slice a b c p) (h : ∀ y, Rv X.toCx ρ s.heap v y → Q y s) : wpAny (model X.prog X.w) A (subscriptTail value slice (.ref a) (.int i u)) Q E s := by
  have hl : IsTup s.heap a items.toArray := ⟨o, h1, h2, n, h3⟩
  have hln := rl.length
  rcases idx_spec hi with ⟨i0, i1, e⟩ | ⟨rfl, ne, e⟩
  · obtain ⟨y, ey, ry⟩ := rl.get e
    have : i.toNat < items.length := (List.getElem?_eq_some_iff.mp ey).1
    exact item_tupleT hl (by omega) (by omega) (seqIndex_of i0 (by omega)) ey (h y ry) (sub_eq hs _ _)
  · obtain ⟨y, ey, ry⟩ := rl.get e
    have hpos : 0 < l.length := List.length_pos_iff.mpr ne
    refine item_tupleT hl (by omega) (by omega) (seqIndex_neg (by omega) (by omega)) ?_ (h y ry) (sub_eq hs _ _)
    rw [← ey]; congr 1; omega

theorem snd_sub (hS : ∃ o n items, X.G0.get? X.scr = some o ∧ o.cls = .type "list" ∧ o.data = .seq (List.toArray items) n ∧ RvL X.toCx [] X.G0 (X.P.ns.map .int) items) {value slice : Expr} (hs : ∀ a b c p, slice ≠ .Slice a b c p) {a k : V} {x y : Value} (hR : ∀ ρ h, R ρ h → Rv X.toCx ρ h a x ∧ Rv X.toCx ρ h k y) :
    Snd X A G stk env ℓ R (rV X) (subscriptTail value slice x y) (fun σ => .ofOpt σ (subV X.P a k σ)) := by
  intro σ ρ s I hr hb
  obtain ⟨ra, rk⟩ := hR _ _ hr
  obtain ⟨v, hv⟩ := ofOpt_bad hb
  have fin : ∀ {z : Value} {tk : Nat}, Rv X.toCx ρ s.heap v z → Qok X G stk env ℓ (rV X) (Out.ofOpt σ (subV X.P a k σ)) ρ s z { s with toks := tk } := fun rz => qok_same I (by rw [hv]; rfl) rz
  have fin0 : ∀ {z : Value}, Rv X.toCx ρ s.heap v z → Qok X G stk env ℓ (rV X) (Out.ofOpt σ (subV X.P a k σ)) ρ s z s := fun rz => qok_same I (by rw [hv]; rfl) rz
  unfold subV at hv
  split at hv
  · obtain ⟨b, items, n, o, rfl, h1, h2, h3, h4⟩ := tup_inv ra
    cases rk
    exact wp_itemTup h1 h2 h3 h4 hv hs fun y ry => fin0 ry
  · cases ra
    cases rk
    obtain ⟨items, n, o, h1, h2, h3, h4⟩ := scriptAt hS I
    exact wp_itemList h1 h2 h3 h4 hv hs fun y ry => fin0 ry
  · split at hv
    · rename_i n k l e0
      obtain ⟨b, items, kk, o, rfl, _, h1, h2, h3, h4⟩ := I.listAt ra e0
      split at hv
      · cases rk
        exact wp_itemList h1 h2 h3 h4 hv hs fun y ry => fin0 ry
      · cases hv
    · cases hv
  · cases hv
end
end Mine
end

section

end

section
set_option maxRecDepth 100000
set_option linter.unusedVariables false
namespace Mine
open PySem PySem.W PySem.Calls PyProof.Rows

section
variable {M : Model} {A : Around} {E : Value → Shared → Prop} {s : Shared}
/-- a call's keeper is a frame or the machine -/
noncomputable def Kept (M : Model) (A : Around) (f : Value) (s : Shared) : Prop := (∀ (Q : Keeper → Shared → Prop) (E : Value → Shared → Prop), Q .frame s → wpAny M A (keeperOf f) Q E s) ∨ ∀ (Q : Keeper → Shared → Prop) (E : Value → Shared → Prop), Q .machine s → wpAny M A (keeperOf f) Q E s

theorem star_plain {es : List Expr} {env : Env} {pos : Pos} (h : ∀ e ∈ es, ∀ v p, e ≠ .Starred v p) : (backTo pos (starEach es env)).any (·.1) = false ∧ (backTo pos (starEach es env)).length = es.length := by
  induction es with
  | nil => exact ⟨rfl, rfl⟩
  | cons e es ih =>
    obtain ⟨a, b⟩ := ih fun e' he' => h e' (.tail _ he')
    rw [starEach_cons (h e (.head _))]
    unfold backTo at a b ⊢
    simp only [List.map_cons, List.any_cons, List.length_cons]
    exact ⟨by rw [a]; rfl, by rw [b]⟩

theorem evalArgs_any {f : Value} {args : List (Bool × Sem Value)} {Q : Args → Shared → Prop} (hp : args.any (·.1) = false) (h : wpAny M A (spliced args) (fun vs s₁ => Q ⟨vs, []⟩ s₁) E s) : wpAny M A (evalArgs f true args []) Q E s := by
  cases args with
  | nil =>
    unfold evalArgs
    show wpAny M A (spliced [] >>= _) Q E s
    refine wpAny_bind (wpAny_mono h (fun vs s₁ q => wpAny_bind (wpAny_pure (wpAny_holding ?_))) fun _ _ x => x)
    exact wpAny_bind (wpAny_pure (wpAny_bind (wpAny_pure (wpAny_pure q))))
  | cons a r =>
    obtain ⟨b, t⟩ := a
    simp only [List.any_cons, Bool.or_eq_false_iff] at hp
    obtain ⟨hb, hr⟩ := hp
    subst hb
    exact evalArgs_plain h

theorem wp_callWith {pos : Pos} {f : Value} {first : List Value} {args : List (Bool × Sem Value)} {Q : Value → Shared → Prop} (hp : args.any (·.1) = false) (hl : args.length < 30)
    (h : wpAny M A (spliced args) (fun vs s₁ => Kept M A f s₁ ∧ wpAny M A (call f (first ++ vs)) Q E s₁) E s) : wpAny M A (callWith pos f first args []) Q E s := by
  unfold callWith
  refine wpAny_bind (wpAny_holding (evalArgs_any hp (wpAny_mono h (fun vs s₁ h₁ => wpAny_bind (wpAny_standAt ?_)) fun _ _ x => x)))
  simp only [hp, List.any_nil, Bool.or_false]
  have tail : ∀ {t : Sem Value}, wpAny M A t Q E s₁ → wpAny M A (t >>= fun r => holding [r] point >>= fun _ => pure r) Q E s₁ :=
    fun ht => wpAny_bind (wpAny_mono ht (fun r s₂ hr => wpAny_bind (wpAny_holding (wpAny_point' (wpAny_pure hr)))) fun _ _ x => x)
  rcases h₁.1 with k | k
  · refine wpAny_bind (k _ _ ?_)
    dsimp only
    rw [if_neg (by simp only [List.length_nil]; omega)]
    exact tail (by unfold callMarked; exact Calls.wpAny_keep h₁.2)
  · refine wpAny_bind (k _ _ ?_)
    exact tail h₁.2
end
end Mine
end

section
set_option maxRecDepth 100000
set_option linter.unusedVariables false
namespace Mine
open PySem PySem.W PySem.Calls PyProof.Rows

/-- a def as the row's top has laid it -/
structure FnAt (X : Cy) (f : Str) (d : FnD) : Prop where
  at_ : ∃ a o fd body, X.al f = some a ∧ X.G0.get? a = some o ∧ o.data = .func fd ∧ fd.body = .stmts body ∧ cFn fd.params fd.scope body = some d ∧ fd.globals = mainGlobals ∧ fd.builtins = builtinsNs ∧ fd.closure = [] ∧ fd.defaults = .none ∧ X.G0.CodeRec fd.code fd.qualname

/-- an exception class of the text's own -/
noncomputable def ExcAt (X : Cy) (C : Addr) : Prop := ∃ (nm q : Str) (N : Addr) (bs bm : List Value) (hdct : Bool) (sn : List Str) (sub : List Value) (ab : Bool) (col : Option Bool) (dd : Option Addr) (k0 k1 k2 k3 k5 : Option Value) (newId : String) (mN : Str → Option Value) (Bn inN B nid initId : String) (bmN bmB : List Value),
  ExcBaseFacts Bn newId inN bmN ∧ bmB.contains (.type Bn) = true ∧ ExcBaseFacts B nid initId bmB ∧ bm.contains (.type "BaseException") = true ∧ mN "__init__" = none ∧ X.G0.get? C = some (excClassObj nm q C N bs bm hdct sn sub ab col dd k0 k1 k2 k3 k5 newId) ∧ X.G0.Ns N mN ∧ OwnTail X.G0 bmB bm
/-- an exception met by a handler's class, or asked for its class -/
noncomputable def IsaAt (X : Cy) (C : Addr) (y : Value) (r : Bool) : Prop := ∀ (A : Around) (E : Value → Shared → Prop) (s : Shared) (e : Addr) (o : Obj) (vs : Array Value), (∀ b o, X.G0.get? b = some o → s.heap.get? b = some o) → s.heap.get? e = some o → o.cls = .ref C → o.data = .fields vs →
  ∀ Q : Value → Shared → Prop, (∀ tk, Q (.bool r) { s with toks := tk }) → wpAny (model X.prog X.w) A (call (.builtin "isinstance") [.ref e, y]) Q E s
noncomputable def ExmAt (X : Cy) (C : Addr) (y : Value) (r : Bool) : Prop := ∀ (A : Around) (E : Value → Shared → Prop) (s : Shared) (e : Addr) (o : Obj) (vs : Array Value), (∀ b o, X.G0.get? b = some o → s.heap.get? b = some o) → s.heap.get? e = some o → o.cls = .ref C → o.data = .fields vs →
  ∀ Q : Bool → Shared → Prop, Q r s → wpAny (model X.prog X.w) A (excMatches (.ref e) y) Q E s

structure BaseOk (X : Cy) : Prop where
  exc : ∀ c, X.P.exc c = true → X.P.glob c = some (.cls c) ∧ ∃ C, X.al c = some C ∧ ExcAt X C
  isa : ∀ c v r, X.P.isa c v = some r → ∀ C y, X.al c = some C → Rv X.toCx [] X.G0 v y → IsaAt X C y r
  exm : ∀ c d r, X.P.isa c (.cls d) = some r → ∀ C D, X.al c = some C → X.al d = some D → ExmAt X C (.ref D) r
  gl : GlobOk X
  lim : X.G0.NoLimit
  scr : ∃ o n items, X.G0.get? X.scr = some o ∧ o.cls = .type "list" ∧ o.data = .seq (List.toArray items) n ∧ RvL X.toCx [] X.G0 (X.P.ns.map .int) items
  fn : ∀ f d, X.P.fn f = some d → FnAt X f d

theorem lookup_mem {β : Type} {l : List (Str × β)} {x : Str} {v : β} (h : l.lookup x = some v) : (x, v) ∈ l := by
  induction l with
  | nil => cases h
  | cons p r ih =>
    obtain ⟨y, u⟩ := p
    rw [List.lookup] at h
    split at h
    · rename_i q; cases h; rw [eq_of_beq q]; exact .head _
    · exact .tail _ (ih h)

section
variable {X : Cy} {A : Around} {G : Heap} {stk : List Env} {env : Env} {ℓ : Loc} {σ : Store} {ρ : Rho} {s s' : Shared} {R : Rho → Heap → Prop} {α β : Type}

end
end Mine
end

section
set_option maxRecDepth 100000
set_option linter.unusedVariables false
namespace Mine
open PySem PySem.W PySem.Calls PyProof.Rows

/-- what is asked of the calls that a text makes -/
structure COk (X : Cy) (C : V → List V → Store → Out V) (hd : Bool) (D U : Nat) : Prop where
  snd : ∀ (A : Around) (G : Heap) (stk : List Env) (env : Env) (ℓ : Loc) (f : V) (as : List V) (x : Value) (ys : List Value), AOk A stk hd D U → env.frame = (stk.head?.bind (·.frame)) →
    Snd X A G stk env ℓ (fun ρ h => Rv X.toCx ρ h f x ∧ RvL X.toCx ρ h as ys) (rV X) (call x ys) (fun σ => C f as σ)
  fn : ∀ f as σ, C (.fn f) as σ ≠ .bad → ∃ d, X.P.fn f = some d
  oth : ∀ v as σ, C v as σ ≠ .bad → (∃ f, v = .fn f) ∨ (∃ b, v = .bi b) ∨ ∃ t, v = .ty t

section
variable {X : Cy} {A : Around} {G : Heap} {stk : List Env} {env : Env} {ℓ : Loc} {σ : Store} {ρ : Rho} {s s' : Shared} {R : Rho → Heap → Prop} {α β : Type}

theorem kept_fn (B : BaseOk X) (I : Inv X G stk env ℓ σ ρ s) {f : Str} {d : FnD} {a : Addr} (hd : X.P.fn f = some d) (ha : X.al f = some a) : Kept (model X.prog X.w) A (.ref a) s := by
  obtain ⟨a', o, fd, body, h1, h2, h3, _⟩ := (B.fn f d hd).at_
  rw [ha] at h1; cases h1
  refine .inl fun Q E q => ?_
  unfold keeperOf
  refine wpAny_bind (wpAny_load (I.frBase h2) ?_)
  rw [h3]
  exact wpAny_pure q
theorem kept_bi {b : String} : Kept (model X.prog X.w) A (.builtin b) s := .inr fun Q E q => wpAny_pure q
theorem kept_ty {b : String} : Kept (model X.prog X.w) A (.type b) s := .inr fun Q E q => wpAny_pure q

theorem Snd.callWith {RS : V → Value → Rho → Heap → Prop} (hR : HMono R) {f : Value} {first : List Value} {pos : Pos} {sc : Scope} {xs : List Expr} {es : List E} {hd : Bool} {C : V → List V → Store → Out V} {k : List V → Store → Out V} (hes : cEs sc xs = some es) (hl : xs.length < 29)
    (has : ∀ x ∈ xs, ∀ e, cE sc x = some e → EOk X G stk env ℓ A x (fun σ => evE X.P hd C e ℓ σ)) (hk : ∀ σ ρ s vs, Inv X G stk env ℓ σ ρ s → k vs σ ≠ .bad → R ρ s.heap → Kept (model X.prog X.w) A f s)
    (h : ∀ vs ys, Snd X A G stk env ℓ (fun ρ h => R ρ h ∧ RvL X.toCx ρ h vs ys) RS (call f (first ++ ys)) (k vs)) :
    Snd X A G stk env ℓ R RS (PySem.callWith pos f first (backTo pos (starEach xs env)) []) (fun σ => (evEs X.P hd C es ℓ σ).bind k) := by
  intro σ ρ s I hr hb
  have ns : ∀ e ∈ xs, ∀ v p, e ≠ .Starred v p := by
    have : ∀ {xs : List Expr} {es : List E}, cEs sc xs = some es → ∀ e ∈ xs, ∀ v p, e ≠ .Starred v p := by
      intro xs
      induction xs with
      | nil => intro es _ e he; cases he
      | cons y ys ih =>
        intro es he e hm v p q
        simp only [cEs] at he
        obtain ⟨e', e1, e2⟩ := Option.bind_eq_some_iff.mp he
        obtain ⟨es', e3, _⟩ := Option.map_eq_some_iff.mp e2
        cases hm with
        | head => subst q; simp [cE] at e1
        | tail _ hm => exact ih e3 e hm v p q
    exact this hes
  obtain ⟨h1, h2⟩ := star_plain (env := env) (pos := pos) ns
  have hb' : evEs X.P hd C es ℓ σ ≠ .bad := fun q => hb (by simp only [q, Out.bind])
  refine wp_callWith h1 (by omega) (wpAny_mono (snd_spliced (pos := pos) hR hes has σ ρ s I hr hb') (fun ys s' ⟨vs, σ', ρ', e, le, fz, I', rl⟩ => ?_) fun e s' ⟨c, σ', ρ', e', le, fz, I', fl⟩ => ⟨c, σ', ρ', by have e' : evEs X.P hd C es ℓ σ = .exc c σ' := e'; simp only [e', Out.bind], le, fz, I', fl⟩)
  have e : evEs X.P hd C es ℓ σ = .ok vs σ' := e
  have e2 : (evEs X.P hd C es ℓ σ).bind k = k vs σ' := by rw [e]; rfl
  simp only [e2] at hb ⊢
  refine ⟨hk σ' ρ' s' vs I' hb (hR _ _ _ _ le fz hr), wpAny_mono (h vs ys σ' ρ' s' I' ⟨hR _ _ _ _ le fz hr, rl⟩ hb) ?_ ?_⟩
  · intro d s'' ⟨c, σ'', ρ'', e', le', fz', I'', rs⟩
    exact ⟨c, σ'', ρ'', e', le.trans le', fz.trans fz', I'', rs⟩
  · intro e s'' ⟨c, σ'', ρ'', e', le', fz', I'', fl⟩
    exact ⟨c, σ'', ρ'', e', le.trans le', fz.trans fz', I'', fl⟩

theorem Inv.isL (I : Inv X G stk env ℓ σ ρ s) {n : Nat} {l : List V} {x : Value} (h : Rv X.toCx ρ s.heap (.loc n) x) (e : σ[n]? = some (.list l)) :
    ∃ a items k, x = .ref a ∧ ρ[n]? = some (a, a) ∧ PySem.IsL s.heap a (List.toArray items) k ∧ RvL X.toCx ρ s.heap l items := by
  obtain ⟨p, rfl, hp⟩ := loc_inv h
  obtain ⟨p', hp', hc⟩ := I.cellOf e
  rw [hp] at hp'; cases hp'
  obtain ⟨q, o, k, items, a1, a2, a3, a4, a5, a6⟩ := hc
  refine ⟨p.1, items, k, rfl, ?_, ?_, a4⟩
  · rw [hp]; obtain ⟨p1, p2⟩ := p; simp only at q; rw [q]
  · show s.heap.get? p.1 = _
    obtain ⟨oc, od, oda, osl⟩ := o
    simp only at a2 a3 a5 a6
    subst a2 a3 a5 a6
    exact a1

theorem cEs_nil {sc : Scope} {as : List Expr} (h : cEs sc as = some []) : as = [] := by
  cases as with
  | nil => rfl
  | cons x xs =>
    simp only [cEs] at h
    obtain ⟨e', e1, e2⟩ := Option.bind_eq_some_iff.mp h
    obtain ⟨es', e3, e4⟩ := Option.map_eq_some_iff.mp e2
    cases e4
theorem cEs_cons {sc : Scope} {as : List Expr} {e : E} {es : List E} (h : cEs sc as = some (e :: es)) : ∃ x xs, as = x :: xs ∧ cE sc x = some e ∧ cEs sc xs = some es := by
  cases as with
  | nil => simp [cEs] at h
  | cons x xs =>
    simp only [cEs] at h
    obtain ⟨e', e1, e2⟩ := Option.bind_eq_some_iff.mp h
    obtain ⟨es', e3, e4⟩ := Option.map_eq_some_iff.mp e2
    cases e4
    exact ⟨x, xs, rfl, e1, e3⟩
end
end Mine
end

section
set_option maxRecDepth 100000
set_option linter.unusedVariables false
namespace Mine
open PySem PySem.W PySem.Calls PyProof.Rows

/-- a heap of what a function says -/
noncomputable def mkHeap (n : Nat) (f : Addr → Option Obj) : Heap := ⟨Array.ofFn (n := n) fun i => (f i.val).getD { cls := .none, data := .freed }, {}⟩
theorem mkHeap_get {n : Nat} {f : Addr → Option Obj} (hf : ∀ b o, f b = some o → b < n ∧ o.isFreed = false) (b : Addr) : (mkHeap n f).get? b = f b := by
  cases q : f b with
  | some o =>
    obtain ⟨h1, h2⟩ := hf b o q
    refine Heap.get?_some_iff.mpr ⟨?_, h2⟩
    unfold mkHeap
    simp [h1, q]
  | none =>
    cases z : (mkHeap n f).get? b with
    | none => rfl
    | some o =>
      obtain ⟨e1, e2⟩ := Heap.get?_some_iff.mp z
      unfold mkHeap at e1
      simp only [Array.getElem?_ofFn] at e1
      split at e1
      · simp only [q, Option.getD_none, Option.some.injEq] at e1
        subst e1
        cases e2
      · cases e1
theorem get?_ok {h : Heap} {b : Addr} {o : Obj} (e : h.get? b = some o) : b < h.objs.size ∧ o.isFreed = false := ⟨Heap.lt_size e, (Heap.get?_some_iff.mp e).2⟩

/-- what a frame's run may change -/
noncomputable def muts (ρ : Rho) (env : Env) : List Addr := env.locals :: ((if env.func.isSome then env.cells.map (·.2) else []) ++ ρ.flatMap fun p => [p.1, p.2])
noncomputable def prot (h : Heap) (ρ : Rho) (env : Env) : Heap := mkHeap h.objs.size fun b => if b ∈ muts ρ env then none else h.get? b
theorem prot_get (h : Heap) (ρ : Rho) (env : Env) (b : Addr) : (prot h ρ env).get? b = if b ∈ muts ρ env then none else h.get? b := by
  unfold prot
  rw [mkHeap_get]
  intro b o e
  split at e
  · cases e
  · exact get?_ok e
theorem mem_muts_rho {ρ : Rho} {env : Env} {n : Nat} {p : Addr × Addr} (h : ρ[n]? = some p) : p.1 ∈ muts ρ env ∧ p.2 ∈ muts ρ env := by
  have hm := List.mem_of_getElem? h
  constructor
  · exact .tail _ (List.mem_append_right _ (List.mem_flatMap.mpr ⟨p, hm, by simp⟩))
  · exact .tail _ (List.mem_append_right _ (List.mem_flatMap.mpr ⟨p, hm, by simp⟩))
theorem mem_muts {ρ : Rho} {env : Env} {b : Addr} (h : b ∈ muts ρ env) : b = env.locals ∨ (env.func.isSome = true ∧ ∃ x, (x, b) ∈ env.cells) ∨ ∃ (n : Nat) (p : Addr × Addr), ρ[n]? = some p ∧ (b = p.1 ∨ b = p.2) := by
  unfold muts at h
  rcases List.mem_cons.mp h with h | h
  · exact .inl h
  · rcases List.mem_append.mp h with h | h
    · split at h
      · rename_i hf
        obtain ⟨⟨x, c⟩, h1, h2⟩ := List.mem_map.mp h
        exact .inr (.inl ⟨hf, x, h2 ▸ h1⟩)
      · cases h
    · obtain ⟨p, h1, h2⟩ := List.mem_flatMap.mp h
      obtain ⟨n, hn, e⟩ := List.mem_iff_getElem.mp h1
      refine .inr (.inr ⟨n, p, by rw [List.getElem?_eq_getElem hn, e], by simpa using h2⟩)

section
variable {X : Cy} {A : Around} {G : Heap} {stk : List Env} {env : Env} {ℓ ℓ' : Loc} {σ σ' : Store} {ρ ρ' : Rho} {s s' : Shared} {R : Rho → Heap → Prop} {α β : Type}

/-- a frame's cells are told by their names -/
noncomputable def CellsNd (env : Env) : Prop := ∀ x c, (x, c) ∈ env.cells → env.cells.lookup x = some c

theorem muts_free (I : Inv X G stk env ℓ σ ρ s) (hc : CellsNd env) {b : Addr} (h : b ∈ muts ρ env) : G.get? b = none := by
  rcases mem_muts h with rfl | ⟨hf, x, hx⟩ | ⟨n, p, hp, rfl | rfl⟩
  · exact I.ownL.1
  · exact (I.ownC hf x b (hc x b hx)).1
  · exact (I.fresh n p hp).1
  · exact (I.fresh n p hp).2

theorem Inv.protect (I : Inv X G stk env ℓ σ ρ s) (hc : CellsNd env) : Inv X (prot s.heap ρ env) stk env ℓ σ ρ s :=
  { keep := fun b o e => by
      rw [prot_get] at e
      split at e
      · cases e
      · exact ⟨o.slots, e, fun _ => rfl⟩
    base := fun b o e => by
      rw [prot_get]
      split
      · rename_i hm; have := muts_free I hc hm; rw [I.base b o e] at this; cases this
      · exact I.frBase e
    ff := I.ff, fd := I.fd, fr := I.fr
    ownL := ⟨by rw [prot_get, if_pos (.head _)], I.ownL.2⟩
    ownC := fun hf x c hx => by
      obtain ⟨h1, h2, h3⟩ := I.ownC hf x c hx
      refine ⟨?_, h2, h3⟩
      rw [prot_get, if_pos]
      unfold muts
      rw [hf]
      refine .tail _ (List.mem_append_left _ (List.mem_map.mpr ⟨(x, c), ?_, rfl⟩))
      exact lookup_mem hx
    len := I.len, cells := I.cells, sep := I.sep
    fresh := fun n p hp => by rw [prot_get, prot_get, if_pos (mem_muts_rho hp).1, if_pos (mem_muts_rho hp).2]; exact ⟨rfl, rfl⟩
    gens := I.gens, os := I.os }

theorem Inv.weaken {G' : Heap} (I' : Inv X G' stk env ℓ' σ' ρ' s') (hk : KeepG stk G s'.heap) (hb : ∀ b o, X.G0.get? b = some o → G.get? b = some o) (hn : ∀ b, G'.get? b = none → (∀ o, s.heap.get? b = some o → b ∈ muts ρ env) → G.get? b = none)
    (hl : ∀ b, G'.get? b = none → G.get? b = none) : Inv X G stk env ℓ' σ' ρ' s' :=
  { keep := hk, base := hb, ff := I'.ff, fd := I'.fd, fr := I'.fr, ownL := ⟨hl _ I'.ownL.1, I'.ownL.2⟩
    ownC := fun hf x c hx => let ⟨a, b, c'⟩ := I'.ownC hf x c hx; ⟨hl _ a, b, c'⟩
    len := I'.len, cells := I'.cells, sep := I'.sep, fresh := fun n p hp => ⟨hl _ (I'.fresh n p hp).1, hl _ (I'.fresh n p hp).2⟩, gens := I'.gens, os := I'.os }

/-- behind a run that was held to a frame's own things -/
theorem Inv.restore (I : Inv X G stk env ℓ σ ρ s) (hc : CellsNd env) (I' : Inv X (prot s.heap ρ env) stk env ℓ' σ' ρ' s') : Inv X G stk env ℓ' σ' ρ' s' ∧ ∀ b o, s.heap.get? b = some o → b ∉ muts ρ env → b ∉ frs stk → s'.heap.get? b = some o := by
  refine ⟨I'.weaken (s := s) (ρ := ρ) (fun b o e => ?_) I.base (fun b e _ => ?_) fun b e => ?_, fun b o e h1 h2 => ?_⟩
  · obtain ⟨sl, e1, e2⟩ := I.keep b o e
    have hm : b ∉ muts ρ env := fun hm => by rw [muts_free I hc hm] at e; cases e
    obtain ⟨sl', e3, e4⟩ := I'.keep b { o with slots := sl } (by rw [prot_get, if_neg hm]; exact e1)
    exact ⟨sl', e3, fun hn => (e4 hn).trans (e2 hn)⟩
  · cases q : G.get? b with
    | none => rfl
    | some o =>
      obtain ⟨sl, e1, _⟩ := I.keep b o q
      rw [prot_get] at e
      split at e
      · rename_i hm; rw [muts_free I hc hm] at q; cases q
      · rw [e1] at e; cases e
  · cases q : G.get? b with
    | none => rfl
    | some o =>
      obtain ⟨sl, e1, _⟩ := I.keep b o q
      rw [prot_get] at e
      split at e
      · rename_i hm; rw [muts_free I hc hm] at q; cases q
      · rw [e1] at e; cases e
  · obtain ⟨sl, e1, e2⟩ := I'.keep b o (by rw [prot_get, if_neg h1]; exact e)
    rw [e2 h2] at e1
    exact e1
end
end Mine
end

section
set_option maxRecDepth 100000
set_option linter.unusedVariables false
namespace Mine
open PySem PySem.W PySem.Calls PyProof.Rows

section
variable {X : Cy} {A : Around} {G : Heap} {stk : List Env} {env : Env} {ℓ : Loc} {σ : Store} {ρ : Rho} {s s' : Shared} {R : Rho → Heap → Prop}

/-- a record that is no cell, no frame's and none of the kept things may change -/
theorem Inv.recChgF (I : Inv X G stk env ℓ σ ρ s) {a : Addr} {o : Obj} {vs : Array Value} (hG : G.get? a = none) (ho : s.heap.get? a = some o) (fz : Fz s.heap s'.heap) (hd : o.data = .fields vs) (hs : ∀ b ob, b ≠ a → s.heap.get? b = some ob → s'.heap.get? b = some ob) (hg : s'.gens = s.gens) (hos : s'.os = s.os) :
    Fz s.heap s'.heap ∧ Inv X G stk env ℓ σ ρ s' := by
  have nL : a ≠ env.locals := fun q => by
    obtain ⟨m, hm, _⟩ := I.fr.ns
    obtain ⟨oL, h1, h2⟩ := ns_at hm
    rw [← q, ho] at h1; cases h1; exact h2 vs hd
  refine ⟨fz, I.chg (fun b => b = a) fz (fun b ob e q => hs b ob q e) (fun b q => q ▸ hG) (I.fr.mono (Rle.refl _) fz (fun oL e => ⟨oL, hs _ _ (Ne.symm nL) e, rfl⟩) fun x c _ oc e hcl hy => ⟨oc, hs _ _ (fun q => ?_) e, rfl, rfl⟩) I.ownL.2 I.len (fun n c p e1 e2 => ?_) I.sep I.fresh hg hos⟩
  · obtain ⟨y, hy⟩ := hy
    rw [q, ho] at e; cases e
    rw [hd] at hy; cases hy
  · obtain ⟨⟨o1, a1, _, n1⟩, ⟨o2, a2, _, n2⟩⟩ := (I.cells n c p e1 e2).at
    have h1 : p.1 ≠ a := fun q => by rw [q, ho] at a1; cases a1; exact n1 vs hd
    have h2 : p.2 ≠ a := fun q => by rw [q, ho] at a2; cases a2; exact n2 vs hd
    exact (I.cells n c p e1 e2).mono (Rle.refl _) fz (fun o e => hs _ _ h1 e) (fun o e => hs _ _ h2 e)

end
end Mine
end

section
set_option maxRecDepth 100000
set_option linter.unusedVariables false
namespace Mine
open PySem PySem.W PySem.Calls PyProof.Rows

section
variable {X : Cy} {A : Around} {G : Heap} {stk : List Env} {env : Env} {ℓ ℓ' : Loc} {σ : Store} {ρ : Rho} {s s' : Shared} {R : Rho → Heap → Prop}

theorem cTo_spec {sc : Scope} {x : Str} {i : Nat} (e : cTo sc x = some i) : badName x = false ∧ ∃ k, kindIdx sc x = some (i, k) ∧ (k = .local ∨ k = .cell) := by
  unfold cTo at e
  split at e
  · cases e
  · rename_i hb
    refine ⟨by simpa using hb, ?_⟩
    split at e <;> first | (cases e; rename_i q; exact ⟨_, q, by simp⟩) | cases e

theorem wp_asgName {sc : Scope} (hs : ScOk sc env) {x : Str} {i : Nat} (he : cTo sc x = some i) (hf : ∀ k, kindIdx sc x = some (i, k) → k = .cell → env.func.isSome = true) (I : Inv X G stk env ℓ σ ρ s) {v : V} {y : Value} (hv : Rv X.toCx ρ s.heap v y) {pos : Pos} {Q : Unit → Shared → Prop} {E : Value → Shared → Prop}
    (h : ∀ s', Fz s.heap s'.heap → Inv X G stk env (ℓ.set i (some v)) σ ρ s' → Q () s') : wpAny (model X.prog X.w) A (assign (.Name x pos) env y) Q E s := by
  obtain ⟨hn, k, e1, e2⟩ := cTo_spec he
  obtain ⟨k', f1, f2, f3⟩ := hs x i k e1
  show wpAny _ _ (do standAt pos; bindName env x y) _ _ _
  refine wpAny_bind (wpAny_standAt (wp_bindName I f1 f2 ?_ hv h))
  rcases e2 with rfl | rfl
  · rcases f3 with rfl | ⟨q, _⟩
    · exact .inl rfl
    · cases q
  · rcases f3 with rfl | ⟨q, _⟩
    · exact .inr ⟨rfl, hf _ e1 rfl⟩
    · cases q

/-- the targets of an assignment are names of a frame of its own, or no cells -/
noncomputable def TgtOk (sc : Scope) (env : Env) : Prop := ∀ x i, cTo sc x = some i → ∀ k, kindIdx sc x = some (i, k) → k = .cell → env.func.isSome = true

end
end Mine
end

section
set_option maxRecDepth 100000
set_option linter.unusedVariables false
namespace Mine
open PySem PySem.W PySem.Calls PyProof.Rows

section
variable {X : Cy} {A : Around} {G : Heap} {stk : List Env} {env : Env} {ℓ ℓ' : Loc} {σ σ' : Store} {ρ ρ' : Rho} {s s' : Shared} {R : Rho → Heap → Prop}

/-- behind a run of another frame: a frame's own state stands, but that the store's cells have changed -/
theorem Inv.back (I : Inv X G stk env ℓ σ ρ s) (le : Rle ρ ρ') (fz : Fz s.heap s'.heap)
    (Ex : Addr → Prop) (hEx : ∀ b, Ex b → G.get? b = none ∧ b ≠ env.locals ∧ ∀ o, s.heap.get? b = some o → ¬ isC o)
    (hk : ∀ b o, s.heap.get? b = some o → ¬ Ex b → (∀ (n : Nat) p, ρ[n]? = some p → b ≠ p.1 ∧ b ≠ p.2) → ∃ sl, s'.heap.get? b = some { o with slots := sl } ∧ (b ∉ frs stk → sl = o.slots))
    (hn : ∀ (n : Nat) p, ρ'[n]? = some p → ρ[n]? = some p ∨ (s.heap.get? p.1 = none ∧ s.heap.get? p.2 = none)) (len : ρ'.length = σ'.length)
    (cells : ∀ (n : Nat) c p, σ'[n]? = some c → ρ'[n]? = some p → CellOk X.toCx ρ' s'.heap p c)
    (sep : ∀ (n m : Nat) p q, ρ'[n]? = some p → ρ'[m]? = some q → n ≠ m → p.1 ≠ q.1 ∧ p.1 ≠ q.2 ∧ p.2 ≠ q.1 ∧ p.2 ≠ q.2) (hg : s'.gens = #[]) (ho : s'.os = X.os) : Inv X G stk env ℓ σ' ρ' s' := by
  obtain ⟨m, hm, hr⟩ := id I.fr.ns
  obtain ⟨oL, hL, _⟩ := ns_at hm
  have notRho : ∀ {b : Addr}, G.get? b ≠ none → ∀ (n : Nat) p, ρ[n]? = some p → b ≠ p.1 ∧ b ≠ p.2 := fun {b} hb n p hp => ⟨fun q => hb (q ▸ (I.fresh n p hp).1), fun q => hb (q ▸ (I.fresh n p hp).2)⟩
  refine { keep := fun b o e => ?_, base := I.base, ff := fz.funFrames I.ff, fd := fz.frD I.fd, fr := ?_, ownL := ⟨I.ownL.1, fun n p hp => ?_⟩, ownC := I.ownC, len := len, cells := cells, sep := sep, fresh := fun n p hp => ?_, gens := hg, os := ho }
  · obtain ⟨sl, e1, e2⟩ := I.keep b o e
    obtain ⟨sl', e3, e4⟩ := hk b _ e1 (fun q => by rw [(hEx b q).1] at e; cases e) (notRho (by rw [e]; simp))
    exact ⟨sl', e3, fun hb => (e4 hb).trans (e2 hb)⟩
  · refine I.fr.mono le fz (fun o e => ?_) fun x c hx o e hc hy => ?_
    · obtain ⟨sl, e3, _⟩ := hk _ o e (fun q => (hEx _ q).2.1 rfl) fun n p hp => ⟨(I.ownL.2 n p hp).1.symm, (I.ownL.2 n p hp).2.symm⟩
      exact ⟨_, e3, rfl⟩
    · obtain ⟨sl, e3, _⟩ := hk _ o e (fun q => (hEx _ q).2.2 o e hc) fun n p hp => ⟨(I.notCell hp e hc).1.symm, (I.notCell hp e hc).2.symm⟩
      exact ⟨_, e3, rfl, rfl⟩
  · rcases hn n p hp with h | ⟨h1, h2⟩
    · exact I.ownL.2 n p h
    · exact ⟨(fun q => by rw [q, hL] at h1; cases h1), (fun q => by rw [q, hL] at h2; cases h2)⟩
  · rcases hn n p hp with h | ⟨h1, h2⟩
    · exact I.fresh n p h
    · exact ⟨(I.fresh' h1).1, (I.fresh' h2).1⟩

/-- the same behind a frame that was held to its own things -/
theorem Inv.backProt (I : Inv X G stk env ℓ σ ρ s) {stk' : List Env} {cenv : Env} {ℓc : Loc} (hst : ∀ b o, s.heap.get? b = some o → b ∉ frs stk → b ∉ frs stk') (hcc : CellsNd cenv) (hcf : cenv.func.isSome = true → ∀ x c, (x, c) ∈ cenv.cells → s.heap.get? c = none) {s1 : Shared} (k1 : ∀ b o, s.heap.get? b = some o → s1.heap.get? b = some o)
    (hL : G.get? cenv.locals = none ∧ cenv.locals ≠ env.locals ∧ ∀ o, s.heap.get? cenv.locals = some o → ¬ isC o) (le : Rle ρ ρ') (fz : Fz s.heap s'.heap) (I' : Inv X (prot s1.heap ρ cenv) stk' cenv ℓc σ' ρ' s') : Inv X G stk env ℓ σ' ρ' s' := by
  refine I.back le fz (fun b => b = cenv.locals) (fun b q => q ▸ hL) (fun b o e hne hb => ?_) (fun n p hp => ?_) I'.len I'.cells I'.sep I'.gens I'.os
  · have hm : b ∉ muts ρ cenv := fun hm => by
      rcases mem_muts hm with rfl | ⟨hf, x, hx⟩ | ⟨n, p, hp, h | h⟩
      · exact hne rfl
      · rw [hcf hf x b hx] at e; cases e
      · exact (hb n p hp).1 h
      · exact (hb n p hp).2 h
    obtain ⟨sl, e1, e2⟩ := I'.keep b o (by rw [prot_get, if_neg hm]; exact k1 b o e)
    exact ⟨sl, e1, fun hq => e2 (hst b o e hq)⟩
  · obtain ⟨f1, f2⟩ := I'.fresh n p hp
    by_cases hq : n < ρ.length
    · have e := List.getElem?_eq_getElem hq
      have := le n _ e
      rw [hp] at this; cases this
      exact .inl e
    · refine .inr ⟨?_, ?_⟩
      · cases q : s.heap.get? p.1 with
        | none => rfl
        | some o =>
          rw [prot_get] at f1
          split at f1
          · rename_i hm
            rcases mem_muts hm with h | ⟨hf, x, hx⟩ | ⟨m, r, hr, h⟩
            · exact absurd h (I'.ownL.2 n p hp).1
            · rw [hcf hf x _ hx] at q; cases q
            · have hmn : n ≠ m := fun e => hq (e ▸ (List.getElem?_eq_some_iff.mp hr).1)
              obtain ⟨x1, x2, x3, x4⟩ := I'.sep n m p r hp (le m r hr) hmn
              rcases h with h | h
              · exact absurd h x1
              · exact absurd h x2
          · rw [k1 _ _ q] at f1; cases f1
      · cases q : s.heap.get? p.2 with
        | none => rfl
        | some o =>
          rw [prot_get] at f2
          split at f2
          · rename_i hm
            rcases mem_muts hm with h | ⟨hf, x, hx⟩ | ⟨m, r, hr, h⟩
            · exact absurd h (I'.ownL.2 n p hp).2
            · rw [hcf hf x _ hx] at q; cases q
            · have hmn : n ≠ m := fun e => hq (e ▸ (List.getElem?_eq_some_iff.mp hr).1)
              obtain ⟨x1, x2, x3, x4⟩ := I'.sep n m p r hp (le m r hr) hmn
              rcases h with h | h
              · exact absurd h x3
              · exact absurd h x4
          · rw [k1 _ _ q] at f2; cases f2

theorem FunFrames.rebase {h B B' : Heap} : ∀ {l : List Env}, h.FunFrames B l → (∀ b ∈ frs l, B'.get? b = none) → h.FunFrames B' l
  | [], _, _ => trivial
  | env :: l, ⟨hk, ⟨L, o, hf, hn, ho, hd⟩, hr⟩, hb => ⟨hk, ⟨L, o, hf, hb L (by simp [frs, List.filterMap_cons, hf]), ho, hd⟩, FunFrames.rebase hr fun b hm => hb b (by
      unfold frs at hm ⊢
      rw [List.filterMap_cons, hf]
      exact .tail _ hm)⟩

/-- all but some things of a heap -/
noncomputable def allBut (h : Heap) (l : List Addr) : Heap := mkHeap h.objs.size fun b => if b ∈ l then none else h.get? b
theorem allBut_get (h : Heap) (l : List Addr) (b : Addr) : (allBut h l).get? b = if b ∈ l then none else h.get? b := by
  unfold allBut
  rw [mkHeap_get]
  intro b o e
  split at e
  · cases e
  · exact get?_ok e

/-- a new entry of the traceback -/
theorem wp_entry {stk : List Env} {c : Str} {f ea C : Addr} {oe : Obj} {vs : Array Value} {head : Value} {hadNext : Bool} (I : Inv X G (env :: stk) env ℓ σ ρ s) (hF : A.frames = some (env :: stk)) (hf : env.frame = some f) (hC : X.al c = some C) (he : s.heap.get? ea = some oe) (hcls : oe.cls = .ref C) (hd : oe.data = .fields vs) (hG : G.get? ea = none) (hsz : 1 < vs.size)
    {Q : Unit → Shared → Prop} {E : Value → Shared → Prop} (h : ∀ s', Fz s.heap s'.heap → Inv X G (env :: stk) env ℓ σ ρ s' → (∀ f', Fly X G f' c (.ref ea) s'.heap) → Q () s') :
    wpAny (model X.prog X.w) A (do let a ← frameOf env; let pl ← entryPlaceOf f hadNext; let b ← EntryCells.newEntry head a .none (rawInt f) .none pl; setField (.ref ea) 1 b) (fun _ s' => wpAny (model X.prog X.w) A (setFlight (.ref ea) none) Q E s') E s := by
  have hfd : ∀ b ∈ frs (env :: stk), ∃ o es ep, s.heap.get? b = some o ∧ o.data = .dict es ep := I.fd
  have notF : ∀ b o, s.heap.get? b = some o → (∀ es ep, o.data ≠ .dict es ep) → b ∉ frs (env :: stk) := fun b o e0 hn hm => by
    obtain ⟨o', es, ep, g1, g2⟩ := hfd b hm
    rw [e0] at g1; cases g1; exact hn _ _ g2
  refine wpAny_newEntry (base := allBut s.heap (ea :: frs (env :: stk))) hF (FunFrames.rebase I.ff fun b hb => by rw [allBut_get, if_pos (.tail _ hb)]) hf he (fun b o e0 => ?_) (by rw [allBut_get, if_pos (.head _)]) hd hsz fun h' left => ?_
  · rw [allBut_get] at e0
    split at e0
    · cases e0
    · exact e0
  obtain ⟨l1, l2, l3, l4⟩ := left
  have kept : ∀ b o, s.heap.get? b = some o → b ≠ ea → b ∉ frs (env :: stk) → h'.get? b = some o := fun b o e0 h1 h2 => l1 b o (by
    rw [allBut_get, if_neg]
    · exact e0
    · intro hm
      rcases List.mem_cons.mp hm with q | q
      · exact h1 q
      · exact h2 q)
  have fz : Fz s.heap h' := fun b o e0 => by
    by_cases hq : b = ea
    · subst hq
      rw [he] at e0; cases e0
      obtain ⟨oe', vs'', T, oT, ts, g1, g2, g3, _⟩ := l3
      exact ⟨(fun _ ⟨_, _, q⟩ => by rw [hd] at q; cases q), (fun C' vs2 _ _ => ⟨oe', vs'', g1, g2, g3⟩), (fun z => absurd hd (z _)), (fun _ _ q => by rw [hd] at q; cases q)⟩
    · by_cases hb : b ∈ frs (env :: stk)
      · obtain ⟨o', es, ep, e', d'⟩ := hfd b hb
        rw [e0] at e'; cases e'
        obtain ⟨sl, e2⟩ := l4 b o e0 (by rw [d']; intro _ q; cases q)
        exact ⟨(fun _ ⟨_, _, q⟩ => by rw [d'] at q; cases q), (fun _ _ _ q => by rw [d'] at q; cases q), (fun z => ⟨_, e2, z⟩), fun es ep z => ⟨_, es, ep, e2, z⟩⟩
      · exact Fz.keep1 (kept b o e0 hq hb)
  refine h { s with heap := h' } fz
    { keep := fun b o e0 => ?_, base := I.base, ff := fz.funFrames I.ff, fd := fz.frD I.fd, fr := ?_, ownL := I.ownL, ownC := I.ownC, len := I.len, cells := fun n cc p e1 e2 => ?_, sep := I.sep, fresh := I.fresh, gens := I.gens, os := I.os } fun f' => ⟨?_⟩
  · obtain ⟨sl, e1, e2⟩ := I.keep b o e0
    have hne : b ≠ ea := fun q => by rw [q, hG] at e0; cases e0
    by_cases hb : b ∈ frs (env :: stk)
    · obtain ⟨o', es, ep, e', d'⟩ := hfd b hb
      rw [e1] at e'; cases e'
      obtain ⟨sl', e3⟩ := l4 b _ e1 (by rw [d']; intro _ z; cases z)
      exact ⟨sl', e3, fun z => absurd hb z⟩
    · exact ⟨sl, kept b _ e1 hne hb, e2⟩
  · refine I.fr.mono (Rle.refl _) fz (fun o e0 => ?_) fun x cc hx o e0 hc hy => ?_
    · obtain ⟨m, hm, _⟩ := I.fr.ns
      obtain ⟨o', es, ep, g1, g2, _⟩ := hm
      rw [e0] at g1; cases g1
      obtain ⟨sl, e3⟩ := l4 _ o e0 (by rw [g2]; intro _ z; cases z)
      exact ⟨_, e3, rfl⟩
    · obtain ⟨y, hy⟩ := hy
      exact ⟨o, kept _ o e0 (fun q => by rw [q, he] at e0; cases e0; rw [hd] at hy; cases hy) (notF _ o e0 (by rw [hy]; intro _ _ z; cases z)), rfl, rfl⟩
  · have hcc := I.cells n cc p e1 e2
    obtain ⟨l⟩ := cc
    obtain ⟨q, o, k, items, a1, a2, a3, a4⟩ := id hcc
    have hk : h'.get? p.1 = some o := kept _ o a1 (fun q => by rw [q, he] at a1; cases a1; rw [hd] at a3; cases a3) (notF _ o a1 (by rw [a3]; intro _ _ z; cases z))
    refine hcc.mono (Rle.refl _) fz (fun o' z => ?_) (fun o' z => ?_)
    · rw [a1] at z; cases z; exact hk
    · rw [q] at z ⊢; rw [a1] at z; cases z; exact hk
  · obtain ⟨oe', vs'', T, oT, ts, g1, g2, g3, g4, g5, g6, g7, g8, g9⟩ := l3
    refine ⟨ea, C, oe', vs'', rfl, hC, g1, g2.trans hcls, g3, hG, .inr ⟨T, oT, ts, g4, g6, ?_, g7, g8, g9⟩⟩
    cases q : G.get? T with
    | none => rfl
    | some o =>
      obtain ⟨sl, e1, e2⟩ := I.keep T o q
      rw [allBut_get] at g5
      split at g5
      · rename_i hm
        rcases List.mem_cons.mp hm with z | z
        · exact absurd z g6
        · obtain ⟨o2, es, ep, e3, d3⟩ := fz.frD I.fd T z
          have e3 : h'.get? T = some o2 := e3
          rw [g7] at e3; cases e3; rw [g8] at d3; cases d3
      · rw [e1] at g5; cases g5

/-- an exception is noted at its frame -/
theorem wp_note {stk : List Env} {c : Str} {e : Value} {f : Addr} (I : Inv X G (env :: stk) env ℓ σ ρ s) (hF : A.frames = some (env :: stk)) (hf : env.frame = some f) (fl : Fly X G f c e s.heap) {Q : Unit → Shared → Prop} {E : Value → Shared → Prop}
    (h : ∀ s', Fz s.heap s'.heap → Inv X G (env :: stk) env ℓ σ ρ s' → (∀ f', Fly X G f' c e s'.heap) → Q () s') : wpAny (model X.prog X.w) A (noteFrame e env) (fun _ s' => wpAny (model X.prog X.w) A (setFlight e none) Q E s') E s := by
  obtain ⟨ea, C, oe, vs, rfl, hC, he, hcls, hd, hG, ht⟩ := fl.at_
  unfold noteFrame
  simp only [hf]
  rcases ht with h1 | ⟨T, oT, ts, h1, hTe, hTG, hT, hdT, h3⟩
  · refine wpAny_bind (wpAny_field he hd h1 ?_)
    rw [if_neg (by decide)]
    exact wp_entry I hF hf hC he hcls hd hG (Array.getElem?_eq_some_iff.mp h1).1 h
  · refine wpAny_bind (wpAny_field he hd h1 ?_)
    rw [if_pos (show (Value.ref T != Value.none) = true from by simp)]
    refine wpAny_bind (wpAny_field hT hdT h3 ?_)
    rw [if_neg (show ¬ ((Value.none == rawInt f) = true) from by simp [rawInt])]
    refine wpAny_bind (wpAny_setField hT hdT (Array.getElem?_eq_some_iff.mp h3).1 ?_)
    have other : ∀ b ob, b ≠ T → s.heap.get? b = some ob → (s.heap.update T (Obj.mapFields (·.setIfInBounds 3 Value.none))).get? b = some ob := fun b ob hb e0 => (Heap.get?_update_other _ _ (Ne.symm hb)).trans e0
    have hd' := Obj.data_mapFields hdT (·.setIfInBounds 3 Value.none)
    have hT' := Heap.get?_update_self (Obj.mapFields (·.setIfInBounds 3 Value.none)) hT (Obj.isFreed_of_fields hd')
    have fz1 : Fz s.heap (s.heap.update T (Obj.mapFields (·.setIfInBounds 3 Value.none))) := fun b o e0 => by
      by_cases q : b = T
      · subst q
        rw [hT] at e0; cases e0
        exact ⟨(fun _ ⟨_, _, q⟩ => by rw [hdT] at q; cases q), (fun _ _ _ _ => ⟨_, _, hT', Obj.cls_mapFields _ _, hd'⟩), (fun z => absurd hdT (z _)), (fun _ _ q => by rw [hdT] at q; cases q)⟩
      · exact Fz.keep1 (other b o q e0)
    obtain ⟨_, I1⟩ := I.recChgF (s' := { s with heap := s.heap.update T (Obj.mapFields (·.setIfInBounds 3 Value.none)) }) hTG hT fz1 hdT other rfl rfl
    exact wp_entry I1 hF hf hC (other _ _ (Ne.symm hTe) he) hcls hd hG (Array.getElem?_eq_some_iff.mp h1).1 fun s' fz2 => h s' (fz1.trans fz2)
theorem wp_leave {stk : List Env} {c : Str} {e : Value} {f : Addr} (I : Inv X G (env :: stk) env ℓ σ ρ s) (hF : A.frames = some (env :: stk)) (hf : env.frame = some f) (fl : Fly X G f c e s.heap) {Q : Unit → Shared → Prop} {E : Value → Shared → Prop}
    (h : ∀ s', Fz s.heap s'.heap → Inv X G (env :: stk) env ℓ σ ρ s' → (∀ f', Fly X G f' c e s'.heap) → Q () s') : wpAny (model X.prog X.w) A (leaving env e) Q E s := by
  unfold leaving
  exact wpAny_bind (wp_note I hF hf fl h)
theorem wp_flight {c : Str} {e : Value} {f : Addr} (I : Inv X G stk env ℓ σ ρ s) (fl : Fly X G f c e s.heap) {Q : Unit → Shared → Prop} {E : Value → Shared → Prop}
    (h : ∀ s', Fz s.heap s'.heap → Inv X G stk env ℓ σ ρ s' → Q () s') : wpAny (model X.prog X.w) A (setFlight e none) Q E s := by
  obtain ⟨ea, C, oe, vs, rfl, hC, he, hcls, hd, hG, ht⟩ := fl.at_
  unfold setFlight
  rcases ht with h1 | ⟨T, oT, ts, h1, hTe, hTG, hT, hdT, h3⟩
  · refine wpAny_bind (wpAny_field he hd h1 ?_)
    rw [if_neg (by decide)]
    exact wpAny_pure (h s (Fz.refl _) I)
  · refine wpAny_bind (wpAny_field he hd h1 ?_)
    rw [if_pos (show (Value.ref T != Value.none) = true from by simp)]
    refine wpAny_setField hT hdT (Array.getElem?_eq_some_iff.mp h3).1 ?_
    have other : ∀ b ob, b ≠ T → s.heap.get? b = some ob → (s.heap.update T (Obj.mapFields (·.setIfInBounds 3 Value.none))).get? b = some ob := fun b ob hb e0 => (Heap.get?_update_other _ _ (Ne.symm hb)).trans e0
    have hd' := Obj.data_mapFields hdT (·.setIfInBounds 3 Value.none)
    have hT' := Heap.get?_update_self (Obj.mapFields (·.setIfInBounds 3 Value.none)) hT (Obj.isFreed_of_fields hd')
    have fz1 : Fz s.heap (s.heap.update T (Obj.mapFields (·.setIfInBounds 3 Value.none))) := fun b o e0 => by
      by_cases q : b = T
      · subst q
        rw [hT] at e0; cases e0
        exact ⟨(fun _ ⟨_, _, q⟩ => by rw [hdT] at q; cases q), (fun _ _ _ _ => ⟨_, _, hT', Obj.cls_mapFields _ _, hd'⟩), (fun z => absurd hdT (z _)), (fun _ _ q => by rw [hdT] at q; cases q)⟩
      · exact Fz.keep1 (other b o q e0)
    obtain ⟨_, I1⟩ := I.recChgF (s' := { s with heap := s.heap.update T (Obj.mapFields (·.setIfInBounds 3 Value.none)) }) hTG hT fz1 hdT other rfl rfl
    exact h _ fz1 I1
end
end Mine
end

section
set_option maxRecDepth 100000
set_option linter.unusedVariables false
namespace Mine
open PySem PySem.W PySem.Calls PyProof.Rows

section
variable {X : Cy} {A : Around} {G : Heap} {stk : List Env} {env : Env} {ℓ ℓ' : Loc} {σ σ' : Store} {ρ ρ' : Rho} {s s' : Shared} {R : Rho → Heap → Prop}

theorem truth_spec {v : V} {b : Bool} (h : truthV v = some b) : v = .bool b := by
  unfold truthV at h; split at h
  · cases h; rfl
  · cases h
theorem snd_truth {v : V} {y : Value} (hR : ∀ ρ h, R ρ h → Rv X.toCx ρ h v y) : Snd X A G stk env ℓ R (rEq) (truthy y) (fun σ => .ofOpt σ (truthV v)) := by
  intro σ ρ s I hr hb
  obtain ⟨b, hv⟩ := ofOpt_bad hb
  obtain rfl := truth_spec hv
  have := hR _ _ hr
  cases this
  exact wpAny_truthy_bool (qok_same I (by rw [hv]; rfl) rfl)

theorem marked_eq {op : CmpOp} {e : Expr} (h : ∀ a b c, e ≠ .Set a b c) (t : Sem Value) : markedBehindIn op e t = t := by
  unfold markedBehindIn
  have : behindInMarks op e = false := by cases e <;> first | rfl | exact absurd rfl (h _ _ _)
  rw [this]

theorem cE_notSet {sc : Scope} {x : Expr} {e : E} (h : cE sc x = some e) : (∀ a b c, x ≠ .Set a b c) ∧ (∀ a b c p, x ≠ .Slice a b c p) := by
  constructor
  · intro a b c q; subst q; simp [cE] at h
  · intro a b c p q; subst q; simp [cE] at h

theorem ev_cmp (B : BaseOk X) {C : V → List V → Store → Out V} {hd : Bool} {D U : Nat} (hU : U + 80 < cLine) (hA : AOk A stk hd D U) {op : CmpOp} {a b : V} {x y : Value} {vs : List Value} (hR : ∀ ρ h, R ρ h → Rv X.toCx ρ h a x ∧ Rv X.toCx ρ h b y) :
    Snd X A G stk env ℓ R (rV X) (operate vs (compareOp op x y)) (fun σ => (Out.ofOpt σ (cmpV X.P (cCop op) a b σ)).bind fun r σ => .ok (.bool r) σ) ∧ Snd X A G stk env ℓ R (fun r v _ _ => v = .bool r) (compareOp op x y) (fun σ => (Out.ofOpt σ (cmpV X.P (cCop op) a b σ))) := by
  have key : Snd X A G stk env ℓ R (fun r v _ _ => v = .bool r) (compareOp op x y) (fun σ => (Out.ofOpt σ (cmpV X.P (cCop op) a b σ))) := by
    intro σ ρ s I hr hb
    obtain ⟨ra, rb⟩ := hR _ _ hr
    obtain ⟨r, hv⟩ := ofOpt_bad hb
    exact wp_cmp (by have := hA.2.2.1; omega) I ra rb hv fun tk => qok_same I (by dsimp only; rw [hv]; rfl) rfl
  refine ⟨?_, key⟩
  refine Snd.operate ?_
  intro σ ρ s I hr hb
  have hb' : Out.ofOpt σ (cmpV X.P (cCop op) a b σ) ≠ .bad := fun q => hb (by dsimp only; rw [q]; rfl)
  refine wpAny_mono (key σ ρ s I hr hb') (fun v s' ⟨r, σ', ρ', e, le, fz, I', rv⟩ => ?_) fun ex s' ⟨c, σ', ρ', e, le, fz, I', fl⟩ => ⟨c, σ', ρ', by dsimp only at e ⊢; rw [e]; rfl, le, fz, I', fl⟩
  subst rv
  exact ⟨.bool r, σ', ρ', by dsimp only at e ⊢; rw [e]; rfl, le, fz, I', .bool r⟩

/-- what the frame gives to each of its expressions -/
structure FCtx (X : Cy) (C : V → List V → Store → Out V) (hd : Bool) (D U : Nat) (A : Around) (stk : List Env) (env : Env) (sc : Scope) : Prop where
  base : BaseOk X
  co : COk X C hd D U
  hU : U + 80 < cLine
  hs : ScOk sc env
  hA : AOk A stk hd D U
  hfr : env.frame = (stk.head?.bind (·.frame))

theorem snd_bool {C : V → List V → Store → Out V} {hd : Bool} {sc : Scope} {pos : Pos} (op : BoolOp) : ∀ (xs : List Expr) (es : List E), xs ≠ [] → cEs sc xs = some es → (∀ x ∈ xs, ∀ e, cE sc x = some e → EOk X G stk env ℓ A x (fun σ => evE X.P hd C e ℓ σ)) →
    Snd X A G stk env ℓ (fun _ _ => True) (rV X) (boolOp pos op (evalEach xs env)) (fun σ => match op with | .And => evAnd X.P hd C es ℓ σ | .Or => evOr X.P hd C es ℓ σ)
  | [], es, hne, h, ih => absurd rfl hne
  | [x], es, _, h, ih => by
    simp only [cEs] at h
    obtain ⟨e, e1, e2⟩ := Option.bind_eq_some_iff.mp h
    simp only [Option.map_some, Option.some.injEq] at e2
    subst e2
    have := ih x (.head _) e e1
    cases op
    · have e0 : (fun σ => evAnd X.P hd C [e] ℓ σ) = fun σ => evE X.P hd C e ℓ σ := by funext σ; simp only [evAnd]
      show Snd X A G stk env ℓ _ _ (eval x env) (fun σ => evAnd X.P hd C [e] ℓ σ)
      rw [e0]; exact this
    · have e0 : (fun σ => evOr X.P hd C [e] ℓ σ) = fun σ => evE X.P hd C e ℓ σ := by funext σ; simp only [evOr]
      show Snd X A G stk env ℓ _ _ (eval x env) (fun σ => evOr X.P hd C [e] ℓ σ)
      rw [e0]; exact this
  | x :: y :: xs, es, _, h, ih => by
    simp only [cEs] at h
    obtain ⟨e, e1, e2⟩ := Option.bind_eq_some_iff.mp h
    obtain ⟨es', e3, rfl⟩ := Option.map_eq_some_iff.mp e2
    have hes : cEs sc (y :: xs) = some es' := by simp only [cEs]; exact e3
    have rest := snd_bool (pos := pos) op (y :: xs) es' (by simp) hes (fun x' hx' => ih x' (.tail _ hx'))
    have hne : ∃ f fs, es' = f :: fs := by
      obtain ⟨f, f1, f2⟩ := Option.bind_eq_some_iff.mp e3
      obtain ⟨fs, f3, rfl⟩ := Option.map_eq_some_iff.mp f2
      exact ⟨f, fs, rfl⟩
    obtain ⟨f, fs, rfl⟩ := hne
    have step : Snd X A G stk env ℓ (fun _ _ => True) (rV X) (eval x env >>= fun v => standAt pos >>= fun _ => holding [v] (truthy v) >>= fun t => (match (generalizing := false) op, t with | .And, false | .Or, true => Pure.pure v | _, _ => boolOp pos op (evalEach (y :: xs) env)))
        (fun σ => (evE X.P hd C e ℓ σ).bind fun v σ => (Out.ofOpt σ (truthV v)).bind fun b σ => (match (generalizing := false) op, b with | .And, false | .Or, true => .ok v σ | .And, _ => evAnd X.P hd C (f :: fs) ℓ σ | .Or, _ => evOr X.P hd C (f :: fs) ℓ σ)) := by
      refine Snd.bind hTrue (ih x (.head _) e e1) fun v w => Snd.at (Snd.bind (hTrue.and (rV_mono X v w)) (Snd.holding (snd_truth fun ρ h r => r.2)) fun b b' => ?_)
      intro σ ρ s I hr hb
      obtain ⟨⟨_, rv⟩, rb⟩ := hr
      have rb : b = b' := rb
      subst rb
      cases op <;> cases b
      · exact wpAny_pure (qok_same I rfl rv)
      · exact rest σ ρ s I trivial hb
      · exact rest σ ρ s I trivial hb
      · exact wpAny_pure (qok_same I rfl rv)
    cases op
    · have e0 : (fun σ => evAnd X.P hd C (e :: f :: fs) ℓ σ) = (fun σ => (evE X.P hd C e ℓ σ).bind fun v σ => (Out.ofOpt σ (truthV v)).bind fun b σ => (match BoolOp.And, b with | .And, false | .Or, true => .ok v σ | .And, _ => evAnd X.P hd C (f :: fs) ℓ σ | .Or, _ => evOr X.P hd C (f :: fs) ℓ σ)) := by
        funext σ
        simp only [evAnd]
        congr 1
        funext v σ
        cases truthV v with
        | none => rfl
        | some b => cases b <;> rfl
      show Snd X A G stk env ℓ _ _ _ (fun σ => evAnd X.P hd C (e :: f :: fs) ℓ σ)
      rw [e0]; exact step
    · have e0 : (fun σ => evOr X.P hd C (e :: f :: fs) ℓ σ) = (fun σ => (evE X.P hd C e ℓ σ).bind fun v σ => (Out.ofOpt σ (truthV v)).bind fun b σ => (match BoolOp.Or, b with | .And, false | .Or, true => .ok v σ | .And, _ => evAnd X.P hd C (f :: fs) ℓ σ | .Or, _ => evOr X.P hd C (f :: fs) ℓ σ)) := by
        funext σ
        simp only [evOr]
        congr 1
        funext v σ
        cases truthV v with
        | none => rfl
        | some b => cases b <;> rfl
      show Snd X A G stk env ℓ _ _ _ (fun σ => evOr X.P hd C (e :: f :: fs) ℓ σ)
      rw [e0]; exact step
end
end Mine
end

section
set_option maxRecDepth 100000
set_option linter.unusedVariables false
namespace Mine
open PySem PySem.W PySem.Calls PyProof.Rows

section
variable {X : Cy} {A : Around} {G : Heap} {stk : List Env} {env : Env} {ℓ ℓ' : Loc} {σ σ' : Store} {ρ ρ' : Rho} {s s' : Shared} {R : Rho → Heap → Prop}

theorem cE_notStar {sc : Scope} {x : Expr} {e : E} (h : cE sc x = some e) : ∀ v p, x ≠ .Starred v p := by
  intro v p q; subst q; simp [cE] at h

theorem Snd.cong {α β : Type} {RR : α → β → Rho → Heap → Prop} {t : Sem β} {m m' : Store → Out α} (h : Snd X A G stk env ℓ R RR t m) (e : ∀ σ, m' σ = m σ) : Snd X A G stk env ℓ R RR t m' := by
  have : m' = m := funext e
  rw [this]; exact h
theorem Snd.release {α β : Type} {RR : α → β → Rho → Heap → Prop} {vs ws : List Value} {k : Unit → Sem β} {m : Store → Out α} (h : Snd X A G stk env ℓ R RR (k ()) m) : Snd X A G stk env ℓ R RR (PySem.release vs ws >>= k) m :=
  Snd.skip (fun _ _ _ q => wpAny_release q) h

/-- the second link of a chain -/
theorem snd_chain1 {C : V → List V → Store → Out V} {hd : Bool} {D U : Nat} {sc : Scope} (F : FCtx X C hd D U A stk env sc) {pos : Pos} {op : CmpOp} {r : Expr} {b : E} {va : V} {x : Value} (hR : HMono R) (hr : ∀ ρ h, R ρ h → Rv X.toCx ρ h va x) (hb : cE sc r = some b)
    (ih : EOk X G stk env ℓ A r (fun σ => evE X.P hd C b ℓ σ)) :
    Snd X A G stk env ℓ R (rV X) (compareChain pos x [op] [markedBehindIn op r (eval r env)]) (fun σ => (evE X.P hd C b ℓ σ).bind fun vb σ => (Out.ofOpt σ (cmpV X.P (cCop op) va vb σ)).bind fun r σ => .ok (.bool r) σ) := by
  rw [marked_eq (cE_notSet hb).1]
  show Snd X A G stk env ℓ R (rV X) (PySem.holding [x] (eval r env) >>= fun rv => standAt pos >>= fun _ => PySem.operate [x, rv] (compareOp op x rv)) _
  refine Snd.bind hR (Snd.holding ih.under) fun vb y => Snd.at ?_
  exact (ev_cmp F.base (C := C) F.hU F.hA (fun ρ h q => ⟨hr _ _ q.1, q.2⟩)).1

theorem snd_test1 {C : V → List V → Store → Out V} {hd : Bool} {D U : Nat} {sc : Scope} (F : FCtx X C hd D U A stk env sc) {pos : Pos} {op : CmpOp} {r : Expr} {b : E} {va : V} {x : Value} (hR : HMono R) (hr : ∀ ρ h, R ρ h → Rv X.toCx ρ h va x) (hb : cE sc r = some b)
    (ih : EOk X G stk env ℓ A r (fun σ => evE X.P hd C b ℓ σ)) :
    Snd X A G stk env ℓ R rEq (testChain pos x [op] [markedBehindIn op r (eval r env)]) (fun σ => (evE X.P hd C b ℓ σ).bind fun vb σ => (Out.ofOpt σ (cmpV X.P (cCop op) va vb σ))) := by
  rw [marked_eq (cE_notSet hb).1]
  show Snd X A G stk env ℓ R rEq (PySem.holding [x] (eval r env) >>= fun rv => standAt pos >>= fun _ => PySem.operate [x, rv] (compareOp op x rv) >>= fun c => PySem.holding [c] (truthy c)) _
  refine Snd.bind hR (Snd.holding ih.under) fun vb y => Snd.at ?_
  have := Snd.bind (G := G) (env := env) (ℓ := ℓ) (RS := rEq) (f := fun r σ => .ok r σ) (hR.and (rV_mono X vb y)) (Snd.operate (vs := [x, y]) (ev_cmp (vs := []) F.base (C := C) F.hU F.hA (op := op) (fun ρ h q => ⟨hr _ _ q.1, q.2⟩)).2) (k := fun c => PySem.holding [c] (truthy c)) fun r c => ?_
  · refine this.cong fun σ => ?_
    cases cmpV X.P (cCop op) va vb σ <;> rfl
  · refine Snd.holding ?_
    intro σ ρ s I hr hb
    obtain ⟨_, rfl⟩ := hr
    exact wpAny_truthy_bool (qok_same I rfl rfl)

theorem snd_link {α β : Type} {C : V → List V → Store → Out V} {hd : Bool} {D U : Nat} {sc : Scope} (F : FCtx X C hd D U A stk env sc) {pos : Pos} {op : CmpOp} {r : Expr} {b : E} {va : V} {x : Value} {RS : α → β → Rho → Heap → Prop} (hR : HMono R) (hr : ∀ ρ h, R ρ h → Rv X.toCx ρ h va x)
    (ih : EOk X G stk env ℓ A r (fun σ => evE X.P hd C b ℓ σ)) {k1 k0 : Value → Sem β} {m1 : V → Store → Out α} {m0 : Store → Out α} (h1 : ∀ vb y, Snd X A G stk env ℓ (fun ρ h => R ρ h ∧ rV X vb y ρ h) RS (k1 y) (m1 vb)) (h0 : ∀ R, Snd X A G stk env ℓ R RS (k0 (.bool false)) m0) :
    Snd X A G stk env ℓ R RS (PySem.holding [x] (eval r env) >>= fun rv => standAt pos >>= fun _ => PySem.holding [x, rv] (compareOp op x rv) >>= fun c => PySem.release [x, rv] [c] >>= fun _ => PySem.holding [c, rv] (truthy c) >>= fun t => if t = true then k1 rv else k0 c)
      (fun σ => (evE X.P hd C b ℓ σ).bind fun vb σ => (Out.ofOpt σ (cmpV X.P (cCop op) va vb σ)).bind fun r σ => if r then m1 vb σ else m0 σ) := by
  refine Snd.bind hR (Snd.holding ih.under) fun vb y => Snd.at ?_
  refine Snd.bind (hR.and (rV_mono X vb y)) (Snd.holding (ev_cmp (vs := []) F.base (C := C) F.hU F.hA (op := op) (fun ρ h q => ⟨hr _ _ q.1, q.2⟩)).2) fun r1 c1 => Snd.release ?_
  intro σ ρ s I q hb
  obtain ⟨q, rfl⟩ := q
  refine wpAny_bind (wpAny_holding (wpAny_truthy_bool ?_))
  cases r1 with
  | true => exact h1 vb y σ ρ s I q hb
  | false => exact h0 (fun _ _ => True) σ ρ s I trivial hb

theorem bind_assoc' {α β γ : Type} (o : Out α) (f : α → Store → Out β) (g : β → Store → Out γ) : (o.bind f).bind g = o.bind fun a σ => (f a σ).bind g := by
  cases o <;> rfl

theorem snd_chain {C : V → List V → Store → Out V} {hd : Bool} {D U : Nat} {sc : Scope} (F : FCtx X C hd D U A stk env sc) {pos : Pos} {l : Expr} {ops : List CmpOp} {cs : List Expr} {e : E} (he : cE sc (.Compare l ops cs pos) = some e)
    (ihl : ∀ a, cE sc l = some a → EOk X G stk env ℓ A l (fun σ => evE X.P hd C a ℓ σ)) (ihs : ∀ x ∈ cs, ∀ e, cE sc x = some e → EOk X G stk env ℓ A x (fun σ => evE X.P hd C e ℓ σ)) :
    Snd X A G stk env ℓ (fun _ _ => True) (rV X) (eval l env >>= fun v => compareChain pos v ops (markedEach ops cs (evalEach cs env))) (fun σ => evE X.P hd C e ℓ σ) ∧
    Snd X A G stk env ℓ (fun _ _ => True) rEq (eval l env >>= fun v => testChain pos v ops (markedEach ops cs (evalEach cs env))) (fun σ => evB X.P hd C e ℓ σ) := by
  simp only [cE] at he
  obtain ⟨a, ha, he1⟩ := Option.bind_eq_some_iff.mp he
  clear he
  obtain ⟨bs, hbs, he⟩ := Option.bind_eq_some_iff.mp he1
  clear he1
  have la := ihl a ha
  split at he
  · rename_i op b
    cases he
    cases cs with
    | nil => simp [cEs] at hbs
    | cons r rs =>
      simp only [cEs] at hbs
      obtain ⟨b', hb, hbs⟩ := Option.bind_eq_some_iff.mp hbs
      obtain ⟨bs', hbs', q⟩ := Option.map_eq_some_iff.mp hbs
      cases q
      cases rs with
      | cons => simp only [cEs] at hbs'; obtain ⟨_, _, q⟩ := Option.bind_eq_some_iff.mp hbs'; obtain ⟨_, _, q⟩ := Option.map_eq_some_iff.mp q; cases q
      | nil =>
        have rb := ihs r (.head _) b hb
        constructor
        · refine Snd.cong (Snd.bind hTrue la fun va x => snd_chain1 F (pos := pos) (op := op) (hTrue.and (rV_mono X va x)) (fun ρ h q => q.2) hb rb) fun σ => ?_
          simp only [evE]
        · refine Snd.cong (Snd.bind hTrue la fun va x => snd_test1 F (pos := pos) (op := op) (hTrue.and (rV_mono X va x)) (fun ρ h q => q.2) hb rb) fun σ => ?_
          simp only [evB, evE, bind_assoc']
          congr 1; funext va σ; congr 1; funext vb σ
          cases cmpV X.P (cCop op) va vb σ <;> rfl
  · rename_i op p b c
    cases he
    cases cs with
    | nil => simp [cEs] at hbs
    | cons r rs =>
      simp only [cEs] at hbs
      obtain ⟨b', hb, hbs⟩ := Option.bind_eq_some_iff.mp hbs
      obtain ⟨bs', hbs', q⟩ := Option.map_eq_some_iff.mp hbs
      cases q
      cases rs with
      | nil => simp [cEs] at hbs'
      | cons r2 rs =>
        simp only [cEs] at hbs'
        obtain ⟨c', hc, hbs''⟩ := Option.bind_eq_some_iff.mp hbs'
        obtain ⟨cs', hcs', q⟩ := Option.map_eq_some_iff.mp hbs''
        cases q
        cases rs with
        | cons => simp only [cEs] at hcs'; obtain ⟨_, _, q⟩ := Option.bind_eq_some_iff.mp hcs'; obtain ⟨_, _, q⟩ := Option.map_eq_some_iff.mp q; cases q
        | nil =>
          have rb := ihs r (.head _) b hb
          have rc := ihs r2 (.tail _ (.head _)) c hc
          constructor
          · refine Snd.cong (Snd.bind hTrue la fun va x => snd_link F (RS := rV X) (pos := pos) (op := op) (hTrue.and (rV_mono X va x)) (fun ρ h q => q.2) rb (k1 := fun y => compareChain pos y [p] [markedBehindIn p r2 (eval r2 env)]) (k0 := fun c => Pure.pure c)
              (m0 := fun σ => .ok (.bool false) σ)
              (fun vb y => snd_chain1 F (pos := pos) (op := p) ((hTrue.and (rV_mono X va x)).and (rV_mono X vb y)) (fun ρ h q => q.2) hc rc) fun R => Snd.pure fun _ _ _ => .bool false) fun σ => ?_
            simp only [evE]
          · refine Snd.cong (Snd.bind hTrue la fun va x => snd_link F (RS := rEq) (pos := pos) (op := op) (hTrue.and (rV_mono X va x)) (fun ρ h q => q.2) rb (k1 := fun y => testChain pos y [p] [markedBehindIn p r2 (eval r2 env)]) (k0 := fun c => Pure.pure false)
              (m0 := fun σ => .ok false σ)
              (fun vb y => snd_test1 F (pos := pos) (op := p) ((hTrue.and (rV_mono X va x)).and (rV_mono X vb y)) (fun ρ h q => q.2) hc rc) fun R => Snd.pure fun _ _ _ => rfl) fun σ => ?_
            simp only [evB, evE, bind_assoc']
            congr 1; funext va σ; congr 1; funext vb σ
            cases cmpV X.P (cCop op) va vb σ with
            | none => rfl
            | some r =>
              cases r with
              | false => rfl
              | true =>
                show ((evE X.P hd C c ℓ σ).bind _).bind _ = (evE X.P hd C c ℓ σ).bind _
                rw [bind_assoc']
                congr 1; funext vc σ
                cases cmpV X.P (cCop p) vb vc σ <;> rfl
  · cases he

theorem sizeOf_mem {x : Expr} {xs : List Expr} (h : x ∈ xs) : sizeOf x < sizeOf xs := List.sizeOf_lt_of_mem h

theorem evEs_length {P : Prog} {hd : Bool} {C : V → List V → Store → Out V} {ℓ : Loc} : ∀ {es : List E} {σ σ' : Store} {vs : List V}, evEs P hd C es ℓ σ = .ok vs σ' → vs.length = es.length
  | [], σ, σ', vs, h => by simp only [evEs] at h; cases h; rfl
  | e :: es, σ, σ', vs, h => by
    simp only [evEs] at h
    cases q : evE P hd C e ℓ σ with
    | bad => rw [q] at h; cases h
    | exc => rw [q] at h; cases h
    | ok v σ1 =>
      rw [q] at h
      simp only [Out.bind] at h
      cases q2 : evEs P hd C es ℓ σ1 with
      | bad => rw [q2] at h; cases h
      | exc => rw [q2] at h; cases h
      | ok ws σ2 => rw [q2] at h; cases h; simp [evEs_length q2]
theorem cEs_length {sc : Scope} : ∀ {xs : List Expr} {es : List E}, cEs sc xs = some es → es.length = xs.length
  | [], es, h => by simp only [cEs, Option.some.injEq] at h; subst h; rfl
  | x :: xs, es, h => by
    simp only [cEs] at h
    obtain ⟨e, _, h⟩ := Option.bind_eq_some_iff.mp h
    obtain ⟨es', h', rfl⟩ := Option.map_eq_some_iff.mp h
    simp [cEs_length h']
theorem snd_display {C : V → List V → Store → Out V} {hd : Bool} {sc : Scope} {pos : Pos} {xs : List Expr} {es : List E} {k : List Value → Sem Value} {f : List V → Store → Out V} (hes : cEs sc xs = some es) (hz : xs.length ≤ 1000)
    (ih : ∀ x ∈ xs, ∀ e, cE sc x = some e → EOk X G stk env ℓ A x (fun σ => evE X.P hd C e ℓ σ))
    (h : ∀ vs ys, vs.length ≤ 1000 → Snd X A G stk env ℓ (fun ρ h => RvL X.toCx ρ h vs ys) (rV X) (k ys) (f vs)) :
    Snd X A G stk env ℓ (fun _ _ => True) (rV X) (standAt pos >>= fun _ => spliced (backTo pos (starEach xs env)) >>= k) (fun σ => (evEs X.P hd C es ℓ σ).bind f) := by
  refine Snd.at ?_
  intro σ ρ s I hr hb
  have hb' : evEs X.P hd C es ℓ σ ≠ .bad := fun q => hb (by simp only [q, Out.bind])
  refine wpAny_bind (wpAny_mono (snd_spliced (pos := pos) hTrue hes ih σ ρ s I trivial hb') (fun ys s' ⟨vs, σ', ρ', e, le, fz, I', rl⟩ => ?_) fun e s' ⟨c, σ', ρ', e', le, fz, I', fl⟩ => ⟨c, σ', ρ', by have e' : evEs X.P hd C es ℓ σ = .exc c σ' := e'; simp only [e', Out.bind], le, fz, I', fl⟩)
  have e : evEs X.P hd C es ℓ σ = .ok vs σ' := e
  have e2 : (evEs X.P hd C es ℓ σ).bind f = f vs σ' := by rw [e]; rfl
  simp only [e2] at hb ⊢
  refine wpAny_mono (h vs ys (by have := evEs_length e; have := cEs_length hes; omega) σ' ρ' s' I' rl hb) ?_ ?_
  · intro d s'' ⟨c, σ'', ρ'', e', le', fz', I'', rs⟩
    exact ⟨c, σ'', ρ'', e', le.trans le', fz.trans fz', I'', rs⟩
  · intro e s'' ⟨c, σ'', ρ'', e', le', fz', I'', fl⟩
    exact ⟨c, σ'', ρ'', e', le.trans le', fz.trans fz', I'', fl⟩

theorem snd_E {C : V → List V → Store → Out V} {hd : Bool} {D U : Nat} {sc : Scope} (F : FCtx X C hd D U A stk env sc) (ℓ : Loc) : ∀ (n : Nat) (x : Expr) (e : E), sizeOf x ≤ n → cE sc x = some e → EOk X G stk env ℓ A x (fun σ => evE X.P hd C e ℓ σ)
  | 0, x, e, hn, he => by cases x <;> simp at hn
  | n + 1, x, e, hn, he => by
    have ih : ∀ x' : Expr, sizeOf x' < sizeOf x → ∀ e, cE sc x' = some e → EOk X G stk env ℓ A x' (fun σ => evE X.P hd C e ℓ σ) := fun x' hx' e' he' => snd_E F ℓ n x' e' (by omega) he'
    cases x with
    | Constant c k pos => exact snd_const he
    | Name x pos => simp only [cE] at he; exact ev_name F.base.gl F.hs he
    | BinOp l op r pos =>
      simp only [cE] at he
      obtain ⟨o, ho, he⟩ := Option.bind_eq_some_iff.mp he
      obtain ⟨a, ha, he⟩ := Option.bind_eq_some_iff.mp he
      obtain ⟨b, hb, he⟩ := Option.bind_eq_some_iff.mp he
      cases he
      show Snd X A G stk env ℓ _ (rV X) (eval l env >>= fun a => PySem.holding [a] (eval r env) >>= fun b => standAt pos >>= fun _ => PySem.operate [a, b] (binaryOp op a b)) _
      refine Snd.cong (Snd.bind hTrue (ih l (by simp; omega) a ha) fun va x => Snd.bind (hTrue.and (rV_mono X va x)) (Snd.holding (ih r (by simp; omega) b hb).under) fun vb y => Snd.at (Snd.operate (snd_bin ho va vb x y fun ρ h q => ⟨q.1.2, q.2⟩))) fun σ => ?_
      simp only [evE]
    | UnaryOp op x pos =>
      simp only [cE] at he
      obtain ⟨a, ha, he⟩ := Option.bind_eq_some_iff.mp he
      cases op <;> cases he
      · show Snd X A G stk env ℓ _ (rV X) (eval x env >>= fun v => standAt pos >>= fun _ => PySem.holding [v] (unaryOp .Not v)) _
        refine Snd.cong (Snd.bind (f := fun v σ => match truthV v with | some b => .ok (.bool (!b)) σ | _ => .bad) hTrue (ih x (by simp; omega) a ha) fun va y => Snd.at (Snd.holding ?_)) fun σ => (by simp only [evE] <;> rfl)
        intro σ ρ s I hr hb
        have r := hr.2
        dsimp only at hb ⊢
        split at hb
        · rename_i b hv
          obtain rfl := truth_spec hv
          cases r
          exact PyProof.Rows.not_of (wpAny_truthy_bool (qok_same I rfl (.bool _)))
        · exact absurd rfl hb
      · show Snd X A G stk env ℓ _ (rV X) (eval x env >>= fun v => standAt pos >>= fun _ => PySem.holding [v] (unaryOp .USub v)) _
        refine Snd.cong (Snd.bind (f := fun v σ => match v with | .int i => .ok (.int (-i)) σ | _ => .bad) hTrue (ih x (by simp; omega) a ha) fun va y => Snd.at (Snd.holding ?_)) fun σ => (by simp only [evE] <;> rfl)
        intro σ ρ s I hr hb
        have r := hr.2
        dsimp only at hb ⊢
        split at hb
        · cases r
          exact PyProof.Rows.neg_int (qok_same I rfl (.int _ _))
        · exact absurd rfl hb
    | BoolOp op vs pos =>
      simp only [cE] at he
      obtain ⟨l, hl, he⟩ := Option.bind_eq_some_iff.mp he
      split at he
      · cases he
      · rename_i hne
        cases he
        refine Snd.cong (snd_bool (pos := pos) op vs l (fun q => hne (by subst q; simp only [cEs, Option.some.injEq] at hl; subst hl; rfl)) hl fun x hx e he => ih x (by have := sizeOf_mem hx; simp; omega) e he) fun σ => ?_
        cases op <;> simp only [cBool, evE]
    | Compare l ops cs pos => exact (snd_chain F he (fun a ha => ih l (by simp; omega) a ha) fun x hx e he => ih x (by have := sizeOf_mem hx; simp; omega) e he).1
    | Call f as ks pos =>
      cases f with
      | Attribute _ _ _ => simp [cE] at he
      | Name x fp =>
        simp only [cE] at he
        split at he
        · rename_i hc
          simp only [Bool.and_eq_true, decide_eq_true_eq] at hc
          obtain ⟨⟨⟨k1, k2⟩, k3⟩, k4⟩ := hc
          obtain ⟨es, hes, he⟩ := Option.bind_eq_some_iff.mp he
          cases he
          cases ks with
          | cons => cases k1
          | nil =>
            show Snd X A G stk env ℓ _ (rV X) (eval (.Name x fp) env >>= fun f => PySem.callWith pos f [] (backTo pos (starEach as env)) []) _
            have hn : cName sc x = some (.glob x) := by
              have : cVar sc x = none := by
                unfold isGlob at k2
                unfold cVar
                split
                · rfl
                · simp only [Bool.and_eq_true] at k2
                  have k2 := k2.2
                  revert k2
                  cases kindIdx sc x with
                  | none => intro _; rfl
                  | some p => obtain ⟨i, k⟩ := p; cases k <;> simp
              unfold cName; rw [this]; simp only [k2, if_true]
            refine Snd.cong (Snd.bind hTrue (ev_name (C := C) (hd := hd) (pos := fp) F.base.gl F.hs hn) fun vf f => Snd.callWith (k := fun vs σ => C vf vs σ) (hTrue.and (rV_mono X vf f)) hes (by omega) (fun x hx e he => ih x (by have := sizeOf_mem hx; simp; omega) e he) ?_ fun vs ys => ?_) fun σ => (by simp only [evE])
            · intro σ ρ s vs I hb hr
              have rf : Rv X.toCx ρ s.heap vf f := hr.2
              rcases F.co.oth vf vs σ hb with ⟨g, rfl⟩ | ⟨b, rfl⟩ | ⟨b, rfl⟩
              · obtain ⟨d, hd⟩ := F.co.fn g vs σ hb
                cases rf with | fn h => exact kept_fn F.base I hd h
              · cases rf; exact kept_bi
              · cases rf; exact kept_ty
            · exact (F.co.snd A G stk env ℓ vf vs f ys F.hA F.hfr).mono (fun ρ h q => ⟨q.1.2, q.2⟩) fun _ _ _ _ r => r
        · cases he
      | _ => simp [cE] at he
    | Subscript o i pos =>
      rw [EOk, eval_Subscript]
      show Snd X A G stk env ℓ _ (rV X) (eval o env >>= fun ov => PySem.holding [ov] (eval i env) >>= fun iv => standAt pos >>= fun _ => subscriptTail o i ov iv) _
      simp only [cE] at he
      split at he
      · cases he
      · rename_i hsl
        obtain ⟨o', ho, he⟩ := Option.bind_eq_some_iff.mp he
        obtain ⟨i', hi, he⟩ := Option.bind_eq_some_iff.mp he
        cases he
        refine Snd.cong (Snd.bind hTrue (ih o (by simp; omega) o' ho) fun vo y => Snd.bind (hTrue.and (rV_mono X vo y)) (Snd.holding (ih i (by simp; omega) i' hi).under) fun vi z => Snd.at (snd_sub F.base.scr (fun a b c p q => hsl (by rw [q]; rfl)) fun ρ h q => ⟨q.1.2, q.2⟩)) fun σ => ?_
        simp only [evE]
    | List es pos =>
      simp only [cE] at he
      split at he
      · rename_i hz
        obtain ⟨l, hl, rfl⟩ := Option.map_eq_some_iff.mp he
        show Snd X A G stk env ℓ _ (rV X) (standAt pos >>= fun _ => spliced (backTo pos (starEach es env)) >>= newList) _
        refine Snd.cong (snd_display hl hz (fun x hx e he => ih x (by have := sizeOf_mem hx; simp; omega) e he) fun vs ys hv => snd_newList (fun ρ h q => q) hv) fun σ => (by simp only [evE])
      · cases he
    | Tuple es ctx pos =>
      simp only [cE] at he
      split at he
      · rename_i hz
        obtain ⟨l, hl, rfl⟩ := Option.map_eq_some_iff.mp he
        show Snd X A G stk env ℓ _ (rV X) (standAt pos >>= fun _ => spliced (backTo pos (starEach es env)) >>= newTuple) _
        refine Snd.cong (snd_display hl hz (fun x hx e he => ih x (by have := sizeOf_mem hx; simp; omega) e he) fun vs ys hv => snd_newTuple (fun ρ h q => q) hv) fun σ => (by simp only [evE])
      · cases he
    | _ => simp [cE] at he
end
end Mine
end

section
set_option maxRecDepth 100000
set_option linter.unusedVariables false
namespace Mine
open PySem PySem.W PySem.Calls PyProof.Rows

section
variable {X : Cy} {A : Around} {G : Heap} {stk : List Env} {env : Env} {ℓ ℓ' : Loc} {σ σ' : Store} {ρ ρ' : Rho} {s s' : Shared} {R : Rho → Heap → Prop}

theorem evB_not {P : Prog} {hd : Bool} {C : V → List V → Store → Out V} {a : E} (σ : Store) : evB P hd C (.not a) ℓ σ = (evB P hd C a ℓ σ).bind fun b σ => .ok (!b) σ := by
  simp only [evB, evE, bind_assoc']
  congr 1; funext v σ
  cases q : truthV v <;> rfl

theorem evB_and {P : Prog} {hd : Bool} {C : V → List V → Store → Out V} {e f : E} {fs : List E} (σ : Store) : (evAnd P hd C (e :: f :: fs) ℓ σ).bind (fun v σ => Out.ofOpt σ (truthV v)) = (evB P hd C e ℓ σ).bind fun b σ => if b then (evAnd P hd C (f :: fs) ℓ σ).bind (fun v σ => Out.ofOpt σ (truthV v)) else .ok false σ := by
  simp only [evB, evAnd, bind_assoc']
  congr 1; funext v σ
  cases q : truthV v with
  | none => rfl
  | some b => cases b <;> simp [Out.bind, Out.ofOpt, q]
theorem evB_or {P : Prog} {hd : Bool} {C : V → List V → Store → Out V} {e f : E} {fs : List E} (σ : Store) : (evOr P hd C (e :: f :: fs) ℓ σ).bind (fun v σ => Out.ofOpt σ (truthV v)) = (evB P hd C e ℓ σ).bind fun b σ => if b then .ok true σ else (evOr P hd C (f :: fs) ℓ σ).bind (fun v σ => Out.ofOpt σ (truthV v)) := by
  simp only [evB, evOr, bind_assoc']
  congr 1; funext v σ
  cases q : truthV v with
  | none => rfl
  | some b => cases b <;> simp [Out.bind, Out.ofOpt, q]

theorem snd_allTrue {C : V → List V → Store → Out V} {hd : Bool} {sc : Scope} (op : BoolOp) : ∀ (xs : List Expr) (es : List E), xs ≠ [] → cEs sc xs = some es → (∀ x ∈ xs, ∀ e, cE sc x = some e → Snd X A G stk env ℓ (fun _ _ => True) rEq (isTrue x env (eval x env)) (fun σ => evB X.P hd C e ℓ σ)) →
    Snd X A G stk env ℓ (fun _ _ => True) rEq (allTrue op xs env) (fun σ => (match (generalizing := false) op with | .And => evAnd X.P hd C es ℓ σ | .Or => evOr X.P hd C es ℓ σ).bind fun v σ => Out.ofOpt σ (truthV v))
  | [], es, hne, h, ih => absurd rfl hne
  | [x], es, _, h, ih => by
    simp only [cEs] at h
    obtain ⟨e, e1, e2⟩ := Option.bind_eq_some_iff.mp h
    simp only [Option.map_some, Option.some.injEq] at e2
    subst e2
    have key := ih x (.head _) e e1
    cases op
    · refine Snd.cong (Snd.bind (f := fun b σ => .ok b σ) hTrue key (k := fun t => match BoolOp.And, t with | .And, false => Pure.pure false | .Or, true => Pure.pure true | _, _ => Pure.pure true) fun b b' => ?_) fun σ => ?_
      · intro σ ρ s I hr hb
        obtain rfl : b = b' := hr.2
        cases b <;> exact wpAny_pure (qok_same I rfl rfl)
      · simp only [evAnd, evB, bind_assoc']
        congr 1; funext v σ
        cases truthV v <;> rfl
    · refine Snd.cong (Snd.bind (f := fun b σ => .ok b σ) hTrue key (k := fun t => match BoolOp.Or, t with | .And, false => Pure.pure false | .Or, true => Pure.pure true | _, _ => Pure.pure false) fun b b' => ?_) fun σ => ?_
      · intro σ ρ s I hr hb
        obtain rfl : b = b' := hr.2
        cases b <;> exact wpAny_pure (qok_same I rfl rfl)
      · simp only [evOr, evB, bind_assoc']
        congr 1; funext v σ
        cases truthV v <;> rfl
  | x :: y :: xs, es, _, h, ih => by
    simp only [cEs] at h
    obtain ⟨e, e1, e2⟩ := Option.bind_eq_some_iff.mp h
    obtain ⟨es', e3, rfl⟩ := Option.map_eq_some_iff.mp e2
    have hes : cEs sc (y :: xs) = some es' := by simp only [cEs]; exact e3
    have rest := snd_allTrue op (y :: xs) es' (by simp) hes (fun x' hx' => ih x' (.tail _ hx'))
    have hne : ∃ f fs, es' = f :: fs := by
      obtain ⟨f, f1, f2⟩ := Option.bind_eq_some_iff.mp e3
      obtain ⟨fs, f3, rfl⟩ := Option.map_eq_some_iff.mp f2
      exact ⟨f, fs, rfl⟩
    obtain ⟨f, fs, rfl⟩ := hne
    have key := ih x (.head _) e e1
    cases op
    · refine Snd.cong (Snd.bind hTrue key (k := fun t => match BoolOp.And, t with | .And, false => Pure.pure false | .Or, true => Pure.pure true | _, _ => allTrue .And (y :: xs) env) (f := fun b σ => if b then (evAnd X.P hd C (f :: fs) ℓ σ).bind (fun v σ => Out.ofOpt σ (truthV v)) else .ok false σ) fun b b' => ?_) fun σ => evB_and σ
      intro σ ρ s I hr hb
      obtain rfl : b = b' := hr.2
      cases b
      · exact wpAny_pure (qok_same I rfl rfl)
      · exact rest σ ρ s I trivial hb
    · refine Snd.cong (Snd.bind hTrue key (k := fun t => match BoolOp.Or, t with | .And, false => Pure.pure false | .Or, true => Pure.pure true | _, _ => allTrue .Or (y :: xs) env) (f := fun b σ => if b then .ok true σ else (evOr X.P hd C (f :: fs) ℓ σ).bind (fun v σ => Out.ofOpt σ (truthV v))) fun b b' => ?_) fun σ => evB_or σ
      intro σ ρ s I hr hb
      obtain rfl : b = b' := hr.2
      cases b
      · exact rest σ ρ s I trivial hb
      · exact wpAny_pure (qok_same I rfl rfl)

theorem snd_isTrue {C : V → List V → Store → Out V} {hd : Bool} {D U : Nat} {sc : Scope} (F : FCtx X C hd D U A stk env sc) (ℓ : Loc) : ∀ (n : Nat) (x : Expr) (e : E), sizeOf x ≤ n → cE sc x = some e → Snd X A G stk env ℓ (fun _ _ => True) rEq (isTrue x env (eval x env)) (fun σ => evB X.P hd C e ℓ σ)
  | 0, x, e, hn, he => by cases x <;> simp at hn
  | n + 1, x, e, hn, he => by
    have ih : ∀ x' : Expr, sizeOf x' < sizeOf x → ∀ e, cE sc x' = some e → Snd X A G stk env ℓ (fun _ _ => True) rEq (isTrue x' env (eval x' env)) (fun σ => evB X.P hd C e ℓ σ) := fun x' hx' e' he' => snd_isTrue F ℓ n x' e' (by omega) he'
    have whole := snd_E (G := G) F ℓ _ x e (Nat.le_refl _) he
    have dflt : ∀ pos, Snd X A G stk env ℓ (fun _ _ => True) rEq (eval x env >>= fun v => standAt pos >>= fun _ => PySem.holding [v] (truthy v)) (fun σ => evB X.P hd C e ℓ σ) := fun pos =>
      Snd.bind hTrue whole fun v y => Snd.at (Snd.holding (snd_truth fun ρ h q => q.2))
    cases x with
    | UnaryOp op x pos =>
      cases op with
      | Not =>
        simp only [cE] at he
        obtain ⟨a, ha, he⟩ := Option.bind_eq_some_iff.mp he
        cases he
        refine Snd.cong (Snd.bind hTrue (ih x (by simp; omega) a ha) (k := fun b => Pure.pure (!b)) fun b b' => ?_) fun σ => evB_not σ
        intro σ ρ s I hr hb
        obtain rfl : b = b' := hr.2
        exact wpAny_pure (qok_same I rfl rfl)
      | _ => exact dflt _
    | BoolOp op vs pos =>
      simp only [cE] at he
      obtain ⟨l, hl, he⟩ := Option.bind_eq_some_iff.mp he
      split at he
      · cases he
      · rename_i hne
        cases he
        refine Snd.cong (snd_allTrue op vs l (fun q => hne (by subst q; simp only [cEs, Option.some.injEq] at hl; subst hl; rfl)) hl fun x hx e he => ih x (by have := sizeOf_mem hx; simp; omega) e he) fun σ => ?_
        cases op <;> simp only [cBool, evB, evE]
    | Compare l ops cs pos => exact (snd_chain F he (fun a ha => snd_E F ℓ _ l a (Nat.le_refl _) ha) fun x hx e he => snd_E F ℓ _ x e (Nat.le_refl _) he).2
    | IfExp => simp [cE] at he
    | _ => exact dflt _
end
end Mine
end

section
set_option maxRecDepth 100000
set_option linter.unusedVariables false
namespace Mine
open PySem PySem.W PySem.Calls PyProof.Rows

section
variable (X : Cy) (A : Around) (G : Heap) (stk : List Env) (env : Env)
noncomputable def SQ (o : SOut) (ρ : Rho) (s : Shared) (f : Flow) (s' : Shared) : Prop := ∃ ρ', Rle ρ ρ' ∧ Fz s.heap s'.heap ∧ match f with
  | .next => ∃ ℓ' σ', o = .next ℓ' σ' ∧ Inv X G stk env ℓ' σ' ρ' s'
  | .cont => ∃ ℓ' σ', o = .cont ℓ' σ' ∧ Inv X G stk env ℓ' σ' ρ' s'
  | .ret y => ∃ v ℓ' σ', o = .ret v σ' ∧ Inv X G stk env ℓ' σ' ρ' s' ∧ Rv X.toCx ρ' s'.heap v y
  | .brk => False
noncomputable def SE (o : SOut) (ρ : Rho) (s : Shared) (e : Value) (s' : Shared) : Prop := ∃ c ℓ' σ' ρ', o = .exc c ℓ' σ' ∧ Rle ρ ρ' ∧ Fz s.heap s'.heap ∧ Inv X G stk env ℓ' σ' ρ' s' ∧ ∀ f, env.frame = some f → Fly X G f c e s'.heap
/-- a suite of statements against what is known of it -/
noncomputable def SOk (t : Sem Flow) (m : Loc → Store → SOut) : Prop := ∀ ℓ σ ρ s, Inv X G stk env ℓ σ ρ s → m ℓ σ ≠ .bad → wpAny (model X.prog X.w) A t (SQ X G stk env (m ℓ σ) ρ s) (SE X G stk env (m ℓ σ) ρ s) s
end

structure SCtx (X : Cy) (C : Bool → V → List V → Store → Out V) (hd : Bool) (D U : Nat) (A : Around) (stk : List Env) (env : Env) (sc : Scope) : Prop extends FCtx X (C hd) hd D U A stk env sc where
  tg : TgtOk sc env
  nd : CellsNd env
  cot : COk X (C true) true D U
  top : ∃ stk' f, stk = env :: stk' ∧ env.frame = some f
  cn : ∀ x c, (x, c) ∈ env.cells → ∃ (i : Nat) (k : NameKind), env.scope.names[i]? = some (x, k) ∧ (k = .cell ∨ k = .free)

section
variable {X : Cy} {A : Around} {G : Heap} {stk : List Env} {env : Env} {ℓ ℓ' : Loc} {σ σ' : Store} {ρ ρ' : Rho} {s s' : Shared} {R : Rho → Heap → Prop}

theorem SQ.trans {o : SOut} {s1 : Shared} {ρ1 : Rho} {f : Flow} (le : Rle ρ ρ1) (fz : Fz s.heap s1.heap) (h : SQ X G stk env o ρ1 s1 f s') : SQ X G stk env o ρ s f s' := by
  obtain ⟨ρ', a, b, c⟩ := h
  exact ⟨ρ', le.trans a, fz.trans b, c⟩
theorem SE.trans {o : SOut} {s1 : Shared} {ρ1 : Rho} {e : Value} (le : Rle ρ ρ1) (fz : Fz s.heap s1.heap) (h : SE X G stk env o ρ1 s1 e s') : SE X G stk env o ρ s e s' := by
  obtain ⟨c, ℓ', σ', ρ', a, b, d, r⟩ := h
  exact ⟨c, ℓ', σ', ρ', a, le.trans b, fz.trans d, r⟩

/-- an expression ahead of a statement's rest -/
theorem sok_bind {α β : Type} {RR : α → β → Rho → Heap → Prop} {t : Sem β} {m : Store → Out α} {k : β → Sem Flow} {f : α → Store → SOut} {ℓ : Loc} (h1 : Snd X A G stk env ℓ (fun _ _ => True) RR t m)
    (I : Inv X G stk env ℓ σ ρ s) (hb : (m σ).bindS ℓ f ≠ .bad)
    (h2 : ∀ a b σ' ρ' s', m σ = .ok a σ' → Rle ρ ρ' → Fz s.heap s'.heap → Inv X G stk env ℓ σ' ρ' s' → RR a b ρ' s'.heap → f a σ' ≠ .bad → wpAny (model X.prog X.w) A (k b) (SQ X G stk env (f a σ') ρ' s') (SE X G stk env (f a σ') ρ' s') s') :
    wpAny (model X.prog X.w) A (t >>= k) (SQ X G stk env ((m σ).bindS ℓ f) ρ s) (SE X G stk env ((m σ).bindS ℓ f) ρ s) s := by
  have hb' : m σ ≠ .bad := fun q => hb (by rw [q]; rfl)
  refine wpAny_bind (wpAny_mono (h1 σ ρ s I trivial hb') (fun b s' ⟨a, σ', ρ', e, le, fz, I', rr⟩ => ?_) fun e s' ⟨c, σ', ρ', e', le, fz, I', fl⟩ => ⟨c, ℓ, σ', ρ', by rw [e']; rfl, le, fz, I', fl⟩)
  have e2 : (m σ).bindS ℓ f = f a σ' := by rw [e]; rfl
  rw [e2] at hb ⊢
  exact wpAny_mono (h2 a b σ' ρ' s' e le fz I' rr hb) (fun _ _ q => q.trans le fz) fun _ _ q => q.trans le fz

theorem swaps_no {sc : Scope} {v : Expr} {e : E} {t : Option Expr} {line : Nat} (he : cE sc v = some e) : swapsWith v t line env = pure false := by
  cases v <;> first | rfl | (simp [cE] at he; done)
theorem swapped_no {sc : Scope} {t v : Expr} (h : asgOk sc t v = true) : swappedStores [t] v env = pure none := by
  unfold asgOk at h
  cases t <;> first | rfl | (cases v <;> first | rfl | (simp [isTupE] at h; done))
theorem assignEach_one {sc : Scope} {t : Expr} {at_ : AT} (h : cAT sc t = some at_) : (assignEach [t] env).map (·.2) = [assign t env] := by
  cases t <;> first | rfl | (simp [cAT] at h; done)

theorem snd_asg {C : Bool → V → List V → Store → Out V} {hd : Bool} {D U : Nat} {sc : Scope} (F : SCtx X C hd D U A stk env sc) {t v : Expr} {pos : Pos} {s' : S} (h : cS sc (.Assign [t] v pos) = some s') : SOk X A G stk env (exec (.Assign [t] v pos) env) (fun ℓ σ => exS X.P C s' hd ℓ σ) := by
  simp only [cS] at h
  split at h
  · rename_i hok
    obtain ⟨t', ht, h⟩ := Option.bind_eq_some_iff.mp h
    obtain ⟨v', hv, h⟩ := Option.bind_eq_some_iff.mp h
    cases h
    intro ℓ σ ρ s I hb
    simp only [exS] at hb ⊢
    show wpAny _ _ (standAt pos >>= fun _ => swapsWith v (some t) pos.line env >>= fun b => if b = true then _ else eval v env >>= fun y => swappedStores [t] v env >>= fun sw => assignStores env y sw ((assignEach [t] env).map (·.2))) _ _ _
    refine wpAny_bind (wpAny_standAt ?_)
    rw [swaps_no hv, swapped_no hok, assignEach_one ht]
    refine wpAny_bind (wpAny_pure ?_)
    simp only [Bool.false_eq_true, if_false]
    refine sok_bind (snd_E F.toFCtx ℓ _ v v' (Nat.le_refl _) hv) I hb fun va y σ1 ρ1 s1 ev le fz I1 rv hb1 => ?_
    refine wpAny_bind (wpAny_pure ?_)
    show wpAny _ _ (assign t env y >>= fun _ => Pure.pure Flow.next) _ _ _
    refine wpAny_bind ?_
    cases t with
    | Name x p =>
      simp only [cAT] at ht
      obtain ⟨i, e1, rfl⟩ := Option.map_eq_some_iff.mp ht
      exact wp_asgName F.hs e1 (F.tg x i e1) I1 rv fun s2 fz2 I2 => wpAny_pure ⟨ρ1, Rle.refl _, fz2, _, _, rfl, I2⟩
    | _ => simp [cAT] at ht
  · cases h

theorem kind_fn (I : Inv X G stk env ℓ σ ρ s) : interactive env = false := by
  unfold interactive
  rw [I.fr.kind]
  rfl

end
end Mine
end

section
set_option maxRecDepth 100000
set_option linter.unusedVariables false
namespace Mine
open PySem PySem.W PySem.Calls PyProof.Rows

section
variable {X : Cy} {A : Around} {G : Heap} {stk : List Env} {env : Env} {ℓ ℓ' : Loc} {σ σ' : Store} {ρ ρ' : Rho} {s s' : Shared} {R : Rho → Heap → Prop}

theorem cSs_nil {sc : Scope} {ss : List S} (h : cSs sc [] = some ss) : ss = [] := by simp only [cSs, Option.some.injEq] at h; exact h.symm
theorem cSs_cons {sc : Scope} {x : Stmt} {xs : List Stmt} {ss : List S} (h : cSs sc (x :: xs) = some ss) : ∃ a r, ss = a :: r ∧ cS sc x = some a ∧ cSs sc xs = some r := by
  simp only [cSs] at h
  obtain ⟨a, e1, e2⟩ := Option.bind_eq_some_iff.mp h
  obtain ⟨r, e3, rfl⟩ := Option.map_eq_some_iff.mp e2
  exact ⟨a, r, rfl, e1, e3⟩

theorem cRaise_spec {sc : Scope} {e c : Option Expr} {r : Str × List Nat} (h : cRaise sc e c = some r) : ∃ x np m k cp cpos, e = some (.Call (.Name x np) [.Constant (.str m) k cp] [] cpos) ∧ c = none ∧ isGlob sc x = true ∧ r.1 = x := by
  unfold cRaise at h
  split at h
  · split at h
    · split at h
      · cases h; exact ⟨_, _, _, _, _, _, rfl, rfl, by assumption, rfl⟩
      · cases h
    · cases h
  · cases h

theorem snd_raise {C : Bool → V → List V → Store → Out V} {hd : Bool} {D U : Nat} {sc : Scope} (F : SCtx X C hd D U A stk env sc) {e c : Option Expr} {pos : Pos} {s' : S} (h : cS sc (.Raise e c pos) = some s') : SOk X A G stk env (exec (.Raise e c pos) env) (fun ℓ σ => exS X.P C s' hd ℓ σ) := by
  simp only [cS] at h
  obtain ⟨r, hr, rfl⟩ := Option.map_eq_some_iff.mp h
  obtain ⟨x, np, m, k, cp, cpos, rfl, rfl, hg, hx⟩ := cRaise_spec hr
  intro ℓ σ ρ s I hb
  simp only [exS] at hb ⊢
  split at hb
  · exact absurd rfl hb
  · rename_i hd0
    have hd0 : hd = false := by simpa using hd0
    subst hd0
    simp only [Bool.false_eq_true, if_false]
    split at hb
    · rename_i hx'
      rw [if_pos hx']
      rw [hx] at hx' ⊢
      obtain ⟨hglob, Cc, hal, nm, q, N, bs, bm, hdct, sn, sub, ab, col, dd, k0, k1, k2, k3, k5, newId, mN, Bn, inN, B, nid, initId, bmN, bmB, Fn, hBn, Fb, hbase, hni, gC, gN, gT⟩ := F.base.exc x hx'
      have kk : ∀ {s1 : Shared} {σ1 : Store} {ρ1 : Rho}, Inv X G stk env ℓ σ1 ρ1 s1 → ∀ b o, X.G0.get? b = some o → s1.heap.get? b = some o := fun I1 b o e0 => I1.frBase e0
      refine wpAny_Raise_call_subU (C := Cc) (nm := nm) (q := q) (N := N) (bs := bs) (bm := bm) (hdct := hdct) (sn := sn) (sub := sub) (ab := ab) (col := col) (dd := dd) (k0 := k0) (k1 := k1) (k2 := k2) (k3 := k3) (k5 := k5) (newId := newId) Fn hBn Fb hbase (F.hA.2.2.2 rfl) rfl hni ?_
      have hcn : cName sc x = some (.glob x) := by
        have : cVar sc x = none := by
          unfold isGlob at hg
          unfold cVar
          split
          · rfl
          · simp only [Bool.and_eq_true] at hg
            have k2 := hg.2
            revert k2
            cases kindIdx sc x with
            | none => intro _; rfl
            | some p => obtain ⟨i, k⟩ := p; cases k <;> simp
        unfold cName; rw [this]; simp only [hg, if_true]
      refine wpAny_mono (ev_name (R := fun _ _ => True) (C := C false) (hd := false) (pos := np) F.base.gl F.hs hcn σ ρ s I trivial (by simp only [evE, hglob]; intro q; cases q)) (fun f s1 ⟨vf, σ1, ρ1, e1, le1, fz1, I1, rf⟩ => ?_) fun ex s1 ⟨cc, σ1, ρ1, e1, _⟩ => ?_
      · have e1 : evE X.P false (C false) (.glob x) ℓ σ = .ok vf σ1 := e1
        simp only [evE, hglob, Out.ofOpt] at e1
        cases e1
        have rf : Rv X.toCx ρ1 s1.heap (.cls x) f := rf
        cases rf with
        | cls ha =>
        rw [hal] at ha; cases ha
        refine ⟨rfl, evalArgs_any rfl ?_⟩
        have hes : cEs sc [.Constant (.str m) k cp] = some [.str m.cps.toList] := by simp [cEs, cE]
        refine wpAny_mono (snd_spliced (pos := cpos) (hd := false) (C := C false) hTrue hes (fun x' hx' e' he' => snd_E F.toFCtx ℓ _ x' e' (Nat.le_refl _) he') σ ρ1 s1 I1 trivial (by simp only [evEs, evE]; intro q; cases q)) (fun vs s2 ⟨ws, σ2, ρ2, e2, le2, fz2, I2, rl⟩ => ?_) fun ex s2 ⟨cc, σ2, ρ2, e2, _⟩ => ?_
        · have e2 : evEs X.P false (C false) [.str m.cps.toList] ℓ σ = .ok ws σ2 := e2
          simp only [evEs, evE, Bool.false_eq_true, if_false, Out.bind] at e2
          cases e2
          have hln : vs.length = 1 := by have := rl.length; simp at this; omega
          refine ⟨rfl, by show vs.length ≤ sizeLine; rw [sizeLine_eq]; omega, kk I2 _ _ gC, gN.keeps (kk I2), gT.keeps (kk I2), fun h' e0 hm => ?_⟩
          obtain ⟨t, ht, _, _⟩ := hm.there
          have I3 : Inv X G stk env ℓ σ ρ2 { s2 with heap := h' } := I2.grow hm.keeps rfl rfl
          refine ⟨x, ℓ, σ, ρ2, rfl, le1.trans le2, (fz1.trans fz2).trans (.of_keeps hm.keeps), I3, fun f _ => ⟨e0, Cc, _, _, rfl, hal, ht, rfl, rfl, ?_, .inl rfl⟩⟩
          cases q : G.get? e0 with
          | none => rfl
          | some o =>
            obtain ⟨sl, z, _⟩ := I2.keep e0 o q
            rw [hm.new] at z; cases z
        · have e2 : evEs X.P false (C false) [.str m.cps.toList] ℓ σ = .exc cc σ2 := e2
          simp only [evEs, evE, Bool.false_eq_true, if_false, Out.bind] at e2
          cases e2
      · have e1 : evE X.P false (C false) (.glob x) ℓ σ = .exc cc σ1 := e1
        simp only [evE, hglob, Out.ofOpt] at e1
        cases e1
    · exact absurd rfl hb

theorem SCtx.mark {C : Bool → V → List V → Store → Out V} {hd : Bool} {D U : Nat} {sc : Scope} (F : SCtx X C hd D U A stk env sc) (e : Option Value) : SCtx X C true D U (A.mark e) stk env sc :=
  { base := F.base, co := F.cot, hU := F.hU, hs := F.hs, hA := ⟨F.hA.1, F.hA.2.1, F.hA.2.2.1, fun q => by cases q⟩, hfr := F.hfr, tg := F.tg, nd := F.nd, cot := F.cot, cn := F.cn, top := F.top }

/-- all names go -/
theorem Inv.forget (I : Inv X G stk env ℓ σ ρ s) {h' : Heap} {m' : Str → Option Value} {tk : Nat} (hn : h'.Ns env.locals m') (hs : Heap.SameBut env.locals s.heap h') : Fz s.heap h' ∧ Inv X G stk env (List.replicate env.scope.names.length none) σ ρ { s with heap := h', toks := tk } := by
  obtain ⟨m, hm, _⟩ := I.fr.ns
  obtain ⟨o, es, ep, ho, hd, _⟩ := hm
  obtain ⟨o', es', ep', ho', hd', _⟩ := id hn
  have fz : Fz s.heap h' := .but (fun b ob q e => (hs.2 b q).trans e) ho ho' (fun _ _ _ q => by rw [hd] at q; cases q) (fun _ q => by rw [hd] at q; cases q) (fun _ q => by rw [hd'] at q; cases q) (fun _ _ _ => ⟨es', ep', hd'⟩)
  refine ⟨fz, I.chg (s' := { s with heap := h', toks := tk }) (fun b => b = env.locals) fz (fun b ob e q => (hs.2 b q).trans e) (fun b q => q ▸ I.ownL.1) ?_ I.ownL.2 I.len (fun n c p e1 e2 => ?_) I.sep I.fresh rfl rfl⟩
  · refine ⟨I.fr.kind, I.fr.gl, I.fr.bl, by simp, I.fr.nd, ⟨m', hn, fun i v x e1 _ => ?_⟩, fun i x k e1 e2 => ?_⟩
    · rw [List.getElem?_replicate] at e1
      split at e1 <;> cases e1
    · obtain ⟨c, oc, y, a1, a2, a3, a4, _⟩ := I.fr.cl i x k e1 e2
      refine ⟨c, oc, y, a1, (hs.2 c fun q => ?_).trans a2, a3, a4, fun v hv => ?_⟩
      · rw [q, ho] at a2; cases a2; rw [hd] at a4; cases a4
      · rw [List.getElem?_replicate] at hv
        split at hv <;> cases hv
  · obtain ⟨h1, h2⟩ := I.ownL.2 n p e2
    exact (I.cells n c p e1 e2).mono (Rle.refl _) fz (fun o e => (hs.2 _ h1).trans e) (fun o e => (hs.2 _ h2).trans e)

theorem wp_try {C : Bool → V → List V → Store → Out V} {D U : Nat} {sc : Scope} (F : SCtx X C false D U A stk env sc) {b : List Stmt} {b' : List S} {d x : Str} {np hpos pos : Pos} {b₀ : Stmt} {suite : List Stmt} {i : Nat} {h' : List S} (hg : isGlob sc d = true) (hx : kindIdx sc x = some (i, .local))
    (hB : ∀ G, SOk X A G stk env (execs b env) (fun ℓ σ => exSs X.P C b' false ℓ σ)) (hH : ∀ e G, SOk X (A.mark (some e)) G stk env (execs (b₀ :: suite) env) (fun ℓ σ => exSs X.P C h' true ℓ σ)) :
    SOk X A G stk env (exec (.Try b [.ExceptHandler (some (.Name d np)) (some x) (b₀ :: suite) hpos] [] [] pos) env) (fun ℓ σ => exS X.P C (.try b' d i h') false ℓ σ) := by
  intro ℓ σ ρ s I hb
  obtain ⟨stk', f, hstk, hf⟩ := F.top
  simp only [exS, Bool.false_eq_true, if_false] at hb ⊢
  have hb1 : exSs X.P C b' false ℓ σ ≠ .bad := fun q => hb (by rw [q])
  refine wpAny_Try_except (wpAny_mono (hB G ℓ σ ρ s I hb1) (fun fl s1 hq => ?_) fun e s1 hq => ?_)
  · obtain ⟨ρ1, le1, fz1, hq⟩ := hq
    cases fl with
    | next =>
      obtain ⟨ℓ1, σ1, e1, I1⟩ := hq
      dsimp only at e1
      rw [e1] at hb ⊢
      exact wpAny_pure ⟨ρ1, le1, fz1, ℓ1, σ1, rfl, I1⟩
    | cont => obtain ⟨ℓ1, σ1, e1, I1⟩ := hq; dsimp only at e1; rw [e1] at hb; exact absurd rfl hb
    | brk => exact hq.elim
    | ret y => obtain ⟨v, ℓ1, σ1, e1, I1, rv⟩ := hq; dsimp only at e1; rw [e1]; exact ⟨ρ1, le1, fz1, v, ℓ1, σ1, rfl, I1, rv⟩
  · obtain ⟨c, ℓ1, σ1, ρ1, e1, le1, fz1, I1, fl⟩ := hq
    dsimp only at e1
    rw [e1] at hb ⊢
    dsimp only at hb ⊢
    split at hb
    · rename_i hca
      rw [if_pos hca]
      have hca' : X.P.isa c (.cls d) = some true ∧ X.P.glob d = some (.cls d) := by
        unfold catches at hca
        split at hca
        · rename_i d' q1 q2; rw [q1, q2, eq_of_beq hca]; exact ⟨rfl, rfl⟩
        · cases hca
      obtain ⟨hisa, hgl⟩ := hca'
      subst hstk
      refine wp_note I1 F.hA.1 hf (fl f hf) fun s2 fz2 I2 fl2 => ?_
      obtain ⟨ea, Cc, oe, vs, rfl, hal, _⟩ := (fl2 f).at_
      refine wpAny_handleBy_cons (codeAny_handlers_test ?_) (by intro q; cases q)
      obtain ⟨mg, mb, m1, m2, m3, _⟩ := F.base.gl.glob
      obtain ⟨yD, hyD, rD⟩ := m3 d _ hgl
      cases rD with
      | cls haD =>
      rename_i DD
      obtain ⟨hnD, iD, eD1⟩ := isGlob_spec hg
      obtain ⟨kD, fD1, fD2, fD3⟩ := F.hs d iD _ eD1
      have hkD : kD = .globalImplicit := by
        rcases fD3 with rfl | ⟨q, _⟩
        · rfl
        · cases q
      subst hkD
      show wpAny _ _ (do standAt np; if d == ("__debug__" : Str) then debugConstant else loadName env d) _ _ _
      refine wpAny_bind (wpAny_standAt ?_)
      rw [badName_debug hnD]
      refine wp_loadGlob F.base.gl I2 fD2 (fun mg' mb' z1 z2 => ns_unique m1 z1 ▸ ns_unique m2 z2 ▸ hyD) ?_
      obtain ⟨ea', C', oe', vs', q, hal', he', hc', hd', _⟩ := (fl2 f).at_
      cases q
      rw [hal] at hal'; cases hal'
      refine F.base.exm c d true hisa Cc DD hal haD (A.mark (some (.ref ea))) _ s2 ea oe' vs' (fun b o e0 => I2.frBase e0) he' hc' hd' _ ?_
      refine codeAny_handlers_suite_as ?_
      refine wp_flight I2 (fl2 f) fun s3 fz3 I3 => ?_
      obtain ⟨k', fx1, fx2, fx3⟩ := F.hs x i _ hx
      have hk' : k' = .local := by
        rcases fx3 with rfl | ⟨q, _⟩
        · rfl
        · cases q
      subst hk'
      have rv3 : Rv X.toCx ρ1 s3.heap (.exc c) (.ref ea) := by
        obtain ⟨o3, vs3, z1, z2, z3⟩ := (fz3 _ _ he').2.1 _ _ hc' hd'
        exact .exc o3 vs3 hal z1 (z2.trans hc') z3
      refine wp_store I3 fx1 fx2 (.inl rfl) rv3 fun s4 fz4 I4 => ?_
      have hb2 : exSs X.P C h' true (ℓ1.set i (some (.exc c))) σ1 ≠ .bad := fun q => hb (by rw [q])
      have hno : ∀ {cc ℓ5 σ5}, exSs X.P C h' true (ℓ1.set i (some (.exc c))) σ1 ≠ .exc cc ℓ5 σ5 := fun q => hb (by rw [q])
      refine wpAny_mono (hH (.ref ea) G _ σ1 ρ1 s4 I4 hb2) (fun fl5 s5 hq5 => ?_) fun ex s5 ⟨cc, ℓ5, σ5, ρ5, e5, _⟩ => absurd e5 hno
      obtain ⟨ρ5, le5, fz5, hq5⟩ := hq5
      cases fl5 with
      | next => obtain ⟨ℓ5, σ5, e5, I5⟩ := hq5; dsimp only at e5; rw [e5] at hb; exact absurd rfl hb
      | cont => obtain ⟨ℓ5, σ5, e5, I5⟩ := hq5; dsimp only at e5; rw [e5] at hb; exact absurd rfl hb
      | brk => exact hq5.elim
      | ret y =>
        obtain ⟨v, ℓ5, σ5, e5, I5, rv⟩ := hq5
        dsimp only at e5
        rw [e5]
        obtain ⟨m5, hm5, _⟩ := I5.fr.ns
        refine wpAny_nameGoes fx2 hm5 (by rw [I5.fr.kind]; rfl) fun h6 m6 hn6 hs6 => ?_
        obtain ⟨fz6, I6⟩ := I5.forget (tk := s5.toks + 1) hn6 hs6
        exact ⟨ρ5, le1.trans le5, ((((fz1.trans fz2).trans fz3).trans fz4).trans fz5).trans fz6, v, _, σ5, rfl, I6, rv.mono (Rle.refl _) fz6⟩
    · exact absurd rfl hb

theorem snd_S {A : Around} {C : Bool → V → List V → Store → Out V} {hd : Bool} {D U : Nat} {sc : Scope} (F : SCtx X C hd D U A stk env sc) : ∀ (n : Nat), (∀ (x : Stmt) (y : S), sizeOf x ≤ n → cS sc x = some y → ∀ G, SOk X A G stk env (exec x env) (fun ℓ σ => exS X.P C y hd ℓ σ)) ∧
    (∀ (x : List Stmt) (y : List S), sizeOf x ≤ n → cSs sc x = some y → ∀ G, SOk X A G stk env (execs x env) (fun ℓ σ => exSs X.P C y hd ℓ σ))
  | 0 => ⟨fun x y h => by cases x <;> simp at h, fun x y h => by cases x <;> simp at h⟩
  | n + 1 => by
    obtain ⟨ih1, ih2⟩ := snd_S F n
    refine ⟨fun x y hn h G => ?_, fun x y hn h G => ?_⟩
    · cases x with
      | Assign ts v pos =>
        cases ts with
        | nil => simp [cS] at h
        | cons t ts =>
          cases ts with
          | nil => exact snd_asg F h
          | cons => simp [cS] at h
      | Expr v pos =>
        simp only [cS] at h
        obtain ⟨v', hv, rfl⟩ := Option.map_eq_some_iff.mp h
        intro ℓ σ ρ s I hb
        simp only [exS] at hb ⊢
        show wpAny _ _ (standAt pos >>= fun _ => if interactive env = true then printExpr (eval v env) else swapsWith v none pos.line env >>= fun b => if b = true then _ else eval v env >>= fun y => dropValue v pos y) _ _ _
        refine wpAny_bind (wpAny_standAt ?_)
        rw [kind_fn I, swaps_no hv]
        simp only [Bool.false_eq_true, if_false]
        refine wpAny_bind (wpAny_pure ?_)
        simp only [Bool.false_eq_true, if_false]
        exact sok_bind (snd_E F.toFCtx ℓ _ v v' (Nat.le_refl _) hv) I hb fun va y σ1 ρ1 s1 ev le fz I1 rv hb1 => wpAny_dropValue ⟨ρ1, Rle.refl _, Fz.refl _, ℓ, σ1, rfl, I1⟩
      | Return v pos =>
        cases v with
        | none => simp [cS] at h
        | some v =>
          simp only [cS] at h
          obtain ⟨v', hv, rfl⟩ := Option.map_eq_some_iff.mp h
          intro ℓ σ ρ s I hb
          simp only [exS] at hb ⊢
          refine wpAny_bind (wpAny_standAt ?_)
          show wpAny _ _ (eval v env >>= fun y => Pure.pure (Flow.ret y)) _ _ _
          exact sok_bind (snd_E F.toFCtx ℓ _ v v' (Nat.le_refl _) hv) I hb fun va y σ1 ρ1 s1 ev le fz I1 rv hb1 => wpAny_pure ⟨ρ1, Rle.refl _, Fz.refl _, va, ℓ, σ1, rfl, I1, rv⟩
      | If c a b pos =>
        simp only [cS] at h
        obtain ⟨c', hc, h⟩ := Option.bind_eq_some_iff.mp h
        obtain ⟨a', ha, h⟩ := Option.bind_eq_some_iff.mp h
        obtain ⟨b', hb', h⟩ := Option.bind_eq_some_iff.mp h
        cases h
        intro ℓ σ ρ s I hb
        simp only [exS] at hb ⊢
        show wpAny _ _ (standAt pos >>= fun _ => isTrue c env (eval c env) >>= fun t => if t = true then execs a env else execs b env) _ _ _
        refine wpAny_bind (wpAny_standAt ?_)
        refine sok_bind (snd_isTrue F.toFCtx ℓ _ c c' (Nat.le_refl _) hc) I hb fun t t' σ1 ρ1 s1 ev le fz I1 rt hb1 => ?_
        have rt : t = t' := rt
        subst rt
        cases t with
        | true => exact ih2 a a' (by simp at hn; omega) ha G ℓ σ1 ρ1 s1 I1 hb1
        | false => exact ih2 b b' (by simp at hn; omega) hb' G ℓ σ1 ρ1 s1 I1 hb1
      | Raise e c pos => exact snd_raise F h
      | Try b hs o fi pos =>
        simp only [cS] at h
        split at h
        · rename_i hnil
          simp only [Bool.and_eq_true] at hnil
          obtain ⟨b', hb', h1⟩ := Option.bind_eq_some_iff.mp h
          clear h
          have nil : ∀ {α : Type} {l : List α}, isNil l = true → l = [] := fun {α l} h => by cases l <;> first | rfl | cases h
          obtain rfl := nil hnil.1
          obtain rfl := nil hnil.2
          cases hs with
          | nil => simp [cHs] at h1
          | cons hh hr =>
            simp only [cHs] at h1
            split at h1
            · rename_i hnr
              obtain rfl := nil hnr
              obtain ⟨ty, name, hbdy, hpos⟩ := hh
              simp only [cH] at h1
              obtain ⟨h', hh', h2⟩ := Option.bind_eq_some_iff.mp h1
              clear h1
              split at h2
              · rename_i d np x
                split at h2
                · rename_i hc
                  simp only [Bool.and_eq_true, Bool.not_eq_true'] at hc
                  split at h2
                  · rename_i i hx
                    split at h2
                    · cases h2
                    · cases h2
                      intro ℓ σ ρ s I hb
                      cases hd with
                      | true => simp only [exS, if_true] at hb; exact absurd rfl hb
                      | false =>
                        cases hbdy with
                        | nil => cases hc.2
                        | cons b₀ suite =>
                          exact wp_try F hc.1 hx (fun G => ih2 b b' (by simp at hn; omega) hb' G) (fun e G => (snd_S (F.mark (some e)) n).2 (b₀ :: suite) h' (by simp at hn ⊢; omega) hh' G) ℓ σ ρ s I hb
                  · cases h2
                · cases h2
              · cases h2
            · cases h1
        · cases h
      | Pass pos =>
        simp only [cS, Option.some.injEq] at h
        subst h
        intro ℓ σ ρ s I hb
        simp only [exS]
        exact wpAny_bind (wpAny_standAt (wpAny_pure ⟨ρ, Rle.refl _, Fz.refl _, ℓ, σ, rfl, I⟩))
      | Continue pos =>
        simp only [cS, Option.some.injEq] at h
        subst h
        intro ℓ σ ρ s I hb
        simp only [exS]
        exact wpAny_bind (wpAny_standAt (wpAny_pure ⟨ρ, Rle.refl _, Fz.refl _, ℓ, σ, rfl, I⟩))
      | _ => simp [cS] at h
    · cases x with
      | nil =>
        obtain rfl := cSs_nil h
        intro ℓ σ ρ s I hb
        simp only [exSs]
        exact wpAny_pure ⟨ρ, Rle.refl _, Fz.refl _, ℓ, σ, rfl, I⟩
      | cons x xs =>
        obtain ⟨a, r, rfl, h1, h2⟩ := cSs_cons h
        intro ℓ σ ρ s I hb
        simp only [exSs] at hb ⊢
        have hb1 : exS X.P C a hd ℓ σ ≠ .bad := fun q => hb (by rw [q]; rfl)
        show wpAny _ _ (exec x env >>= fun f => match f with | .next => execs xs env | f => Pure.pure f) _ _ _
        refine wpAny_bind (wpAny_mono (ih1 x a (by simp at hn; omega) h1 G ℓ σ ρ s I hb1) (fun f s1 ⟨ρ1, le, fz, hq⟩ => ?_) fun e s' ⟨cc, ℓ', σ', ρ', ev, le, fz, I', fl⟩ => ⟨cc, ℓ', σ', ρ', by dsimp only at ev; rw [ev]; rfl, le, fz, I', fl⟩)
        cases f with
        | next =>
          obtain ⟨ℓ1, σ1, e1, I1⟩ := hq
          have e1 : exS X.P C a hd ℓ σ = .next ℓ1 σ1 := e1
          rw [e1] at hb ⊢
          exact wpAny_mono (ih2 xs r (by simp at hn; omega) h2 G ℓ1 σ1 ρ1 s1 I1 hb) (fun _ _ q => q.trans le fz) fun _ _ q => q.trans le fz
        | cont =>
          obtain ⟨ℓ1, σ1, e1, I1⟩ := hq
          have e1 : exS X.P C a hd ℓ σ = .cont ℓ1 σ1 := e1
          rw [e1]
          exact wpAny_pure ⟨ρ1, le, fz, ℓ1, σ1, rfl, I1⟩
        | brk => exact hq.elim
        | ret y =>
          obtain ⟨v, ℓ1, σ1, e1, I1, rv⟩ := hq
          have e1 : exS X.P C a hd ℓ σ = .ret v σ1 := e1
          rw [e1]
          exact wpAny_pure ⟨ρ1, le, fz, v, ℓ1, σ1, rfl, I1, rv⟩
end
end Mine
end

section
set_option maxRecDepth 100000
set_option linter.unusedVariables false
namespace Mine
open PySem PySem.W PySem.Calls PyProof.Rows

theorem lookup_zip : ∀ {ns : List Str} {vs : List Value} {i : Nat} {x : Str} {v : Value}, ns.Nodup → ns[i]? = some x → vs[i]? = some v → (ns.zip vs).lookup x = some v
  | [], _, _, _, _, _, h, _ => by simp at h
  | _ :: _, [], _, _, _, _, _, h => by simp at h
  | n :: ns, v :: vs, 0, x, w, nd, h1, h2 => by
    simp only [List.getElem?_cons_zero, Option.some.injEq] at h1 h2
    subst h1; subst h2
    simp [List.lookup]
  | n :: ns, v :: vs, i + 1, x, w, nd, h1, h2 => by
    simp only [List.getElem?_cons_succ] at h1 h2
    obtain ⟨hn, nd'⟩ := List.nodup_cons.mp nd
    have hne : (x == n) = false := by
      rw [beq_eq_false_iff_ne]; intro e; subst e; exact hn (List.mem_of_getElem? h1)
    simp only [List.zip_cons_cons, List.lookup, hne]
    exact lookup_zip nd' h1 h2
theorem zip_lookup_some {ns : List Str} {vs : List Value} (nd : ns.Nodup) (hl : vs.length = ns.length) {x : Str} (hx : x ∈ ns) : ∃ v, (ns.zip vs).lookup x = some v := by
  obtain ⟨i, hi, e⟩ := List.mem_iff_getElem.mp hx
  exact ⟨vs[i]'(by omega), lookup_zip nd (by rw [List.getElem?_eq_getElem hi, e]) (List.getElem?_eq_getElem (by omega))⟩
theorem fm_congr {α β : Type} {f g : α → Option β} : ∀ {l : List α}, (∀ x ∈ l, f x = g x) → l.filterMap f = l.filterMap g
  | [], _ => rfl
  | a :: l, h => by rw [List.filterMap_cons, List.filterMap_cons, h a (.head _), fm_congr fun x hx => h x (.tail _ hx)]
theorem zip_filterMap : ∀ {ns : List Str} {vs : List Value}, ns.Nodup → vs.length = ns.length → (ns.filterMap fun n => ((ns.zip vs).lookup n).map (n, ·)) = ns.zip vs
  | [], vs, _, _ => by simp
  | n :: ns, [], _, h => by simp at h
  | n :: ns, v :: vs, nd, h => by
    obtain ⟨hn, nd'⟩ := List.nodup_cons.mp nd
    have hl : vs.length = ns.length := by simpa using h
    have h0 : ((n, v) :: ns.zip vs).lookup n = some v := by simp [List.lookup]
    simp only [List.zip_cons_cons, List.filterMap_cons, h0, Option.map_some]
    congr 1
    have := zip_filterMap nd' hl
    conv => rhs; rw [← this]
    refine fm_congr fun x hx => ?_
    have hne : (x == n) = false := by rw [beq_eq_false_iff_ne]; intro e; subst e; exact hn hx
    simp only [List.lookup, hne]

theorem lookup_nodup {β : Type} : ∀ {l : List (Str × β)} {x : Str} {v : β}, (l.map (·.1)).Nodup → (x, v) ∈ l → l.lookup x = some v
  | [], _, _, _, h => by cases h
  | (y, w) :: l, x, v, nd, h => by
    simp only [List.map_cons, List.nodup_cons] at nd
    cases h with
    | head => simp [List.lookup]
    | tail _ h =>
      have hne : (x == y) = false := by
        rw [beq_eq_false_iff_ne]; intro e; subst e; exact nd.1 (List.mem_map.mpr ⟨(x, v), h, rfl⟩)
      simp only [List.lookup, hne]
      exact lookup_nodup nd.2 h
theorem zip_fst {ns : List Str} {vs : List Value} (hl : vs.length = ns.length) : (ns.zip vs).map (·.1) = ns := by
  rw [List.map_fst_zip]; omega
theorem rev_lookup {ns : List Str} {vs : List Value} {i : Nat} {x : Str} {v : Value} (nd : ns.Nodup) (hl : vs.length = ns.length) (h1 : ns[i]? = some x) (h2 : vs[i]? = some v) : ((ns.zip vs).reverse).lookup x = some v := by
  refine lookup_nodup ?_ ?_
  · rw [List.map_reverse, zip_fst hl]; exact List.pairwise_reverse.mpr (nd.imp fun h => h.symm)
  · rw [List.mem_reverse]
    exact List.mem_of_getElem? (i := i) (by rw [List.getElem?_zip_eq_some]; exact ⟨h1, h2⟩)

theorem bindArgs_pos {fd : FuncData} {vals : List Value} (h1 : fd.params.posonlyargs = []) (h2 : fd.params.kwonlyargs = []) (h3 : fd.params.vararg = none) (h4 : fd.params.kwarg = none) (h5 : fd.defaults = .none)
    (hl : vals.length = fd.params.args.length) (nd : (fd.params.args.map (·.arg)).Nodup) : bindArgs fd ⟨vals, []⟩ = pure ((fd.params.args.map (·.arg)).zip vals) := by
  have hlen : vals.length = (fd.params.args.map (·.arg)).length := by simpa using hl
  have hmiss : (fd.params.args.map (·.arg)).filter (fun n => (((fd.params.args.map (·.arg)).zip vals).lookup n).isNone) = [] := by
    rw [List.filter_eq_nil_iff]
    intro x hx
    obtain ⟨v, hv⟩ := zip_lookup_some nd hlen hx
    simp [hv]
  unfold bindArgs
  simp only [h1, h2, h3, h4, h5, List.map_nil, List.nil_append, List.append_nil, List.forIn_nil]
  have hpb : ∀ {α β : Type} (a : α) (f : α → Sem β), ((Pure.pure a : Sem α) >>= f) = f a := fun _ _ => rfl
  have hs : seqItems? Value.none = Pure.pure none := rfl
  have hlt : decide (vals.length > (fd.params.args.map (·.arg)).length) = false := by rw [decide_eq_false_iff_not]; omega
  generalize fd.params.args.map (·.arg) = ns at *
  simp only [hpb, hs, hlt, Bool.false_and, Bool.false_eq_true, if_false, Option.getD_none, List.length_nil, Nat.zero_sub, List.drop_nil, Nat.sub_zero, List.take_length, hmiss, List.isEmpty_nil, Bool.not_true, List.zip_nil_right, List.forIn_nil, zip_filterMap nd hlen]

theorem Rle.len {ρ ρ' : Rho} (h : Rle ρ ρ') : True := trivial

section
variable {X : Cy} {A : Around} {G : Heap} {stk : List Env} {env : Env} {ℓ ℓ' : Loc} {σ σ' : Store} {ρ ρ' : Rho} {s s' : Shared} {R : Rho → Heap → Prop}

theorem cFn_spec {params : Arguments} {sc : Scope} {body : List Stmt} {d : FnD} (h : cFn params sc body = some d) : params.posonlyargs = [] ∧ params.kwonlyargs = [] ∧ params.vararg = none ∧ params.kwarg = none ∧ sc.kind = .function ∧ sc.isGenerator = false ∧ sc.isCoroutine = false ∧
    (sc.names.take params.args.length).map (·.1) = params.args.map (·.arg) ∧ (∀ p ∈ sc.names.take params.args.length, p.2 = .local) ∧ (∀ p ∈ sc.names, p.2 = .local ∨ p.2 = .globalImplicit) ∧ (sc.names.map (·.1)).Nodup ∧ ∃ b, cSs sc body = some b ∧ d = ⟨params.args.length, sc.names.length, b⟩ := by
  unfold cFn at h
  split at h
  · rename_i hc
    obtain ⟨b, h1, h2⟩ := Option.map_eq_some_iff.mp h
    simp only [Bool.and_eq_true, beq_iff_eq, Bool.not_eq_true', decide_eq_true_eq, List.all_eq_true, Bool.or_eq_true, Option.isNone_iff_eq_none] at hc
    obtain ⟨⟨⟨⟨⟨⟨⟨⟨⟨⟨⟨a1, a2⟩, a3⟩, a4⟩, a5⟩, a6⟩, a7⟩, a8⟩, a9⟩, a10⟩, a11⟩, a12⟩ := hc
    have nil : ∀ {α : Type} {l : List α}, isNil l = true → l = [] := fun {α l} h => by cases l <;> first | rfl | cases h
    exact ⟨nil a1, nil a2, a3, a4, a6, a7, a8, a9, a10, a11, a12, b, h1, h2.symm⟩
  · cases h

theorem RvL.getR {X : Cx} {ρ : Rho} {h : Heap} : ∀ {vs : List V} {ys : List Value} {i : Nat} {v : V}, RvL X ρ h vs ys → vs[i]? = some v → ∃ y, ys[i]? = some y ∧ Rv X ρ h v y := fun r e => r.get e

/-- the frame of a call -/
theorem Inv.callee (B : BaseOk X) (I : Inv X G stk env ℓ σ ρ s) {fd : FuncData} {a : Addr} {body : List Stmt} {d : FnD} (hc : cFn fd.params fd.scope body = some d) (hg : fd.globals = mainGlobals) (hbl : fd.builtins = builtinsNs) (hcl : fd.closure = [])
    {as : List V} {ys : List Value} (rl : RvL X.toCx ρ s.heap as ys) (hl : as.length = d.np) {h₀ : Heap} {tk : Nat} (hn : h₀.Ns s.heap.objs.size (fun x => (((fd.params.args.map (·.arg)).zip ys).reverse).lookup x)) (hk : ∀ b o, s.heap.get? b = some o → h₀.get? b = some o) :
    Inv X (prot h₀ ρ (callEnv fd s.heap.objs.size a)) (callEnv fd s.heap.objs.size a :: stk) (callEnv fd s.heap.objs.size a) (as.map some ++ List.replicate (d.nl - d.np) none) σ ρ { s with heap := h₀, toks := tk } := by
  obtain ⟨c1, c2, c3, c4, c5, c6, c7, c8, c9, c10, c11, b, c12, rfl⟩ := cFn_spec hc
  have hL0 : s.heap.get? s.heap.objs.size = none := get?_size _
  have hLG : X.G0.get? s.heap.objs.size = none := by
    cases q : X.G0.get? s.heap.objs.size with
    | none => rfl
    | some o => rw [I.frBase q] at hL0; cases hL0
  have hrho : ∀ (n : Nat) p, ρ[n]? = some p → (∃ o, s.heap.get? p.1 = some o) ∧ ∃ o, s.heap.get? p.2 = some o := fun n p hp => by
    obtain ⟨cl, _, h⟩ := I.rhoCell hp
    obtain ⟨⟨o1, a1, _⟩, ⟨o2, a2, _⟩⟩ := h.at
    exact ⟨⟨o1, a1⟩, ⟨o2, a2⟩⟩
  have hne : ∀ (n : Nat) p, ρ[n]? = some p → p.1 ≠ s.heap.objs.size ∧ p.2 ≠ s.heap.objs.size := fun n p hp => by
    obtain ⟨⟨o1, e1⟩, ⟨o2, e2⟩⟩ := hrho n p hp
    exact ⟨fun q => (by rw [q, hL0] at e1; cases e1), fun q => (by rw [q, hL0] at e2; cases e2)⟩
  have hcells : (callEnv fd s.heap.objs.size a).cells = [] := by show fd.closure = []; exact hcl
  have fz : Fz s.heap h₀ := .of_keeps hk
  have hnp : fd.params.args.length ≤ fd.scope.names.length := by
    have := congrArg List.length c8
    simp at this; omega
  exact
  { keep := fun b o e => by
      rw [prot_get] at e
      split at e
      · cases e
      · exact ⟨o.slots, e, fun _ => rfl⟩
    base := fun b o e => by
      rw [prot_get, if_neg]
      · exact hk _ _ (I.frBase e)
      · intro hm
        rcases mem_muts hm with q | ⟨hf, x, hx⟩ | ⟨n, p, hp, q⟩
        · have q : b = s.heap.objs.size := q
          rw [q, hLG] at e; cases e
        · rw [hcells] at hx; cases hx
        · have := I.fresh n p hp
          rcases q with rfl | rfl
          · rw [I.base _ _ e] at this; cases this.1
          · rw [I.base _ _ e] at this; cases this.2
    ff := by
      refine ⟨?_, ⟨s.heap.objs.size, ?_⟩, fz.funFrames I.ff⟩
      · show fd.scope.kind ≠ .module
        rw [c5]; decide
      · obtain ⟨o, es, ep, h1, h2, _⟩ := hn
        exact ⟨o, rfl, hLG, h1, fun vs => by rw [h2]; intro e; cases e⟩
    fd := fun b hb => by
      rcases List.mem_cons.mp hb with q | q
      · have q : b = s.heap.objs.size := q
        subst q
        obtain ⟨o, es, ep, h1, h2, _⟩ := hn
        exact ⟨o, es, ep, h1, h2⟩
      · exact fz.frD I.fd b q
    fr :=
      { kind := c5, gl := hg, bl := hbl
        len := by
          show _ = fd.scope.names.length
          simp only [List.length_append, List.length_map, List.length_replicate]
          simp only at hl ⊢
          omega
        nd := c11
        ns := ⟨_, hn, fun i v x e1 e2 => by
          have e2 : fd.scope.names[i]? = some (x, .local) := e2
          have hi : as[i]? = some v := by
            rw [List.getElem?_append] at e1
            split at e1
            · simpa using e1
            · rw [List.getElem?_replicate] at e1
              split at e1 <;> cases e1
          obtain ⟨y, ey, ry⟩ := rl.get hi
          refine ⟨y, ?_, ry.mono (Rle.refl _) fz⟩
          have hin : i < as.length := (List.getElem?_eq_some_iff.mp hi).1
          simp only at hl
          have hx : (fd.params.args.map (·.arg))[i]? = some x := by
            rw [← c8, List.getElem?_map, List.getElem?_take_of_lt (by omega), e2]; rfl
          have nd' : (fd.params.args.map (·.arg)).Nodup := by
            rw [← c8, List.map_take]; exact c11.sublist (List.take_sublist _ _)
          exact rev_lookup nd' (by have := rl.length; simp; omega) hx ey⟩
        cl := fun i x k e hk' => by
          have e : fd.scope.names[i]? = some (x, k) := e
          rcases c10 _ (List.mem_of_getElem? e) with q | q
          · have q : k = .local := q
            subst q; rcases hk' with q | q <;> cases q
          · have q : k = .globalImplicit := q
            subst q; rcases hk' with q | q <;> cases q }
    ownL := ⟨by rw [prot_get, if_pos (.head _)], fun n p hp => hne n p hp⟩
    ownC := fun hf x c hx => by rw [hcells] at hx; cases hx
    len := I.len
    cells := fun n c p e1 e2 => (I.cells n c p e1 e2).mono (Rle.refl _) fz (fun o e => hk _ _ e) fun o e => hk _ _ e
    sep := I.sep
    fresh := fun n p hp => by rw [prot_get, prot_get, if_pos (mem_muts_rho hp).1, if_pos (mem_muts_rho hp).2]; exact ⟨rfl, rfl⟩
    gens := I.gens, os := I.os }

theorem snd_callFn (B : BaseOk X) {n : Nat} {hd : Bool} {D U : Nat} (CO : COk X (callN X.P n hd) hd (D + 1) (U + 3)) (COt : COk X (callN X.P n true) true (D + 1) (U + 3)) (hD : D < 1000) (hU : U + 83 < cLine) (hA : AOk A stk hd D U) {f : Str} {d : FnD} (hf : X.P.fn f = some d) {as : List V} {ys : List Value} {x : Value} :
    Snd X A G stk env ℓ (fun ρ h => Rv X.toCx ρ h (.fn f) x ∧ RvL X.toCx ρ h as ys) (rV X) (call x ys) (fun σ => runBody X.P (callN X.P n) d hd as σ) := by
  intro σ ρ s I hr hb
  obtain ⟨rf, rl⟩ := hr
  cases rf with
  | fn ha =>
    rename_i a
    obtain ⟨a', o, fd, body, h1, h2, h3, h4, h5, h6, h7, h8, h9, h10⟩ := (B.fn f d hf).at_
    rw [ha] at h1; cases h1
    obtain ⟨c1, c2, c3, c4, c5, c6, c7, c8, c9, c10, c11, b, c12, rfl⟩ := cFn_spec h5
    unfold runBody at hb ⊢
    simp only at hb ⊢
    by_cases hl : as.length = fd.params.args.length
    · rw [if_pos hl] at hb ⊢
      have hyl : ys.length = fd.params.args.length := by have := rl.length; omega
      have nd' : (fd.params.args.map (·.arg)).Nodup := by
        rw [← c8, List.map_take]; exact c11.sublist (List.take_sublist _ _)
      have k0 : ∀ b o, X.G0.get? b = some o → s.heap.get? b = some o := fun b o e => I.frBase e
      refine wpAny_call (codeAny_call_plain (binds := (fd.params.args.map (·.arg)).zip ys) (by have := hA.2.1; show A.depth < 1000; omega) (I.frBase h2) h3 (B.lim.keeps k0) (h10.keeps k0) h4 (bindArgs_pos c1 c2 c3 c4 h9 hyl nd') ?_ ?_ (fun h₀ hns hk => ?_) c7 c6 c5)
      · intro p hp q
        rcases c10 p hp with z | z <;> rw [z] at q <;> cases q
      · intro p hp
        have : p.1 ∈ (fd.scope.names.take fd.params.args.length).map (·.1) := by
          rw [c8, ← zip_fst (ns := fd.params.args.map (·.arg)) (vs := ys) (by simpa using hyl)]
          exact List.mem_map.mpr ⟨p, hp, rfl⟩
        obtain ⟨q, hq, e⟩ := List.mem_map.mp this
        refine lookup_nodup c11 ?_
        have : (p.1, NameKind.local) = q := by rw [← e, ← c9 q hq]
        rw [this]
        exact List.mem_of_mem_take hq
      · have IC := I.callee (a := a) B h5 h6 h7 h8 rl hl (tk := s.toks + ((fd.params.args.map (·.arg)).zip ys).length) hns hk
        have hcells : (callEnv fd s.heap.objs.size a).cells = [] := by show fd.closure = []; exact h8
        have SC : SCtx X (callN X.P n) hd (D + 1) (U + 3) (A.deeper (callEnv fd s.heap.objs.size a)) (callEnv fd s.heap.objs.size a :: stk) (callEnv fd s.heap.objs.size a) fd.scope :=
          { base := B, co := CO, hU := by omega, hs := (show ScOk (callEnv fd s.heap.objs.size a).scope (callEnv fd s.heap.objs.size a) from ScOk.self _)
            hA := by
              obtain ⟨z1, z2, z3, z4⟩ := hA
              refine ⟨?_, ?_, ?_, z4⟩
              · show A.frames.map _ = _
                rw [z1]; rfl
              · show A.depth + 1 ≤ D + 1
                omega
              · show A.units + 3 ≤ U + 3
                omega
            hfr := rfl
            tg := fun _ _ _ _ _ _ => rfl
            nd := fun x c hx => by rw [hcells] at hx; cases hx
            cot := COt
            top := ⟨stk, s.heap.objs.size, rfl, rfl⟩
            cn := fun x c hx => by rw [hcells] at hx; cases hx }
        have hbad : exSs X.P (callN X.P n) b hd (as.map some ++ List.replicate (fd.scope.names.length - fd.params.args.length) none) σ ≠ .bad := fun q => hb (by rw [q])
        have fz0 : Fz s.heap h₀ := .of_keeps hk
        have fin : ∀ {ℓ' : Loc} {σ' : Store} {ρ' : Rho} {s' : Shared}, Rle ρ ρ' → Fz h₀ s'.heap → Inv X (prot h₀ ρ (callEnv fd s.heap.objs.size a)) (callEnv fd s.heap.objs.size a :: stk) (callEnv fd s.heap.objs.size a) ℓ' σ' ρ' s' → Inv X G stk env ℓ σ' ρ' s' := fun le fz' I' => by
          refine I.backProt (s1 := { s with heap := h₀ }) (fun b o e hb => ?_) (fun x c hx => by rw [hcells] at hx; cases hx) (fun _ x c hx => by rw [hcells] at hx; cases hx) hk ⟨I.freshAddr.1, ?_, fun o e => ?_⟩ le (fz0.trans fz') I'
          · intro hm
            rcases List.mem_cons.mp hm with q | q
            · have q : b = s.heap.objs.size := q
              rw [q, get?_size] at e; cases e
            · exact hb q
          · exact I.freshAddr.2.1
          · have e : s.heap.get? s.heap.objs.size = some o := e
            rw [get?_size] at e; cases e
        refine wpAny_mono ((snd_S SC _).2 body b (Nat.le_refl _) c12 _ _ σ ρ _ IC hbad) (fun fl s' ⟨ρ', le, fz', hq⟩ => ?_) fun e s' ⟨cc, ℓ4, σ4, ρ4, e4, le4, fz4, I4, fl4⟩ => ?_
        · cases fl with
          | next => obtain ⟨ℓ1, σ1, e1, I1⟩ := hq; exact ⟨.none, σ1, ρ', by dsimp only at e1 ⊢; rw [e1], le, fz0.trans fz', fin le fz' I1, .none⟩
          | cont => obtain ⟨ℓ1, σ1, e1, I1⟩ := hq; exact absurd (by dsimp only at e1 ⊢; rw [e1]) hb
          | brk => exact hq.elim
          | ret y => obtain ⟨v, ℓ1, σ1, e1, I1, rv⟩ := hq; exact ⟨v, σ1, ρ', by dsimp only at e1 ⊢; rw [e1], le, fz0.trans fz', fin le fz' I1, rv⟩
        · have hGG : ∀ b, (prot h₀ ρ (callEnv fd s.heap.objs.size a)).get? b = none → G.get? b = none := fun b hb0 => by
            cases q : G.get? b with
            | none => rfl
            | some o =>
              obtain ⟨sl, z, _⟩ := I.keep b o q
              rw [prot_get] at hb0
              split at hb0
              · rename_i hm
                rcases mem_muts hm with q1 | ⟨_, x, hx⟩ | ⟨n, p, hp, q1⟩
                · have q1 : b = s.heap.objs.size := q1
                  rw [q1, get?_size] at z; cases z
                · rw [hcells] at hx; cases hx
                · have := I.fresh n p hp
                  rcases q1 with rfl | rfl
                  · rw [this.1] at q; cases q
                  · rw [this.2] at q; cases q
              · rw [hk _ _ z] at hb0; cases hb0
          refine wp_leave I4 SC.hA.1 rfl (fl4 _ rfl) fun s5 fz5 I5 fl5 => ?_
          refine ⟨cc, σ4, ρ4, by dsimp only at e4 ⊢; rw [e4], le4, (fz0.trans fz4).trans fz5, fin le4 (fz4.trans fz5) I5, fun f _ => ⟨?_⟩⟩
          obtain ⟨ea, C', oe, vs, q1, q2, q3, q4, q5, q6, q7⟩ := (fl5 f).at_
          refine ⟨ea, C', oe, vs, q1, q2, q3, q4, q5, hGG _ q6, ?_⟩
          rcases q7 with q7 | ⟨T, oT, ts, w1, w2, w3, w4, w5, w6⟩
          · exact .inl q7
          · exact .inr ⟨T, oT, ts, w1, w2, hGG _ w3, w4, w5, w6⟩
    · rw [if_neg hl] at hb; exact absurd rfl hb

theorem snd_prim (B : BaseOk X) {hd : Bool} {D U : Nat} (hA : AOk A stk hd D U) {b : String} {as : List V} {ys : List Value} {x : Value} :
    Snd X A G stk env ℓ (fun ρ h => Rv X.toCx ρ h (.bi b) x ∧ RvL X.toCx ρ h as ys) (rV X) (call x ys) (fun σ => prim X.P hd b as σ) := by
  intro σ ρ s I hr hb
  obtain ⟨rf, rl⟩ := hr
  cases rf
  unfold prim at hb ⊢
  simp only at hb ⊢
  split at hb
  · rename_i v
    cases rl with
    | cons rv rl =>
      cases rl
      split at hb
      · rename_i hbl
        subst hbl
        rw [if_pos rfl]
        split at hb
        · split at hb
          · rename_i hz
            rw [if_pos hz]
            cases rv
            obtain ⟨o, n, items, g1, g2, g3, g4⟩ := B.scr
            have hln := g4.length
            simp only [List.length_map] at hln
            refine call_len_list (isList_of (I.frBase g1) g2 g3) (by rw [List.size_toArray]; unfold szL at hz; omega) ?_
            refine qok_same I (by rw [hln]) ?_
            rw [List.size_toArray]
            exact .int _ _
          · exact absurd rfl hb
        · exact absurd rfl hb
      · exact absurd rfl hb
  · rename_i v t
    cases rl with
    | cons rv rl =>
      cases rl with
      | cons rt rl =>
        cases rl
        by_cases h1 : b = "isinstance"
        · subst h1
          rw [if_pos rfl] at hb ⊢
          obtain ⟨r, hv⟩ := ofOpt_bad hb
          obtain ⟨r', hv', rfl⟩ := Option.map_eq_some_iff.mp hv
          rw [hv]
          unfold isaV at hv'
          split at hv'
          · cases rv; cases rt
            split at hv'
            · rename_i e; subst e; cases hv'; exact IsiPair.int_int (qok_same I rfl (.bool _))
            · split at hv'
              · rename_i e; subst e; cases hv'; exact IsiPair.int_bool (qok_same I rfl (.bool _))
              · cases hv'
          · cases rv; cases rt
            split at hv'
            · rename_i e
              cases hv'
              rcases e with rfl | rfl
              · exact IsiPair.bool_int (qok_same I rfl (.bool _))
              · exact IsiPair.bool_bool (qok_same I rfl (.bool _))
            · cases hv'
          · cases rv; cases rt
            split at hv'
            · rename_i e; subst e; cases hv'; exact IsiPair.str_int (qok_same I rfl (.bool _))
            · cases hv'
          · cases rv; cases rt
            split at hv'
            · rename_i e; subst e; cases hv'; exact IsiPair.NoneType_int (qok_same I rfl (.bool _))
            · cases hv'
          · obtain ⟨a, items, n, o, rfl, g1, g2, g3, g4⟩ := tup_inv rv
            cases rt
            split at hv'
            · rename_i e; subst e; cases hv'; exact IsiPair.isTuple_int ⟨o, g1, g2, n, g3⟩ (fun _ _ e => e) (qok_same I rfl (.bool _))
            · cases hv'
          · cases rv with
            | exc o vs ha ho hc hd' =>
            cases rt with
            | cls haD =>
            exact B.isa _ _ _ hv' _ _ ha (.cls haD) A _ s _ o vs (fun b o e0 => I.frBase e0) ho hc hd' _ fun tk => qok_same I rfl (.bool _)
          · cases rv with
            | exc o vs ha ho hc hd' =>
            cases rt
            exact B.isa _ _ _ hv' _ _ ha (.ty _) A _ s _ o vs (fun b o e0 => I.frBase e0) ho hc hd' _ fun tk => qok_same I rfl (.bool _)
          · cases hv'
        · rw [if_neg h1] at hb; exact absurd rfl hb
  · exact absurd rfl hb

theorem coOk (B : BaseOk X) : ∀ (n : Nat) (hd : Bool) (D U : Nat), D + n < 1000 → U + 3 * n + 83 < cLine → COk X (callN X.P n hd) hd D U
  | 0, hd, D, U, _, _ => ⟨fun _ _ _ _ _ _ _ _ _ _ _ => Snd.cong Snd.bad fun _ => rfl, fun _ _ _ h => absurd rfl h, fun _ _ _ h => absurd rfl h⟩
  | n + 1, hd, D, U, hD, hU => by
    have ih := coOk B n hd (D + 1) (U + 3) (by omega) (by omega)
    have iht := coOk B n true (D + 1) (U + 3) (by omega) (by omega)
    refine ⟨fun A G stk env ℓ f as x ys hA hfr => ?_, fun f as σ h => ?_, fun v as σ h => ?_⟩
    · cases f with
      | fn f =>
        cases q : X.P.fn f with
        | none => exact Snd.cong Snd.bad fun σ => by simp only [callN, q]
        | some d => exact Snd.cong (snd_callFn B ih iht (by omega) (by omega) hA q) fun σ => by simp only [callN, q]
      | bi b => exact Snd.cong (snd_prim B hA) fun σ => by simp only [callN]
      | _ => exact Snd.cong Snd.bad fun σ => by simp only [callN]
    · cases q : X.P.fn f with
      | none => simp only [callN, q] at h; exact absurd rfl h
      | some d => exact ⟨d, rfl⟩
    · cases v with
      | fn f => exact .inl ⟨f, rfl⟩
      | bi b => exact .inr (.inl ⟨b, rfl⟩)
      | ty b => exact .inr (.inr ⟨b, rfl⟩)
      | _ => simp only [callN] at h; exact absurd rfl h
end
end Mine
end

section
set_option maxRecDepth 100000
set_option linter.unusedVariables false
namespace Mine
open PySem PySem.W PySem.Calls PyProof.Rows

/-- the frame of the law's own call -/
theorem Inv.entry {X : Cy} {s : Shared} (hG : X.G0 = s.heap) (ho : s.os = X.os) (hgens : s.gens = #[]) {fd : FuncData} {a : Addr} {body : List Stmt} {d : FnD} (hc : cFn fd.params fd.scope body = some d) (hg : fd.globals = mainGlobals) (hbl : fd.builtins = builtinsNs) (hcl : fd.closure = [])
    {as : List V} {ys : List Value} (rl : RvL X.toCx [] s.heap as ys) (hl : as.length = d.np) {h₀ : Heap} {tk : Nat} (hn : h₀.Ns s.heap.objs.size (fun x => (((fd.params.args.map (·.arg)).zip ys).reverse).lookup x)) (hk : ∀ b o, s.heap.get? b = some o → h₀.get? b = some o) :
    Inv X (prot h₀ [] (callEnv fd s.heap.objs.size a)) [callEnv fd s.heap.objs.size a] (callEnv fd s.heap.objs.size a) (as.map some ++ List.replicate (d.nl - d.np) none) [] [] { s with heap := h₀, toks := tk } := by
  obtain ⟨c1, c2, c3, c4, c5, c6, c7, c8, c9, c10, c11, b, c12, rfl⟩ := cFn_spec hc
  have hL0 : s.heap.get? s.heap.objs.size = none := get?_size _
  have hLG : X.G0.get? s.heap.objs.size = none := by rw [hG]; exact hL0
  have hcells : (callEnv fd s.heap.objs.size a).cells = [] := by show fd.closure = []; exact hcl
  have fz : Fz s.heap h₀ := .of_keeps hk
  have hnp : fd.params.args.length ≤ fd.scope.names.length := by
    have := congrArg List.length c8
    simp at this; omega
  exact
  { keep := fun b o e => by
      rw [prot_get] at e
      split at e
      · cases e
      · exact ⟨o.slots, e, fun _ => rfl⟩
    base := fun b o e => by
      rw [prot_get, if_neg]
      · rw [hG] at e; exact hk _ _ e
      · intro hm
        rcases mem_muts hm with q | ⟨hf, x, hx⟩ | ⟨n, p, hp, q⟩
        · have q : b = s.heap.objs.size := q
          rw [q, hLG] at e; cases e
        · rw [hcells] at hx; cases hx
        · simp at hp
    ff := by
      refine ⟨?_, ⟨s.heap.objs.size, ?_⟩, trivial⟩
      · show fd.scope.kind ≠ .module
        rw [c5]; decide
      · obtain ⟨o, es, ep, h1, h2, _⟩ := hn
        exact ⟨o, rfl, hLG, h1, fun vs => by rw [h2]; intro e; cases e⟩
    fd := fun b hb => by
      rcases List.mem_cons.mp hb with q | q
      · have q : b = s.heap.objs.size := q
        subst q
        obtain ⟨o, es, ep, h1, h2, _⟩ := hn
        exact ⟨o, es, ep, h1, h2⟩
      · cases q
    fr :=
      { kind := c5, gl := hg, bl := hbl
        len := by
          show _ = fd.scope.names.length
          simp only [List.length_append, List.length_map, List.length_replicate]
          simp only at hl ⊢
          omega
        nd := c11
        ns := ⟨_, hn, fun i v x e1 e2 => by
          have e2 : fd.scope.names[i]? = some (x, .local) := e2
          have hi : as[i]? = some v := by
            rw [List.getElem?_append] at e1
            split at e1
            · simpa using e1
            · rw [List.getElem?_replicate] at e1
              split at e1 <;> cases e1
          obtain ⟨y, ey, ry⟩ := rl.get hi
          refine ⟨y, ?_, ry.mono (Rle.refl _) fz⟩
          have hin : i < as.length := (List.getElem?_eq_some_iff.mp hi).1
          simp only at hl
          have hx : (fd.params.args.map (·.arg))[i]? = some x := by
            rw [← c8, List.getElem?_map, List.getElem?_take_of_lt (by omega), e2]; rfl
          have nd' : (fd.params.args.map (·.arg)).Nodup := by
            rw [← c8, List.map_take]; exact c11.sublist (List.take_sublist _ _)
          exact rev_lookup nd' (by have := rl.length; simp; omega) hx ey⟩
        cl := fun i x k e hk' => by
          have e : fd.scope.names[i]? = some (x, k) := e
          rcases c10 _ (List.mem_of_getElem? e) with q | q
          · have q : k = .local := q
            subst q; rcases hk' with q | q <;> cases q
          · have q : k = .globalImplicit := q
            subst q; rcases hk' with q | q <;> cases q }
    ownL := ⟨by rw [prot_get, if_pos (.head _)], fun n p hp => by simp at hp⟩
    ownC := fun hf x c hx => by rw [hcells] at hx; cases hx
    len := rfl
    cells := fun n c p e1 e2 => by simp at e1
    sep := fun n m p q hp => by simp at hp
    fresh := fun n p hp => by simp at hp
    gens := hgens, os := ho }

/-- the law's call, by the plain interpreter's answer -/
theorem enter {X : Cy} (B : BaseOk X) {s : Shared} (hG : X.G0 = s.heap) (ho : s.os = X.os) (hgens : s.gens = #[]) {f : Str} {d : FnD} (hf : X.P.fn f = some d) {a : Addr} (ha : X.al f = some a) {n : Nat} (hn : n < 600) (hcm : callerA.depth < 390) {v : V} {σ' : Store}
    (hv : callN X.P (n + 1) false (.fn f) [.script] [] = .ok v σ') {E : Value → Shared → Prop} :
    wpAny (model X.prog X.w) callerA (call (.ref a) [.ref X.scr]) (fun y s' => (∃ ρ', Rv X.toCx ρ' s'.heap v y) ∧ (∀ b o, s.heap.get? b = some o → s'.heap.get? b = some o) ∧ s'.os = s.os ∧ s'.gens = s.gens) E s := by
  obtain ⟨a', o, fd, body, h1, h2, h3, h4, h5, h6, h7, h8, h9, h10⟩ := (B.fn f d hf).at_
  rw [ha] at h1; cases h1
  obtain ⟨c1, c2, c3, c4, c5, c6, c7, c8, c9, c10, c11, b, c12, rfl⟩ := cFn_spec h5
  simp only [callN, hf] at hv
  unfold runBody at hv
  by_cases hl : [V.script].length = fd.params.args.length
  · simp only at hv
    rw [if_pos hl] at hv
    have hyl : [Value.ref X.scr].length = fd.params.args.length := hl
    have nd' : (fd.params.args.map (·.arg)).Nodup := by
      rw [← c8, List.map_take]; exact c11.sublist (List.take_sublist _ _)
    have k0 : ∀ b o, X.G0.get? b = some o → s.heap.get? b = some o := fun b o e => hG ▸ e
    have rl : RvL X.toCx [] s.heap [.script] [.ref X.scr] := .cons .script .nil
    refine wpAny_call (codeAny_call_plain (binds := (fd.params.args.map (·.arg)).zip [Value.ref X.scr]) (by show callerA.depth < 1000; omega) (k0 _ _ h2) h3 (B.lim.keeps k0) (h10.keeps k0) h4 (bindArgs_pos c1 c2 c3 c4 h9 hyl nd') ?_ ?_ (fun h₀ hns hk => ?_) c7 c6 c5)
    · intro p hp q
      rcases c10 p hp with z | z <;> rw [z] at q <;> cases q
    · intro p hp
      have : p.1 ∈ (fd.scope.names.take fd.params.args.length).map (·.1) := by
        rw [c8, ← zip_fst (ns := fd.params.args.map (·.arg)) (vs := [Value.ref X.scr]) (by simpa using hyl)]
        exact List.mem_map.mpr ⟨p, hp, rfl⟩
      obtain ⟨q, hq, e⟩ := List.mem_map.mp this
      refine lookup_nodup c11 ?_
      have : (p.1, NameKind.local) = q := by rw [← e, ← c9 q hq]
      rw [this]
      exact List.mem_of_mem_take hq
    · have IC := Inv.entry (X := X) (a := a) hG ho hgens h5 h6 h7 h8 rl hl (tk := s.toks + ((fd.params.args.map (·.arg)).zip [Value.ref X.scr]).length) hns hk
      have hcells : (callEnv fd s.heap.objs.size a).cells = [] := by show fd.closure = []; exact h8
      have SC : SCtx X (callN X.P n) false (callerA.depth + 1) (callerA.units + 3) (callerA.deeper (callEnv fd s.heap.objs.size a)) [callEnv fd s.heap.objs.size a] (callEnv fd s.heap.objs.size a) fd.scope :=
        { base := B, co := coOk B n false _ _ (by omega) (by show 4 + 3 + 3 * n + 83 < 9900; omega), hU := by show 4 + 3 + 80 < 9900; omega, hs := (show ScOk (callEnv fd s.heap.objs.size a).scope (callEnv fd s.heap.objs.size a) from ScOk.self _)
          hA := ⟨rfl, Nat.le_refl _, Nat.le_refl _, fun _ => rfl⟩
          hfr := rfl
          tg := fun _ _ _ _ _ _ => rfl
          nd := fun x c hx => by rw [hcells] at hx; cases hx
          cot := coOk B n true _ _ (by omega) (by show 4 + 3 + 3 * n + 83 < 9900; omega)
          top := ⟨[], s.heap.objs.size, rfl, rfl⟩
          cn := fun x c hx => by rw [hcells] at hx; cases hx }
      have hbad : exSs X.P (callN X.P n) b false ([V.script].map some ++ List.replicate (fd.scope.names.length - fd.params.args.length) none) [] ≠ .bad := fun q => by rw [q] at hv; cases hv
      have fin : ∀ {ℓ' : Loc} {σ' : Store} {ρ' : Rho} {s' : Shared}, Inv X (prot h₀ [] (callEnv fd s.heap.objs.size a)) [callEnv fd s.heap.objs.size a] (callEnv fd s.heap.objs.size a) ℓ' σ' ρ' s' → (∀ b o, s.heap.get? b = some o → s'.heap.get? b = some o) ∧ s'.os = s.os ∧ s'.gens = s.gens := fun I' =>
        ⟨fun b o e => I'.frBase (hG ▸ e), I'.os.trans ho.symm, I'.gens.trans hgens.symm⟩
      refine wpAny_mono ((snd_S SC _).2 body b (Nat.le_refl _) c12 _ _ [] [] _ IC hbad) (fun fl s' ⟨ρ', le, fz', hq⟩ => ?_) fun e s' ⟨cc, ℓ4, σ4, ρ4, e4, _⟩ => ?_
      · cases fl with
        | next => obtain ⟨ℓ1, σ1, e1, I1⟩ := hq; dsimp only at e1; rw [e1] at hv; cases hv; exact ⟨⟨ρ', .none⟩, fin I1⟩
        | cont => obtain ⟨ℓ1, σ1, e1, I1⟩ := hq; dsimp only at e1; rw [e1] at hv; cases hv
        | brk => exact hq.elim
        | ret y => obtain ⟨v', ℓ1, σ1, e1, I1, rv⟩ := hq; dsimp only at e1; rw [e1] at hv; cases hv; exact ⟨⟨ρ', rv⟩, fin I1⟩
      · dsimp only at e4; rw [e4] at hv; cases hv
  · simp only at hv
    rw [if_neg hl] at hv; cases hv
end Mine
end

section
set_option maxRecDepth 100000
set_option linter.unusedVariables false
namespace Mine
open PySem PySem.W PySem.Calls PyProof.Rows

/-- what is to be known of an exception class of the text's own -/
noncomputable def excFacts (K : Frag) (C : Addr) : Bool := findIn K (.ref C) "__getattribute__" == some (some (.builtin "BaseException.__getattribute__")) && findIn K (.ref C) "__class__" == some (some (.builtin "object.__class__")) && findIn K (.ref C) "__getattr__" == some none &&
  subIn K (.ref C) (.type "BaseException") == some true && subIn K (.ref C) (.type "object") == some true && (clsIn K C).isSome

section
variable {prog : Program} {w : World} {A : Around} {E : Value → Shared → Prop} {h : Heap} {g : Array GenState} {d : Drawn} {t : Nat} {os : OsState} {a C : Addr} {o : Obj} {K : Frag}

theorem xc_get {R : Result → Shared → Prop} (X : K.In h) (e5 : subIn K (.ref C) (.type "object") = some true) (hx : h.get? a = some o) (hc : o.cls = .ref C) (hq : R (.ok (.ret (.ref C))) ⟨h, g, d, t, os⟩) :
    codeAny (model prog w) A (.call (.builtin "getset_descriptor.__get__") ⟨[.builtin "object.__class__", .ref a, .ref C], []⟩) R ⟨h, g, d, t, os⟩ := by
  have hT5 : (⟨h, g, d, t, os⟩ : Shared).TypeIs (.builtin "object.__class__") "getset_descriptor" := F.typeOf_object_class
  have L5 : Looks (model prog w) h (isSubtype (.ref C) (.type (".".intercalate ("object.__class__".cutAt '.').dropLast))) true := by rw [F.owner_object_class]; exact looks_subIn X e5
  refine codeAny_call_builtin F.slot_gs_get.plain F.entry_gs_get (F.slot_gs_get.check _ _ _ _ _ _ _ _ hT5 (F.args_gs_get _ _ _) ?_)
  repeat (any_goals (first | assumption | (with_reducible refine wpAny_loadPart_at hx ?_; rw [hc]) | with_reducible refine L5.at ?_ | wp_step))
  refine ⟨Code.quiet_builtin _ (by decide +kernel), codeAny_builtin F.entry_object_class ?_⟩
  repeat (any_goals (first | assumption | (with_reducible refine wpAny_loadPart_at hx ?_; rw [hc]) | wp_step))

theorem xc_entry {tk : Tok} {Q : Fin → Shared → Prop} (X : K.In h) (e2 : findIn K (.ref C) "__class__" = some (some (.builtin "object.__class__"))) (e5 : subIn K (.ref C) (.type "object") = some true) (hx : h.get? a = some o) (hc : o.cls = .ref C) (hq : Q (.done (.ret (.ref C))) ⟨h, g, d, t, os⟩) :
    wpAny (model prog w) A (Builtin.«object.__getattribute__» ⟨[.ref a, .str "__class__" tk], []⟩) Q E ⟨h, g, d, t, os⟩ := by
  have hT5 : (⟨h, g, d, t, os⟩ : Shared).TypeIs (.builtin "object.__class__") "getset_descriptor" := F.typeOf_object_class
  have L2 := looks_findIn (M := model prog w) X e2
  have f5 := F.typeOf_object_class
  have f6 := F.slot_gs_get.lookup
  have f7 := F.slot_gs_set.lookup
  repeat (any_goals (first | assumption | (with_reducible refine wpAny_loadPart_at hx ?_; rw [hc]) | with_reducible refine L2.at ?_ | wp_step))
  refine xc_get X e5 hx hc ?_
  repeat (any_goals (first | assumption | wp_step))

theorem xc_check {M : Model} {nameV : Value} {Q : Unit → Shared → Prop} (X : K.In h) (e4 : subIn K (.ref C) (.type "BaseException") = some true) (hx : h.get? a = some o) (hc : o.cls = .ref C) (hq : Q () ⟨h, g, d, t, os⟩) : wpAny M A (checkBuiltinCall "BaseException.__getattribute__" ⟨[.ref a, nameV], []⟩) Q E ⟨h, g, d, t, os⟩ := by
  have hk : builtinKind "BaseException.__getattribute__" = some .slot := by decide +kernel
  have hsplit : splitId "BaseException.__getattribute__" = some ("BaseException", "__getattribute__") := by decide +kernel
  have L4 := looks_subIn (M := M) X e4
  have ha := F.args_bexc_ga (.ref a) nameV
  simp only [checkBuiltinCall, hk, hsplit]
  refine wpAny_bind ?_
  · unfold isInstance
    repeat (first | (with_reducible refine wpAny_loadPart_at hx ?_; rw [hc]) | with_reducible refine L4.at ?_ | wp_step)
    exact hq

theorem xc_by {tk : Tok} {fill expr : Bool} {Q : Value → Shared → Prop} (X : K.In h) (q : excFacts K C = true) (hx : h.get? a = some o) (hc : o.cls = .ref C) (hq : Q (.ref C) ⟨h, g, d, t, os⟩) :
    wpAny (model prog w) A (getAttrBy (.ref a) (.str "__class__" tk) fill expr) Q E ⟨h, g, d, t, os⟩ := by
  unfold excFacts at q
  simp only [Bool.and_eq_true, beq_iff_eq] at q
  obtain ⟨⟨⟨⟨⟨e1, e2⟩, e3⟩, e4⟩, e5⟩, e6⟩ := q
  have L1 := looks_findIn (M := model prog w) X e1
  have L3 := looks_findIn (M := model prog w) X e3
  have f3 := F.attrBase_ValueError.ga.bind (.ref a)
  have hx0 : (expr && onTheHeap (Value.builtin "BaseException.__getattribute__")) = false := by cases expr <;> rfl
  have hx2 : (Value.builtin "BaseException.__getattribute__" == Value.builtin "object.__getattribute__") = false := by decide +kernel
  have hx1 : (onTheHeap (Value.ref C) && Value.builtin "BaseException.__getattribute__" == Value.builtin "object.__getattribute__") = false := by rw [hx2]; rfl
  repeat (any_goals (first | assumption | (with_reducible refine wpAny_loadPart_at hx ?_; rw [hc]) | with_reducible refine L1.at ?_ | with_reducible refine L3.at ?_ | wp_step))
  refine codeAny_call_builtin F.attrBase_ValueError.ga.plain F.entry_bexc_ga (xc_check X e4 hx hc (xc_entry X e2 e5 hx hc ?_))
  repeat (any_goals (first | assumption | wp_step))

theorem xc_attr {Q : Option Value → Shared → Prop} (X : K.In h) (q : excFacts K C = true) (hx : h.get? a = some o) (hc : o.cls = .ref C) (hq : Q (some (.ref C)) ⟨h, g, d, t + 1, os⟩) :
    wpAny (model prog w) A (getAttr? (.ref a) "__class__") Q E ⟨h, g, d, t, os⟩ := by
  unfold getAttr? getAttrBy?
  repeat (any_goals (first | assumption | with_reducible apply xc_by X q hx hc | wp_step))

theorem xc_kitX {K : Frag} {e C : Addr} (q : excFacts K C = true) : KitX K (.ref e) (.ref C) (fun h => ∃ o, h.get? e = some o ∧ o.cls = .ref C) where
  ty := fun M h X ⟨o, h1, h2⟩ => h2 ▸ (Looks.ld h1).andThen .now
  it := fun _ _ X _ => by
    unfold excFacts at q
    simp only [Bool.and_eq_true, beq_iff_eq] at q
    have q6 := q.2
    unfold clsIn at q6
    split at q6
    · rename_i c' d' cd' sl' ho
      intro A' Q' E' s' k q
      unfold isType loadHead
      exact wpAny_bind (wpAny_loadPart (k _ _ (X _ _ ho)) (wpAny_pure q))
    · cases q6
  ne := fun h tp dd its n sl X htp => by
    unfold excFacts at q
    simp only [Bool.and_eq_true, beq_iff_eq] at q
    have q6 := q.2
    refine Bool.eq_false_iff.mpr fun z => ?_
    have e : C = tp := Value.ref.inj (beq_iff_eq.mp z)
    subst e
    unfold clsIn at q6
    split at q6
    · rename_i c' d' cd' sl' ho
      have z := (X _ _ ho).symm.trans htp
      cases z
    · cases q6
  ca := fun {_ _ _ _ _ s} X ⟨o, h1, h2⟩ k => by obtain ⟨h, g, d, t, os⟩ := s; exact xc_attr X q h1 h2 k
end

section
variable {X : Cy} {K : Frag}
theorem isaAt_of (KX : K.In X.G0) {C : Addr} {y : Value} {r : Bool} (q : excFacts K C = true) (e : kitOne K (.ref C) y = some r) : IsaAt X C y r := fun A E s ea o vs hk ho hc hd Q hq =>
  kia_one (xc_kitX (e := ea) q) (KX.keeps hk) ⟨o, ho, hc⟩ e (by intro z; cases z) hq
theorem exmAt_of (KX : K.In X.G0) {C : Addr} {y : Value} {r : Bool} (e : exmOne K (.ref C) y = some r) : ExmAt X C y r := fun A E s ea o vs hk ho hc hd Q hq =>
  exm_one (M := model X.prog X.w) (KX.keeps hk) (hc ▸ (Looks.ld ho).andThen .now) e A Q E s (fun _ _ z => z) hq
end
end Mine
end

section
set_option maxRecDepth 100000
set_option linter.unusedVariables false
namespace Mine
open PySem PySem.W PySem.Calls PyProof.Rows

/-- a name that the text leaves to the builtins -/
noncomputable def okB (p : Program) (loose : List Str) (x : Str) : Bool := !(x == "__name__") && !startupNames.contains x && !loose.contains x && !((recsOf p).map (·.name)).contains x && !((litsOf p).map (·.1)).contains x && !((clssOf p loose).map (·.name)).contains x
noncomputable def biV : Option Value → Option V
  | some (.builtin b) => some (.bi b)
  | some (.type t) => some (.ty t)
  | _ => none
noncomputable def litV : Option PyData → Option V
  | some (.int i) => some (.int i)
  | _ => none
noncomputable def globOf (p : Program) (loose : List Str) (x : Str) : Option V :=
  if ((recsOf p).map (·.name)).contains x then some (.fn x)
  else if (specOf p x).isSome then some (.cls x)
  else if (valOf p x).isSome then litV (valOf p x)
  else if (tupIntsOf p x).isSome then (tupIntsOf p x).map fun l => .tup (l.map .int)
  else if okB p loose x then biV (bootBuiltins x) else none
theorem lookup_mem' {β : Type} {l : List (Addr × β)} {x : Addr} {v : β} (h : l.lookup x = some v) : (x, v) ∈ l := by
  induction l with
  | nil => cases h
  | cons p r ih =>
    obtain ⟨y, u⟩ := p
    rw [List.lookup] at h
    split at h
    · rename_i q; cases h; rw [eq_of_beq q]; exact .head _
    · exact .tail _ (ih h)
abbrev TabC := List (Str × Str × Bool)
abbrev TabT := List (Str × String × Bool)
noncomputable def bmVE : List Value := [.type "ValueError", .type "Exception", .type "BaseException", .type "object"]
noncomputable def isVE : Option (String × List Value) → Bool
  | some (n, bm) => n == "ValueError.__new__" && bm == bmVE
  | none => false
noncomputable def isaOf (tc : TabC) (tt : TabT) (c : Str) : V → Option Bool
  | .cls d => (tc.find? fun e => e.1 == c && e.2.1 == d).map (·.2.2)
  | .ty t => (tt.find? fun e => e.1 == c && e.2.1 == t).map (·.2.2)
  | _ => none
noncomputable def progOf (p : Program) (loose : List Str) (tc : TabC) (tt : TabT) (ns : List Int) : Prog where
  fn x := ((recsOf p).find? (·.name == x)).bind fun r => cFn r.params r.scope r.body
  glob x := globOf p loose x
  exc x := isVE (specOf p x)
  isa := isaOf tc tt
  ns := ns

/-! ### what is to be seen of the classes -/
noncomputable def nameAt (K : Frag) (x : Str) : Option Addr := match nsIn K mainGlobals x with
  | some (some (.ref a)) => some a
  | _ => none
noncomputable def chkC (K : Frag) (e : Str × Str × Bool) : Bool := match nameAt K e.1, nameAt K e.2.1 with
  | some C, some D => excFacts K C && kitOne K (.ref C) (.ref D) == some e.2.2 && exmOne K (.ref C) (.ref D) == some e.2.2
  | _, _ => false
noncomputable def chkT (K : Frag) (e : Str × String × Bool) : Bool := match nameAt K e.1 with
  | some C => excFacts K C && kitOne K (.ref C) (.type e.2.1) == some e.2.2
  | _ => false
noncomputable def chk (tc : TabC) (tt : TabT) (K : Frag) : Bool := tc.all (chkC K) && tt.all (chkT K)
noncomputable def fragAll (h : Heap) : Frag := (List.range h.objs.size).filterMap fun a => (h.get? a).map fun o => (a, o)
theorem fragAll_in (h : Heap) : (fragAll h).In h := fun a o e => by
  have hm := lookup_mem' e
  unfold fragAll at hm
  obtain ⟨b, _, hb⟩ := List.mem_filterMap.mp hm
  obtain ⟨o', h1, h2⟩ := Option.map_eq_some_iff.mp hb
  cases h2
  exact h1
noncomputable def exHook (tc : TabC) (tt : TabT) : Hook where
  α := Bool
  obs s := chk tc tt (fragAll s.heap)
  val _ := true
  says _ h := ∃ K : Frag, K.In h ∧ chk tc tt K = true
  of _ s e := ⟨fragAll s.heap, fragAll_in _, e⟩
  keeps _ _ _ := fun ⟨K, k1, k2⟩ k => ⟨K, k1.keeps k, k2⟩
theorem nameAt_spec {K : Frag} {x : Str} {a : Addr} (h : nameAt K x = some a) : nsIn K mainGlobals x = some (some (.ref a)) := by
  unfold nameAt at h
  split at h
  · cases h; assumption
  · cases h

theorem rv_ints {X : Cx} {ρ : Rho} {h : Heap} : ∀ {vs : List Value} {ns : List Int}, IntsAre vs ns → RvL X ρ h (ns.map .int) vs
  | _, _, .nil => .nil
  | _, _, .cons n t r => .cons (.int n t) (rv_ints r)

noncomputable def alOf (mg : Str → Option Value) (x : Str) : Option Addr := match mg x with
  | some (.ref a) => some a
  | _ => none
theorem alOf_eq {mg : Str → Option Value} {x : Str} {a : Addr} (h : mg x = some (.ref a)) : alOf mg x = some a := by unfold alOf; rw [h]

section
variable {p prog : Program} {loose : List Str} {w : World} {mean : ExcName → Option Value} {mg mb : Str → Option Value} {s : Shared}

theorem free_of (T : Top p loose mean mg mb s.heap) {x : Str} (h : okB p loose x = true) : mg x = none ∧ mb x = bootBuiltins x := by
  unfold okB at h
  simp only [Bool.and_eq_true, Bool.not_eq_true', beq_eq_false_iff_ne] at h
  obtain ⟨⟨⟨⟨⟨h1, h2⟩, h3⟩, h4⟩, h5⟩, h6⟩ := h
  have g : ∀ {l : List Str}, l.contains x = false → x ∉ l := fun e hm => by rw [List.contains_iff_mem.mpr hm] at e; cases e
  exact ⟨T.free x (g h2) (g h3) (g h4) (g h5) (g h6), T.builtins x h1⟩

theorem boot_range : bootBuiltins "range" = some (.type "range") ∧ bootBuiltins "enumerate" = some (.type "enumerate") ∧ bootBuiltins "zip" = some (.type "zip") := by decide +kernel

noncomputable def cyOf (p prog : Program) (loose : List Str) (tc : TabC) (tt : TabT) (ns : List Int) (mg : Str → Option Value) (a : Addr) (w : World) (s : Shared) : Cy where
  P := progOf p loose tc tt ns
  al := alOf mg
  scr := a
  prog := prog
  w := w
  os := s.os
  G0 := s.heap

theorem base_of {p' : Program} {tc : TabC} {tt : TabT} (Y : ∃ K : Frag, K.In s.heap ∧ chk tc tt K = true) (T : Top p loose mean mg mb s.heap) (B : Tables p' w mg s.heap) (hp : p' = p) {a : Addr} {items : List Value} {ns : List Int} (hL : s.heap.IsList a items.toArray) (hI : IntsAre items ns)
    (hr : (okB p loose "range" && okB p loose "enumerate" && okB p loose "zip") = true) : BaseOk (cyOf p prog loose tc tt ns mg a w s) := by
  subst hp
  simp only [Bool.and_eq_true] at hr
  obtain ⟨⟨r1, r2⟩, r3⟩ := hr
  obtain ⟨b1, b2, b3⟩ := boot_range
  obtain ⟨K, KX, hK⟩ := Y
  unfold chk at hK
  simp only [Bool.and_eq_true, List.all_eq_true] at hK
  have al_of : ∀ {x : Str} {a : Addr}, nameAt K x = some a → alOf mg x = some a := fun h => alOf_eq (mg_of KX T.g (nameAt_spec h))
  have cOf : ∀ {c d : Str} {r : Bool}, isaOf tc tt c (.cls d) = some r → ∃ C D, alOf mg c = some C ∧ alOf mg d = some D ∧ excFacts K C = true ∧ kitOne K (.ref C) (.ref D) = some r ∧ exmOne K (.ref C) (.ref D) = some r := fun {c d r} h => by
    obtain ⟨e, h1, h2⟩ := Option.map_eq_some_iff.mp h
    have hp := List.find?_some h1
    simp only [Bool.and_eq_true, beq_iff_eq] at hp
    have hc := hK.1 e (List.mem_of_find?_eq_some h1)
    unfold chkC at hc
    split at hc
    · rename_i C D q1 q2
      simp only [Bool.and_eq_true, beq_iff_eq] at hc
      exact ⟨C, D, hp.1 ▸ al_of q1, hp.2 ▸ al_of q2, hc.1.1, h2 ▸ hc.1.2, h2 ▸ hc.2⟩
    · cases hc
  have tOf : ∀ {c : Str} {t : String} {r : Bool}, isaOf tc tt c (.ty t) = some r → ∃ C, alOf mg c = some C ∧ excFacts K C = true ∧ kitOne K (.ref C) (.type t) = some r := fun {c t r} h => by
    obtain ⟨e, h1, h2⟩ := Option.map_eq_some_iff.mp h
    have hp := List.find?_some h1
    simp only [Bool.and_eq_true, beq_iff_eq] at hp
    have hc := hK.2 e (List.mem_of_find?_eq_some h1)
    unfold chkT at hc
    split at hc
    · rename_i C q1
      simp only [Bool.and_eq_true, beq_iff_eq] at hc
      exact ⟨C, hp.1 ▸ al_of q1, hc.1, h2 ▸ hp.2 ▸ hc.2⟩
    · cases hc
  refine ⟨fun c hc => ?_, fun c v r h C y hC ry => ?_, fun c d r h C D hC hD => ?_, ⟨mg, mb, T.g, T.b, fun x v hv => ?_, fun x => ⟨fun e => ?_, fun e => ?_, fun e => ?_⟩⟩, T.nolimit, ?_, fun f d hf => ?_⟩
  · have hc : isVE (specOf p' c) = true := hc
    cases hs : specOf p' c with
    | none => rw [hs] at hc; cases hc
    | some z =>
      obtain ⟨n, bm⟩ := z
      rw [hs] at hc
      simp only [isVE, Bool.and_eq_true, beq_iff_eq] at hc
      obtain ⟨rfl, rfl⟩ := hc
      obtain ⟨C, O, _⟩ := T.ownAt hs
      obtain ⟨bound, bm', N, nm, q, bs, hdct, sn, sub, ab, col, dd, k0, k1, k2, k3, k5, mN, gC, gN, hni, gT⟩ := O.own
      refine ⟨?_, C, alOf_eq bound, nm, q, N, bs, bm', hdct, sn, sub, ab, col, dd, k0, k1, k2, k3, k5, _, mN, _, _, _, _, _, _, bmVE, F.excBase_ValueError, rfl, F.excBase_ValueError, gT.hasType rfl, hni, gC, gN, gT⟩
      show globOf p' loose c = some (.cls c)
      unfold globOf
      rw [if_neg, if_pos (by rw [hs]; rfl)]
      intro hx
      obtain ⟨r, hr, rfl⟩ := List.mem_map.mp (List.contains_iff_mem.mp hx)
      obtain ⟨a', o, pm, code, doc, h1, h2, h3, h4⟩ := T.fn r hr
      rw [bound] at h1; cases h1
      rw [gC] at h2; cases h2
      cases h3
  · cases v with
    | cls d =>
      obtain ⟨C', D', a1, a2, a3, a4, a5⟩ := cOf h
      have hC : alOf mg c = some C := hC
      rw [a1] at hC; cases hC
      cases ry with
      | cls ha =>
      have ha : alOf mg d = some _ := ha
      rw [a2] at ha; cases ha
      exact isaAt_of KX a3 a4
    | ty t =>
      obtain ⟨C', a1, a3, a4⟩ := tOf h
      have hC : alOf mg c = some C := hC
      rw [a1] at hC; cases hC
      cases ry
      exact isaAt_of KX a3 a4
    | _ => cases h
  · obtain ⟨C', D', a1, a2, a3, a4, a5⟩ := cOf h
    have hC : alOf mg c = some C := hC
    have hD : alOf mg d = some D := hD
    rw [a1] at hC; cases hC
    rw [a2] at hD; cases hD
    exact exmAt_of KX a5
  · have hv : globOf p' loose x = some v := hv
    unfold globOf at hv
    split at hv
    · rename_i hx
      cases hv
      obtain ⟨r, hr, rfl⟩ := List.mem_map.mp (List.contains_iff_mem.mp hx)
      obtain ⟨a', o, pm, code, doc, h1, h2, h3, h4⟩ := T.fn r hr
      exact ⟨.ref a', .inl h1, .fn (alOf_eq h1)⟩
    · split at hv
      · rename_i hx
        cases hv
        obtain ⟨z, hs⟩ := Option.isSome_iff_exists.mp hx
        obtain ⟨C, O, _⟩ := T.ownAt hs
        exact ⟨.ref C, .inl O.bound, .cls (alOf_eq O.bound)⟩
      split at hv
      · cases hd : valOf p' x with
        | none => rw [hd] at hv; cases hv
        | some d =>
          rw [hd] at hv
          cases d with
          | int i =>
            cases hv
            obtain ⟨y, h1, h2⟩ := T.const x _ hd
            obtain ⟨t, rfl, _⟩ := reads_int_inv (h2 s.heap)
            exact ⟨_, .inl h1, .int i t⟩
          | _ => cases hv
      · split at hv
        · cases hd : tupIntsOf p' x with
          | none => rw [hd] at hv; cases hv
          | some l =>
            rw [hd] at hv; cases hv
            obtain ⟨a', vs, h1, ⟨o, h2, h3, n, h4⟩, h5⟩ := B.tupI x _ hd
            exact ⟨_, .inl h1, .tup o n h2 h3 h4 (rv_ints h5)⟩
        · split at hv
          · rename_i hx
            obtain ⟨f1, f2⟩ := free_of T hx
            cases hd : bootBuiltins x with
            | none => rw [hd] at hv; cases hv
            | some y =>
              rw [hd] at hv
              refine ⟨y, .inr ⟨f1, f2.trans hd⟩, ?_⟩
              cases y <;> first | (cases hv; first | exact .bi _ | exact .ty _) | cases hv
          · cases hv
  · subst e; obtain ⟨f1, f2⟩ := free_of T r1; exact ⟨f1, f2.trans b1⟩
  · subst e; obtain ⟨f1, f2⟩ := free_of T r2; exact ⟨f1, f2.trans b2⟩
  · subst e; obtain ⟨f1, f2⟩ := free_of T r3; exact ⟨f1, f2.trans b3⟩
  · obtain ⟨o, h1, h2, n, h3⟩ := hL
    exact ⟨o, n, items, h1, h2, h3, rv_ints hI⟩
  · have hf' : ((recsOf p').find? (·.name == f)).bind (fun r => cFn r.params r.scope r.body) = some d := hf
    cases hq : (recsOf p').find? (·.name == f) with
    | none => rw [hq] at hf'; cases hf'
    | some r =>
      rw [hq] at hf'
      have hn : r.name = f := beq_iff_eq.mp (List.find?_some (p := fun e : DefRec => e.name == f) hq)
      obtain ⟨a', o, pm, code, doc, h1, h2, h3, h4⟩ := T.fn r (List.mem_of_find?_eq_some hq)
      subst hn
      exact ⟨a', o, _, r.body, alOf_eq h1, h2, h3, rfl, hf', rfl, rfl, rfl, rfl, h4⟩

theorem join {p' : Program} {tc : TabC} {tt : TabT} (Y : ∃ K : Frag, K.In s.heap ∧ chk tc tt K = true) (T : Top p loose mean mg mb s.heap) (B : Tables p' w mg s.heap) (hp : p' = p) (hg : s.gens = #[]) {fa : Addr} (hmg : mg "law" = some (.ref fa)) {a : Addr} {items : List Value} {ns : List Int} (hL : s.heap.IsList a items.toArray) (hI : IntsAre items ns)
    (hr : (okB p loose "range" && okB p loose "enumerate" && okB p loose "zip") = true) {d : FnD} (hd : (progOf p loose tc tt ns).fn "law" = some d) {n : Nat} (hn : n < 600)
    (hv : ∃ σ', callN (progOf p loose tc tt ns) (n + 1) false (.fn "law") [.script] [] = .ok (.bool true) σ') {c : ClaimW} {cl : Str → Option Addr} {mean' : ExcName → Option Value} {args : List WData}
    (h1 : ∀ cls, c.raises args cls = false) (h2 : c.post args (.bool true) args = true) {E : Value → Shared → Prop} :
    wpAny (model prog w) callerA (call (.ref fa) [.ref a]) (fun v s' => GoodWG c cl mean' args s (.ok (.ret v)) s') E s := by
  obtain ⟨σ', hv⟩ := hv
  refine wpAny_mono (enter (X := cyOf p prog loose tc tt ns mg a w s) (base_of Y T B hp hL hI hr) rfl rfl hg hd (alOf_eq hmg) hn (by decide) hv) (fun y s' ⟨⟨ρ', r⟩, hk, ho, hgs⟩ => ?_) (fun e s' h => h)
  cases r
  refine ⟨.inl ⟨_, _, [], rfl, h1, .bool true, h2, fun _ => ⟨List.nodup_nil, fun _ hm => by cases hm⟩⟩, .of_keep hk, ho, .of_eq (hgs.trans hg)⟩
end
end Mine
end

section
set_option maxRecDepth 100000
set_option linter.unusedVariables false
set_option linter.unusedSimpArgs false
namespace Mine
open PySem

theorem mulOk_l {a b : Int} (h : a.natAbs < 2 ^ 64) : mulOk a b = true := by unfold mulOk; simp [h]
theorem mulOk_r {a b : Int} (h : b.natAbs < 2 ^ 64) : mulOk a b = true := by unfold mulOk; simp [h]
theorem mulOk_ml {a c b : Int} (h : 0 < b) (h' : b ≤ 2 ^ 64) : mulOk (a % b) c = true := mulOk_l (by have := Int.emod_nonneg a (show b ≠ 0 by omega); have := Int.emod_lt_of_pos a h; omega)
theorem mulOk_mr {a c b : Int} (h : 0 < b) (h' : b ≤ 2 ^ 64) : mulOk c (a % b) = true := mulOk_r (by have := Int.emod_nonneg a (show b ≠ 0 by omega); have := Int.emod_lt_of_pos a h; omega)

/-! ### loops -/
theorem gt0 {a0 : Option V} {l : Loc} : (a0 :: l)[0]? = some a0 := rfl
theorem st0 {a0 v : Option V} {l : Loc} : (a0 :: l).set 0 v = v :: l := rfl
theorem gt1 {a0 a1 : Option V} {l : Loc} : (a0 :: a1 :: l)[1]? = some a1 := rfl
theorem st1 {a0 a1 v : Option V} {l : Loc} : (a0 :: a1 :: l).set 1 v = a0 :: v :: l := rfl
theorem gt2 {a0 a1 a2 : Option V} {l : Loc} : (a0 :: a1 :: a2 :: l)[2]? = some a2 := rfl
theorem st2 {a0 a1 a2 v : Option V} {l : Loc} : (a0 :: a1 :: a2 :: l).set 2 v = a0 :: a1 :: v :: l := rfl
theorem gt3 {a0 a1 a2 a3 : Option V} {l : Loc} : (a0 :: a1 :: a2 :: a3 :: l)[3]? = some a3 := rfl
theorem st3 {a0 a1 a2 a3 v : Option V} {l : Loc} : (a0 :: a1 :: a2 :: a3 :: l).set 3 v = a0 :: a1 :: a2 :: v :: l := rfl
theorem gt4 {a0 a1 a2 a3 a4 : Option V} {l : Loc} : (a0 :: a1 :: a2 :: a3 :: a4 :: l)[4]? = some a4 := rfl
theorem st4 {a0 a1 a2 a3 a4 v : Option V} {l : Loc} : (a0 :: a1 :: a2 :: a3 :: a4 :: l).set 4 v = a0 :: a1 :: a2 :: a3 :: v :: l := rfl
theorem gt5 {a0 a1 a2 a3 a4 a5 : Option V} {l : Loc} : (a0 :: a1 :: a2 :: a3 :: a4 :: a5 :: l)[5]? = some a5 := rfl
theorem st5 {a0 a1 a2 a3 a4 a5 v : Option V} {l : Loc} : (a0 :: a1 :: a2 :: a3 :: a4 :: a5 :: l).set 5 v = a0 :: a1 :: a2 :: a3 :: a4 :: v :: l := rfl
theorem gt6 {a0 a1 a2 a3 a4 a5 a6 : Option V} {l : Loc} : (a0 :: a1 :: a2 :: a3 :: a4 :: a5 :: a6 :: l)[6]? = some a6 := rfl
theorem st6 {a0 a1 a2 a3 a4 a5 a6 v : Option V} {l : Loc} : (a0 :: a1 :: a2 :: a3 :: a4 :: a5 :: a6 :: l).set 6 v = a0 :: a1 :: a2 :: a3 :: a4 :: a5 :: v :: l := rfl
theorem gt7 {a0 a1 a2 a3 a4 a5 a6 a7 : Option V} {l : Loc} : (a0 :: a1 :: a2 :: a3 :: a4 :: a5 :: a6 :: a7 :: l)[7]? = some a7 := rfl
theorem st7 {a0 a1 a2 a3 a4 a5 a6 a7 v : Option V} {l : Loc} : (a0 :: a1 :: a2 :: a3 :: a4 :: a5 :: a6 :: a7 :: l).set 7 v = a0 :: a1 :: a2 :: a3 :: a4 :: a5 :: a6 :: v :: l := rfl
theorem gt8 {a0 a1 a2 a3 a4 a5 a6 a7 a8 : Option V} {l : Loc} : (a0 :: a1 :: a2 :: a3 :: a4 :: a5 :: a6 :: a7 :: a8 :: l)[8]? = some a8 := rfl
theorem st8 {a0 a1 a2 a3 a4 a5 a6 a7 a8 v : Option V} {l : Loc} : (a0 :: a1 :: a2 :: a3 :: a4 :: a5 :: a6 :: a7 :: a8 :: l).set 8 v = a0 :: a1 :: a2 :: a3 :: a4 :: a5 :: a6 :: a7 :: v :: l := rfl
theorem gt9 {a0 a1 a2 a3 a4 a5 a6 a7 a8 a9 : Option V} {l : Loc} : (a0 :: a1 :: a2 :: a3 :: a4 :: a5 :: a6 :: a7 :: a8 :: a9 :: l)[9]? = some a9 := rfl
theorem st9 {a0 a1 a2 a3 a4 a5 a6 a7 a8 a9 v : Option V} {l : Loc} : (a0 :: a1 :: a2 :: a3 :: a4 :: a5 :: a6 :: a7 :: a8 :: a9 :: l).set 9 v = a0 :: a1 :: a2 :: a3 :: a4 :: a5 :: a6 :: a7 :: a8 :: v :: l := rfl
theorem gt10 {a0 a1 a2 a3 a4 a5 a6 a7 a8 a9 a10 : Option V} {l : Loc} : (a0 :: a1 :: a2 :: a3 :: a4 :: a5 :: a6 :: a7 :: a8 :: a9 :: a10 :: l)[10]? = some a10 := rfl
theorem st10 {a0 a1 a2 a3 a4 a5 a6 a7 a8 a9 a10 v : Option V} {l : Loc} : (a0 :: a1 :: a2 :: a3 :: a4 :: a5 :: a6 :: a7 :: a8 :: a9 :: a10 :: l).set 10 v = a0 :: a1 :: a2 :: a3 :: a4 :: a5 :: a6 :: a7 :: a8 :: a9 :: v :: l := rfl
theorem gt11 {a0 a1 a2 a3 a4 a5 a6 a7 a8 a9 a10 a11 : Option V} {l : Loc} : (a0 :: a1 :: a2 :: a3 :: a4 :: a5 :: a6 :: a7 :: a8 :: a9 :: a10 :: a11 :: l)[11]? = some a11 := rfl
theorem st11 {a0 a1 a2 a3 a4 a5 a6 a7 a8 a9 a10 a11 v : Option V} {l : Loc} : (a0 :: a1 :: a2 :: a3 :: a4 :: a5 :: a6 :: a7 :: a8 :: a9 :: a10 :: a11 :: l).set 11 v = a0 :: a1 :: a2 :: a3 :: a4 :: a5 :: a6 :: a7 :: a8 :: a9 :: a10 :: v :: l := rfl
theorem gt12 {a0 a1 a2 a3 a4 a5 a6 a7 a8 a9 a10 a11 a12 : Option V} {l : Loc} : (a0 :: a1 :: a2 :: a3 :: a4 :: a5 :: a6 :: a7 :: a8 :: a9 :: a10 :: a11 :: a12 :: l)[12]? = some a12 := rfl
theorem st12 {a0 a1 a2 a3 a4 a5 a6 a7 a8 a9 a10 a11 a12 v : Option V} {l : Loc} : (a0 :: a1 :: a2 :: a3 :: a4 :: a5 :: a6 :: a7 :: a8 :: a9 :: a10 :: a11 :: a12 :: l).set 12 v = a0 :: a1 :: a2 :: a3 :: a4 :: a5 :: a6 :: a7 :: a8 :: a9 :: a10 :: a11 :: v :: l := rfl
theorem gt13 {a0 a1 a2 a3 a4 a5 a6 a7 a8 a9 a10 a11 a12 a13 : Option V} {l : Loc} : (a0 :: a1 :: a2 :: a3 :: a4 :: a5 :: a6 :: a7 :: a8 :: a9 :: a10 :: a11 :: a12 :: a13 :: l)[13]? = some a13 := rfl
theorem st13 {a0 a1 a2 a3 a4 a5 a6 a7 a8 a9 a10 a11 a12 a13 v : Option V} {l : Loc} : (a0 :: a1 :: a2 :: a3 :: a4 :: a5 :: a6 :: a7 :: a8 :: a9 :: a10 :: a11 :: a12 :: a13 :: l).set 13 v = a0 :: a1 :: a2 :: a3 :: a4 :: a5 :: a6 :: a7 :: a8 :: a9 :: a10 :: a11 :: a12 :: v :: l := rfl
theorem gt14 {a0 a1 a2 a3 a4 a5 a6 a7 a8 a9 a10 a11 a12 a13 a14 : Option V} {l : Loc} : (a0 :: a1 :: a2 :: a3 :: a4 :: a5 :: a6 :: a7 :: a8 :: a9 :: a10 :: a11 :: a12 :: a13 :: a14 :: l)[14]? = some a14 := rfl
theorem st14 {a0 a1 a2 a3 a4 a5 a6 a7 a8 a9 a10 a11 a12 a13 a14 v : Option V} {l : Loc} : (a0 :: a1 :: a2 :: a3 :: a4 :: a5 :: a6 :: a7 :: a8 :: a9 :: a10 :: a11 :: a12 :: a13 :: a14 :: l).set 14 v = a0 :: a1 :: a2 :: a3 :: a4 :: a5 :: a6 :: a7 :: a8 :: a9 :: a10 :: a11 :: a12 :: a13 :: v :: l := rfl
theorem gt15 {a0 a1 a2 a3 a4 a5 a6 a7 a8 a9 a10 a11 a12 a13 a14 a15 : Option V} {l : Loc} : (a0 :: a1 :: a2 :: a3 :: a4 :: a5 :: a6 :: a7 :: a8 :: a9 :: a10 :: a11 :: a12 :: a13 :: a14 :: a15 :: l)[15]? = some a15 := rfl
theorem st15 {a0 a1 a2 a3 a4 a5 a6 a7 a8 a9 a10 a11 a12 a13 a14 a15 v : Option V} {l : Loc} : (a0 :: a1 :: a2 :: a3 :: a4 :: a5 :: a6 :: a7 :: a8 :: a9 :: a10 :: a11 :: a12 :: a13 :: a14 :: a15 :: l).set 15 v = a0 :: a1 :: a2 :: a3 :: a4 :: a5 :: a6 :: a7 :: a8 :: a9 :: a10 :: a11 :: a12 :: a13 :: a14 :: v :: l := rfl
/-! ### stepping -/
section
variable {α β : Type} {σ σ' : Store} {ℓ : Loc} {P : Prog} {hd : Bool} {C : V → List V → Store → Out V} {C' : Bool → V → List V → Store → Out V} {n : Nat}
theorem bind_ok (a : α) (k : α → Store → Out β) : (Out.ok a σ).bind k = k a σ := rfl
theorem bindS_ok (a : α) (k : α → Store → SOut) : (Out.ok a σ).bindS ℓ k = k a σ := rfl
theorem ofOpt_some (a : α) : Out.ofOpt σ (some a) = .ok a σ := rfl
theorem seq_next (k : Loc → Store → SOut) : (SOut.next ℓ σ).seq k = k ℓ σ := rfl
theorem seq_cont (k : Loc → Store → SOut) : (SOut.cont ℓ σ).seq k = .cont ℓ σ := rfl
theorem seq_ret (v : V) (k : Loc → Store → SOut) : (SOut.ret v σ).seq k = .ret v σ := rfl
theorem bin_add (a b : Int) : binV .add (.int a) (.int b) σ = .ok (.int (a + b)) σ := rfl
theorem bin_sub (a b : Int) : binV .sub (.int a) (.int b) σ = .ok (.int (a - b)) σ := rfl
theorem bin_mul (a b : Int) (h : mulOk a b = true) : binV .mul (.int a) (.int b) σ = .ok (.int (a * b)) σ := by simp [binV, intP, binI, h]
theorem bin_fdiv (a b : Int) (h : 0 < b) (h' : b < 1073741824) : binV .fdiv (.int a) (.int b) σ = .ok (.int (a / b)) σ := by simp [binV, intP, binI, h, h']
theorem bin_mod (a b : Int) (h : 0 < b) : binV .mod (.int a) (.int b) σ = .ok (.int (a % b)) σ := by simp [binV, intP, binI, h]
theorem bin_pow9 : binV .pow (.int 10) (.int 9) σ = .ok (.int 1000000000) σ := by simp [binV, intP, binI]
theorem bin_pow6 : binV .pow (.int 10) (.int 6) σ = .ok (.int 1000000) σ := by simp [binV, intP, binI]
theorem cmp_lt (a b : Int) : cmpV P .lt (.int a) (.int b) σ = some (decide (a < b)) := rfl
theorem cmp_le (a b : Int) : cmpV P .le (.int a) (.int b) σ = some (decide (a ≤ b)) := rfl
theorem cmp_gt (a b : Int) : cmpV P .gt (.int a) (.int b) σ = some (decide (b < a)) := rfl
theorem cmp_ge (a b : Int) : cmpV P .ge (.int a) (.int b) σ = some (decide (b ≤ a)) := rfl
theorem cmp_eq (a b : Int) : cmpV P .eq (.int a) (.int b) σ = some (decide (a = b)) := rfl
theorem cmp_ne (a b : Int) : cmpV P .ne (.int a) (.int b) σ = some (!decide (a = b)) := rfl
theorem truth_bool (b : Bool) : truthV (.bool b) = some b := rfl
theorem callN_fn {f : Str} {d : FnD} {as : List V} (hf : P.fn f = some d) : callN P (n + 1) hd (.fn f) as σ = runBody P (callN P n) d hd as σ := by simp [callN, hf]
theorem callN_bi {b : String} {as : List V} : callN P (n + 1) hd (.bi b) as σ = prim P hd b as σ := rfl
theorem evS_nil : evEs P hd C [] ℓ σ = .ok [] σ := by rw [evEs]
theorem rb_ret {d : FnD} {as : List V} {v : V} (hl : as.length = d.np) (h : exSs P C' d.body hd (as.map some ++ List.replicate (d.nl - d.np) none) σ = .ret v σ') : runBody P C' d hd as σ = .ok v σ' := by
  unfold runBody; rw [if_pos hl, h]
theorem rb_next {d : FnD} {as : List V} {ℓ' : Loc} (hl : as.length = d.np) (h : exSs P C' d.body hd (as.map some ++ List.replicate (d.nl - d.np) none) σ = .next ℓ' σ') : runBody P C' d hd as σ = .ok .none σ' := by
  unfold runBody; rw [if_pos hl, h]
end

/-! ### stores -/
structure Ext (σ σ' : Store) : Prop where
  le : σ.length ≤ σ'.length
  get : ∀ k, k < σ.length → σ'[k]? = σ[k]?
theorem Ext.refl (σ : Store) : Ext σ σ := ⟨Nat.le_refl _, fun _ _ => rfl⟩
theorem Ext.trans {a b c : Store} (x : Ext a b) (y : Ext b c) : Ext a c := ⟨Nat.le_trans x.le y.le, fun k h => (y.get k (Nat.lt_of_lt_of_le h x.le)).trans (x.get k h)⟩
theorem Ext.append (σ l : Store) : Ext σ (σ ++ l) := ⟨by simp, fun k h => List.getElem?_append_left h⟩
theorem Ext.set {σ σ' : Store} (x : Ext σ σ') {n : Nat} (h : σ.length ≤ n) (c : Cell) : Ext σ (σ'.set n c) := ⟨by simpa using x.le, fun k hk => by rw [List.getElem?_set_ne (by omega)]; exact x.get k hk⟩
theorem Ext.some {σ σ' : Store} (x : Ext σ σ') {n : Nat} {c : Cell} (h : σ[n]? = some c) : σ'[n]? = some c := by
  rw [x.get n (List.getElem?_eq_some_iff.mp h).1]; exact h
theorem set_get {σ : Store} {n : Nat} {c d : Cell} (h : σ[n]? = some c) : (σ.set n d)[n]? = some d := by
  have := (List.getElem?_eq_some_iff.mp h).1
  simp [this]
theorem app_get (σ : Store) (c : Cell) : (σ ++ [c])[σ.length]? = some c := by simp
theorem app_len (σ : Store) (c : Cell) : (σ ++ [c]).length = σ.length + 1 := by simp

section
variable {α β : Type} {σ σ' : Store} {ℓ : Loc} {P : Prog} {hd : Bool} {C : V → List V → Store → Out V} {n : Nat}
theorem sub_list {l : List V} {i : Int} (h : σ[n]? = some (.list l)) : subV P (.loc n) (.int i) σ = idx l i := by simp [subV, h]
theorem idx_nat {l : List V} {k : Nat} (h : k < 4611686018427387904) : idx l (k : Int) = l[k]? := by
  have : (k : Int) < 4611686018427387904 := by omega
  simp [idx, this]
theorem idx_toNat {l : List V} {i : Int} (h0 : 0 ≤ i) (h : i < 4611686018427387904) : idx l i = l[i.toNat]? := by simp [idx, h, h0]
theorem sub_t0 {a : V} {l : List V} : subV P (.tup (a :: l)) (.int 0) σ = some a := by simp [subV, idx]
theorem sub_t1 {a b : V} {l : List V} : subV P (.tup (a :: b :: l)) (.int 1) σ = some b := by simp [subV, idx]
theorem idx_ints {l : List Int} {i : Int} (h0 : 0 ≤ i) (h1 : i < l.length) (h : i < 4611686018427387904) : idx (l.map .int) i = some (.int (l.getD i.toNat 0)) := by
  have : i.toNat < l.length := by omega
  simp [idx, h0, h, this]
theorem isi_ii {a : Int} {m : Nat} : callN P (m + 1) hd (.bi "isinstance") [.int a, .ty "int"] σ = .ok (.bool true) σ := by simp [callN_bi, prim, isaV, Out.ofOpt]
theorem isi_ib {a : Int} {m : Nat} : callN P (m + 1) hd (.bi "isinstance") [.int a, .ty "bool"] σ = .ok (.bool false) σ := by simp [callN_bi, prim, isaV, Out.ofOpt]
end

noncomputable def lookV (o : Option (Option V)) (σ : Store) : Out V := match o with | some (some v) => .ok v σ | _ => .bad
noncomputable def andV (P : Prog) (hd : Bool) (C : V → List V → Store → Out V) (es : List E) (ℓ : Loc) (v : V) (σ : Store) : Out V := match truthV v with | some true => evAnd P hd C es ℓ σ | some false => .ok v σ | _ => .bad
noncomputable def orV (P : Prog) (hd : Bool) (C : V → List V → Store → Out V) (es : List E) (ℓ : Loc) (v : V) (σ : Store) : Out V := match truthV v with | some true => .ok v σ | some false => evOr P hd C es ℓ σ | _ => .bad
/-! ### expressions, one by one -/
section
variable {P : Prog} {hd : Bool} {C : V → List V → Store → Out V} {ℓ : Loc} {σ : Store}
theorem ev_int {i : Int} : evE P hd C (.int i) ℓ σ = .ok (.int i) σ := by rw [evE]
theorem ev_boolc {b : Bool} : evE P hd C (.bool b) ℓ σ = .ok (.bool b) σ := by rw [evE]
theorem ev_nonec : evE P hd C .none ℓ σ = .ok .none σ := by rw [evE]
theorem ev_var {i : Nat} : evE P hd C (.var i) ℓ σ = lookV ℓ[i]? σ := by rw [evE]; rfl
theorem ev_glob {x : Str} : evE P hd C (.glob x) ℓ σ = .ofOpt σ (P.glob x) := by rw [evE]
theorem ev_bin {o : Bop} {a b : E} : evE P hd C (.bin o a b) ℓ σ = (evE P hd C a ℓ σ).bind fun va σ => (evE P hd C b ℓ σ).bind fun vb σ => binV o va vb σ := by rw [evE]
theorem ev_neg {a : E} : evE P hd C (.neg a) ℓ σ = (evE P hd C a ℓ σ).bind fun v σ => match v with | .int i => .ok (.int (-i)) σ | _ => .bad := by rw [evE] <;> rfl
theorem ev_not {a : E} : evE P hd C (.not a) ℓ σ = (evE P hd C a ℓ σ).bind fun v σ => match truthV v with | some b => .ok (.bool (!b)) σ | _ => .bad := by rw [evE] <;> rfl
theorem ev_and {l : List E} : evE P hd C (.and l) ℓ σ = evAnd P hd C l ℓ σ := by rw [evE]
theorem ev_or {l : List E} : evE P hd C (.or l) ℓ σ = evOr P hd C l ℓ σ := by rw [evE]
theorem ep_cmp {o : Cop} {a b : E} : evE P hd C (.cmp o a b) ℓ σ = (evE P hd C a ℓ σ).bind fun va σ => (evE P hd C b ℓ σ).bind fun vb σ => (Out.ofOpt σ (cmpV P o va vb σ)).bind fun r σ => .ok (.bool r) σ := by rw [evE]
theorem ev_cmp2 {o p : Cop} {a b c : E} : evE P hd C (.cmp2 o p a b c) ℓ σ = (evE P hd C a ℓ σ).bind fun va σ => (evE P hd C b ℓ σ).bind fun vb σ => (Out.ofOpt σ (cmpV P o va vb σ)).bind fun r σ =>
      if r then (evE P hd C c ℓ σ).bind fun vc σ => (Out.ofOpt σ (cmpV P p vb vc σ)).bind fun r σ => .ok (.bool r) σ else .ok (.bool false) σ := by rw [evE]
theorem ev_call {f : E} {as : List E} : evE P hd C (.call f as) ℓ σ = (evE P hd C f ℓ σ).bind fun vf σ => (evEs P hd C as ℓ σ).bind fun vs σ => C vf vs σ := by rw [evE]
theorem ev_sub {o i : E} : evE P hd C (.sub o i) ℓ σ = (evE P hd C o ℓ σ).bind fun vo σ => (evE P hd C i ℓ σ).bind fun vi σ => .ofOpt σ (subV P vo vi σ) := by rw [evE]
theorem ev_list {es : List E} : evE P hd C (.list es) ℓ σ = (evEs P hd C es ℓ σ).bind fun vs σ => .ok (.loc σ.length) (σ ++ [.list vs]) := by rw [evE]
theorem ev_tup {es : List E} : evE P hd C (.tup es) ℓ σ = (evEs P hd C es ℓ σ).bind fun vs σ => .ok (.tup vs) σ := by rw [evE]
theorem es_nil : evEs P hd C [] ℓ σ = .ok [] σ := by rw [evEs]
theorem es_cons {e : E} {es : List E} : evEs P hd C (e :: es) ℓ σ = (evE P hd C e ℓ σ).bind fun v σ => (evEs P hd C es ℓ σ).bind fun vs σ => .ok (v :: vs) σ := by rw [evEs]
theorem and_one {e : E} : evAnd P hd C [e] ℓ σ = evE P hd C e ℓ σ := by rw [evAnd]
theorem and_cons {e f : E} {es : List E} : evAnd P hd C (e :: f :: es) ℓ σ = (evE P hd C e ℓ σ).bind fun v σ => andV P hd C (f :: es) ℓ v σ := by rw [evAnd] <;> first | rfl | (intro h; cases h)
theorem or_one {e : E} : evOr P hd C [e] ℓ σ = evE P hd C e ℓ σ := by rw [evOr]
theorem or_cons {e f : E} {es : List E} : evOr P hd C (e :: f :: es) ℓ σ = (evE P hd C e ℓ σ).bind fun v σ => orV P hd C (f :: es) ℓ v σ := by rw [evOr] <;> first | rfl | (intro h; cases h)
theorem eb_def {e : E} : evB P hd C e ℓ σ = (evE P hd C e ℓ σ).bind fun v σ => .ofOpt σ (truthV v) := by unfold evB; exact Eq.trans rfl rfl
theorem look_some {v : V} : lookV (some (some v)) σ = .ok v σ := rfl
theorem andV_t {es : List E} : andV P hd C es ℓ (.bool true) σ = evAnd P hd C es ℓ σ := rfl
theorem andV_f {es : List E} : andV P hd C es ℓ (.bool false) σ = .ok (.bool false) σ := rfl
theorem andV_d {es : List E} {p : Prop} [Decidable p] : andV P hd C es ℓ (.bool (decide p)) σ = if p then evAnd P hd C es ℓ σ else .ok (.bool false) σ := by by_cases h : p <;> simp [h, andV, truthV]
theorem orV_t {es : List E} : orV P hd C es ℓ (.bool true) σ = .ok (.bool true) σ := rfl
theorem orV_f {es : List E} : orV P hd C es ℓ (.bool false) σ = evOr P hd C es ℓ σ := rfl
theorem orV_d {es : List E} {p : Prop} [Decidable p] : orV P hd C es ℓ (.bool (decide p)) σ = if p then .ok (.bool true) σ else evOr P hd C es ℓ σ := by by_cases h : p <;> simp [h, orV, truthV]
theorem orV_n {es : List E} {b : Bool} : orV P hd C es ℓ (.bool (!b)) σ = if b then evOr P hd C es ℓ σ else .ok (.bool true) σ := by cases b <;> rfl
end

/-! ### statements, one by one -/
section
variable {P : Prog} {C : Bool → V → List V → Store → Out V} {hd : Bool} {ℓ : Loc} {σ : Store}
noncomputable def contS (P : Prog) (C : Bool → V → List V → Store → Out V) (hd : Bool) (ss : List S) (o : SOut) : SOut := o.seq fun ℓ σ => exSs P C ss hd ℓ σ
noncomputable def iteS (P : Prog) (C : Bool → V → List V → Store → Out V) (hd : Bool) (a b : List S) (ℓ : Loc) (o : Out Bool) : SOut := o.bindS ℓ fun r σ => if r then exSs P C a hd ℓ σ else exSs P C b hd ℓ σ
theorem ex_nil : exSs P C [] hd ℓ σ = .next ℓ σ := by rw [exSs]
theorem ex_cons {s : S} {ss : List S} : exSs P C (s :: ss) hd ℓ σ = contS P C hd ss (exS P C s hd ℓ σ) := by rw [exSs]; rfl
theorem cont_next {ss : List S} : contS P C hd ss (.next ℓ σ) = exSs P C ss hd ℓ σ := rfl
theorem cont_cont {ss : List S} : contS P C hd ss (.cont ℓ σ) = .cont ℓ σ := rfl
theorem cont_ret {ss : List S} {v : V} : contS P C hd ss (.ret v σ) = .ret v σ := rfl
theorem ex_asg {t : AT} {e : E} : exS P C (.asg t e) hd ℓ σ = (evE P hd (C hd) e ℓ σ).bindS ℓ fun v σ => asgT P hd (C hd) t v ℓ σ := by rw [exS]
theorem ex_expr {e : E} : exS P C (.expr e) hd ℓ σ = (evE P hd (C hd) e ℓ σ).bindS ℓ fun v σ => .next ℓ σ := by rw [exS]
theorem ex_ret {e : E} : exS P C (.ret e) hd ℓ σ = (evE P hd (C hd) e ℓ σ).bindS ℓ fun v σ => .ret v σ := by rw [exS]
theorem ex_ite {c : E} {a b : List S} : exS P C (.ite c a b) hd ℓ σ = iteS P C hd a b ℓ (evB P hd (C hd) c ℓ σ) := by rw [exS]; rfl
theorem ite_t {a b : List S} : iteS P C hd a b ℓ (.ok true σ) = exSs P C a hd ℓ σ := rfl
theorem ite_f {a b : List S} : iteS P C hd a b ℓ (.ok false σ) = exSs P C b hd ℓ σ := rfl
theorem ite_d {a b : List S} {p : Prop} [Decidable p] : iteS P C hd a b ℓ (.ok (decide p) σ) = if p then exSs P C a hd ℓ σ else exSs P C b hd ℓ σ := by
  by_cases h : p <;> simp [h, iteS, Out.bindS]
theorem ex_pass : exS P C .pass hd ℓ σ = .next ℓ σ := by rw [exS]
theorem ex_cont : exS P C .cont hd ℓ σ = .cont ℓ σ := by rw [exS]
theorem asg_name {i : Nat} {v : V} {C : V → List V → Store → Out V} : asgT P hd C (.name i) v ℓ σ = .next (ℓ.set i (some v)) σ := rfl
end
theorem next_if {p : Prop} [Decidable p] {a b : Loc} {σ : Store} : (if p then SOut.next a σ else SOut.next b σ) = .next (if p then a else b) σ := by split <;> rfl
theorem ex_append {P : Prog} {C : Bool → V → List V → Store → Out V} {hd : Bool} {b : List S} : ∀ {a : List S} {ℓ : Loc} {σ : Store}, exSs P C (a ++ b) hd ℓ σ = contS P C hd b (exSs P C a hd ℓ σ)
  | [], ℓ, σ => by rw [List.nil_append, ex_nil, cont_next]
  | s :: a, ℓ, σ => by
    rw [List.cons_append, ex_cons, ex_cons]
    cases h : exS P C s hd ℓ σ with
    | next ℓ1 σ1 => rw [cont_next, cont_next]; exact ex_append
    | cont ℓ1 σ1 => rfl
    | ret v σ1 => rfl
    | exc c ℓ1 σ1 => rfl
    | bad => rfl
theorem ex_split {P : Prog} {C : Bool → V → List V → Store → Out V} {hd : Bool} (k : Nat) {b : List S} {ℓ ℓ1 : Loc} {σ σ1 : Store} (h : exSs P C (b.take k) hd ℓ σ = .next ℓ1 σ1) : exSs P C b hd ℓ σ = exSs P C (b.drop k) hd ℓ1 σ1 := by
  conv => lhs; rw [← List.take_append_drop k b, ex_append, h, cont_next]
end Mine
end

section
set_option maxRecDepth 100000
set_option maxHeartbeats 1000000
set_option linter.unusedVariables false
set_option linter.unusedSimpArgs false
namespace Mine
open PySem
noncomputable def zlawzcellzat : FnD := ⟨2, 3, [.ite (.cmp .lt (.var 1) (.call (.glob "len") [(.var 0)])) [.ret (.sub (.var 0) (.var 1))] [], .ret (.int (0))]⟩
noncomputable def zlawzwhole : FnD := ⟨1, 4, [.ret (.and [(.call (.glob "isinstance") [(.var 0), (.glob "int")]), (.not (.call (.glob "isinstance") [(.var 0), (.glob "bool")]))])]⟩

noncomputable def cell (P : Prog) (k : Nat) : Int := (P.ns[k]?).getD 0
abbrev pr (p : Int × Int) : V := .tup [.int p.1, .int p.2]
section
variable {P : Prog} {n : Nat} {hd : Bool} {σ : Store}

theorem sp_len (hn : P.ns.length ≤ 63) : callN P (n + 1) hd (.bi "len") [.script] σ = .ok (.int P.ns.length) σ := by
  have : P.ns.length ≤ szL := by unfold szL; omega
  simp [callN_bi, prim, this]
theorem sp_cell (hf : P.fn "_law_cell_at" = some zlawzcellzat) (hg : P.glob "len" = some (.bi "len")) (hn : P.ns.length ≤ 63) (k : Nat) (hk : k < 64) : callN P (n + 2) hd (.fn "_law_cell_at") [.script, .int k] σ = .ok (.int (cell P k)) σ := by
  rw [callN_fn hf]
  refine rb_ret rfl ?_
  simp -implicitDefEqProofs [ex_nil, ex_cons, cont_next, cont_cont, cont_ret, ex_asg, ex_expr, ex_ret, ex_ite, ite_t, ite_f, ite_d, ex_pass, ex_cont, asg_name, ev_int, ev_boolc, ev_nonec, ev_var, ev_glob, ev_bin, ev_neg, ev_not, ev_and, ev_or, ep_cmp, ev_cmp2, ev_call, ev_sub, ev_list, ev_tup, es_nil, es_cons, and_one, and_cons, or_one, or_cons, eb_def, look_some, andV_t, andV_f, andV_d, orV_t, orV_f, orV_d, orV_n, bind_ok, bindS_ok, ofOpt_some, bin_add, bin_sub, bin_mul, bin_fdiv, bin_mod, bin_pow9, bin_pow6, cmp_lt, cmp_le, cmp_gt, cmp_ge, cmp_eq, cmp_ne, truth_bool, List.map_cons, List.map_nil, List.replicate, List.cons_append, List.nil_append, gt0, st0, gt1, st1, gt2, st2, gt3, st3, gt4, st4, gt5, st5, gt6, st6, gt7, st7, gt8, st8, gt9, st9, gt10, st10, gt11, st11, gt12, st12, gt13, st13, gt14, st14, gt15, st15, zlawzcellzat, hg, sp_len hn]
  by_cases h : k < P.ns.length
  · have : subV P .script (.int k) σ = some (.int (cell P k)) := by
      simp only [subV]
      rw [idx_nat (by omega)]
      simp [cell, h]
    simp -implicitDefEqProofs [h, this, ex_nil, ex_cons, cont_next, cont_cont, cont_ret, ex_asg, ex_expr, ex_ret, ex_ite, ite_t, ite_f, ite_d, ex_pass, ex_cont, asg_name, ev_int, ev_boolc, ev_nonec, ev_var, ev_glob, ev_bin, ev_neg, ev_not, ev_and, ev_or, ep_cmp, ev_cmp2, ev_call, ev_sub, ev_list, ev_tup, es_nil, es_cons, and_one, and_cons, or_one, or_cons, eb_def, look_some, andV_t, andV_f, andV_d, orV_t, orV_f, orV_d, orV_n, bind_ok, bindS_ok, ofOpt_some, bin_add, bin_sub, bin_mul, bin_fdiv, bin_mod, bin_pow9, bin_pow6, cmp_lt, cmp_le, cmp_gt, cmp_ge, cmp_eq, cmp_ne, truth_bool, List.map_cons, List.map_nil, List.replicate, List.cons_append, List.nil_append, gt0, st0, gt1, st1, gt2, st2, gt3, st3, gt4, st4, gt5, st5, gt6, st6, gt7, st7, gt8, st8, gt9, st9, gt10, st10, gt11, st11, gt12, st12, gt13, st13, gt14, st14, gt15, st15]
  · simp -implicitDefEqProofs [h, ex_nil, ex_cons, cont_next, cont_cont, cont_ret, ex_asg, ex_expr, ex_ret, ex_ite, ite_t, ite_f, ite_d, ex_pass, ex_cont, asg_name, ev_int, ev_boolc, ev_nonec, ev_var, ev_glob, ev_bin, ev_neg, ev_not, ev_and, ev_or, ep_cmp, ev_cmp2, ev_call, ev_sub, ev_list, ev_tup, es_nil, es_cons, and_one, and_cons, or_one, or_cons, eb_def, look_some, andV_t, andV_f, andV_d, orV_t, orV_f, orV_d, orV_n, bind_ok, bindS_ok, ofOpt_some, bin_add, bin_sub, bin_mul, bin_fdiv, bin_mod, bin_pow9, bin_pow6, cmp_lt, cmp_le, cmp_gt, cmp_ge, cmp_eq, cmp_ne, truth_bool, List.map_cons, List.map_nil, List.replicate, List.cons_append, List.nil_append, gt0, st0, gt1, st1, gt2, st2, gt3, st3, gt4, st4, gt5, st5, gt6, st6, gt7, st7, gt8, st8, gt9, st9, gt10, st10, gt11, st11, gt12, st12, gt13, st13, gt14, st14, gt15, st15, cell]
theorem sp_whole (hf : P.fn "_law_whole" = some zlawzwhole) (h1 : P.glob "isinstance" = some (.bi "isinstance")) (h2 : P.glob "int" = some (.ty "int")) (h3 : P.glob "bool" = some (.ty "bool")) (a : Int) : callN P (n + 2) hd (.fn "_law_whole") [.int a] σ = .ok (.bool true) σ := by
  rw [callN_fn hf]
  refine rb_ret rfl ?_
  simp -implicitDefEqProofs [ex_nil, ex_cons, cont_next, cont_cont, cont_ret, ex_asg, ex_expr, ex_ret, ex_ite, ite_t, ite_f, ite_d, ex_pass, ex_cont, asg_name, ev_int, ev_boolc, ev_nonec, ev_var, ev_glob, ev_bin, ev_neg, ev_not, ev_and, ev_or, ep_cmp, ev_cmp2, ev_call, ev_sub, ev_list, ev_tup, es_nil, es_cons, and_one, and_cons, or_one, or_cons, eb_def, look_some, andV_t, andV_f, andV_d, orV_t, orV_f, orV_d, orV_n, bind_ok, bindS_ok, ofOpt_some, bin_add, bin_sub, bin_mul, bin_fdiv, bin_mod, bin_pow9, bin_pow6, cmp_lt, cmp_le, cmp_gt, cmp_ge, cmp_eq, cmp_ne, truth_bool, List.map_cons, List.map_nil, List.replicate, List.cons_append, List.nil_append, gt0, st0, gt1, st1, gt2, st2, gt3, st3, gt4, st4, gt5, st5, gt6, st6, gt7, st7, gt8, st8, gt9, st9, gt10, st10, gt11, st11, gt12, st12, gt13, st13, gt14, st14, gt15, st15, zlawzwhole, h1, h2, h3, isi_ii, isi_ib]
end
end Mine
end

section
set_option maxRecDepth 100000
set_option maxHeartbeats 1000000
set_option linter.unusedVariables false
set_option linter.unusedSimpArgs false
namespace Mine
open PySem
noncomputable def leap (y : Int) : Int := if y % 4 = 0 ∧ (y % 100 ≠ 0 ∨ y % 400 = 0) then 1 else 0
noncomputable def mlen (y : Int) (m : Nat) : Int := match m with
  | 2 => 28 + leap y
  | 4 => 30
  | 6 => 30
  | 9 => 30
  | 11 => 30
  | _ => 31
theorem leap_01 (y : Int) : leap y = 0 ∨ leap y = 1 := by unfold leap; split <;> simp
noncomputable def lenT : List Int := [31, 28, 31, 30, 31, 30, 31, 31, 30, 31, 30, 31]
theorem lenT_at {y : Int} {k : Nat} (hk : k < 12) (h : ¬ (k = 1 ∧ leap y = 1)) : lenT.getD k 0 = mlen y (k + 1) := by
  have := leap_01 y
  match k, hk with
  | 0, _ => rfl
  | 1, _ => show (28 : Int) = 28 + leap y; omega
  | 2, _ => rfl
  | 3, _ => rfl
  | 4, _ => rfl
  | 5, _ => rfl
  | 6, _ => rfl
  | 7, _ => rfl
  | 8, _ => rfl
  | 9, _ => rfl
  | 10, _ => rfl
  | 11, _ => rfl
theorem leap_iff (y : Int) : leap y = 1 ↔ y % 4 = 0 ∧ (y % 100 ≠ 0 ∨ y % 400 = 0) := by unfold leap; split <;> simp_all

noncomputable def iszwhole : FnD := ⟨3, 6, [.ret (.and [(.call (.glob "isinstance") [(.var 0), (.glob "int")]), (.not (.call (.glob "isinstance") [(.var 0), (.glob "bool")])), (.cmp2 .le .le (.var 1) (.var 0) (.var 2))])]⟩
noncomputable def monthzdays : FnD := ⟨2, 7, [.ite (.or [(.not (.call (.glob "is_whole") [(.var 0), (.glob "FIRST_YEAR"), (.glob "LAST_YEAR")])), (.not (.call (.glob "is_whole") [(.var 1), (.int (1)), (.int (12))]))]) [.raise "BadDay" [110, 111, 32, 109, 111, 110, 116, 104]] [], .ite (.and [(.cmp .eq (.var 1) (.int (2))), (.cmp .eq (.bin .mod (.var 0) (.int (4))) (.int (0))), (.or [(.cmp .ne (.bin .mod (.var 0) (.int (100))) (.int (0))), (.cmp .eq (.bin .mod (.var 0) (.int (400))) (.int (0)))])]) [.ret (.int (29))] [], .ret (.sub (.glob "LENGTHS") (.bin .sub (.var 1) (.int (1))))]⟩
noncomputable def zlawzlength : FnD := ⟨2, 4, [.asg (.name 2) (.sub (.list [(.int (31)), (.int (28)), (.int (31)), (.int (30)), (.int (31)), (.int (30)), (.int (31)), (.int (31)), (.int (30)), (.int (31)), (.int (30)), (.int (31))]) (.bin .sub (.var 1) (.int (1)))), .asg (.name 3) (.and [(.cmp .eq (.bin .mod (.var 0) (.int (4))) (.int (0))), (.or [(.cmp .gt (.bin .mod (.var 0) (.int (100))) (.int (0))), (.cmp .eq (.bin .mod (.var 0) (.int (400))) (.int (0)))])]), .ite (.and [(.cmp .eq (.var 1) (.int (2))), (.var 3)]) [.ret (.int (29))] [], .ret (.var 2)]⟩
noncomputable def zlawzrefused : FnD := ⟨2, 15, [.try [.expr (.call (.glob "month_days") [(.var 0), (.var 1)])] "RentError" 2 [.asg (.name 3) (.list [(.call (.glob "isinstance") [(.var 2), (.glob "BadAmount")]), (.call (.glob "isinstance") [(.var 2), (.glob "BadFlat")]), (.call (.glob "isinstance") [(.var 2), (.glob "Done")]), (.call (.glob "isinstance") [(.var 2), (.glob "Full")])]), .asg (.name 3) (.bin .add (.var 3) (.list [(.call (.glob "isinstance") [(.var 2), (.glob "NoLease")]), (.call (.glob "isinstance") [(.var 2), (.glob "Taken")])])), .ret (.and [(.call (.glob "isinstance") [(.var 2), (.glob "BadDay")]), (.call (.glob "isinstance") [(.var 2), (.glob "ValueError")]), (.cmp .notin (.bool true) (.var 3))])], .ret (.bool false)]⟩
noncomputable def law : FnD := ⟨1, 11, [.asg (.name 1) (.bin .add (.int (1996)) (.bin .mod (.call (.glob "_law_cell_at") [(.var 0), (.int (0))]) (.int (282)))), .asg (.name 2) (.bin .sub (.bin .mod (.call (.glob "_law_cell_at") [(.var 0), (.int (1))]) (.int (16))) (.int (1))), .asg (.name 3) (.call (.glob "_law_cell_at") [(.var 0), (.int (2))]), .ite (.cmp .gt (.bin .mod (.var 3) (.int (6))) (.int (3))) [.asg (.name 1) (.sub (.list [(.int (1999)), (.int (2000)), (.int (2100)), (.int (2200)), (.int (2273)), (.int (2274)), (.int (2004)), (.int (2096))]) (.bin .mod (.bin .fdiv (.var 3) (.int (6))) (.int (8)))), .asg (.name 2) (.sub (.list [(.int (2)), (.int (2)), (.int (0)), (.int (13)), (.int (1)), (.int (12))]) (.bin .mod (.bin .fdiv (.var 3) (.int (48))) (.int (6))))] [], .ite (.not (.call (.glob "_law_refused") [(.bin .add (.int (2000)) (.bin .mod (.var 1) (.int (274)))), (.bool true)])) [.ret (.bool false)] [], .ite (.cmp .eq (.bin .mod (.var 3) (.int (6))) (.int (1))) [.asg (.name 4) (.sub (.list [(.bool true), (.str [50]), .none, (.tup [(.int (2))])]) (.bin .mod (.bin .fdiv (.var 3) (.int (6))) (.int (4)))), .ite (.cmp .eq (.bin .mod (.bin .fdiv (.var 3) (.int (24))) (.int (2))) (.int (0))) [.ret (.call (.glob "_law_refused") [(.var 4), (.bin .add (.int (1)) (.bin .mod (.var 2) (.int (12))))])] [], .ret (.call (.glob "_law_refused") [(.bin .add (.int (2000)) (.bin .mod (.var 1) (.int (274)))), (.var 4)])] [], .ite (.or [(.cmp .lt (.var 1) (.int (2000))), (.cmp .gt (.var 1) (.int (2273))), (.cmp .lt (.var 2) (.int (1))), (.cmp .gt (.var 2) (.int (12)))]) [.ret (.call (.glob "_law_refused") [(.var 1), (.var 2)])] [], .asg (.name 5) (.call (.glob "month_days") [(.var 1), (.var 2)]), .ret (.and [(.call (.glob "_law_whole") [(.var 5)]), (.cmp .eq (.var 5) (.call (.glob "_law_length") [(.var 1), (.var 2)]))])]⟩

structure Env01 (P : Prog) : Prop where
  fisw : P.fn "is_whole" = some iszwhole
  fmd : P.fn "month_days" = some monthzdays
  fcell : P.fn "_law_cell_at" = some zlawzcellzat
  fwhole : P.fn "_law_whole" = some zlawzwhole
  flength : P.fn "_law_length" = some zlawzlength
  frefused : P.fn "_law_refused" = some zlawzrefused
  flaw : P.fn "law" = some law
  gisw : P.glob "is_whole" = some (.fn "is_whole")
  gmd : P.glob "month_days" = some (.fn "month_days")
  gcell : P.glob "_law_cell_at" = some (.fn "_law_cell_at")
  gwhole : P.glob "_law_whole" = some (.fn "_law_whole")
  glength : P.glob "_law_length" = some (.fn "_law_length")
  grefused : P.glob "_law_refused" = some (.fn "_law_refused")
  gfirst : P.glob "FIRST_YEAR" = some (.int 2000)
  glast : P.glob "LAST_YEAR" = some (.int 2273)
  glens : P.glob "LENGTHS" = some (.tup (lenT.map .int))
  gisi : P.glob "isinstance" = some (.bi "isinstance")
  gint : P.glob "int" = some (.ty "int")
  gbool : P.glob "bool" = some (.ty "bool")
  glen : P.glob "len" = some (.bi "len")
  gve : P.glob "ValueError" = some (.ty "ValueError")
  gA : P.glob "BadAmount" = some (.cls "BadAmount")
  gF : P.glob "BadFlat" = some (.cls "BadFlat")
  gD : P.glob "Done" = some (.cls "Done")
  gU : P.glob "Full" = some (.cls "Full")
  gN : P.glob "NoLease" = some (.cls "NoLease")
  gT : P.glob "Taken" = some (.cls "Taken")
  gB : P.glob "BadDay" = some (.cls "BadDay")
  exc : P.exc "BadDay" = true
  cat : catches P "BadDay" "RentError" = true
  iA : P.isa "BadDay" (.cls "BadAmount") = some false
  iF : P.isa "BadDay" (.cls "BadFlat") = some false
  iD : P.isa "BadDay" (.cls "Done") = some false
  iU : P.isa "BadDay" (.cls "Full") = some false
  iN : P.isa "BadDay" (.cls "NoLease") = some false
  iT : P.isa "BadDay" (.cls "Taken") = some false
  iB : P.isa "BadDay" (.cls "BadDay") = some true
  iV : P.isa "BadDay" (.ty "ValueError") = some true
  ns : P.ns.length ≤ 63

/-- what is no whole number -/
inductive Odd : V → Prop
  | bool (b : Bool) : Odd (.bool b)
  | str (s : List Nat) : Odd (.str s)
  | none : Odd .none
  | tup (l : List V) : Odd (.tup l)
noncomputable def okV : V → Int → Int → Bool
  | .int a, l, m => decide (l ≤ a) && decide (a ≤ m)
  | _, _, _ => false

section
variable {P : Prog} {n : Nat} {hd : Bool} {σ : Store}
theorem isi_bi {b : Bool} {m : Nat} : callN P (m + 1) hd (.bi "isinstance") [.bool b, .ty "int"] σ = .ok (.bool true) σ := by simp [callN_bi, prim, isaV, Out.ofOpt]
theorem isi_bb {b : Bool} {m : Nat} : callN P (m + 1) hd (.bi "isinstance") [.bool b, .ty "bool"] σ = .ok (.bool true) σ := by simp [callN_bi, prim, isaV, Out.ofOpt]
theorem isi_si {s : List Nat} {m : Nat} : callN P (m + 1) hd (.bi "isinstance") [.str s, .ty "int"] σ = .ok (.bool false) σ := by simp [callN_bi, prim, isaV, Out.ofOpt]
theorem isi_ni {m : Nat} : callN P (m + 1) hd (.bi "isinstance") [.none, .ty "int"] σ = .ok (.bool false) σ := by simp [callN_bi, prim, isaV, Out.ofOpt]
theorem isi_ti {l : List V} {m : Nat} : callN P (m + 1) hd (.bi "isinstance") [.tup l, .ty "int"] σ = .ok (.bool false) σ := by simp [callN_bi, prim, isaV, Out.ofOpt]
theorem isi_ec {c d : Str} {r : Bool} {m : Nat} (h : P.isa c (.cls d) = some r) : callN P (m + 1) hd (.bi "isinstance") [.exc c, .cls d] σ = .ok (.bool r) σ := by simp [callN_bi, prim, isaV, Out.ofOpt, h]
theorem isi_et {c : Str} {d : String} {r : Bool} {m : Nat} (h : P.isa c (.ty d) = some r) : callN P (m + 1) hd (.bi "isinstance") [.exc c, .ty d] σ = .ok (.bool r) σ := by simp [callN_bi, prim, isaV, Out.ofOpt, h]
theorem ev_str {C : V → List V → Store → Out V} {ℓ : Loc} {s : List Nat} : evE P false C (.str s) ℓ σ = .ok (.str s) σ := by rw [evE]; rfl
theorem ex_raise {C : Bool → V → List V → Store → Out V} {ℓ : Loc} {c : Str} {m : List Nat} (h : P.exc c = true) : exS P C (.raise c m) false ℓ σ = .exc c ℓ σ := by rw [exS]; simp [h]
theorem cont_exc {C : Bool → V → List V → Store → Out V} {ℓ : Loc} {c : Str} {ss : List S} : contS P C hd ss (.exc c ℓ σ) = .exc c ℓ σ := rfl
theorem bindS_exc {α : Type} {ℓ : Loc} {c : Str} (k : α → Store → SOut) : (Out.exc c σ : Out α).bindS ℓ k = .exc c ℓ σ := rfl
theorem rb_exc {C : Bool → V → List V → Store → Out V} {d : FnD} {as : List V} {c : Str} {ℓ' : Loc} {σ' : Store} (hl : as.length = d.np) (h : exSs P C d.body hd (as.map some ++ List.replicate (d.nl - d.np) none) σ = .exc c ℓ' σ') : runBody P C d hd as σ = .exc c σ' := by
  unfold runBody; rw [if_pos hl, h]
theorem ex_try {C : Bool → V → List V → Store → Out V} {b h : List S} {d : Str} {x : Nat} {ℓ ℓ' : Loc} {c : Str} {σ' σ'' : Store} {v : V} (hb : exSs P C b false ℓ σ = .exc c ℓ' σ') (hc : catches P c d = true) (hh : exSs P C h true (ℓ'.set x (some (.exc c))) σ' = .ret v σ'') :
    exS P C (.try b d x h) false ℓ σ = .ret v σ'' := by rw [exS]; simp [hb, hc, hh]

theorem sp_isI (H : Env01 P) {a l m : Int} : callN P (n + 2) hd (.fn "is_whole") [.int a, .int l, .int m] σ = .ok (.bool (okV (.int a) l m)) σ := by
  rw [callN_fn H.fisw]
  refine rb_ret rfl ?_
  by_cases h1 : l ≤ a
  · by_cases h2 : a ≤ m <;> simp -implicitDefEqProofs [ex_nil, ex_cons, cont_next, cont_cont, cont_ret, ex_asg, ex_expr, ex_ret, ex_ite, ite_t, ite_f, ite_d, ex_pass, ex_cont, asg_name, ev_int, ev_boolc, ev_nonec, ev_var, ev_glob, ev_bin, ev_neg, ev_not, ev_and, ev_or, ep_cmp, ev_cmp2, ev_call, ev_sub, ev_list, ev_tup, es_nil, es_cons, and_one, and_cons, or_one, or_cons, eb_def, look_some, andV_t, andV_f, andV_d, orV_t, orV_f, orV_d, orV_n, bind_ok, bindS_ok, ofOpt_some, bin_add, bin_sub, bin_mul, bin_fdiv, bin_mod, bin_pow9, bin_pow6, cmp_lt, cmp_le, cmp_gt, cmp_ge, cmp_eq, cmp_ne, truth_bool, List.map_cons, List.map_nil, List.replicate, List.cons_append, List.nil_append, gt0, st0, gt1, st1, gt2, st2, gt3, st3, gt4, st4, gt5, st5, gt6, st6, gt7, st7, gt8, st8, gt9, st9, gt10, st10, gt11, st11, gt12, st12, gt13, st13, gt14, st14, gt15, st15, iszwhole, H.gisi, H.gint, H.gbool, isi_ii, isi_ib, h1, h2, okV]
  · simp -implicitDefEqProofs [ex_nil, ex_cons, cont_next, cont_cont, cont_ret, ex_asg, ex_expr, ex_ret, ex_ite, ite_t, ite_f, ite_d, ex_pass, ex_cont, asg_name, ev_int, ev_boolc, ev_nonec, ev_var, ev_glob, ev_bin, ev_neg, ev_not, ev_and, ev_or, ep_cmp, ev_cmp2, ev_call, ev_sub, ev_list, ev_tup, es_nil, es_cons, and_one, and_cons, or_one, or_cons, eb_def, look_some, andV_t, andV_f, andV_d, orV_t, orV_f, orV_d, orV_n, bind_ok, bindS_ok, ofOpt_some, bin_add, bin_sub, bin_mul, bin_fdiv, bin_mod, bin_pow9, bin_pow6, cmp_lt, cmp_le, cmp_gt, cmp_ge, cmp_eq, cmp_ne, truth_bool, List.map_cons, List.map_nil, List.replicate, List.cons_append, List.nil_append, gt0, st0, gt1, st1, gt2, st2, gt3, st3, gt4, st4, gt5, st5, gt6, st6, gt7, st7, gt8, st8, gt9, st9, gt10, st10, gt11, st11, gt12, st12, gt13, st13, gt14, st14, gt15, st15, iszwhole, H.gisi, H.gint, H.gbool, isi_ii, isi_ib, h1, okV]
theorem sp_isO (H : Env01 P) {v : V} (hv : Odd v) {l m : Int} : callN P (n + 2) hd (.fn "is_whole") [v, .int l, .int m] σ = .ok (.bool false) σ := by
  rw [callN_fn H.fisw]
  refine rb_ret rfl ?_
  cases hv <;> simp -implicitDefEqProofs [ex_nil, ex_cons, cont_next, cont_cont, cont_ret, ex_asg, ex_expr, ex_ret, ex_ite, ite_t, ite_f, ite_d, ex_pass, ex_cont, asg_name, ev_int, ev_boolc, ev_nonec, ev_var, ev_glob, ev_bin, ev_neg, ev_not, ev_and, ev_or, ep_cmp, ev_cmp2, ev_call, ev_sub, ev_list, ev_tup, es_nil, es_cons, and_one, and_cons, or_one, or_cons, eb_def, look_some, andV_t, andV_f, andV_d, orV_t, orV_f, orV_d, orV_n, bind_ok, bindS_ok, ofOpt_some, bin_add, bin_sub, bin_mul, bin_fdiv, bin_mod, bin_pow9, bin_pow6, cmp_lt, cmp_le, cmp_gt, cmp_ge, cmp_eq, cmp_ne, truth_bool, List.map_cons, List.map_nil, List.replicate, List.cons_append, List.nil_append, gt0, st0, gt1, st1, gt2, st2, gt3, st3, gt4, st4, gt5, st5, gt6, st6, gt7, st7, gt8, st8, gt9, st9, gt10, st10, gt11, st11, gt12, st12, gt13, st13, gt14, st14, gt15, st15, iszwhole, H.gisi, H.gint, H.gbool, isi_bi, isi_bb, isi_si, isi_ni, isi_ti]
theorem sp_mdO (H : Env01 P) {y m : V} {b1 b2 : Bool} (h1 : callN P (n + 2) false (.fn "is_whole") [y, .int 2000, .int 2273] σ = .ok (.bool b1) σ) (h2 : callN P (n + 2) false (.fn "is_whole") [m, .int 1, .int 12] σ = .ok (.bool b2) σ) (hb : (b1 && b2) = false) :
    callN P (n + 3) false (.fn "month_days") [y, m] σ = .exc "BadDay" σ := by
  rw [callN_fn H.fmd]
  refine rb_exc (ℓ' := [some y, some m, none, none, none, none, none]) rfl ?_
  cases b1
  · simp -implicitDefEqProofs [ex_nil, ex_cons, cont_next, cont_cont, cont_ret, ex_asg, ex_expr, ex_ret, ex_ite, ite_t, ite_f, ite_d, ex_pass, ex_cont, asg_name, ev_int, ev_boolc, ev_nonec, ev_var, ev_glob, ev_bin, ev_neg, ev_not, ev_and, ev_or, ep_cmp, ev_cmp2, ev_call, ev_sub, ev_list, ev_tup, es_nil, es_cons, and_one, and_cons, or_one, or_cons, eb_def, look_some, andV_t, andV_f, andV_d, orV_t, orV_f, orV_d, orV_n, bind_ok, bindS_ok, ofOpt_some, bin_add, bin_sub, bin_mul, bin_fdiv, bin_mod, bin_pow9, bin_pow6, cmp_lt, cmp_le, cmp_gt, cmp_ge, cmp_eq, cmp_ne, truth_bool, List.map_cons, List.map_nil, List.replicate, List.cons_append, List.nil_append, gt0, st0, gt1, st1, gt2, st2, gt3, st3, gt4, st4, gt5, st5, gt6, st6, gt7, st7, gt8, st8, gt9, st9, gt10, st10, gt11, st11, gt12, st12, gt13, st13, gt14, st14, gt15, st15, monthzdays, H.gisw, H.gfirst, H.glast, h1, h2, ex_raise H.exc, cont_exc]
  · cases b2
    · simp -implicitDefEqProofs [ex_nil, ex_cons, cont_next, cont_cont, cont_ret, ex_asg, ex_expr, ex_ret, ex_ite, ite_t, ite_f, ite_d, ex_pass, ex_cont, asg_name, ev_int, ev_boolc, ev_nonec, ev_var, ev_glob, ev_bin, ev_neg, ev_not, ev_and, ev_or, ep_cmp, ev_cmp2, ev_call, ev_sub, ev_list, ev_tup, es_nil, es_cons, and_one, and_cons, or_one, or_cons, eb_def, look_some, andV_t, andV_f, andV_d, orV_t, orV_f, orV_d, orV_n, bind_ok, bindS_ok, ofOpt_some, bin_add, bin_sub, bin_mul, bin_fdiv, bin_mod, bin_pow9, bin_pow6, cmp_lt, cmp_le, cmp_gt, cmp_ge, cmp_eq, cmp_ne, truth_bool, List.map_cons, List.map_nil, List.replicate, List.cons_append, List.nil_append, gt0, st0, gt1, st1, gt2, st2, gt3, st3, gt4, st4, gt5, st5, gt6, st6, gt7, st7, gt8, st8, gt9, st9, gt10, st10, gt11, st11, gt12, st12, gt13, st13, gt14, st14, gt15, st15, monthzdays, H.gisw, H.gfirst, H.glast, h1, h2, ex_raise H.exc, cont_exc]
    · cases hb
theorem sp_mdI (H : Env01 P) {y m : Int} {k : Nat} (hm : m = k + 1) (h1 : 2000 ≤ y) (h2 : y ≤ 2273) (hk : k < 12) : callN P (n + 3) hd (.fn "month_days") [.int y, .int m] σ = .ok (.int (mlen y (k + 1))) σ := by
  rw [callN_fn H.fmd]
  refine rb_ret rfl ?_
  have s : subV P (.tup (lenT.map .int)) (.int (m - 1)) σ = some (.int (lenT.getD k 0)) := by
    have := idx_ints (l := lenT) (i := m - 1) (by omega) (by simp [lenT]; omega) (by omega)
    rw [show (m - 1).toNat = k by omega] at this
    exact this
  have w1 : callN P (n + 2) hd (.fn "is_whole") [.int y, .int 2000, .int 2273] σ = .ok (.bool true) σ := by rw [sp_isI H]; simp [okV, h1, h2]
  have w2 : callN P (n + 2) hd (.fn "is_whole") [.int m, .int 1, .int 12] σ = .ok (.bool true) σ := by rw [sp_isI H]; simp [okV, show (1 : Int) ≤ m by omega, show m ≤ 12 by omega]
  have hl := leap_iff y
  by_cases c1 : m = 2
  · have k1 : k = 1 := by omega
    subst k1
    by_cases c2 : y % 4 = 0
    · by_cases c3 : y % 100 = 0
      · by_cases c4 : y % 400 = 0
        · have : mlen y 2 = 29 := by show 28 + leap y = 29; have := hl.mpr ⟨c2, .inr c4⟩; omega
          simp -implicitDefEqProofs [ex_nil, ex_cons, cont_next, cont_cont, cont_ret, ex_asg, ex_expr, ex_ret, ex_ite, ite_t, ite_f, ite_d, ex_pass, ex_cont, asg_name, ev_int, ev_boolc, ev_nonec, ev_var, ev_glob, ev_bin, ev_neg, ev_not, ev_and, ev_or, ep_cmp, ev_cmp2, ev_call, ev_sub, ev_list, ev_tup, es_nil, es_cons, and_one, and_cons, or_one, or_cons, eb_def, look_some, andV_t, andV_f, andV_d, orV_t, orV_f, orV_d, orV_n, bind_ok, bindS_ok, ofOpt_some, bin_add, bin_sub, bin_mul, bin_fdiv, bin_mod, bin_pow9, bin_pow6, cmp_lt, cmp_le, cmp_gt, cmp_ge, cmp_eq, cmp_ne, truth_bool, List.map_cons, List.map_nil, List.replicate, List.cons_append, List.nil_append, gt0, st0, gt1, st1, gt2, st2, gt3, st3, gt4, st4, gt5, st5, gt6, st6, gt7, st7, gt8, st8, gt9, st9, gt10, st10, gt11, st11, gt12, st12, gt13, st13, gt14, st14, gt15, st15, monthzdays, H.gisw, H.gfirst, H.glast, w1, w2, eq_true c1, c2, c3, c4, this]
        · have q : ¬ leap y = 1 := fun q => by obtain ⟨_, z | z⟩ := hl.mp q <;> contradiction
          have e := lenT_at (y := y) (k := 1) (by omega) (fun z => q z.2)
          rw [e] at s
          simp -implicitDefEqProofs [ex_nil, ex_cons, cont_next, cont_cont, cont_ret, ex_asg, ex_expr, ex_ret, ex_ite, ite_t, ite_f, ite_d, ex_pass, ex_cont, asg_name, ev_int, ev_boolc, ev_nonec, ev_var, ev_glob, ev_bin, ev_neg, ev_not, ev_and, ev_or, ep_cmp, ev_cmp2, ev_call, ev_sub, ev_list, ev_tup, es_nil, es_cons, and_one, and_cons, or_one, or_cons, eb_def, look_some, andV_t, andV_f, andV_d, orV_t, orV_f, orV_d, orV_n, bind_ok, bindS_ok, ofOpt_some, bin_add, bin_sub, bin_mul, bin_fdiv, bin_mod, bin_pow9, bin_pow6, cmp_lt, cmp_le, cmp_gt, cmp_ge, cmp_eq, cmp_ne, truth_bool, List.map_cons, List.map_nil, List.replicate, List.cons_append, List.nil_append, gt0, st0, gt1, st1, gt2, st2, gt3, st3, gt4, st4, gt5, st5, gt6, st6, gt7, st7, gt8, st8, gt9, st9, gt10, st10, gt11, st11, gt12, st12, gt13, st13, gt14, st14, gt15, st15, monthzdays, H.gisw, H.gfirst, H.glast, w1, w2, eq_true c1, c2, c3, c4, H.glens, s]
      · have : mlen y 2 = 29 := by show 28 + leap y = 29; have := hl.mpr ⟨c2, .inl c3⟩; omega
        simp -implicitDefEqProofs [ex_nil, ex_cons, cont_next, cont_cont, cont_ret, ex_asg, ex_expr, ex_ret, ex_ite, ite_t, ite_f, ite_d, ex_pass, ex_cont, asg_name, ev_int, ev_boolc, ev_nonec, ev_var, ev_glob, ev_bin, ev_neg, ev_not, ev_and, ev_or, ep_cmp, ev_cmp2, ev_call, ev_sub, ev_list, ev_tup, es_nil, es_cons, and_one, and_cons, or_one, or_cons, eb_def, look_some, andV_t, andV_f, andV_d, orV_t, orV_f, orV_d, orV_n, bind_ok, bindS_ok, ofOpt_some, bin_add, bin_sub, bin_mul, bin_fdiv, bin_mod, bin_pow9, bin_pow6, cmp_lt, cmp_le, cmp_gt, cmp_ge, cmp_eq, cmp_ne, truth_bool, List.map_cons, List.map_nil, List.replicate, List.cons_append, List.nil_append, gt0, st0, gt1, st1, gt2, st2, gt3, st3, gt4, st4, gt5, st5, gt6, st6, gt7, st7, gt8, st8, gt9, st9, gt10, st10, gt11, st11, gt12, st12, gt13, st13, gt14, st14, gt15, st15, monthzdays, H.gisw, H.gfirst, H.glast, w1, w2, eq_true c1, c2, c3, this]
    · have q : ¬ leap y = 1 := fun q => c2 (hl.mp q).1
      have e := lenT_at (y := y) (k := 1) (by omega) (fun z => q z.2)
      rw [e] at s
      simp -implicitDefEqProofs [ex_nil, ex_cons, cont_next, cont_cont, cont_ret, ex_asg, ex_expr, ex_ret, ex_ite, ite_t, ite_f, ite_d, ex_pass, ex_cont, asg_name, ev_int, ev_boolc, ev_nonec, ev_var, ev_glob, ev_bin, ev_neg, ev_not, ev_and, ev_or, ep_cmp, ev_cmp2, ev_call, ev_sub, ev_list, ev_tup, es_nil, es_cons, and_one, and_cons, or_one, or_cons, eb_def, look_some, andV_t, andV_f, andV_d, orV_t, orV_f, orV_d, orV_n, bind_ok, bindS_ok, ofOpt_some, bin_add, bin_sub, bin_mul, bin_fdiv, bin_mod, bin_pow9, bin_pow6, cmp_lt, cmp_le, cmp_gt, cmp_ge, cmp_eq, cmp_ne, truth_bool, List.map_cons, List.map_nil, List.replicate, List.cons_append, List.nil_append, gt0, st0, gt1, st1, gt2, st2, gt3, st3, gt4, st4, gt5, st5, gt6, st6, gt7, st7, gt8, st8, gt9, st9, gt10, st10, gt11, st11, gt12, st12, gt13, st13, gt14, st14, gt15, st15, monthzdays, H.gisw, H.gfirst, H.glast, w1, w2, eq_true c1, c2, H.glens, s]
  · have e := lenT_at (y := y) (k := k) hk (fun z => c1 (by omega))
    rw [e] at s
    simp -implicitDefEqProofs [ex_nil, ex_cons, cont_next, cont_cont, cont_ret, ex_asg, ex_expr, ex_ret, ex_ite, ite_t, ite_f, ite_d, ex_pass, ex_cont, asg_name, ev_int, ev_boolc, ev_nonec, ev_var, ev_glob, ev_bin, ev_neg, ev_not, ev_and, ev_or, ep_cmp, ev_cmp2, ev_call, ev_sub, ev_list, ev_tup, es_nil, es_cons, and_one, and_cons, or_one, or_cons, eb_def, look_some, andV_t, andV_f, andV_d, orV_t, orV_f, orV_d, orV_n, bind_ok, bindS_ok, ofOpt_some, bin_add, bin_sub, bin_mul, bin_fdiv, bin_mod, bin_pow9, bin_pow6, cmp_lt, cmp_le, cmp_gt, cmp_ge, cmp_eq, cmp_ne, truth_bool, List.map_cons, List.map_nil, List.replicate, List.cons_append, List.nil_append, gt0, st0, gt1, st1, gt2, st2, gt3, st3, gt4, st4, gt5, st5, gt6, st6, gt7, st7, gt8, st8, gt9, st9, gt10, st10, gt11, st11, gt12, st12, gt13, st13, gt14, st14, gt15, st15, monthzdays, H.gisw, H.gfirst, H.glast, w1, w2, c1, H.glens, s]
theorem notin_f {l : Nat} (h : σ[l]? = some (.list [.bool false, .bool false, .bool false, .bool false, .bool false, .bool false])) : cmpV P .notin (.bool true) (.loc l) σ = some true := by
  simp [cmpV, inB, h, boolsOf]
theorem sp_ref (H : Env01 P) {y m : V} (hmd : callN P (n + 3) false (.fn "month_days") [y, m] σ = .exc "BadDay" σ) : ∃ σ', callN P (n + 4) false (.fn "_law_refused") [y, m] σ = .ok (.bool true) σ' := by
  rw [callN_fn H.frefused]
  have hb : exSs P (callN P (n + 3)) [.expr (.call (.glob "month_days") [(.var 0), (.var 1)])] false [some y, some m, none, none, none, none, none, none, none, none, none, none, none, none, none] σ = .exc "BadDay" [some y, some m, none, none, none, none, none, none, none, none, none, none, none, none, none] σ := by
    simp -implicitDefEqProofs [ex_nil, ex_cons, cont_next, cont_cont, cont_ret, ex_asg, ex_expr, ex_ret, ex_ite, ite_t, ite_f, ite_d, ex_pass, ex_cont, asg_name, ev_int, ev_boolc, ev_nonec, ev_var, ev_glob, ev_bin, ev_neg, ev_not, ev_and, ev_or, ep_cmp, ev_cmp2, ev_call, ev_sub, ev_list, ev_tup, es_nil, es_cons, and_one, and_cons, or_one, or_cons, eb_def, look_some, andV_t, andV_f, andV_d, orV_t, orV_f, orV_d, orV_n, bind_ok, bindS_ok, ofOpt_some, bin_add, bin_sub, bin_mul, bin_fdiv, bin_mod, bin_pow9, bin_pow6, cmp_lt, cmp_le, cmp_gt, cmp_ge, cmp_eq, cmp_ne, truth_bool, List.map_cons, List.map_nil, List.replicate, List.cons_append, List.nil_append, gt0, st0, gt1, st1, gt2, st2, gt3, st3, gt4, st4, gt5, st5, gt6, st6, gt7, st7, gt8, st8, gt9, st9, gt10, st10, gt11, st11, gt12, st12, gt13, st13, gt14, st14, gt15, st15, H.gmd, hmd, bindS_exc, cont_exc]
  obtain ⟨σ1, hσ1⟩ : ∃ σ1, σ1 = σ ++ [Cell.list [.bool false, .bool false, .bool false, .bool false]] := ⟨_, rfl⟩
  obtain ⟨σ2, hσ2⟩ : ∃ σ2, σ2 = σ1 ++ [Cell.list [.bool false, .bool false]] := ⟨_, rfl⟩
  obtain ⟨σ3, hσ3⟩ : ∃ σ3, σ3 = σ2 ++ [Cell.list [.bool false, .bool false, .bool false, .bool false, .bool false, .bool false]] := ⟨_, rfl⟩
  have g1 : σ2[σ.length]? = some (.list [.bool false, .bool false, .bool false, .bool false]) := by rw [hσ2, hσ1]; simp
  have g2 : σ2[σ1.length]? = some (.list [.bool false, .bool false]) := by rw [hσ2]; simp
  have hadd : binV .add (.loc σ.length) (.loc σ1.length) σ2 = .ok (.loc σ2.length) σ3 := by
    simp [binV, intP, binL, g1, g2, szL, hσ3]
  have g3 : σ3[σ2.length]? = some (.list [.bool false, .bool false, .bool false, .bool false, .bool false, .bool false]) := by rw [hσ3]; simp
  have l1 : ∀ l : List V, l = [.bool false, .bool false, .bool false, .bool false] → σ ++ [Cell.list l] = σ1 := fun l e => by rw [e, hσ1]
  refine ⟨σ3, rb_ret rfl ?_⟩
  have hh : exSs P (callN P (n + 3)) [.asg (.name 3) (.list [(.call (.glob "isinstance") [(.var 2), (.glob "BadAmount")]), (.call (.glob "isinstance") [(.var 2), (.glob "BadFlat")]), (.call (.glob "isinstance") [(.var 2), (.glob "Done")]), (.call (.glob "isinstance") [(.var 2), (.glob "Full")])]), .asg (.name 3) (.bin .add (.var 3) (.list [(.call (.glob "isinstance") [(.var 2), (.glob "NoLease")]), (.call (.glob "isinstance") [(.var 2), (.glob "Taken")])])), .ret (.and [(.call (.glob "isinstance") [(.var 2), (.glob "BadDay")]), (.call (.glob "isinstance") [(.var 2), (.glob "ValueError")]), (.cmp .notin (.bool true) (.var 3))])] true
      [some y, some m, some (.exc "BadDay"), none, none, none, none, none, none, none, none, none, none, none, none] σ = .ret (.bool true) σ3 := by
    simp -implicitDefEqProofs [ex_nil, ex_cons, cont_next, cont_cont, cont_ret, ex_asg, ex_expr, ex_ret, ex_ite, ite_t, ite_f, ite_d, ex_pass, ex_cont, asg_name, ev_int, ev_boolc, ev_nonec, ev_var, ev_glob, ev_bin, ev_neg, ev_not, ev_and, ev_or, ep_cmp, ev_cmp2, ev_call, ev_sub, ev_list, ev_tup, es_nil, es_cons, and_one, and_cons, or_one, or_cons, eb_def, look_some, andV_t, andV_f, andV_d, orV_t, orV_f, orV_d, orV_n, bind_ok, bindS_ok, ofOpt_some, bin_add, bin_sub, bin_mul, bin_fdiv, bin_mod, bin_pow9, bin_pow6, cmp_lt, cmp_le, cmp_gt, cmp_ge, cmp_eq, cmp_ne, truth_bool, List.map_cons, List.map_nil, List.replicate, List.cons_append, List.nil_append, gt0, st0, gt1, st1, gt2, st2, gt3, st3, gt4, st4, gt5, st5, gt6, st6, gt7, st7, gt8, st8, gt9, st9, gt10, st10, gt11, st11, gt12, st12, gt13, st13, gt14, st14, gt15, st15, H.gisi, H.gA, H.gF, H.gD, H.gU, H.gN, H.gT, H.gB, H.gve, isi_ec H.iA, isi_ec H.iF, isi_ec H.iD, isi_ec H.iU, isi_ec H.iN, isi_ec H.iT, isi_ec H.iB, isi_et H.iV, ← hσ1, ← hσ2, hadd, notin_f g3]
  have ht := ex_try (x := 2) hb H.cat hh
  simp -implicitDefEqProofs [ex_nil, ex_cons, cont_next, cont_cont, cont_ret, ex_asg, ex_expr, ex_ret, ex_ite, ite_t, ite_f, ite_d, ex_pass, ex_cont, asg_name, ev_int, ev_boolc, ev_nonec, ev_var, ev_glob, ev_bin, ev_neg, ev_not, ev_and, ev_or, ep_cmp, ev_cmp2, ev_call, ev_sub, ev_list, ev_tup, es_nil, es_cons, and_one, and_cons, or_one, or_cons, eb_def, look_some, andV_t, andV_f, andV_d, orV_t, orV_f, orV_d, orV_n, bind_ok, bindS_ok, ofOpt_some, bin_add, bin_sub, bin_mul, bin_fdiv, bin_mod, bin_pow9, bin_pow6, cmp_lt, cmp_le, cmp_gt, cmp_ge, cmp_eq, cmp_ne, truth_bool, List.map_cons, List.map_nil, List.replicate, List.cons_append, List.nil_append, gt0, st0, gt1, st1, gt2, st2, gt3, st3, gt4, st4, gt5, st5, gt6, st6, gt7, st7, gt8, st8, gt9, st9, gt10, st10, gt11, st11, gt12, st12, gt13, st13, gt14, st14, gt15, st15, zlawzrefused, ht]
/-- the law's own months -/
theorem sp_length (hf : P.fn "_law_length" = some zlawzlength) {y m : Int} {k : Nat} (hm : m = k + 1) (hk : k < 12) : callN P (n + 1) hd (.fn "_law_length") [.int y, .int m] σ = .ok (.int (mlen y (k + 1))) (σ ++ [.list (lenT.map .int)]) := by
  rw [callN_fn hf]
  refine rb_ret rfl ?_
  have s := sub_list (P := P) (i := m - 1) (app_get σ (.list (lenT.map .int)))
  rw [idx_ints (l := lenT) (i := m - 1) (by omega) (by simp [lenT]; omega) (by omega), show (m - 1).toNat = k by omega] at s
  have nn : lenT.map V.int = [.int 31, .int 28, .int 31, .int 30, .int 31, .int 30, .int 31, .int 31, .int 30, .int 31, .int 30, .int 31] := rfl
  have hl := leap_iff y
  by_cases c1 : m = 2
  · have k1 : k = 1 := by omega
    subst k1
    by_cases c2 : y % 4 = 0
    · by_cases c3 : y % 100 = 0
      · by_cases c4 : y % 400 = 0
        · have : mlen y 2 = 29 := by show 28 + leap y = 29; have := hl.mpr ⟨c2, .inr c4⟩; omega
          rw [nn] at s ⊢
          simp -implicitDefEqProofs [ex_nil, ex_cons, cont_next, cont_cont, cont_ret, ex_asg, ex_expr, ex_ret, ex_ite, ite_t, ite_f, ite_d, ex_pass, ex_cont, asg_name, ev_int, ev_boolc, ev_nonec, ev_var, ev_glob, ev_bin, ev_neg, ev_not, ev_and, ev_or, ep_cmp, ev_cmp2, ev_call, ev_sub, ev_list, ev_tup, es_nil, es_cons, and_one, and_cons, or_one, or_cons, eb_def, look_some, andV_t, andV_f, andV_d, orV_t, orV_f, orV_d, orV_n, bind_ok, bindS_ok, ofOpt_some, bin_add, bin_sub, bin_mul, bin_fdiv, bin_mod, bin_pow9, bin_pow6, cmp_lt, cmp_le, cmp_gt, cmp_ge, cmp_eq, cmp_ne, truth_bool, List.map_cons, List.map_nil, List.replicate, List.cons_append, List.nil_append, gt0, st0, gt1, st1, gt2, st2, gt3, st3, gt4, st4, gt5, st5, gt6, st6, gt7, st7, gt8, st8, gt9, st9, gt10, st10, gt11, st11, gt12, st12, gt13, st13, gt14, st14, gt15, st15, zlawzlength, eq_true c1, c2, c3, c4, this, s]
        · have q : ¬ leap y = 1 := fun q => by obtain ⟨_, z | z⟩ := hl.mp q <;> contradiction
          have e := lenT_at (y := y) (k := 1) (by omega) (fun z => q z.2)
          rw [e] at s
          rw [nn] at s ⊢
          simp -implicitDefEqProofs [ex_nil, ex_cons, cont_next, cont_cont, cont_ret, ex_asg, ex_expr, ex_ret, ex_ite, ite_t, ite_f, ite_d, ex_pass, ex_cont, asg_name, ev_int, ev_boolc, ev_nonec, ev_var, ev_glob, ev_bin, ev_neg, ev_not, ev_and, ev_or, ep_cmp, ev_cmp2, ev_call, ev_sub, ev_list, ev_tup, es_nil, es_cons, and_one, and_cons, or_one, or_cons, eb_def, look_some, andV_t, andV_f, andV_d, orV_t, orV_f, orV_d, orV_n, bind_ok, bindS_ok, ofOpt_some, bin_add, bin_sub, bin_mul, bin_fdiv, bin_mod, bin_pow9, bin_pow6, cmp_lt, cmp_le, cmp_gt, cmp_ge, cmp_eq, cmp_ne, truth_bool, List.map_cons, List.map_nil, List.replicate, List.cons_append, List.nil_append, gt0, st0, gt1, st1, gt2, st2, gt3, st3, gt4, st4, gt5, st5, gt6, st6, gt7, st7, gt8, st8, gt9, st9, gt10, st10, gt11, st11, gt12, st12, gt13, st13, gt14, st14, gt15, st15, zlawzlength, eq_true c1, c2, c3, c4, s]
      · have : mlen y 2 = 29 := by show 28 + leap y = 29; have := hl.mpr ⟨c2, .inl c3⟩; omega
        have c5 : 0 < y % 100 := by omega
        rw [nn] at s ⊢
        simp -implicitDefEqProofs [ex_nil, ex_cons, cont_next, cont_cont, cont_ret, ex_asg, ex_expr, ex_ret, ex_ite, ite_t, ite_f, ite_d, ex_pass, ex_cont, asg_name, ev_int, ev_boolc, ev_nonec, ev_var, ev_glob, ev_bin, ev_neg, ev_not, ev_and, ev_or, ep_cmp, ev_cmp2, ev_call, ev_sub, ev_list, ev_tup, es_nil, es_cons, and_one, and_cons, or_one, or_cons, eb_def, look_some, andV_t, andV_f, andV_d, orV_t, orV_f, orV_d, orV_n, bind_ok, bindS_ok, ofOpt_some, bin_add, bin_sub, bin_mul, bin_fdiv, bin_mod, bin_pow9, bin_pow6, cmp_lt, cmp_le, cmp_gt, cmp_ge, cmp_eq, cmp_ne, truth_bool, List.map_cons, List.map_nil, List.replicate, List.cons_append, List.nil_append, gt0, st0, gt1, st1, gt2, st2, gt3, st3, gt4, st4, gt5, st5, gt6, st6, gt7, st7, gt8, st8, gt9, st9, gt10, st10, gt11, st11, gt12, st12, gt13, st13, gt14, st14, gt15, st15, zlawzlength, eq_true c1, c2, c5, this, s]
    · have q : ¬ leap y = 1 := fun q => c2 (hl.mp q).1
      have e := lenT_at (y := y) (k := 1) (by omega) (fun z => q z.2)
      rw [e] at s
      rw [nn] at s ⊢
      simp -implicitDefEqProofs [ex_nil, ex_cons, cont_next, cont_cont, cont_ret, ex_asg, ex_expr, ex_ret, ex_ite, ite_t, ite_f, ite_d, ex_pass, ex_cont, asg_name, ev_int, ev_boolc, ev_nonec, ev_var, ev_glob, ev_bin, ev_neg, ev_not, ev_and, ev_or, ep_cmp, ev_cmp2, ev_call, ev_sub, ev_list, ev_tup, es_nil, es_cons, and_one, and_cons, or_one, or_cons, eb_def, look_some, andV_t, andV_f, andV_d, orV_t, orV_f, orV_d, orV_n, bind_ok, bindS_ok, ofOpt_some, bin_add, bin_sub, bin_mul, bin_fdiv, bin_mod, bin_pow9, bin_pow6, cmp_lt, cmp_le, cmp_gt, cmp_ge, cmp_eq, cmp_ne, truth_bool, List.map_cons, List.map_nil, List.replicate, List.cons_append, List.nil_append, gt0, st0, gt1, st1, gt2, st2, gt3, st3, gt4, st4, gt5, st5, gt6, st6, gt7, st7, gt8, st8, gt9, st9, gt10, st10, gt11, st11, gt12, st12, gt13, st13, gt14, st14, gt15, st15, zlawzlength, eq_true c1, c2, s]
  · have e := lenT_at (y := y) (k := k) hk (fun z => c1 (by omega))
    rw [e] at s
    rw [nn] at s ⊢
    by_cases c2 : y % 4 = 0
    · by_cases c5 : 0 < y % 100 <;> simp -implicitDefEqProofs [ex_nil, ex_cons, cont_next, cont_cont, cont_ret, ex_asg, ex_expr, ex_ret, ex_ite, ite_t, ite_f, ite_d, ex_pass, ex_cont, asg_name, ev_int, ev_boolc, ev_nonec, ev_var, ev_glob, ev_bin, ev_neg, ev_not, ev_and, ev_or, ep_cmp, ev_cmp2, ev_call, ev_sub, ev_list, ev_tup, es_nil, es_cons, and_one, and_cons, or_one, or_cons, eb_def, look_some, andV_t, andV_f, andV_d, orV_t, orV_f, orV_d, orV_n, bind_ok, bindS_ok, ofOpt_some, bin_add, bin_sub, bin_mul, bin_fdiv, bin_mod, bin_pow9, bin_pow6, cmp_lt, cmp_le, cmp_gt, cmp_ge, cmp_eq, cmp_ne, truth_bool, List.map_cons, List.map_nil, List.replicate, List.cons_append, List.nil_append, gt0, st0, gt1, st1, gt2, st2, gt3, st3, gt4, st4, gt5, st5, gt6, st6, gt7, st7, gt8, st8, gt9, st9, gt10, st10, gt11, st11, gt12, st12, gt13, st13, gt14, st14, gt15, st15, zlawzlength, c1, c2, c5, s]
    · simp -implicitDefEqProofs [ex_nil, ex_cons, cont_next, cont_cont, cont_ret, ex_asg, ex_expr, ex_ret, ex_ite, ite_t, ite_f, ite_d, ex_pass, ex_cont, asg_name, ev_int, ev_boolc, ev_nonec, ev_var, ev_glob, ev_bin, ev_neg, ev_not, ev_and, ev_or, ep_cmp, ev_cmp2, ev_call, ev_sub, ev_list, ev_tup, es_nil, es_cons, and_one, and_cons, or_one, or_cons, eb_def, look_some, andV_t, andV_f, andV_d, orV_t, orV_f, orV_d, orV_n, bind_ok, bindS_ok, ofOpt_some, bin_add, bin_sub, bin_mul, bin_fdiv, bin_mod, bin_pow9, bin_pow6, cmp_lt, cmp_le, cmp_gt, cmp_ge, cmp_eq, cmp_ne, truth_bool, List.map_cons, List.map_nil, List.replicate, List.cons_append, List.nil_append, gt0, st0, gt1, st1, gt2, st2, gt3, st3, gt4, st4, gt5, st5, gt6, st6, gt7, st7, gt8, st8, gt9, st9, gt10, st10, gt11, st11, gt12, st12, gt13, st13, gt14, st14, gt15, st15, zlawzlength, c1, c2, s]

theorem odd_at (j : Nat) (hj : j < 4) : ∃ v, Odd v ∧ ([V.bool true, V.str [50], V.none, V.tup [V.int 2]])[j]? = some v := by
  match j, hj with
  | 0, _ => exact ⟨_, .bool true, rfl⟩
  | 1, _ => exact ⟨_, .str [50], rfl⟩
  | 2, _ => exact ⟨_, .none, rfl⟩
  | 3, _ => exact ⟨_, .tup _, rfl⟩
theorem law_tail (H : Env01 P) (y m c : Int) : ∃ σ', exSs P (callN P (n + 4)) (law.body.drop 4) false [some .script, some (.int y), some (.int m), some (.int c), none, none, none, none, none, none, none] σ = .ret (.bool true) σ' := by
  obtain ⟨σ1, e1⟩ := sp_ref (σ := σ) (n := n) H (y := .int (2000 + y % 274)) (m := .bool true) (sp_mdO H (sp_isI H) (sp_isO H (.bool true)) (by simp))
  by_cases c1 : c % 6 = 1
  · obtain ⟨v, ov, hv⟩ := odd_at (c / 6 % 4).toNat (by omega)
    obtain ⟨σ2, hσ2⟩ : ∃ σ2, σ2 = σ1 ++ [Cell.list [V.bool true, V.str [50], V.none, V.tup [V.int 2]]] := ⟨_, rfl⟩
    have g2 : σ2[σ1.length]? = some (.list [V.bool true, V.str [50], V.none, V.tup [V.int 2]]) := by rw [hσ2]; simp
    have s2 : subV P (.loc σ1.length) (.int (c / 6 % 4)) σ2 = some v := by rw [sub_list g2, idx_toNat (by omega) (by omega)]; exact hv
    by_cases c2 : c / 24 % 2 = 0
    · obtain ⟨σ3, e3⟩ := sp_ref (σ := σ2) (n := n) H (y := v) (m := .int (1 + m % 12)) (sp_mdO H (sp_isO H ov) (sp_isI H) (by simp))
      refine ⟨σ3, ?_⟩
      simp -implicitDefEqProofs [ex_nil, ex_cons, cont_next, cont_cont, cont_ret, ex_asg, ex_expr, ex_ret, ex_ite, ite_t, ite_f, ite_d, ex_pass, ex_cont, asg_name, ev_int, ev_boolc, ev_nonec, ev_var, ev_glob, ev_bin, ev_neg, ev_not, ev_and, ev_or, ep_cmp, ev_cmp2, ev_call, ev_sub, ev_list, ev_tup, es_nil, es_cons, and_one, and_cons, or_one, or_cons, eb_def, look_some, andV_t, andV_f, andV_d, orV_t, orV_f, orV_d, orV_n, bind_ok, bindS_ok, ofOpt_some, bin_add, bin_sub, bin_mul, bin_fdiv, bin_mod, bin_pow9, bin_pow6, cmp_lt, cmp_le, cmp_gt, cmp_ge, cmp_eq, cmp_ne, truth_bool, List.map_cons, List.map_nil, List.replicate, List.cons_append, List.nil_append, gt0, st0, gt1, st1, gt2, st2, gt3, st3, gt4, st4, gt5, st5, gt6, st6, gt7, st7, gt8, st8, gt9, st9, gt10, st10, gt11, st11, gt12, st12, gt13, st13, gt14, st14, gt15, st15, law, ev_str, H.grefused, e1, c1, ← hσ2, s2, c2, e3]
    · obtain ⟨σ3, e3⟩ := sp_ref (σ := σ2) (n := n) H (y := .int (2000 + y % 274)) (m := v) (sp_mdO H (sp_isI H) (sp_isO H ov) (by simp))
      refine ⟨σ3, ?_⟩
      simp -implicitDefEqProofs [ex_nil, ex_cons, cont_next, cont_cont, cont_ret, ex_asg, ex_expr, ex_ret, ex_ite, ite_t, ite_f, ite_d, ex_pass, ex_cont, asg_name, ev_int, ev_boolc, ev_nonec, ev_var, ev_glob, ev_bin, ev_neg, ev_not, ev_and, ev_or, ep_cmp, ev_cmp2, ev_call, ev_sub, ev_list, ev_tup, es_nil, es_cons, and_one, and_cons, or_one, or_cons, eb_def, look_some, andV_t, andV_f, andV_d, orV_t, orV_f, orV_d, orV_n, bind_ok, bindS_ok, ofOpt_some, bin_add, bin_sub, bin_mul, bin_fdiv, bin_mod, bin_pow9, bin_pow6, cmp_lt, cmp_le, cmp_gt, cmp_ge, cmp_eq, cmp_ne, truth_bool, List.map_cons, List.map_nil, List.replicate, List.cons_append, List.nil_append, gt0, st0, gt1, st1, gt2, st2, gt3, st3, gt4, st4, gt5, st5, gt6, st6, gt7, st7, gt8, st8, gt9, st9, gt10, st10, gt11, st11, gt12, st12, gt13, st13, gt14, st14, gt15, st15, law, ev_str, H.grefused, e1, c1, ← hσ2, s2, c2, e3]
  · by_cases c3 : 2000 ≤ y ∧ y ≤ 2273 ∧ 1 ≤ m ∧ m ≤ 12
    · obtain ⟨h1, h2, h3, h4⟩ := c3
      have hm : m = ((m - 1).toNat : Nat) + 1 := by omega
      have e2 := sp_mdI (P := P) (n := n + 1) (hd := false) (σ := σ1) H hm h1 h2 (by omega)
      have e3 := sp_length (P := P) (n := n + 3) (hd := false) (σ := σ1) H.flength (y := y) hm (by omega)
      refine ⟨σ1 ++ [.list (lenT.map .int)], ?_⟩
      simp -implicitDefEqProofs [ex_nil, ex_cons, cont_next, cont_cont, cont_ret, ex_asg, ex_expr, ex_ret, ex_ite, ite_t, ite_f, ite_d, ex_pass, ex_cont, asg_name, ev_int, ev_boolc, ev_nonec, ev_var, ev_glob, ev_bin, ev_neg, ev_not, ev_and, ev_or, ep_cmp, ev_cmp2, ev_call, ev_sub, ev_list, ev_tup, es_nil, es_cons, and_one, and_cons, or_one, or_cons, eb_def, look_some, andV_t, andV_f, andV_d, orV_t, orV_f, orV_d, orV_n, bind_ok, bindS_ok, ofOpt_some, bin_add, bin_sub, bin_mul, bin_fdiv, bin_mod, bin_pow9, bin_pow6, cmp_lt, cmp_le, cmp_gt, cmp_ge, cmp_eq, cmp_ne, truth_bool, List.map_cons, List.map_nil, List.replicate, List.cons_append, List.nil_append, gt0, st0, gt1, st1, gt2, st2, gt3, st3, gt4, st4, gt5, st5, gt6, st6, gt7, st7, gt8, st8, gt9, st9, gt10, st10, gt11, st11, gt12, st12, gt13, st13, gt14, st14, gt15, st15, law, H.grefused, e1, c1, show ¬ y < 2000 by omega, show ¬ 2273 < y by omega, show ¬ m < 1 by omega, show ¬ 12 < m by omega, H.gmd, e2, H.gwhole, sp_whole H.fwhole H.gisi H.gint H.gbool, H.glength, e3]
    · obtain ⟨σ3, e3⟩ := sp_ref (σ := σ1) (n := n) H (y := .int y) (m := .int m) (sp_mdO H (sp_isI H) (sp_isI H) (by simp only [okV]; by_cases a1 : 2000 ≤ y <;> by_cases a2 : y ≤ 2273 <;> by_cases a3 : 1 ≤ m <;> by_cases a4 : m ≤ 12 <;> simp [a1, a2, a3, a4] <;> exact c3 ⟨a1, a2, a3, a4⟩))
      refine ⟨σ3, ?_⟩
      by_cases a1 : y < 2000
      · simp -implicitDefEqProofs [ex_nil, ex_cons, cont_next, cont_cont, cont_ret, ex_asg, ex_expr, ex_ret, ex_ite, ite_t, ite_f, ite_d, ex_pass, ex_cont, asg_name, ev_int, ev_boolc, ev_nonec, ev_var, ev_glob, ev_bin, ev_neg, ev_not, ev_and, ev_or, ep_cmp, ev_cmp2, ev_call, ev_sub, ev_list, ev_tup, es_nil, es_cons, and_one, and_cons, or_one, or_cons, eb_def, look_some, andV_t, andV_f, andV_d, orV_t, orV_f, orV_d, orV_n, bind_ok, bindS_ok, ofOpt_some, bin_add, bin_sub, bin_mul, bin_fdiv, bin_mod, bin_pow9, bin_pow6, cmp_lt, cmp_le, cmp_gt, cmp_ge, cmp_eq, cmp_ne, truth_bool, List.map_cons, List.map_nil, List.replicate, List.cons_append, List.nil_append, gt0, st0, gt1, st1, gt2, st2, gt3, st3, gt4, st4, gt5, st5, gt6, st6, gt7, st7, gt8, st8, gt9, st9, gt10, st10, gt11, st11, gt12, st12, gt13, st13, gt14, st14, gt15, st15, law, H.grefused, e1, c1, a1, e3]
      · by_cases a2 : 2273 < y
        · simp -implicitDefEqProofs [ex_nil, ex_cons, cont_next, cont_cont, cont_ret, ex_asg, ex_expr, ex_ret, ex_ite, ite_t, ite_f, ite_d, ex_pass, ex_cont, asg_name, ev_int, ev_boolc, ev_nonec, ev_var, ev_glob, ev_bin, ev_neg, ev_not, ev_and, ev_or, ep_cmp, ev_cmp2, ev_call, ev_sub, ev_list, ev_tup, es_nil, es_cons, and_one, and_cons, or_one, or_cons, eb_def, look_some, andV_t, andV_f, andV_d, orV_t, orV_f, orV_d, orV_n, bind_ok, bindS_ok, ofOpt_some, bin_add, bin_sub, bin_mul, bin_fdiv, bin_mod, bin_pow9, bin_pow6, cmp_lt, cmp_le, cmp_gt, cmp_ge, cmp_eq, cmp_ne, truth_bool, List.map_cons, List.map_nil, List.replicate, List.cons_append, List.nil_append, gt0, st0, gt1, st1, gt2, st2, gt3, st3, gt4, st4, gt5, st5, gt6, st6, gt7, st7, gt8, st8, gt9, st9, gt10, st10, gt11, st11, gt12, st12, gt13, st13, gt14, st14, gt15, st15, law, H.grefused, e1, c1, a1, a2, e3]
        · by_cases a3 : m < 1
          · simp -implicitDefEqProofs [ex_nil, ex_cons, cont_next, cont_cont, cont_ret, ex_asg, ex_expr, ex_ret, ex_ite, ite_t, ite_f, ite_d, ex_pass, ex_cont, asg_name, ev_int, ev_boolc, ev_nonec, ev_var, ev_glob, ev_bin, ev_neg, ev_not, ev_and, ev_or, ep_cmp, ev_cmp2, ev_call, ev_sub, ev_list, ev_tup, es_nil, es_cons, and_one, and_cons, or_one, or_cons, eb_def, look_some, andV_t, andV_f, andV_d, orV_t, orV_f, orV_d, orV_n, bind_ok, bindS_ok, ofOpt_some, bin_add, bin_sub, bin_mul, bin_fdiv, bin_mod, bin_pow9, bin_pow6, cmp_lt, cmp_le, cmp_gt, cmp_ge, cmp_eq, cmp_ne, truth_bool, List.map_cons, List.map_nil, List.replicate, List.cons_append, List.nil_append, gt0, st0, gt1, st1, gt2, st2, gt3, st3, gt4, st4, gt5, st5, gt6, st6, gt7, st7, gt8, st8, gt9, st9, gt10, st10, gt11, st11, gt12, st12, gt13, st13, gt14, st14, gt15, st15, law, H.grefused, e1, c1, a1, a2, a3, e3]
          · by_cases a4 : 12 < m
            · simp -implicitDefEqProofs [ex_nil, ex_cons, cont_next, cont_cont, cont_ret, ex_asg, ex_expr, ex_ret, ex_ite, ite_t, ite_f, ite_d, ex_pass, ex_cont, asg_name, ev_int, ev_boolc, ev_nonec, ev_var, ev_glob, ev_bin, ev_neg, ev_not, ev_and, ev_or, ep_cmp, ev_cmp2, ev_call, ev_sub, ev_list, ev_tup, es_nil, es_cons, and_one, and_cons, or_one, or_cons, eb_def, look_some, andV_t, andV_f, andV_d, orV_t, orV_f, orV_d, orV_n, bind_ok, bindS_ok, ofOpt_some, bin_add, bin_sub, bin_mul, bin_fdiv, bin_mod, bin_pow9, bin_pow6, cmp_lt, cmp_le, cmp_gt, cmp_ge, cmp_eq, cmp_ne, truth_bool, List.map_cons, List.map_nil, List.replicate, List.cons_append, List.nil_append, gt0, st0, gt1, st1, gt2, st2, gt3, st3, gt4, st4, gt5, st5, gt6, st6, gt7, st7, gt8, st8, gt9, st9, gt10, st10, gt11, st11, gt12, st12, gt13, st13, gt14, st14, gt15, st15, law, H.grefused, e1, c1, a1, a2, a3, a4, e3]
            · exact absurd ⟨by omega, by omega, by omega, by omega⟩ c3
theorem law_head (H : Env01 P) : ∃ y m σ2, exSs P (callN P (n + 4)) (law.body.take 4) false [some .script, none, none, none, none, none, none, none, none, none, none] σ = .next [some .script, some (.int y), some (.int m), some (.int (cell P 2)), none, none, none, none, none, none, none] σ2 := by
  have k0 : ∀ σ, callN P (n + 4) false (.fn "_law_cell_at") [.script, .int 0] σ = .ok (.int (cell P 0)) σ := fun σ => sp_cell H.fcell H.glen H.ns 0 (by decide)
  have k1 : ∀ σ, callN P (n + 4) false (.fn "_law_cell_at") [.script, .int 1] σ = .ok (.int (cell P 1)) σ := fun σ => sp_cell H.fcell H.glen H.ns 1 (by decide)
  have k2 : ∀ σ, callN P (n + 4) false (.fn "_law_cell_at") [.script, .int 2] σ = .ok (.int (cell P 2)) σ := fun σ => sp_cell H.fcell H.glen H.ns 2 (by decide)
  by_cases hc : 3 < cell P 2 % 6
  · obtain ⟨σa, hσa⟩ : ∃ σa, σa = σ ++ [Cell.list (List.map V.int [1999, 2000, 2100, 2200, 2273, 2274, 2004, 2096])] := ⟨_, rfl⟩
    obtain ⟨σb, hσb⟩ : ∃ σb, σb = σa ++ [Cell.list (List.map V.int [2, 2, 0, 13, 1, 12])] := ⟨_, rfl⟩
    have sa := sub_list (P := P) (i := cell P 2 / 6 % 8) (app_get σ (.list (List.map V.int [1999, 2000, 2100, 2200, 2273, 2274, 2004, 2096])))
    rw [idx_ints (by omega) (by simp; omega) (by omega), ← hσa] at sa
    have sb := sub_list (P := P) (i := cell P 2 / 48 % 6) (app_get σa (.list (List.map V.int [2, 2, 0, 13, 1, 12])))
    rw [idx_ints (by omega) (by simp; omega) (by omega), ← hσb] at sb
    simp only [List.map_cons, List.map_nil] at hσa hσb
    refine ⟨[1999, 2000, 2100, 2200, 2273, 2274, 2004, 2096].getD (cell P 2 / 6 % 8).toNat 0, [2, 2, 0, 13, 1, 12].getD (cell P 2 / 48 % 6).toNat 0, σb, ?_⟩
    generalize [1999, 2000, 2100, 2200, 2273, 2274, 2004, 2096].getD (cell P 2 / 6 % 8).toNat 0 = y at *
    generalize [2, 2, 0, 13, 1, 12].getD (cell P 2 / 48 % 6).toNat 0 = m at *
    simp -implicitDefEqProofs [ex_nil, ex_cons, cont_next, cont_cont, cont_ret, ex_asg, ex_expr, ex_ret, ex_ite, ite_t, ite_f, ite_d, ex_pass, ex_cont, asg_name, ev_int, ev_boolc, ev_nonec, ev_var, ev_glob, ev_bin, ev_neg, ev_not, ev_and, ev_or, ep_cmp, ev_cmp2, ev_call, ev_sub, ev_list, ev_tup, es_nil, es_cons, and_one, and_cons, or_one, or_cons, eb_def, look_some, andV_t, andV_f, andV_d, orV_t, orV_f, orV_d, orV_n, bind_ok, bindS_ok, ofOpt_some, bin_add, bin_sub, bin_mul, bin_fdiv, bin_mod, bin_pow9, bin_pow6, cmp_lt, cmp_le, cmp_gt, cmp_ge, cmp_eq, cmp_ne, truth_bool, List.map_cons, List.map_nil, List.replicate, List.cons_append, List.nil_append, gt0, st0, gt1, st1, gt2, st2, gt3, st3, gt4, st4, gt5, st5, gt6, st6, gt7, st7, gt8, st8, gt9, st9, gt10, st10, gt11, st11, gt12, st12, gt13, st13, gt14, st14, gt15, st15, law, H.gcell, k0, k1, k2, hc, sa, sb, ← hσa, ← hσb]
  · refine ⟨1996 + cell P 0 % 282, cell P 1 % 16 - 1, σ, ?_⟩
    simp -implicitDefEqProofs [ex_nil, ex_cons, cont_next, cont_cont, cont_ret, ex_asg, ex_expr, ex_ret, ex_ite, ite_t, ite_f, ite_d, ex_pass, ex_cont, asg_name, ev_int, ev_boolc, ev_nonec, ev_var, ev_glob, ev_bin, ev_neg, ev_not, ev_and, ev_or, ep_cmp, ev_cmp2, ev_call, ev_sub, ev_list, ev_tup, es_nil, es_cons, and_one, and_cons, or_one, or_cons, eb_def, look_some, andV_t, andV_f, andV_d, orV_t, orV_f, orV_d, orV_n, bind_ok, bindS_ok, ofOpt_some, bin_add, bin_sub, bin_mul, bin_fdiv, bin_mod, bin_pow9, bin_pow6, cmp_lt, cmp_le, cmp_gt, cmp_ge, cmp_eq, cmp_ne, truth_bool, List.map_cons, List.map_nil, List.replicate, List.cons_append, List.nil_append, gt0, st0, gt1, st1, gt2, st2, gt3, st3, gt4, st4, gt5, st5, gt6, st6, gt7, st7, gt8, st8, gt9, st9, gt10, st10, gt11, st11, gt12, st12, gt13, st13, gt14, st14, gt15, st15, law, H.gcell, k0, k1, k2, hc]
theorem law01 (H : Env01 P) : ∃ σ', callN P (n + 5) false (.fn "law") [.script] [] = .ok (.bool true) σ' := by
  rw [callN_fn H.flaw]
  obtain ⟨y, m, σ2, h⟩ := law_head (n := n) (σ := []) H
  obtain ⟨σ3, h3⟩ := law_tail (n := n) (σ := σ2) H y m (cell P 2)
  exact ⟨σ3, rb_ret rfl ((ex_split 4 h).trans h3)⟩
end
end Mine
end

section
open PySem PySem.W PyProof.Rows
open Mine
namespace Mine
noncomputable def tc01 : TabC := [("BadDay", "RentError", true), ("BadDay", "BadAmount", false), ("BadDay", "BadFlat", false), ("BadDay", "Done", false), ("BadDay", "Full", false), ("BadDay", "NoLease", false), ("BadDay", "Taken", false), ("BadDay", "BadDay", true)]
noncomputable def tt01 : TabT := [("BadDay", "ValueError", true)]
end Mine
set_option maxHeartbeats 8000000 in
theorem PySem.Challenge.cw_uf020030_01_holds : PySem.Challenge.rw_uf020030_01.Holds := by
  w_on
  o_law
  o_head (exHook tc01 tt01)
  case hw => w_witness2
  intro w s₀ s₁ mg mb G Y fa o pm cd doc dV kV ho hd hcd hD hmg hg args vals as hpre hlay hrd hwl hlo
  refine Ground.open G ?_
  intro T B D TE TW
  wrow_args hpre hlay hrd hwl hlo
  refine join (tc := tc01) (tt := tt01) Y T B rfl hg hmg (by assumption) (by assumption) (by kernel_rfl) (d := Mine.law) (by kernel_rfl) (n := 40) (by decide) (law01 (n := 36) ?_) (fun _ => rfl) (by wrow_post)
  constructor
  all_goals first | kernel_rfl | (simp only [Mine.progOf]; omega)
end
