import PyProof.Rows.All
import Wide.All
import OpenK.AllK
import Wide.FinOn
import Open.Row
import OpenK.KMake
import KE.KDictSum
import KE.KSortedM
import KE.KTryMore
import KE.KIsAll
import PySem.Challenge.RW_uf020030_02
set_option Elab.async false
set_option tactic.hygienic false
set_option bootstrap.genMatcherCode false
set_option compiler.extract_closed false
set_option maxRecDepth 100000
set_option linter.unusedSimpArgs false

section
set_option tactic.hygienic false
set_option bootstrap.genMatcherCode false
set_option maxRecDepth 100000
set_option linter.unusedSimpArgs false
namespace Mine
open PySem
set_option linter.unusedVariables false
set_option genSizeOf false

/-- a goal held as a variable while the facts are taken apart -/
theorem cps {P : Prop} (h : ∀ G : Prop, (P → G) → G) : P := h P id

/-- abstract values -/
inductive V where
  | none | bool (b : Bool) | int (i : Int) | str (s : List Nat)
  | tup (l : List V) | loc (n : Nat) | script
  | fn (f : Str) | cls (c : Str) | bi (b : String) | ty (t : String)
  deriving Inhabited

/-- abstract mutable cells -/
inductive Cell where
  | list (l : List V)
  deriving Inhabited
abbrev Store := List Cell
abbrev Loc := List (Option V)

inductive Out (α : Type) where
  | ok (a : α) (σ : Store) | exc (c : Str) (σ : Store) | bad
theorem no_bad {α : Type} {a : α} {σ : Store} {p : Prop} (h : (Out.bad : Out α) = .ok a σ) : p := by cases h
theorem no_exc {α : Type} {a : α} {c : Str} {σ σ' : Store} {p : Prop} (h : (Out.exc c σ : Out α) = .ok a σ') : p := by cases h
noncomputable def Out.bind {α β : Type} : Out α → (α → Store → Out β) → Out β
  | .ok a σ, k => k a σ
  | .exc c σ, _ => .exc c σ
  | .bad, _ => .bad
noncomputable def Out.ofOpt {α : Type} (σ : Store) : Option α → Out α
  | some a => .ok a σ
  | .none => .bad

inductive SOut where
  | next (ℓ : Loc) (σ : Store) | ret (v : V) (σ : Store) | exc (c : Str) (ℓ : Loc) (σ : Store) | bad
noncomputable def Out.bindS {α : Type} : Out α → Loc → (α → Store → SOut) → SOut
  | .ok a σ, _, k => k a σ
  | .exc c σ, ℓ, _ => .exc c ℓ σ
  | .bad, _, _ => .bad
noncomputable def SOut.seq : SOut → (Loc → Store → SOut) → SOut
  | .next ℓ σ, k => k ℓ σ
  | o, _ => o

inductive Bop where | add | sub | mul | fdiv | mod | pow
  deriving DecidableEq
inductive Cop where | lt | le | gt | ge | eq | ne | is | isnot | isin | notin
  deriving DecidableEq
inductive Tgt where | name (i : Nat)

set_option genInjectivity false
mutual
inductive E where
  | int (i : Int) | str (s : List Nat) | bool (b : Bool) | none
  | var (i : Nat) | glob (x : Str)
  | bin (o : Bop) (a b : E) | neg (a : E) | not (a : E)
  | and (l : List E) | or (l : List E)
  | cmp (o : Cop) (a b : E) | cmp2 (o p : Cop) (a b c : E)
  | call (f : E) (as : List E)
  | sub (o i : E)
  | list (es : List E) | tup (es : List E)
  | comp (elt : E) (t : Tgt) (it : It) (c : Option E) (fm : List (Option Nat))
inductive It where
  | of (e : E) | range2 (a b : E)
end

inductive AT where | name (i : Nat)

inductive S where
  | asg (t : AT) (e : E) | expr (e : E) | ret (e : E)
  | ite (c : E) (a b : List S) | loop (c : E) (b : List S)
  | raise (c : Str) (msg : List Nat) | try (b : List S) (d : Str) (h : List S)
set_option genInjectivity true

structure FnD where
  np : Nat
  nl : Nat
  body : List S
structure Prog where
  fn : Str → Option FnD
  glob : Str → Option V
  exc : Str → Bool
  isa : Str → Str → Option Bool
  ns : List Int

noncomputable def szL : Nat := 16777216

/-! ### primitive operations -/
noncomputable def mulOk (a b : Int) : Bool := decide (a.natAbs < 2 ^ 64) || decide (b.natAbs < 2 ^ 64)

noncomputable def intP : V → V → Option (Int × Int)
  | .int a, .int b => some (a, b)
  | _, _ => .none
noncomputable def binI (o : Bop) (a b : Int) (σ : Store) : Out V :=
  match o with
  | .add => .ok (.int (a + b)) σ
  | .sub => .ok (.int (a - b)) σ
  | .mul => if mulOk a b then .ok (.int (a * b)) σ else .bad
  | .fdiv => if 0 < b ∧ b < 1073741824 then .ok (.int (a / b)) σ else .bad
  | .mod => if 0 < b then .ok (.int (a % b)) σ else .bad
  | .pow => if a = 10 ∧ 0 ≤ b ∧ b ≤ 18 then .ok (.int (a ^ b.toNat)) σ else .bad
noncomputable def binL (σ : Store) : V → V → Out V
  | .loc i, .loc j => match σ[i]?, σ[j]? with
    | some (.list a), some (.list b) => if a.length + b.length ≤ szL then .ok (.loc σ.length) (σ ++ [.list (a ++ b)]) else .bad
    | _, _ => .bad
  | _, _ => .bad
noncomputable def binV (o : Bop) (a b : V) (σ : Store) : Out V :=
  match intP a b with
  | some p => binI o p.1 p.2 σ
  | .none => if o = .add then binL σ a b else .bad


noncomputable def dat0 : V → Option PyData
  | .none => some .none
  | .bool b => some (.bool b)
  | .int i => some (.int i)
  | _ => .none
noncomputable def optL (f : V → Option PyData) : List V → Option (List PyData)
  | [] => some []
  | v :: l => (f v).bind fun d => (optL f l).map (d :: ·)
noncomputable def dat (σ : Store) : Nat → V → Option PyData
  | 0, v => dat0 v
  | n + 1, v => match v with
    | .tup l => (optL (dat σ n) l).map .tuple
    | .loc i => match σ[i]? with
      | some (.list l) => (optL (dat σ n) l).map .list
      | _ => .none
    | v => dat0 v
noncomputable def datL (σ : Store) (n : Nat) (l : List V) : Option (List PyData) := optL (dat σ n) l
section
variable {σ : Store} {n : Nat}
theorem d_none : dat σ n .none = some .none := by cases n <;> rfl
theorem d_bool {b : Bool} : dat σ n (.bool b) = some (.bool b) := by cases n <;> rfl
theorem d_int {i : Int} : dat σ n (.int i) = some (.int i) := by cases n <;> rfl
theorem d_tup {l : List V} : dat σ (n + 1) (.tup l) = (datL σ n l).map .tuple := rfl
theorem d_loc {i : Nat} {l : List V} (h : σ[i]? = some (.list l)) : dat σ (n + 1) (.loc i) = (datL σ n l).map .list := by
  show (match σ[i]? with | some (.list l) => (optL (dat σ n) l).map PyData.list | _ => .none) = _
  rw [h]; rfl
theorem d_nil : datL σ n [] = some [] := rfl
theorem d_cons {v : V} {l : List V} : datL σ n (v :: l) = (dat σ n v).bind fun d => (datL σ n l).map (d :: ·) := rfl
end
noncomputable def veq (σ : Store) (a b : V) : Option Bool := (dat σ 8 a).bind fun x => (dat σ 8 b).map fun y => PyData.eqv x y

noncomputable def isNoneV : V → Bool
  | .none => true
  | _ => false
noncomputable def byNone (a b : V) : Option Bool := match b with
  | .none => some (isNoneV a)
  | _ => .none
noncomputable def cmpV (P : Prog) (o : Cop) (a b : V) (σ : Store) : Option Bool :=
  match o with
  | .lt => (intP a b).map fun p => decide (p.1 < p.2)
  | .le => (intP a b).map fun p => decide (p.1 ≤ p.2)
  | .gt => (intP a b).map fun p => decide (p.2 < p.1)
  | .ge => (intP a b).map fun p => decide (p.2 ≤ p.1)
  | .eq => veq σ a b
  | .ne => (veq σ a b).map (!·)
  | .is => byNone a b
  | .isnot => (byNone a b).map (!·)
  | _ => .none

noncomputable def truthV : V → Option Bool
  | .bool b => some b
  | _ => .none

noncomputable def idx (l : List V) (i : Int) : Option V := if 0 ≤ i ∧ i < 4611686018427387904 then l[i.toNat]? else if i = -1 then l.getLast? else .none

noncomputable def subV (P : Prog) (v k : V) (σ : Store) : Option V :=
  match v, k with
  | .tup l, .int i => idx l i
  | .script, .int i => idx (P.ns.map .int) i
  | .loc n, k => match σ[n]? with
    | some (.list l) => match k with | .int i => idx l i | _ => .none
    | _ => .none
  | _, _ => .none

noncomputable def isaV (P : Prog) (σ : Store) (v t : V) : Option Bool :=
  match v with
  | .int _ => (match t with
    | .ty n => if n = "int" then some true else if n = "bool" then some false else .none
    | _ => .none)
  | .bool _ => (match t with
    | .ty n => if n = "int" then some true else if n = "bool" then some true else .none
    | _ => .none)
  | .str _ => (match t with
    | .ty n => if n = "int" then some false else .none
    | _ => .none)
  | .none => (match t with
    | .ty n => if n = "int" then some false else .none
    | _ => .none)
  | .tup _ => (match t with
    | .ty n => if n = "tuple" then some true else .none
    | _ => .none)
  | _ => .none

noncomputable def intsOf : List V → Option (List Int)
  | [] => some []
  | .int i :: l => (intsOf l).map (i :: ·)
  | _ => .none
noncomputable def pLen (P : Prog) (v : V) (σ : Store) : Out V := match v with
  | .loc n => (match σ[n]? with | some (.list l) => if l.length ≤ szL then .ok (.int l.length) σ else .bad | _ => .bad)
  | .script => if P.ns.length ≤ szL then .ok (.int P.ns.length) σ else .bad
  | _ => .bad
noncomputable def pSum (v : V) (σ : Store) : Out V := match v with
  | .loc n => (match σ[n]? with | some (.list l) => (match intsOf l with | some is => .ok (.int is.sum) σ | .none => .bad) | _ => .bad)
  | _ => .bad
noncomputable def prim1 (P : Prog) (hd : Bool) (b : String) (v : V) (σ : Store) : Out V :=
  if b = "len" then pLen P v σ else if hd then .bad else if b = "sum" then pSum v σ else .bad
noncomputable def prim2 (P : Prog) (hd : Bool) (b : String) (v t : V) (σ : Store) : Out V :=
  if b = "isinstance" then .ofOpt σ ((isaV P σ v t).map .bool) else .bad
noncomputable def prim (P : Prog) (hd : Bool) (b : String) (as : List V) (σ : Store) : Out V :=
  match as with
  | [v] => prim1 P hd b v σ
  | [v, t] => prim2 P hd b v t σ
  | _ => .bad
section
variable {P : Prog} {hd : Bool} {v t : V} {σ : Store}
theorem p_len : prim P hd "len" [v] σ = pLen P v σ := by show prim1 P hd "len" v σ = _; unfold prim1; rw [if_pos rfl]
theorem p_sum : prim P false "sum" [v] σ = pSum v σ := by show prim1 P false "sum" v σ = _; unfold prim1; rw [if_neg (by decide), if_neg (by decide), if_pos rfl]
theorem p_isa : prim P hd "isinstance" [v, t] σ = .ofOpt σ ((isaV P σ v t).map .bool) := by show prim2 P hd "isinstance" v t σ = _; unfold prim2; rw [if_pos rfl]
end

/-! ### iteration -/
inductive Src where
  | list (n : Nat) | items (l : List V)
noncomputable def Src.get (σ : Store) : Src → Nat → Option (Option V)
  | .list n, i => match σ[n]? with | some (.list l) => some l[i]? | _ => .none
  | .items l, i => some l[i]?

noncomputable def Tgt.asg : Tgt → V → Loc → Option Loc
  | .name i, v, ℓ => some (ℓ.set i (some v))

noncomputable def whileLoop (c : Loc → Store → Out Bool) (body : Loc → Store → SOut) : Nat → Loc → Store → SOut
  | 0, _, _ => .bad
  | k + 1, ℓ, σ => match c ℓ σ with
    | .ok true σ => (match body ℓ σ with
      | .next ℓ σ => whileLoop c body k ℓ σ
      | .ret v σ => .ret v σ
      | _ => .bad)
    | .ok false σ => .next ℓ σ
    | _ => .bad
noncomputable def compLoop (src : Src) (t : Tgt) (c : Loc → Store → Out Bool) (elt : Loc → Store → Out V) : Nat → Nat → Loc → Store → Out (List V)
  | 0, _, _, _ => .bad
  | k + 1, i, ℓ, σ => match src.get σ i with
    | .none => .bad
    | some .none => .ok [] σ
    | some (some v) => match t.asg v ℓ with
      | .none => .bad
      | some ℓ' => (c ℓ' σ).bind fun b σ => if b then
          (elt ℓ' σ).bind fun x σ => (compLoop src t c elt k (i + 1) ℓ' σ).bind fun xs σ => .ok (x :: xs) σ
        else compLoop src t c elt k (i + 1) ℓ' σ

/-- the turns that a loop may take -/
noncomputable def W : Nat := 1000000

noncomputable def noExc {α : Type} : Out α → Out α
  | .exc _ _ => .bad
  | o => o

noncomputable def smallI (a : Int) : Bool := decide (-4611686018427387904 ≤ a) && decide (a < 4611686018427387904)
noncomputable def rangeL (a b : Int) : List V := (List.range (b - a).toNat).map fun (k : Nat) => .int (a + (k : Int))

noncomputable def rng2 (a b : V) (σ : Store) : Out Src := match a, b with
  | .int a, .int b => if smallI a && smallI b then .ok (.items (rangeL a b)) σ else .bad
  | _, _ => .bad
noncomputable def srcOf (P : Prog) (v : V) (σ : Store) : Option Src := match v with
  | .loc n => match σ[n]? with | some (.list _) => some (.list n) | _ => .none
  | .tup l => some (.items l)
  | _ => .none

theorem src_list {P : Prog} {σ : Store} {n : Nat} {l : List V} (h : σ[n]? = some (.list l)) : srcOf P (.loc n) σ = some (.list n) := by unfold srcOf; dsimp only; rw [h]
theorem src_no {P : Prog} {σ : Store} {n : Nat} (h : σ[n]? = none) : srcOf P (.loc n) σ = none := by unfold srcOf; dsimp only; rw [h]
/-! ### the interpreter -/
section
variable (P : Prog) (hd : Bool) (C : V → List V → Store → Out V)
mutual
noncomputable def evE : E → Loc → Store → Out V
  | .int i, _, σ => .ok (.int i) σ
  | .str s, _, σ => .ok (.str s) σ
  | .bool b, _, σ => .ok (.bool b) σ
  | .none, _, σ => .ok .none σ
  | .var i, ℓ, σ => match ℓ[i]? with | some (some v) => .ok v σ | _ => .bad
  | .glob x, _, σ => .ofOpt σ (P.glob x)
  | .bin o a b, ℓ, σ => (evE a ℓ σ).bind fun va σ => (evE b ℓ σ).bind fun vb σ => binV o va vb σ
  | .neg a, ℓ, σ => (evE a ℓ σ).bind fun v σ => match v with | .int i => .ok (.int (-i)) σ | _ => .bad
  | .not a, ℓ, σ => (evE a ℓ σ).bind fun v σ => match truthV v with | some b => .ok (.bool (!b)) σ | _ => .bad
  | .and l, ℓ, σ => evAnd l ℓ σ
  | .or l, ℓ, σ => evOr l ℓ σ
  | .cmp o a b, ℓ, σ => (evE a ℓ σ).bind fun va σ => (evE b ℓ σ).bind fun vb σ => (Out.ofOpt σ (cmpV P o va vb σ)).bind fun r σ => .ok (.bool r) σ
  | .cmp2 o p a b c, ℓ, σ => (evE a ℓ σ).bind fun va σ => (evE b ℓ σ).bind fun vb σ => (Out.ofOpt σ (cmpV P o va vb σ)).bind fun r σ =>
      if r then (evE c ℓ σ).bind fun vc σ => (Out.ofOpt σ (cmpV P p vb vc σ)).bind fun r σ => .ok (.bool r) σ else .ok (.bool false) σ
  | .call f as, ℓ, σ => (evE f ℓ σ).bind fun vf σ => (evEs as ℓ σ).bind fun vs σ => C vf vs σ
  | .sub o i, ℓ, σ => (evE o ℓ σ).bind fun vo σ => (evE i ℓ σ).bind fun vi σ => .ofOpt σ (subV P vo vi σ)
  | .list es, ℓ, σ => (evEs es ℓ σ).bind fun vs σ => .ok (.loc σ.length) (σ ++ [.list vs])
  | .tup es, ℓ, σ => (evEs es ℓ σ).bind fun vs σ => .ok (.tup vs) σ
  | .comp elt t it c fm, ℓ, σ => if hd then .bad else (evSrc it ℓ σ).bind fun src σ =>
      (noExc (compLoop src t (fun ℓ σ => evC c ℓ σ) (fun ℓ σ => evE elt ℓ σ) W 0 (fm.map fun j => j.bind fun j => (ℓ[j]?).join) σ)).bind fun vs σ =>
        .ok (.loc σ.length) (σ ++ [.list vs])
noncomputable def evEs : List E → Loc → Store → Out (List V)
  | [], _, σ => .ok [] σ
  | e :: es, ℓ, σ => (evE e ℓ σ).bind fun v σ => (evEs es ℓ σ).bind fun vs σ => .ok (v :: vs) σ
noncomputable def evC : Option E → Loc → Store → Out Bool
  | .none, _, σ => .ok true σ
  | some e, ℓ, σ => (evE e ℓ σ).bind fun v σ => .ofOpt σ (truthV v)
noncomputable def evAnd : List E → Loc → Store → Out V
  | [], _, _ => .bad
  | [e], ℓ, σ => evE e ℓ σ
  | e :: es, ℓ, σ => (evE e ℓ σ).bind fun v σ => match truthV v with | some true => evAnd es ℓ σ | some false => .ok v σ | _ => .bad
noncomputable def evOr : List E → Loc → Store → Out V
  | [], _, _ => .bad
  | [e], ℓ, σ => evE e ℓ σ
  | e :: es, ℓ, σ => (evE e ℓ σ).bind fun v σ => match truthV v with | some true => .ok v σ | some false => evOr es ℓ σ | _ => .bad
noncomputable def evSrc : It → Loc → Store → Out Src
  | .range2 a b, ℓ, σ => (evE a ℓ σ).bind fun va σ => (evE b ℓ σ).bind fun vb σ => rng2 va vb σ
  | .of e, ℓ, σ => (evE e ℓ σ).bind fun v σ => .ofOpt σ (srcOf P v σ)
end

noncomputable def evB (e : E) (ℓ : Loc) (σ : Store) : Out Bool := (evE P hd C e ℓ σ).bind fun v σ => .ofOpt σ (truthV v)

end

noncomputable def asgT (P : Prog) (hd : Bool) (C : V → List V → Store → Out V) : AT → V → Loc → Store → SOut
  | .name i, v, ℓ, σ => .next (ℓ.set i (some v)) σ
noncomputable def catches (P : Prog) (c d : Str) : Bool := match P.isa c d, P.glob d with
  | some true, some (.cls d') => d' == d
  | _, _ => false
section
variable (P : Prog) (C : Bool → V → List V → Store → Out V)
mutual
/-- hd: whether an exception is being handled (then nothing may be raised) -/
noncomputable def exS : S → Bool → Loc → Store → SOut
  | .asg t e, hd, ℓ, σ => (evE P hd (C hd) e ℓ σ).bindS ℓ fun v σ => asgT P hd (C hd) t v ℓ σ
  | .expr e, hd, ℓ, σ => (evE P hd (C hd) e ℓ σ).bindS ℓ fun _ σ => .next ℓ σ
  | .ret e, hd, ℓ, σ => (evE P hd (C hd) e ℓ σ).bindS ℓ fun v σ => .ret v σ
  | .ite c a b, hd, ℓ, σ => (evB P hd (C hd) c ℓ σ).bindS ℓ fun r σ => if r then exSs a hd ℓ σ else exSs b hd ℓ σ
  | .loop c b, hd, ℓ, σ => if hd then .bad else whileLoop (fun ℓ σ => evB P hd (C hd) c ℓ σ) (fun ℓ σ => exSs b hd ℓ σ) W ℓ σ
  | .raise c _, hd, ℓ, σ => if hd then .bad else if P.exc c then .exc c ℓ σ else .bad
  | .try b d h, hd, ℓ, σ => if hd then .bad else match exSs b false ℓ σ with
    | .exc c ℓ' σ' => if catches P c d then (match exSs h true ℓ' σ' with
      | .ret v σ'' => .ret v σ''
      | _ => .bad) else .bad
    | .next ℓ' σ' => .next ℓ' σ'
    | .ret v σ' => .ret v σ'
    | _ => .bad
noncomputable def exSs : List S → Bool → Loc → Store → SOut
  | [], _, ℓ, σ => .next ℓ σ
  | s :: ss, hd, ℓ, σ => (exS s hd ℓ σ).seq fun ℓ σ => exSs ss hd ℓ σ
end
end

noncomputable def runBody (P : Prog) (C : Bool → V → List V → Store → Out V) (d : FnD) (hd : Bool) (as : List V) (σ : Store) : Out V :=
  if as.length = d.np then
    match exSs P C d.body hd (as.map some ++ List.replicate (d.nl - d.np) .none) σ with
    | .next _ σ => .ok .none σ
    | .ret v σ => .ok v σ
    | .exc c _ σ => .exc c σ
    | _ => .bad
  else .bad

noncomputable def callN (P : Prog) : Nat → Bool → V → List V → Store → Out V
  | 0, _, _, _, _ => .bad
  | n + 1, hd, f, as, σ => match f with
    | .fn f => match P.fn f with
      | some d => runBody P (callN P n) d hd as σ
      | .none => .bad
    | .bi b => prim P hd b as σ
    | _ => .bad

end Mine
end

section
set_option tactic.hygienic false
set_option bootstrap.genMatcherCode false
set_option maxRecDepth 100000
set_option linter.unusedSimpArgs false
namespace Mine
open PySem
set_option linter.unusedVariables false

/-! ### compiling the row's AST -/
noncomputable def kindIdx (sc : Scope) (x : Str) : Option (Nat × NameKind) :=
  (sc.names.findIdx? (fun p => p.1 == x)).bind fun i => (sc.names[i]?).map fun p => (i, p.2)
noncomputable def badName (x : Str) : Bool := x == "__debug__" || x == "__classdict__"
noncomputable def cVar (sc : Scope) (x : Str) : Option Nat := if badName x then .none else match kindIdx sc x with
  | some (i, .local) => some i
  | some (i, .cell) => some i
  | some (i, .free) => some i
  | _ => .none
/-- a name that is stored -/
noncomputable def cTo (sc : Scope) (x : Str) : Option Nat := if badName x then .none else match kindIdx sc x with
  | some (i, .local) => some i
  | some (i, .cell) => some i
  | _ => .none
noncomputable def isGlob (sc : Scope) (x : Str) : Bool := !badName x && match kindIdx sc x with
  | some (_, .globalImplicit) => true
  | _ => false
noncomputable def cName (sc : Scope) (x : Str) : Option E := match cVar sc x with
  | some i => some (.var i)
  | .none => if isGlob sc x then some (.glob x) else .none
noncomputable def cBop : Operator → Option Bop
  | .Add => some .add | .Sub => some .sub | .Mult => some .mul | .FloorDiv => some .fdiv | .Mod => some .mod | .Pow => some .pow
  | _ => .none
noncomputable def cCop : CmpOp → Cop
  | .Lt => .lt | .LtE => .le | .Gt => .gt | .GtE => .ge | .Eq => .eq | .NotEq => .ne | .Is => .is | .IsNot => .isnot | .In => .isin | .NotIn => .notin
/-- targets of loops: plain local names -/
noncomputable def cTgt (sc : Scope) : Expr → Option Tgt
  | .Name x _ => (cTo sc x).map .name
  | _ => .none
noncomputable def tgtNames : Expr → List Str
  | .Name x _ => [x]
  | _ => []
noncomputable def isNil {α : Type} : List α → Bool
  | [] => true
  | _ => false
noncomputable def isStr1 (x : Str) (y : String) : Bool := x == Str.ofString y

/-- a comprehension's own scope: its locals are its targets; its free names are the block's -/
noncomputable def fmOf (sc csc : Scope) : List (Option Nat) := csc.names.map fun p => if p.2 == .free then (kindIdx sc p.1).map (·.1) else .none
noncomputable def cscOk (sc csc : Scope) (ts : List Str) : Bool :=
  csc.kind == .function && !csc.isGenerator && !csc.isCoroutine && decide (csc.names.map (·.1)).Nodup &&
  csc.names.all fun p => match p.2 with
    | .local => p.1 == ".0" || ts.contains p.1
    | .free => (match kindIdx sc p.1 with | some (_, .cell) => true | _ => false)
    | .globalImplicit => true
    | _ => false

noncomputable def isSliceE : Expr → Bool
  | .Slice .. => true
  | _ => false
mutual
noncomputable def cE (sc : Scope) : Expr → Option E
  | .Constant c _ _ => match c with
    | .int i => some (.int i)
    | .str s => some (.str s.cps.toList)
    | .bool b => some (.bool b)
    | .none => some .none
    | _ => .none
  | .Name x _ => cName sc x
  | .BinOp l op r _ => (cBop op).bind fun o => (cE sc l).bind fun a => (cE sc r).bind fun b => some (.bin o a b)
  | .UnaryOp .USub x _ => (cE sc x).map .neg
  | .UnaryOp .Not x _ => (cE sc x).map .not
  | .BoolOp .And vs _ => (cEs sc vs).bind fun l => if isNil l then .none else some (.and l)
  | .BoolOp .Or vs _ => (cEs sc vs).bind fun l => if isNil l then .none else some (.or l)
  | .Compare l ops cs _ => (cE sc l).bind fun a => (cEs sc cs).bind fun bs => match ops, bs with
    | [o], [b] => some (.cmp (cCop o) a b)
    | [o, p], [b, c] => some (.cmp2 (cCop o) (cCop p) a b c)
    | _, _ => .none
  | .Call (.Name x _) as ks _ => if isNil ks && isGlob sc x && x != "super" && decide (as.length < 29) then (cEs sc as).bind fun as' => some (.call (.glob x) as') else .none
  | .Subscript o i _ => if isSliceE i then .none else (cE sc o).bind fun o' => (cE sc i).bind fun i' => some (.sub o' i')
  | .List es _ => if es.length ≤ 1000 then (cEs sc es).map .list else .none
  | .Tuple es _ _ => if es.length ≤ 1000 then (cEs sc es).map .tup else .none
  | .ListComp elt gs csc _ => (cE csc elt).bind fun e' => (cG sc csc gs).bind fun r => if cscOk sc csc r.2.2.2 then some (.comp e' r.1 r.2.1 r.2.2.1 (fmOf sc csc)) else .none
  | _ => .none
noncomputable def cEs (sc : Scope) : List Expr → Option (List E)
  | [] => some []
  | e :: es => (cE sc e).bind fun a => (cEs sc es).map (a :: ·)
noncomputable def cIt (sc : Scope) : Expr → Option E → Option It
  | .Call (.Name x _) as ks _, w => if !isNil ks then .none else if isGlob sc x && isStr1 x "range" then (cEs sc as).bind fun | [a, b] => some (.range2 a b) | _ => .none
      else w.map .of
  | _, w => w.map .of
noncomputable def cG (sc csc : Scope) : List Comprehension → Option (Tgt × It × Option E × List Str)
  | [] => .none
  | g :: gs => if isNil gs then cG1 sc csc g else .none
noncomputable def cG1 (sc csc : Scope) : Comprehension → Option (Tgt × It × Option E × List Str)
  | ⟨t, it, ifs, asy⟩ => if asy = 0 then (cTgt csc t).bind fun t' => (cIt sc it (cE sc it)).bind fun it' => (cEs csc ifs).bind fun c => match c with
    | [] => some (t', it', .none, tgtNames t)
    | [c] => some (t', it', some c, tgtNames t)
    | _ => .none
    else .none
end

noncomputable def cAT (sc : Scope) : Expr → Option AT
  | .Name x _ => (cTo sc x).map .name
  | _ => .none
noncomputable def isTupE : Expr → Bool
  | .Tuple .. => true
  | .List .. => true
  | _ => false
noncomputable def isCompE : Expr → Bool
  | .ListComp .. => true
  | _ => false
/-- an assignment whose stores the compiler may exchange is let by only for a plain local name -/
noncomputable def asgOk (sc : Scope) (t v : Expr) : Bool := !(isTupE t && isTupE v)

noncomputable def cRaise (sc : Scope) : Option Expr → Option Expr → Option (Str × List Nat)
  | some (.Call (.Name c _) as ks _), .none => match as, ks with
    | [.Constant (.str m) _ _], [] => if isGlob sc c then some (c, m.cps.toList) else .none
    | _, _ => .none
  | _, _ => .none

mutual
noncomputable def cS (sc : Scope) : Stmt → Option S
  | .Assign ts v _ => match ts with
    | [t] => if asgOk sc t v && !isCompE v then (cAT sc t).bind fun t' => (cE sc v).bind fun v' => some (.asg t' v') else .none
    | _ => .none
  | .Expr v _ => if isCompE v then .none else (cE sc v).map .expr
  | .Return v _ => match v with | some v => (cE sc v).map .ret | .none => .none
  | .If c a b _ => (cE sc c).bind fun c' => (cSs sc a).bind fun a' => (cSs sc b).bind fun b' => some (.ite c' a' b')
  | .While c b o _ => if isNil o then (cE sc c).bind fun c' => (cSs sc b).bind fun b' => some (.loop c' b') else .none
  | .Raise e c _ => (cRaise sc e c).map fun r => .raise r.1 r.2
  | .Try b hs o f _ => if isNil o && isNil f then (cSs sc b).bind fun b' => cHs sc hs b' else .none
  | _ => .none
noncomputable def cHs (sc : Scope) : List ExceptHandler → List S → Option S
  | [], _ => .none
  | h :: hs, b' => if isNil hs then cH sc h b' else .none
noncomputable def cH (sc : Scope) : ExceptHandler → List S → Option S
  | .ExceptHandler ty name b _, b' => (cSs sc b).bind fun h' => match ty, name with
    | some (.Name d _), .none => if isGlob sc d && !isNil b then some (.try b' d h') else .none
    | _, _ => .none
noncomputable def cSs (sc : Scope) : List Stmt → Option (List S)
  | [] => some []
  | s :: ss => (cS sc s).bind fun a => (cSs sc ss).map (a :: ·)
end

/-- a def: plain parameters, standing first in its scope -/
noncomputable def cFn (params : Arguments) (sc : Scope) (body : List Stmt) : Option FnD :=
  if isNil params.posonlyargs && isNil params.kwonlyargs && params.vararg.isNone && params.kwarg.isNone && isNil params.defaults &&
    sc.kind == .function && !sc.isGenerator && !sc.isCoroutine && (sc.names.take params.args.length).map (·.1) == params.args.map (·.arg) &&
    ((sc.names.take params.args.length).all fun p => p.2 == .local || p.2 == .cell) && (sc.names.all fun p => p.2 == .local || p.2 == .cell || p.2 == .globalImplicit) && decide (sc.names.map (·.1)).Nodup
  then (cSs sc body).map fun b => ⟨params.args.length, sc.names.length, b⟩ else .none

/-! ### the equations, by rfl -/
theorem no_some {α : Type} {a : α} {p : Prop} (h : (none : Option α) = some a) : p := nomatch h
theorem no_cons {α : Type} {a : α} {l : List α} {p : Prop} (h : some ([] : List α) = some (a :: l)) : p := nomatch h
section
variable {P : Prog} {hd : Bool} {C : V → List V → Store → Out V} {ℓ : Loc} {σ : Store}
theorem q_int {i : Int} : evE P hd C (.int i) ℓ σ = .ok (.int i) σ := rfl
theorem q_str {s : List Nat} : evE P hd C (.str s) ℓ σ = .ok (.str s) σ := rfl
theorem q_bool {b : Bool} : evE P hd C (.bool b) ℓ σ = .ok (.bool b) σ := rfl
theorem q_none : evE P hd C .none ℓ σ = .ok .none σ := rfl
theorem q_var {i : Nat} : evE P hd C (.var i) ℓ σ = match ℓ[i]? with | some (some v) => .ok v σ | _ => .bad := rfl
theorem q_glob {x : Str} : evE P hd C (.glob x) ℓ σ = .ofOpt σ (P.glob x) := rfl
theorem q_bin {o : Bop} {a b : E} : evE P hd C (.bin o a b) ℓ σ = (evE P hd C a ℓ σ).bind fun va σ => (evE P hd C b ℓ σ).bind fun vb σ => binV o va vb σ := rfl
theorem q_neg {a : E} : evE P hd C (.neg a) ℓ σ = (evE P hd C a ℓ σ).bind fun v σ => match v with | .int i => .ok (.int (-i)) σ | _ => .bad := rfl
theorem q_not {a : E} : evE P hd C (.not a) ℓ σ = (evE P hd C a ℓ σ).bind fun v σ => match truthV v with | some b => .ok (.bool (!b)) σ | _ => .bad := rfl
theorem q_and {l : List E} : evE P hd C (.and l) ℓ σ = evAnd P hd C l ℓ σ := rfl
theorem q_or {l : List E} : evE P hd C (.or l) ℓ σ = evOr P hd C l ℓ σ := rfl
theorem q_cmp {o : Cop} {a b : E} : evE P hd C (.cmp o a b) ℓ σ = (evE P hd C a ℓ σ).bind fun va σ => (evE P hd C b ℓ σ).bind fun vb σ => (Out.ofOpt σ (cmpV P o va vb σ)).bind fun r σ => .ok (.bool r) σ := rfl
theorem q_cmp2 {o p : Cop} {a b c : E} : evE P hd C (.cmp2 o p a b c) ℓ σ = (evE P hd C a ℓ σ).bind fun va σ => (evE P hd C b ℓ σ).bind fun vb σ => (Out.ofOpt σ (cmpV P o va vb σ)).bind fun r σ =>
      if r then (evE P hd C c ℓ σ).bind fun vc σ => (Out.ofOpt σ (cmpV P p vb vc σ)).bind fun r σ => .ok (.bool r) σ else .ok (.bool false) σ := rfl
theorem q_call {f : E} {as : List E} : evE P hd C (.call f as) ℓ σ = (evE P hd C f ℓ σ).bind fun vf σ => (evEs P hd C as ℓ σ).bind fun vs σ => C vf vs σ := rfl
theorem q_sub {o i : E} : evE P hd C (.sub o i) ℓ σ = (evE P hd C o ℓ σ).bind fun vo σ => (evE P hd C i ℓ σ).bind fun vi σ => .ofOpt σ (subV P vo vi σ) := rfl
theorem q_list {es : List E} : evE P hd C (.list es) ℓ σ = (evEs P hd C es ℓ σ).bind fun vs σ => .ok (.loc σ.length) (σ ++ [.list vs]) := rfl
theorem q_tup {es : List E} : evE P hd C (.tup es) ℓ σ = (evEs P hd C es ℓ σ).bind fun vs σ => .ok (.tup vs) σ := rfl
theorem q_comp {elt : E} {t : Tgt} {it : It} {c : Option E} {fm : List (Option Nat)} : evE P hd C (.comp elt t it c fm) ℓ σ = if hd then .bad else (evSrc P hd C it ℓ σ).bind fun src σ =>
      (noExc (compLoop src t (fun ℓ σ => evC P hd C c ℓ σ) (fun ℓ σ => evE P hd C elt ℓ σ) W 0 (fm.map fun j => j.bind fun j => (ℓ[j]?).join) σ)).bind fun vs σ =>
        .ok (.loc σ.length) (σ ++ [.list vs]) := rfl
theorem q_nil : evEs P hd C [] ℓ σ = .ok [] σ := rfl
theorem q_cons {e : E} {es : List E} : evEs P hd C (e :: es) ℓ σ = (evE P hd C e ℓ σ).bind fun v σ => (evEs P hd C es ℓ σ).bind fun vs σ => .ok (v :: vs) σ := rfl
theorem q_cn : evC P hd C .none ℓ σ = .ok true σ := rfl
theorem q_cs {e : E} : evC P hd C (some e) ℓ σ = (evE P hd C e ℓ σ).bind fun v σ => .ofOpt σ (truthV v) := rfl
theorem q_and1 {e : E} : evAnd P hd C [e] ℓ σ = evE P hd C e ℓ σ := rfl
theorem q_and2 {e e' : E} {es : List E} : evAnd P hd C (e :: e' :: es) ℓ σ = (evE P hd C e ℓ σ).bind fun v σ => match truthV v with | some true => evAnd P hd C (e' :: es) ℓ σ | some false => .ok v σ | _ => .bad := rfl
theorem q_or1 {e : E} : evOr P hd C [e] ℓ σ = evE P hd C e ℓ σ := rfl
theorem q_or2 {e e' : E} {es : List E} : evOr P hd C (e :: e' :: es) ℓ σ = (evE P hd C e ℓ σ).bind fun v σ => match truthV v with | some true => .ok v σ | some false => evOr P hd C (e' :: es) ℓ σ | _ => .bad := rfl
theorem q_r2 {a b : E} : evSrc P hd C (.range2 a b) ℓ σ = (evE P hd C a ℓ σ).bind fun va σ => (evE P hd C b ℓ σ).bind fun vb σ => rng2 va vb σ := rfl
theorem q_of {e : E} : evSrc P hd C (.of e) ℓ σ = (evE P hd C e ℓ σ).bind fun v σ => .ofOpt σ (srcOf P v σ) := rfl
end
section
variable {P : Prog} {hd : Bool} {C : Bool → V → List V → Store → Out V} {ℓ : Loc} {σ : Store}
theorem q_asg {t : AT} {e : E} : exS P C (.asg t e) hd ℓ σ = (evE P hd (C hd) e ℓ σ).bindS ℓ fun v σ => asgT P hd (C hd) t v ℓ σ := rfl
theorem q_expr {e : E} : exS P C (.expr e) hd ℓ σ = (evE P hd (C hd) e ℓ σ).bindS ℓ fun _ σ => .next ℓ σ := rfl
theorem q_ret {e : E} : exS P C (.ret e) hd ℓ σ = (evE P hd (C hd) e ℓ σ).bindS ℓ fun v σ => .ret v σ := rfl
theorem q_ite {c : E} {a b : List S} : exS P C (.ite c a b) hd ℓ σ = (evB P hd (C hd) c ℓ σ).bindS ℓ fun r σ => if r then exSs P C a hd ℓ σ else exSs P C b hd ℓ σ := rfl
theorem q_loop {c : E} {b : List S} : exS P C (.loop c b) hd ℓ σ = if hd then .bad else whileLoop (fun ℓ σ => evB P hd (C hd) c ℓ σ) (fun ℓ σ => exSs P C b hd ℓ σ) W ℓ σ := rfl
theorem q_raise {c : Str} {m : List Nat} : exS P C (.raise c m) hd ℓ σ = if hd then .bad else if P.exc c then .exc c ℓ σ else .bad := rfl
theorem q_try {b : List S} {d : Str} {h : List S} : exS P C (.try b d h) hd ℓ σ = if hd then .bad else match exSs P C b false ℓ σ with
    | .exc c ℓ' σ' => if catches P c d then (match exSs P C h true ℓ' σ' with
      | .ret v σ'' => .ret v σ''
      | _ => .bad) else .bad
    | .next ℓ' σ' => .next ℓ' σ'
    | .ret v σ' => .ret v σ'
    | _ => .bad := rfl
theorem q_snil : exSs P C [] hd ℓ σ = .next ℓ σ := rfl
theorem q_scons {s : S} {ss : List S} : exSs P C (s :: ss) hd ℓ σ = (exS P C s hd ℓ σ).seq fun ℓ σ => exSs P C ss hd ℓ σ := rfl
end
section
variable {sc : Scope} {p q : Pos} {k : Nat}
theorem k_int {i : Int} : cE sc (.Constant (.int i) k p) = some (.int i) := rfl
theorem k_str {s : Str} : cE sc (.Constant (.str s) k p) = some (.str s.cps.toList) := rfl
theorem k_bool {b : Bool} : cE sc (.Constant (.bool b) k p) = some (.bool b) := rfl
theorem k_none : cE sc (.Constant .none k p) = some .none := rfl
theorem k_name {x : Str} : cE sc (.Name x p) = cName sc x := rfl
theorem k_bin {l r : Expr} {op : Operator} : cE sc (.BinOp l op r p) = (cBop op).bind fun o => (cE sc l).bind fun a => (cE sc r).bind fun b => some (.bin o a b) := rfl
theorem k_neg {x : Expr} : cE sc (.UnaryOp .USub x p) = (cE sc x).map .neg := rfl
theorem k_not {x : Expr} : cE sc (.UnaryOp .Not x p) = (cE sc x).map .not := rfl
theorem k_and {vs : List Expr} : cE sc (.BoolOp .And vs p) = (cEs sc vs).bind fun l => if isNil l then .none else some (.and l) := rfl
theorem k_or {vs : List Expr} : cE sc (.BoolOp .Or vs p) = (cEs sc vs).bind fun l => if isNil l then .none else some (.or l) := rfl
theorem k_cmp {l : Expr} {ops : List CmpOp} {cs : List Expr} : cE sc (.Compare l ops cs p) = (cE sc l).bind fun a => (cEs sc cs).bind fun bs => match ops, bs with
    | [o], [b] => some (.cmp (cCop o) a b)
    | [o, p], [b, c] => some (.cmp2 (cCop o) (cCop p) a b c)
    | _, _ => .none := rfl
theorem k_call {x : Str} {as : List Expr} {ks : List Keyword} : cE sc (.Call (.Name x q) as ks p) = if isNil ks && isGlob sc x && x != "super" && decide (as.length < 29) then (cEs sc as).bind fun as' => some (.call (.glob x) as') else .none := rfl
theorem k_sub {o i : Expr} : cE sc (.Subscript o i p) = if isSliceE i then .none else (cE sc o).bind fun o' => (cE sc i).bind fun i' => some (.sub o' i') := rfl
theorem k_list {es : List Expr} : cE sc (.List es p) = if es.length ≤ 1000 then (cEs sc es).map .list else .none := rfl
theorem k_tup {es : List Expr} {b : Nat} : cE sc (.Tuple es b p) = if es.length ≤ 1000 then (cEs sc es).map .tup else .none := rfl
theorem k_comp {csc : Scope} {elt : Expr} {gs : List Comprehension} : cE sc (.ListComp elt gs csc p) = (cE csc elt).bind fun e' => (cG sc csc gs).bind fun r => if cscOk sc csc r.2.2.2 then some (.comp e' r.1 r.2.1 r.2.2.1 (fmOf sc csc)) else .none := rfl
theorem k_nil : cEs sc [] = some [] := rfl
theorem k_cons {e : Expr} {es : List Expr} : cEs sc (e :: es) = (cE sc e).bind fun a => (cEs sc es).map (a :: ·) := rfl
theorem k_asg {t v : Expr} : cS sc (.Assign [t] v p) = if asgOk sc t v && !isCompE v then (cAT sc t).bind fun t' => (cE sc v).bind fun v' => some (.asg t' v') else .none := rfl
theorem k_expr {v : Expr} : cS sc (.Expr v p) = if isCompE v then .none else (cE sc v).map .expr := rfl
theorem k_ret {v : Expr} : cS sc (.Return (some v) p) = (cE sc v).map .ret := rfl
theorem k_ite {c : Expr} {a b : List Stmt} : cS sc (.If c a b p) = (cE sc c).bind fun c' => (cSs sc a).bind fun a' => (cSs sc b).bind fun b' => some (.ite c' a' b') := rfl
theorem k_loop {c : Expr} {b o : List Stmt} : cS sc (.While c b o p) = if isNil o then (cE sc c).bind fun c' => (cSs sc b).bind fun b' => some (.loop c' b') else .none := rfl
theorem k_raise {e c : Option Expr} : cS sc (.Raise e c p) = (cRaise sc e c).map fun r => .raise r.1 r.2 := rfl
theorem k_try {b o f : List Stmt} {hs : List ExceptHandler} : cS sc (.Try b hs o f p) = if isNil o && isNil f then (cSs sc b).bind fun b' => cHs sc hs b' else .none := rfl
theorem k_snil : cSs sc [] = some [] := rfl
theorem k_scons {s : Stmt} {ss : List Stmt} : cSs sc (s :: ss) = (cS sc s).bind fun a => (cSs sc ss).map (a :: ·) := rfl
end
end Mine
end

section
set_option tactic.hygienic false
set_option bootstrap.genMatcherCode false
set_option maxRecDepth 100000
set_option linter.unusedSimpArgs false
set_option linter.unusedVariables false
namespace Mine
open PySem PySem.W PySem.Calls PyProof.Rows

abbrev Rho := List (Addr × Addr)
structure Cx where
  P : Prog
  al : Str → Option Addr
  scr : Addr
  prog : Program
  w : World
  os : OsState

/-! ### how abstract values are borne -/
mutual
inductive Rv (X : Cx) (ρ : Rho) (h : Heap) : V → Value → Prop
  | none : Rv X ρ h .none .none
  | bool (b : Bool) : Rv X ρ h (.bool b) (.bool b)
  | int (i : Int) (t : Tok) : Rv X ρ h (.int i) (.int i t)
  | str (s : Str) (t : Tok) : Rv X ρ h (.str s.cps.toList) (.str s t)
  | tup {l : List V} {a : Addr} {items : List Value} (o : Obj) (n : Nat) (ho : h.get? a = some o) (hc : o.cls = .type "tuple") (hd : o.data = .seq items.toArray n) (hl : RvL X ρ h l items) : Rv X ρ h (.tup l) (.ref a)
  | loc {n : Nat} {p : Addr × Addr} (hp : ρ[n]? = some p) : Rv X ρ h (.loc n) (.ref p.1)
  | script : Rv X ρ h .script (.ref X.scr)
  | fn {f : Str} {a : Addr} (ha : X.al f = some a) : Rv X ρ h (.fn f) (.ref a)
  | cls {c : Str} {a : Addr} (ha : X.al c = some a) : Rv X ρ h (.cls c) (.ref a)
  | bi (b : String) : Rv X ρ h (.bi b) (.builtin b)
  | ty (t : String) : Rv X ρ h (.ty t) (.type t)
inductive RvL (X : Cx) (ρ : Rho) (h : Heap) : List V → List Value → Prop
  | nil : RvL X ρ h [] []
  | cons {v : V} {x : Value} {vs : List V} {xs : List Value} (hv : Rv X ρ h v x) (hl : RvL X ρ h vs xs) : RvL X ρ h (v :: vs) (x :: xs)
end

/-- a tuple or a set -/
noncomputable def Frozen (o : Obj) : Prop := (o.cls = .type "tuple" ∧ ∃ items n, o.data = .seq items n) ∨ ∃ es ep t, o.data = .set es ep t
/-- what every step keeps: a tuple stays, what is no record stays none, a name space stays one -/
noncomputable def Fz1 (o : Obj) (h' : Heap) (a : Addr) : Prop := (Frozen o → h'.get? a = some o) ∧ ((∀ vs, o.data ≠ .fields vs) → ∃ o', h'.get? a = some o' ∧ ∀ vs, o'.data ≠ .fields vs) ∧ ∀ es ep, o.data = .dict es ep → ∃ o' es' ep', h'.get? a = some o' ∧ o'.data = .dict es' ep'
noncomputable def Fz (h h' : Heap) : Prop := ∀ a o, h.get? a = some o → Fz1 o h' a
theorem Fz.trans {h₁ h₂ h₃ : Heap} (x : Fz h₁ h₂) (y : Fz h₂ h₃) : Fz h₁ h₃ := fun a o e => by
  refine ⟨fun ht => (y a o ((x a o e).1 ht)).1 ht, fun z => ?_, fun es ep z => ?_⟩
  · obtain ⟨o₂, e₂, z₂⟩ := (x a o e).2.1 z
    exact (y a o₂ e₂).2.1 z₂
  · obtain ⟨o₂, es', ep', e₂, z₂⟩ := (x a o e).2.2 es ep z
    exact (y a o₂ e₂).2.2 _ _ z₂
theorem Fz.keep1 {h' : Heap} {a : Addr} {o : Obj} (e : h'.get? a = some o) : Fz1 o h' a :=
  ⟨fun _ => e, fun z => ⟨o, e, z⟩, fun es ep z => ⟨o, es, ep, e, z⟩⟩
theorem Fz.of_keeps {h h' : Heap} (k : ∀ b o, h.get? b = some o → h'.get? b = some o) : Fz h h' := fun a o e => Fz.keep1 (k a o e)
theorem Fz.refl (h : Heap) : Fz h h := .of_keeps fun _ _ e => e
theorem Fz.funFrames {h h' B : Heap} (x : Fz h h') : ∀ {l : List Env}, h.FunFrames B l → h'.FunFrames B l
  | [], _ => trivial
  | _ :: _, ⟨hk, ⟨L, o, hf, hn, ho, hd⟩, hr⟩ => by
    obtain ⟨o', e, g⟩ := (x L o ho).2.1 hd
    exact ⟨hk, ⟨L, o', hf, hn, e, g⟩, x.funFrames hr⟩
/-- one object changes, no tuple and no record -/
theorem Fz.but {h h' : Heap} {a : Addr} {o o' : Obj} (hs : ∀ b ob, b ≠ a → h.get? b = some ob → h'.get? b = some ob) (ho : h.get? a = some o) (ho' : h'.get? a = some o') (ht : ¬ Frozen o) (hn : ∀ vs, o.data ≠ .fields vs) (hn' : ∀ vs, o'.data ≠ .fields vs) (hdd : ∀ es ep, o.data = .dict es ep → ∃ es' ep', o'.data = .dict es' ep') : Fz h h' := fun b ob e => by
  by_cases q : b = a
  · subst q
    rw [ho] at e; cases e
    exact ⟨fun t => absurd t ht, fun _ => ⟨o', ho', hn'⟩, fun es ep z => let ⟨es', ep', w⟩ := hdd es ep z; ⟨o', es', ep', ho', w⟩⟩
  · exact Fz.keep1 (hs b ob q e)
/-- a record of a built-in class changes, or goes -/
theorem Fz.rec {h h' : Heap} {a : Addr} {o : Obj} {T : String} {vs : Array Value} (hs : ∀ b ob, b ≠ a → h.get? b = some ob → h'.get? b = some ob) (ho : h.get? a = some o) (hc : o.cls = .type T) (hd : o.data = .fields vs) : Fz h h' := fun b ob e => by
  by_cases q : b = a
  · subst q
    rw [ho] at e; cases e
    exact ⟨(fun q => by rcases q with ⟨_, i, n, z⟩ | ⟨_, _, _, z⟩ <;> (rw [hd] at z; cases z)), (fun z => absurd hd (z vs)), fun _ _ z => by rw [hd] at z; cases z⟩
  · exact Fz.keep1 (hs b ob q e)
noncomputable def Rle (ρ ρ' : Rho) : Prop := ∀ (n : Nat) (p : Addr × Addr), ρ[n]? = some p → ρ'[n]? = some p
theorem Rle.refl (ρ : Rho) : Rle ρ ρ := fun _ _ e => e
theorem Rle.trans {a b c : Rho} (x : Rle a b) (y : Rle b c) : Rle a c := fun n p e => y n p (x n p e)
theorem Rle.append (ρ l : Rho) : Rle ρ (ρ ++ l) := fun n p e => by
  obtain ⟨h, e⟩ := List.getElem?_eq_some_iff.mp e
  rw [List.getElem?_append_left h, List.getElem?_eq_getElem h, e]

/-- what the bearing of values asks -/
noncomputable def Fy (h h' : Heap) : Prop := ∀ a o, h.get? a = some o → Frozen o → h'.get? a = some o
theorem Fz.y {h h' : Heap} (f : Fz h h') : Fy h h' := fun a o e => (f a o e).1
theorem monoY {X : Cx} {ρ ρ' : Rho} {h h' : Heap} (hr : Rle ρ ρ') (hf : Fy h h') : (∀ {v : V} {x : Value}, Rv X ρ h v x → Rv X ρ' h' v x) ∧ ∀ {v : List V} {x : List Value}, RvL X ρ h v x → RvL X ρ' h' v x := by
  have tup : ∀ {l : List V} {a : Addr} {items : List Value} (o : Obj) (n : Nat) (ho : h.get? a = some o) (hc : o.cls = .type "tuple") (hd : o.data = .seq items.toArray n) (hl : RvL X ρ h l items), RvL X ρ' h' l items → Rv X ρ' h' (.tup l) (.ref a) :=
    fun o n ho hc hd hl ih => .tup o n (hf _ o ho (.inl ⟨hc, _, _, hd⟩)) hc hd ih
  exact ⟨fun r => Rv.rec (motive_1 := fun v x _ => Rv X ρ' h' v x) (motive_2 := fun v x _ => RvL X ρ' h' v x) .none .bool .int .str tup (fun hp => .loc (hr _ _ hp)) .script .fn .cls .bi .ty .nil (fun _ _ a b => .cons a b) r,
    fun r => RvL.rec (motive_1 := fun v x _ => Rv X ρ' h' v x) (motive_2 := fun v x _ => RvL X ρ' h' v x) .none .bool .int .str tup (fun hp => .loc (hr _ _ hp)) .script .fn .cls .bi .ty .nil (fun _ _ a b => .cons a b) r⟩
theorem Rv.monoY {X : Cx} {ρ ρ' : Rho} {h h' : Heap} (hr : Rle ρ ρ') (hf : Fy h h') {v : V} {x : Value} (r : Rv X ρ h v x) : Rv X ρ' h' v x := (Mine.monoY hr hf).1 r
theorem RvL.monoY {X : Cx} {ρ ρ' : Rho} {h h' : Heap} (hr : Rle ρ ρ') (hf : Fy h h') {v : List V} {x : List Value} (r : RvL X ρ h v x) : RvL X ρ' h' v x := (Mine.monoY hr hf).2 r
theorem Rv.mono {X : Cx} {ρ ρ' : Rho} {h h' : Heap} (hr : Rle ρ ρ') (hf : Fz h h') {v : V} {x : Value} (r : Rv X ρ h v x) : Rv X ρ' h' v x := r.monoY hr hf.y
theorem RvL.mono {X : Cx} {ρ ρ' : Rho} {h h' : Heap} (hr : Rle ρ ρ') (hf : Fz h h') {v : List V} {x : List Value} (r : RvL X ρ h v x) : RvL X ρ' h' v x := r.monoY hr hf.y

theorem RvL.length {X : Cx} {ρ : Rho} {h : Heap} : ∀ {l : List V} {xs : List Value}, RvL X ρ h l xs → l.length = xs.length
  | _, _, .nil => rfl
  | _, _, .cons _ hl => by simp [hl.length]
theorem RvL.get {X : Cx} {ρ : Rho} {h : Heap} : ∀ {l : List V} {xs : List Value}, RvL X ρ h l xs → ∀ {i : Nat} {v : V}, l[i]? = some v → ∃ x, xs[i]? = some x ∧ Rv X ρ h v x
  | _, _, .nil, i, v, e => by simp at e
  | _, _, .cons hv hl, 0, v, e => by simp at e; subst e; exact ⟨_, rfl, hv⟩
  | _, _, .cons hv hl, i + 1, v, e => by
    simp at e
    obtain ⟨x, e1, e2⟩ := hl.get e
    exact ⟨x, by simpa using e1, e2⟩
theorem RvL.append {X : Cx} {ρ : Rho} {h : Heap} : ∀ {l : List V} {xs : List Value}, RvL X ρ h l xs → ∀ {l' : List V} {xs' : List Value}, RvL X ρ h l' xs' → RvL X ρ h (l ++ l') (xs ++ xs')
  | _, _, .nil, _, _, r => r
  | _, _, .cons hv hl, _, _, r => .cons hv (hl.append r)
theorem RvL.take {X : Cx} {ρ : Rho} {h : Heap} : ∀ (k : Nat) {l : List V} {xs : List Value}, RvL X ρ h l xs → RvL X ρ h (l.take k) (xs.take k)
  | 0, _, _, _ => by simpa using .nil
  | k + 1, _, _, .nil => by simpa using .nil
  | k + 1, _, _, .cons hv hl => by simpa using .cons hv (hl.take k)
theorem RvL.drop {X : Cx} {ρ : Rho} {h : Heap} : ∀ (k : Nat) {l : List V} {xs : List Value}, RvL X ρ h l xs → RvL X ρ h (l.drop k) (xs.drop k)
  | 0, _, _, r => by simpa using r
  | k + 1, _, _, .nil => by simpa using .nil
  | k + 1, _, _, .cons hv hl => by simpa using hl.drop k
/-! ### cells -/
noncomputable def CellOk (X : Cx) (ρ : Rho) (h : Heap) (p : Addr × Addr) : Cell → Prop
  | .list l => p.2 = p.1 ∧ ∃ o n items, h.get? p.1 = some o ∧ o.cls = .type "list" ∧ o.data = .seq (List.toArray items) n ∧ RvL X ρ h l items ∧ o.dict = none ∧ o.slots = #[]

theorem CellOk.monoY {X : Cx} {ρ ρ' : Rho} {h h' : Heap} (hr : Rle ρ ρ') (hf : Fy h h') {p : Addr × Addr} {c : Cell} (h1 : ∀ o, h.get? p.1 = some o → h'.get? p.1 = some o) (h2 : ∀ o, h.get? p.2 = some o → h'.get? p.2 = some o)
    (x : CellOk X ρ h p c) : CellOk X ρ' h' p c := by
  cases c with
  | list l => obtain ⟨q, o, n, items, a, b, c, d, e⟩ := x; exact ⟨q, o, n, items, h1 _ a, b, c, d.monoY hr hf, e⟩
theorem CellOk.mono {X : Cx} {ρ ρ' : Rho} {h h' : Heap} (hr : Rle ρ ρ') (hf : Fz h h') {p : Addr × Addr} {c : Cell} (h1 : ∀ o, h.get? p.1 = some o → h'.get? p.1 = some o) (h2 : ∀ o, h.get? p.2 = some o → h'.get? p.2 = some o)
    (x : CellOk X ρ h p c) : CellOk X ρ' h' p c := x.monoY hr hf.y h1 h2
end Mine
end

section
set_option tactic.hygienic false
set_option bootstrap.genMatcherCode false
set_option maxRecDepth 100000
set_option linter.unusedSimpArgs false
set_option linter.unusedVariables false
namespace Mine
open PySem PySem.W PySem.Calls PyProof.Rows

/-- what stands at the law's entry -/
structure Cy extends Cx where
  G0 : Heap

abbrev frs (stk : List Env) : List Addr := stk.filterMap (·.frame)

noncomputable def KeepG (stk : List Env) (G h : Heap) : Prop := ∀ b o, G.get? b = some o → ∃ sl, h.get? b = some { o with slots := sl } ∧ (b ∉ frs stk → sl = o.slots)

/-- an object that is a cell -/
abbrev isC (o : Obj) : Prop := ∃ y, o.data = .cell y

/-- how a frame bears its names -/
structure FrOk (X : Cx) (ρ : Rho) (h : Heap) (env : Env) (ℓ : Loc) : Prop where
  kind : env.scope.kind = .function
  gl : env.globals = mainGlobals
  bl : env.builtins = builtinsNs
  len : ℓ.length = env.scope.names.length
  nd : (env.scope.names.map (·.1)).Nodup
  ns : ∃ m, h.Ns env.locals m ∧ ∀ (i : Nat) (v : V) (x : Str), ℓ[i]? = some (some v) → env.scope.names[i]? = some (x, .local) → ∃ y, m x = some y ∧ Rv X ρ h v y
  cl : ∀ (i : Nat) (x : Str) (k : NameKind), env.scope.names[i]? = some (x, k) → k = .cell ∨ k = .free → ∃ c o y, env.cells.lookup x = some c ∧ h.get? c = some o ∧ isC o ∧ o.data = .cell y ∧
    ∀ v, ℓ[i]? = some (some v) → ∃ z, y = some z ∧ Rv X ρ h v z

/-- the frames are name spaces -/
noncomputable def FrD (h : Heap) (stk : List Env) : Prop := ∀ b ∈ frs stk, ∃ o es ep, h.get? b = some o ∧ o.data = .dict es ep
theorem Fz.frD {h h' : Heap} {stk : List Env} (x : Fz h h') (d : FrD h stk) : FrD h' stk := fun b hb => by
  obtain ⟨o, es, ep, e, z⟩ := d b hb
  exact (x b o e).2.2 es ep z

structure Inv (X : Cy) (G : Heap) (stk : List Env) (env : Env) (ℓ : Loc) (σ : Store) (ρ : Rho) (s : Shared) : Prop where
  keep : KeepG stk G s.heap
  base : ∀ b o, X.G0.get? b = some o → G.get? b = some o
  ff : s.heap.FunFrames X.G0 stk
  fd : FrD s.heap stk
  fr : FrOk X.toCx ρ s.heap env ℓ
  ownL : G.get? env.locals = none ∧ ∀ (n : Nat) p, ρ[n]? = some p → p.1 ≠ env.locals ∧ p.2 ≠ env.locals
  ownC : env.func.isSome = true → ∀ x c, env.cells.lookup x = some c → G.get? c = none ∧ c ≠ env.locals ∧ ∀ y, env.cells.lookup y = some c → y = x
  len : ρ.length = σ.length
  cells : ∀ (n : Nat) c p, σ[n]? = some c → ρ[n]? = some p → CellOk X.toCx ρ s.heap p c
  sep : ∀ (n m : Nat) p q, ρ[n]? = some p → ρ[m]? = some q → n ≠ m → p.1 ≠ q.1 ∧ p.1 ≠ q.2 ∧ p.2 ≠ q.1 ∧ p.2 ≠ q.2
  fresh : ∀ (n : Nat) p, ρ[n]? = some p → G.get? p.1 = none ∧ G.get? p.2 = none
  gens : s.gens = #[]
  os : s.os = X.os

theorem Inv.frBase {X : Cy} {G : Heap} {stk : List Env} {env : Env} {ℓ : Loc} {σ : Store} {ρ : Rho} {s : Shared} (I : Inv X G stk env ℓ σ ρ s) {b : Addr} {o : Obj} (e : X.G0.get? b = some o) : s.heap.get? b = some o := by
  obtain ⟨sl, e1, e2⟩ := I.keep b o (I.base b o e)
  have : b ∉ frs stk := fun hm => by rw [(I.ff.mem hm).1] at e; cases e
  rw [e2 this] at e1
  exact e1

/-- an exception on its way (f: the frame that it passes) -/
structure Fly (X : Cy) (G : Heap) (f : Addr) (c : Str) (e : Value) (h : Heap) : Prop where
  at_ : ∃ ea C oe vs, e = .ref ea ∧ X.al c = some C ∧ h.get? ea = some oe ∧ oe.cls = .ref C ∧ oe.data = .fields vs ∧ G.get? ea = none ∧
    (vs[1]? = some .none ∨ ∃ T oT ts, vs[1]? = some (.ref T) ∧ T ≠ ea ∧ G.get? T = none ∧ h.get? T = some oT ∧ oT.data = .fields ts ∧ ts[3]? = some .none)

noncomputable def AOk (A : Around) (stk : List Env) (hd : Bool) (D U : Nat) : Prop := A.frames = some stk ∧ A.depth ≤ D ∧ A.units ≤ U ∧ (hd = false → A.handled = none)

section
variable (X : Cy) (A : Around) (G : Heap) (stk : List Env) (env : Env) (ℓ : Loc)
/-- where a step may end -/
inductive Qok {α β : Type} (RR : α → β → Rho → Heap → Prop) (o : Out α) (ρ : Rho) (s : Shared) (b : β) (s' : Shared) : Prop
  | mk (a : α) (σ' : Store) (ρ' : Rho) (e : o = .ok a σ') (le : Rle ρ ρ') (fz : Fz s.heap s'.heap) (I : Inv X G stk env ℓ σ' ρ' s') (r : RR a b ρ' s'.heap)
inductive Qex {α : Type} (o : Out α) (ρ : Rho) (s : Shared) (e : Value) (s' : Shared) : Prop
  | mk (c : Str) (σ' : Store) (ρ' : Rho) (h : o = .exc c σ') (le : Rle ρ ρ') (fz : Fz s.heap s'.heap) (I : Inv X G stk env ℓ σ' ρ' s') (fl : ∀ f, env.frame = some f → Fly X G f c e s'.heap)
noncomputable def Snd {α β : Type} (R : Rho → Heap → Prop) (RR : α → β → Rho → Heap → Prop) (t : Sem β) (m : Store → Out α) : Prop :=
  ∀ σ ρ s, Inv X G stk env ℓ σ ρ s → R ρ s.heap → m σ ≠ .bad → wpAny (model X.prog X.w) A t (Qok X G stk env ℓ RR (m σ) ρ s) (Qex X G stk env ℓ (m σ) ρ s) s
end

noncomputable def HMono (R : Rho → Heap → Prop) : Prop := ∀ ρ ρ' h h', Rle ρ ρ' → Fz h h' → R ρ h → R ρ' h'
noncomputable def rV (X : Cy) : V → Value → Rho → Heap → Prop := fun v x ρ h => Rv X.toCx ρ h v x
noncomputable def rL (X : Cy) : List V → List Value → Rho → Heap → Prop := fun v x ρ h => RvL X.toCx ρ h v x
noncomputable def rEq {α : Type} : α → α → Rho → Heap → Prop := fun a b _ _ => a = b
noncomputable def rO (X : Cy) : Option V → Value → Rho → Heap → Prop := fun v x ρ h => match v with | some v => Rv X.toCx ρ h v x | .none => x = .none
theorem rV_mono (X : Cy) (v : V) (x : Value) : HMono (rV X v x) := fun _ _ _ _ a b c => Rv.mono a b c
theorem rO_mono (X : Cy) (v : Option V) (x : Value) : HMono (rO X v x) := fun _ _ _ _ a b c => by
  cases v with
  | none => exact c
  | some v => exact Rv.mono a b c
theorem hTrue : HMono fun _ _ => True := fun _ _ _ _ _ _ c => c
theorem HMono.and {R S : Rho → Heap → Prop} (a : HMono R) (b : HMono S) : HMono fun ρ h => R ρ h ∧ S ρ h := fun _ _ _ _ x y z => ⟨a _ _ _ _ x y z.1, b _ _ _ _ x y z.2⟩

section
variable {X : Cy} {A : Around} {G : Heap} {stk : List Env} {env : Env} {ℓ : Loc} {α β γ δ : Type} {R : Rho → Heap → Prop}

theorem Snd.bind {RR : α → β → Rho → Heap → Prop} {RS : γ → δ → Rho → Heap → Prop} {t : Sem β} {m : Store → Out α} {k : β → Sem δ} {f : α → Store → Out γ} (hR : HMono R)
    (h1 : Snd X A G stk env ℓ R RR t m) (h2 : ∀ a b, Snd X A G stk env ℓ (fun ρ h => R ρ h ∧ RR a b ρ h) RS (k b) (f a)) :
    Snd X A G stk env ℓ R RS (t >>= k) (fun σ => (m σ).bind f) := by
  intro σ ρ s I hr hb
  have hb' : m σ ≠ .bad := fun q => hb (by simp only [q, Out.bind])
  refine wpAny_bind (wpAny_mono (h1 σ ρ s I hr hb') ?_ ?_)
  · intro b s' ⟨a, σ', ρ', e, le, fz, I', rr⟩
    have e2 : (m σ).bind f = f a σ' := by rw [e]; rfl
    simp only [e2] at hb ⊢
    refine wpAny_mono (h2 a b σ' ρ' s' I' ⟨hR _ _ _ _ le fz hr, rr⟩ hb) ?_ ?_
    · intro d s'' ⟨c, σ'', ρ'', e', le', fz', I'', rs⟩
      exact ⟨c, σ'', ρ'', e', le.trans le', fz.trans fz', I'', rs⟩
    · intro e s'' ⟨c, σ'', ρ'', e', le', fz', I'', fl⟩
      exact ⟨c, σ'', ρ'', e', le.trans le', fz.trans fz', I'', fl⟩
  · intro e s' ⟨c, σ', ρ', e', le, fz, I', fl⟩
    refine ⟨c, σ', ρ', ?_, le, fz, I', fl⟩
    simp only [e', Out.bind]

theorem Snd.mono {RR RS : α → β → Rho → Heap → Prop} {t : Sem β} {m : Store → Out α} {S : Rho → Heap → Prop} (h : Snd X A G stk env ℓ R RR t m) (hR : ∀ ρ h, S ρ h → R ρ h) (hS : ∀ a b ρ h, RR a b ρ h → RS a b ρ h) :
    Snd X A G stk env ℓ S RS t m := fun σ ρ s I hr hb => wpAny_mono (h σ ρ s I (hR _ _ hr) hb)
      (fun b s' ⟨a, σ', ρ', e, le, fz, I', rr⟩ => ⟨a, σ', ρ', e, le, fz, I', hS _ _ _ _ rr⟩) fun _ _ x => x

theorem Snd.pure {RR : α → β → Rho → Heap → Prop} {a : α} {b : β} (h : ∀ ρ h, R ρ h → RR a b ρ h) : Snd X A G stk env ℓ R RR (Pure.pure b) (fun σ => .ok a σ) :=
  fun σ ρ s I hr _ => wpAny_pure ⟨a, σ, ρ, rfl, Rle.refl _, Fz.refl _, I, h _ _ hr⟩
theorem Snd.bad {RR : α → β → Rho → Heap → Prop} {t : Sem β} : Snd X A G stk env ℓ R RR t (fun _ => .bad) := fun _ _ _ _ _ h => absurd rfl h
theorem Snd.holding {RR : α → β → Rho → Heap → Prop} {t : Sem β} {m : Store → Out α} {vs : List Value} (h : Snd X A G stk env ℓ R RR t m) : Snd X A G stk env ℓ R RR (PySem.holding vs t) m :=
  fun σ ρ s I hr hb => wpAny_holding (h σ ρ s I hr hb)
/-- a step of the model that has no counterpart -/
theorem Snd.skip {RR : α → β → Rho → Heap → Prop} {t : Sem γ} {k : γ → Sem β} {m : Store → Out α} {c : γ} (ht : ∀ (Q : γ → Shared → Prop) (E : Value → Shared → Prop) (s : Shared), Q c s → wpAny (model X.prog X.w) A t Q E s)
    (h : Snd X A G stk env ℓ R RR (k c) m) : Snd X A G stk env ℓ R RR (t >>= k) m := fun σ ρ s I hr hb => wpAny_bind (ht _ _ _ (h σ ρ s I hr hb))
theorem Snd.at {RR : α → β → Rho → Heap → Prop} {pos : Pos} {k : Unit → Sem β} {m : Store → Out α} (h : Snd X A G stk env ℓ R RR (k ()) m) : Snd X A G stk env ℓ R RR (standAt pos >>= k) m :=
  Snd.skip (fun _ _ _ q => wpAny_standAt q) h
theorem wpAny_point' {M : Model} {A : Around} {Q : Unit → Shared → Prop} {E : Value → Shared → Prop} {s : Shared} (h : Q () s) : wpAny M A point Q E s := fun _ _ _ => h

theorem wpAny_release {M : Model} {A : Around} {vs keep : List Value} {Q : Unit → Shared → Prop} {E : Value → Shared → Prop} {s : Shared} (h : Q () s) : wpAny M A (release vs keep) Q E s := by
  unfold release
  generalize (vs.filter fun | .ref _ => true | _ => false) = l
  have : ∀ l, wpAny M A (release.go keep l) Q E s := by
    intro l
    induction l with
    | nil => exact wpAny_pure h
    | cons a r ih =>
      cases r with
      | nil => exact wpAny_pure h
      | cons b r => exact wpAny_bind (wpAny_holding (wpAny_point' ih))
  exact this l
theorem Snd.operate {RR : α → Value → Rho → Heap → Prop} {t : Sem Value} {m : Store → Out α} {vs : List Value} (h : Snd X A G stk env ℓ R RR t m) : Snd X A G stk env ℓ R RR (PySem.operate vs t) m :=
  fun σ ρ s I hr hb => by
    unfold PySem.operate
    refine wpAny_bind (wpAny_mono (wpAny_holding (h σ ρ s I hr hb)) (fun b s' q => wpAny_bind (wpAny_release (wpAny_pure q))) fun _ _ x => x)
end
end Mine
end

section
set_option tactic.hygienic false
set_option bootstrap.genMatcherCode false
set_option maxRecDepth 100000
set_option linter.unusedSimpArgs false
set_option linter.unusedVariables false
namespace Mine
open PySem PySem.W PySem.Calls PyProof.Rows

theorem ns_data {h h' : Heap} {a : Addr} {m : Str → Option Value} (hn : h.Ns a m) (k : ∀ o, h.get? a = some o → ∃ o', h'.get? a = some o' ∧ o'.data = o.data) : h'.Ns a m := by
  obtain ⟨o, es, ep, ho, hd, r⟩ := hn
  obtain ⟨o', e, d⟩ := k o ho
  exact ⟨o', es, ep, e, d.trans hd, r⟩
theorem ns_at {h : Heap} {a : Addr} {m : Str → Option Value} (hn : h.Ns a m) : ∃ o, h.get? a = some o ∧ ∀ vs, o.data ≠ .fields vs := by
  obtain ⟨o, es, ep, ho, hd, r⟩ := hn
  exact ⟨o, ho, fun vs q => by rw [hd] at q; cases q⟩

theorem FrOk.mono {X : Cx} {ρ ρ' : Rho} {h h' : Heap} {env : Env} {ℓ : Loc} (F : FrOk X ρ h env ℓ) (le : Rle ρ ρ') (fz : Fz h h')
    (hL : ∀ o, h.get? env.locals = some o → ∃ o', h'.get? env.locals = some o' ∧ o'.data = o.data)
    (hC : ∀ x c, env.cells.lookup x = some c → ∀ o, h.get? c = some o → isC o → (∃ y, o.data = .cell y) → ∃ o', h'.get? c = some o' ∧ o'.cls = o.cls ∧ o'.data = o.data) : FrOk X ρ' h' env ℓ := by
  obtain ⟨k, g, b, ln, nd, ⟨m, hm, hr⟩, hc⟩ := F
  refine ⟨k, g, b, ln, nd, ⟨m, ns_data hm hL, fun i v x e1 e2 => ?_⟩, fun i x k e1 e2 => ?_⟩
  · obtain ⟨y, a, r⟩ := hr i v x e1 e2; exact ⟨y, a, r.mono le fz⟩
  · obtain ⟨c, o, y, a1, a2, a3, a4, a5⟩ := hc i x k e1 e2
    obtain ⟨o', b1, b2, b3⟩ := hC x c a1 o a2 a3 ⟨y, a4⟩
    refine ⟨c, o', y, a1, b1, ⟨y, b3.trans a4⟩, b3.trans a4, fun v hv => ?_⟩
    obtain ⟨z, r1, r2⟩ := a5 v hv
    exact ⟨z, r1, r2.mono le fz⟩

section
variable {X : Cy} {G : Heap} {stk : List Env} {env : Env} {ℓ ℓ' : Loc} {σ σ' : Store} {ρ ρ' : Rho} {s s' : Shared}

theorem Inv.cast (I : Inv X G stk env ℓ σ ρ s) (hh : s'.heap = s.heap) (hg : s'.gens = s.gens) (ho : s'.os = s.os) : Inv X G stk env ℓ σ ρ s' :=
  { keep := hh ▸ I.keep, base := I.base, ff := hh ▸ I.ff, fd := hh ▸ I.fd, fr := hh ▸ I.fr, ownL := I.ownL, ownC := I.ownC, len := I.len, cells := hh ▸ I.cells, sep := I.sep, fresh := I.fresh, gens := hg.trans I.gens, os := ho.trans I.os }

theorem Inv.chg (I : Inv X G stk env ℓ σ ρ s) (Ch : Addr → Prop) (fz : Fz s.heap s'.heap) (hs : ∀ b o, s.heap.get? b = some o → ¬ Ch b → s'.heap.get? b = some o) (hG : ∀ b, Ch b → G.get? b = none)
    (hF : FrOk X.toCx ρ' s'.heap env ℓ') (hown : ∀ (n : Nat) p, ρ'[n]? = some p → p.1 ≠ env.locals ∧ p.2 ≠ env.locals) (len : ρ'.length = σ'.length)
    (cells : ∀ (n : Nat) c p, σ'[n]? = some c → ρ'[n]? = some p → CellOk X.toCx ρ' s'.heap p c)
    (sep : ∀ (n m : Nat) p q, ρ'[n]? = some p → ρ'[m]? = some q → n ≠ m → p.1 ≠ q.1 ∧ p.1 ≠ q.2 ∧ p.2 ≠ q.1 ∧ p.2 ≠ q.2)
    (fresh : ∀ (n : Nat) p, ρ'[n]? = some p → G.get? p.1 = none ∧ G.get? p.2 = none) (hg : s'.gens = s.gens) (ho : s'.os = s.os) : Inv X G stk env ℓ' σ' ρ' s' :=
  { keep := fun b o e => by
      obtain ⟨sl, e1, e2⟩ := I.keep b o e
      exact ⟨sl, hs b _ e1 (fun q => by rw [hG b q] at e; cases e), e2⟩
    base := I.base, ff := fz.funFrames I.ff, fd := fz.frD I.fd, fr := hF, ownL := ⟨I.ownL.1, hown⟩, ownC := I.ownC, len := len, cells := cells, sep := sep, fresh := fresh, gens := hg.trans I.gens, os := ho.trans I.os }

theorem Inv.frMono (I : Inv X G stk env ℓ σ ρ s) {h' : Heap} (le : Rle ρ ρ') (fz : Fz s.heap h') (k : ∀ b o, s.heap.get? b = some o → h'.get? b = some o) : FrOk X.toCx ρ' h' env ℓ :=
  I.fr.mono le fz (fun o e => ⟨o, k _ _ e, rfl⟩) fun x c _ o e _ _ => ⟨o, k _ _ e, rfl, rfl⟩

/-- the heap grows by things of no cell -/
theorem Inv.grow (I : Inv X G stk env ℓ σ ρ s) (k : ∀ b o, s.heap.get? b = some o → s'.heap.get? b = some o) (hg : s'.gens = s.gens) (ho : s'.os = s.os) : Inv X G stk env ℓ σ ρ s' := by
  have fz : Fz s.heap s'.heap := .of_keeps k
  exact I.chg (fun _ => False) fz (fun b o e _ => k b o e) (fun _ q => q.elim) (I.frMono (Rle.refl _) fz k) I.ownL.2 I.len
    (fun n c p e1 e2 => (I.cells n c p e1 e2).mono (Rle.refl _) fz (k _) (k _)) I.sep I.fresh hg ho

theorem Inv.freshAddr (I : Inv X G stk env ℓ σ ρ s) : G.get? s.heap.objs.size = none ∧ s.heap.objs.size ≠ env.locals ∧ ∀ (n : Nat) p, ρ[n]? = some p → p.1 ≠ s.heap.objs.size ∧ p.2 ≠ s.heap.objs.size := by
  have lt : ∀ {b : Addr} {o : Obj}, s.heap.get? b = some o → b ≠ s.heap.objs.size := fun e => Nat.ne_of_lt (Heap.lt_size e)
  refine ⟨?_, ?_, fun n p e => ?_⟩
  · cases q : G.get? s.heap.objs.size with
    | none => rfl
    | some o => obtain ⟨sl, e, _⟩ := I.keep _ o q; exact absurd rfl (lt e)
  · obtain ⟨m, hm, _⟩ := I.fr.ns
    obtain ⟨o, ho, _⟩ := ns_at hm
    exact (lt ho).symm
  · have hn : n < σ.length := by rw [← I.len]; exact (List.getElem?_eq_some_iff.mp e).1
    have hc := I.cells n _ p (List.getElem?_eq_getElem hn) e
    revert hc
    cases σ[n] with
    | list l => rintro ⟨q, o, n, items, a, b, c, d⟩; exact ⟨lt a, q ▸ lt a⟩

/-- what a cell's two addresses hold -/
theorem CellOk.at {X : Cx} {ρ : Rho} {h : Heap} {p : Addr × Addr} {c : Cell} (x : CellOk X ρ h p c) : (∃ o, h.get? p.1 = some o ∧ ¬ isC o ∧ ∀ vs, o.data ≠ .fields vs) ∧ ∃ o, h.get? p.2 = some o ∧ ¬ isC o ∧ ∀ vs, o.data ≠ .fields vs := by
  cases c with
  | list l => obtain ⟨q, o, n, items, a, b, c, d⟩ := x; rw [q]; exact ⟨⟨o, a, (fun ⟨_, e⟩ => by rw [c] at e; cases e), by rw [c]; intro _ e; cases e⟩, ⟨o, a, (fun ⟨_, e⟩ => by rw [c] at e; cases e), by rw [c]; intro _ e; cases e⟩⟩

theorem Inv.cellOf (I : Inv X G stk env ℓ σ ρ s) {n : Nat} {c : Cell} (e : σ[n]? = some c) : ∃ p, ρ[n]? = some p ∧ CellOk X.toCx ρ s.heap p c := by
  have hn : n < ρ.length := by rw [I.len]; exact (List.getElem?_eq_some_iff.mp e).1
  exact ⟨_, List.getElem?_eq_getElem hn, I.cells n c _ e (List.getElem?_eq_getElem hn)⟩
theorem Inv.rhoCell (I : Inv X G stk env ℓ σ ρ s) {n : Nat} {p : Addr × Addr} (e : ρ[n]? = some p) : ∃ c, σ[n]? = some c ∧ CellOk X.toCx ρ s.heap p c := by
  have hn : n < σ.length := by rw [← I.len]; exact (List.getElem?_eq_some_iff.mp e).1
  exact ⟨_, List.getElem?_eq_getElem hn, I.cells n _ p (List.getElem?_eq_getElem hn) e⟩
/-- the frame's cells are no cells of the store -/
theorem Inv.notCell (I : Inv X G stk env ℓ σ ρ s) {n : Nat} {p : Addr × Addr} (e : ρ[n]? = some p) {c : Addr} {o : Obj} (ho : s.heap.get? c = some o) (hc : isC o) : p.1 ≠ c ∧ p.2 ≠ c := by
  obtain ⟨cl, _, h⟩ := I.rhoCell e
  obtain ⟨⟨o1, a1, b1, _⟩, ⟨o2, a2, b2, _⟩⟩ := h.at
  exact ⟨fun q => by rw [q, ho] at a1; cases a1; exact b1 hc, fun q => by rw [q, ho] at a2; cases a2; exact b2 hc⟩

/-- a cell changes: the heap is as it was but at one of the cell's addresses -/
theorem Inv.setCell (I : Inv X G stk env ℓ σ ρ s) {n : Nat} {p : Addr × Addr} {c : Cell} {a : Addr} (hp : ρ[n]? = some p) (ha : a = p.1 ∨ a = p.2) (fz : Fz s.heap s'.heap) (k : ∀ b o, b ≠ a → s.heap.get? b = some o → s'.heap.get? b = some o)
    (hc : CellOk X.toCx ρ s'.heap p c) (hg : s'.gens = s.gens) (ho : s'.os = s.os) : Inv X G stk env ℓ (σ.set n c) ρ s' := by
  have hne : a ≠ env.locals := ha.elim (fun q => q ▸ (I.ownL.2 n p hp).1) fun q => q ▸ (I.ownL.2 n p hp).2
  have hG : G.get? a = none := ha.elim (fun q => q ▸ (I.fresh n p hp).1) fun q => q ▸ (I.fresh n p hp).2
  refine I.chg (fun b => b = a) fz (fun b o e q => k b o q e) (fun b q => q ▸ hG) (I.fr.mono (Rle.refl _) fz (fun o e => ⟨o, k _ _ hne.symm e, rfl⟩) fun x c' _ o e hcl _ => ⟨o, k _ _ (fun q => ?_) e, rfl, rfl⟩) I.ownL.2 (by simp [I.len])
    (fun m c' q e1 e2 => ?_) I.sep I.fresh hg ho
  · obtain ⟨h1, h2⟩ := I.notCell hp e hcl
    rcases ha with rfl | rfl
    · exact h1 q.symm
    · exact h2 q.symm
  · by_cases hm : m = n
    · subst hm
      rw [hp] at e2; cases e2
      rw [List.getElem?_set] at e1
      simp at e1
      obtain ⟨_, rfl⟩ := e1
      exact hc
    · rw [List.getElem?_set_ne (Ne.symm hm)] at e1
      obtain ⟨x1, x2, x3, x4⟩ := I.sep n m p q hp e2 (Ne.symm hm)
      refine (I.cells m c' q e1 e2).mono (Rle.refl _) fz (fun o e => k _ _ (fun z => ?_) e) (fun o e => k _ _ (fun z => ?_) e)
      · rcases ha with rfl | rfl
        · exact x1 z.symm
        · exact x3 z.symm
      · rcases ha with rfl | rfl
        · exact x2 z.symm
        · exact x4 z.symm
end
end Mine
end

section
set_option tactic.hygienic false
set_option bootstrap.genMatcherCode false
set_option maxRecDepth 100000
set_option linter.unusedSimpArgs false
set_option linter.unusedVariables false
namespace Mine
open PySem PySem.W PySem.Calls PyProof.Rows

theorem lookup_of_findIdx {l : List (Str × NameKind)} {x : Str} : ∀ {i : Nat}, l.findIdx? (fun p => p.1 == x) = some i → ∃ k, l[i]? = some (x, k) ∧ l.lookup x = some k := by
  induction l with
  | nil => intro i e; simp at e
  | cons p r ih =>
    intro i e
    rw [List.findIdx?_cons] at e
    by_cases h : (p.1 == x) = true
    · rw [if_pos h] at e; cases e
      obtain ⟨y, k⟩ := p
      have : y = x := eq_of_beq h
      subst this
      exact ⟨k, rfl, by simp [List.lookup]⟩
    · rw [if_neg h] at e
      cases q : r.findIdx? (fun p => p.1 == x) with
      | none => rw [q] at e; cases e
      | some j =>
        rw [q] at e; cases e
        obtain ⟨k, a, b⟩ := ih q
        obtain ⟨y, k'⟩ := p
        refine ⟨k, by simpa using a, ?_⟩
        have : (x == y) = false := by
          cases hh : x == y with
          | false => rfl
          | true => exact absurd (by simp [eq_of_beq hh]) h
        rw [List.lookup, this]; exact b
theorem kindIdx_spec {sc : Scope} {x : Str} {i : Nat} {k : NameKind} (e : kindIdx sc x = some (i, k)) : sc.names[i]? = some (x, k) ∧ sc.names.lookup x = some k := by
  unfold kindIdx at e
  cases q : sc.names.findIdx? (fun p => p.1 == x) with
  | none => rw [q] at e; cases e
  | some j =>
    rw [q] at e
    obtain ⟨k', a, b⟩ := lookup_of_findIdx q
    simp only [Option.bind_some, a, Option.map_some, Option.some.injEq, Prod.mk.injEq] at e
    obtain ⟨rfl, rfl⟩ := e
    exact ⟨a, b⟩

/-- the scope that a text was compiled by is the frame's, but that a comprehension's free names are its cells -/
noncomputable def ScOk (sc : Scope) (env : Env) : Prop := ∀ x i k, kindIdx sc x = some (i, k) → ∃ k', env.scope.names[i]? = some (x, k') ∧ env.kindOf x = some k' ∧ (k' = k ∨ (k = .free ∧ k' = .cell))
theorem ScOk.self (env : Env) : ScOk env.scope env := fun x i k e => let ⟨a, b⟩ := kindIdx_spec e; ⟨k, a, b, .inl rfl⟩

structure GlobOk (X : Cy) : Prop where
  glob : ∃ mg mb, X.G0.Ns mainGlobals mg ∧ X.G0.Ns builtinsNs mb ∧ (∀ x v, X.P.glob x = some v → ∃ y, (mg x = some y ∨ (mg x = none ∧ mb x = some y)) ∧ Rv X.toCx [] X.G0 v y) ∧
    ∀ x : Str, (x = "range" → mg x = none ∧ mb x = some (.type "range")) ∧ (x = "enumerate" → mg x = none ∧ mb x = some (.type "enumerate")) ∧ (x = "zip" → mg x = none ∧ mb x = some (.type "zip"))

section
variable {X : Cy} {A : Around} {G : Heap} {stk : List Env} {env : Env} {ℓ : Loc} {σ : Store} {ρ : Rho} {s : Shared} {R : Rho → Heap → Prop}

theorem fz0 (I : Inv X G stk env ℓ σ ρ s) : Fz X.G0 s.heap := .of_keeps fun b o e => I.frBase e
theorem rle0 (ρ : Rho) : Rle [] ρ := fun n p e => by simp at e

theorem badName_debug {x : Str} (h : badName x = false) : (x == ("__debug__" : Str)) = false := by
  unfold badName at h; simp only [Bool.or_eq_false_iff] at h; exact h.1
theorem badName_cd {x : Str} (h : badName x = false) : (x == ("__classdict__" : Str)) = false := by
  unfold badName at h; simp only [Bool.or_eq_false_iff] at h; exact h.2

theorem wp_loadName_any {Q : Value → Shared → Prop} {E : Value → Shared → Prop} (I : Inv X G stk env ℓ σ ρ s) {x : Str} {i : Nat} {k : NameKind} {v : V} (hx : env.scope.names[i]? = some (x, k)) (hk : env.kindOf x = some k)
    (hkk : k = .local ∨ k = .cell ∨ k = .free) (hv : ℓ[i]? = some (some v)) (hb : badName x = false) (h : ∀ y, Rv X.toCx ρ s.heap v y → Q y s) : wpAny (model X.prog X.w) A (loadName env x) Q E s := by
  have kd := I.fr.kind
  rcases hkk with rfl | rfl | rfl
  · obtain ⟨m, hm, hr⟩ := I.fr.ns
    obtain ⟨y, hy, r⟩ := hr i v x hv hx
    exact wpAny_loadName_local kd hk hm hy (h y r)
  · obtain ⟨c, o, y, a1, a2, a3, a4, a5⟩ := I.fr.cl i x _ hx (.inl rfl)
    obtain ⟨z, rfl, r⟩ := a5 v hv
    unfold loadName
    simp only [Env.blockKind, kd, hk, ScopeKind.isAnnotationScope, Bool.false_and, Bool.false_eq_true, if_false]
    unfold cellOf cellGet
    rw [a1]
    refine wpAny_bind (wpAny_pure ?_)
    refine wpAny_bind (wpAny_bind (wpAny_load a2 ?_))
    rw [a4]
    exact wpAny_pure (wpAny_pure (h z r))
  · obtain ⟨c, o, y, a1, a2, a3, a4, a5⟩ := I.fr.cl i x _ hx (.inr rfl)
    obtain ⟨z, rfl, r⟩ := a5 v hv
    unfold loadName
    simp only [Env.blockKind, kd, hk, ScopeKind.isAnnotationScope, Bool.false_and, Bool.false_eq_true, if_false, badName_cd hb]
    unfold cellOf cellGet
    rw [a1]
    refine wpAny_bind (wpAny_pure ?_)
    refine wpAny_bind (wpAny_bind (wpAny_load a2 ?_))
    rw [a4]
    exact wpAny_pure (wpAny_pure (h z r))

theorem wp_loadGlob {Q : Value → Shared → Prop} {E : Value → Shared → Prop} (hB : GlobOk X) (I : Inv X G stk env ℓ σ ρ s) {x : Str} {y : Value} (hk : env.kindOf x = some .globalImplicit)
    (hy : ∀ mg mb, X.G0.Ns mainGlobals mg → X.G0.Ns builtinsNs mb → (mg x = some y ∨ (mg x = none ∧ mb x = some y))) (h : Q y s) : wpAny (model X.prog X.w) A (loadName env x) Q E s := by
  obtain ⟨mg, mb, h1, h2, _⟩ := hB.glob
  have kd := I.fr.kind
  have g1 : s.heap.Ns mainGlobals mg := h1.keeps fun b o e => I.frBase e
  have g2 : s.heap.Ns builtinsNs mb := h2.keeps fun b o e => I.frBase e
  unfold loadName
  simp only [Env.blockKind, kd, hk, ScopeKind.isAnnotationScope, Bool.false_and, Bool.false_eq_true, if_false]
  unfold loadGlobal
  rw [I.fr.gl, I.fr.bl]
  refine wpAny_bind (wpAny_nsGet g1 ?_)
  rcases hy mg mb h1 h2 with e | ⟨e1, e2⟩
  · rw [e]; exact wpAny_pure h
  · rw [e1]; refine wpAny_bind (wpAny_nsGet g2 ?_); rw [e2]; exact wpAny_pure h

theorem ns_unique {h : Heap} {a : Addr} {m m' : Str → Option Value} (x : h.Ns a m) (y : h.Ns a m') : m = m' := by
  obtain ⟨o, es, ep, ho, hd, _, hm⟩ := x
  obtain ⟨o', es', ep', ho', hd', _, hm'⟩ := y
  rw [ho] at ho'; cases ho'
  rw [hd] at hd'; cases hd'
  funext n
  rw [← hm n, ← hm' n]

theorem cVar_spec {sc : Scope} {x : Str} {i : Nat} (e : cVar sc x = some i) : badName x = false ∧ ∃ k, kindIdx sc x = some (i, k) ∧ (k = .local ∨ k = .cell ∨ k = .free) := by
  unfold cVar at e
  split at e
  · cases e
  · rename_i hb
    refine ⟨by simpa using hb, ?_⟩
    split at e <;> first | (cases e; rename_i q; exact ⟨_, q, by simp⟩) | cases e
set_option tactic.hygienic true in
theorem isGlob_spec {sc : Scope} {x : Str} (e : isGlob sc x = true) : badName x = false ∧ ∃ i, kindIdx sc x = some (i, .globalImplicit) := by
  unfold isGlob at e
  simp only [Bool.and_eq_true, Bool.not_eq_true'] at e
  refine ⟨e.1, ?_⟩
  have e2 := e.2
  split at e2
  · rename_i i q; exact ⟨i, q⟩
  · cases e2

set_option tactic.hygienic true in
theorem ev_name (hB : GlobOk X) {sc : Scope} (hs : ScOk sc env) {x : Str} {pos : Pos} {e : E} {hd : Bool} {C : V → List V → Store → Out V} (he : cName sc x = some e) :
    Snd X A G stk env ℓ R (rV X) (eval (.Name x pos) env) (fun σ => evE X.P hd C e ℓ σ) := by
  intro σ ρ s I hr hb
  unfold cName at he
  show wpAny _ _ (do standAt pos; if x == ("__debug__" : Str) then debugConstant else loadName env x) _ _ _
  refine wpAny_bind (wpAny_standAt ?_)
  split at he
  · rename_i i q
    cases he
    obtain ⟨hn, k, e1, e2⟩ := cVar_spec q
    obtain ⟨k', f1, f2, f3⟩ := hs x i k e1
    rw [badName_debug hn]
    simp only [q_int, q_str, q_bool, q_none, q_var, q_glob, q_bin, q_neg, q_not, q_and, q_or, q_cmp, q_cmp2, q_call, q_sub, q_list, q_tup, q_comp] at hb ⊢
    cases hv : ℓ[i]? with
    | none => rw [hv] at hb; exact absurd rfl hb
    | some o =>
      cases o with
      | none => rw [hv] at hb; exact absurd rfl hb
      | some v =>
        refine wp_loadName_any I f1 f2 ?_ hv hn fun y r => ⟨v, σ, ρ, rfl, Rle.refl _, Fz.refl _, I, r⟩
        rcases f3 with rfl | ⟨_, rfl⟩
        · exact e2
        · exact .inr (.inl rfl)
  · split at he
    · rename_i hg
      cases he
      obtain ⟨hn, i, e1⟩ := isGlob_spec hg
      obtain ⟨k', f1, f2, f3⟩ := hs x i _ e1
      rw [badName_debug hn]
      have : k' = .globalImplicit := by
        rcases f3 with rfl | ⟨q, _⟩
        · rfl
        · cases q
      subst this
      simp only [q_int, q_str, q_bool, q_none, q_var, q_glob, q_bin, q_neg, q_not, q_and, q_or, q_cmp, q_cmp2, q_call, q_sub, q_list, q_tup, q_comp] at hb ⊢
      cases hv : X.P.glob x with
      | none => rw [hv] at hb; exact absurd rfl hb
      | some v =>
        obtain ⟨mg, mb, h1, h2, h3, _⟩ := hB.glob
        obtain ⟨y, hy, r⟩ := h3 x v hv
        exact wp_loadGlob hB I f2 (fun mg' mb' z1 z2 => ns_unique h1 z1 ▸ ns_unique h2 z2 ▸ hy) ⟨v, σ, ρ, rfl, Rle.refl _, Fz.refl _, I, r.mono (rle0 _) (fz0 I)⟩
    · cases he
end
end Mine
end

section
set_option tactic.hygienic false
set_option bootstrap.genMatcherCode false
set_option maxRecDepth 100000
set_option linter.unusedSimpArgs false
set_option linter.unusedVariables false
namespace Mine
open PySem PySem.W PySem.Calls PyProof.Rows

theorem nodup_names {l : List (Str × NameKind)} (nd : (l.map (·.1)).Nodup) {i j : Nat} {x : Str} {k k' : NameKind} (h1 : l[i]? = some (x, k)) (h2 : l[j]? = some (x, k')) : i = j := by
  obtain ⟨a, e1⟩ := List.getElem?_eq_some_iff.mp h1
  obtain ⟨b, e2⟩ := List.getElem?_eq_some_iff.mp h2
  have := (List.nodup_iff_pairwise_ne.mp nd)
  refine (List.getElem_inj (xs := l.map (·.1)) (h₀ := by simpa using a) (h₁ := by simpa using b) nd).mp ?_
  simp only [List.getElem_map, e1, e2]

section
variable {X : Cy} {A : Around} {G : Heap} {stk : List Env} {env : Env} {ℓ : Loc} {σ : Store} {ρ : Rho} {s : Shared}

theorem wp_store {Q : Unit → Shared → Prop} {E : Value → Shared → Prop} (I : Inv X G stk env ℓ σ ρ s) {x : Str} {i : Nat} {k : NameKind} {v : V} {y : Value} (hx : env.scope.names[i]? = some (x, k)) (hk : env.kindOf x = some k)
    (hkk : k = .local ∨ (k = .cell ∧ env.func.isSome = true)) (hv : Rv X.toCx ρ s.heap v y)
    (h : ∀ s', Fz s.heap s'.heap → Inv X G stk env (ℓ.set i (some v)) σ ρ s' → Q () s') : wpAny (model X.prog X.w) A (storeName env x y) Q E s := by
  have kd := I.fr.kind
  have hilt : i < ℓ.length := by rw [I.fr.len]; exact (List.getElem?_eq_some_iff.mp hx).1
  rcases hkk with rfl | ⟨rfl, hfun⟩
  · obtain ⟨m, hm, hr⟩ := I.fr.ns
    refine wpAny_storeName_local hk hm (fun h' hn' hs' => ?_) (by rw [kd]; rfl)
    obtain ⟨o, es, ep, ho, hd, _⟩ := hm
    obtain ⟨o', es', ep', ho', hd', _⟩ := id hn'
    have fz : Fz s.heap h' := .but (fun b ob q e => (hs'.2 b q).trans e) ho ho' (fun q => by rcases q with ⟨_, i, n, z⟩ | ⟨_, _, _, z⟩ <;> (rw [hd] at z; cases z)) (fun _ q => by rw [hd] at q; cases q) (fun _ q => by rw [hd'] at q; cases q) (fun _ _ _ => ⟨_, _, hd'⟩)
    refine h _ fz ?_
    refine I.chg (fun b => b = env.locals) fz (fun b ob e q => (hs'.2 b q).trans e) (fun b q => q ▸ I.ownL.1) ?_ I.ownL.2 I.len (fun n c p e1 e2 => ?_) I.sep I.fresh rfl rfl
    · refine ⟨kd, I.fr.gl, I.fr.bl, by simp [I.fr.len], I.fr.nd, ⟨_, hn', fun j u z e1 e2 => ?_⟩, fun j z kz e1 e2 => ?_⟩
      · by_cases q : j = i
        · subst q
          rw [hx] at e2; cases e2
          rw [List.getElem?_set] at e1
          simp [hilt] at e1; subst e1
          exact ⟨y, by simp, hv.mono (Rle.refl _) fz⟩
        · rw [List.getElem?_set_ne (Ne.symm q)] at e1
          obtain ⟨w, a, r⟩ := hr j u z e1 e2
          have : z ≠ x := fun hz => q (nodup_names I.fr.nd e2 (hz ▸ hx))
          exact ⟨w, by simp [this, a], r.mono (Rle.refl _) fz⟩
      · have q : j ≠ i := fun q => by subst q; rw [hx] at e1; cases e1; rcases e2 with q | q <;> cases q
        obtain ⟨c, oc, w, a1, a2, a3, a4, a5⟩ := I.fr.cl j z kz e1 e2
        have hne : c ≠ env.locals := fun q => by rw [q, ho] at a2; cases a2; rw [hd] at a4; cases a4
        refine ⟨c, oc, w, a1, (hs'.2 c hne).trans a2, a3, a4, fun u hu => ?_⟩
        rw [List.getElem?_set_ne (Ne.symm q)] at hu
        obtain ⟨z', r1, r2⟩ := a5 u hu
        exact ⟨z', r1, r2.mono (Rle.refl _) fz⟩
    · obtain ⟨n1, n2⟩ := I.ownL.2 n p e2
      exact (I.cells n c p e1 e2).mono (Rle.refl _) fz (fun o e => (hs'.2 _ n1).trans e) (fun o e => (hs'.2 _ n2).trans e)
  · obtain ⟨c, oc, w, a1, a2, a3, a4, a5⟩ := I.fr.cl i x _ hx (.inl rfl)
    obtain ⟨f1, f2, f3⟩ := I.ownC hfun x c a1
    unfold storeName
    simp only [hk, kd]
    simp only [show (some NameKind.cell == some NameKind.globalImplicit) = false from rfl, show (ScopeKind.function == ScopeKind.class) = false from rfl, Bool.false_and, Bool.false_eq_true, if_false]
    unfold cellOf cellSet
    rw [a1]
    refine wpAny_bind (wpAny_pure (wpAny_bind (wpAny_load a2 ?_)))
    rw [a4]
    refine wpAny_update a2 ?_
    have ho' := Heap.get?_update_self (fun o => { o with data := .cell (some y) }) a2 rfl
    have hs' : ∀ b ob, b ≠ c → s.heap.get? b = some ob → (s.heap.update c fun o => { o with data := .cell (some y) }).get? b = some ob := fun b ob q e => (Heap.get?_update_other _ _ (Ne.symm q)).trans e
    have fz : Fz s.heap (s.heap.update c fun o => { o with data := .cell (some y) }) := .but hs' a2 ho' (fun q => by rcases q with ⟨_, i, n, z⟩ | ⟨_, _, _, z⟩ <;> (rw [a4] at z; cases z)) (fun _ q => by rw [a4] at q; cases q) (fun _ q => by cases q) (fun _ _ q => by rw [a4] at q; cases q)
    refine h _ fz ?_
    refine I.chg (s' := { s with heap := s.heap.update c fun o => { o with data := .cell (some y) } }) (fun b => b = c) fz (fun b ob e q => hs' b ob q e) (fun b q => q ▸ f1) ?_ I.ownL.2 I.len (fun n cc p e1 e2 => ?_) I.sep I.fresh rfl rfl
    · obtain ⟨m, hm, hr⟩ := I.fr.ns
      refine ⟨kd, I.fr.gl, I.fr.bl, by simp [I.fr.len], I.fr.nd, ⟨m, ns_data hm fun o e => ⟨o, hs' _ _ (Ne.symm f2) e, rfl⟩, fun j u z e1 e2 => ?_⟩, fun j z kz e1 e2 => ?_⟩
      · have q : j ≠ i := fun q => by subst q; rw [hx] at e2; cases e2
        rw [List.getElem?_set_ne (Ne.symm q)] at e1
        obtain ⟨w, a, r⟩ := hr j u z e1 e2
        exact ⟨w, a, r.mono (Rle.refl _) fz⟩
      · by_cases q : j = i
        · subst q
          rw [hx] at e1; cases e1
          refine ⟨c, _, some y, a1, ho', ⟨_, rfl⟩, rfl, fun u hu => ?_⟩
          rw [List.getElem?_set] at hu
          simp [hilt] at hu; subst hu
          exact ⟨y, rfl, hv.mono (Rle.refl _) fz⟩
        · obtain ⟨c', oc', w', b1, b2, b3, b4, b5⟩ := I.fr.cl j z kz e1 e2
          have hne : c' ≠ c := fun hq => q (by
            subst hq
            have hz : z = x := f3 z b1
            subst hz
            exact nodup_names I.fr.nd e1 hx)
          refine ⟨c', oc', w', b1, hs' _ _ hne b2, b3, b4, fun u hu => ?_⟩
          rw [List.getElem?_set_ne (Ne.symm q)] at hu
          obtain ⟨z', r1, r2⟩ := b5 u hu
          exact ⟨z', r1, r2.mono (Rle.refl _) fz⟩
    · obtain ⟨n1, n2⟩ := I.notCell e2 a2 a3
      exact (I.cells n cc p e1 e2).mono (Rle.refl _) fz (fun o e => hs' _ _ n1 e) (fun o e => hs' _ _ n2 e)

theorem wp_bindName {Q : Unit → Shared → Prop} {E : Value → Shared → Prop} (I : Inv X G stk env ℓ σ ρ s) {x : Str} {i : Nat} {k : NameKind} {v : V} {y : Value} (hx : env.scope.names[i]? = some (x, k)) (hk : env.kindOf x = some k)
    (hkk : k = .local ∨ (k = .cell ∧ env.func.isSome = true)) (hv : Rv X.toCx ρ s.heap v y)
    (h : ∀ s', Fz s.heap s'.heap → Inv X G stk env (ℓ.set i (some v)) σ ρ s' → Q () s') : wpAny (model X.prog X.w) A (bindName env x y) Q E s := by
  unfold bindName
  refine wpAny_bind (wpAny_holding (wpAny_point' (wpAny_bind (wp_store I hx hk hkk hv fun s' fz I' => wpAny_point' (h s' fz I')))))
end
end Mine
end

section
set_option tactic.hygienic false
set_option bootstrap.genMatcherCode false
set_option maxRecDepth 100000
set_option linter.unusedSimpArgs false
set_option linter.unusedVariables false
namespace Mine
open PySem PySem.W PySem.Calls PyProof.Rows

/-- all that stands in a heap, but one address -/
noncomputable def allNews (h : Heap) (L : Addr) : List (Addr × Obj) := (List.range h.objs.size).filterMap fun a => if a = L then none else (h.get? a).map fun o => (a, o)
theorem mem_allNews {h : Heap} {L a : Addr} {o : Obj} (e : h.get? a = some o) (n : a ≠ L) : (a, o) ∈ allNews h L :=
  List.mem_filterMap.mpr ⟨a, List.mem_range.mpr (Heap.lt_size e), by rw [if_neg n, e]; rfl⟩
theorem allNews_ok (h : Heap) (L : Addr) : News {} L h (allNews h L) := fun p hp => by
  obtain ⟨a, _, e⟩ := List.mem_filterMap.mp hp
  split at e
  · cases e
  · rename_i n
    obtain ⟨o, ho, rfl⟩ := Option.map_eq_some_iff.mp e
    exact ⟨ho, n, rfl⟩

section
variable {X : Cy} {A : Around} {G : Heap} {stk : List Env} {env : Env} {ℓ : Loc} {σ : Store} {ρ : Rho} {s s' : Shared}

theorem frEmpty {h : Heap} {L : Addr} {m : Str → Option Value} (hm : h.Ns L m) : Fr {} L h m := ⟨hm, (fun b o e => by cases e), Nat.zero_le _⟩

/-- the heap is as it was but for new things and the frame's object, whose names are as they were -/
theorem Inv.ofNews (I : Inv X G stk env ℓ σ ρ s) {m : Str → Option Value} (hm : s.heap.Ns env.locals m) (F' : s'.heap.Ns env.locals m) (k : ∀ b o, b ≠ env.locals → s.heap.get? b = some o → s'.heap.get? b = some o)
    (hg : s'.gens = s.gens) (ho : s'.os = s.os) : Fz s.heap s'.heap ∧ Inv X G stk env ℓ σ ρ s' := by
  obtain ⟨o, es, ep, h1, h2, _⟩ := id hm
  obtain ⟨o', es', ep', h1', h2', _⟩ := id F'
  have fz : Fz s.heap s'.heap := .but k h1 h1' (fun q => by rcases q with ⟨_, i, n, z⟩ | ⟨_, _, _, z⟩ <;> (rw [h2] at z; cases z)) (fun _ q => by rw [h2] at q; cases q) (fun _ q => by rw [h2'] at q; cases q) (fun _ _ _ => ⟨_, _, h2'⟩)
  refine ⟨fz, I.chg (fun b => b = env.locals) fz (fun b ob e q => k b ob q e) (fun b q => q ▸ I.ownL.1) ?_ I.ownL.2 I.len (fun n c p e1 e2 => ?_) I.sep I.fresh hg ho⟩
  · obtain ⟨m', hm', hr⟩ := I.fr.ns
    have := ns_unique hm hm'
    subst this
    refine ⟨I.fr.kind, I.fr.gl, I.fr.bl, I.fr.len, I.fr.nd, ⟨m, F', fun j u z e1 e2 => ?_⟩, fun j z kz e1 e2 => ?_⟩
    · obtain ⟨w, a, r⟩ := hr j u z e1 e2; exact ⟨w, a, r.mono (Rle.refl _) fz⟩
    · obtain ⟨c, oc, w, a1, a2, a3, a4, a5⟩ := I.fr.cl j z kz e1 e2
      have hne : c ≠ env.locals := fun q => by rw [q, h1] at a2; cases a2; rw [h2] at a4; cases a4
      refine ⟨c, oc, w, a1, k _ _ hne a2, a3, a4, fun u hu => ?_⟩
      obtain ⟨z', r1, r2⟩ := a5 u hu
      exact ⟨z', r1, r2.mono (Rle.refl _) fz⟩
  · obtain ⟨n1, n2⟩ := I.ownL.2 n p e2
    exact (I.cells n c p e1 e2).mono (Rle.refl _) fz (fun o e => k _ _ n1 e) (fun o e => k _ _ n2 e)

theorem Inv.fresh' (I : Inv X G stk env ℓ σ ρ s) {a : Addr} (h : s.heap.get? a = none) : G.get? a = none ∧ a ≠ env.locals ∧ ∀ (n : Nat) p, ρ[n]? = some p → p.1 ≠ a ∧ p.2 ≠ a := by
  refine ⟨?_, ?_, fun n p e => ?_⟩
  · cases q : G.get? a with
    | none => rfl
    | some o => obtain ⟨sl, e, _⟩ := I.keep _ o q; rw [h] at e; cases e
  · obtain ⟨m, hm, _⟩ := I.fr.ns
    obtain ⟨o, ho, _⟩ := ns_at hm
    intro q; rw [q, ho] at h; cases h
  · obtain ⟨c, _, hc⟩ := I.rhoCell e
    obtain ⟨⟨o1, a1, _⟩, ⟨o2, a2, _⟩⟩ := hc.at
    exact ⟨(fun q => by rw [q, h] at a1; cases a1), (fun q => by rw [q, h] at a2; cases a2)⟩
theorem get?_size (h : Heap) : h.get? h.objs.size = none := by
  cases q : h.get? h.objs.size with
  | none => rfl
  | some o => exact absurd (Heap.lt_size q) (Nat.lt_irrefl _)

/-- a thing that stands becomes a cell -/
theorem Inv.adopt (I : Inv X G stk env ℓ σ ρ s) {a d : Addr} {c : Cell} (ha : G.get? a = none ∧ a ≠ env.locals ∧ ∀ (n : Nat) p, ρ[n]? = some p → p.1 ≠ a ∧ p.2 ≠ a) (hd : G.get? d = none ∧ d ≠ env.locals ∧ ∀ (n : Nat) p, ρ[n]? = some p → p.1 ≠ d ∧ p.2 ≠ d)
    (hc : CellOk X.toCx (ρ ++ [(a, d)]) s.heap (a, d) c) : Inv X G stk env ℓ (σ ++ [c]) (ρ ++ [(a, d)]) s := by
  have le : Rle ρ (ρ ++ [(a, d)]) := Rle.append _ _
  have split : ∀ {n : Nat} {p : Addr × Addr}, (ρ ++ [(a, d)])[n]? = some p → ρ[n]? = some p ∨ (n = ρ.length ∧ p = (a, d)) := fun {n p} e => by
    by_cases q : n < ρ.length
    · rw [List.getElem?_append_left q] at e; exact .inl e
    · rw [List.getElem?_append_right (Nat.le_of_not_lt q)] at e
      by_cases q' : n - ρ.length = 0
      · rw [q'] at e; cases e; exact .inr ⟨by omega, rfl⟩
      · rw [List.getElem?_eq_none (by simp; omega)] at e; cases e
  refine I.chg (fun _ => False) (Fz.refl _) (fun b o e _ => e) (fun _ q => q.elim) (I.fr.mono le (Fz.refl _) (fun o e => ⟨o, e, rfl⟩) fun x c _ o e _ _ => ⟨o, e, rfl, rfl⟩) (fun n p e => ?_) (by simp [I.len]) (fun n c' p e1 e2 => ?_) (fun n m p q e1 e2 hne => ?_) (fun n p e => ?_) rfl rfl
  · rcases split e with e | ⟨_, rfl⟩
    · exact I.ownL.2 n p e
    · exact ⟨ha.2.1, hd.2.1⟩
  · rcases split e2 with e | ⟨rfl, rfl⟩
    · have hn : n < σ.length := by rw [← I.len]; exact (List.getElem?_eq_some_iff.mp e).1
      rw [List.getElem?_append_left hn] at e1
      exact (I.cells n c' p e1 e).mono le (Fz.refl _) (fun _ e => e) (fun _ e => e)
    · rw [I.len, List.getElem?_append_right (Nat.le_refl _)] at e1
      simp at e1; subst e1; exact hc
  · rcases split e1 with x | ⟨a1, rfl⟩ <;> rcases split e2 with y | ⟨b1, rfl⟩
    · exact I.sep n m p q x y hne
    · exact ⟨(ha.2.2 n p x).1, (hd.2.2 n p x).1, (ha.2.2 n p x).2, (hd.2.2 n p x).2⟩
    · exact ⟨(ha.2.2 m q y).1.symm, (ha.2.2 m q y).2.symm, (hd.2.2 m q y).1.symm, (hd.2.2 m q y).2.symm⟩
    · exact absurd (a1.trans b1.symm) hne
  · rcases split e with e | ⟨_, rfl⟩
    · exact I.fresh n p e
    · exact ⟨ha.1, hd.1⟩

/-- the end of a rule that lays one new list -/
theorem Inv.newList (I : Inv X G stk env ℓ σ ρ s) {m : Str → Option Value} (hm : s.heap.Ns env.locals m) {a : Addr} {l : List V} {items : List Value} (hfr : s.heap.get? a = none) (hl : RvL X.toCx ρ s.heap l items)
    (F' : s'.heap.Ns env.locals m) (k : ∀ b o, b ≠ env.locals → s.heap.get? b = some o → s'.heap.get? b = some o) {o : Obj} {n : Nat} (ho' : s'.heap.get? a = some o) (hc : o.cls = .type "list") (hd : o.data = .seq items.toArray n) (hdd : o.dict = none ∧ o.slots = #[])
    (hg : s'.gens = s.gens) (ho : s'.os = s.os) : Fz s.heap s'.heap ∧ Inv X G stk env ℓ (σ ++ [.list l]) (ρ ++ [(a, a)]) s' ∧ Rv X.toCx (ρ ++ [(a, a)]) s'.heap (.loc σ.length) (.ref a) := by
  obtain ⟨fz, I'⟩ := I.ofNews hm F' k hg ho
  have fr := I.fresh' hfr
  refine ⟨fz, I'.adopt fr fr ⟨rfl, o, n, items, ho', hc, hd, hl.mono (Rle.append _ _) fz, hdd⟩, ?_⟩
  exact Rv.loc (p := (a, a)) (by rw [← I.len, List.getElem?_append_right (Nat.le_refl _)]; simp)
end
end Mine
end

section
set_option tactic.hygienic false
set_option bootstrap.genMatcherCode false
set_option maxRecDepth 100000
set_option linter.unusedSimpArgs false
set_option linter.unusedVariables false
namespace Mine
open PySem PySem.W PySem.Calls PyProof.Rows

theorem intBits_le {a : Int} (h : a.natAbs < 2 ^ 64) : Builtin.Int.intBits a ≤ 64 := by
  exact intBits_le_64 (by omega) (by omega)

section
variable {X : Cy} {A : Around} {G : Heap} {stk : List Env} {env : Env} {ℓ : Loc} {σ : Store} {ρ : Rho} {s s' : Shared} {R : Rho → Heap → Prop} {α β : Type}

theorem qok_same {RR : α → β → Rho → Heap → Prop} (I : Inv X G stk env ℓ σ ρ s) {o : Out α} {a : α} {b : β} (e : o = .ok a σ) (rr : RR a b ρ s'.heap) (hh : s'.heap = s.heap := by rfl) (hg : s'.gens = s.gens := by rfl) (ho : s'.os = s.os := by rfl) :
    Qok X G stk env ℓ RR o ρ s b s' := ⟨a, σ, ρ, e, Rle.refl _, by rw [hh]; exact Fz.refl _, I.cast hh hg ho, rr⟩

theorem tup_inv {l : List V} {x : Value} (h : Rv X.toCx ρ s.heap (.tup l) x) : ∃ a items n o, x = .ref a ∧ s.heap.get? a = some o ∧ o.cls = .type "tuple" ∧ o.data = .seq (List.toArray items) n ∧ RvL X.toCx ρ s.heap l items := by
  cases h with | tup o n ho hc hd hl => exact ⟨_, _, n, o, rfl, ho, hc, hd, hl⟩
theorem loc_inv {h : Heap} {n : Nat} {x : Value} (h : Rv X.toCx ρ h (.loc n) x) : ∃ p, x = .ref p.1 ∧ ρ[n]? = some p := by
  cases h with | loc hp => exact ⟨_, rfl, hp⟩
theorem Inv.listAt (I : Inv X G stk env ℓ σ ρ s) {n : Nat} {l : List V} {x : Value} (h : Rv X.toCx ρ s.heap (.loc n) x) (e : σ[n]? = some (.list l)) :
    ∃ a items k o, x = .ref a ∧ ρ[n]? = some (a, a) ∧ s.heap.get? a = some o ∧ o.cls = .type "list" ∧ o.data = .seq (List.toArray items) k ∧ RvL X.toCx ρ s.heap l items := by
  obtain ⟨p, rfl, hp⟩ := loc_inv h
  obtain ⟨p', hp', hc⟩ := I.cellOf e
  rw [hp] at hp'; cases hp'
  obtain ⟨q, o, k, items, a1, a2, a3, a4, _⟩ := hc
  refine ⟨p.1, items, k, o, rfl, ?_, a1, a2, a3, a4⟩
  rw [hp]
  obtain ⟨p1, p2⟩ := p
  simp only at q; rw [q]
theorem isList_of {h : Heap} {a : Addr} {o : Obj} {items : List Value} {n : Nat} (ho : h.get? a = some o) (hc : o.cls = .type "list") (hd : o.data = .seq items.toArray n) : h.IsList a items.toArray := ⟨o, ho, hc, n, hd⟩

theorem intP_spec {a b : V} {p : Int × Int} (h : intP a b = some p) : a = .int p.1 ∧ b = .int p.2 := by
  unfold intP at h
  split at h
  · cases h; exact ⟨rfl, rfl⟩
  · cases h
theorem bin_bad {o : Bop} {a b : V} (h : intP a b = none) (h' : binL σ a b = .bad) : binV o a b σ = .bad := by
  unfold binV
  rw [h]
  dsimp only
  rw [h']
  exact ite_self _
theorem snd_binI {op : Operator} {o : Bop} (hop : cBop op = some o) {i j : Int} {t u : Tok} (I : Inv X G stk env ℓ σ ρ s) (hb : binI o i j σ ≠ .bad) : wpAny (model X.prog X.w) A (binaryOp op (.int i t) (.int j u)) (Qok X G stk env ℓ (rV X) (binI o i j σ) ρ s) (Qex X G stk env ℓ (binI o i j σ) ρ s) s := by
  cases op with
  | Add => cases Option.some.inj hop; exact PyProof.Rows.add_int (qok_same I rfl (.int _ _))
  | Sub => cases Option.some.inj hop; exact PyProof.Rows.sub_int (qok_same I rfl (.int _ _))
  | Mult =>
    cases Option.some.inj hop
    by_cases hm : mulOk i j = true
    · refine PyProof.Rows.mul_int (qok_same I (if_pos hm) (.int _ _)) ?_
      simp only [mulOk, Bool.or_eq_true, decide_eq_true_eq] at hm
      rcases hm with hm | hm
      · exact IntMulOk.of_left (intBits_le hm)
      · exact IntMulOk.of_right (intBits_le hm)
    · exact absurd (if_neg hm) hb
  | Mod =>
    cases Option.some.inj hop
    by_cases hp : 0 < j
    · refine PyProof.Rows.mod_int' (Int.ne_of_gt hp) (qok_same I (if_pos hp) ?_)
      rw [Int.fmod_eq_emod_of_nonneg _ (Int.le_of_lt hp)]
      exact .int _ _
    · exact absurd (if_neg hp) hb
  | Pow =>
    cases Option.some.inj hop
    by_cases hp : i = 10 ∧ 0 ≤ j ∧ j ≤ 18
    · exact PyProof.Rows.pow_int_small hp.2.1 (by omega) (by rw [hp.1]; decide) (qok_same I (if_pos hp) (.int _ _))
    · exact absurd (if_neg hp) hb
  | FloorDiv =>
    cases Option.some.inj hop
    by_cases hp : 0 < j ∧ j < 1073741824
    · refine PyProof.Rows.floordiv_int (Int.ne_of_gt hp.1) (qok_same I (if_pos hp) ?_) (.inl (PyProof.noPylong_small (by omega)))
      rw [Int.fdiv_eq_ediv_of_nonneg _ (Int.le_of_lt hp.1)]
      exact .int _ _
    · exact absurd (if_neg hp) hb
  | _ => exact no_some hop
theorem binL_inv {i j : Nat} (hb : binL σ (.loc i) (.loc j) ≠ .bad) : ∃ l1 l2, σ[i]? = some (.list l1) ∧ σ[j]? = some (.list l2) ∧ l1.length + l2.length ≤ szL ∧ binL σ (.loc i) (.loc j) = .ok (.loc σ.length) (σ ++ [.list (l1 ++ l2)]) := by
  unfold binL at hb ⊢
  dsimp only at hb ⊢
  refine cps fun Gz kz => ?_
  cases e1 : σ[i]? with
  | none => rw [e1] at hb; exact absurd rfl hb
  | some c1 =>
    cases e2 : σ[j]? with
    | none => rw [e1, e2] at hb; exact absurd rfl hb
    | some c2 =>
      obtain ⟨l1⟩ := c1
      obtain ⟨l2⟩ := c2
      rw [e1, e2] at hb kz
      by_cases hz : l1.length + l2.length ≤ szL
      · exact kz ⟨l1, l2, rfl, rfl, hz, if_pos hz⟩
      · exact absurd (if_neg hz) hb
theorem snd_binL {i j : Nat} {x y : Value} (I : Inv X G stk env ℓ σ ρ s) (ra : Rv X.toCx ρ s.heap (.loc i) x) (rb : Rv X.toCx ρ s.heap (.loc j) y) {o : Out V} (ho : o = binL σ (.loc i) (.loc j)) (hb : binL σ (.loc i) (.loc j) ≠ .bad) : wpAny (model X.prog X.w) A (binaryOp .Add x y) (Qok X G stk env ℓ (rV X) o ρ s) (Qex X G stk env ℓ o ρ s) s := by
  refine cps fun Gz kz => ?_
  obtain ⟨l1, l2, e1, e2, hz, eo⟩ := binL_inv hb
  obtain ⟨a1, it1, k1, o1, rfl, p1, g1, c1, d1, r1⟩ := I.listAt ra e1
  obtain ⟨a2, it2, k2, o2, rfl, p2, g2, c2, d2, r2⟩ := I.listAt rb e2
  obtain ⟨m, hm, _⟩ := I.fr.ns
  refine kz (add_arrays (frEmpty hm) (allNews_ok s.heap env.locals) (isList_of g1 c1 d1) (isList_of g2 c2 d2) (fun h' F' N' => ?_) (by simpa [r1.length, r2.length, sizeLine, szL] using hz))
  have nl := I.newList (s' := { s with heap := h' }) hm (get?_size _) (r1.append r2) F'.ns (fun b o hb e => (N' _ (.tail _ (mem_allNews e hb))).1) (N' _ (.head _)).1 rfl (by simp; rfl) ⟨rfl, rfl⟩ rfl rfl
  exact ⟨_, _, _, ho.trans eo, Rle.append _ _, nl.1, nl.2.1, nl.2.2⟩
theorem bin_cases {o : Bop} {a b : V} (hb : binV o a b σ ≠ .bad) : (∃ i j, a = .int i ∧ b = .int j) ∨ ∃ i j, a = .loc i ∧ b = .loc j ∧ o = .add := by
  cases a with
  | int i => cases b with
    | int j => exact .inl ⟨i, j, rfl, rfl⟩
    | _ => exact absurd (bin_bad rfl rfl) hb
  | loc i => cases b with
    | loc j =>
      by_cases ho : o = .add
      · exact .inr ⟨i, j, rfl, rfl, ho⟩
      · exact absurd (if_neg ho) hb
    | _ => exact absurd (bin_bad rfl rfl) hb
  | _ => exact absurd (bin_bad rfl rfl) hb
theorem op_add {op : Operator} (h : cBop op = some .add) : Operator.Add = op := by
  cases op with
  | Add => rfl
  | _ => cases h
theorem snd_bin {op : Operator} {o : Bop} (hop : cBop op = some o) (a b : V) (x y : Value) (hR : ∀ ρ h, R ρ h → Rv X.toCx ρ h a x ∧ Rv X.toCx ρ h b y) :
    Snd X A G stk env ℓ R (rV X) (binaryOp op x y) (fun σ => binV o a b σ) := by
  intro σ ρ s I hr hb
  have ra := (hR _ _ hr).1
  have rb := (hR _ _ hr).2
  clear hR hr
  rcases bin_cases hb with ⟨i, j, rfl, rfl⟩ | ⟨i, j, rfl, rfl, rfl⟩
  · cases ra; cases rb; exact snd_binI hop I hb
  · exact op_add hop ▸ snd_binL I ra rb rfl hb
end
end Mine
end

section
set_option tactic.hygienic false
set_option bootstrap.genMatcherCode false
set_option maxRecDepth 100000
set_option linter.unusedSimpArgs false
set_option linter.unusedVariables false
namespace Mine
open PySem PySem.W PySem.Calls PyProof.Rows

section
variable {X : Cy} {A : Around} {G : Heap} {stk : List Env} {env : Env} {ℓ : Loc} {σ : Store} {ρ : Rho} {s s' : Shared} {R : Rho → Heap → Prop} {α β : Type}

theorem ofOpt_bad {α : Type} {σ : Store} {o : Option α} (h : Out.ofOpt σ o ≠ .bad) : ∃ a, o = some a := by
  cases o with
  | none => exact absurd rfl h
  | some a => exact ⟨a, rfl⟩

theorem isNone_iff {v : V} {x : Value} {h : Heap} (r : Rv X.toCx ρ h v x) : (x == .none) = isNoneV v := by cases r <;> rfl
theorem byNone_spec {a b : V} {r : Bool} (h : byNone a b = some r) : b = .none ∧ isNoneV a = r := by
  unfold byNone at h; split at h
  · cases h; exact ⟨rfl, rfl⟩
  · cases h

theorem datL_of (n : Nat) (ih : ∀ (v : V) (x : Value) (d : PyData), dat σ n v = some d → Rv X.toCx ρ s.heap v x → (∃ as, Reads s.heap x d as) ∧ d.canLay0 = true ∧ d.depth ≤ n) :
    ∀ (l : List V) (xs : List Value) (ds : List PyData), datL σ n l = some ds → RvL X.toCx ρ s.heap l xs → (∃ as, ReadsAll s.heap xs ds as) ∧ PyData.canLayAll0 ds = true ∧ PyData.depthAll ds ≤ n := by
  intro l
  induction l with
  | nil =>
    intro xs ds e r
    cases r
    cases Option.some.inj e
    exact ⟨⟨_, .nil⟩, rfl, Nat.zero_le _⟩
  | cons v l ihl =>
    intro xs ds e r
    cases r with | cons hv hl => ?_
    refine cps fun Gz kz => ?_
    obtain ⟨d, e1, e2⟩ := Option.bind_eq_some_iff.mp e
    obtain ⟨ds', e3, rfl⟩ := Option.map_eq_some_iff.mp e2
    obtain ⟨⟨as, r⟩, c1, c2⟩ := ih v _ d e1 hv
    obtain ⟨⟨bs, rs⟩, c3, c4⟩ := ihl _ ds' e3 hl
    exact kz ⟨⟨_, .cons r rs⟩, by simp [PyData.canLayAll0, c1, c3], Nat.max_le.mpr ⟨c2, c4⟩⟩
theorem dat_reads0 {n : Nat} {v : V} {x : Value} {d : PyData} (e : dat0 v = some d) (r : Rv X.toCx ρ s.heap v x) : (∃ as, Reads s.heap x d as) ∧ d.canLay0 = true ∧ d.depth ≤ n := by
  cases r with
  | none => cases Option.some.inj e; exact ⟨⟨_, .none⟩, rfl, Nat.zero_le _⟩
  | bool b => cases Option.some.inj e; exact ⟨⟨_, .bool b⟩, rfl, Nat.zero_le _⟩
  | int i t => cases Option.some.inj e; exact ⟨⟨_, .int i t⟩, rfl, Nat.zero_le _⟩
  | _ => exact no_some e
theorem dat_cases {n : Nat} {v : V} {d : PyData} (e : dat σ (n + 1) v = some d) : (∃ l ds, v = .tup l ∧ datL σ n l = some ds ∧ d = .tuple ds) ∨ (∃ i l ds, v = .loc i ∧ σ[i]? = some (.list l) ∧ datL σ n l = some ds ∧ d = .list ds) ∨ dat0 v = some d := by
  cases v with
  | tup l =>
    obtain ⟨ds, e1, e2⟩ := Option.map_eq_some_iff.mp e
    exact .inl ⟨l, ds, rfl, e1, e2.symm⟩
  | loc i =>
    cases e0 : σ[i]? with
    | none =>
      change (match σ[i]? with | some (.list l) => (optL (dat σ n) l).map PyData.list | _ => .none) = some d at e
      rw [e0] at e; exact no_some e
    | some c =>
      obtain ⟨l⟩ := c
      obtain ⟨ds, e1, e2⟩ := Option.map_eq_some_iff.mp ((d_loc e0).symm.trans e)
      exact .inr (.inl ⟨i, l, ds, rfl, e0, e1, e2.symm⟩)
  | _ => exact .inr (.inr e)
theorem dat_reads (I : Inv X G stk env ℓ σ ρ s) : ∀ (n : Nat) (v : V) (x : Value) (d : PyData), dat σ n v = some d → Rv X.toCx ρ s.heap v x → (∃ as, Reads s.heap x d as) ∧ d.canLay0 = true ∧ d.depth ≤ n := by
  intro n
  induction n with
  | zero => exact fun v x d e r => dat_reads0 e r
  | succ n ih =>
    intro v x d e r
    rcases dat_cases e with ⟨l, ds, rfl, e1, rfl⟩ | ⟨i, l, ds, rfl, e0, e1, rfl⟩ | e
    · refine cps fun Gz kz => ?_
      obtain ⟨a, items, k, o, rfl, h1, h2, h3, h4⟩ := tup_inv r
      obtain ⟨⟨as, rs⟩, c1, c2⟩ := datL_of n ih _ _ ds e1 h4
      exact kz ⟨⟨_, .tuple h1 h2 h3 (by simpa using rs)⟩, by rw [PyData.canLay0]; exact c1, by simp only [PyData.depth]; omega⟩
    · refine cps fun Gz kz => ?_
      obtain ⟨a, items, k, o, rfl, _, h1, h2, h3, h4⟩ := I.listAt r e0
      obtain ⟨⟨as, rs⟩, c1, c2⟩ := datL_of n ih _ _ ds e1 h4
      exact kz ⟨⟨_, .list h1 h2 h3 (by simpa using rs)⟩, by rw [PyData.canLay0]; exact c1, by simp only [PyData.depth]; omega⟩
    · exact dat_reads0 e r
theorem shaped_of {d : PyData} (h1 : d.canLay0 = true) (h2 : d.depth ≤ 8) : SeqAt.shaped d = true := by
  unfold SeqAt.shaped; rw [h1, Bool.true_and]; exact decide_eq_true (by omega)
theorem veq_spec (I : Inv X G stk env ℓ σ ρ s) {a b : V} {x y : Value} (ra : Rv X.toCx ρ s.heap a x) (rb : Rv X.toCx ρ s.heap b y) {r : Bool} (e : veq σ a b = some r) : ∃ da db as bs, Reads s.heap x da as ∧ Reads s.heap y db bs ∧ SeqAt.shaped da = true ∧ SeqAt.shaped db = true ∧ PyData.eqv da db = r := by
  refine cps fun Gz kz => ?_
  obtain ⟨da, e1, e2⟩ := Option.bind_eq_some_iff.mp e
  obtain ⟨db, e3, e4⟩ := Option.map_eq_some_iff.mp e2
  obtain ⟨⟨as, r1⟩, c1, c2⟩ := dat_reads I 8 a x da e1 ra
  obtain ⟨⟨bs, r2⟩, c3, c4⟩ := dat_reads I 8 b y db e3 rb
  exact kz ⟨da, db, as, bs, r1, r2, shaped_of c1 c2, shaped_of c3 c4, e4⟩

/-- a comparison -/
theorem wp_cmp {op : CmpOp} {a b : V} {x y : Value} {r : Bool} {Q : Value → Shared → Prop} {E : Value → Shared → Prop} (hu : A.units + 80 < cLine) (I : Inv X G stk env ℓ σ ρ s) (ra : Rv X.toCx ρ s.heap a x) (rb : Rv X.toCx ρ s.heap b y)
    (h : cmpV X.P (cCop op) a b σ = some r) (q : ∀ tk, Q (.bool r) { s with toks := tk }) : wpAny (model X.prog X.w) A (compareOp op x y) Q E s := by
  have hints : ∀ {p : Int × Int}, intP a b = some p → ∃ t u, x = .int p.1 t ∧ y = .int p.2 u := fun {p} e => by
    obtain ⟨rfl, rfl⟩ := intP_spec e
    cases ra; cases rb; exact ⟨_, _, rfl, rfl⟩
  cases op with
  | Lt =>
    obtain ⟨p, e, rfl⟩ := Option.map_eq_some_iff.mp h
    obtain ⟨t, u, rfl, rfl⟩ := hints e
    exact PyProof.Rows.lt_int (q s.toks)
  | LtE =>
    obtain ⟨p, e, rfl⟩ := Option.map_eq_some_iff.mp h
    obtain ⟨t, u, rfl, rfl⟩ := hints e
    exact PyProof.Rows.le_int (q s.toks)
  | Gt =>
    obtain ⟨p, e, rfl⟩ := Option.map_eq_some_iff.mp h
    obtain ⟨t, u, rfl, rfl⟩ := hints e
    exact PyProof.Rows.gt_int (q s.toks)
  | GtE =>
    obtain ⟨p, e, rfl⟩ := Option.map_eq_some_iff.mp h
    obtain ⟨t, u, rfl, rfl⟩ := hints e
    exact PyProof.Rows.ge_int (q s.toks)
  | Eq =>
    obtain ⟨da, db, as, bs, r1, r2, s1, s2, rfl⟩ := veq_spec I ra rb h
    exact eq_dataH r1 r2 s1 s2 (by omega) (q s.toks)
  | NotEq =>
    obtain ⟨v, e, rfl⟩ := Option.map_eq_some_iff.mp h
    obtain ⟨da, db, as, bs, r1, r2, s1, s2, rfl⟩ := veq_spec I ra rb e
    exact ne_dataH r1 r2 s1 s2 (by omega) (q s.toks)
  | Is =>
    obtain ⟨rfl, rfl⟩ := byNone_spec h
    cases rb
    show wpAny _ _ (do return Value.bool (← isSame x .none)) _ _ _
    rw [isSame_none, isNone_iff ra]
    exact wpAny_bind (wpAny_pure (wpAny_pure (q s.toks)))
  | IsNot =>
    obtain ⟨v, e, rfl⟩ := Option.map_eq_some_iff.mp h
    obtain ⟨rfl, rfl⟩ := byNone_spec e
    cases rb
    show wpAny _ _ (do return Value.bool (!(← isSame x .none))) _ _ _
    rw [isSame_none, isNone_iff ra]
    exact wpAny_bind (wpAny_pure (wpAny_pure (q s.toks)))
  | In => cases h
  | NotIn => cases h
end
end Mine
end

section
set_option tactic.hygienic false
set_option bootstrap.genMatcherCode false
set_option maxRecDepth 100000
set_option linter.unusedSimpArgs false
set_option linter.unusedVariables false
namespace Mine
open PySem PySem.W PySem.Calls PyProof.Rows

theorem starEach_cons {e : Expr} {es : List Expr} {env : Env} (h : ∀ v p, e ≠ .Starred v p) : starEach (e :: es) env = (false, eval e env) :: starEach es env := by
  cases e <;> first | rfl | exact absurd rfl (h _ _)

section
variable {X : Cy} {A : Around} {G : Heap} {stk : List Env} {env : Env} {ℓ : Loc} {σ : Store} {ρ : Rho} {s s' : Shared} {R : Rho → Heap → Prop} {α β : Type}

theorem snd_const {c : Const} {e : E} {hd : Bool} {C : V → List V → Store → Out V} {k : Nat} {pos : Pos} {sc : Scope} (he : cE sc (.Constant c k pos) = some e) :
    Snd X A G stk env ℓ R (rV X) (eval (.Constant c k pos) env) (fun σ => evE X.P hd C e ℓ σ) := by
  intro σ ρ s I hr hb
  show wpAny _ _ (constValue env c) _ _ _
  cases c with
  | none => simp only [k_int, k_str, k_bool, k_none, k_name, k_bin, k_neg, k_not, k_and, k_or, k_cmp, k_call, k_list, k_tup, k_comp, Option.some.injEq] at he; subst he; exact wpAny_pure (qok_same I (by simp only [q_int, q_str, q_bool, q_none, q_var, q_glob, q_bin, q_neg, q_not, q_and, q_or, q_cmp, q_cmp2, q_call, q_sub, q_list, q_tup, q_comp]) .none)
  | bool b => simp only [k_int, k_str, k_bool, k_none, k_name, k_bin, k_neg, k_not, k_and, k_or, k_cmp, k_call, k_list, k_tup, k_comp, Option.some.injEq] at he; subst he; exact wpAny_pure (qok_same I (by simp only [q_int, q_str, q_bool, q_none, q_var, q_glob, q_bin, q_neg, q_not, q_and, q_or, q_cmp, q_cmp2, q_call, q_sub, q_list, q_tup, q_comp]) (.bool b))
  | int i => simp only [k_int, k_str, k_bool, k_none, k_name, k_bin, k_neg, k_not, k_and, k_or, k_cmp, k_call, k_list, k_tup, k_comp, Option.some.injEq] at he; subst he; exact fun _ _ _ => qok_same (s' := { s with toks := s.toks + 1 }) I (by simp only [q_int, q_str, q_bool, q_none, q_var, q_glob, q_bin, q_neg, q_not, q_and, q_or, q_cmp, q_cmp2, q_call, q_sub, q_list, q_tup, q_comp]) (.int i _)
  | str x => simp only [k_int, k_str, k_bool, k_none, k_name, k_bin, k_neg, k_not, k_and, k_or, k_cmp, k_call, k_list, k_tup, k_comp, Option.some.injEq] at he; subst he; exact wpAny_mkText (qok_same I (by simp only [q_int, q_str, q_bool, q_none, q_var, q_glob, q_bin, q_neg, q_not, q_and, q_or, q_cmp, q_cmp2, q_call, q_sub, q_list, q_tup, q_comp]) (.str x _))
  | _ => exact no_some he

/-- what is known of a compiled expression in a frame -/
noncomputable def EOk (X : Cy) (G : Heap) (stk : List Env) (env : Env) (ℓ : Loc) (A : Around) (x : Expr) (m : Store → Out V) : Prop := Snd X A G stk env ℓ (fun _ _ => True) (rV X) (eval x env) m
theorem EOk.under {x : Expr} {m : Store → Out V} (h : EOk X G stk env ℓ A x m) : Snd X A G stk env ℓ R (rV X) (eval x env) m := h.mono (fun _ _ _ => trivial) fun _ _ _ _ r => r

theorem snd_spliced {pos : Pos} {hd : Bool} {C : V → List V → Store → Out V} {sc : Scope} : ∀ {xs : List Expr} {es : List E} {R : Rho → Heap → Prop} (hR : HMono R), cEs sc xs = some es → (∀ x ∈ xs, ∀ e, cE sc x = some e → EOk X G stk env ℓ A x (fun σ => evE X.P hd C e ℓ σ)) →
    Snd X A G stk env ℓ R (rL X) (spliced (backTo pos (starEach xs env))) (fun σ => evEs X.P hd C es ℓ σ)
  | [], es, R, hR, he, ih => by
    simp only [k_nil, k_cons, Option.some.injEq] at he; subst he
    intro σ ρ s I hr hb
    exact wpAny_pure (qok_same I (by simp only [q_nil, q_cons]) .nil)
  | x :: xs, es, R, hR, he, ih => by
    simp only [k_nil, k_cons] at he
    obtain ⟨e, e1, e2⟩ := Option.bind_eq_some_iff.mp he
    obtain ⟨es', e3, rfl⟩ := Option.map_eq_some_iff.mp e2
    have ns : ∀ v p, x ≠ .Starred v p := fun v p q => by subst q; exact no_some e1
    rw [starEach_cons ns]
    show Snd X A G stk env ℓ R (rL X) (eval x env >>= fun v => (Pure.pure [v] : Sem (List Value)) >>= fun here => (PySem.holding here (spliced (backTo pos (starEach xs env)))) >>= fun r => Pure.pure (here ++ r)) _
    have := Snd.bind (RS := rL X) (f := fun v σ => (evEs X.P hd C es' ℓ σ).bind fun vs σ => .ok (v :: vs) σ) hR (ih x (.head _) e e1).under (k := fun v => (Pure.pure [v] : Sem (List Value)) >>= fun here => (PySem.holding here (spliced (backTo pos (starEach xs env)))) >>= fun r => Pure.pure (here ++ r)) (fun v y => ?_)
    · exact this
    · refine Snd.skip (c := [y]) (fun _ _ _ q => wpAny_pure q) ?_
      refine Snd.bind (hR.and (rV_mono X v y)) (Snd.holding (snd_spliced (hR.and (rV_mono X v y)) e3 fun x' hx' => ih x' (.tail _ hx'))) fun vs ys => ?_
      exact Snd.pure fun ρ h r => .cons r.1.2 r.2

theorem snd_newList {vs : List V} {ys : List Value} (hR : ∀ ρ h, R ρ h → RvL X.toCx ρ h vs ys) (hz : vs.length ≤ 1000) : Snd X A G stk env ℓ R (rV X) (newList ys) (fun σ => .ok (.loc σ.length) (σ ++ [.list vs])) := by
  intro σ ρ s I hr hb
  have rl := hR _ _ hr
  obtain ⟨m, hm, _⟩ := I.fr.ns
  have hln := rl.length
  refine newList_N (frEmpty hm) (allNews_ok s.heap env.locals) (fun h' F' N' => ?_) (by rw [sizeLine_eq]; omega)
  obtain ⟨fz, I', rv⟩ := I.newList (s' := { s with heap := h' }) hm (get?_size _) rl F'.ns (fun b o hb e => (N' _ (.tail _ (mem_allNews e hb))).1) (N' _ (.head _)).1 rfl rfl ⟨rfl, rfl⟩ rfl rfl
  exact ⟨_, _, _, rfl, Rle.append _ _, fz, I', rv⟩
theorem snd_newTuple {vs : List V} {ys : List Value} (hR : ∀ ρ h, R ρ h → RvL X.toCx ρ h vs ys) (hz : vs.length ≤ 1000) : Snd X A G stk env ℓ R (rV X) (newTuple ys) (fun σ => .ok (.tup vs) σ) := by
  intro σ ρ s I hr hb
  have rl := hR _ _ hr
  obtain ⟨m, hm, _⟩ := I.fr.ns
  have hln := rl.length
  refine newTuple_N (frEmpty hm) (allNews_ok s.heap env.locals) (fun h' F' N' => ?_) (by rw [sizeLine_eq]; omega)
  obtain ⟨fz, I'⟩ := I.ofNews (s' := { s with heap := h' }) hm F'.ns (fun b o hb e => (N' _ (.tail _ (mem_allNews e hb))).1) rfl rfl
  exact ⟨_, _, _, rfl, Rle.refl _, fz, I', .tup _ 0 (N' _ (.head _)).1 rfl rfl (rl.mono (Rle.refl _) fz)⟩
end
end Mine
end

section
set_option tactic.hygienic false
set_option bootstrap.genMatcherCode false
set_option maxRecDepth 100000
set_option linter.unusedSimpArgs false
set_option linter.unusedVariables false
namespace Mine
open PySem PySem.W PySem.Calls PyProof.Rows

section
variable {X : Cy} {A : Around} {G : Heap} {stk : List Env} {env : Env} {ℓ : Loc} {σ : Store} {ρ : Rho} {s s' : Shared} {R : Rho → Heap → Prop}

theorem sub_eq {slice : Expr} (h : ∀ a b c p, slice ≠ .Slice a b c p) (o i : Value) : subscripted slice false o i = operate [o, i] (getItem o i) := by
  cases slice <;> first | rfl | exact absurd rfl (h _ _ _ _)

theorem idx_spec {l : List V} {i : Int} {v : V} (h : idx l i = some v) : (0 ≤ i ∧ i < 4611686018427387904 ∧ l[i.toNat]? = some v) ∨ (i = -1 ∧ l ≠ [] ∧ l[l.length - 1]? = some v) := by
  unfold idx at h
  split at h
  · rename_i q; exact .inl ⟨q.1, q.2, h⟩
  · split at h
    · rename_i q
      refine .inr ⟨q, fun e => by subst e; simp at h, ?_⟩
      rwa [List.getLast?_eq_getElem?] at h
    · cases h

theorem scriptAt (hS : ∃ o n items, X.G0.get? X.scr = some o ∧ o.cls = .type "list" ∧ o.data = .seq (List.toArray items) n ∧ RvL X.toCx [] X.G0 (X.P.ns.map .int) items) (I : Inv X G stk env ℓ σ ρ s) :
    ∃ items n o, s.heap.get? X.scr = some o ∧ o.cls = .type "list" ∧ o.data = .seq (List.toArray items) n ∧ RvL X.toCx ρ s.heap (X.P.ns.map .int) items := by
  obtain ⟨o, n, items, h1, h2, h3, h4⟩ := hS
  exact ⟨items, n, o, I.frBase h1, h2, h3, h4.mono (rle0 _) (fz0 I)⟩

theorem wp_itemList {l : List V} {items : List Value} {a : Addr} {o : Obj} {n : Nat} {i : Int} {u : Tok} {v : V} {value slice : Expr} {Q : Value → Shared → Prop} {E : Value → Shared → Prop} (h1 : s.heap.get? a = some o) (h2 : o.cls = .type "list") (h3 : o.data = .seq (List.toArray items) n) (rl : RvL X.toCx ρ s.heap l items)
    (hi : idx l i = some v) (hs : ∀ a b c p, slice ≠ .Slice a b c p) (h : ∀ y, Rv X.toCx ρ s.heap v y → Q y s) : wpAny (model X.prog X.w) A (subscriptTail value slice (.ref a) (.int i u)) Q E s := by
  have hl := isList_of h1 h2 h3
  refine tail_any hl.typeIs slot_list_getitem.lookup ?_ (sub_eq hs _ _)
  have hln := rl.length
  rcases idx_spec hi with ⟨i0, i1, e⟩ | ⟨rfl, ne, e⟩
  · obtain ⟨y, ey, ry⟩ := rl.get e
    exact wpAny_getItem_list hl i0 (by omega) (by simpa using ey) (h y ry)
  · obtain ⟨y, ey, ry⟩ := rl.get e
    have hpos : 0 < l.length := List.length_pos_iff.mpr ne
    refine kde_getNeg hl (by omega) (by omega) (seqIndex_neg (by omega) (by omega)) ?_ (h y ry)
    rw [← ey]; congr 1; omega
theorem wp_itemTup {l : List V} {items : List Value} {a : Addr} {o : Obj} {n : Nat} {i : Int} {u : Tok} {v : V} {value slice : Expr} {Q : Value → Shared → Prop} {E : Value → Shared → Prop} (h1 : s.heap.get? a = some o) (h2 : o.cls = .type "tuple") (h3 : o.data = .seq (List.toArray items) n) (rl : RvL X.toCx ρ s.heap l items)
    (hi : idx l i = some v) (hs : ∀ a b c p, slice ≠ .Slice a b c p) (h : ∀ y, Rv X.toCx ρ s.heap v y → Q y s) : wpAny (model X.prog X.w) A (subscriptTail value slice (.ref a) (.int i u)) Q E s := by
  have hl : IsTup s.heap a items.toArray := ⟨o, h1, h2, n, h3⟩
  have hln := rl.length
  rcases idx_spec hi with ⟨i0, i1, e⟩ | ⟨rfl, ne, e⟩
  · obtain ⟨y, ey, ry⟩ := rl.get e
    have : i.toNat < items.length := (List.getElem?_eq_some_iff.mp ey).1
    exact item_tupleT hl (by omega) (by omega) (seqIndex_of i0 (by omega)) ey (h y ry) (sub_eq hs _ _)
  · obtain ⟨y, ey, ry⟩ := rl.get e
    have hpos : 0 < l.length := List.length_pos_iff.mpr ne
    refine item_tupleT hl (by omega) (by omega) (seqIndex_neg (by omega) (by omega)) ?_ (h y ry) (sub_eq hs _ _)
    rw [← ey]; congr 1; omega

theorem sub_none {P : Prog} {n : Nat} {k : V} (h : σ[n]? = none) : subV P (.loc n) k σ = none := by unfold subV; dsimp only; rw [h]
theorem sub_loc {P : Prog} {n : Nat} {l : List V} {k : V} (h : σ[n]? = some (.list l)) : subV P (.loc n) k σ = subV P (.tup l) k σ := by unfold subV; dsimp only; rw [h]; cases k <;> rfl
theorem sub_cases {P : Prog} {a k v : V} (hv : subV P a k σ = some v) : (∃ l i, a = .tup l ∧ k = .int i ∧ idx l i = some v) ∨ (∃ i, a = .script ∧ k = .int i ∧ idx (P.ns.map .int) i = some v) ∨ ∃ n l i, a = .loc n ∧ k = .int i ∧ σ[n]? = some (.list l) ∧ idx l i = some v := by
  cases a with
  | tup l => cases k with
    | int i => exact .inl ⟨l, i, rfl, rfl, hv⟩
    | _ => exact no_some hv
  | script => cases k with
    | int i => exact .inr (.inl ⟨i, rfl, rfl, hv⟩)
    | _ => exact no_some hv
  | loc n =>
    cases e0 : σ[n]? with
    | none => exact no_some ((sub_none e0).symm.trans hv)
    | some c =>
      obtain ⟨l⟩ := c
      have hv := (sub_loc e0).symm.trans hv
      cases k with
      | int i => exact .inr (.inr ⟨n, l, i, rfl, rfl, e0, hv⟩)
      | _ => exact no_some hv
  | _ => exact no_some hv
theorem snd_sub (hS : ∃ o n items, X.G0.get? X.scr = some o ∧ o.cls = .type "list" ∧ o.data = .seq (List.toArray items) n ∧ RvL X.toCx [] X.G0 (X.P.ns.map .int) items) {value slice : Expr} (hs : ∀ a b c p, slice ≠ .Slice a b c p) {a k : V} {x y : Value} (hR : ∀ ρ h, R ρ h → Rv X.toCx ρ h a x ∧ Rv X.toCx ρ h k y) :
    Snd X A G stk env ℓ R (rV X) (subscriptTail value slice x y) (fun σ => .ofOpt σ (subV X.P a k σ)) := by
  intro σ ρ s I hr hb
  refine cps fun Gz kz => ?_
  obtain ⟨v, hv⟩ := ofOpt_bad hb
  have fin0 : ∀ {z : Value}, Rv X.toCx ρ s.heap v z → Qok X G stk env ℓ (rV X) (Out.ofOpt σ (subV X.P a k σ)) ρ s z s := fun rz => qok_same I (by rw [hv]; rfl) rz
  have ra := (hR _ _ hr).1
  have rk := (hR _ _ hr).2
  clear hb hR
  rcases sub_cases hv with ⟨l, i, e1, e2, hv⟩ | ⟨i, e1, e2, hv⟩ | ⟨n, l, i, e1, e2, e0, hv⟩ <;> rw [e1] at ra <;> rw [e2] at rk <;> cases rk
  · obtain ⟨b, items, n, o, rfl, h1, h2, h3, h4⟩ := tup_inv ra
    exact kz (wp_itemTup h1 h2 h3 h4 hv hs fun y ry => fin0 ry)
  · cases ra
    obtain ⟨items, n, o, h1, h2, h3, h4⟩ := scriptAt hS I
    exact kz (wp_itemList h1 h2 h3 h4 hv hs fun y ry => fin0 ry)
  · obtain ⟨b, items, kk, o, rfl, _, h1, h2, h3, h4⟩ := I.listAt ra e0
    exact kz (wp_itemList h1 h2 h3 h4 hv hs fun y ry => fin0 ry)
end
end Mine
end

section
set_option tactic.hygienic false
set_option bootstrap.genMatcherCode false
set_option maxRecDepth 100000
set_option linter.unusedSimpArgs false
set_option linter.unusedVariables false
namespace Mine
open PySem PySem.W PySem.Calls PyProof.Rows

section
variable {M : Model} {A : Around} {E : Value → Shared → Prop} {s : Shared}
/-- a call's keeper is a frame or the machine -/
noncomputable def Kept (M : Model) (A : Around) (f : Value) (s : Shared) : Prop := (∀ (Q : Keeper → Shared → Prop) (E : Value → Shared → Prop), Q .frame s → wpAny M A (keeperOf f) Q E s) ∨ ∀ (Q : Keeper → Shared → Prop) (E : Value → Shared → Prop), Q .machine s → wpAny M A (keeperOf f) Q E s

theorem star_plain {es : List Expr} {env : Env} {pos : Pos} (h : ∀ e ∈ es, ∀ v p, e ≠ .Starred v p) : (backTo pos (starEach es env)).any (·.1) = false ∧ (backTo pos (starEach es env)).length = es.length := by
  induction es with
  | nil => exact ⟨rfl, rfl⟩
  | cons e es ih =>
    obtain ⟨a, b⟩ := ih fun e' he' => h e' (.tail _ he')
    rw [starEach_cons (h e (.head _))]
    unfold backTo at a b ⊢
    simp only [List.map_cons, List.any_cons, List.length_cons]
    exact ⟨by rw [a]; rfl, by rw [b]⟩

theorem cE_notStar {sc : Scope} {x : Expr} {e : Mine.E} (h : cE sc x = some e) : ∀ v p, x ≠ .Starred v p := by
  intro v p q; subst q; exact no_some h
theorem cEs_notStar {sc : Scope} {xs : List Expr} : ∀ {es : List Mine.E}, cEs sc xs = some es → ∀ e ∈ xs, ∀ v p, e ≠ .Starred v p := by
  induction xs with
  | nil => intro es _ e he; cases he
  | cons y ys ih =>
    intro es he e hm v p q
    simp only [k_nil, k_cons] at he
    obtain ⟨e', e1, e2⟩ := Option.bind_eq_some_iff.mp he
    obtain ⟨es', e3, _⟩ := Option.map_eq_some_iff.mp e2
    cases hm with
    | head => exact cE_notStar e1 v p q
    | tail _ hm => exact ih e3 e hm v p q
theorem star_of {sc : Scope} {xs : List Expr} {es : List Mine.E} (h : cEs sc xs = some es) (env : Env) (pos : Pos) : (backTo pos (starEach xs env)).any (·.1) = false ∧ (backTo pos (starEach xs env)).length = xs.length := star_plain (cEs_notStar h)

theorem evalArgs_any {f : Value} {args : List (Bool × Sem Value)} {Q : Args → Shared → Prop} (hp : args.any (·.1) = false) (h : wpAny M A (spliced args) (fun vs s₁ => Q ⟨vs, []⟩ s₁) E s) : wpAny M A (evalArgs f true args []) Q E s := by
  cases args with
  | nil =>
    unfold evalArgs
    show wpAny M A (spliced [] >>= _) Q E s
    refine wpAny_bind (wpAny_mono h (fun vs s₁ q => wpAny_bind (wpAny_pure (wpAny_holding ?_))) fun _ _ x => x)
    exact wpAny_bind (wpAny_pure (wpAny_bind (wpAny_pure (wpAny_pure q))))
  | cons a r =>
    obtain ⟨b, t⟩ := a
    simp only [List.any_cons, Bool.or_eq_false_iff] at hp
    obtain ⟨hb, hr⟩ := hp
    subst hb
    exact evalArgs_plain h

theorem wp_callWith {pos : Pos} {f : Value} {first : List Value} {args : List (Bool × Sem Value)} {Q : Value → Shared → Prop} (hp : args.any (·.1) = false) (hl : args.length < 30)
    (h : wpAny M A (spliced args) (fun vs s₁ => Kept M A f s₁ ∧ wpAny M A (call f (first ++ vs)) Q E s₁) E s) : wpAny M A (callWith pos f first args []) Q E s := by
  unfold callWith
  refine wpAny_bind (wpAny_holding (evalArgs_any hp (wpAny_mono h (fun vs s₁ h₁ => wpAny_bind (wpAny_standAt ?_)) fun _ _ x => x)))
  simp only [hp, List.any_nil, Bool.or_false]
  have tail : ∀ {t : Sem Value}, wpAny M A t Q E s₁ → wpAny M A (t >>= fun r => holding [r] point >>= fun _ => pure r) Q E s₁ :=
    fun ht => wpAny_bind (wpAny_mono ht (fun r s₂ hr => wpAny_bind (wpAny_holding (wpAny_point' (wpAny_pure hr)))) fun _ _ x => x)
  rcases h₁.1 with k | k
  · refine wpAny_bind (k _ _ ?_)
    dsimp only
    rw [if_neg (by simp only [List.length_nil]; omega)]
    exact tail (by unfold callMarked; exact Calls.wpAny_keep h₁.2)
  · refine wpAny_bind (k _ _ ?_)
    exact tail h₁.2
end
end Mine
end

section
set_option tactic.hygienic false
set_option bootstrap.genMatcherCode false
set_option maxRecDepth 100000
set_option linter.unusedSimpArgs false
set_option linter.unusedVariables false
namespace Mine
open PySem PySem.W PySem.Calls PyProof.Rows

/-- a def as the row's top has laid it -/
structure FnAt (X : Cy) (f : Str) (d : FnD) : Prop where
  at_ : ∃ a o fd body, X.al f = some a ∧ X.G0.get? a = some o ∧ o.data = .func fd ∧ fd.body = .stmts body ∧ cFn fd.params fd.scope body = some d ∧ fd.globals = mainGlobals ∧ fd.builtins = builtinsNs ∧ fd.closure = [] ∧ fd.defaults = .none ∧ X.G0.CodeRec fd.code fd.qualname

/-- an exception class of the text's own -/
noncomputable def ExcAt (X : Cy) (C : Addr) : Prop := ∃ (nm q : Str) (N : Addr) (bs bm : List Value) (hdct : Bool) (sn : List Str) (sub : List Value) (ab : Bool) (col : Option Bool) (dd : Option Addr) (k0 k1 k2 k3 k5 : Option Value) (newId : String) (mN : Str → Option Value) (Bn inN B nid initId : String) (bmN bmB : List Value),
  ExcBaseFacts Bn newId inN bmN ∧ bmB.contains (.type Bn) = true ∧ ExcBaseFacts B nid initId bmB ∧ bm.contains (.type "BaseException") = true ∧ mN "__init__" = none ∧ X.G0.get? C = some (excClassObj nm q C N bs bm hdct sn sub ab col dd k0 k1 k2 k3 k5 newId) ∧ X.G0.Ns N mN ∧ OwnTail X.G0 bmB bm
/-- an exception met by a handler's class -/
noncomputable def ExmAt (X : Cy) (C : Addr) (y : Value) (r : Bool) : Prop := ∀ (A : Around) (E : Value → Shared → Prop) (s : Shared) (e : Addr) (o : Obj) (vs : Array Value), (∀ b o, X.G0.get? b = some o → s.heap.get? b = some o) → s.heap.get? e = some o → o.cls = .ref C → o.data = .fields vs →
  ∀ Q : Bool → Shared → Prop, Q r s → wpAny (model X.prog X.w) A (excMatches (.ref e) y) Q E s

structure BaseOk (X : Cy) : Prop where
  exc : ∀ c, X.P.exc c = true → X.P.glob c = some (.cls c) ∧ ∃ C, X.al c = some C ∧ ExcAt X C
  exm : ∀ c d r, X.P.isa c d = some r → ∀ C D, X.al c = some C → X.al d = some D → ExmAt X C (.ref D) r
  gl : GlobOk X
  lim : X.G0.NoLimit
  scr : ∃ o n items, X.G0.get? X.scr = some o ∧ o.cls = .type "list" ∧ o.data = .seq (List.toArray items) n ∧ RvL X.toCx [] X.G0 (X.P.ns.map .int) items
  fn : ∀ f d, X.P.fn f = some d → FnAt X f d

theorem lookup_mem {β : Type} {l : List (Str × β)} {x : Str} {v : β} (h : l.lookup x = some v) : (x, v) ∈ l := by
  induction l with
  | nil => cases h
  | cons p r ih =>
    obtain ⟨y, u⟩ := p
    rw [List.lookup] at h
    split at h
    · rename_i q; cases h; rw [eq_of_beq q]; exact .head _
    · exact .tail _ (ih h)

end Mine
end

section
set_option tactic.hygienic false
set_option bootstrap.genMatcherCode false
set_option maxRecDepth 100000
set_option linter.unusedSimpArgs false
set_option linter.unusedVariables false
namespace Mine
open PySem PySem.W PySem.Calls PyProof.Rows

/-- what is asked of the calls that a text makes -/
structure COk (X : Cy) (C : V → List V → Store → Out V) (hd : Bool) (D U : Nat) : Prop where
  snd : ∀ (A : Around) (G : Heap) (stk : List Env) (env : Env) (ℓ : Loc) (f : V) (as : List V) (x : Value) (ys : List Value), AOk A stk hd D U → env.frame = (stk.head?.bind (·.frame)) →
    Snd X A G stk env ℓ (fun ρ h => Rv X.toCx ρ h f x ∧ RvL X.toCx ρ h as ys) (rV X) (call x ys) (fun σ => C f as σ)
  fn : ∀ f as σ, C (.fn f) as σ ≠ .bad → ∃ d, X.P.fn f = some d
  oth : ∀ v as σ, C v as σ ≠ .bad → (∃ f, v = .fn f) ∨ (∃ b, v = .bi b) ∨ ∃ t, v = .ty t

section
variable {X : Cy} {A : Around} {G : Heap} {stk : List Env} {env : Env} {ℓ : Loc} {σ : Store} {ρ : Rho} {s s' : Shared} {R : Rho → Heap → Prop} {α β : Type}

theorem kept_fn (B : BaseOk X) (I : Inv X G stk env ℓ σ ρ s) {f : Str} {d : FnD} {a : Addr} (hd : X.P.fn f = some d) (ha : X.al f = some a) : Kept (model X.prog X.w) A (.ref a) s := by
  obtain ⟨a', o, fd, body, h1, h2, h3, _⟩ := (B.fn f d hd).at_
  rw [ha] at h1; cases h1
  refine .inl fun Q E q => ?_
  unfold keeperOf
  refine wpAny_bind (wpAny_load (I.frBase h2) ?_)
  rw [h3]
  exact wpAny_pure q
theorem kept_bi {b : String} : Kept (model X.prog X.w) A (.builtin b) s := .inr fun Q E q => wpAny_pure q
theorem kept_ty {b : String} : Kept (model X.prog X.w) A (.type b) s := .inr fun Q E q => wpAny_pure q

theorem Snd.callWith {RS : V → Value → Rho → Heap → Prop} (hR : HMono R) {f : Value} {first : List Value} {pos : Pos} {sc : Scope} {xs : List Expr} {es : List E} {hd : Bool} {C : V → List V → Store → Out V} {k : List V → Store → Out V} (hes : cEs sc xs = some es) (hl : xs.length < 29)
    (has : ∀ x ∈ xs, ∀ e, cE sc x = some e → EOk X G stk env ℓ A x (fun σ => evE X.P hd C e ℓ σ)) (hk : ∀ σ ρ s vs, Inv X G stk env ℓ σ ρ s → k vs σ ≠ .bad → R ρ s.heap → Kept (model X.prog X.w) A f s)
    (h : ∀ vs ys, Snd X A G stk env ℓ (fun ρ h => R ρ h ∧ RvL X.toCx ρ h vs ys) RS (call f (first ++ ys)) (k vs)) :
    Snd X A G stk env ℓ R RS (PySem.callWith pos f first (backTo pos (starEach xs env)) []) (fun σ => (evEs X.P hd C es ℓ σ).bind k) := by
  intro σ ρ s I hr hb
  have h1 := (star_of hes env pos).1
  have h2 := (star_of hes env pos).2
  have hb' : evEs X.P hd C es ℓ σ ≠ .bad := fun q => hb (by simp only [q, Out.bind])
  refine wp_callWith h1 (by omega) (wpAny_mono (snd_spliced (pos := pos) hR hes has σ ρ s I hr hb') (fun ys s' ⟨vs, σ', ρ', e, le, fz, I', rl⟩ => ?_) fun e s' ⟨c, σ', ρ', e', le, fz, I', fl⟩ => ⟨c, σ', ρ', by have e' : evEs X.P hd C es ℓ σ = .exc c σ' := e'; simp only [e', Out.bind], le, fz, I', fl⟩)
  have e : evEs X.P hd C es ℓ σ = .ok vs σ' := e
  have e2 : (evEs X.P hd C es ℓ σ).bind k = k vs σ' := by rw [e]; rfl
  simp only [e2] at hb ⊢
  refine ⟨hk σ' ρ' s' vs I' hb (hR _ _ _ _ le fz hr), wpAny_mono (h vs ys σ' ρ' s' I' ⟨hR _ _ _ _ le fz hr, rl⟩ hb) ?_ ?_⟩
  · intro d s'' ⟨c, σ'', ρ'', e', le', fz', I'', rs⟩
    exact ⟨c, σ'', ρ'', e', le.trans le', fz.trans fz', I'', rs⟩
  · intro e s'' ⟨c, σ'', ρ'', e', le', fz', I'', fl⟩
    exact ⟨c, σ'', ρ'', e', le.trans le', fz.trans fz', I'', fl⟩

theorem cEs_nil {sc : Scope} {as : List Expr} (h : cEs sc as = some []) : as = [] := by
  cases as with
  | nil => rfl
  | cons x xs =>
    simp only [k_nil, k_cons] at h
    obtain ⟨e', e1, e2⟩ := Option.bind_eq_some_iff.mp h
    obtain ⟨es', e3, e4⟩ := Option.map_eq_some_iff.mp e2
    cases e4
theorem cEs_length {sc : Scope} {xs : List Expr} : ∀ {es : List E}, cEs sc xs = some es → es.length = xs.length := by
  induction xs with
  | nil => intro es h; cases Option.some.inj h; rfl
  | cons y ys ih =>
    intro es h
    simp only [k_cons] at h
    obtain ⟨e', e1, e2⟩ := Option.bind_eq_some_iff.mp h
    obtain ⟨es', e3, e4⟩ := Option.map_eq_some_iff.mp e2
    rw [← e4]
    exact congrArg (· + 1) (ih e3)
theorem cEs_cons {sc : Scope} {as : List Expr} {e : E} {es : List E} (h : cEs sc as = some (e :: es)) : ∃ x xs, as = x :: xs ∧ cE sc x = some e ∧ cEs sc xs = some es := by
  cases as with
  | nil => exact no_cons h
  | cons x xs =>
    simp only [k_nil, k_cons] at h
    obtain ⟨e', e1, e2⟩ := Option.bind_eq_some_iff.mp h
    obtain ⟨es', e3, e4⟩ := Option.map_eq_some_iff.mp e2
    cases e4
    exact ⟨x, xs, rfl, e1, e3⟩
end
end Mine
end

section
set_option tactic.hygienic false
set_option bootstrap.genMatcherCode false
set_option maxRecDepth 100000
set_option linter.unusedSimpArgs false
set_option linter.unusedVariables false
namespace Mine
open PySem PySem.W PySem.Calls PyProof.Rows

/-- a heap of what a function says -/
noncomputable def mkHeap (n : Nat) (f : Addr → Option Obj) : Heap := ⟨Array.ofFn (n := n) fun i => (f i.val).getD { cls := .none, data := .freed }, {}⟩
theorem mkHeap_get {n : Nat} {f : Addr → Option Obj} (hf : ∀ b o, f b = some o → b < n ∧ o.isFreed = false) (b : Addr) : (mkHeap n f).get? b = f b := by
  cases q : f b with
  | some o =>
    obtain ⟨h1, h2⟩ := hf b o q
    refine Heap.get?_some_iff.mpr ⟨?_, h2⟩
    unfold mkHeap
    simp [h1, q]
  | none =>
    cases z : (mkHeap n f).get? b with
    | none => rfl
    | some o =>
      obtain ⟨e1, e2⟩ := Heap.get?_some_iff.mp z
      unfold mkHeap at e1
      simp only [Array.getElem?_ofFn] at e1
      split at e1
      · simp only [q, Option.getD_none, Option.some.injEq] at e1
        subst e1
        cases e2
      · cases e1
theorem get?_ok {h : Heap} {b : Addr} {o : Obj} (e : h.get? b = some o) : b < h.objs.size ∧ o.isFreed = false := ⟨Heap.lt_size e, (Heap.get?_some_iff.mp e).2⟩

/-- what a frame's run may change -/
noncomputable def muts (ρ : Rho) (env : Env) : List Addr := env.locals :: ((if env.func.isSome then env.cells.map (·.2) else []) ++ ρ.flatMap fun p => [p.1, p.2])
noncomputable def prot (h : Heap) (ρ : Rho) (env : Env) : Heap := mkHeap h.objs.size fun b => if b ∈ muts ρ env then none else h.get? b
theorem prot_get (h : Heap) (ρ : Rho) (env : Env) (b : Addr) : (prot h ρ env).get? b = if b ∈ muts ρ env then none else h.get? b := by
  unfold prot
  rw [mkHeap_get]
  intro b o e
  split at e
  · cases e
  · exact get?_ok e
theorem mem_muts_rho {ρ : Rho} {env : Env} {n : Nat} {p : Addr × Addr} (h : ρ[n]? = some p) : p.1 ∈ muts ρ env ∧ p.2 ∈ muts ρ env := by
  have hm := List.mem_of_getElem? h
  constructor
  · exact .tail _ (List.mem_append_right _ (List.mem_flatMap.mpr ⟨p, hm, by simp⟩))
  · exact .tail _ (List.mem_append_right _ (List.mem_flatMap.mpr ⟨p, hm, by simp⟩))
theorem mem_muts {ρ : Rho} {env : Env} {b : Addr} (h : b ∈ muts ρ env) : b = env.locals ∨ (env.func.isSome = true ∧ ∃ x, (x, b) ∈ env.cells) ∨ ∃ (n : Nat) (p : Addr × Addr), ρ[n]? = some p ∧ (b = p.1 ∨ b = p.2) := by
  unfold muts at h
  rcases List.mem_cons.mp h with h | h
  · exact .inl h
  · rcases List.mem_append.mp h with h | h
    · split at h
      · rename_i hf
        obtain ⟨⟨x, c⟩, h1, h2⟩ := List.mem_map.mp h
        exact .inr (.inl ⟨hf, x, h2 ▸ h1⟩)
      · cases h
    · obtain ⟨p, h1, h2⟩ := List.mem_flatMap.mp h
      obtain ⟨n, hn, e⟩ := List.mem_iff_getElem.mp h1
      refine .inr (.inr ⟨n, p, by rw [List.getElem?_eq_getElem hn, e], by simpa using h2⟩)

section
variable {X : Cy} {A : Around} {G : Heap} {stk : List Env} {env : Env} {ℓ ℓ' : Loc} {σ σ' : Store} {ρ ρ' : Rho} {s s' : Shared} {R : Rho → Heap → Prop} {α β : Type}

/-- a frame's cells are told by their names -/
noncomputable def CellsNd (env : Env) : Prop := ∀ x c, (x, c) ∈ env.cells → env.cells.lookup x = some c

theorem muts_free (I : Inv X G stk env ℓ σ ρ s) (hc : CellsNd env) {b : Addr} (h : b ∈ muts ρ env) : G.get? b = none := by
  rcases mem_muts h with rfl | ⟨hf, x, hx⟩ | ⟨n, p, hp, rfl | rfl⟩
  · exact I.ownL.1
  · exact (I.ownC hf x b (hc x b hx)).1
  · exact (I.fresh n p hp).1
  · exact (I.fresh n p hp).2

theorem Inv.protect (I : Inv X G stk env ℓ σ ρ s) (hc : CellsNd env) : Inv X (prot s.heap ρ env) stk env ℓ σ ρ s :=
  { keep := fun b o e => by
      rw [prot_get] at e
      split at e
      · cases e
      · exact ⟨o.slots, e, fun _ => rfl⟩
    base := fun b o e => by
      rw [prot_get]
      split
      · rename_i hm; have := muts_free I hc hm; rw [I.base b o e] at this; cases this
      · exact I.frBase e
    ff := I.ff, fd := I.fd, fr := I.fr
    ownL := ⟨by rw [prot_get, if_pos (.head _)], I.ownL.2⟩
    ownC := fun hf x c hx => by
      obtain ⟨h1, h2, h3⟩ := I.ownC hf x c hx
      refine ⟨?_, h2, h3⟩
      rw [prot_get, if_pos]
      unfold muts
      rw [hf]
      refine .tail _ (List.mem_append_left _ (List.mem_map.mpr ⟨(x, c), ?_, rfl⟩))
      exact lookup_mem hx
    len := I.len, cells := I.cells, sep := I.sep
    fresh := fun n p hp => by rw [prot_get, prot_get, if_pos (mem_muts_rho hp).1, if_pos (mem_muts_rho hp).2]; exact ⟨rfl, rfl⟩
    gens := I.gens, os := I.os }

theorem Inv.weaken {G' : Heap} (I' : Inv X G' stk env ℓ' σ' ρ' s') (hk : KeepG stk G s'.heap) (hb : ∀ b o, X.G0.get? b = some o → G.get? b = some o) (hn : ∀ b, G'.get? b = none → (∀ o, s.heap.get? b = some o → b ∈ muts ρ env) → G.get? b = none)
    (hl : ∀ b, G'.get? b = none → G.get? b = none) : Inv X G stk env ℓ' σ' ρ' s' :=
  { keep := hk, base := hb, ff := I'.ff, fd := I'.fd, fr := I'.fr, ownL := ⟨hl _ I'.ownL.1, I'.ownL.2⟩
    ownC := fun hf x c hx => let ⟨a, b, c'⟩ := I'.ownC hf x c hx; ⟨hl _ a, b, c'⟩
    len := I'.len, cells := I'.cells, sep := I'.sep, fresh := fun n p hp => ⟨hl _ (I'.fresh n p hp).1, hl _ (I'.fresh n p hp).2⟩, gens := I'.gens, os := I'.os }

/-- behind a run that was held to a frame's own things -/
theorem Inv.restore (I : Inv X G stk env ℓ σ ρ s) (hc : CellsNd env) (I' : Inv X (prot s.heap ρ env) stk env ℓ' σ' ρ' s') : Inv X G stk env ℓ' σ' ρ' s' ∧ ∀ b o, s.heap.get? b = some o → b ∉ muts ρ env → b ∉ frs stk → s'.heap.get? b = some o := by
  refine ⟨I'.weaken (s := s) (ρ := ρ) (fun b o e => ?_) I.base (fun b e _ => ?_) fun b e => ?_, fun b o e h1 h2 => ?_⟩
  · obtain ⟨sl, e1, e2⟩ := I.keep b o e
    have hm : b ∉ muts ρ env := fun hm => by rw [muts_free I hc hm] at e; cases e
    obtain ⟨sl', e3, e4⟩ := I'.keep b { o with slots := sl } (by rw [prot_get, if_neg hm]; exact e1)
    exact ⟨sl', e3, fun hn => (e4 hn).trans (e2 hn)⟩
  · cases q : G.get? b with
    | none => rfl
    | some o =>
      obtain ⟨sl, e1, _⟩ := I.keep b o q
      rw [prot_get] at e
      split at e
      · rename_i hm; rw [muts_free I hc hm] at q; cases q
      · rw [e1] at e; cases e
  · cases q : G.get? b with
    | none => rfl
    | some o =>
      obtain ⟨sl, e1, _⟩ := I.keep b o q
      rw [prot_get] at e
      split at e
      · rename_i hm; rw [muts_free I hc hm] at q; cases q
      · rw [e1] at e; cases e
  · obtain ⟨sl, e1, e2⟩ := I'.keep b o (by rw [prot_get, if_neg h1]; exact e)
    rw [e2 h2] at e1
    exact e1
end
end Mine
end

section
set_option tactic.hygienic false
set_option bootstrap.genMatcherCode false
set_option maxRecDepth 100000
set_option linter.unusedSimpArgs false
set_option linter.unusedVariables false
namespace Mine
open PySem PySem.W PySem.Calls PyProof.Rows

/-- an iterator that has yielded i items -/
inductive ItAt (X : Cx) (ρ : Rho) (h : Heap) : Src → Nat → Value → List Addr → Prop
  | list {n : Nat} {a l : Addr} {i : Nat} (hit : h.IsListIter a l i) (hp : ρ[n]? = some (l, l)) : ItAt X ρ h (.list n) i (.ref a) [a]
  | tup {vs : List V} {a t : Addr} {items : List Value} {i : Nat} (hit : h.IsTupleIter a t i) (ht : h.IsTuple t items.toArray) (hl : RvL X ρ h vs items) : ItAt X ρ h (.items vs) i (.ref a) [a]
  | range {x : Int} {n : Nat} {a : Addr} {i : Nat} (hi : i ≤ n) (hit : IsRangeIter h a (x + i) (n - i) 1) : ItAt X ρ h (.items ((List.range n).map fun (k : Nat) => .int (x + (k : Int)))) i (.ref a) [a]

theorem ItAt.owns {X : Cx} {ρ : Rho} {h : Heap} {src : Src} {i : Nat} {it : Value} {own : List Addr} (T : ItAt X ρ h src i it own) : ∀ a ∈ own, ∃ o T vs, h.get? a = some o ∧ o.cls = .type T ∧ T ≠ "tuple" ∧ o.data = .fields vs := by
  cases T with
  | list hit hp => intro b hb; obtain ⟨o, h1, h2, h3⟩ := hit; cases List.mem_singleton.mp hb; exact ⟨o, _, _, h1, h2, by decide, h3⟩
  | tup hit ht hl => intro b hb; obtain ⟨o, h1, h2, h3⟩ := hit; cases List.mem_singleton.mp hb; exact ⟨o, _, _, h1, h2, by decide, h3⟩
  | range hi hit => intro b hb; cases List.mem_singleton.mp hb; exact ⟨_, _, _, hit, rfl, by decide, rfl⟩

/-- an iterator's things are kept -/
theorem ItAt.keeps {X : Cx} {ρ ρ' : Rho} {h h' : Heap} {src : Src} {i : Nat} {it : Value} {own : List Addr} (T : ItAt X ρ h src i it own) (le : Rle ρ ρ') (fz : Fz h h') (k : ∀ a ∈ own, ∀ o, h.get? a = some o → h'.get? a = some o) : ItAt X ρ' h' src i it own := by
  cases T with
  | list hit hp => obtain ⟨o, h1, h2, h3⟩ := hit; exact .list ⟨o, k _ (.head _) _ h1, h2, h3⟩ (le _ _ hp)
  | tup hit ht hl =>
    obtain ⟨o, h1, h2, h3⟩ := hit
    obtain ⟨ot, t1, t2, n, t3⟩ := ht
    exact .tup ⟨o, k _ (.head _) _ h1, h2, h3⟩ ⟨ot, (fz _ _ t1).1 (.inl ⟨t2, _, _, t3⟩), t2, n, t3⟩ (hl.mono le fz)
  | range hi hit => exact .range hi (k _ (.head _) _ hit)

section
variable {X : Cy} {A : Around} {G : Heap} {stk : List Env} {env : Env} {ℓ : Loc} {σ : Store} {ρ : Rho} {s s' : Shared} {R : Rho → Heap → Prop}

/-- a record that is no cell, no frame's and none of the kept things may change -/
theorem Inv.recChg (I : Inv X G stk env ℓ σ ρ s) {a : Addr} {o : Obj} {T : String} {vs : Array Value} (hG : G.get? a = none) (ho : s.heap.get? a = some o) (hc : o.cls = .type T) (hd : o.data = .fields vs) (hs : ∀ b ob, b ≠ a → s.heap.get? b = some ob → s'.heap.get? b = some ob) (hg : s'.gens = s.gens) (hos : s'.os = s.os) :
    Fz s.heap s'.heap ∧ Inv X G stk env ℓ σ ρ s' := by
  have fz : Fz s.heap s'.heap := Fz.rec hs ho hc hd
  have nL : a ≠ env.locals := fun q => by
    obtain ⟨m, hm, _⟩ := I.fr.ns
    obtain ⟨oL, h1, h2⟩ := ns_at hm
    rw [← q, ho] at h1; cases h1; exact h2 vs hd
  refine ⟨fz, I.chg (fun b => b = a) fz (fun b ob e q => hs b ob q e) (fun b q => q ▸ hG) (I.fr.mono (Rle.refl _) fz (fun oL e => ⟨oL, hs _ _ (Ne.symm nL) e, rfl⟩) fun x c _ oc e hcl hy => ⟨oc, hs _ _ (fun q => ?_) e, rfl, rfl⟩) I.ownL.2 I.len (fun n c p e1 e2 => ?_) I.sep I.fresh hg hos⟩
  · obtain ⟨y, hy⟩ := hy
    rw [q, ho] at e; cases e
    rw [hd] at hy; cases hy
  · obtain ⟨⟨o1, a1, _, n1⟩, ⟨o2, a2, _, n2⟩⟩ := (I.cells n c p e1 e2).at
    have h1 : p.1 ≠ a := fun q => by rw [q, ho] at a1; cases a1; exact n1 vs hd
    have h2 : p.2 ≠ a := fun q => by rw [q, ho] at a2; cases a2; exact n2 vs hd
    exact (I.cells n c p e1 e2).mono (Rle.refl _) fz (fun o e => hs _ _ h1 e) (fun o e => hs _ _ h2 e)

set_option tactic.hygienic true in
theorem letGo_list {target : Expr} {a : Addr} {v : Value} {o : Obj} {T : String} {Q : Unit → Shared → Prop} {E : Value → Shared → Prop} (ho : s.heap.get? a = some o) (hc : o.cls = .type T) (hT : ["enumerate", "zip", "dict_itemiterator", "dict_reverseitemiterator", "odict_iterator", "itertools.zip_longest", "itertools.pairwise"].contains T = false)
    (h : Q () s) : wpAny (model X.prog X.w) A (letOwnedTupleGo target (.ref a) v) Q E s := by
  have go : wpAny (model X.prog X.w) A (do
      let (.ref r, .ref a) := ((Value.ref a), v) | return
      let o ← load r
      match o.cls, o.data with
      | .type n, .fields vs =>
        if ["enumerate", "zip", "dict_itemiterator", "dict_reverseitemiterator", "odict_iterator", "itertools.zip_longest", "itertools.pairwise"].contains n && vs[0]? == some (rawInt a) then
          rule "for.unpacks-the-owned-tuple"
          updateField r 0 .none
      | _, _ => pure () : Sem Unit) Q E s := by
    cases v <;> try exact wpAny_pure h
    refine wpAny_bind (wpAny_load ho ?_)
    rw [hc]
    split
    · rename_i n vs e1 e2
      cases e1
      rw [hT]
      exact wpAny_pure h
    · exact wpAny_pure h
  cases target <;> first | exact wpAny_pure h | exact go

set_option tactic.hygienic true in
/-- one more item, or the end -/
theorem it_next (I : Inv X G stk env ℓ σ ρ s) {src : Src} {i : Nat} {it : Value} {own : List Addr} (T : ItAt X.toCx ρ s.heap src i it own) (hO : ∀ a ∈ own, G.get? a = none) (hh : A.handled = none) {r : Option V} (hg : src.get σ i = some r) {target : Expr} {E : Value → Shared → Prop} {Q : Option Value → Shared → Prop}
    (h1 : ∀ v y s', r = some v → Fz s.heap s'.heap → Inv X G stk env ℓ σ ρ s' → Rv X.toCx ρ s'.heap v y → ItAt X.toCx ρ s'.heap src (i + 1) it own → (∀ b ob, b ∉ own → s.heap.get? b = some ob → s'.heap.get? b = some ob) → Q (some y) s')
    (h2 : ∀ s', r = none → Fz s.heap s'.heap → Inv X G stk env ℓ σ ρ s' → (∀ b ob, b ∉ own → s.heap.get? b = some ob → s'.heap.get? b = some ob) → Q none s') :
    wpAny (model X.prog X.w) A (pyNext it) (fun r s' => match r with | some y => wpAny (model X.prog X.w) A (letOwnedTupleGo target it y) (fun _ s'' => Q (some y) s'') E s' | none => Q none s') E s := by
  cases T with
  | list hit hp =>
    rename_i n a l
    obtain ⟨o, g1, g2, g3⟩ := id hit
    simp only [Src.get] at hg
    split at hg
    · rename_i l0 e0
      obtain ⟨p', hp', hc⟩ := I.cellOf e0
      rw [hp] at hp'; cases hp'
      obtain ⟨q, ol, k, items, a1, a2, a3, a4, _⟩ := hc
      have hl : s.heap.IsList l items.toArray := ⟨ol, a1, a2, k, a3⟩
      have hx : r = l0[i]? := (Option.some.inj hg).symm
      have hln := a4.length
      cases q : l0[i]? with
      | some v =>
        obtain ⟨y, ey, ry⟩ := a4.get q
        refine wpAny_pyNext_list_item hit hl (by simpa using ey) fun h' it' hs => ?_
        obtain ⟨fz, I'⟩ := I.recChg (s' := { s with heap := h' }) (hO a (.head _)) g1 g2 g3 (fun b ob hb e => (hs.2 b hb).trans e) rfl rfl
        obtain ⟨o', j1, j2, j3⟩ := id it'
        exact letGo_list j1 j2 (by decide) (h1 v y _ (hx.trans q) fz I' (ry.mono (Rle.refl _) fz) (.list it' hp) (fun b ob hb e => (hs.2 b (fun q => hb (q ▸ .head _))).trans e))
      | none =>
        refine wpAny_pyNext_list_end hh hit hl (by simp; rw [List.getElem?_eq_none_iff] at q; omega) fun h' hs => ?_
        obtain ⟨fz, I'⟩ := I.recChg (s' := { s with heap := h' }) (hO a (.head _)) g1 g2 g3 (fun b ob hb e => hs b ob hb e) rfl rfl
        exact h2 _ (hx.trans q) fz I' (fun b ob hb e => hs b ob (fun q => hb (q ▸ .head _)) e)
    · cases hg
  | tup hit ht hl =>
    rename_i vs a t items
    obtain ⟨o, g1, g2, g3⟩ := id hit
    simp only [Src.get, Option.some.injEq] at hg
    have hln := hl.length
    cases q : vs[i]? with
    | some v =>
      obtain ⟨y, ey, ry⟩ := hl.get q
      refine wpAny_pyNext_tuple_item hit ht (by simpa using ey) fun h' it' hs => ?_
      obtain ⟨fz, I'⟩ := I.recChg (s' := { s with heap := h' }) (hO a (.head _)) g1 g2 g3 (fun b ob hb e => (hs.2 b hb).trans e) rfl rfl
      obtain ⟨o', j1, j2, j3⟩ := id it'
      obtain ⟨ot, t1, t2, n, t3⟩ := ht
      exact letGo_list j1 j2 (by decide) (h1 v y _ (hg.symm.trans q) fz I' (ry.mono (Rle.refl _) fz) (.tup it' ⟨ot, (fz _ _ t1).1 (.inl ⟨t2, _, _, t3⟩), t2, n, t3⟩ (hl.mono (Rle.refl _) fz)) (fun b ob hb e => (hs.2 b (fun q => hb (q ▸ .head _))).trans e))
    | none =>
      refine wpAny_pyNext_tuple_end hh hit ht (by simp; rw [List.getElem?_eq_none_iff] at q; omega) fun h' hs => ?_
      obtain ⟨fz, I'⟩ := I.recChg (s' := { s with heap := h' }) (hO a (.head _)) g1 g2 g3 (fun b ob hb e => hs b ob hb e) rfl rfl
      exact h2 _ (hg.symm.trans q) fz I' (fun b ob hb e => hs b ob (fun q => hb (q ▸ .head _)) e)
  | range hi hit =>
    rename_i x n a
    simp only [Src.get, Option.some.injEq] at hg
    by_cases q : i < n
    · have e : ((List.range n).map fun (k : Nat) => V.int (x + (k : Int)))[i]? = some (.int (x + (i : Int))) := by simp [q]
      refine wpAny_pyNext_range_item hit (by omega) fun h' it' hs => ?_
      obtain ⟨fz, I'⟩ := I.recChg (s' := { s with heap := h', toks := s.toks + 1 }) (hO a (.head _)) hit rfl rfl (fun b ob hb e => (hs.2 b hb).trans e) rfl rfl
      refine letGo_list (s := { s with heap := h', toks := s.toks + 1 }) it' rfl (by decide) (h1 _ _ _ (hg.symm.trans e) fz I' (.int _ _) (.range (by omega) ?_) (fun b ob hb e => (hs.2 b (fun q => hb (q ▸ .head _))).trans e))
      have e1 : x + ((i + 1 : Nat) : Int) = x + i + 1 := by omega
      have e2 : (n : Int) - ((i + 1 : Nat) : Int) = n - i - 1 := by omega
      rw [e1, e2]; exact it'
    · have e : ((List.range n).map fun (k : Nat) => V.int (x + (k : Int)))[i]? = none := by simp; omega
      refine wpAny_pyNext_range_end hh hit (by omega) fun h' hs => ?_
      obtain ⟨fz, I'⟩ := I.recChg (s' := { s with heap := h' }) (hO a (.head _)) hit rfl rfl (fun b ob hb e => hs b ob hb e) rfl rfl
      exact h2 _ (hg.symm.trans e) fz I' (fun b ob hb e => hs b ob (fun q => hb (q ▸ .head _)) e)
end
end Mine
end

section
set_option tactic.hygienic false
set_option bootstrap.genMatcherCode false
set_option maxRecDepth 100000
set_option linter.unusedSimpArgs false
set_option linter.unusedVariables false
namespace Mine
open PySem PySem.W PySem.Calls PyProof.Rows

section
variable {X : Cy} {A : Around} {G : Heap} {stk : List Env} {env : Env} {ℓ ℓ' : Loc} {σ : Store} {ρ : Rho} {s s' : Shared} {R : Rho → Heap → Prop}

theorem cTo_spec {sc : Scope} {x : Str} {i : Nat} (e : cTo sc x = some i) : badName x = false ∧ ∃ k, kindIdx sc x = some (i, k) ∧ (k = .local ∨ k = .cell) := by
  cases hb : badName x with
  | true => exact no_some ((if_pos hb).symm.trans e)
  | false =>
    have e := (if_neg (by rw [hb]; exact Bool.noConfusion)).symm.trans e
    refine ⟨rfl, ?_⟩
    cases hk : kindIdx sc x with
    | none => rw [hk] at e; exact no_some e
    | some p =>
      obtain ⟨j, k⟩ := p
      rw [hk] at e
      cases k with
      | «local» => cases Option.some.inj e; exact ⟨_, rfl, .inl rfl⟩
      | cell => cases Option.some.inj e; exact ⟨_, rfl, .inr rfl⟩
      | _ => exact no_some e

theorem wp_asgName {sc : Scope} (hs : ScOk sc env) {x : Str} {i : Nat} (he : cTo sc x = some i) (hf : ∀ k, kindIdx sc x = some (i, k) → k = .cell → env.func.isSome = true) (I : Inv X G stk env ℓ σ ρ s) {v : V} {y : Value} (hv : Rv X.toCx ρ s.heap v y) {pos : Pos} {Q : Unit → Shared → Prop} {E : Value → Shared → Prop}
    (h : ∀ s', Fz s.heap s'.heap → Inv X G stk env (ℓ.set i (some v)) σ ρ s' → Q () s') : wpAny (model X.prog X.w) A (assign (.Name x pos) env y) Q E s := by
  obtain ⟨hn, k, e1, e2⟩ := cTo_spec he
  obtain ⟨k', f1, f2, f3⟩ := hs x i k e1
  show wpAny _ _ (do standAt pos; bindName env x y) _ _ _
  refine wpAny_bind (wpAny_standAt (wp_bindName I f1 f2 ?_ hv h))
  rcases e2 with rfl | rfl
  · rcases f3 with rfl | ⟨q, _⟩
    · exact .inl rfl
    · cases q
  · rcases f3 with rfl | ⟨q, _⟩
    · exact .inr ⟨rfl, hf _ e1 rfl⟩
    · cases q

/-- the targets of an assignment are names of a frame of its own, or no cells -/
noncomputable def TgtOk (sc : Scope) (env : Env) : Prop := ∀ x i, cTo sc x = some i → ∀ k, kindIdx sc x = some (i, k) → k = .cell → env.func.isSome = true

set_option tactic.hygienic true in
/-- a loop's target -/
theorem wp_tgt {sc : Scope} (hs : ScOk sc env) (hf : TgtOk sc env) (hh : A.handled = none) {t : Expr} {tg : Tgt} {v : V} {y : Value} {Q : Unit → Shared → Prop} {E : Value → Shared → Prop} (he : cTgt sc t = some tg) (ha : tg.asg v ℓ = some ℓ') (I : Inv X G stk env ℓ σ ρ s)
    (rv : Rv X.toCx ρ s.heap v y) (h : ∀ s', Fz s.heap s'.heap → Inv X G stk env ℓ' σ ρ s' → Q () s') : wpAny (model X.prog X.w) A (assign t env y) Q E s := by
  cases t with
  | Name x pos =>
    obtain ⟨i, e1, rfl⟩ := Option.map_eq_some_iff.mp he
    cases Option.some.inj ha
    exact wp_asgName hs e1 (hf x i e1) I rv h
  | _ => exact no_some he
end
end Mine
end

section
set_option tactic.hygienic false
set_option bootstrap.genMatcherCode false
set_option maxRecDepth 100000
set_option linter.unusedSimpArgs false
set_option linter.unusedVariables false
namespace Mine
open PySem PySem.W PySem.Calls PyProof.Rows

section
variable {X : Cy} {A : Around} {G : Heap} {stk : List Env} {env : Env} {ℓ ℓ' : Loc} {σ σ' : Store} {ρ ρ' : Rho} {s s' : Shared} {R : Rho → Heap → Prop}

inductive SrcPost (X : Cy) (G : Heap) (stk : List Env) (env : Env) (ℓ : Loc) (o : Out Src) (ρ : Rho) (s : Shared) (itv : Value) (s' : Shared) : Prop
  | mk (src : Src) (σ' : Store) (ρ' : Rho) (own : List Addr) (e : o = .ok src σ') (le : Rle ρ ρ') (fz : Fz s.heap s'.heap) (I : Inv X G stk env ℓ σ' ρ' s') (it : ItAt X.toCx ρ' s'.heap src 0 itv own) (fr : ∀ a ∈ own, G.get? a = none)

/-- what a loop's text may be -/
inductive ItOf (sc : Scope) (it : Expr) (w : Option E) : It → Prop
  | of {e : E} (h : w = some e) : ItOf sc it w (.of e)
  | range2 {x : Str} {p0 p : Pos} {as : List Expr} {a b : E} (h : it = .Call (.Name x p0) as [] p) (g : isGlob sc x = true) (hx : x = "range") (ha : cEs sc as = some [a, b]) : ItOf sc it w (.range2 a b)
theorem isStr1_eq {x : Str} {y : String} (h : isStr1 x y = true) : x = Str.ofString y := eq_of_beq h
theorem itOf {sc : Scope} {it : Expr} {w : Option E} {it' : It} (h : cIt sc it w = some it') : ItOf sc it w it' := by
  have hw : w.map It.of = some it' → ItOf sc it w it' := fun h => by
    obtain ⟨e', h1, h2⟩ := Option.map_eq_some_iff.mp h
    cases h2; exact .of h1
  cases it with
  | Call f as ks p =>
    cases f with
    | Name x p0 =>
      by_cases c1 : (!isNil ks) = true
      · exact no_some ((if_pos c1).symm.trans h)
      have h := (if_neg c1).symm.trans h
      have hks' : ks = [] := by cases ks with | nil => rfl | cons a b => exact absurd rfl c1
      subst hks'
      by_cases c2 : (isGlob sc x && isStr1 x "range") = true
      · obtain ⟨l, h1, h2⟩ := Option.bind_eq_some_iff.mp ((if_pos c2).symm.trans h)
        have c2 := Bool.and_eq_true_iff.mp c2
        cases l with
        | nil => exact no_some h2
        | cons u l => cases l with
          | nil => exact no_some h2
          | cons v l => cases l with
            | nil => cases Option.some.inj h2; exact .range2 rfl c2.1 (isStr1_eq c2.2) h1
            | cons v l => exact no_some h2
      · exact hw ((if_neg c2).symm.trans h)
    | _ => exact hw h
  | _ => exact hw h

theorem cIt_of {sc : Scope} {it : Expr} {w : Option E} {e : E} (h : cIt sc it w = some (.of e)) : w = some e := by cases itOf h with | of h => exact h
theorem cIt_range2 {sc : Scope} {it : Expr} {w : Option E} {a b : E} (h : cIt sc it w = some (.range2 a b)) : ∃ x p0 as p, it = .Call (.Name x p0) as [] p ∧ isGlob sc x = true ∧ x = "range" ∧ cEs sc as = some [a, b] := by cases itOf h with | range2 h g hx ha => exact ⟨_, _, _, _, h, g, hx, ha⟩
theorem wp_rangeIter (I : Inv X G stk env ℓ σ ρ s) {r : Addr} {a b : Int} {t u v : Tok} {E : Value → Shared → Prop} (hr : IsRange s.heap r a b 1 t u v) (ha : smallI a = true) (hb : smallI b = true) {s0 : Shared} {ρ0 : Rho} (le : Rle ρ0 ρ) (fz : Fz s0.heap s.heap) {o : Out Src} (ho : o = .ok (.items (rangeL a b)) σ) :
    wpAny (model X.prog X.w) A (pyIter (.ref r)) (SrcPost X G stk env ℓ o ρ0 s0) E s := by
  simp only [smallI, Bool.and_eq_true, decide_eq_true_eq] at ha hb
  refine wpAny_pyIter_range hr (small_one (by omega) (by omega) (by omega) (by omega)) ?_
  have k : ∀ bb ob, s.heap.get? bb = some ob → (s.heap.push { cls := .type "range_iterator", data := .fields #[rawInt a, rawInt (Builtin.Range.rangeSize a b 1), rawInt 1] }).get? bb = some ob := fun _ _ e => Heap.get?_push_of_some _ e
  have hn : Builtin.Range.rangeSize a b 1 = ((b - a).toNat : Int) := by rw [rangeSize_one]; split <;> omega
  refine ⟨_, σ, ρ, [s.heap.objs.size], ho, le, fz.trans (.of_keeps k), I.grow (s' := { s with heap := _ }) k rfl rfl, ?_, fun a' ha' => ?_⟩
  · refine .range (Nat.zero_le _) ?_
    rw [hn]
    have e1 : a + ((0 : Nat) : Int) = a := by omega
    have e2 : ((b - a).toNat : Int) - ((0 : Nat) : Int) = (b - a).toNat := by omega
    rw [e1, e2]
    exact Heap.get?_push_size _ rfl
  · cases List.mem_singleton.mp ha'
    exact I.freshAddr.1

theorem wp_iterV (I : Inv X G stk env ℓ σ ρ s) {x : Value} {v : V} {E : Value → Shared → Prop} (rv : Rv X.toCx ρ s.heap v x) {s0 : Shared} {ρ0 : Rho} (le : Rle ρ0 ρ) (fz : Fz s0.heap s.heap) (hb : Out.ofOpt σ (srcOf X.P v σ) ≠ .bad) :
    wpAny (model X.prog X.w) A (pyIter x) (SrcPost X G stk env ℓ (Out.ofOpt σ (srcOf X.P v σ)) ρ0 s0) E s := by
  refine cps fun Gz kz => ?_
  have fresh := I.freshAddr.1
  cases v with
  | loc n =>
    cases el : σ[n]? with
    | none => exact absurd (congrArg (Out.ofOpt σ) (src_no el)) hb
    | some c =>
      obtain ⟨l⟩ := c
      obtain ⟨a, items, k, o, rfl, hp, g1, g2, g3, g4⟩ := I.listAt rv el
      have kk : ∀ bb ob, s.heap.get? bb = some ob → (s.heap.push { cls := .type "list_iterator", data := .fields #[.ref a, .int 0 0] }).get? bb = some ob := fun _ _ e => Heap.get?_push_of_some _ e
      exact kz (wpAny_pyIter_list (isList_of g1 g2 g3) ⟨_, σ, ρ, [s.heap.objs.size], congrArg (Out.ofOpt σ) (src_list el), le, fz.trans (.of_keeps kk), I.grow (s' := { s with heap := _ }) kk rfl rfl, .list ⟨_, Heap.get?_push_size _ rfl, rfl, rfl⟩ hp, fun a' ha' => by cases List.mem_singleton.mp ha'; exact fresh⟩)
  | tup l =>
    obtain ⟨a, items, n, o, rfl, g1, g2, g3, g4⟩ := tup_inv rv
    have kk : ∀ bb ob, s.heap.get? bb = some ob → (s.heap.push { cls := .type "tuple_iterator", data := .fields #[.ref a, .int 0 0] }).get? bb = some ob := fun _ _ e => Heap.get?_push_of_some _ e
    exact kz (wpAny_pyIter_tuple ⟨o, g1, g2, n, g3⟩ ⟨_, σ, ρ, [s.heap.objs.size], rfl, le, fz.trans (.of_keeps kk), I.grow (s' := { s with heap := _ }) kk rfl rfl, .tup ⟨_, Heap.get?_push_size _ rfl, rfl, rfl⟩ ⟨o, kk _ _ g1, g2, n, g3⟩ (g4.mono (Rle.refl _) (.of_keeps kk)), fun a' ha' => by cases List.mem_singleton.mp ha'; exact fresh⟩)
  | _ => exact absurd rfl hb
theorem globT_of {C : GlobOk X} {x : Str} {t : Value} (h : ∀ mg mb : Str → Option Value, (∀ x : Str, (x = "range" → mg x = none ∧ mb x = some (.type "range")) ∧ (x = "enumerate" → mg x = none ∧ mb x = some (.type "enumerate")) ∧ (x = "zip" → mg x = none ∧ mb x = some (.type "zip"))) → mg x = none ∧ mb x = some t) : ∀ mg mb, X.G0.Ns mainGlobals mg → X.G0.Ns builtinsNs mb → (mg x = some t ∨ (mg x = none ∧ mb x = some t)) := by
  intro mg mb z1 z2
  obtain ⟨mg', mb', m1, m2, m3, m4⟩ := C.glob
  rw [← ns_unique m1 z1, ← ns_unique m2 z2]
  exact .inr (h _ _ m4)
theorem globT_range (C : GlobOk X) {x : Str} (hx : x = "range") : ∀ mg mb, X.G0.Ns mainGlobals mg → X.G0.Ns builtinsNs mb → (mg x = some (.type "range") ∨ (mg x = none ∧ mb x = some (.type "range"))) := globT_of (C := C) fun mg mb h => (h x).1 hx
theorem wp_globT (C : GlobOk X) {sc : Scope} (hs : ScOk sc env) {x : Str} (hg : isGlob sc x = true) {p0 : Pos} (I : Inv X G stk env ℓ σ ρ s) {t : Value} (ht : ∀ mg mb, X.G0.Ns mainGlobals mg → X.G0.Ns builtinsNs mb → (mg x = some t ∨ (mg x = none ∧ mb x = some t))) {Q : Value → Shared → Prop} {E : Value → Shared → Prop} (q : Q t s) : wpAny (model X.prog X.w) A (eval (.Name x p0) env) Q E s := by
  refine cps fun Gz kz => ?_
  obtain ⟨hn, i, e1⟩ := isGlob_spec hg
  obtain ⟨k', f1, f2, f3⟩ := hs x i _ e1
  have hk' : k' = .globalImplicit := by
    rcases f3 with rfl | ⟨q, _⟩
    · rfl
    · cases q
  subst hk'
  refine kz ?_
  show wpAny _ _ (do standAt p0; if x == ("__debug__" : Str) then debugConstant else loadName env x) _ _ _
  refine wpAny_bind (wpAny_standAt ?_)
  rw [badName_debug hn]
  exact wp_loadGlob C I f2 ht q
set_option tactic.hygienic true in
theorem wp_src (B : BaseOk X) {C : V → List V → Store → Out V} {hd : Bool} {sc : Scope} (hs : ScOk sc env) {it : Expr} {it' : It} (hc : cIt sc it (cE sc it) = some it') (ih : ∀ e, cE sc it = some e → EOk X G stk env ℓ A it (fun σ => evE X.P hd C e ℓ σ))
    (iha : ∀ x p0 as p, it = .Call (.Name x p0) as [] p → ∀ x' ∈ as, ∀ e, cE sc x' = some e → EOk X G stk env ℓ A x' (fun σ => evE X.P hd C e ℓ σ)) (I : Inv X G stk env ℓ σ ρ s) (hb : evSrc X.P hd C it' ℓ σ ≠ .bad) :
    wpAny (model X.prog X.w) A (eval it env) (fun x s₁ => wpAny (model X.prog X.w) A (pyIter x) (SrcPost X G stk env ℓ (evSrc X.P hd C it' ℓ σ) ρ s) (Qex X G stk env ℓ (evSrc X.P hd C it' ℓ σ) ρ s) s₁) (Qex X G stk env ℓ (evSrc X.P hd C it' ℓ σ) ρ s) s := by
  have range : ∀ {x : Str} {p0 : Pos} {as : List Expr} {p : Pos} {es : List E}, it = .Call (.Name x p0) as [] p → isGlob sc x = true → x = "range" → cEs sc as = some es → as.length < 29 → ∀ {o : Out Src} {f : List V → Store → Out Src}, o = (evEs X.P hd C es ℓ σ).bind f → o ≠ .bad →
      (∀ vs ys σ' ρ' s₁, evEs X.P hd C es ℓ σ = .ok vs σ' → Rle ρ ρ' → Fz s.heap s₁.heap → Inv X G stk env ℓ σ' ρ' s₁ → RvL X.toCx ρ' s₁.heap vs ys → wpAny (model X.prog X.w) A (call (.type "range") ys) (fun x s₁ => wpAny (model X.prog X.w) A (pyIter x) (SrcPost X G stk env ℓ o ρ s) (Qex X G stk env ℓ o ρ s) s₁) (Qex X G stk env ℓ o ρ s) s₁) →
      wpAny (model X.prog X.w) A (eval it env) (fun x s₁ => wpAny (model X.prog X.w) A (pyIter x) (SrcPost X G stk env ℓ o ρ s) (Qex X G stk env ℓ o ρ s) s₁) (Qex X G stk env ℓ o ρ s) s := by
    intro x p0 as p es hit hg hx hes hl o f ho hob k
    subst hit
    have h1 := (star_of hes env p).1
    have h2 := (star_of hes env p).2
    show wpAny _ _ (do callWith p (← eval (.Name x p0) env) [] (backTo p (starEach as env)) []) _ _ _
    refine wpAny_bind (wp_globT B.gl hs hg I (globT_range B.gl hx) ?_)
    have hbe : evEs X.P hd C es ℓ σ ≠ .bad := fun q => hob (by rw [ho, q]; rfl)
    refine wp_callWith h1 (by omega) (wpAny_mono (snd_spliced (pos := p) hTrue hes (iha x p0 as p rfl) σ ρ s I trivial hbe) (fun ys s₁ ⟨vs, σ', ρ', ev, le, fz, I', rl⟩ => ⟨kept_ty, k vs ys σ' ρ' s₁ ev le fz I' rl⟩) fun ex s' ⟨cc, σ', ρ', ev, le, fz, I', fl⟩ => ⟨cc, σ', ρ', ?_, le, fz, I', fl⟩)
    have ev : evEs X.P hd C es ℓ σ = .exc cc σ' := ev
    rw [ho, ev]; rfl
  cases it' with
  | of e =>
    have he := cIt_of hc
    simp only [q_r2, q_of] at hb ⊢
    have hbe : evE X.P hd C e ℓ σ ≠ .bad := fun q => hb (by rw [q]; rfl)
    refine wpAny_mono (ih e he σ ρ s I trivial hbe) (fun x s₁ ⟨v, σ', ρ', ev, le, fz, I', rv⟩ => ?_) fun ex s' ⟨cc, σ', ρ', ev, le, fz, I', fl⟩ => ⟨cc, σ', ρ', by have ev : evE X.P hd C e ℓ σ = .exc cc σ' := ev; rw [ev]; rfl, le, fz, I', fl⟩
    have ev : evE X.P hd C e ℓ σ = .ok v σ' := ev
    rw [ev] at hb ⊢
    exact wp_iterV I' rv le fz hb
  | range2 a b =>
    refine cps fun Gz kz => ?_
    obtain ⟨x, p0, as, p, hit, hg, hx, hes⟩ := cIt_range2 hc
    refine kz (range (f := fun vs σ => rng2 (vs.headD .none) (vs.tail.headD .none) σ) hit hg hx hes (by rw [← cEs_length hes]; exact (by decide : 2 < 29)) ?_ hb fun vs ys σ' ρ' s₁ ev le fz I' rl => ?_)
    · simp only [q_r2, q_of, q_nil, q_cons]
      cases evE X.P hd C a ℓ σ with
      | ok v σ1 => simp only [Out.bind]; cases evE X.P hd C b ℓ σ1 <;> rfl
      | exc c σ1 => rfl
      | bad => rfl
    · refine cps fun Gz kz => ?_
      obtain ⟨v, w, σ1, rfl, ev1, ev2⟩ : ∃ v w σ1, vs = [v, w] ∧ evE X.P hd C a ℓ σ = .ok v σ1 ∧ evE X.P hd C b ℓ σ1 = .ok w σ' := by
        simp only [q_nil, q_cons] at ev
        cases q : evE X.P hd C a ℓ σ with
        | ok v σ1 =>
          rw [q] at ev; simp only [Out.bind] at ev
          cases q2 : evE X.P hd C b ℓ σ1 with
          | ok w σ2 => rw [q2] at ev; cases ev; exact ⟨v, w, σ1, rfl, rfl, q2⟩
          | exc c σ2 => rw [q2] at ev; cases ev
          | bad => rw [q2] at ev; cases ev
        | exc c σ1 => rw [q] at ev; cases ev
        | bad => rw [q] at ev; cases ev
      have eo : evSrc X.P hd C (.range2 a b) ℓ σ = rng2 v w σ' := by simp only [q_r2, q_of, ev1, Out.bind, ev2]
      rw [eo] at hb kz
      cases rl with | cons rv rn => ?_
      cases rn with | cons rw' rn => ?_
      cases rn
      cases v with
      | int n =>
        cases w with
        | int m =>
          cases rv with | int j t => ?_
          cases rw' with | int j u => ?_
          by_cases hz : (smallI n && smallI m) = true
          · refine kz (call_range_2 ?_)
            have kk : ∀ bb ob, s₁.heap.get? bb = some ob → (s₁.heap.push { cls := .type "range", data := .fields #[.int n t, .int m u, .int 1 s₁.toks] }).get? bb = some ob := fun _ _ e => Heap.get?_push_of_some _ e
            exact wp_rangeIter (s := { s₁ with heap := _, toks := _ }) (I'.grow (s' := { s₁ with heap := _, toks := _ }) kk rfl rfl) (Heap.get?_push_size _ rfl) (Bool.and_eq_true_iff.mp hz).1 (Bool.and_eq_true_iff.mp hz).2 le (fz.trans (.of_keeps kk)) (if_pos hz)
          · exact absurd (if_neg hz) hb
        | _ => exact absurd rfl hb
      | _ => exact absurd rfl hb
end
end Mine
end

section
set_option tactic.hygienic false
set_option bootstrap.genMatcherCode false
set_option maxRecDepth 100000
set_option linter.unusedSimpArgs false
set_option linter.unusedVariables false
namespace Mine
open PySem PySem.W PySem.Calls PyProof.Rows

section
variable {X : Cy} {A : Around} {G : Heap} {stk : List Env} {env : Env} {ℓ ℓ' : Loc} {σ σ' : Store} {ρ ρ' : Rho} {s s' : Shared} {R : Rho → Heap → Prop}

/-- behind a run of another frame: a frame's own state stands, but that the store's cells have changed -/
theorem Inv.back (I : Inv X G stk env ℓ σ ρ s) (le : Rle ρ ρ') (fz : Fz s.heap s'.heap)
    (Ex : Addr → Prop) (hEx : ∀ b, Ex b → G.get? b = none ∧ b ≠ env.locals ∧ ∀ o, s.heap.get? b = some o → ¬ isC o)
    (hk : ∀ b o, s.heap.get? b = some o → ¬ Ex b → (∀ (n : Nat) p, ρ[n]? = some p → b ≠ p.1 ∧ b ≠ p.2) → ∃ sl, s'.heap.get? b = some { o with slots := sl } ∧ (b ∉ frs stk → sl = o.slots))
    (hn : ∀ (n : Nat) p, ρ'[n]? = some p → ρ[n]? = some p ∨ (s.heap.get? p.1 = none ∧ s.heap.get? p.2 = none)) (len : ρ'.length = σ'.length)
    (cells : ∀ (n : Nat) c p, σ'[n]? = some c → ρ'[n]? = some p → CellOk X.toCx ρ' s'.heap p c)
    (sep : ∀ (n m : Nat) p q, ρ'[n]? = some p → ρ'[m]? = some q → n ≠ m → p.1 ≠ q.1 ∧ p.1 ≠ q.2 ∧ p.2 ≠ q.1 ∧ p.2 ≠ q.2) (hg : s'.gens = #[]) (ho : s'.os = X.os) : Inv X G stk env ℓ σ' ρ' s' := by
  obtain ⟨m, hm, hr⟩ := id I.fr.ns
  obtain ⟨oL, hL, _⟩ := ns_at hm
  have notRho : ∀ {b : Addr}, G.get? b ≠ none → ∀ (n : Nat) p, ρ[n]? = some p → b ≠ p.1 ∧ b ≠ p.2 := fun {b} hb n p hp => ⟨fun q => hb (q ▸ (I.fresh n p hp).1), fun q => hb (q ▸ (I.fresh n p hp).2)⟩
  refine { keep := fun b o e => ?_, base := I.base, ff := fz.funFrames I.ff, fd := fz.frD I.fd, fr := ?_, ownL := ⟨I.ownL.1, fun n p hp => ?_⟩, ownC := I.ownC, len := len, cells := cells, sep := sep, fresh := fun n p hp => ?_, gens := hg, os := ho }
  · obtain ⟨sl, e1, e2⟩ := I.keep b o e
    obtain ⟨sl', e3, e4⟩ := hk b _ e1 (fun q => by rw [(hEx b q).1] at e; cases e) (notRho (by rw [e]; simp))
    exact ⟨sl', e3, fun hb => (e4 hb).trans (e2 hb)⟩
  · refine I.fr.mono le fz (fun o e => ?_) fun x c hx o e hc hy => ?_
    · obtain ⟨sl, e3, _⟩ := hk _ o e (fun q => (hEx _ q).2.1 rfl) fun n p hp => ⟨(I.ownL.2 n p hp).1.symm, (I.ownL.2 n p hp).2.symm⟩
      exact ⟨_, e3, rfl⟩
    · obtain ⟨sl, e3, _⟩ := hk _ o e (fun q => (hEx _ q).2.2 o e hc) fun n p hp => ⟨(I.notCell hp e hc).1.symm, (I.notCell hp e hc).2.symm⟩
      exact ⟨_, e3, rfl, rfl⟩
  · rcases hn n p hp with h | ⟨h1, h2⟩
    · exact I.ownL.2 n p h
    · exact ⟨(fun q => by rw [q, hL] at h1; cases h1), (fun q => by rw [q, hL] at h2; cases h2)⟩
  · rcases hn n p hp with h | ⟨h1, h2⟩
    · exact I.fresh n p h
    · exact ⟨(I.fresh' h1).1, (I.fresh' h2).1⟩

/-- the same behind a frame that was held to its own things -/
theorem Inv.backProt (I : Inv X G stk env ℓ σ ρ s) {stk' : List Env} {cenv : Env} {ℓc : Loc} (hst : ∀ b o, s.heap.get? b = some o → b ∉ frs stk → b ∉ frs stk') (hcc : CellsNd cenv) (hcf : cenv.func.isSome = true → ∀ x c, (x, c) ∈ cenv.cells → s.heap.get? c = none) {s1 : Shared} (k1 : ∀ b o, s.heap.get? b = some o → s1.heap.get? b = some o)
    (hL : G.get? cenv.locals = none ∧ cenv.locals ≠ env.locals ∧ ∀ o, s.heap.get? cenv.locals = some o → ¬ isC o) (le : Rle ρ ρ') (fz : Fz s.heap s'.heap) (I' : Inv X (prot s1.heap ρ cenv) stk' cenv ℓc σ' ρ' s') : Inv X G stk env ℓ σ' ρ' s' := by
  refine I.back le fz (fun b => b = cenv.locals) (fun b q => q ▸ hL) (fun b o e hne hb => ?_) (fun n p hp => ?_) I'.len I'.cells I'.sep I'.gens I'.os
  · have hm : b ∉ muts ρ cenv := fun hm => by
      rcases mem_muts hm with rfl | ⟨hf, x, hx⟩ | ⟨n, p, hp, h | h⟩
      · exact hne rfl
      · rw [hcf hf x b hx] at e; cases e
      · exact (hb n p hp).1 h
      · exact (hb n p hp).2 h
    obtain ⟨sl, e1, e2⟩ := I'.keep b o (by rw [prot_get, if_neg hm]; exact k1 b o e)
    exact ⟨sl, e1, fun hq => e2 (hst b o e hq)⟩
  · obtain ⟨f1, f2⟩ := I'.fresh n p hp
    by_cases hq : n < ρ.length
    · have e := List.getElem?_eq_getElem hq
      have := le n _ e
      rw [hp] at this; cases this
      exact .inl e
    · refine .inr ⟨?_, ?_⟩
      · cases q : s.heap.get? p.1 with
        | none => rfl
        | some o =>
          rw [prot_get] at f1
          split at f1
          · rename_i hm
            rcases mem_muts hm with h | ⟨hf, x, hx⟩ | ⟨m, r, hr, h⟩
            · exact absurd h (I'.ownL.2 n p hp).1
            · rw [hcf hf x _ hx] at q; cases q
            · have hmn : n ≠ m := fun e => hq (e ▸ (List.getElem?_eq_some_iff.mp hr).1)
              obtain ⟨x1, x2, x3, x4⟩ := I'.sep n m p r hp (le m r hr) hmn
              rcases h with h | h
              · exact absurd h x1
              · exact absurd h x2
          · rw [k1 _ _ q] at f1; cases f1
      · cases q : s.heap.get? p.2 with
        | none => rfl
        | some o =>
          rw [prot_get] at f2
          split at f2
          · rename_i hm
            rcases mem_muts hm with h | ⟨hf, x, hx⟩ | ⟨m, r, hr, h⟩
            · exact absurd h (I'.ownL.2 n p hp).2
            · rw [hcf hf x _ hx] at q; cases q
            · have hmn : n ≠ m := fun e => hq (e ▸ (List.getElem?_eq_some_iff.mp hr).1)
              obtain ⟨x1, x2, x3, x4⟩ := I'.sep n m p r hp (le m r hr) hmn
              rcases h with h | h
              · exact absurd h x3
              · exact absurd h x4
          · rw [k1 _ _ q] at f2; cases f2
theorem Inv.recChgF (I : Inv X G stk env ℓ σ ρ s) {a : Addr} {o : Obj} {vs : Array Value} (hG : G.get? a = none) (ho : s.heap.get? a = some o) (fz : Fz s.heap s'.heap) (hd : o.data = .fields vs) (hs : ∀ b ob, b ≠ a → s.heap.get? b = some ob → s'.heap.get? b = some ob) (hg : s'.gens = s.gens) (hos : s'.os = s.os) :
    Fz s.heap s'.heap ∧ Inv X G stk env ℓ σ ρ s' := by
  have nL : a ≠ env.locals := fun q => by
    obtain ⟨m, hm, _⟩ := I.fr.ns
    obtain ⟨oL, h1, h2⟩ := ns_at hm
    rw [← q, ho] at h1; cases h1; exact h2 vs hd
  refine ⟨fz, I.chg (fun b => b = a) fz (fun b ob e q => hs b ob q e) (fun b q => q ▸ hG) (I.fr.mono (Rle.refl _) fz (fun oL e => ⟨oL, hs _ _ (Ne.symm nL) e, rfl⟩) fun x c _ oc e hcl hy => ⟨oc, hs _ _ (fun q => ?_) e, rfl, rfl⟩) I.ownL.2 I.len (fun n c p e1 e2 => ?_) I.sep I.fresh hg hos⟩
  · obtain ⟨y, hy⟩ := hy
    rw [q, ho] at e; cases e
    rw [hd] at hy; cases hy
  · obtain ⟨⟨o1, a1, _, n1⟩, ⟨o2, a2, _, n2⟩⟩ := (I.cells n c p e1 e2).at
    have h1 : p.1 ≠ a := fun q => by rw [q, ho] at a1; cases a1; exact n1 vs hd
    have h2 : p.2 ≠ a := fun q => by rw [q, ho] at a2; cases a2; exact n2 vs hd
    exact (I.cells n c p e1 e2).mono (Rle.refl _) fz (fun o e => hs _ _ h1 e) (fun o e => hs _ _ h2 e)

theorem FunFrames.rebase {h B B' : Heap} : ∀ {l : List Env}, h.FunFrames B l → (∀ b ∈ frs l, B'.get? b = none) → h.FunFrames B' l
  | [], _, _ => trivial
  | env :: l, ⟨hk, ⟨L, o, hf, hn, ho, hd⟩, hr⟩, hb => ⟨hk, ⟨L, o, hf, hb L (by simp [frs, List.filterMap_cons, hf]), ho, hd⟩, FunFrames.rebase hr fun b hm => hb b (by
      unfold frs at hm ⊢
      rw [List.filterMap_cons, hf]
      exact .tail _ hm)⟩

/-- a heap but for some things -/
noncomputable def allBut (h : Heap) (l : List Addr) : Heap := mkHeap h.objs.size fun b => if b ∈ l then none else h.get? b
theorem allBut_get (h : Heap) (l : List Addr) (b : Addr) : (allBut h l).get? b = if b ∈ l then none else h.get? b := by
  unfold allBut
  rw [mkHeap_get]
  intro b o e
  split at e
  · cases e
  · exact get?_ok e

/-- a new entry of the traceback -/
theorem wp_entry {stk : List Env} {c : Str} {f ea C : Addr} {oe : Obj} {vs : Array Value} {head : Value} {hadNext : Bool} (I : Inv X G (env :: stk) env ℓ σ ρ s) (hF : A.frames = some (env :: stk)) (hf : env.frame = some f) (hC : X.al c = some C) (he : s.heap.get? ea = some oe) (hcls : oe.cls = .ref C) (hd : oe.data = .fields vs) (hG : G.get? ea = none) (hsz : 1 < vs.size)
    {Q : Unit → Shared → Prop} {E : Value → Shared → Prop} (h : ∀ s', Fz s.heap s'.heap → Inv X G (env :: stk) env ℓ σ ρ s' → (∀ f', Fly X G f' c (.ref ea) s'.heap) → Q () s') :
    wpAny (model X.prog X.w) A (do let a ← frameOf env; let pl ← entryPlaceOf f hadNext; let b ← EntryCells.newEntry head a .none (rawInt f) .none pl; setField (.ref ea) 1 b) (fun _ s' => wpAny (model X.prog X.w) A (setFlight (.ref ea) none) Q E s') E s := by
  have hfd : ∀ b ∈ frs (env :: stk), ∃ o es ep, s.heap.get? b = some o ∧ o.data = .dict es ep := I.fd
  have notF : ∀ b o, s.heap.get? b = some o → (∀ es ep, o.data ≠ .dict es ep) → b ∉ frs (env :: stk) := fun b o e0 hn hm => by
    obtain ⟨o', es, ep, g1, g2⟩ := hfd b hm
    rw [e0] at g1; cases g1; exact hn _ _ g2
  refine wpAny_newEntry (base := allBut s.heap (ea :: frs (env :: stk))) hF (FunFrames.rebase I.ff fun b hb => by rw [allBut_get, if_pos (.tail _ hb)]) hf he (fun b o e0 => ?_) (by rw [allBut_get, if_pos (.head _)]) hd hsz fun h' left => ?_
  · rw [allBut_get] at e0
    split at e0
    · cases e0
    · exact e0
  obtain ⟨l1, l2, l3, l4⟩ := left
  have kept : ∀ b o, s.heap.get? b = some o → b ≠ ea → b ∉ frs (env :: stk) → h'.get? b = some o := fun b o e0 h1 h2 => l1 b o (by
    rw [allBut_get, if_neg]
    · exact e0
    · intro hm
      rcases List.mem_cons.mp hm with q | q
      · exact h1 q
      · exact h2 q)
  have fz : Fz s.heap h' := fun b o e0 => by
    by_cases hq : b = ea
    · subst hq
      rw [he] at e0; cases e0
      obtain ⟨oe', vs'', T, oT, ts, g1, g2, g3, _⟩ := l3
      exact ⟨(fun q => by rcases q with ⟨_, _, _, q⟩ | ⟨_, _, _, q⟩ <;> (rw [hd] at q; cases q)), (fun z => absurd hd (z _)), (fun _ _ q => by rw [hd] at q; cases q)⟩
    · by_cases hb : b ∈ frs (env :: stk)
      · obtain ⟨o', es, ep, e', d'⟩ := hfd b hb
        rw [e0] at e'; cases e'
        obtain ⟨sl, e2⟩ := l4 b o e0 (by rw [d']; intro _ q; cases q)
        exact ⟨(fun q => by rcases q with ⟨_, _, _, q⟩ | ⟨_, _, _, q⟩ <;> (rw [d'] at q; cases q)), (fun z => ⟨_, e2, z⟩), fun es ep z => ⟨_, es, ep, e2, z⟩⟩
      · exact Fz.keep1 (kept b o e0 hq hb)
  refine h { s with heap := h' } fz
    { keep := fun b o e0 => ?_, base := I.base, ff := fz.funFrames I.ff, fd := fz.frD I.fd, fr := ?_, ownL := I.ownL, ownC := I.ownC, len := I.len, cells := fun n cc p e1 e2 => ?_, sep := I.sep, fresh := I.fresh, gens := I.gens, os := I.os } fun f' => ⟨?_⟩
  · obtain ⟨sl, e1, e2⟩ := I.keep b o e0
    have hne : b ≠ ea := fun q => by rw [q, hG] at e0; cases e0
    by_cases hb : b ∈ frs (env :: stk)
    · obtain ⟨o', es, ep, e', d'⟩ := hfd b hb
      rw [e1] at e'; cases e'
      obtain ⟨sl', e3⟩ := l4 b _ e1 (by rw [d']; intro _ z; cases z)
      exact ⟨sl', e3, fun z => absurd hb z⟩
    · exact ⟨sl, kept b _ e1 hne hb, e2⟩
  · refine I.fr.mono (Rle.refl _) fz (fun o e0 => ?_) fun x cc hx o e0 hc hy => ?_
    · obtain ⟨m, hm, _⟩ := I.fr.ns
      obtain ⟨o', es, ep, g1, g2, _⟩ := hm
      rw [e0] at g1; cases g1
      obtain ⟨sl, e3⟩ := l4 _ o e0 (by rw [g2]; intro _ z; cases z)
      exact ⟨_, e3, rfl⟩
    · obtain ⟨y, hy⟩ := hy
      exact ⟨o, kept _ o e0 (fun q => by rw [q, he] at e0; cases e0; rw [hd] at hy; cases hy) (notF _ o e0 (by rw [hy]; intro _ _ z; cases z)), rfl, rfl⟩
  · have hcc := I.cells n cc p e1 e2
    obtain ⟨l⟩ := cc
    obtain ⟨q, o, k, items, a1, a2, a3, a4⟩ := id hcc
    have hk : h'.get? p.1 = some o := kept _ o a1 (fun q => by rw [q, he] at a1; cases a1; rw [hd] at a3; cases a3) (notF _ o a1 (by rw [a3]; intro _ _ z; cases z))
    refine hcc.mono (Rle.refl _) fz (fun o' z => ?_) (fun o' z => ?_)
    · rw [a1] at z; cases z; exact hk
    · rw [q] at z ⊢; rw [a1] at z; cases z; exact hk
  · obtain ⟨oe', vs'', T, oT, ts, g1, g2, g3, g4, g5, g6, g7, g8, g9⟩ := l3
    refine ⟨ea, C, oe', vs'', rfl, hC, g1, g2.trans hcls, g3, hG, .inr ⟨T, oT, ts, g4, g6, ?_, g7, g8, g9⟩⟩
    cases q : G.get? T with
    | none => rfl
    | some o =>
      obtain ⟨sl, e1, e2⟩ := I.keep T o q
      rw [allBut_get] at g5
      split at g5
      · rename_i hm
        rcases List.mem_cons.mp hm with z | z
        · exact absurd z g6
        · obtain ⟨o2, es, ep, e3, d3⟩ := fz.frD I.fd T z
          have e3 : h'.get? T = some o2 := e3
          rw [g7] at e3; cases e3; rw [g8] at d3; cases d3
      · rw [e1] at g5; cases g5

/-- an exception is noted at its frame -/
theorem wp_note {stk : List Env} {c : Str} {e : Value} {f : Addr} (I : Inv X G (env :: stk) env ℓ σ ρ s) (hF : A.frames = some (env :: stk)) (hf : env.frame = some f) (fl : Fly X G f c e s.heap) {Q : Unit → Shared → Prop} {E : Value → Shared → Prop}
    (h : ∀ s', Fz s.heap s'.heap → Inv X G (env :: stk) env ℓ σ ρ s' → (∀ f', Fly X G f' c e s'.heap) → Q () s') : wpAny (model X.prog X.w) A (noteFrame e env) (fun _ s' => wpAny (model X.prog X.w) A (setFlight e none) Q E s') E s := by
  obtain ⟨ea, C, oe, vs, rfl, hC, he, hcls, hd, hG, ht⟩ := fl.at_
  unfold noteFrame
  simp only [hf]
  rcases ht with h1 | ⟨T, oT, ts, h1, hTe, hTG, hT, hdT, h3⟩
  · refine wpAny_bind (wpAny_field he hd h1 ?_)
    rw [if_neg (by decide)]
    exact wp_entry I hF hf hC he hcls hd hG (Array.getElem?_eq_some_iff.mp h1).1 h
  · refine wpAny_bind (wpAny_field he hd h1 ?_)
    rw [if_pos (show (Value.ref T != Value.none) = true from by simp)]
    refine wpAny_bind (wpAny_field hT hdT h3 ?_)
    rw [if_neg (show ¬ ((Value.none == rawInt f) = true) from by simp [rawInt])]
    refine wpAny_bind (wpAny_setField hT hdT (Array.getElem?_eq_some_iff.mp h3).1 ?_)
    have other : ∀ b ob, b ≠ T → s.heap.get? b = some ob → (s.heap.update T (Obj.mapFields (·.setIfInBounds 3 Value.none))).get? b = some ob := fun b ob hb e0 => (Heap.get?_update_other _ _ (Ne.symm hb)).trans e0
    have hd' := Obj.data_mapFields hdT (·.setIfInBounds 3 Value.none)
    have hT' := Heap.get?_update_self (Obj.mapFields (·.setIfInBounds 3 Value.none)) hT (Obj.isFreed_of_fields hd')
    have fz1 : Fz s.heap (s.heap.update T (Obj.mapFields (·.setIfInBounds 3 Value.none))) := fun b o e0 => by
      by_cases q : b = T
      · subst q
        rw [hT] at e0; cases e0
        exact ⟨(fun q => by rcases q with ⟨_, _, _, q⟩ | ⟨_, _, _, q⟩ <;> (rw [hdT] at q; cases q)), (fun z => absurd hdT (z _)), (fun _ _ q => by rw [hdT] at q; cases q)⟩
      · exact Fz.keep1 (other b o q e0)
    obtain ⟨_, I1⟩ := I.recChgF (s' := { s with heap := s.heap.update T (Obj.mapFields (·.setIfInBounds 3 Value.none)) }) hTG hT fz1 hdT other rfl rfl
    exact wp_entry I1 hF hf hC (other _ _ (Ne.symm hTe) he) hcls hd hG (Array.getElem?_eq_some_iff.mp h1).1 fun s' fz2 => h s' (fz1.trans fz2)
theorem wp_leave {stk : List Env} {c : Str} {e : Value} {f : Addr} (I : Inv X G (env :: stk) env ℓ σ ρ s) (hF : A.frames = some (env :: stk)) (hf : env.frame = some f) (fl : Fly X G f c e s.heap) {Q : Unit → Shared → Prop} {E : Value → Shared → Prop}
    (h : ∀ s', Fz s.heap s'.heap → Inv X G (env :: stk) env ℓ σ ρ s' → (∀ f', Fly X G f' c e s'.heap) → Q () s') : wpAny (model X.prog X.w) A (leaving env e) Q E s := by
  unfold leaving
  exact wpAny_bind (wp_note I hF hf fl h)
theorem wp_flight {c : Str} {e : Value} {f : Addr} (I : Inv X G stk env ℓ σ ρ s) (fl : Fly X G f c e s.heap) {Q : Unit → Shared → Prop} {E : Value → Shared → Prop}
    (h : ∀ s', Fz s.heap s'.heap → Inv X G stk env ℓ σ ρ s' → Q () s') : wpAny (model X.prog X.w) A (setFlight e none) Q E s := by
  obtain ⟨ea, C, oe, vs, rfl, hC, he, hcls, hd, hG, ht⟩ := fl.at_
  unfold setFlight
  rcases ht with h1 | ⟨T, oT, ts, h1, hTe, hTG, hT, hdT, h3⟩
  · refine wpAny_bind (wpAny_field he hd h1 ?_)
    rw [if_neg (by decide)]
    exact wpAny_pure (h s (Fz.refl _) I)
  · refine wpAny_bind (wpAny_field he hd h1 ?_)
    rw [if_pos (show (Value.ref T != Value.none) = true from by simp)]
    refine wpAny_setField hT hdT (Array.getElem?_eq_some_iff.mp h3).1 ?_
    have other : ∀ b ob, b ≠ T → s.heap.get? b = some ob → (s.heap.update T (Obj.mapFields (·.setIfInBounds 3 Value.none))).get? b = some ob := fun b ob hb e0 => (Heap.get?_update_other _ _ (Ne.symm hb)).trans e0
    have hd' := Obj.data_mapFields hdT (·.setIfInBounds 3 Value.none)
    have hT' := Heap.get?_update_self (Obj.mapFields (·.setIfInBounds 3 Value.none)) hT (Obj.isFreed_of_fields hd')
    have fz1 : Fz s.heap (s.heap.update T (Obj.mapFields (·.setIfInBounds 3 Value.none))) := fun b o e0 => by
      by_cases q : b = T
      · subst q
        rw [hT] at e0; cases e0
        exact ⟨(fun q => by rcases q with ⟨_, _, _, q⟩ | ⟨_, _, _, q⟩ <;> (rw [hdT] at q; cases q)), (fun z => absurd hdT (z _)), (fun _ _ q => by rw [hdT] at q; cases q)⟩
      · exact Fz.keep1 (other b o q e0)
    obtain ⟨_, I1⟩ := I.recChgF (s' := { s with heap := s.heap.update T (Obj.mapFields (·.setIfInBounds 3 Value.none)) }) hTG hT fz1 hdT other rfl rfl
    exact h _ fz1 I1
end
end Mine
end

section
set_option tactic.hygienic false
set_option bootstrap.genMatcherCode false
set_option maxRecDepth 100000
set_option linter.unusedSimpArgs false
set_option linter.unusedVariables false
namespace Mine
open PySem PySem.W PySem.Calls PyProof.Rows

theorem zr {a t : Nat} (h : 0 < t) : a < t + a := Nat.lt_add_of_pos_left h
theorem zl {a s b : Nat} (h : a < s) : a < s + b := Nat.lt_of_lt_of_le h (Nat.le_add_right _ _)
theorem zp {t s : Nat} (h : 0 < t) : 0 < t + s := Nat.lt_of_lt_of_le h (Nat.le_add_right _ _)
section
variable {X : Cy} {A : Around} {G : Heap} {stk : List Env} {env : Env} {ℓ ℓ' : Loc} {σ σ' : Store} {ρ ρ' : Rho} {s s' : Shared} {R : Rho → Heap → Prop}

theorem truth_spec {v : V} {b : Bool} (h : truthV v = some b) : v = .bool b := by
  unfold truthV at h; split at h
  · cases h; rfl
  · cases h
theorem snd_truth {v : V} {y : Value} (hR : ∀ ρ h, R ρ h → Rv X.toCx ρ h v y) : Snd X A G stk env ℓ R (rEq) (truthy y) (fun σ => .ofOpt σ (truthV v)) := by
  intro σ ρ s I hr hb
  obtain ⟨b, hv⟩ := ofOpt_bad hb
  obtain rfl := truth_spec hv
  have := hR _ _ hr
  cases this
  exact wpAny_truthy_bool (qok_same I (by rw [hv]; rfl) rfl)

theorem marked_eq {op : CmpOp} {e : Expr} (h : ∀ a b c, e ≠ .Set a b c) (t : Sem Value) : markedBehindIn op e t = t := by
  unfold markedBehindIn
  have : behindInMarks op e = false := by cases e <;> first | rfl | exact absurd rfl (h _ _ _)
  rw [this]

theorem cE_notSet {sc : Scope} {x : Expr} {e : E} (h : cE sc x = some e) : (∀ a b c, x ≠ .Set a b c) ∧ (∀ a b c p, x ≠ .Slice a b c p) := by
  constructor
  · intro a b c q; subst q; exact no_some h
  · intro a b c p q; subst q; exact no_some h

theorem ev_cmp (B : BaseOk X) {C : V → List V → Store → Out V} {hd : Bool} {D U : Nat} (hU : U + 80 < cLine) (hA : AOk A stk hd D U) {op : CmpOp} {a b : V} {x y : Value} {vs : List Value} (hR : ∀ ρ h, R ρ h → Rv X.toCx ρ h a x ∧ Rv X.toCx ρ h b y) :
    Snd X A G stk env ℓ R (rV X) (operate vs (compareOp op x y)) (fun σ => (Out.ofOpt σ (cmpV X.P (cCop op) a b σ)).bind fun r σ => .ok (.bool r) σ) ∧ Snd X A G stk env ℓ R (fun r v _ _ => v = .bool r) (compareOp op x y) (fun σ => (Out.ofOpt σ (cmpV X.P (cCop op) a b σ))) := by
  have key : Snd X A G stk env ℓ R (fun r v _ _ => v = .bool r) (compareOp op x y) (fun σ => (Out.ofOpt σ (cmpV X.P (cCop op) a b σ))) := by
    intro σ ρ s I hr hb
    obtain ⟨ra, rb⟩ := hR _ _ hr
    obtain ⟨r, hv⟩ := ofOpt_bad hb
    exact wp_cmp (by have := hA.2.2.1; omega) I ra rb hv fun tk => qok_same I (by dsimp only; rw [hv]; rfl) rfl
  refine ⟨?_, key⟩
  refine Snd.operate ?_
  intro σ ρ s I hr hb
  have hb' : Out.ofOpt σ (cmpV X.P (cCop op) a b σ) ≠ .bad := fun q => hb (by dsimp only; rw [q]; rfl)
  refine wpAny_mono (key σ ρ s I hr hb') (fun v s' ⟨r, σ', ρ', e, le, fz, I', rv⟩ => ?_) fun ex s' ⟨c, σ', ρ', e, le, fz, I', fl⟩ => ⟨c, σ', ρ', by dsimp only at e ⊢; rw [e]; rfl, le, fz, I', fl⟩
  subst rv
  exact ⟨.bool r, σ', ρ', by dsimp only at e ⊢; rw [e]; rfl, le, fz, I', .bool r⟩

/-- what the frame gives to each of its expressions -/
structure FCtx (X : Cy) (C : V → List V → Store → Out V) (hd : Bool) (D U : Nat) (A : Around) (stk : List Env) (env : Env) (sc : Scope) : Prop where
  base : BaseOk X
  co : COk X C hd D U
  hU : U + 80 < cLine
  hs : ScOk sc env
  hA : AOk A stk hd D U
  hfr : env.frame = (stk.head?.bind (·.frame))

theorem snd_bool {C : V → List V → Store → Out V} {hd : Bool} {sc : Scope} {pos : Pos} (op : BoolOp) : ∀ (xs : List Expr) (es : List E), xs ≠ [] → cEs sc xs = some es → (∀ x ∈ xs, ∀ e, cE sc x = some e → EOk X G stk env ℓ A x (fun σ => evE X.P hd C e ℓ σ)) →
    Snd X A G stk env ℓ (fun _ _ => True) (rV X) (boolOp pos op (evalEach xs env)) (fun σ => match op with | .And => evAnd X.P hd C es ℓ σ | .Or => evOr X.P hd C es ℓ σ)
  | [], es, hne, h, ih => absurd rfl hne
  | [x], es, _, h, ih => by
    simp only [k_nil, k_cons] at h
    obtain ⟨e, e1, e2⟩ := Option.bind_eq_some_iff.mp h
    simp only [Option.map_some, Option.some.injEq] at e2
    subst e2
    have := ih x (.head _) e e1
    cases op
    · have e0 : (fun σ => evAnd X.P hd C [e] ℓ σ) = fun σ => evE X.P hd C e ℓ σ := by funext σ; simp only [q_and1, q_and2]
      show Snd X A G stk env ℓ _ _ (eval x env) (fun σ => evAnd X.P hd C [e] ℓ σ)
      rw [e0]; exact this
    · have e0 : (fun σ => evOr X.P hd C [e] ℓ σ) = fun σ => evE X.P hd C e ℓ σ := by funext σ; simp only [q_or1, q_or2]
      show Snd X A G stk env ℓ _ _ (eval x env) (fun σ => evOr X.P hd C [e] ℓ σ)
      rw [e0]; exact this
  | x :: y :: xs, es, _, h, ih => by
    simp only [k_nil, k_cons] at h
    obtain ⟨e, e1, e2⟩ := Option.bind_eq_some_iff.mp h
    obtain ⟨es', e3, rfl⟩ := Option.map_eq_some_iff.mp e2
    have hes : cEs sc (y :: xs) = some es' := by simp only [k_nil, k_cons]; exact e3
    have rest := snd_bool (pos := pos) op (y :: xs) es' (by simp) hes (fun x' hx' => ih x' (.tail _ hx'))
    have hne : ∃ f fs, es' = f :: fs := by
      obtain ⟨f, f1, f2⟩ := Option.bind_eq_some_iff.mp e3
      obtain ⟨fs, f3, rfl⟩ := Option.map_eq_some_iff.mp f2
      exact ⟨f, fs, rfl⟩
    obtain ⟨f, fs, rfl⟩ := hne
    have step : Snd X A G stk env ℓ (fun _ _ => True) (rV X) (eval x env >>= fun v => standAt pos >>= fun _ => holding [v] (truthy v) >>= fun t => (match (generalizing := false) op, t with | .And, false | .Or, true => Pure.pure v | _, _ => boolOp pos op (evalEach (y :: xs) env)))
        (fun σ => (evE X.P hd C e ℓ σ).bind fun v σ => (Out.ofOpt σ (truthV v)).bind fun b σ => (match (generalizing := false) op, b with | .And, false | .Or, true => .ok v σ | .And, _ => evAnd X.P hd C (f :: fs) ℓ σ | .Or, _ => evOr X.P hd C (f :: fs) ℓ σ)) := by
      refine Snd.bind hTrue (ih x (.head _) e e1) fun v w => Snd.at (Snd.bind (hTrue.and (rV_mono X v w)) (Snd.holding (snd_truth fun ρ h r => r.2)) fun b b' => ?_)
      intro σ ρ s I hr hb
      obtain ⟨⟨_, rv⟩, rb⟩ := hr
      have rb : b = b' := rb
      subst rb
      cases op <;> cases b
      · exact wpAny_pure (qok_same I rfl rv)
      · exact rest σ ρ s I trivial hb
      · exact rest σ ρ s I trivial hb
      · exact wpAny_pure (qok_same I rfl rv)
    cases op
    · have e0 : (fun σ => evAnd X.P hd C (e :: f :: fs) ℓ σ) = (fun σ => (evE X.P hd C e ℓ σ).bind fun v σ => (Out.ofOpt σ (truthV v)).bind fun b σ => (match BoolOp.And, b with | .And, false | .Or, true => .ok v σ | .And, _ => evAnd X.P hd C (f :: fs) ℓ σ | .Or, _ => evOr X.P hd C (f :: fs) ℓ σ)) := by
        funext σ
        simp only [q_and1, q_and2]
        congr 1
        funext v σ
        cases truthV v with
        | none => rfl
        | some b => cases b <;> rfl
      show Snd X A G stk env ℓ _ _ _ (fun σ => evAnd X.P hd C (e :: f :: fs) ℓ σ)
      rw [e0]; exact step
    · have e0 : (fun σ => evOr X.P hd C (e :: f :: fs) ℓ σ) = (fun σ => (evE X.P hd C e ℓ σ).bind fun v σ => (Out.ofOpt σ (truthV v)).bind fun b σ => (match BoolOp.Or, b with | .And, false | .Or, true => .ok v σ | .And, _ => evAnd X.P hd C (f :: fs) ℓ σ | .Or, _ => evOr X.P hd C (f :: fs) ℓ σ)) := by
        funext σ
        simp only [q_or1, q_or2]
        congr 1
        funext v σ
        cases truthV v with
        | none => rfl
        | some b => cases b <;> rfl
      show Snd X A G stk env ℓ _ _ _ (fun σ => evOr X.P hd C (e :: f :: fs) ℓ σ)
      rw [e0]; exact step
end
end Mine
end

section
set_option tactic.hygienic false
set_option bootstrap.genMatcherCode false
set_option maxRecDepth 100000
set_option linter.unusedSimpArgs false
set_option linter.unusedVariables false
namespace Mine
open PySem PySem.W PySem.Calls PyProof.Rows

section
variable {X : Cy} {A : Around} {G : Heap} {stk : List Env} {env : Env} {ℓ ℓ' : Loc} {σ σ' : Store} {ρ ρ' : Rho} {s s' : Shared} {R : Rho → Heap → Prop}


theorem Snd.cong {α β : Type} {RR : α → β → Rho → Heap → Prop} {t : Sem β} {m m' : Store → Out α} (h : Snd X A G stk env ℓ R RR t m) (e : ∀ σ, m' σ = m σ) : Snd X A G stk env ℓ R RR t m' := by
  have : m' = m := funext e
  rw [this]; exact h
theorem Snd.release {α β : Type} {RR : α → β → Rho → Heap → Prop} {vs ws : List Value} {k : Unit → Sem β} {m : Store → Out α} (h : Snd X A G stk env ℓ R RR (k ()) m) : Snd X A G stk env ℓ R RR (PySem.release vs ws >>= k) m :=
  Snd.skip (fun _ _ _ q => wpAny_release q) h

/-- the second link of a chain -/
theorem snd_chain1 {C : V → List V → Store → Out V} {hd : Bool} {D U : Nat} {sc : Scope} (F : FCtx X C hd D U A stk env sc) {pos : Pos} {op : CmpOp} {r : Expr} {b : E} {va : V} {x : Value} (hR : HMono R) (hr : ∀ ρ h, R ρ h → Rv X.toCx ρ h va x) (hb : cE sc r = some b)
    (ih : EOk X G stk env ℓ A r (fun σ => evE X.P hd C b ℓ σ)) :
    Snd X A G stk env ℓ R (rV X) (compareChain pos x [op] [markedBehindIn op r (eval r env)]) (fun σ => (evE X.P hd C b ℓ σ).bind fun vb σ => (Out.ofOpt σ (cmpV X.P (cCop op) va vb σ)).bind fun r σ => .ok (.bool r) σ) := by
  rw [marked_eq (cE_notSet hb).1]
  show Snd X A G stk env ℓ R (rV X) (PySem.holding [x] (eval r env) >>= fun rv => standAt pos >>= fun _ => PySem.operate [x, rv] (compareOp op x rv)) _
  refine Snd.bind hR (Snd.holding ih.under) fun vb y => Snd.at ?_
  exact (ev_cmp F.base (C := C) F.hU F.hA (fun ρ h q => ⟨hr _ _ q.1, q.2⟩)).1

theorem snd_test1 {C : V → List V → Store → Out V} {hd : Bool} {D U : Nat} {sc : Scope} (F : FCtx X C hd D U A stk env sc) {pos : Pos} {op : CmpOp} {r : Expr} {b : E} {va : V} {x : Value} (hR : HMono R) (hr : ∀ ρ h, R ρ h → Rv X.toCx ρ h va x) (hb : cE sc r = some b)
    (ih : EOk X G stk env ℓ A r (fun σ => evE X.P hd C b ℓ σ)) :
    Snd X A G stk env ℓ R rEq (testChain pos x [op] [markedBehindIn op r (eval r env)]) (fun σ => (evE X.P hd C b ℓ σ).bind fun vb σ => (Out.ofOpt σ (cmpV X.P (cCop op) va vb σ))) := by
  rw [marked_eq (cE_notSet hb).1]
  show Snd X A G stk env ℓ R rEq (PySem.holding [x] (eval r env) >>= fun rv => standAt pos >>= fun _ => PySem.operate [x, rv] (compareOp op x rv) >>= fun c => PySem.holding [c] (truthy c)) _
  refine Snd.bind hR (Snd.holding ih.under) fun vb y => Snd.at ?_
  have := Snd.bind (G := G) (env := env) (ℓ := ℓ) (RS := rEq) (f := fun r σ => .ok r σ) (hR.and (rV_mono X vb y)) (Snd.operate (vs := [x, y]) (ev_cmp (vs := []) F.base (C := C) F.hU F.hA (op := op) (fun ρ h q => ⟨hr _ _ q.1, q.2⟩)).2) (k := fun c => PySem.holding [c] (truthy c)) fun r c => ?_
  · refine this.cong fun σ => ?_
    cases cmpV X.P (cCop op) va vb σ <;> rfl
  · refine Snd.holding ?_
    intro σ ρ s I hr hb
    obtain ⟨_, rfl⟩ := hr
    exact wpAny_truthy_bool (qok_same I rfl rfl)

theorem snd_link {α β : Type} {C : V → List V → Store → Out V} {hd : Bool} {D U : Nat} {sc : Scope} (F : FCtx X C hd D U A stk env sc) {pos : Pos} {op : CmpOp} {r : Expr} {b : E} {va : V} {x : Value} {RS : α → β → Rho → Heap → Prop} (hR : HMono R) (hr : ∀ ρ h, R ρ h → Rv X.toCx ρ h va x)
    (ih : EOk X G stk env ℓ A r (fun σ => evE X.P hd C b ℓ σ)) {k1 k0 : Value → Sem β} {m1 : V → Store → Out α} {m0 : Store → Out α} (h1 : ∀ vb y, Snd X A G stk env ℓ (fun ρ h => R ρ h ∧ rV X vb y ρ h) RS (k1 y) (m1 vb)) (h0 : ∀ R, Snd X A G stk env ℓ R RS (k0 (.bool false)) m0) :
    Snd X A G stk env ℓ R RS (PySem.holding [x] (eval r env) >>= fun rv => standAt pos >>= fun _ => PySem.holding [x, rv] (compareOp op x rv) >>= fun c => PySem.release [x, rv] [c] >>= fun _ => PySem.holding [c, rv] (truthy c) >>= fun t => if t = true then k1 rv else k0 c)
      (fun σ => (evE X.P hd C b ℓ σ).bind fun vb σ => (Out.ofOpt σ (cmpV X.P (cCop op) va vb σ)).bind fun r σ => if r then m1 vb σ else m0 σ) := by
  refine Snd.bind hR (Snd.holding ih.under) fun vb y => Snd.at ?_
  refine Snd.bind (hR.and (rV_mono X vb y)) (Snd.holding (ev_cmp (vs := []) F.base (C := C) F.hU F.hA (op := op) (fun ρ h q => ⟨hr _ _ q.1, q.2⟩)).2) fun r1 c1 => Snd.release ?_
  intro σ ρ s I q hb
  obtain ⟨q, rfl⟩ := q
  refine wpAny_bind (wpAny_holding (wpAny_truthy_bool ?_))
  cases r1 with
  | true => exact h1 vb y σ ρ s I q hb
  | false => exact h0 (fun _ _ => True) σ ρ s I trivial hb

theorem bind_assoc' {α β γ : Type} (o : Out α) (f : α → Store → Out β) (g : β → Store → Out γ) : (o.bind f).bind g = o.bind fun a σ => (f a σ).bind g := by
  cases o <;> rfl

theorem snd_chain {C : V → List V → Store → Out V} {hd : Bool} {D U : Nat} {sc : Scope} (F : FCtx X C hd D U A stk env sc) {pos : Pos} {l : Expr} {ops : List CmpOp} {cs : List Expr} {e : E} (he : cE sc (.Compare l ops cs pos) = some e)
    (ihl : ∀ a, cE sc l = some a → EOk X G stk env ℓ A l (fun σ => evE X.P hd C a ℓ σ)) (ihs : ∀ x ∈ cs, ∀ e, cE sc x = some e → EOk X G stk env ℓ A x (fun σ => evE X.P hd C e ℓ σ)) :
    Snd X A G stk env ℓ (fun _ _ => True) (rV X) (eval l env >>= fun v => compareChain pos v ops (markedEach ops cs (evalEach cs env))) (fun σ => evE X.P hd C e ℓ σ) ∧
    Snd X A G stk env ℓ (fun _ _ => True) rEq (eval l env >>= fun v => testChain pos v ops (markedEach ops cs (evalEach cs env))) (fun σ => evB X.P hd C e ℓ σ) := by
  simp only [k_cmp] at he
  refine cps fun Gz kz => ?_
  obtain ⟨a, ha, he1⟩ := Option.bind_eq_some_iff.mp he
  clear he
  obtain ⟨bs, hbs, he⟩ := Option.bind_eq_some_iff.mp he1
  clear he1
  have la := ihl a ha
  cases ops with
  | nil => exact no_some he
  | cons op ops => cases ops with
    | nil => cases bs with
      | nil => exact no_some he
      | cons b bs => cases bs with
        | cons => exact no_some he
        | nil =>
          obtain ⟨r, rs, rfl, hb, h0⟩ := cEs_cons hbs
          obtain rfl := cEs_nil h0
          cases Option.some.inj he
          have rb := ihs r (.head _) b hb
          refine kz ?_
          clear kz
          constructor
          · refine Snd.cong (Snd.bind hTrue la fun va x => snd_chain1 F (pos := pos) (op := op) (hTrue.and (rV_mono X va x)) (fun ρ h q => q.2) hb rb) fun σ => ?_
            simp only [q_int, q_str, q_bool, q_none, q_var, q_glob, q_bin, q_neg, q_not, q_and, q_or, q_cmp, q_cmp2, q_call, q_sub, q_list, q_tup, q_comp]
          · refine Snd.cong (Snd.bind hTrue la fun va x => snd_test1 F (pos := pos) (op := op) (hTrue.and (rV_mono X va x)) (fun ρ h q => q.2) hb rb) fun σ => ?_
            simp only [evB, q_int, q_str, q_bool, q_none, q_var, q_glob, q_bin, q_neg, q_not, q_and, q_or, q_cmp, q_cmp2, q_call, q_sub, q_list, q_tup, q_comp, bind_assoc']
            congr 1; funext va σ; congr 1; funext vb σ
            cases cmpV X.P (cCop op) va vb σ <;> rfl
    | cons p ops => cases ops with
      | cons => cases bs with
        | nil => exact no_some he
        | cons b bs => cases bs <;> exact no_some he
      | nil => cases bs with
        | nil => exact no_some he
        | cons b bs => cases bs with
          | nil => exact no_some he
          | cons c bs => cases bs with
            | cons => exact no_some he
            | nil =>
              obtain ⟨r, rs, rfl, hb, h0⟩ := cEs_cons hbs
              obtain ⟨r2, rs2, rfl, hc, h1⟩ := cEs_cons h0
              obtain rfl := cEs_nil h1
              cases Option.some.inj he
              have rb := ihs r (.head _) b hb
              have rc := ihs r2 (.tail _ (.head _)) c hc
              refine kz ?_
              clear kz
              constructor
              · refine Snd.cong (Snd.bind hTrue la fun va x => snd_link F (RS := rV X) (pos := pos) (op := op) (hTrue.and (rV_mono X va x)) (fun ρ h q => q.2) rb (k1 := fun y => compareChain pos y [p] [markedBehindIn p r2 (eval r2 env)]) (k0 := fun c => Pure.pure c)
                  (m0 := fun σ => .ok (.bool false) σ)
                  (fun vb y => snd_chain1 F (pos := pos) (op := p) ((hTrue.and (rV_mono X va x)).and (rV_mono X vb y)) (fun ρ h q => q.2) hc rc) fun R => Snd.pure fun _ _ _ => .bool false) fun σ => ?_
                simp only [q_int, q_str, q_bool, q_none, q_var, q_glob, q_bin, q_neg, q_not, q_and, q_or, q_cmp, q_cmp2, q_call, q_sub, q_list, q_tup, q_comp]
              · refine Snd.cong (Snd.bind hTrue la fun va x => snd_link F (RS := rEq) (pos := pos) (op := op) (hTrue.and (rV_mono X va x)) (fun ρ h q => q.2) rb (k1 := fun y => testChain pos y [p] [markedBehindIn p r2 (eval r2 env)]) (k0 := fun c => Pure.pure false)
                  (m0 := fun σ => .ok false σ)
                  (fun vb y => snd_test1 F (pos := pos) (op := p) ((hTrue.and (rV_mono X va x)).and (rV_mono X vb y)) (fun ρ h q => q.2) hc rc) fun R => Snd.pure fun _ _ _ => rfl) fun σ => ?_
                simp only [evB, q_int, q_str, q_bool, q_none, q_var, q_glob, q_bin, q_neg, q_not, q_and, q_or, q_cmp, q_cmp2, q_call, q_sub, q_list, q_tup, q_comp, bind_assoc']
                congr 1; funext va σ; congr 1; funext vb σ
                cases cmpV X.P (cCop op) va vb σ with
                | none => rfl
                | some r =>
                  cases r with
                  | false => rfl
                  | true =>
                    show ((evE X.P hd C c ℓ σ).bind _).bind _ = (evE X.P hd C c ℓ σ).bind _
                    rw [bind_assoc']
                    congr 1; funext vc σ
                    cases cmpV X.P (cCop p) vb vc σ <;> rfl

theorem sizeOf_mem {x : Expr} {xs : List Expr} (h : x ∈ xs) : sizeOf x < sizeOf xs := List.sizeOf_lt_of_mem h

theorem evEs_length {P : Prog} {hd : Bool} {C : V → List V → Store → Out V} {ℓ : Loc} : ∀ {es : List E} {σ σ' : Store} {vs : List V}, evEs P hd C es ℓ σ = .ok vs σ' → vs.length = es.length
  | [], σ, σ', vs, h => by simp only [q_nil, q_cons] at h; cases h; rfl
  | e :: es, σ, σ', vs, h => by
    simp only [q_nil, q_cons] at h
    cases q : evE P hd C e ℓ σ with
    | bad => rw [q] at h; cases h
    | exc => rw [q] at h; cases h
    | ok v σ1 =>
      rw [q] at h
      simp only [Out.bind] at h
      cases q2 : evEs P hd C es ℓ σ1 with
      | bad => rw [q2] at h; cases h
      | exc => rw [q2] at h; cases h
      | ok ws σ2 => rw [q2] at h; cases h; simp [evEs_length q2]
theorem snd_display {C : V → List V → Store → Out V} {hd : Bool} {sc : Scope} {pos : Pos} {xs : List Expr} {es : List E} {k : List Value → Sem Value} {f : List V → Store → Out V} (hes : cEs sc xs = some es) (hz : xs.length ≤ 1000)
    (ih : ∀ x ∈ xs, ∀ e, cE sc x = some e → EOk X G stk env ℓ A x (fun σ => evE X.P hd C e ℓ σ))
    (h : ∀ vs ys, vs.length ≤ 1000 → Snd X A G stk env ℓ (fun ρ h => RvL X.toCx ρ h vs ys) (rV X) (k ys) (f vs)) :
    Snd X A G stk env ℓ (fun _ _ => True) (rV X) (standAt pos >>= fun _ => spliced (backTo pos (starEach xs env)) >>= k) (fun σ => (evEs X.P hd C es ℓ σ).bind f) := by
  refine Snd.at ?_
  intro σ ρ s I hr hb
  have hb' : evEs X.P hd C es ℓ σ ≠ .bad := fun q => hb (by simp only [q, Out.bind])
  refine wpAny_bind (wpAny_mono (snd_spliced (pos := pos) hTrue hes ih σ ρ s I trivial hb') (fun ys s' ⟨vs, σ', ρ', e, le, fz, I', rl⟩ => ?_) fun e s' ⟨c, σ', ρ', e', le, fz, I', fl⟩ => ⟨c, σ', ρ', by have e' : evEs X.P hd C es ℓ σ = .exc c σ' := e'; simp only [e', Out.bind], le, fz, I', fl⟩)
  have e : evEs X.P hd C es ℓ σ = .ok vs σ' := e
  have e2 : (evEs X.P hd C es ℓ σ).bind f = f vs σ' := by rw [e]; rfl
  simp only [e2] at hb ⊢
  refine wpAny_mono (h vs ys (by have := evEs_length e; have := cEs_length hes; omega) σ' ρ' s' I' rl hb) ?_ ?_
  · intro d s'' ⟨c, σ'', ρ'', e', le', fz', I'', rs⟩
    exact ⟨c, σ'', ρ'', e', le.trans le', fz.trans fz', I'', rs⟩
  · intro e s'' ⟨c, σ'', ρ'', e', le', fz', I'', fl⟩
    exact ⟨c, σ'', ρ'', e', le.trans le', fz.trans fz', I'', fl⟩

end
end Mine
end

section
set_option tactic.hygienic false
set_option bootstrap.genMatcherCode false
set_option maxRecDepth 100000
set_option linter.unusedSimpArgs false
set_option linter.unusedVariables false
namespace Mine
open PySem PySem.W PySem.Calls PyProof.Rows

section
variable {X : Cy} {A : Around} {G : Heap} {stk : List Env} {env : Env} {ℓ ℓ' : Loc} {σ σ' : Store} {ρ ρ' : Rho} {s s' : Shared} {R : Rho → Heap → Prop}

theorem evB_not {P : Prog} {hd : Bool} {C : V → List V → Store → Out V} {a : E} (σ : Store) : evB P hd C (.not a) ℓ σ = (evB P hd C a ℓ σ).bind fun b σ => .ok (!b) σ := by
  simp only [evB, q_int, q_str, q_bool, q_none, q_var, q_glob, q_bin, q_neg, q_not, q_and, q_or, q_cmp, q_cmp2, q_call, q_sub, q_list, q_tup, q_comp, bind_assoc']
  congr 1; funext v σ
  cases q : truthV v <;> rfl

theorem evB_and {P : Prog} {hd : Bool} {C : V → List V → Store → Out V} {e f : E} {fs : List E} (σ : Store) : (evAnd P hd C (e :: f :: fs) ℓ σ).bind (fun v σ => Out.ofOpt σ (truthV v)) = (evB P hd C e ℓ σ).bind fun b σ => if b then (evAnd P hd C (f :: fs) ℓ σ).bind (fun v σ => Out.ofOpt σ (truthV v)) else .ok false σ := by
  simp only [evB, q_and1, q_and2, bind_assoc']
  congr 1; funext v σ
  cases q : truthV v with
  | none => rfl
  | some b => cases b <;> simp [Out.bind, Out.ofOpt, q]
theorem evB_or {P : Prog} {hd : Bool} {C : V → List V → Store → Out V} {e f : E} {fs : List E} (σ : Store) : (evOr P hd C (e :: f :: fs) ℓ σ).bind (fun v σ => Out.ofOpt σ (truthV v)) = (evB P hd C e ℓ σ).bind fun b σ => if b then .ok true σ else (evOr P hd C (f :: fs) ℓ σ).bind (fun v σ => Out.ofOpt σ (truthV v)) := by
  simp only [evB, q_or1, q_or2, bind_assoc']
  congr 1; funext v σ
  cases q : truthV v with
  | none => rfl
  | some b => cases b <;> simp [Out.bind, Out.ofOpt, q]

theorem snd_allTrue {C : V → List V → Store → Out V} {hd : Bool} {sc : Scope} (op : BoolOp) : ∀ (xs : List Expr) (es : List E), xs ≠ [] → cEs sc xs = some es → (∀ x ∈ xs, ∀ e, cE sc x = some e → Snd X A G stk env ℓ (fun _ _ => True) rEq (isTrue x env (eval x env)) (fun σ => evB X.P hd C e ℓ σ)) →
    Snd X A G stk env ℓ (fun _ _ => True) rEq (allTrue op xs env) (fun σ => (match (generalizing := false) op with | .And => evAnd X.P hd C es ℓ σ | .Or => evOr X.P hd C es ℓ σ).bind fun v σ => Out.ofOpt σ (truthV v))
  | [], es, hne, h, ih => absurd rfl hne
  | [x], es, _, h, ih => by
    simp only [k_nil, k_cons] at h
    obtain ⟨e, e1, e2⟩ := Option.bind_eq_some_iff.mp h
    simp only [Option.map_some, Option.some.injEq] at e2
    subst e2
    have key := ih x (.head _) e e1
    cases op
    · refine Snd.cong (Snd.bind (f := fun b σ => .ok b σ) hTrue key (k := fun t => match BoolOp.And, t with | .And, false => Pure.pure false | .Or, true => Pure.pure true | _, _ => Pure.pure true) fun b b' => ?_) fun σ => ?_
      · intro σ ρ s I hr hb
        obtain rfl : b = b' := hr.2
        cases b <;> exact wpAny_pure (qok_same I rfl rfl)
      · simp only [q_and1, q_and2, evB, bind_assoc']
        congr 1; funext v σ
        cases truthV v <;> rfl
    · refine Snd.cong (Snd.bind (f := fun b σ => .ok b σ) hTrue key (k := fun t => match BoolOp.Or, t with | .And, false => Pure.pure false | .Or, true => Pure.pure true | _, _ => Pure.pure false) fun b b' => ?_) fun σ => ?_
      · intro σ ρ s I hr hb
        obtain rfl : b = b' := hr.2
        cases b <;> exact wpAny_pure (qok_same I rfl rfl)
      · simp only [q_or1, q_or2, evB, bind_assoc']
        congr 1; funext v σ
        cases truthV v <;> rfl
  | x :: y :: xs, es, _, h, ih => by
    simp only [k_nil, k_cons] at h
    obtain ⟨e, e1, e2⟩ := Option.bind_eq_some_iff.mp h
    obtain ⟨es', e3, rfl⟩ := Option.map_eq_some_iff.mp e2
    have hes : cEs sc (y :: xs) = some es' := by simp only [k_nil, k_cons]; exact e3
    have rest := snd_allTrue op (y :: xs) es' (by simp) hes (fun x' hx' => ih x' (.tail _ hx'))
    have hne : ∃ f fs, es' = f :: fs := by
      obtain ⟨f, f1, f2⟩ := Option.bind_eq_some_iff.mp e3
      obtain ⟨fs, f3, rfl⟩ := Option.map_eq_some_iff.mp f2
      exact ⟨f, fs, rfl⟩
    obtain ⟨f, fs, rfl⟩ := hne
    have key := ih x (.head _) e e1
    cases op
    · refine Snd.cong (Snd.bind hTrue key (k := fun t => match BoolOp.And, t with | .And, false => Pure.pure false | .Or, true => Pure.pure true | _, _ => allTrue .And (y :: xs) env) (f := fun b σ => if b then (evAnd X.P hd C (f :: fs) ℓ σ).bind (fun v σ => Out.ofOpt σ (truthV v)) else .ok false σ) fun b b' => ?_) fun σ => evB_and σ
      intro σ ρ s I hr hb
      obtain rfl : b = b' := hr.2
      cases b
      · exact wpAny_pure (qok_same I rfl rfl)
      · exact rest σ ρ s I trivial hb
    · refine Snd.cong (Snd.bind hTrue key (k := fun t => match BoolOp.Or, t with | .And, false => Pure.pure false | .Or, true => Pure.pure true | _, _ => allTrue .Or (y :: xs) env) (f := fun b σ => if b then .ok true σ else (evOr X.P hd C (f :: fs) ℓ σ).bind (fun v σ => Out.ofOpt σ (truthV v))) fun b b' => ?_) fun σ => evB_or σ
      intro σ ρ s I hr hb
      obtain rfl : b = b' := hr.2
      cases b
      · exact rest σ ρ s I trivial hb
      · exact wpAny_pure (qok_same I rfl rfl)

theorem snd_isTrue_of {C : V → List V → Store → Out V} {hd : Bool} {D U : Nat} {sc : Scope} (F : FCtx X C hd D U A stk env sc) (ℓ : Loc) {N : Nat} (hE : ∀ x e, sizeOf x ≤ N → cE sc x = some e → EOk X G stk env ℓ A x (fun σ => evE X.P hd C e ℓ σ)) : ∀ (n : Nat) (x : Expr) (e : E), sizeOf x ≤ n → n ≤ N → cE sc x = some e → Snd X A G stk env ℓ (fun _ _ => True) rEq (isTrue x env (eval x env)) (fun σ => evB X.P hd C e ℓ σ)
  | 0, x, e, hn, hN, he => by cases x <;> simp at hn
  | n + 1, x, e, hn, hN, he => by
    have ih : ∀ x' : Expr, sizeOf x' < sizeOf x → ∀ e, cE sc x' = some e → Snd X A G stk env ℓ (fun _ _ => True) rEq (isTrue x' env (eval x' env)) (fun σ => evB X.P hd C e ℓ σ) := fun x' hx' e' he' => snd_isTrue_of F ℓ hE n x' e' (by omega) (by omega) he'
    have whole := hE x e (by omega) he
    have dflt : ∀ pos, Snd X A G stk env ℓ (fun _ _ => True) rEq (eval x env >>= fun v => standAt pos >>= fun _ => PySem.holding [v] (truthy v)) (fun σ => evB X.P hd C e ℓ σ) := fun pos =>
      Snd.bind hTrue whole fun v y => Snd.at (Snd.holding (snd_truth fun ρ h q => q.2))
    cases x with
    | UnaryOp op x pos =>
      cases op with
      | Not =>
        simp only [k_int, k_str, k_bool, k_none, k_name, k_bin, k_neg, k_not, k_and, k_or, k_cmp, k_call, k_list, k_tup, k_comp] at he
        obtain ⟨a, ha, rfl⟩ := Option.map_eq_some_iff.mp he
        refine Snd.cong (Snd.bind hTrue (ih x (by first | (simp only [Expr.BinOp.sizeOf_spec, Expr.UnaryOp.sizeOf_spec, Expr.BoolOp.sizeOf_spec, Expr.Compare.sizeOf_spec, Expr.Call.sizeOf_spec, Expr.Attribute.sizeOf_spec, Expr.Subscript.sizeOf_spec, Expr.List.sizeOf_spec, Expr.Tuple.sizeOf_spec, Expr.ListComp.sizeOf_spec]; (repeat (first | exact zr (by repeat (first | exact Nat.one_pos | apply zp)) | apply zl)); done) | (simp; omega)) a ha) (k := fun b => Pure.pure (!b)) fun b b' => ?_) fun σ => evB_not σ
        intro σ ρ s I hr hb
        obtain rfl : b = b' := hr.2
        exact wpAny_pure (qok_same I rfl rfl)
      | _ => exact dflt _
    | BoolOp op vs pos =>
      cases op with
      | And =>
        simp only [k_int, k_str, k_bool, k_none, k_name, k_bin, k_neg, k_not, k_and, k_or, k_cmp, k_call, k_list, k_tup, k_comp] at he
        obtain ⟨l, hl, he⟩ := Option.bind_eq_some_iff.mp he
        split at he
        · cases he
        · rename_i hne
          cases he
          refine Snd.cong (snd_allTrue .And vs l (fun q => hne (by subst q; simp only [k_nil, k_cons, Option.some.injEq] at hl; subst hl; rfl)) hl fun x hx e he => ih x (by first | (simp only [Expr.BinOp.sizeOf_spec, Expr.UnaryOp.sizeOf_spec, Expr.BoolOp.sizeOf_spec, Expr.Compare.sizeOf_spec, Expr.Call.sizeOf_spec, Expr.Attribute.sizeOf_spec, Expr.Subscript.sizeOf_spec, Expr.List.sizeOf_spec, Expr.Tuple.sizeOf_spec, Expr.ListComp.sizeOf_spec]; refine Nat.lt_trans (sizeOf_mem hx) ?_; (repeat (first | exact zr (by repeat (first | exact Nat.one_pos | apply zp)) | apply zl)); done) | (have := sizeOf_mem hx; simp; omega)) e he) fun σ => ?_
          simp only [evB, q_int, q_str, q_bool, q_none, q_var, q_glob, q_bin, q_neg, q_not, q_and, q_or, q_cmp, q_cmp2, q_call, q_sub, q_list, q_tup, q_comp]
      | Or =>
        simp only [k_int, k_str, k_bool, k_none, k_name, k_bin, k_neg, k_not, k_and, k_or, k_cmp, k_call, k_list, k_tup, k_comp] at he
        obtain ⟨l, hl, he⟩ := Option.bind_eq_some_iff.mp he
        split at he
        · cases he
        · rename_i hne
          cases he
          refine Snd.cong (snd_allTrue .Or vs l (fun q => hne (by subst q; simp only [k_nil, k_cons, Option.some.injEq] at hl; subst hl; rfl)) hl fun x hx e he => ih x (by first | (simp only [Expr.BinOp.sizeOf_spec, Expr.UnaryOp.sizeOf_spec, Expr.BoolOp.sizeOf_spec, Expr.Compare.sizeOf_spec, Expr.Call.sizeOf_spec, Expr.Attribute.sizeOf_spec, Expr.Subscript.sizeOf_spec, Expr.List.sizeOf_spec, Expr.Tuple.sizeOf_spec, Expr.ListComp.sizeOf_spec]; refine Nat.lt_trans (sizeOf_mem hx) ?_; (repeat (first | exact zr (by repeat (first | exact Nat.one_pos | apply zp)) | apply zl)); done) | (have := sizeOf_mem hx; simp; omega)) e he) fun σ => ?_
          simp only [evB, q_int, q_str, q_bool, q_none, q_var, q_glob, q_bin, q_neg, q_not, q_and, q_or, q_cmp, q_cmp2, q_call, q_sub, q_list, q_tup, q_comp]
    | Compare l ops cs pos => exact (snd_chain F he (fun a ha => hE l a (by simp at hn; omega) ha) fun x hx e he => hE x e (by have := sizeOf_mem hx; simp at hn; omega) he).2
    | IfExp => exact no_some he
    | _ => exact dflt _
end
end Mine
end

section
set_option tactic.hygienic false
set_option bootstrap.genMatcherCode false
set_option maxRecDepth 100000
set_option linter.unusedSimpArgs false
set_option linter.unusedVariables false
namespace Mine
open PySem PySem.W PySem.Calls PyProof.Rows

theorem lookup_nodup {β : Type} : ∀ {l : List (Str × β)} {x : Str} {v : β}, (l.map (·.1)).Nodup → (x, v) ∈ l → l.lookup x = some v
  | [], _, _, _, h => by cases h
  | (y, w) :: l, x, v, nd, h => by
    simp only [List.map_cons, List.nodup_cons] at nd
    cases h with
    | head => simp [List.lookup]
    | tail _ h =>
      have hne : (x == y) = false := by
        rw [beq_eq_false_iff_ne]; intro e; subst e; exact nd.1 (List.mem_map.mpr ⟨(x, v), h, rfl⟩)
      simp only [List.lookup, hne]
      exact lookup_nodup nd.2 h
theorem foldedSet_no {env : Env} {sc : Scope} {it : Expr} {it' : It} (h : cIt sc it (cE sc it) = some it') (x : Value) : foldedSetIterable it env x = pure x := by
  cases it <;> first | rfl | skip
  exact no_some h

/-! ### the closure of a comprehension -/
noncomputable def clos (env : Env) : List (Str × NameKind) → List (Str × Addr) → List (Str × Addr)
  | [], acc => acc
  | (n, k) :: r, acc => if k == .free then clos env r ((n, (env.cells.lookup n).getD 0) :: acc) else clos env r acc
theorem clos_loop {env : Env} (f : Str × NameKind → List (Str × Addr) → Sem (ForInStep (List (Str × Addr))))
    (hf : ∀ n k cs, f (n, k) cs = if k == .free then (cellOf env n >>= fun c => pure (.yield ((n, c) :: cs))) else pure (.yield cs)) :
    ∀ (names : List (Str × NameKind)) (acc : List (Str × Addr)), (∀ p ∈ names, p.2 = .free → ∃ c, env.cells.lookup p.1 = some c) → forIn names acc f = pure (clos env names acc)
  | [], acc, _ => by rw [List.forIn_nil]; rfl
  | (n, k) :: r, acc, h => by
    rw [List.forIn_cons, hf]
    have ih := fun acc => clos_loop f hf r acc fun p hp => h p (.tail _ hp)
    unfold clos
    cases hk : k == NameKind.free with
    | true =>
      obtain ⟨c, hc⟩ := h (n, k) (.head _) (eq_of_beq hk)
      have : cellOf env n = pure c := by unfold cellOf; rw [hc]
      simp only [if_true, this, hc, Option.getD_some]
      exact ih _
    | false =>
      simp only [Bool.false_eq_true, if_false]
      exact ih _
theorem clos_mem {env : Env} : ∀ {names : List (Str × NameKind)} {acc : List (Str × Addr)} {x : Str} {c : Addr}, (x, c) ∈ clos env names acc → (x, c) ∈ acc ∨ ((x, NameKind.free) ∈ names ∧ c = (env.cells.lookup x).getD 0)
  | [], _, _, _, h => .inl h
  | (n, k) :: r, acc, x, c, h => by
    unfold clos at h
    cases hk : k == NameKind.free with
    | true =>
      rw [hk, if_pos rfl] at h
      obtain rfl := eq_of_beq hk
      rcases clos_mem h with h | ⟨h, e⟩
      · cases h with
        | head => exact .inr ⟨.head _, rfl⟩
        | tail _ h => exact .inl h
      · exact .inr ⟨.tail _ h, e⟩
    | false =>
      rw [hk, if_neg Bool.false_ne_true] at h
      rcases clos_mem h with h | ⟨h, e⟩
      · exact .inl h
      · exact .inr ⟨.tail _ h, e⟩
theorem clos_has {env : Env} : ∀ {names : List (Str × NameKind)} {acc : List (Str × Addr)} {x : Str}, ((x, NameKind.free) ∈ names ∨ ∃ c, (x, c) ∈ acc) → ∃ c, (x, c) ∈ clos env names acc
  | [], _, _, h => by
    rcases h with h | h
    · cases h
    · exact h
  | (n, k) :: r, acc, x, h => by
    unfold clos
    cases hk : k == NameKind.free with
    | true =>
      rw [if_pos rfl]
      refine clos_has ?_
      rcases h with h | ⟨c, h⟩
      · cases h with
        | head => exact .inr ⟨_, .head _⟩
        | tail _ h => exact .inl h
      · exact .inr ⟨c, .tail _ h⟩
    | false =>
      rw [if_neg Bool.false_ne_true]
      refine clos_has ?_
      rcases h with h | h
      · cases h with
        | head => cases hk
        | tail _ h => exact .inl h
      · exact .inr h
theorem lookup_of_mem {β : Type} : ∀ {l : List (Str × β)} {x : Str} {v : β}, (x, v) ∈ l → ∃ w, l.lookup x = some w
  | [], _, _, h => by cases h
  | (y, w) :: l, x, v, h => by
    rw [List.lookup]
    cases hq : x == y with
    | true => exact ⟨w, rfl⟩
    | false =>
      cases h with
      | head => simp at hq
      | tail _ h => exact lookup_of_mem h

theorem cscOk_spec {sc csc : Scope} {ts : List Str} (h : cscOk sc csc ts = true) : csc.kind = .function ∧ (csc.names.map (·.1)).Nodup ∧ ∀ p ∈ csc.names, p.2 = .local ∨ p.2 = .globalImplicit ∨ (p.2 = .free ∧ ∃ j, kindIdx sc p.1 = some (j, .cell)) := by
  unfold cscOk at h
  simp only [Bool.and_eq_true, beq_iff_eq, decide_eq_true_eq, List.all_eq_true] at h
  obtain ⟨⟨⟨⟨h1, _⟩, _⟩, h4⟩, h5⟩ := h
  refine ⟨h1, h4, fun p hp => ?_⟩
  have := h5 p hp
  obtain ⟨x, k⟩ := p
  cases k <;> simp at this <;> first | exact .inl rfl | exact .inr (.inl rfl) | skip
  refine .inr (.inr ⟨rfl, ?_⟩)
  cases q : kindIdx sc x with
  | none => rw [q] at this; simp at this
  | some r =>
    obtain ⟨j, k⟩ := r
    rw [q] at this
    cases k <;> simp at this
    exact ⟨j, rfl⟩

theorem relabel_get {csc : Scope} {env : Env} {i : Nat} {x : Str} {k : NameKind} (h : (relabel csc env).names[i]? = some (x, k)) : ∃ k0, csc.names[i]? = some (x, k0) ∧ (k0 = k ∨ (k0 = .free ∧ k = .cell)) := by
  unfold relabel at h
  simp only [List.getElem?_map] at h
  obtain ⟨⟨y, k0⟩, h1, h2⟩ := Option.map_eq_some_iff.mp h
  simp only at h2
  split at h2
  · rename_i hc
    cases h2
    simp only [Bool.and_eq_true, beq_iff_eq] at hc
    exact ⟨k0, h1, .inr ⟨hc.1.1, rfl⟩⟩
  · cases h2; exact ⟨_, h1, .inl rfl⟩
theorem relabel_len (csc : Scope) (env : Env) : (relabel csc env).names.length = csc.names.length := by unfold relabel; simp
theorem relabel_fst (csc : Scope) (env : Env) : (relabel csc env).names.map (·.1) = csc.names.map (·.1) := by
  unfold relabel
  simp only [List.map_map]
  refine List.map_congr_left fun p _ => ?_
  simp only [Function.comp]
  split <;> rfl

theorem scOk_comp {csc : Scope} {env : Env} {cl : List (Str × Addr)} {L : Addr} (nd : (csc.names.map (·.1)).Nodup) (hok : ∀ p ∈ csc.names, p.2 ≠ .cell) : ScOk csc (compEnvC csc cl L env) := by
  intro x i k e
  obtain ⟨e1, e2⟩ := kindIdx_spec e
  have hg : (relabel csc env).names[i]? = some (if (k == .free && env.scope.kind == .function && env.kindOf x == some .cell) = true then (x, .cell) else (x, k)) := by
    unfold relabel
    simp only [List.getElem?_map, e1, Option.map_some]
  have nd' : ((relabel csc env).names.map (·.1)).Nodup := by rw [relabel_fst]; exact nd
  split at hg
  · rename_i hc
    simp only [Bool.and_eq_true, beq_iff_eq] at hc
    exact ⟨.cell, hg, lookup_nodup nd' (List.mem_of_getElem? hg), .inr ⟨hc.1.1, rfl⟩⟩
  · exact ⟨k, hg, lookup_nodup nd' (List.mem_of_getElem? hg), .inl rfl⟩

section
variable {X : Cy} {A : Around} {G : Heap} {stk : List Env} {env : Env} {ℓ ℓ' : Loc} {σ σ' : Store} {ρ ρ' : Rho} {s s' : Shared} {R : Rho → Heap → Prop}

theorem closure_of {sc csc : Scope} {ts : List Str} (I : Inv X G stk env ℓ σ ρ s) (hs : ScOk sc env) (hok : cscOk sc csc ts = true) :
    closureFor csc env = pure (clos env csc.names []) ∧ (∀ x c, (x, c) ∈ clos env csc.names [] → (clos env csc.names []).lookup x = some c) ∧
    ∀ (i : Nat) x, csc.names[i]? = some (x, .free) → ∃ j c, kindIdx sc x = some (j, .cell) ∧ env.scope.names[j]? = some (x, .cell) ∧ env.cells.lookup x = some c ∧ (clos env csc.names []).lookup x = some c := by
  have h3 := (cscOk_spec hok).2.2
  have hfree : ∀ x, (x, NameKind.free) ∈ csc.names → ∃ j c, kindIdx sc x = some (j, .cell) ∧ env.scope.names[j]? = some (x, .cell) ∧ env.cells.lookup x = some c := fun x hx => by
    rcases h3 _ hx with q | q | ⟨_, j, hj⟩
    · cases q
    · cases q
    · obtain ⟨k', f1, f2, f3⟩ := hs x j _ hj
      have : k' = .cell := by
        rcases f3 with rfl | ⟨q, _⟩
        · rfl
        · cases q
      subst this
      obtain ⟨c, o, y, a1, _⟩ := I.fr.cl j x _ f1 (.inl rfl)
      exact ⟨j, c, hj, f1, a1⟩
  have hmem : ∀ x c, (x, c) ∈ clos env csc.names [] → env.cells.lookup x = some c := fun x c hx => by
    rcases clos_mem hx with q | ⟨q, e⟩
    · cases q
    · obtain ⟨j, c', _, _, a1⟩ := hfree x q
      rw [a1] at e
      rw [a1, e]; rfl
  have hlk : ∀ x c, (x, c) ∈ clos env csc.names [] → (clos env csc.names []).lookup x = some c := fun x c hx => by
    obtain ⟨c', e⟩ := lookup_of_mem hx
    have := hmem x c' (lookup_mem e)
    rw [hmem x c hx] at this
    rw [e, ← this]
  refine ⟨?_, hlk, fun i x hx => ?_⟩
  · unfold closureFor
    have := clos_loop (env := env) (fun p cs => do
      if p.2 == .free then
        let c ← cellOf env p.1
        pure (.yield ((p.1, c) :: cs))
      else pure (.yield cs)) (fun n k cs => rfl) csc.names [] fun p hp q => by
        obtain ⟨x, k⟩ := p
        obtain rfl : k = .free := q
        obtain ⟨j, c, _, _, a1⟩ := hfree x hp
        exact ⟨c, a1⟩
    exact (congrArg (fun t => t >>= fun r => (pure r : Sem (List (Str × Addr)))) this)
  · have hx' := List.mem_of_getElem? hx
    obtain ⟨j, c, k1, k2, k3⟩ := hfree x hx'
    obtain ⟨c', hc'⟩ := clos_has (env := env) (acc := []) (.inl hx')
    have := hmem x c' hc'
    rw [k3] at this; cases this
    exact ⟨j, c, k1, k2, k3, hlk x c hc'⟩

/-- the names of a comprehension -/
theorem Inv.comp {sc csc : Scope} {ts : List Str} (I : Inv X G stk env ℓ σ ρ s) (hs : ScOk sc env) (hok : cscOk sc csc ts = true) {h₁ : Heap} {L : Addr} {tk : Nat} (hfr : s.heap.get? L = none) {m : Str → Option Value} (hn : h₁.Ns L m) (hk : ∀ b o, s.heap.get? b = some o → h₁.get? b = some o) {xs : List Addr}
    (hxs : ∀ a ∈ xs, G.get? a = none) :
    Inv X (allBut h₁ (xs ++ muts ρ (compEnvC csc (clos env csc.names []) L env))) stk (compEnvC csc (clos env csc.names []) L env) ((fmOf sc csc).map fun j => j.bind fun j => (ℓ[j]?).join) σ ρ { s with heap := h₁, toks := tk } := by
  have h1 := (cscOk_spec hok).1
  have h2 := (cscOk_spec hok).2.1
  have h3 := (cscOk_spec hok).2.2
  have c3 := (closure_of I hs hok).2.2
  have f1 := (I.fresh' hfr).1
  have f3 := (I.fresh' hfr).2.2
  have fz : Fz s.heap h₁ := .of_keeps hk
  have hmu : ∀ b, b ∈ muts ρ (compEnvC csc (clos env csc.names []) L env) → b = L ∨ ∃ (n : Nat) (p : Addr × Addr), ρ[n]? = some p ∧ (b = p.1 ∨ b = p.2) := fun b hb => by
    rcases mem_muts hb with q | ⟨q, _⟩ | q
    · exact .inl q
    · cases q
    · exact .inr q
  exact
  { keep := fun b o e => by
      rw [allBut_get] at e
      split at e
      · cases e
      · exact ⟨o.slots, e, fun _ => rfl⟩
    base := fun b o e => by
      rw [allBut_get, if_neg]
      · exact hk _ _ (I.frBase e)
      · intro hm
        have hG : G.get? b = none := by
          rcases List.mem_append.mp hm with q | q
          · exact hxs b q
          · rcases hmu b q with rfl | ⟨n, p, hp, rfl | rfl⟩
            · exact f1
            · exact (I.fresh n p hp).1
            · exact (I.fresh n p hp).2
        rw [I.base b o e] at hG; cases hG
    ff := fz.funFrames I.ff, fd := fz.frD I.fd
    fr :=
      { kind := h1, gl := I.fr.gl, bl := I.fr.bl
        len := by show _ = (relabel csc env).names.length; rw [relabel_len]; simp [fmOf]
        nd := by show ((relabel csc env).names.map (·.1)).Nodup; rw [relabel_fst]; exact h2
        ns := ⟨m, hn, fun i v x e1 e2 => by
          obtain ⟨k0, g1, g2⟩ := relabel_get (show (relabel csc env).names[i]? = some (x, .local) from e2)
          have : k0 = .local := by
            rcases g2 with q | ⟨_, q⟩
            · exact q
            · cases q
          subst this
          simp [fmOf, g1] at e1⟩
        cl := fun i x k e1 e2 => by
          obtain ⟨k0, g1, g2⟩ := relabel_get (show (relabel csc env).names[i]? = some (x, k) from e1)
          have : k0 = .free := by
            rcases g2 with rfl | ⟨q, _⟩
            · rcases h3 _ (List.mem_of_getElem? g1) with q | q | ⟨q, _⟩
              · have q : k0 = .local := q
                subst q; rcases e2 with q | q <;> cases q
              · have q : k0 = .globalImplicit := q
                subst q; rcases e2 with q | q <;> cases q
              · exact q
            · exact q
          subst this
          refine cps fun Gz kz => ?_
          obtain ⟨j, c, k1, k2, k3, k4⟩ := c3 i x g1
          obtain ⟨c', o, y, a1, a2, a3, a4, a5⟩ := I.fr.cl j x _ k2 (.inl rfl)
          rw [k3] at a1; cases a1
          refine kz ⟨c, o, y, k4, hk _ _ a2, a3, a4, fun v hv => ?_⟩
          have : ℓ[j]? = some (some v) := by
            simp only [fmOf, List.map_map, List.getElem?_map, g1, Option.map_some, Function.comp, k1, beq_self_eq_true, if_true, Option.bind_some, Option.some.injEq] at hv
            cases q : ℓ[j]? with
            | none => rw [q] at hv; cases hv
            | some o => rw [q] at hv; cases o <;> simp at hv; rw [hv]
          obtain ⟨z, r1, r2⟩ := a5 v this
          exact ⟨z, r1, r2.mono (Rle.refl _) fz⟩ }
    ownL := ⟨by
      show (allBut _ _).get? L = none
      rw [allBut_get, if_pos]; exact List.mem_append_right _ (.head _), f3⟩
    ownC := fun hf => by cases hf
    len := I.len
    cells := fun n c p e1 e2 => (I.cells n c p e1 e2).mono (Rle.refl _) fz (fun o e => hk _ _ e) fun o e => hk _ _ e
    sep := I.sep
    fresh := fun n p hp => by
      rw [allBut_get, allBut_get, if_pos, if_pos]
      · exact ⟨rfl, rfl⟩
      · exact List.mem_append_right _ (mem_muts_rho hp).2
      · exact List.mem_append_right _ (mem_muts_rho hp).1
    gens := I.gens, os := I.os }

/-- a list that is none of the store's may grow -/
theorem Inv.accChg (I : Inv X G stk env ℓ σ ρ s) {a : Addr} {items items' : Array Value} {n n' : Nat} {h' : Heap} (hG : G.get? a = none) (ha : s.heap.get? a = some { cls := .type "list", data := .seq items n }) (ha' : h'.get? a = some { cls := .type "list", data := .seq items' n' })
    (hs : ∀ b ob, b ≠ a → s.heap.get? b = some ob → h'.get? b = some ob) (hρ : ∀ (n : Nat) p, ρ[n]? = some p → p.1 ≠ a ∧ p.2 ≠ a) (hL : a ≠ env.locals) : Fz s.heap h' ∧ Inv X G stk env ℓ σ ρ { s with heap := h' } := by
  have fz : Fz s.heap h' := .but hs ha ha' (fun q => by rcases q with ⟨q, _⟩ | ⟨_, _, _, q⟩; exact absurd (show Value.type "list" = Value.type "tuple" from q) (by decide); cases q) (fun _ q => by cases q) (fun _ q => by cases q) (fun _ _ q => by cases q)
  refine ⟨fz, I.chg (fun b => b = a) fz (fun b ob e q => hs b ob q e) (fun b q => q ▸ hG) (I.fr.mono (Rle.refl _) fz (fun o e => ⟨o, hs _ _ (Ne.symm hL) e, rfl⟩) fun x c _ o e hcl _ => ⟨o, hs _ _ (fun q => ?_) e, rfl, rfl⟩) I.ownL.2 I.len (fun n c p e1 e2 => ?_) I.sep I.fresh rfl rfl⟩
  · rw [q, ha] at e; cases e; obtain ⟨y, hy⟩ := hcl; cases hy
  · obtain ⟨n1, n2⟩ := hρ n p e2
    exact (I.cells n c p e1 e2).mono (Rle.refl _) fz (fun o e => hs _ _ n1 e) (fun o e => hs _ _ n2 e)
end

section
variable {prog : Program} {w : World} {A : Around} {R : Result → Shared → Prop} {s : Shared}
theorem codeAny_compLoop_any {elt target iter : Expr} {ifs : List Expr} {scope : Scope} {pos : Pos} {it acc : Value} {env : Env} (I : Nat → Shared → Prop)
    (turn : ∀ n s, I n s → wpAny (model prog w) A (pyNext it) (fun r s₁ => match r with
      | none => R (.ok .next) s₁
      | some v => wpAny (model prog w) A (letOwnedTupleGo target it v) (fun _ s₁' => wpAny (model prog w) A (assign target env v) (fun _ s₂ =>
          wpAny (model prog w) A (forIn ifs true fun c r => if r = true then do let ok ← isTrue c env (eval c env); pure (ForInStep.yield ok) else pure (ForInStep.yield r)) (fun ok s₃ =>
            if ok = true then wpAny (model prog w) A (eval elt env) (fun x s₄ =>
              wpAny (model prog w) A (call (.builtin "list.append") [acc, x]) (fun _ s₅ => ∃ m, m < n ∧ I m s₅) (notedBy (model prog w) A env fun e s' => R (.error e) s') s₄) (notedBy (model prog w) A env fun e s' => R (.error e) s') s₃
            else ∃ m, m < n ∧ I m s₃) (notedBy (model prog w) A env fun e s' => R (.error e) s') s₂) (notedBy (model prog w) A env fun e s' => R (.error e) s') s₁') (notedBy (model prog w) A env fun e s' => R (.error e) s') s₁) (notedBy (model prog w) A env fun e s' => R (.error e) s') s)
    (n : Nat) (h : I n s) : codeAny (model prog w) A (.compLoop (.ListComp elt [⟨target, iter, ifs, 0⟩] scope pos) 0 it acc env) R s := by
  refine codeAny_loop rfl I (fun n s hI => ?_) n h
  show wpAny _ A ((compTurn (.ListComp elt [⟨target, iter, ifs, 0⟩] scope pos) 0 it acc env).onRaise (fun x => do noteFrame x env; theTreesLotGoes x)) _ _ s
  refine wpAny_noted ?_
  rw [compTurn_list]
  refine wpAny_bind (wpAny_standAt (wpAny_bind (wpAny_mono (turn n s hI) (fun r s₁ h₁ => ?_) fun _ _ h' => h')))
  cases r with
  | none => exact wpAny_pure h₁
  | some v =>
    refine wpAny_bind (wpAny_mono h₁ (fun _ s₁' h₁' => wpAny_bind (wpAny_mono h₁' (fun _ s₂ h₂ => wpAny_bind (wpAny_mono h₂ (fun ok s₃ h₃ => ?_) fun _ _ h' => h')) fun _ _ h' => h')) fun _ _ h' => h')
    cases ok with
    | false => exact wpAny_pure ⟨rfl, h₃⟩
    | true => exact wpAny_bind (wpAny_bind (wpAny_mono h₃ (fun x s₄ h₄ => wpAny_bind (wpAny_mono h₄ (fun _ s₅ h₅ => wpAny_pure (wpAny_pure ⟨rfl, h₅⟩)) fun _ _ h' => h')) fun _ _ h' => h'))
end

theorem noExc_ok {α : Type} {o : Out α} (h : noExc o ≠ .bad) : ∃ a σ, o = .ok a σ ∧ noExc o = .ok a σ := by
  cases o with
  | ok a σ => exact ⟨a, σ, rfl, rfl⟩
  | exc => exact absurd rfl h
  | bad => exact absurd rfl h

section
variable {X : Cy} {A : Around} {G : Heap} {stk : List Env} {env : Env} {ℓ ℓ' : Loc} {σ σ' : Store} {ρ ρ' : Rho} {s s' : Shared} {R : Rho → Heap → Prop}

/-- how a comprehension's loop stands -/
inductive CInv (X : Cy) (G : Heap) (stk : List Env) (cenv : Env) (ρ : Rho) (s : Shared) (src : Src) (itv : Value) (own : List Addr) (acc : Addr) (L : Nat → Nat → Loc → Store → Out (List V)) (vs : List V) (σf : Store) (n : Nat) (s1 : Shared) : Prop
  | mk (ρ1 : Rho) (ℓ1 : Loc) (σ1 : Store) (i : Nat) (done rest : List V) (items : List Value) (k : Nat) (le : Rle ρ ρ1) (fz : Fz s.heap s1.heap) (I : Inv X G stk cenv ℓ1 σ1 ρ1 s1) (T : ItAt X.toCx ρ1 s1.heap src i itv own) (ha : s1.heap.get? acc = some { cls := .type "list", data := .seq (List.toArray items) k }) (rl : RvL X.toCx ρ1 s1.heap done items)
    (hρ : ∀ (n : Nat) p, ρ1[n]? = some p → ∀ a ∈ acc :: own, p.1 ≠ a ∧ p.2 ≠ a) (hv : L n i ℓ1 σ1 = .ok rest σf) (hvs : vs = done ++ rest) (hW : done.length + n ≤ W)
/-- the loop of a comprehension -/
theorem wp_compLoop {C : V → List V → Store → Out V} {hd : Bool} {D U : Nat} {csc : Scope} {cenv : Env} (F : FCtx X C hd D U A stk cenv csc) (hnd : CellsNd cenv) (hfn : cenv.func = none) (hh : A.handled = none) (htg : TgtOk csc cenv)
    {elt tx iter : Expr} {ifs : List Expr} {tg : Tgt} {e' : E} {c' : Option E} {scope : Scope} {pos : Pos} (ht : cTgt csc tx = some tg) (hE : ∀ G ℓ, EOk X G stk cenv ℓ A elt (fun σ => evE X.P hd C e' ℓ σ))
    (hI : ∀ G ℓ, Snd X A G stk cenv ℓ (fun _ _ => True) rEq (forIn ifs true fun c r => if r = true then do let ok ← isTrue c cenv (eval c cenv); pure (ForInStep.yield ok) else pure (ForInStep.yield r)) (fun σ => evC X.P hd C c' ℓ σ))
    {src : Src} {itv : Value} {own : List Addr} {acc : Addr} {G : Heap} (I : Inv X G stk cenv ℓ σ ρ s) (T : ItAt X.toCx ρ s.heap src 0 itv own) (hO : ∀ a ∈ own, G.get? a = none) (hacc : s.heap.get? acc = some { cls := .type "list", data := .seq #[] 0 })
    (haG : G.get? acc = none) (haL : acc ≠ cenv.locals) (hao : acc ∉ own) (haf : acc ∉ frs stk) (haρ : ∀ (n : Nat) p, ρ[n]? = some p → ∀ a ∈ acc :: own, p.1 ≠ a ∧ p.2 ≠ a) {vs : List V} {σf : Store}
    (hv : compLoop src tg (fun ℓ σ => evC X.P hd C c' ℓ σ) (fun ℓ σ => evE X.P hd C e' ℓ σ) W 0 ℓ σ = .ok vs σf) {RR : Result → Shared → Prop}
    (hR : ∀ ρ' ℓ' s' items k, Rle ρ ρ' → Fz s.heap s'.heap → Inv X G stk cenv ℓ' σf ρ' s' → s'.heap.get? acc = some { cls := .type "list", data := .seq (List.toArray items) k } → RvL X.toCx ρ' s'.heap vs items → (∀ (n : Nat) p, ρ'[n]? = some p → ∀ a ∈ acc :: own, p.1 ≠ a ∧ p.2 ≠ a) → RR (.ok .next) s') :
    codeAny (model X.prog X.w) A (.compLoop (.ListComp elt [⟨tx, iter, ifs, 0⟩] scope pos) 0 itv (.ref acc) cenv) RR s := by
  refine codeAny_compLoop_any (fun n s1 => CInv X G stk cenv ρ s src itv own acc (compLoop src tg (fun ℓ σ => evC X.P hd C c' ℓ σ) (fun ℓ σ => evE X.P hd C e' ℓ σ)) vs σf n s1) ?_ W
    ⟨ρ, ℓ, σ, 0, [], vs, [], 0, Rle.refl _, Fz.refl _, I, T, hacc, .nil, haρ, hv, rfl, by simp⟩
  rintro n s1 ⟨ρ1, ℓ1, σ1, i, done, rest, items, k, le1, fz1, I1, T1, ha1, rl1, hρ1, hv1, hvs, hW⟩
  cases n with
  | zero => exact no_bad hv1
  | succ n =>
    rw [compLoop] at hv1
    refine cps fun Gz kz => ?_
    cases hg : src.get σ1 i with
    | none => rw [hg] at hv1; cases hv1
    | some r =>
      rw [hg] at hv1
      refine kz ?_
      clear kz
      refine wpAny_mono (it_next (target := tx) (E := notedBy (model X.prog X.w) A cenv fun e s' => RR (.error e) s') I1 T1 hO hh hg (Q := fun r s' => match r with
        | none => RR (.ok .next) s'
        | some v => wpAny (model X.prog X.w) A (assign tx cenv v) (fun _ s₂ => wpAny (model X.prog X.w) A (forIn ifs true fun c r => if r = true then do let ok ← isTrue c cenv (eval c cenv); pure (ForInStep.yield ok) else pure (ForInStep.yield r)) (fun ok s₃ =>
            if ok = true then wpAny (model X.prog X.w) A (eval elt cenv) (fun x s₄ =>
              wpAny (model X.prog X.w) A (call (.builtin "list.append") [.ref acc, x]) (fun _ s₅ => ∃ m, m < n + 1 ∧ CInv X G stk cenv ρ s src itv own acc (compLoop src tg (fun ℓ σ => evC X.P hd C c' ℓ σ) (fun ℓ σ => evE X.P hd C e' ℓ σ)) vs σf m s₅) (notedBy (model X.prog X.w) A cenv fun e s' => RR (.error e) s') s₄) (notedBy (model X.prog X.w) A cenv fun e s' => RR (.error e) s') s₃
            else ∃ m, m < n + 1 ∧ CInv X G stk cenv ρ s src itv own acc (compLoop src tg (fun ℓ σ => evC X.P hd C c' ℓ σ) (fun ℓ σ => evE X.P hd C e' ℓ σ)) vs σf m s₃) (notedBy (model X.prog X.w) A cenv fun e s' => RR (.error e) s') s₂) (notedBy (model X.prog X.w) A cenv fun e s' => RR (.error e) s') s') ?_ ?_) (fun r s2 q => ?_) fun _ _ x => x
      · intro v y s2 hr fz2 I2 rv T2 kk2
        subst hr
        dsimp only at hv1
        refine cps fun Gz kz => ?_
        cases ha : tg.asg v ℓ1 with
        | none => rw [ha] at hv1; cases hv1
        | some ℓ2 =>
          rw [ha] at hv1
          dsimp only at hv1
          refine kz ?_
          clear kz
          have ha2 := kk2 acc _ hao ha1
          have hmut : acc ∉ muts ρ1 cenv := fun hm => by
            rcases mem_muts hm with q | ⟨q, _⟩ | ⟨n, p, hp, q | q⟩
            · exact haL q
            · rw [hfn] at q; cases q
            · exact (hρ1 n p hp acc (.head _)).1 q.symm
            · exact (hρ1 n p hp acc (.head _)).2 q.symm
          have fin : ∀ {s4 : Shared} {σ4 : Store} {ρ4 : Rho}, Rle ρ1 ρ4 → Fz s2.heap s4.heap → Inv X (prot s2.heap ρ1 cenv) stk cenv ℓ2 σ4 ρ4 s4 → Inv X G stk cenv ℓ2 σ4 ρ4 s4 ∧ ItAt X.toCx ρ4 s4.heap src (i + 1) itv own ∧ s4.heap.get? acc = some { cls := .type "list", data := .seq (List.toArray items) k } ∧ RvL X.toCx ρ4 s4.heap done items ∧ ∀ (n : Nat) p, ρ4[n]? = some p → ∀ a ∈ acc :: own, p.1 ≠ a ∧ p.2 ≠ a := fun {s4 σ4 ρ4} le fz I4 => by
            have I5 := (I2.restore hnd I4).1
            have kk := (I2.restore hnd I4).2
            have ha4 := kk acc _ ha2 hmut haf
            have hown : ∀ a ∈ own, ∃ o, s2.heap.get? a = some o ∧ a ∉ muts ρ1 cenv ∧ a ∉ frs stk := fun a ha => by
              obtain ⟨o, _, vs, e, _, _, h2⟩ := T2.owns a ha
              refine ⟨o, e, fun hm => ?_, fun hm => ?_⟩
              · rcases mem_muts hm with rfl | ⟨q, _⟩ | ⟨n, p, hp, q⟩
                · obtain ⟨m, hm, _⟩ := I2.fr.ns
                  obtain ⟨o', es, ep, g1, g2, _⟩ := hm
                  rw [e] at g1; cases g1; rw [h2] at g2; cases g2
                · rw [hfn] at q; cases q
                · have := hρ1 n p hp a (.tail _ ha)
                  rcases q with q | q
                  · exact this.1 q.symm
                  · exact this.2 q.symm
              · obtain ⟨_, o', h1, h3⟩ := I2.ff.mem hm
                rw [e] at h1; cases h1
                exact h3 _ h2
            refine ⟨I5, T2.keeps le fz fun a ha o e => ?_, ha4, rl1.mono le (fz2.trans fz), fun n p hp a ha => ?_⟩
            · obtain ⟨_, _, m1, m2⟩ := hown a ha
              exact kk a o e m1 m2
            · have f1 := (I4.fresh n p hp).1
              have f2 := (I4.fresh n p hp).2
              obtain ⟨o, hp2⟩ : ∃ o, (prot s2.heap ρ1 cenv).get? a = some o := by
                rcases List.mem_cons.mp ha with rfl | ha
                · exact ⟨_, by rw [prot_get, if_neg hmut]; exact ha2⟩
                · obtain ⟨o, e, m1, _⟩ := hown a ha
                  exact ⟨o, by rw [prot_get, if_neg m1]; exact e⟩
              exact ⟨fun q => (by rw [q, hp2] at f1; cases f1), fun q => (by rw [q, hp2] at f2; cases f2)⟩
          refine wp_tgt F.hs htg hh ht ha (I2.protect hnd) rv fun s3 fz3 I3 => ?_
          have hbc : evC X.P hd C c' ℓ2 σ1 ≠ .bad := fun q => by rw [q] at hv1; cases hv1
          refine wpAny_mono (hI _ ℓ2 σ1 ρ1 s3 I3 trivial hbc) (fun ok s4 ⟨b, σ4, ρ4, e4, le4, fz4, I4, rb⟩ => ?_) fun e s4 ⟨cc, σ4, ρ4, e4, _, _, _, _⟩ => by dsimp only at e4; rw [e4] at hv1; cases hv1
          obtain rfl : b = ok := rb
          dsimp only at e4
          rw [e4] at hv1
          simp only [Out.bind] at hv1
          cases b with
          | false =>
            simp only [Bool.false_eq_true, if_false] at hv1 ⊢
            have f5 := fin le4 (fz3.trans fz4) I4
            exact ⟨n, Nat.lt_succ_self _, ρ4, ℓ2, σ4, i + 1, done, rest, items, k, le1.trans le4, ((fz1.trans fz2).trans fz3).trans fz4, f5.1, f5.2.1, f5.2.2.1, f5.2.2.2.1, f5.2.2.2.2, hv1, hvs, Nat.le_of_succ_le hW⟩
          | true =>
            simp only [if_true] at hv1 ⊢
            have hbe : evE X.P hd C e' ℓ2 σ4 ≠ .bad := fun q => by rw [q] at hv1; cases hv1
            refine wpAny_mono (hE _ ℓ2 σ4 ρ4 s4 I4 trivial hbe) (fun x s5 ⟨vx, σ5, ρ5, e5, le5, fz5, I5, rx⟩ => ?_) fun e s5 ⟨cc, σ5, ρ5, e5, _, _, _, _⟩ => by dsimp only at e5; rw [e5] at hv1; cases hv1
            dsimp only at e5
            rw [e5] at hv1
            simp only [Out.bind] at hv1
            have f6 := fin (le4.trans le5) ((fz3.trans fz4).trans fz5) I5
            have rl6 := f6.2.2.2.1
            have hρ6 := f6.2.2.2.2
            refine cps fun Gz kz => ?_
            cases q : compLoop src tg (fun ℓ σ => evC X.P hd C c' ℓ σ) (fun ℓ σ => evE X.P hd C e' ℓ σ) n (i + 1) ℓ2 σ5 with
            | bad => rw [q] at hv1; cases hv1
            | exc => rw [q] at hv1; cases hv1
            | ok xs σx =>
              rw [q] at hv1
              cases hv1
              have hln := rl6.length
              refine kz (wpAny_list_append_plain ⟨k, f6.2.2.1⟩ (fun h6 ⟨k', hp6⟩ hs6 => ?_) (by rw [sizeLine_eq, List.size_toArray]; unfold W at hW; omega))
              have hp6' : h6.get? acc = some { cls := .type "list", data := .seq (List.toArray (items ++ [x])) k' } := by rw [hp6]; simp
              have I7 := f6.1.accChg haG f6.2.2.1 hp6' (fun b ob hb e => (hs6.2 b hb).trans e) (fun n p hp => hρ6 n p hp acc (.head _)) haL
              have fz7 := I7.1
              refine ⟨n, Nat.lt_succ_self _, ρ5, ℓ2, σ5, i + 1, done ++ [vx], xs, items ++ [x], k', le1.trans (le4.trans le5), ((((fz1.trans fz2).trans fz3).trans fz4).trans fz5).trans fz7, I7.2, f6.2.1.keeps (Rle.refl _) fz7 fun a ha o e => (hs6.2 a (fun q => hao (q ▸ ha))).trans e, hp6', (rl6.append (.cons rx .nil)).mono (Rle.refl _) fz7, hρ6, q, by rw [hvs]; simp, by simp; omega⟩
      · intro s2 hr fz2 I2 kk2
        subst hr
        cases hv1
        refine hR ρ1 ℓ1 s2 items k le1 (fz1.trans fz2) I2 (kk2 acc _ hao ha1) ?_ hρ1
        rw [hvs, List.append_nil]
        exact rl1.mono (Rle.refl _) fz2
      · cases r with
        | none => exact q
        | some v => exact q

theorem cG_spec {sc csc : Scope} {gs : List Comprehension} {r : Tgt × It × Option E × List Str} (h : cG sc csc gs = some r) : ∃ t it ifs, gs = [⟨t, it, ifs, 0⟩] ∧ cTgt csc t = some r.1 ∧ cIt sc it (cE sc it) = some r.2.1 ∧
    ((ifs = [] ∧ r.2.2.1 = none) ∨ ∃ c c', ifs = [c] ∧ cE csc c = some c' ∧ r.2.2.1 = some c') := by
  cases gs with
  | nil => exact no_some h
  | cons g gs =>
    cases gs with
    | cons g' gs => exact no_some h
    | nil =>
      obtain ⟨t, it, ifs, asy⟩ := g
      by_cases ha : asy = 0
      · have h := (if_pos ha).symm.trans h
        subst ha
        obtain ⟨t', h1, h⟩ := Option.bind_eq_some_iff.mp h
        obtain ⟨it', h2, h⟩ := Option.bind_eq_some_iff.mp h
        obtain ⟨cs, h3, h⟩ := Option.bind_eq_some_iff.mp h
        cases cs with
        | nil =>
          cases Option.some.inj h
          exact ⟨t, it, ifs, rfl, h1, h2, .inl ⟨cEs_nil h3, rfl⟩⟩
        | cons c cs =>
          cases cs with
          | nil =>
            cases Option.some.inj h
            obtain ⟨x, xs, rfl, q1, q2⟩ := cEs_cons h3
            obtain rfl := cEs_nil q2
            exact ⟨t, it, _, rfl, h1, h2, .inr ⟨x, _, rfl, q1, rfl⟩⟩
          | cons c' cs => exact no_some h
      · exact no_some ((if_neg ha).symm.trans h)

theorem it_self {src : Src} {i : Nat} {it : Value} {own : List Addr} (T : ItAt X.toCx ρ s.heap src i it own) {Q : Value → Shared → Prop} {E : Value → Shared → Prop} (h : Q it s) : wpAny (model X.prog X.w) A (pyIter it) Q E s := by
  cases T with
  | list hit hp => exact wpAny_pyIter_listiter hit h
  | tup hit ht hl => exact wpAny_pyIter_tupleiter hit h
  | range hi hit => exact wpAny_pyIter_rangeiter hit h

theorem comp_tests {C : V → List V → Store → Out V} {hd : Bool} {D U : Nat} {csc : Scope} (FC : FCtx X C hd D U A stk env csc) {ifs : List Expr} {c' : Option E} (hifs : (ifs = [] ∧ c' = none) ∨ ∃ c cc, ifs = [c] ∧ cE csc c = some cc ∧ c' = some cc)
    (ih : ∀ c ∈ ifs, ∀ x e, sizeOf x ≤ sizeOf c → cE csc x = some e → EOk X G stk env ℓ A x (fun σ => evE X.P hd C e ℓ σ)) :
    Snd X A G stk env ℓ (fun _ _ => True) rEq (forIn ifs true fun c r => if r = true then do let ok ← isTrue c env (eval c env); pure (ForInStep.yield ok) else pure (ForInStep.yield r)) (fun σ => evC X.P hd C c' ℓ σ) := by
  intro σ ρ s I _ hb
  rcases hifs with ⟨rfl, rfl⟩ | ⟨c, cc, rfl, q1, rfl⟩
  · exact wpAny_tests_nil (qok_same I (by simp only [q_cn, q_cs]) rfl)
  · have key := snd_isTrue_of FC ℓ (G := G) (N := sizeOf c) (fun x e hx he => ih c (.head _) x e hx he) (sizeOf c) c cc (Nat.le_refl _) (Nat.le_refl _) q1
    exact wpAny_tests_one (key σ ρ s I trivial hb)

theorem ev_comp {C : V → List V → Store → Out V} {hd : Bool} {D U : Nat} {sc csc : Scope} (F : FCtx X C hd D U A stk env sc) {elt : Expr} {gs : List Comprehension} {pos : Pos} {e' : E} {r : Tgt × It × Option E × List Str} (hk : cE csc elt = some e') (hv : cG sc csc gs = some r) (hok : cscOk sc csc r.2.2.2 = true)
    (ihs : ∀ x' : Expr, sizeOf x' < sizeOf (Expr.ListComp elt gs csc pos) → ∀ e, cE sc x' = some e → EOk X G stk env ℓ A x' (fun σ => evE X.P hd C e ℓ σ))
    (ihc : ∀ (G' : Heap) (cenv : Env), FCtx X C hd D U A stk cenv csc → ∀ (ℓc : Loc) (x' : Expr), sizeOf x' < sizeOf (Expr.ListComp elt gs csc pos) → ∀ e, cE csc x' = some e → EOk X G' stk cenv ℓc A x' (fun σ => evE X.P hd C e ℓc σ)) :
    EOk X G stk env ℓ A (.ListComp elt gs csc pos) (fun σ => evE X.P hd C (.comp e' r.1 r.2.1 r.2.2.1 (fmOf sc csc)) ℓ σ) := by
  refine cps fun Gz kz => ?_
  obtain ⟨t, it, ifs, rfl, ht, hit, hifs⟩ := cG_spec hv
  clear hv
  obtain ⟨t', it', c', ts⟩ := r
  dsimp only at ht hit hifs hok kz
  refine kz fun σ ρ s I _ hb => ?_
  clear kz
  have h1 := (cscOk_spec hok).1
  have h2 := (cscOk_spec hok).2.1
  have h3 := (cscOk_spec hok).2.2
  have c1 := (closure_of I F.hs hok).1
  have c2 := (closure_of I F.hs hok).2.1
  have hcell : ∀ p ∈ csc.names, p.2 ≠ .cell := fun p hp q => by
    rcases h3 p hp with z | z | ⟨z, _⟩ <;> rw [z] at q <;> cases q
  simp only [q_int, q_str, q_bool, q_none, q_var, q_glob, q_bin, q_neg, q_not, q_and, q_or, q_cmp, q_cmp2, q_call, q_sub, q_list, q_tup, q_comp] at hb ⊢
  by_cases hd0 : hd = true
  · rw [if_pos hd0] at hb; exact absurd rfl hb
  rw [if_neg hd0] at hb ⊢
  have hh := F.hA.2.2.2 (by simpa using hd0)
  rw [eval_ListComp]
  have hbs : evSrc X.P hd C it' ℓ σ ≠ .bad := fun q => hb (by rw [q]; rfl)
  have hEx : ∀ e s', Qex X G stk env ℓ (evSrc X.P hd C it' ℓ σ) ρ s e s' → Qex X G stk env ℓ ((evSrc X.P hd C it' ℓ σ).bind fun src σ => (noExc (compLoop src t' (fun ℓ σ => evC X.P hd C c' ℓ σ) (fun ℓ σ => evE X.P hd C e' ℓ σ) W 0 ((fmOf sc csc).map fun j => j.bind fun j => (ℓ[j]?).join) σ)).bind fun vs σ => .ok (V.loc σ.length) (σ ++ [Cell.list vs])) ρ s e s' :=
    fun e s' ⟨cc, σ', ρ', ev, le, fz, I', fl⟩ => ⟨cc, σ', ρ', by rw [ev]; rfl, le, fz, I', fl⟩
  refine wpAny_comprehension_free (use := none) rfl (foldedSet_no hit) c1 h1 (fun y hy hl => lookup_nodup h2 (by obtain ⟨a, b⟩ := y; cases hl; exact hy))
    (wpAny_mono (wp_src (ρ := ρ) F.base F.hs hit (fun e he => ihs it (by simp; omega) e he) (fun x p0 as p q x' hx' e he => ihs x' (by subst q; have := sizeOf_mem hx'; simp; omega) e he) I hbs) (fun x s₁ q₁ => wpAny_mono q₁ (fun itv s₂ q₂ => ?_) hEx) hEx)
  obtain ⟨src, σ2, ρ2, own, ev, le, fz, I2, T, hO⟩ := q₂
  have e2 : ((evSrc X.P hd C it' ℓ σ).bind fun src σ => (noExc (compLoop src t' (fun ℓ σ => evC X.P hd C c' ℓ σ) (fun ℓ σ => evE X.P hd C e' ℓ σ) W 0 ((fmOf sc csc).map fun j => j.bind fun j => (ℓ[j]?).join) σ)).bind fun vs σ => .ok (V.loc σ.length) (σ ++ [Cell.list vs])) =
      (noExc (compLoop src t' (fun ℓ σ => evC X.P hd C c' ℓ σ) (fun ℓ σ => evE X.P hd C e' ℓ σ) W 0 ((fmOf sc csc).map fun j => j.bind fun j => (ℓ[j]?).join) σ2)).bind fun vs σ => .ok (V.loc σ.length) (σ ++ [Cell.list vs]) := by rw [ev]; rfl
  rw [e2] at hb ⊢
  clear e2 hEx
  refine cps fun Gz kz => ?_
  obtain ⟨vs, σf, hm, hv2⟩ := noExc_ok (fun q => hb (by rw [q]; rfl))
  refine kz ?_
  rw [hv2]
  clear hb hv2 kz
  refine wpAny_newObj_type (wpAny_newFunctionEnv hcell (by intro y hy; simp at hy) (fun h₁ hns₁ hsb₁ => ?_) h1)
  dsimp only at hns₁ hsb₁ ⊢
  generalize hH2 : s₂.heap.push { cls := .type "list", dict := none, data := .seq ([] : List Value).toArray } = H2 at hns₁ hsb₁ ⊢
  have hC : H2.objs.size = s₂.heap.objs.size + 1 := by rw [← hH2, Heap.size_push]
  have k1 : ∀ b o, s₂.heap.get? b = some o → h₁.get? b = some o := fun b o e => hsb₁.extBut b o (Nat.ne_of_lt (by rw [hC]; exact Nat.lt_succ_of_lt (Heap.lt_size e))) (Heap.get?_push_of_some _ (hH2 ▸ Heap.get?_push_of_some _ e))
  have hDC : s₂.heap.objs.size ≠ H2.objs.size := by omega
  have hCf : s₂.heap.get? H2.objs.size = none := by
    cases q : s₂.heap.get? H2.objs.size with
    | none => rfl
    | some o => exact absurd (Heap.lt_size q) (by rw [hC]; exact Nat.not_lt.mpr (Nat.le_succ _))
  have hacc : h₁.get? s₂.heap.objs.size = some { cls := .type "list", data := .seq #[] 0 } := hsb₁.extBut _ _ hDC (Heap.get?_push_of_some _ (hH2 ▸ Heap.get?_push_size _ rfl))
  have f1 := I2.freshAddr.1
  have f2 := I2.freshAddr.2.1
  have f3 := I2.freshAddr.2.2
  have hown2 : ∀ a ∈ own, ∃ o vs, s₂.heap.get? a = some o ∧ o.data = .fields vs := fun a ha => by
    obtain ⟨o, _, vs, e, _, _, q⟩ := T.owns a ha
    exact ⟨o, vs, e, q⟩
  have hrho : ∀ (n : Nat) p, ρ2[n]? = some p → ∀ a ∈ s₂.heap.objs.size :: own, p.1 ≠ a ∧ p.2 ≠ a := fun n p hp a ha => by
    rcases List.mem_cons.mp ha with rfl | ha
    · exact f3 n p hp
    · obtain ⟨o, vs, e, q⟩ := hown2 a ha
      obtain ⟨cl, _, hc⟩ := I2.rhoCell hp
      obtain ⟨⟨o1, a1, _, b1⟩, ⟨o2, a2, _, b2⟩⟩ := hc.at
      exact ⟨fun z => (by rw [z, e] at a1; cases a1; exact b1 _ q), fun z => (by rw [z, e] at a2; cases a2; exact b2 _ q)⟩
  have IC := I2.comp F.hs hok (h₁ := h₁) (L := H2.objs.size) (tk := s₂.toks) hCf hns₁ k1 (xs := s₂.heap.objs.size :: own) (fun a ha => by
    rcases List.mem_cons.mp ha with rfl | ha
    · exact f1
    · exact hO a ha)
  have TC : ItAt X.toCx ρ2 h₁ src 0 itv own := T.keeps (Rle.refl _) (.of_keeps k1) fun a _ o e => k1 a o e
  have FC : FCtx X C hd D U A stk (compEnvC csc (clos env csc.names []) H2.objs.size env) csc := { base := F.base, co := F.co, hU := F.hU, hs := scOk_comp h2 hcell, hA := F.hA, hfr := F.hfr }
  have hnc : ∀ x i, kindIdx csc x = some (i, .cell) → False := fun x i q => hcell _ (List.mem_of_getElem? (kindIdx_spec q).1) rfl
  have loop : codeAny (model X.prog X.w) A (.compLoop (.ListComp elt [⟨t, it, ifs, 0⟩] csc pos) 0 itv (.ref s₂.heap.objs.size) (compEnvC csc (clos env csc.names []) H2.objs.size env))
      (compPost (model X.prog X.w) A (Qex X G stk env ℓ ((Out.ok vs σf).bind fun vs σ => .ok (V.loc σ.length) (σ ++ [Cell.list vs])) ρ s) none (Qok X G stk env ℓ (rV X) ((Out.ok vs σf).bind fun vs σ => .ok (V.loc σ.length) (σ ++ [Cell.list vs])) ρ s) (.ref s₂.heap.objs.size) H2.objs.size) { s₂ with heap := h₁, toks := s₂.toks } := by
    refine wp_compLoop FC c2 rfl hh (fun x i _ k q1 q2 => by subst q2; exact (hnc x i q1).elim) ht (fun G ℓ => ihc G _ FC ℓ elt (by simp; omega) e' hk) (fun G ℓ => comp_tests FC hifs fun c hc x e hx he => ihc G _ FC ℓ x (by have := sizeOf_mem hc; simp; omega) e he) IC TC
      (fun a ha => by rw [allBut_get, if_pos (List.mem_append_left _ (.tail _ ha))]) hacc (by rw [allBut_get, if_pos (List.mem_append_left _ (.head _))]) hDC (fun q => ?_) (fun q => ?_) hrho hm ?_
    · obtain ⟨o, vs, e, _⟩ := hown2 _ q
      rw [get?_size] at e; cases e
    · obtain ⟨_, o', e, _⟩ := I2.ff.mem q
      rw [get?_size] at e; cases e
    · intro ρ' ℓ' s' items k le' fz' I' ha' rl' hρ'
      refine cps fun Gz kz => ?_
      obtain ⟨m, hm, _⟩ := id I'.fr.ns
      have hm : s'.heap.Ns H2.objs.size m := hm
      obtain ⟨oC, es, ep, hoC, hdC, _⟩ := id hm
      refine kz ⟨m, hm, fun h' hs' => ?_⟩
      have neC : ∀ {b : Addr} {o : Obj}, s₂.heap.get? b = some o → b ≠ H2.objs.size := fun e q => by rw [q, hCf] at e; cases e
      have fzs : Fz s₂.heap h' := fun a o e => by
        have q : h'.get? a = s'.heap.get? a := hs'.2 a (neC e)
        unfold Fz1
        rw [q]
        exact ((Fz.of_keeps k1).trans fz') a o e
      have fy : Fy s'.heap h' := fun a o e => by
        by_cases q : a = H2.objs.size
        · subst q
          rw [hoC] at e; cases e
          exact fun z => by rcases z with ⟨_, _, _, z⟩ | ⟨_, _, _, z⟩ <;> (rw [hdC] at z; cases z)
        · have q : h'.get? a = s'.heap.get? a := hs'.2 a q
          rw [q]
          exact fun _ => e
      have hLp : ∀ (n : Nat) p, ρ'[n]? = some p → p.1 ≠ H2.objs.size ∧ p.2 ≠ H2.objs.size := I'.ownL.2
      have hnew : ∀ (n : Nat) p, ρ'[n]? = some p → ¬ n < ρ2.length → ∀ b, (b = p.1 ∨ b = p.2) → s₂.heap.get? b = none := fun n p hp hq b hb => by
        have f1 := (I'.fresh n p hp).1
        have f2 := (I'.fresh n p hp).2
        have fb : (allBut h₁ (s₂.heap.objs.size :: own ++ muts ρ2 (compEnvC csc (clos env csc.names []) H2.objs.size env))).get? b = none := by rcases hb with rfl | rfl <;> assumption
        cases q : s₂.heap.get? b with
        | none => rfl
        | some o =>
          rw [allBut_get] at fb
          split at fb
          · rename_i hmm
            rcases List.mem_append.mp hmm with z | z
            · have := hρ' n p hp b z
              rcases hb with rfl | rfl
              · exact absurd rfl this.1
              · exact absurd rfl this.2
            · rcases mem_muts z with z | ⟨z, _⟩ | ⟨m, r, hr, z⟩
              · rcases hb with rfl | rfl
                · exact absurd z (hLp n p hp).1
                · exact absurd z (hLp n p hp).2
              · cases z
              · have hmn : n ≠ m := fun e => hq (e ▸ (List.getElem?_eq_some_iff.mp hr).1)
                have x1 := I'.sep n m p r hp (le' m r hr) hmn
                rcases hb with rfl | rfl <;> rcases z with z | z
                · exact absurd z x1.1
                · exact absurd z x1.2.1
                · exact absurd z x1.2.2.1
                · exact absurd z x1.2.2.2
          · rw [k1 _ _ q] at fb; cases fb
      have IE : Inv X G stk env ℓ σf ρ' { s' with heap := h' } := by
        refine I2.back (s' := { s' with heap := h' }) le' fzs (fun b => b = H2.objs.size ∨ b ∈ s₂.heap.objs.size :: own) (fun b q => ?_) (fun b o e hne hb => ?_) (fun n p hp => ?_) I'.len (fun n c p q1 q2 => (I'.cells n c p q1 q2).monoY (Rle.refl _) fy (fun o e => (hs'.2 _ (hLp n p q2).1).trans e) fun o e => (hs'.2 _ (hLp n p q2).2).trans e) I'.sep I'.gens I'.os
        · rcases q with rfl | q
          · exact ⟨(I2.fresh' hCf).1, (I2.fresh' hCf).2.1, fun o e => by rw [hCf] at e; cases e⟩
          · rcases List.mem_cons.mp q with rfl | q
            · exact ⟨f1, f2, fun o e => by rw [get?_size] at e; cases e⟩
            · obtain ⟨o, vs, e, z⟩ := hown2 b q
              refine ⟨hO b q, fun z' => ?_, fun o' e' hc => ?_⟩
              · obtain ⟨m, hm, _⟩ := I2.fr.ns
                obtain ⟨o', es, ep, g1, g2, _⟩ := hm
                rw [← z', e] at g1; cases g1; rw [z] at g2; cases g2
              · rw [e] at e'; cases e'
                obtain ⟨y, hy⟩ := hc
                rw [z] at hy; cases hy
        · obtain ⟨sl, e1, e2⟩ := I'.keep b o (by
            rw [allBut_get, if_neg]
            · exact k1 b o e
            · intro hmm
              rcases List.mem_append.mp hmm with z | z
              · exact hne (.inr z)
              · rcases mem_muts z with z | ⟨z, _⟩ | ⟨m, r, hr, z⟩
                · exact hne (.inl z)
                · cases z
                · rcases z with z | z
                  · exact (hb m r hr).1 z
                  · exact (hb m r hr).2 z)
          exact ⟨sl, (hs'.2 b (neC e)).trans e1, e2⟩
        · by_cases hq : n < ρ2.length
          · have e := List.getElem?_eq_getElem hq
            have := le' n _ e
            rw [hp] at this; cases this
            exact .inl e
          · exact .inr ⟨hnew n p hp hq _ (.inl rfl), hnew n p hp hq _ (.inr rfl)⟩
      have hfr : G.get? s₂.heap.objs.size = none ∧ s₂.heap.objs.size ≠ env.locals ∧ ∀ (n : Nat) p, ρ'[n]? = some p → p.1 ≠ s₂.heap.objs.size ∧ p.2 ≠ s₂.heap.objs.size := ⟨f1, f2, fun n p hp => hρ' n p hp _ (.head _)⟩
      refine ⟨.loc σf.length, σf ++ [.list vs], ρ' ++ [(s₂.heap.objs.size, s₂.heap.objs.size)], rfl, (le.trans le').trans (Rle.append _ _), fz.trans fzs, IE.adopt hfr hfr ⟨rfl, _, k, items, (hs'.2 _ hDC).trans ha', rfl, rfl, (rl'.monoY (Rle.append _ _) fy), rfl, rfl⟩, ?_⟩
      exact Rv.loc (p := (s₂.heap.objs.size, s₂.heap.objs.size)) (by rw [← I'.len, List.getElem?_append_right (Nat.le_refl _)]; simp)
  exact codeAny_compStart_list loop (it_self TC loop)
end
end Mine
end

section
set_option tactic.hygienic false
set_option bootstrap.genMatcherCode false
set_option maxRecDepth 100000
set_option linter.unusedSimpArgs false
set_option linter.unusedVariables false
namespace Mine
open PySem PySem.W PySem.Calls PyProof.Rows

section
variable {X : Cy} {A : Around} {G : Heap} {stk : List Env} {env : Env} {ℓ ℓ' : Loc} {σ σ' : Store} {ρ ρ' : Rho} {s s' : Shared} {R : Rho → Heap → Prop}

set_option tactic.hygienic true in
theorem snd_En {C : V → List V → Store → Out V} {hd : Bool} {D U : Nat} (n : Nat) : ∀ (G : Heap) (env : Env) (sc : Scope) (F : FCtx X C hd D U A stk env sc) (ℓ : Loc) (x : Expr) (e : E), sizeOf x ≤ n → cE sc x = some e → EOk X G stk env ℓ A x (fun σ => evE X.P hd C e ℓ σ) := by
  induction n with
  | zero => intro G env sc F ℓ x e hn he; cases x <;> simp at hn
  | succ n IH =>
    intro G env sc F ℓ x e hn he
    have ih : ∀ x' : Expr, sizeOf x' < sizeOf x → ∀ e, cE sc x' = some e → EOk X G stk env ℓ A x' (fun σ => evE X.P hd C e ℓ σ) := fun x' hx' e' he' => IH G env sc F ℓ x' e' (by omega) he'
    cases x with
    | Constant c k pos => exact snd_const he
    | Name x pos => simp only [k_int, k_str, k_bool, k_none, k_name, k_bin, k_neg, k_not, k_and, k_or, k_cmp, k_call, k_list, k_tup, k_comp] at he; exact ev_name F.base.gl F.hs he
    | BinOp l op r pos =>
      simp only [k_int, k_str, k_bool, k_none, k_name, k_bin, k_neg, k_not, k_and, k_or, k_cmp, k_call, k_list, k_tup, k_comp] at he
      obtain ⟨o, ho, he⟩ := Option.bind_eq_some_iff.mp he
      obtain ⟨a, ha, he⟩ := Option.bind_eq_some_iff.mp he
      obtain ⟨b, hb, he⟩ := Option.bind_eq_some_iff.mp he
      cases he
      show Snd X A G stk env ℓ _ (rV X) (eval l env >>= fun a => PySem.holding [a] (eval r env) >>= fun b => standAt pos >>= fun _ => PySem.operate [a, b] (binaryOp op a b)) _
      refine Snd.cong (Snd.bind hTrue (ih l (by first | (simp only [Expr.BinOp.sizeOf_spec, Expr.UnaryOp.sizeOf_spec, Expr.BoolOp.sizeOf_spec, Expr.Compare.sizeOf_spec, Expr.Call.sizeOf_spec, Expr.Attribute.sizeOf_spec, Expr.Subscript.sizeOf_spec, Expr.List.sizeOf_spec, Expr.Tuple.sizeOf_spec, Expr.ListComp.sizeOf_spec]; (repeat (first | exact zr (by repeat (first | exact Nat.one_pos | apply zp)) | apply zl)); done) | (simp; omega)) a ha) fun va x => Snd.bind (hTrue.and (rV_mono X va x)) (Snd.holding (ih r (by first | (simp only [Expr.BinOp.sizeOf_spec, Expr.UnaryOp.sizeOf_spec, Expr.BoolOp.sizeOf_spec, Expr.Compare.sizeOf_spec, Expr.Call.sizeOf_spec, Expr.Attribute.sizeOf_spec, Expr.Subscript.sizeOf_spec, Expr.List.sizeOf_spec, Expr.Tuple.sizeOf_spec, Expr.ListComp.sizeOf_spec]; (repeat (first | exact zr (by repeat (first | exact Nat.one_pos | apply zp)) | apply zl)); done) | (simp; omega)) b hb).under) fun vb y => Snd.at (Snd.operate (snd_bin ho va vb x y fun ρ h q => ⟨q.1.2, q.2⟩))) fun σ => ?_
      simp only [q_int, q_str, q_bool, q_none, q_var, q_glob, q_bin, q_neg, q_not, q_and, q_or, q_cmp, q_cmp2, q_call, q_sub, q_list, q_tup, q_comp]
    | UnaryOp op x pos =>
      cases op with
      | USub =>
        simp only [k_int, k_str, k_bool, k_none, k_name, k_bin, k_neg, k_not, k_and, k_or, k_cmp, k_call, k_list, k_tup, k_comp] at he
        obtain ⟨a, ha, rfl⟩ := Option.map_eq_some_iff.mp he
        show Snd X A G stk env ℓ _ (rV X) (eval x env >>= fun v => standAt pos >>= fun _ => PySem.holding [v] (unaryOp .USub v)) _
        refine Snd.cong (Snd.bind (f := fun v σ => match v with | .int i => .ok (.int (-i)) σ | _ => .bad) hTrue (ih x (by first | (simp only [Expr.BinOp.sizeOf_spec, Expr.UnaryOp.sizeOf_spec, Expr.BoolOp.sizeOf_spec, Expr.Compare.sizeOf_spec, Expr.Call.sizeOf_spec, Expr.Attribute.sizeOf_spec, Expr.Subscript.sizeOf_spec, Expr.List.sizeOf_spec, Expr.Tuple.sizeOf_spec, Expr.ListComp.sizeOf_spec]; (repeat (first | exact zr (by repeat (first | exact Nat.one_pos | apply zp)) | apply zl)); done) | (simp; omega)) a ha) fun va y => Snd.at (Snd.holding ?_)) fun σ => (by simp only [q_int, q_str, q_bool, q_none, q_var, q_glob, q_bin, q_neg, q_not, q_and, q_or, q_cmp, q_cmp2, q_call, q_sub, q_list, q_tup, q_comp] <;> rfl)
        intro σ ρ s I hr hb
        have r := hr.2
        dsimp only at hb ⊢
        split at hb
        · cases r
          exact PyProof.Rows.neg_int (qok_same I rfl (.int _ _))
        · exact absurd rfl hb
      | Not =>
        simp only [k_int, k_str, k_bool, k_none, k_name, k_bin, k_neg, k_not, k_and, k_or, k_cmp, k_call, k_list, k_tup, k_comp] at he
        obtain ⟨a, ha, rfl⟩ := Option.map_eq_some_iff.mp he
        show Snd X A G stk env ℓ _ (rV X) (eval x env >>= fun v => standAt pos >>= fun _ => PySem.holding [v] (unaryOp .Not v)) _
        refine Snd.cong (Snd.bind (f := fun v σ => match truthV v with | some b => .ok (.bool (!b)) σ | _ => .bad) hTrue (ih x (by first | (simp only [Expr.BinOp.sizeOf_spec, Expr.UnaryOp.sizeOf_spec, Expr.BoolOp.sizeOf_spec, Expr.Compare.sizeOf_spec, Expr.Call.sizeOf_spec, Expr.Attribute.sizeOf_spec, Expr.Subscript.sizeOf_spec, Expr.List.sizeOf_spec, Expr.Tuple.sizeOf_spec, Expr.ListComp.sizeOf_spec]; (repeat (first | exact zr (by repeat (first | exact Nat.one_pos | apply zp)) | apply zl)); done) | (simp; omega)) a ha) fun va y => Snd.at (Snd.holding ?_)) fun σ => (by simp only [q_int, q_str, q_bool, q_none, q_var, q_glob, q_bin, q_neg, q_not, q_and, q_or, q_cmp, q_cmp2, q_call, q_sub, q_list, q_tup, q_comp] <;> rfl)
        intro σ ρ s I hr hb
        have r := hr.2
        dsimp only at hb ⊢
        split at hb
        · rename_i b hv
          obtain rfl := truth_spec hv
          cases r
          exact PyProof.Rows.not_of (wpAny_truthy_bool (qok_same I rfl (.bool _)))
        · exact absurd rfl hb
      | _ => exact no_some he
    | BoolOp op vs pos =>
      cases op with
      | And =>
        simp only [k_int, k_str, k_bool, k_none, k_name, k_bin, k_neg, k_not, k_and, k_or, k_cmp, k_call, k_list, k_tup, k_comp] at he
        obtain ⟨l, hl, he⟩ := Option.bind_eq_some_iff.mp he
        split at he
        · cases he
        · rename_i hne
          cases he
          refine Snd.cong (snd_bool (pos := pos) .And vs l (fun q => hne (by subst q; simp only [k_nil, k_cons, Option.some.injEq] at hl; subst hl; rfl)) hl fun x hx e he => ih x (by first | (simp only [Expr.BinOp.sizeOf_spec, Expr.UnaryOp.sizeOf_spec, Expr.BoolOp.sizeOf_spec, Expr.Compare.sizeOf_spec, Expr.Call.sizeOf_spec, Expr.Attribute.sizeOf_spec, Expr.Subscript.sizeOf_spec, Expr.List.sizeOf_spec, Expr.Tuple.sizeOf_spec, Expr.ListComp.sizeOf_spec]; refine Nat.lt_trans (sizeOf_mem hx) ?_; (repeat (first | exact zr (by repeat (first | exact Nat.one_pos | apply zp)) | apply zl)); done) | (have := sizeOf_mem hx; simp; omega)) e he) fun σ => ?_
          simp only [q_int, q_str, q_bool, q_none, q_var, q_glob, q_bin, q_neg, q_not, q_and, q_or, q_cmp, q_cmp2, q_call, q_sub, q_list, q_tup, q_comp]
      | Or =>
        simp only [k_int, k_str, k_bool, k_none, k_name, k_bin, k_neg, k_not, k_and, k_or, k_cmp, k_call, k_list, k_tup, k_comp] at he
        obtain ⟨l, hl, he⟩ := Option.bind_eq_some_iff.mp he
        split at he
        · cases he
        · rename_i hne
          cases he
          refine Snd.cong (snd_bool (pos := pos) .Or vs l (fun q => hne (by subst q; simp only [k_nil, k_cons, Option.some.injEq] at hl; subst hl; rfl)) hl fun x hx e he => ih x (by first | (simp only [Expr.BinOp.sizeOf_spec, Expr.UnaryOp.sizeOf_spec, Expr.BoolOp.sizeOf_spec, Expr.Compare.sizeOf_spec, Expr.Call.sizeOf_spec, Expr.Attribute.sizeOf_spec, Expr.Subscript.sizeOf_spec, Expr.List.sizeOf_spec, Expr.Tuple.sizeOf_spec, Expr.ListComp.sizeOf_spec]; refine Nat.lt_trans (sizeOf_mem hx) ?_; (repeat (first | exact zr (by repeat (first | exact Nat.one_pos | apply zp)) | apply zl)); done) | (have := sizeOf_mem hx; simp; omega)) e he) fun σ => ?_
          simp only [q_int, q_str, q_bool, q_none, q_var, q_glob, q_bin, q_neg, q_not, q_and, q_or, q_cmp, q_cmp2, q_call, q_sub, q_list, q_tup, q_comp]
    | Compare l ops cs pos => exact (snd_chain F he (fun a ha => ih l (by first | (simp only [Expr.BinOp.sizeOf_spec, Expr.UnaryOp.sizeOf_spec, Expr.BoolOp.sizeOf_spec, Expr.Compare.sizeOf_spec, Expr.Call.sizeOf_spec, Expr.Attribute.sizeOf_spec, Expr.Subscript.sizeOf_spec, Expr.List.sizeOf_spec, Expr.Tuple.sizeOf_spec, Expr.ListComp.sizeOf_spec]; (repeat (first | exact zr (by repeat (first | exact Nat.one_pos | apply zp)) | apply zl)); done) | (simp; omega)) a ha) fun x hx e he => ih x (by first | (simp only [Expr.BinOp.sizeOf_spec, Expr.UnaryOp.sizeOf_spec, Expr.BoolOp.sizeOf_spec, Expr.Compare.sizeOf_spec, Expr.Call.sizeOf_spec, Expr.Attribute.sizeOf_spec, Expr.Subscript.sizeOf_spec, Expr.List.sizeOf_spec, Expr.Tuple.sizeOf_spec, Expr.ListComp.sizeOf_spec]; refine Nat.lt_trans (sizeOf_mem hx) ?_; (repeat (first | exact zr (by repeat (first | exact Nat.one_pos | apply zp)) | apply zl)); done) | (have := sizeOf_mem hx; simp; omega)) e he).1
    | Call f as ks pos =>
      cases f with
      | Name x fp =>
        simp only [k_int, k_str, k_bool, k_none, k_name, k_bin, k_neg, k_not, k_and, k_or, k_cmp, k_call, k_list, k_tup, k_comp] at he
        split at he
        · rename_i hc
          simp only [Bool.and_eq_true, decide_eq_true_eq] at hc
          obtain ⟨⟨⟨k1, k2⟩, k3⟩, k4⟩ := hc
          obtain ⟨es, hes, he⟩ := Option.bind_eq_some_iff.mp he
          cases he
          cases ks with
          | cons => cases k1
          | nil =>
            show Snd X A G stk env ℓ _ (rV X) (eval (.Name x fp) env >>= fun f => PySem.callWith pos f [] (backTo pos (starEach as env)) []) _
            have hn : cName sc x = some (.glob x) := by
              have : cVar sc x = none := by
                unfold isGlob at k2
                unfold cVar
                split
                · rfl
                · simp only [Bool.and_eq_true] at k2
                  have k2 := k2.2
                  revert k2
                  cases kindIdx sc x with
                  | none => intro _; rfl
                  | some p => obtain ⟨i, k⟩ := p; cases k <;> simp
              unfold cName; rw [this]; simp only [k2, if_true]
            refine Snd.cong (Snd.bind hTrue (ev_name (C := C) (hd := hd) (pos := fp) F.base.gl F.hs hn) fun vf f => Snd.callWith (k := fun vs σ => C vf vs σ) (hTrue.and (rV_mono X vf f)) hes (by omega) (fun x hx e he => ih x (by first | (simp only [Expr.BinOp.sizeOf_spec, Expr.UnaryOp.sizeOf_spec, Expr.BoolOp.sizeOf_spec, Expr.Compare.sizeOf_spec, Expr.Call.sizeOf_spec, Expr.Attribute.sizeOf_spec, Expr.Subscript.sizeOf_spec, Expr.List.sizeOf_spec, Expr.Tuple.sizeOf_spec, Expr.ListComp.sizeOf_spec]; refine Nat.lt_trans (sizeOf_mem hx) ?_; (repeat (first | exact zr (by repeat (first | exact Nat.one_pos | apply zp)) | apply zl)); done) | (have := sizeOf_mem hx; simp; omega)) e he) ?_ fun vs ys => ?_) fun σ => (by simp only [q_int, q_str, q_bool, q_none, q_var, q_glob, q_bin, q_neg, q_not, q_and, q_or, q_cmp, q_cmp2, q_call, q_sub, q_list, q_tup, q_comp])
            · intro σ ρ s vs I hb hr
              have rf : Rv X.toCx ρ s.heap vf f := hr.2
              rcases F.co.oth vf vs σ hb with ⟨g, rfl⟩ | ⟨b, rfl⟩ | ⟨b, rfl⟩
              · obtain ⟨d, hd⟩ := F.co.fn g vs σ hb
                cases rf with | fn h => exact kept_fn F.base I hd h
              · cases rf; exact kept_bi
              · cases rf; exact kept_ty
            · exact (F.co.snd A G stk env ℓ vf vs f ys F.hA F.hfr).mono (fun ρ h q => ⟨q.1.2, q.2⟩) fun _ _ _ _ r => r
        · cases he
      | _ => exact no_some he
    | Subscript o i pos =>
      rw [EOk, eval_Subscript]
      show Snd X A G stk env ℓ _ (rV X) (eval o env >>= fun ov => PySem.holding [ov] (eval i env) >>= fun iv => standAt pos >>= fun _ => subscriptTail o i ov iv) _
      rw [k_sub] at he
      by_cases hsl : isSliceE i = true
      · exact no_some ((if_pos hsl).symm.trans he)
      · have he := (if_neg hsl).symm.trans he
        obtain ⟨o', ho, he⟩ := Option.bind_eq_some_iff.mp he
        obtain ⟨i', hi, he⟩ := Option.bind_eq_some_iff.mp he
        cases he
        refine Snd.cong (Snd.bind hTrue (ih o (by first | (simp only [Expr.BinOp.sizeOf_spec, Expr.UnaryOp.sizeOf_spec, Expr.BoolOp.sizeOf_spec, Expr.Compare.sizeOf_spec, Expr.Call.sizeOf_spec, Expr.Attribute.sizeOf_spec, Expr.Subscript.sizeOf_spec, Expr.List.sizeOf_spec, Expr.Tuple.sizeOf_spec, Expr.ListComp.sizeOf_spec]; (repeat (first | exact zr (by repeat (first | exact Nat.one_pos | apply zp)) | apply zl)); done) | (simp; omega)) o' ho) fun vo y => Snd.bind (hTrue.and (rV_mono X vo y)) (Snd.holding (ih i (by first | (simp only [Expr.BinOp.sizeOf_spec, Expr.UnaryOp.sizeOf_spec, Expr.BoolOp.sizeOf_spec, Expr.Compare.sizeOf_spec, Expr.Call.sizeOf_spec, Expr.Attribute.sizeOf_spec, Expr.Subscript.sizeOf_spec, Expr.List.sizeOf_spec, Expr.Tuple.sizeOf_spec, Expr.ListComp.sizeOf_spec]; (repeat (first | exact zr (by repeat (first | exact Nat.one_pos | apply zp)) | apply zl)); done) | (simp; omega)) i' hi).under) fun vi z => Snd.at (snd_sub F.base.scr (fun a b c p q => hsl (by rw [q]; rfl)) fun ρ h q => ⟨q.1.2, q.2⟩)) fun σ => ?_
        simp only [q_int, q_str, q_bool, q_none, q_var, q_glob, q_bin, q_neg, q_not, q_and, q_or, q_cmp, q_cmp2, q_call, q_sub, q_list, q_tup, q_comp]
    | List es pos =>
      simp only [k_int, k_str, k_bool, k_none, k_name, k_bin, k_neg, k_not, k_and, k_or, k_cmp, k_call, k_list, k_tup, k_comp] at he
      split at he
      · rename_i hz
        obtain ⟨l, hl, rfl⟩ := Option.map_eq_some_iff.mp he
        show Snd X A G stk env ℓ _ (rV X) (standAt pos >>= fun _ => spliced (backTo pos (starEach es env)) >>= newList) _
        refine Snd.cong (snd_display hl hz (fun x hx e he => ih x (by first | (simp only [Expr.BinOp.sizeOf_spec, Expr.UnaryOp.sizeOf_spec, Expr.BoolOp.sizeOf_spec, Expr.Compare.sizeOf_spec, Expr.Call.sizeOf_spec, Expr.Attribute.sizeOf_spec, Expr.Subscript.sizeOf_spec, Expr.List.sizeOf_spec, Expr.Tuple.sizeOf_spec, Expr.ListComp.sizeOf_spec]; refine Nat.lt_trans (sizeOf_mem hx) ?_; (repeat (first | exact zr (by repeat (first | exact Nat.one_pos | apply zp)) | apply zl)); done) | (have := sizeOf_mem hx; simp; omega)) e he) fun vs ys hv => snd_newList (fun ρ h q => q) hv) fun σ => (by simp only [q_int, q_str, q_bool, q_none, q_var, q_glob, q_bin, q_neg, q_not, q_and, q_or, q_cmp, q_cmp2, q_call, q_sub, q_list, q_tup, q_comp])
      · cases he
    | Tuple es ctx pos =>
      simp only [k_int, k_str, k_bool, k_none, k_name, k_bin, k_neg, k_not, k_and, k_or, k_cmp, k_call, k_list, k_tup, k_comp] at he
      split at he
      · rename_i hz
        obtain ⟨l, hl, rfl⟩ := Option.map_eq_some_iff.mp he
        show Snd X A G stk env ℓ _ (rV X) (standAt pos >>= fun _ => spliced (backTo pos (starEach es env)) >>= newTuple) _
        refine Snd.cong (snd_display hl hz (fun x hx e he => ih x (by first | (simp only [Expr.BinOp.sizeOf_spec, Expr.UnaryOp.sizeOf_spec, Expr.BoolOp.sizeOf_spec, Expr.Compare.sizeOf_spec, Expr.Call.sizeOf_spec, Expr.Attribute.sizeOf_spec, Expr.Subscript.sizeOf_spec, Expr.List.sizeOf_spec, Expr.Tuple.sizeOf_spec, Expr.ListComp.sizeOf_spec]; refine Nat.lt_trans (sizeOf_mem hx) ?_; (repeat (first | exact zr (by repeat (first | exact Nat.one_pos | apply zp)) | apply zl)); done) | (have := sizeOf_mem hx; simp; omega)) e he) fun vs ys hv => snd_newTuple (fun ρ h q => q) hv) fun σ => (by simp only [q_int, q_str, q_bool, q_none, q_var, q_glob, q_bin, q_neg, q_not, q_and, q_or, q_cmp, q_cmp2, q_call, q_sub, q_list, q_tup, q_comp])
      · cases he
    | ListComp elt gs csc pos =>
      simp only [k_int, k_str, k_bool, k_none, k_name, k_bin, k_neg, k_not, k_and, k_or, k_cmp, k_call, k_list, k_tup, k_comp] at he
      obtain ⟨e', hk, he⟩ := Option.bind_eq_some_iff.mp he
      obtain ⟨r, hv, he⟩ := Option.bind_eq_some_iff.mp he
      split at he
      · rename_i hok
        have ihc : ∀ (G' : Heap) (cenv : Env), FCtx X C hd D U A stk cenv csc → ∀ (ℓc : Loc) (x' : Expr), sizeOf x' < sizeOf (Expr.ListComp elt gs csc pos) → ∀ e, cE csc x' = some e → EOk X G' stk cenv ℓc A x' (fun σ => evE X.P hd C e ℓc σ) :=
          fun G' cenv FC ℓc x' hx' e' he' => IH G' cenv csc FC ℓc x' e' (by omega) he'
        cases Option.some.inj he
        exact ev_comp F hk hv hok ih ihc
      · cases he
    | _ => exact no_some he
theorem snd_E {C : V → List V → Store → Out V} {hd : Bool} {D U : Nat} {sc : Scope} (F : FCtx X C hd D U A stk env sc) (ℓ : Loc) (n : Nat) (x : Expr) (e : E) (hn : sizeOf x ≤ n) (he : cE sc x = some e) : EOk X G stk env ℓ A x (fun σ => evE X.P hd C e ℓ σ) := snd_En n G env sc F ℓ x e hn he
theorem snd_isTrue {C : V → List V → Store → Out V} {hd : Bool} {D U : Nat} {sc : Scope} (F : FCtx X C hd D U A stk env sc) (ℓ : Loc) (n : Nat) (x : Expr) (e : E) (hn : sizeOf x ≤ n) (he : cE sc x = some e) : Snd X A G stk env ℓ (fun _ _ => True) rEq (isTrue x env (eval x env)) (fun σ => evB X.P hd C e ℓ σ) :=
  snd_isTrue_of F ℓ (fun x e hx he => snd_E F ℓ n x e hx he) n x e hn (Nat.le_refl _) he
end
end Mine
end

section
set_option tactic.hygienic false
set_option bootstrap.genMatcherCode false
set_option maxRecDepth 100000
set_option linter.unusedSimpArgs false
set_option linter.unusedVariables false
namespace Mine
open PySem PySem.W PySem.Calls PyProof.Rows

section
variable (X : Cy) (A : Around) (G : Heap) (stk : List Env) (env : Env)
noncomputable def SQ (o : SOut) (ρ : Rho) (s : Shared) (f : Flow) (s' : Shared) : Prop := ∃ ρ', Rle ρ ρ' ∧ Fz s.heap s'.heap ∧ match f with
  | .next => ∃ ℓ' σ', o = .next ℓ' σ' ∧ Inv X G stk env ℓ' σ' ρ' s'
  | .cont => False
  | .ret y => ∃ v ℓ' σ', o = .ret v σ' ∧ Inv X G stk env ℓ' σ' ρ' s' ∧ Rv X.toCx ρ' s'.heap v y
  | .brk => False
inductive SE (o : SOut) (ρ : Rho) (s : Shared) (e : Value) (s' : Shared) : Prop
  | mk (c : Str) (ℓ' : Loc) (σ' : Store) (ρ' : Rho) (h : o = .exc c ℓ' σ') (le : Rle ρ ρ') (fz : Fz s.heap s'.heap) (I : Inv X G stk env ℓ' σ' ρ' s') (fl : ∀ f, env.frame = some f → Fly X G f c e s'.heap)
/-- a suite of statements against what is known of it -/
noncomputable def SOk (t : Sem Flow) (m : Loc → Store → SOut) : Prop := ∀ ℓ σ ρ s, Inv X G stk env ℓ σ ρ s → m ℓ σ ≠ .bad → wpAny (model X.prog X.w) A t (SQ X G stk env (m ℓ σ) ρ s) (SE X G stk env (m ℓ σ) ρ s) s
end

structure SCtx (X : Cy) (C : Bool → V → List V → Store → Out V) (hd : Bool) (D U : Nat) (A : Around) (stk : List Env) (env : Env) (sc : Scope) : Prop extends FCtx X (C hd) hd D U A stk env sc where
  tg : TgtOk sc env
  nd : CellsNd env
  cot : COk X (C true) true D U
  top : ∃ stk' f, stk = env :: stk' ∧ env.frame = some f
  cn : ∀ x c, (x, c) ∈ env.cells → ∃ (i : Nat) (k : NameKind), env.scope.names[i]? = some (x, k) ∧ (k = .cell ∨ k = .free)

section
variable {X : Cy} {A : Around} {G : Heap} {stk : List Env} {env : Env} {ℓ ℓ' : Loc} {σ σ' : Store} {ρ ρ' : Rho} {s s' : Shared} {R : Rho → Heap → Prop}

theorem SQ.trans {o : SOut} {s1 : Shared} {ρ1 : Rho} {f : Flow} (le : Rle ρ ρ1) (fz : Fz s.heap s1.heap) (h : SQ X G stk env o ρ1 s1 f s') : SQ X G stk env o ρ s f s' := by
  obtain ⟨ρ', a, b, c⟩ := h
  exact ⟨ρ', le.trans a, fz.trans b, c⟩
theorem SE.trans {o : SOut} {s1 : Shared} {ρ1 : Rho} {e : Value} (le : Rle ρ ρ1) (fz : Fz s.heap s1.heap) (h : SE X G stk env o ρ1 s1 e s') : SE X G stk env o ρ s e s' := by
  obtain ⟨c, ℓ', σ', ρ', a, b, d, I, fl⟩ := h
  exact ⟨c, ℓ', σ', ρ', a, le.trans b, fz.trans d, I, fl⟩

/-- an expression ahead of a statement's rest -/
theorem sok_bind {α β : Type} {RR : α → β → Rho → Heap → Prop} {t : Sem β} {m : Store → Out α} {k : β → Sem Flow} {f : α → Store → SOut} {ℓ : Loc} (h1 : Snd X A G stk env ℓ (fun _ _ => True) RR t m)
    (I : Inv X G stk env ℓ σ ρ s) (hb : (m σ).bindS ℓ f ≠ .bad)
    (h2 : ∀ a b σ' ρ' s', m σ = .ok a σ' → Rle ρ ρ' → Fz s.heap s'.heap → Inv X G stk env ℓ σ' ρ' s' → RR a b ρ' s'.heap → f a σ' ≠ .bad → wpAny (model X.prog X.w) A (k b) (SQ X G stk env (f a σ') ρ' s') (SE X G stk env (f a σ') ρ' s') s') :
    wpAny (model X.prog X.w) A (t >>= k) (SQ X G stk env ((m σ).bindS ℓ f) ρ s) (SE X G stk env ((m σ).bindS ℓ f) ρ s) s := by
  have hb' : m σ ≠ .bad := fun q => hb (by rw [q]; rfl)
  refine wpAny_bind (wpAny_mono (h1 σ ρ s I trivial hb') (fun b s' ⟨a, σ', ρ', e, le, fz, I', rr⟩ => ?_) fun e s' ⟨c, σ', ρ', e', le, fz, I', fl⟩ => ⟨c, ℓ, σ', ρ', by rw [e']; rfl, le, fz, I', fl⟩)
  have e2 : (m σ).bindS ℓ f = f a σ' := by rw [e]; rfl
  rw [e2] at hb ⊢
  exact wpAny_mono (h2 a b σ' ρ' s' e le fz I' rr hb) (fun _ _ q => q.trans le fz) fun _ _ q => q.trans le fz

theorem swaps_no {sc : Scope} {v : Expr} {e : E} {t : Option Expr} {line : Nat} (h : isCompE v = false) (he : cE sc v = some e) : swapsWith v t line env = pure false := by
  cases v <;> first | rfl | exact Bool.noConfusion h | (exact no_some he)
theorem swapped_no {sc : Scope} {t v : Expr} (h : asgOk sc t v = true) : swappedStores [t] v env = pure none := by
  unfold asgOk at h
  cases t <;> first | rfl | (cases v <;> first | rfl | exact Bool.noConfusion h)
theorem assignEach_one {sc : Scope} {t : Expr} {at_ : AT} (h : cAT sc t = some at_) : (assignEach [t] env).map (·.2) = [assign t env] := by
  cases t <;> first | rfl | (exact no_some h)

theorem snd_asg {C : Bool → V → List V → Store → Out V} {hd : Bool} {D U : Nat} {sc : Scope} (F : SCtx X C hd D U A stk env sc) {t v : Expr} {pos : Pos} {s' : S} (h : cS sc (.Assign [t] v pos) = some s') : SOk X A G stk env (exec (.Assign [t] v pos) env) (fun ℓ σ => exS X.P C s' hd ℓ σ) := by
  simp only [k_asg, k_expr, k_ret, k_ite] at h
  split at h
  · rename_i hok
    simp only [Bool.and_eq_true, Bool.not_eq_true'] at hok
    obtain ⟨hok, hc⟩ := hok
    obtain ⟨t', ht, h⟩ := Option.bind_eq_some_iff.mp h
    obtain ⟨v', hv, h⟩ := Option.bind_eq_some_iff.mp h
    cases h
    intro ℓ σ ρ s I hb
    simp only [q_asg, q_expr, q_ret, q_ite] at hb ⊢
    show wpAny _ _ (standAt pos >>= fun _ => swapsWith v (some t) pos.line env >>= fun b => if b = true then _ else eval v env >>= fun y => swappedStores [t] v env >>= fun sw => assignStores env y sw ((assignEach [t] env).map (·.2))) _ _ _
    refine wpAny_bind (wpAny_standAt ?_)
    rw [swaps_no hc hv, swapped_no hok, assignEach_one ht]
    refine wpAny_bind (wpAny_pure ?_)
    simp only [Bool.false_eq_true, if_false]
    refine sok_bind (snd_E F.toFCtx ℓ _ v v' (Nat.le_refl _) hv) I hb fun va y σ1 ρ1 s1 ev le fz I1 rv hb1 => ?_
    refine wpAny_bind (wpAny_pure ?_)
    show wpAny _ _ (assign t env y >>= fun _ => Pure.pure Flow.next) _ _ _
    refine wpAny_bind ?_
    cases t with
    | Name x p =>
      obtain ⟨i, e1, rfl⟩ := Option.map_eq_some_iff.mp ht
      exact wp_asgName F.hs e1 (F.tg x i e1) I1 rv fun s2 fz2 I2 => wpAny_pure ⟨ρ1, Rle.refl _, fz2, _, _, rfl, I2⟩
    | _ => exact no_some ht
  · cases h

theorem kind_fn (I : Inv X G stk env ℓ σ ρ s) : interactive env = false := by
  unfold interactive
  rw [I.fr.kind]
  rfl

theorem wp_while {C : Bool → V → List V → Store → Out V} {hd : Bool} {D U : Nat} {sc : Scope} (F : SCtx X C hd D U A stk env sc) {c : Expr} {c' : E} {b : List Stmt} {b' : List S} {pos : Pos} (hc : cE sc c = some c')
    (hB : SOk X A G stk env (execs b env) (fun ℓ σ => exSs X.P C b' hd ℓ σ)) {N : Nat} (I : Inv X G stk env ℓ σ ρ s) (hb : whileLoop (fun ℓ σ => evB X.P hd (C hd) c' ℓ σ) (fun ℓ σ => exSs X.P C b' hd ℓ σ) N ℓ σ ≠ .bad) {o : SOut}
    (ho : whileLoop (fun ℓ σ => evB X.P hd (C hd) c' ℓ σ) (fun ℓ σ => exSs X.P C b' hd ℓ σ) N ℓ σ = o) :
    wpAny (model X.prog X.w) A (exec (.While c b [] pos) env) (SQ X G stk env o ρ s) (SE X G stk env o ρ s) s := by
  refine wpAny_While (codeAny_whileLoop (fun n s1 => ∃ ρ1 ℓ1 σ1, Rle ρ ρ1 ∧ Fz s.heap s1.heap ∧ Inv X G stk env ℓ1 σ1 ρ1 s1 ∧ whileLoop (fun ℓ σ => evB X.P hd (C hd) c' ℓ σ) (fun ℓ σ => exSs X.P C b' hd ℓ σ) n ℓ1 σ1 = o) ?_ N ⟨ρ, ℓ, σ, Rle.refl _, Fz.refl _, I, ho⟩)
  rintro n s1 ⟨ρ1, ℓ1, σ1, le1, fz1, I1, ho1⟩
  have hob : o ≠ .bad := ho ▸ hb
  cases n with
  | zero => exact absurd ho1.symm hob
  | succ n =>
    rw [whileLoop] at ho1
    have hc1 : evB X.P hd (C hd) c' ℓ1 σ1 ≠ .bad := fun q => hob (by rw [← ho1, q])
    refine wpAny_mono (snd_isTrue F.toFCtx ℓ1 _ c c' (Nat.le_refl _) hc σ1 ρ1 s1 I1 trivial hc1) (fun t s2 ⟨t', σ2, ρ2, e2, le2, fz2, I2, rt⟩ => ?_) fun e s2 ⟨cc, σ2, ρ2, e2, _, _, _, _⟩ => absurd (ho1.symm.trans (by dsimp only at e2 ⊢; rw [e2])) hob
    have rt : t' = t := rt
    subst rt
    have e2 : evB X.P hd (C hd) c' ℓ1 σ1 = .ok t' σ2 := e2
    rw [e2] at ho1
    cases t' with
    | false =>
      simp only [Bool.false_eq_true, if_false]
      exact wpAny_pure ⟨ρ2, le1.trans le2, fz1.trans fz2, ℓ1, σ2, ho1.symm, I2⟩
    | true =>
      simp only [if_true]
      dsimp only at ho1
      have hb2 : exSs X.P C b' hd ℓ1 σ2 ≠ .bad := fun q => hob (by rw [← ho1, q])
      refine wpAny_mono (hB ℓ1 σ2 ρ2 s2 I2 hb2) (fun f s3 ⟨ρ3, le3, fz3, hq⟩ => ?_) fun e s3 ⟨cc, ℓ3, σ3, ρ3, e3, _, _, _, _⟩ => absurd (ho1.symm.trans (by dsimp only at e3 ⊢; rw [e3])) hob
      cases f with
      | next => obtain ⟨ℓ3, σ3, e3, I3⟩ := hq; dsimp only at e3; rw [e3] at ho1; exact ⟨n, Nat.lt_succ_self _, ρ3, ℓ3, σ3, (le1.trans le2).trans le3, (fz1.trans fz2).trans fz3, I3, ho1⟩
      | cont => exact hq.elim
      | brk => exact hq.elim
      | ret y => obtain ⟨v, ℓ3, σ3, e3, I3, rv⟩ := hq; dsimp only at e3; rw [e3] at ho1; exact ⟨ρ3, (le1.trans le2).trans le3, (fz1.trans fz2).trans fz3, v, ℓ3, σ3, ho1.symm, I3, rv⟩

end
end Mine
end

section
set_option tactic.hygienic false
set_option bootstrap.genMatcherCode false
set_option maxRecDepth 100000
set_option linter.unusedSimpArgs false
set_option linter.unusedVariables false
namespace Mine
open PySem PySem.W PySem.Calls PyProof.Rows

section
variable {X : Cy} {A : Around} {G : Heap} {stk : List Env} {env : Env} {ℓ ℓ' : Loc} {σ σ' : Store} {ρ ρ' : Rho} {s s' : Shared} {R : Rho → Heap → Prop}

theorem cSs_nil {sc : Scope} {ss : List S} (h : cSs sc [] = some ss) : ss = [] := by simp only [k_snil, k_scons, Option.some.injEq] at h; exact h.symm
theorem cSs_cons {sc : Scope} {x : Stmt} {xs : List Stmt} {ss : List S} (h : cSs sc (x :: xs) = some ss) : ∃ a r, ss = a :: r ∧ cS sc x = some a ∧ cSs sc xs = some r := by
  simp only [k_snil, k_scons] at h
  obtain ⟨a, e1, e2⟩ := Option.bind_eq_some_iff.mp h
  obtain ⟨r, e3, rfl⟩ := Option.map_eq_some_iff.mp e2
  exact ⟨a, r, rfl, e1, e3⟩

set_option tactic.hygienic true in
theorem cRaise_spec {sc : Scope} {e c : Option Expr} {r : Str × List Nat} (h : cRaise sc e c = some r) : ∃ x np m k cp cpos, e = some (.Call (.Name x np) [.Constant (.str m) k cp] [] cpos) ∧ c = none ∧ isGlob sc x = true ∧ r.1 = x := by
  unfold cRaise at h
  split at h
  · split at h
    · split at h
      · cases h; exact ⟨_, _, _, _, _, _, rfl, rfl, by assumption, rfl⟩
      · cases h
    · cases h
  · cases h

set_option tactic.hygienic true in
theorem snd_raise {C : Bool → V → List V → Store → Out V} {hd : Bool} {D U : Nat} {sc : Scope} (F : SCtx X C hd D U A stk env sc) {e c : Option Expr} {pos : Pos} {s' : S} (h : cS sc (.Raise e c pos) = some s') : SOk X A G stk env (exec (.Raise e c pos) env) (fun ℓ σ => exS X.P C s' hd ℓ σ) := by
  rw [k_raise] at h
  obtain ⟨r, hr, rfl⟩ := Option.map_eq_some_iff.mp h
  obtain ⟨x, np, m, k, cp, cpos, rfl, rfl, hg, hx⟩ := cRaise_spec hr
  intro ℓ σ ρ s I hb
  simp only [q_raise] at hb ⊢
  split at hb
  · exact absurd rfl hb
  · rename_i hd0
    have hd0 : hd = false := by simpa using hd0
    subst hd0
    simp only [Bool.false_eq_true, if_false]
    split at hb
    · rename_i hx'
      rw [if_pos hx']
      rw [hx] at hx' ⊢
      obtain ⟨hglob, Cc, hal, nm, q, N, bs, bm, hdct, sn, sub, ab, col, dd, k0, k1, k2, k3, k5, newId, mN, Bn, inN, B, nid, initId, bmN, bmB, Fn, hBn, Fb, hbase, hni, gC, gN, gT⟩ := F.base.exc x hx'
      have kk : ∀ {s1 : Shared} {σ1 : Store} {ρ1 : Rho}, Inv X G stk env ℓ σ1 ρ1 s1 → ∀ b o, X.G0.get? b = some o → s1.heap.get? b = some o := fun I1 b o e0 => I1.frBase e0
      refine wpAny_Raise_call_subU (C := Cc) (nm := nm) (q := q) (N := N) (bs := bs) (bm := bm) (hdct := hdct) (sn := sn) (sub := sub) (ab := ab) (col := col) (dd := dd) (k0 := k0) (k1 := k1) (k2 := k2) (k3 := k3) (k5 := k5) (newId := newId) Fn hBn Fb hbase (F.hA.2.2.2 rfl) rfl hni ?_
      have hcn : cName sc x = some (.glob x) := by
        have : cVar sc x = none := by
          unfold isGlob at hg
          unfold cVar
          split
          · rfl
          · simp only [Bool.and_eq_true] at hg
            have k2 := hg.2
            revert k2
            cases kindIdx sc x with
            | none => intro _; rfl
            | some p => obtain ⟨i, k⟩ := p; cases k <;> simp
        unfold cName; rw [this]; simp only [hg, if_true]
      refine wpAny_mono (ev_name (R := fun _ _ => True) (C := C false) (hd := false) (pos := np) F.base.gl F.hs hcn σ ρ s I trivial (by simp only [q_glob, hglob]; intro q; cases q)) (fun f s1 ⟨vf, σ1, ρ1, e1, le1, fz1, I1, rf⟩ => ?_) fun ex s1 ⟨cc, σ1, ρ1, e1, _, _, _, _⟩ => ?_
      · have e1 : evE X.P false (C false) (.glob x) ℓ σ = .ok vf σ1 := e1
        simp only [q_glob, hglob, Out.ofOpt] at e1
        cases e1
        have rf : Rv X.toCx ρ1 s1.heap (.cls x) f := rf
        cases rf with
        | cls ha =>
        rw [hal] at ha; cases ha
        refine ⟨rfl, evalArgs_any rfl ?_⟩
        have hes : cEs sc [.Constant (.str m) k cp] = some [.str m.cps.toList] := rfl
        refine wpAny_mono (snd_spliced (pos := cpos) (hd := false) (C := C false) hTrue hes (fun x' hx' e' he' => snd_E F.toFCtx ℓ _ x' e' (Nat.le_refl _) he') σ ρ1 s1 I1 trivial (by simp only [q_cons, q_nil, q_str]; intro q; cases q)) (fun vs s2 ⟨ws, σ2, ρ2, e2, le2, fz2, I2, rl⟩ => ?_) fun ex s2 ⟨cc, σ2, ρ2, e2, _, _, _, _⟩ => ?_
        · have e2 : evEs X.P false (C false) [.str m.cps.toList] ℓ σ = .ok ws σ2 := e2
          simp only [q_cons, q_nil, q_str, Out.bind] at e2
          cases e2
          have hln : vs.length = 1 := by have := rl.length; simp at this; omega
          refine ⟨rfl, by show vs.length ≤ sizeLine; rw [sizeLine_eq]; omega, kk I2 _ _ gC, gN.keeps (kk I2), gT.keeps (kk I2), fun h' e0 hm => ?_⟩
          obtain ⟨t, ht, _, _⟩ := hm.there
          have I3 : Inv X G stk env ℓ σ ρ2 { s2 with heap := h' } := I2.grow hm.keeps rfl rfl
          refine ⟨x, ℓ, σ, ρ2, rfl, le1.trans le2, (fz1.trans fz2).trans (.of_keeps hm.keeps), I3, fun f _ => ⟨e0, Cc, _, _, rfl, hal, ht, rfl, rfl, ?_, .inl rfl⟩⟩
          cases q : G.get? e0 with
          | none => rfl
          | some o =>
            obtain ⟨sl, z, _⟩ := I2.keep e0 o q
            rw [hm.new] at z; cases z
        · have e2 : evEs X.P false (C false) [.str m.cps.toList] ℓ σ = .exc cc σ2 := e2
          simp only [q_cons, q_nil, q_str, Out.bind] at e2
          cases e2
      · have e1 : evE X.P false (C false) (.glob x) ℓ σ = .exc cc σ1 := e1
        simp only [q_glob, hglob, Out.ofOpt] at e1
        cases e1
    · exact absurd rfl hb

theorem SCtx.mark {C : Bool → V → List V → Store → Out V} {hd : Bool} {D U : Nat} {sc : Scope} (F : SCtx X C hd D U A stk env sc) (e : Option Value) : SCtx X C true D U (A.mark e) stk env sc :=
  { base := F.base, co := F.cot, hU := F.hU, hs := F.hs, hA := ⟨F.hA.1, F.hA.2.1, F.hA.2.2.1, fun q => by cases q⟩, hfr := F.hfr, tg := F.tg, nd := F.nd, cot := F.cot, cn := F.cn, top := F.top }

set_option tactic.hygienic true in
theorem catches_spec {P : Prog} {c d : Str} (h : catches P c d = true) : P.isa c d = some true ∧ P.glob d = some (.cls d) := by
  unfold catches at h
  split at h
  · rename_i d' q1 q2; rw [q1, q2, eq_of_beq h]; exact ⟨rfl, rfl⟩
  · cases h
set_option tactic.hygienic true in
theorem wp_try {C : Bool → V → List V → Store → Out V} {D U : Nat} {sc : Scope} (F : SCtx X C false D U A stk env sc) {b : List Stmt} {b' : List S} {d : Str} {np hpos pos : Pos} {b₀ : Stmt} {suite : List Stmt} {h' : List S} (hg : isGlob sc d = true)
    (hB : ∀ G, SOk X A G stk env (execs b env) (fun ℓ σ => exSs X.P C b' false ℓ σ)) (hH : ∀ e G, SOk X (A.mark (some e)) G stk env (execs (b₀ :: suite) env) (fun ℓ σ => exSs X.P C h' true ℓ σ)) :
    SOk X A G stk env (exec (.Try b [.ExceptHandler (some (.Name d np)) none (b₀ :: suite) hpos] [] [] pos) env) (fun ℓ σ => exS X.P C (.try b' d h') false ℓ σ) := by
  intro ℓ σ ρ s I hb
  obtain ⟨stk', f, hstk, hf⟩ := F.top
  simp only [q_try, Bool.false_eq_true, if_false] at hb ⊢
  have hb1 : exSs X.P C b' false ℓ σ ≠ .bad := fun q => hb (by rw [q])
  refine wpAny_Try_except (wpAny_mono (hB G ℓ σ ρ s I hb1) (fun fl s1 hq => ?_) fun e s1 hq => ?_)
  · obtain ⟨ρ1, le1, fz1, hq⟩ := hq
    cases fl with
    | next =>
      obtain ⟨ℓ1, σ1, e1, I1⟩ := hq
      dsimp only at e1
      rw [e1] at hb ⊢
      exact wpAny_pure ⟨ρ1, le1, fz1, ℓ1, σ1, rfl, I1⟩
    | cont => exact hq.elim
    | brk => exact hq.elim
    | ret y => obtain ⟨v, ℓ1, σ1, e1, I1, rv⟩ := hq; dsimp only at e1; rw [e1]; exact ⟨ρ1, le1, fz1, v, ℓ1, σ1, rfl, I1, rv⟩
  · obtain ⟨c, ℓ1, σ1, ρ1, e1, le1, fz1, I1, fl⟩ := hq
    dsimp only at e1
    rw [e1] at hb ⊢
    dsimp only at hb ⊢
    split at hb
    · rename_i hca
      rw [if_pos hca]
      obtain ⟨hisa, hgl⟩ := catches_spec hca
      subst hstk
      refine wp_note I1 F.hA.1 hf (fl f hf) fun s2 fz2 I2 fl2 => ?_
      obtain ⟨ea, Cc, oe, vs, rfl, hal, _⟩ := (fl2 f).at_
      refine wpAny_handleBy_cons (codeAny_handlers_test ?_) (by intro q; cases q)
      obtain ⟨mg, mb, m1, m2, m3, _⟩ := F.base.gl.glob
      obtain ⟨yD, hyD, rD⟩ := m3 d _ hgl
      cases rD with
      | cls haD =>
      rename_i DD
      refine wp_globT F.base.gl F.hs hg I2 (fun mg' mb' z1 z2 => ns_unique m1 z1 ▸ ns_unique m2 z2 ▸ hyD) ?_
      obtain ⟨ea', C', oe', vs', q, hal', he', hc', hd', _⟩ := (fl2 f).at_
      cases q
      rw [hal] at hal'; cases hal'
      refine F.base.exm c d true hisa Cc DD hal haD (A.mark (some (.ref ea))) _ s2 ea oe' vs' (fun b o e0 => I2.frBase e0) he' hc' hd' _ ?_
      refine codeAny_handlers_suite ?_
      refine wp_flight I2 (fl2 f) fun s3 fz3 I3 => ?_
      have hb2 : exSs X.P C h' true ℓ1 σ1 ≠ .bad := fun q => hb (by rw [q])
      have hno : ∀ {cc ℓ5 σ5}, exSs X.P C h' true ℓ1 σ1 ≠ .exc cc ℓ5 σ5 := fun q => hb (by rw [q])
      refine wpAny_mono (hH (.ref ea) G _ σ1 ρ1 s3 I3 hb2) (fun fl5 s5 hq5 => ?_) fun ex s5 ⟨cc, ℓ5, σ5, ρ5, e5, _, _, _, _⟩ => absurd e5 hno
      obtain ⟨ρ5, le5, fz5, hq5⟩ := hq5
      cases fl5 with
      | next => obtain ⟨ℓ5, σ5, e5, I5⟩ := hq5; dsimp only at e5; rw [e5] at hb; exact absurd rfl hb
      | cont => exact hq5.elim
      | brk => exact hq5.elim
      | ret y =>
        obtain ⟨v, ℓ5, σ5, e5, I5, rv⟩ := hq5
        dsimp only at e5
        rw [e5]
        exact ⟨ρ5, le1.trans le5, ((fz1.trans fz2).trans fz3).trans fz5, v, _, σ5, rfl, I5, rv⟩
    · exact absurd rfl hb

set_option tactic.hygienic true in
theorem snd_S {A : Around} {C : Bool → V → List V → Store → Out V} {hd : Bool} {D U : Nat} {sc : Scope} (F : SCtx X C hd D U A stk env sc) : ∀ (n : Nat), (∀ (x : Stmt) (y : S), sizeOf x ≤ n → cS sc x = some y → ∀ G, SOk X A G stk env (exec x env) (fun ℓ σ => exS X.P C y hd ℓ σ)) ∧
    (∀ (x : List Stmt) (y : List S), sizeOf x ≤ n → cSs sc x = some y → ∀ G, SOk X A G stk env (execs x env) (fun ℓ σ => exSs X.P C y hd ℓ σ))
  | 0 => ⟨fun x y h => by cases x <;> simp at h, fun x y h => by cases x <;> simp at h⟩
  | n + 1 => by
    obtain ⟨ih1, ih2⟩ := snd_S F n
    refine ⟨fun x y hn h G => ?_, fun x y hn h G => ?_⟩
    · cases x with
      | Assign ts v pos =>
        cases ts with
        | nil => exact no_some h
        | cons t ts =>
          cases ts with
          | nil => exact snd_asg F h
          | cons => exact no_some h
      | Expr v pos =>
        simp only [k_asg, k_expr, k_ret, k_ite] at h
        split at h
        · cases h
        · rename_i hc
          obtain ⟨v', hv, rfl⟩ := Option.map_eq_some_iff.mp h
          intro ℓ σ ρ s I hb
          simp only [q_asg, q_expr, q_ret, q_ite] at hb ⊢
          show wpAny _ _ (standAt pos >>= fun _ => if interactive env = true then printExpr (eval v env) else swapsWith v none pos.line env >>= fun b => if b = true then _ else eval v env >>= fun y => dropValue v pos y) _ _ _
          refine wpAny_bind (wpAny_standAt ?_)
          rw [kind_fn I, swaps_no (by simpa using hc) hv]
          simp only [Bool.false_eq_true, if_false]
          refine wpAny_bind (wpAny_pure ?_)
          simp only [Bool.false_eq_true, if_false]
          exact sok_bind (snd_E F.toFCtx ℓ _ v v' (Nat.le_refl _) hv) I hb fun va y σ1 ρ1 s1 ev le fz I1 rv hb1 => wpAny_dropValue ⟨ρ1, Rle.refl _, Fz.refl _, ℓ, σ1, rfl, I1⟩
      | Return v pos =>
        cases v with
        | none => exact no_some h
        | some v =>
          simp only [k_asg, k_expr, k_ret, k_ite] at h
          obtain ⟨v', hv, rfl⟩ := Option.map_eq_some_iff.mp h
          intro ℓ σ ρ s I hb
          simp only [q_asg, q_expr, q_ret, q_ite] at hb ⊢
          refine wpAny_bind (wpAny_standAt ?_)
          show wpAny _ _ (eval v env >>= fun y => Pure.pure (Flow.ret y)) _ _ _
          exact sok_bind (snd_E F.toFCtx ℓ _ v v' (Nat.le_refl _) hv) I hb fun va y σ1 ρ1 s1 ev le fz I1 rv hb1 => wpAny_pure ⟨ρ1, Rle.refl _, Fz.refl _, va, ℓ, σ1, rfl, I1, rv⟩
      | If c a b pos =>
        simp only [k_asg, k_expr, k_ret, k_ite] at h
        obtain ⟨c', hc, h⟩ := Option.bind_eq_some_iff.mp h
        obtain ⟨a', ha, h⟩ := Option.bind_eq_some_iff.mp h
        obtain ⟨b', hb', h⟩ := Option.bind_eq_some_iff.mp h
        cases h
        intro ℓ σ ρ s I hb
        simp only [q_asg, q_expr, q_ret, q_ite] at hb ⊢
        show wpAny _ _ (standAt pos >>= fun _ => isTrue c env (eval c env) >>= fun t => if t = true then execs a env else execs b env) _ _ _
        refine wpAny_bind (wpAny_standAt ?_)
        refine sok_bind (snd_isTrue F.toFCtx ℓ _ c c' (Nat.le_refl _) hc) I hb fun t t' σ1 ρ1 s1 ev le fz I1 rt hb1 => ?_
        have rt : t = t' := rt
        subst rt
        cases t with
        | true => exact ih2 a a' (by simp at hn; omega) ha G ℓ σ1 ρ1 s1 I1 hb1
        | false => exact ih2 b b' (by simp at hn; omega) hb' G ℓ σ1 ρ1 s1 I1 hb1
      | While c b o pos =>
        simp only [k_asg, k_expr, k_ret, k_ite, k_loop] at h
        split at h
        · rename_i hnil
          obtain ⟨c', hc, h⟩ := Option.bind_eq_some_iff.mp h
          obtain ⟨b', hb', h⟩ := Option.bind_eq_some_iff.mp h
          cases h
          cases o with
          | cons => cases hnil
          | nil =>
            intro ℓ σ ρ s I hb
            simp only [q_asg, q_expr, q_ret, q_ite, q_loop] at hb ⊢
            split at hb
            · exact absurd rfl hb
            · rename_i hd0
              rw [if_neg hd0]
              exact wp_while F hc (ih2 b b' (by simp at hn; omega) hb' G) I hb rfl
        · cases h
      | Raise e c pos => exact snd_raise F h
      | Try b hs o fi pos =>
        rw [k_try] at h
        split at h
        · rename_i hnil
          simp only [Bool.and_eq_true] at hnil
          obtain ⟨b', hb', h1⟩ := Option.bind_eq_some_iff.mp h
          clear h
          have nil : ∀ {α : Type} {l : List α}, isNil l = true → l = [] := fun {α l} h => by cases l <;> first | rfl | cases h
          obtain rfl := nil hnil.1
          obtain rfl := nil hnil.2
          cases hs with
          | nil => exact no_some h1
          | cons hh hr =>
            change (if isNil hr then cH sc hh b' else none) = some y at h1
            split at h1
            · rename_i hnr
              obtain rfl := nil hnr
              obtain ⟨ty, name, hbdy, hpos⟩ := hh
              obtain ⟨h', hh', h2⟩ := Option.bind_eq_some_iff.mp h1
              clear h1
              split at h2
              · rename_i d np
                split at h2
                · rename_i hc
                  simp only [Bool.and_eq_true, Bool.not_eq_true'] at hc
                  cases h2
                  intro ℓ σ ρ s I hb
                  cases hd with
                  | true => exact absurd rfl hb
                  | false =>
                    cases hbdy with
                    | nil => cases hc.2
                    | cons b₀ suite =>
                      exact wp_try F hc.1 (fun G => ih2 b b' (by simp at hn; omega) hb' G) (fun e G => (snd_S (F.mark (some e)) n).2 (b₀ :: suite) h' (by simp at hn ⊢; omega) hh' G) ℓ σ ρ s I hb
                · cases h2
              · cases h2
            · cases h1
        · cases h
      | _ => exact no_some h
    · cases x with
      | nil =>
        obtain rfl := cSs_nil h
        intro ℓ σ ρ s I hb
        simp only [q_snil, q_scons]
        exact wpAny_pure ⟨ρ, Rle.refl _, Fz.refl _, ℓ, σ, rfl, I⟩
      | cons x xs =>
        obtain ⟨a, r, rfl, h1, h2⟩ := cSs_cons h
        intro ℓ σ ρ s I hb
        simp only [q_snil, q_scons] at hb ⊢
        have hb1 : exS X.P C a hd ℓ σ ≠ .bad := fun q => hb (by rw [q]; rfl)
        show wpAny _ _ (exec x env >>= fun f => match f with | .next => execs xs env | f => Pure.pure f) _ _ _
        refine wpAny_bind (wpAny_mono (ih1 x a (by simp at hn; omega) h1 G ℓ σ ρ s I hb1) (fun f s1 ⟨ρ1, le, fz, hq⟩ => ?_) fun e s' ⟨cc, ℓ', σ', ρ', ev, le, fz, I', fl⟩ => ⟨cc, ℓ', σ', ρ', by dsimp only at ev; rw [ev]; rfl, le, fz, I', fl⟩)
        cases f with
        | next =>
          obtain ⟨ℓ1, σ1, e1, I1⟩ := hq
          have e1 : exS X.P C a hd ℓ σ = .next ℓ1 σ1 := e1
          rw [e1] at hb ⊢
          exact wpAny_mono (ih2 xs r (by simp at hn; omega) h2 G ℓ1 σ1 ρ1 s1 I1 hb) (fun _ _ q => q.trans le fz) fun _ _ q => q.trans le fz
        | cont => exact hq.elim
        | brk => exact hq.elim
        | ret y =>
          obtain ⟨v, ℓ1, σ1, e1, I1, rv⟩ := hq
          have e1 : exS X.P C a hd ℓ σ = .ret v σ1 := e1
          rw [e1]
          exact wpAny_pure ⟨ρ1, le, fz, v, ℓ1, σ1, rfl, I1, rv⟩
end
end Mine
end

section
set_option tactic.hygienic false
set_option bootstrap.genMatcherCode false
set_option maxRecDepth 100000
set_option linter.unusedSimpArgs false
set_option linter.unusedVariables false
namespace Mine
open PySem PySem.W PySem.Calls PyProof.Rows

theorem lookup_zip : ∀ {ns : List Str} {vs : List Value} {i : Nat} {x : Str} {v : Value}, ns.Nodup → ns[i]? = some x → vs[i]? = some v → (ns.zip vs).lookup x = some v
  | [], _, _, _, _, _, h, _ => by simp at h
  | _ :: _, [], _, _, _, _, _, h => by simp at h
  | n :: ns, v :: vs, 0, x, w, nd, h1, h2 => by
    simp only [List.getElem?_cons_zero, Option.some.injEq] at h1 h2
    subst h1; subst h2
    simp [List.lookup]
  | n :: ns, v :: vs, i + 1, x, w, nd, h1, h2 => by
    simp only [List.getElem?_cons_succ] at h1 h2
    obtain ⟨hn, nd'⟩ := List.nodup_cons.mp nd
    have hne : (x == n) = false := by
      rw [beq_eq_false_iff_ne]; intro e; subst e; exact hn (List.mem_of_getElem? h1)
    simp only [List.zip_cons_cons, List.lookup, hne]
    exact lookup_zip nd' h1 h2
theorem zip_lookup_some {ns : List Str} {vs : List Value} (nd : ns.Nodup) (hl : vs.length = ns.length) {x : Str} (hx : x ∈ ns) : ∃ v, (ns.zip vs).lookup x = some v := by
  obtain ⟨i, hi, e⟩ := List.mem_iff_getElem.mp hx
  exact ⟨vs[i]'(by omega), lookup_zip nd (by rw [List.getElem?_eq_getElem hi, e]) (List.getElem?_eq_getElem (by omega))⟩
theorem fm_congr {α β : Type} {f g : α → Option β} : ∀ {l : List α}, (∀ x ∈ l, f x = g x) → l.filterMap f = l.filterMap g
  | [], _ => rfl
  | a :: l, h => by rw [List.filterMap_cons, List.filterMap_cons, h a (.head _), fm_congr fun x hx => h x (.tail _ hx)]
theorem zip_filterMap : ∀ {ns : List Str} {vs : List Value}, ns.Nodup → vs.length = ns.length → (ns.filterMap fun n => ((ns.zip vs).lookup n).map (n, ·)) = ns.zip vs
  | [], vs, _, _ => by simp
  | n :: ns, [], _, h => by simp at h
  | n :: ns, v :: vs, nd, h => by
    obtain ⟨hn, nd'⟩ := List.nodup_cons.mp nd
    have hl : vs.length = ns.length := by simpa using h
    have h0 : ((n, v) :: ns.zip vs).lookup n = some v := by simp [List.lookup]
    simp only [List.zip_cons_cons, List.filterMap_cons, h0, Option.map_some]
    congr 1
    have := zip_filterMap nd' hl
    conv => rhs; rw [← this]
    refine fm_congr fun x hx => ?_
    have hne : (x == n) = false := by rw [beq_eq_false_iff_ne]; intro e; subst e; exact hn hx
    simp only [List.lookup, hne]

theorem zip_fst {ns : List Str} {vs : List Value} (hl : vs.length = ns.length) : (ns.zip vs).map (·.1) = ns := by
  rw [List.map_fst_zip]; omega
theorem bindArgs_pos {fd : FuncData} {vals : List Value} (h1 : fd.params.posonlyargs = []) (h2 : fd.params.kwonlyargs = []) (h3 : fd.params.vararg = none) (h4 : fd.params.kwarg = none) (h5 : fd.defaults = .none)
    (hl : vals.length = fd.params.args.length) (nd : (fd.params.args.map (·.arg)).Nodup) : bindArgs fd ⟨vals, []⟩ = pure ((fd.params.args.map (·.arg)).zip vals) := by
  have hlen : vals.length = (fd.params.args.map (·.arg)).length := by simpa using hl
  have hmiss : (fd.params.args.map (·.arg)).filter (fun n => (((fd.params.args.map (·.arg)).zip vals).lookup n).isNone) = [] := by
    rw [List.filter_eq_nil_iff]
    intro x hx
    obtain ⟨v, hv⟩ := zip_lookup_some nd hlen hx
    simp [hv]
  unfold bindArgs
  simp only [h1, h2, h3, h4, h5, List.map_nil, List.nil_append, List.append_nil, List.forIn_nil]
  have hpb : ∀ {α β : Type} (a : α) (f : α → Sem β), ((Pure.pure a : Sem α) >>= f) = f a := fun _ _ => rfl
  have hs : seqItems? Value.none = Pure.pure none := rfl
  have hlt : decide (vals.length > (fd.params.args.map (·.arg)).length) = false := by rw [decide_eq_false_iff_not]; omega
  generalize fd.params.args.map (·.arg) = ns at *
  simp only [hpb, hs, hlt, Bool.false_and, Bool.false_eq_true, if_false, Option.getD_none, List.length_nil, Nat.zero_sub, List.drop_nil, Nat.sub_zero, List.take_length, hmiss, List.isEmpty_nil, Bool.not_true, List.zip_nil_right, List.forIn_nil, zip_filterMap nd hlen]


/-! ### the cells of a call -/
theorem cellsFrom_mem : ∀ {names : List (Str × NameKind)} {n : Nat} {acc : List (Str × Addr)} {x : Str} {c : Addr}, (x, c) ∈ cellsFrom n names acc → (x, c) ∈ acc ∨ (x, NameKind.cell) ∈ names
  | [], _, _, _, _, h => .inl h
  | (y, k) :: r, n, acc, x, c, h => by
    unfold cellsFrom at h
    split at h
    · rename_i hk
      obtain rfl := eq_of_beq hk
      rcases cellsFrom_mem h with h | h
      · cases h with
        | head => exact .inr (.head _)
        | tail _ h => exact .inl h
      · exact .inr (.tail _ h)
    · rcases cellsFrom_mem h with h | h
      · exact .inl h
      · exact .inr (.tail _ h)
theorem cellsFrom_has : ∀ {names : List (Str × NameKind)} {n : Nat} {acc : List (Str × Addr)} {x : Str}, ((x, NameKind.cell) ∈ names ∨ ∃ c, (x, c) ∈ acc) → ∃ c, (x, c) ∈ cellsFrom n names acc
  | [], _, _, _, h => by
    rcases h with h | h
    · cases h
    · exact h
  | (y, k) :: r, n, acc, x, h => by
    unfold cellsFrom
    split
    · refine cellsFrom_has ?_
      rcases h with h | ⟨c, h⟩
      · cases h with
        | head => exact .inr ⟨_, .head _⟩
        | tail _ h => exact .inl h
      · exact .inr ⟨c, .tail _ h⟩
    · rename_i hk
      refine cellsFrom_has ?_
      rcases h with h | h
      · cases h with
        | head => exact absurd rfl hk
        | tail _ h => exact .inl h
      · exact .inr h
theorem cellsFrom_nd : ∀ {names : List (Str × NameKind)} {n : Nat} {acc : List (Str × Addr)}, (names.map (·.1)).Nodup → (acc.map (·.1)).Nodup → (∀ p ∈ names, ∀ q ∈ acc, p.1 ≠ q.1) → ((cellsFrom n names acc).map (·.1)).Nodup
  | [], _, _, _, h, _ => h
  | (y, k) :: r, n, acc, h1, h2, h3 => by
    unfold cellsFrom
    simp only [List.map_cons, List.nodup_cons] at h1
    split
    · refine cellsFrom_nd h1.2 ?_ fun p hp q hq => ?_
      · simp only [List.map_cons, List.nodup_cons]
        refine ⟨fun hm => ?_, h2⟩
        obtain ⟨q, hq, e⟩ := List.mem_map.mp hm
        exact h3 (y, k) (.head _) q hq e.symm
      · rcases List.mem_cons.mp hq with rfl | hq
        · exact fun e => h1.1 (List.mem_map.mpr ⟨p, hp, e⟩)
        · exact h3 p (.tail _ hp) q hq
    · exact cellsFrom_nd h1.2 h2 fun p hp q hq => h3 p (.tail _ hp) q hq
theorem bindL_at {kd : Str → Option NameKind} : ∀ {bs : List (Str × Value)} {m : Str → Option Value} {x : Str} {v : Value}, (bs.map (·.1)).Nodup → kd x = some .local → ((x, v) ∈ bs ∨ (x ∉ bs.map (·.1) ∧ m x = some v)) → bindL kd bs m x = some v
  | [], m, x, v, _, _, h => by
    rcases h with h | h
    · cases h
    · exact h.2
  | (y, u) :: r, m, x, v, nd, hk, h => by
    unfold bindL
    simp only [List.map_cons, List.nodup_cons] at nd
    refine bindL_at nd.2 hk ?_
    rcases h with h | ⟨h1, h2⟩
    · cases h with
      | head => exact .inr ⟨nd.1, by rw [if_pos hk]; simp⟩
      | tail _ h => exact .inl h
    · simp only [List.map_cons, List.mem_cons, not_or] at h1
      refine .inr ⟨h1.2, ?_⟩
      split
      · simp [h1.1, h2]
      · exact h2
theorem bindC_at {kd : Str → Option NameKind} : ∀ {bs : List (Str × Value)} {m : Str → Option Value} {x : Str} {v : Value}, (bs.map (·.1)).Nodup → kd x = some .cell → ((x, v) ∈ bs ∨ (x ∉ bs.map (·.1) ∧ m x = some v)) → bindC kd bs m x = some v
  | [], m, x, v, _, _, h => by
    rcases h with h | h
    · cases h
    · exact h.2
  | (y, u) :: r, m, x, v, nd, hk, h => by
    unfold bindC
    simp only [List.map_cons, List.nodup_cons] at nd
    refine bindC_at nd.2 hk ?_
    rcases h with h | ⟨h1, h2⟩
    · cases h with
      | head => exact .inr ⟨nd.1, by rw [if_neg (by rw [hk]; simp)]; simp⟩
      | tail _ h => exact .inl h
    · simp only [List.map_cons, List.mem_cons, not_or] at h1
      refine .inr ⟨h1.2, ?_⟩
      split
      · exact h2
      · simp [h1.1, h2]

section
variable {prog : Program} {w : World} {A : Around} {E : Value → Shared → Prop} {s : Shared}
theorem sum_ints (hh : A.handled = none) {l : Addr} {vs : List Value} {ns : List Int} (hl : s.heap.IsList l vs.toArray) (hi : IntsAre vs ns) {Q : Value → Shared → Prop}
    (h : ∀ h' tk t', (∀ b o, s.heap.get? b = some o → h'.get? b = some o) → Q (.int ns.sum t') { s with heap := h', toks := tk }) : wpAny (model prog w) A (call (.builtin "sum") [.ref l]) Q E s := by
  obtain ⟨xs, hx⟩ := hi.allInts.items
  have hn : numsOf vs = ns := hi.numsOf
  rw [hx] at hl
  have hv : vs = (intItems xs).toList := by rw [← hx]
  rw [hv, nums_intItems] at hn
  refine sum_intListG hh hl fun h' tk t' hk => ?_
  have := h h' tk t' hk
  rw [← hn] at this
  rw [preSum_eq, List.take_of_length_le (by simp)]; exact this
end
/-- what stands when a def is called -/
structure Old (X : Cy) (stk : List Env) (σ : Store) (ρ : Rho) (s : Shared) : Prop where
  base : ∀ b o, X.G0.get? b = some o → s.heap.get? b = some o
  ff : s.heap.FunFrames X.G0 stk
  fd : FrD s.heap stk
  len : ρ.length = σ.length
  cells : ∀ (n : Nat) c p, σ[n]? = some c → ρ[n]? = some p → CellOk X.toCx ρ s.heap p c
  sep : ∀ (n m : Nat) p q, ρ[n]? = some p → ρ[m]? = some q → n ≠ m → p.1 ≠ q.1 ∧ p.1 ≠ q.2 ∧ p.2 ≠ q.1 ∧ p.2 ≠ q.2
  free : ∀ (n : Nat) p, ρ[n]? = some p → X.G0.get? p.1 = none ∧ X.G0.get? p.2 = none
  gens : s.gens = #[]
  os : s.os = X.os

section
variable {X : Cy} {A : Around} {G : Heap} {stk : List Env} {env : Env} {ℓ ℓ' : Loc} {σ σ' : Store} {ρ ρ' : Rho} {s s' : Shared} {R : Rho → Heap → Prop}

theorem Inv.old (I : Inv X G stk env ℓ σ ρ s) : Old X stk σ ρ s :=
  { base := fun b o e => I.frBase e, ff := I.ff, fd := I.fd, len := I.len, cells := I.cells, sep := I.sep, gens := I.gens, os := I.os
    free := fun n p hp => by
      have g : ∀ {b : Addr}, G.get? b = none → X.G0.get? b = none := fun {b} h => by
        cases q : X.G0.get? b with
        | none => rfl
        | some o => rw [I.base b o q] at h; cases h
      exact ⟨g (I.fresh n p hp).1, g (I.fresh n p hp).2⟩ }

theorem cFn_spec {params : Arguments} {sc : Scope} {body : List Stmt} {d : FnD} (h : cFn params sc body = some d) : params.posonlyargs = [] ∧ params.kwonlyargs = [] ∧ params.vararg = none ∧ params.kwarg = none ∧ sc.kind = .function ∧ sc.isGenerator = false ∧ sc.isCoroutine = false ∧
    (sc.names.take params.args.length).map (·.1) = params.args.map (·.arg) ∧ (∀ p ∈ sc.names.take params.args.length, p.2 = .local ∨ p.2 = .cell) ∧ (∀ p ∈ sc.names, (p.2 = .local ∨ p.2 = .cell) ∨ p.2 = .globalImplicit) ∧ (sc.names.map (·.1)).Nodup ∧ ∃ b, cSs sc body = some b ∧ d = ⟨params.args.length, sc.names.length, b⟩ := by
  unfold cFn at h
  split at h
  · rename_i hc
    obtain ⟨b, h1, h2⟩ := Option.map_eq_some_iff.mp h
    simp only [Bool.and_eq_true, beq_iff_eq, Bool.not_eq_true', decide_eq_true_eq, List.all_eq_true, Bool.or_eq_true, Option.isNone_iff_eq_none] at hc
    obtain ⟨⟨⟨⟨⟨⟨⟨⟨⟨⟨⟨a1, a2⟩, a3⟩, a4⟩, a5⟩, a6⟩, a7⟩, a8⟩, a9⟩, a10⟩, a11⟩, a12⟩ := hc
    have nil : ∀ {α : Type} {l : List α}, isNil l = true → l = [] := fun {α l} h => by cases l <;> first | rfl | cases h
    exact ⟨nil a1, nil a2, a3, a4, a6, a7, a8, a9, a10, a11, a12, b, h1, h2.symm⟩
  · cases h

/-- the frame of a call -/
theorem Old.frame (O : Old X stk σ ρ s) {fd : FuncData} {a : Addr} {body : List Stmt} {d : FnD} (hc : cFn fd.params fd.scope body = some d) (hg : fd.globals = mainGlobals) (hbl : fd.builtins = builtinsNs)
    {as : List V} {ys : List Value} (rl : RvL X.toCx ρ s.heap as ys) (hl : as.length = d.np) {s₁ : Shared} (IC : InCallC s (callEnvC fd s.heap.objs.size a).locals (bindL (callEnvC fd s.heap.objs.size a).kindOf ((fd.params.args.map (·.arg)).zip ys) fun _ => none) (callEnvC fd s.heap.objs.size a).cells (bindC (callEnvC fd s.heap.objs.size a).kindOf ((fd.params.args.map (·.arg)).zip ys) fun _ => none) s₁) :
    Inv X (prot s₁.heap ρ (callEnvC fd s.heap.objs.size a)) (callEnvC fd s.heap.objs.size a :: stk) (callEnvC fd s.heap.objs.size a) (as.map some ++ List.replicate (d.nl - d.np) none) σ ρ s₁ := by
  obtain ⟨c1, c2, c3, c4, c5, c6, c7, c8, c9, c10, c11, b, c12, rfl⟩ := cFn_spec hc
  have hL0 : s.heap.get? s.heap.objs.size = none := get?_size _
  have hk := IC.toInCall.keep
  have hn := IC.toInCall.ns
  have big : ∀ {b : Addr}, s.heap.objs.size ≤ b → s.heap.get? b = none := fun {b} hb => by
    cases q : s.heap.get? b with
    | none => rfl
    | some o => exact absurd (Heap.lt_size q) (Nat.not_lt.mpr hb)
  have bigG : ∀ {b : Addr}, s.heap.objs.size ≤ b → X.G0.get? b = none := fun {b} hb => by
    cases q : X.G0.get? b with
    | none => rfl
    | some o => have := O.base b o q; rw [big hb] at this; cases this
  have hcb : ∀ x c, (x, c) ∈ (callEnvC fd s.heap.objs.size a).cells → s.heap.objs.size < c := fun x c hx => IC.above x c hx
  have hrho : ∀ (n : Nat) p, ρ[n]? = some p → p.1 < s.heap.objs.size ∧ p.2 < s.heap.objs.size := fun n p hp => by
    have hn : n < σ.length := by rw [← O.len]; exact (List.getElem?_eq_some_iff.mp hp).1
    obtain ⟨⟨o1, a1, _⟩, ⟨o2, a2, _⟩⟩ := (O.cells n _ p (List.getElem?_eq_getElem hn) hp).at
    exact ⟨Heap.lt_size a1, Heap.lt_size a2⟩
  have fz : Fz s.heap s₁.heap := .of_keeps hk
  obtain ⟨hh, tk, hs₁⟩ := IC.toInCall.same
  have hnp : fd.params.args.length ≤ fd.scope.names.length := by
    have := congrArg List.length c8
    simp at this; omega
  have nd' : (fd.params.args.map (·.arg)).Nodup := by
    rw [← c8, List.map_take]; exact c11.sublist (List.take_sublist _ _)
  have hyl : ys.length = fd.params.args.length := by have := rl.length; simp only at hl; omega
  have ndb : (((fd.params.args.map (·.arg)).zip ys).map (·.1)).Nodup := by rw [zip_fst (by simpa using hyl)]; exact nd'
  have arg : ∀ (i : Nat) (v : V) (x : Str) (k : NameKind), (as.map some ++ List.replicate (fd.scope.names.length - fd.params.args.length) none)[i]? = some (some v) → fd.scope.names[i]? = some (x, k) → ∃ y, (x, y) ∈ (fd.params.args.map (·.arg)).zip ys ∧ Rv X.toCx ρ s₁.heap v y := fun i v x k e1 e2 => by
    have hi : as[i]? = some v := by
      rw [List.getElem?_append] at e1
      split at e1
      · simpa using e1
      · rw [List.getElem?_replicate] at e1
        split at e1 <;> cases e1
    obtain ⟨y, ey, ry⟩ := rl.get hi
    refine ⟨y, ?_, ry.mono (Rle.refl _) fz⟩
    have hin : i < as.length := (List.getElem?_eq_some_iff.mp hi).1
    simp only at hl
    have hx : (fd.params.args.map (·.arg))[i]? = some x := by
      rw [← c8, List.getElem?_map, List.getElem?_take_of_lt (by omega), e2]; rfl
    exact List.mem_of_getElem? (i := i) (by rw [List.getElem?_zip_eq_some]; exact ⟨hx, ey⟩)
  have kd : ∀ {i : Nat} {x : Str} {k : NameKind}, fd.scope.names[i]? = some (x, k) → (callEnvC fd s.heap.objs.size a).kindOf x = some k := fun e => lookup_nodup c11 (List.mem_of_getElem? e)
  have ndc : ((callEnvC fd s.heap.objs.size a).cells.map (·.1)).Nodup := cellsFrom_nd c11 List.nodup_nil fun _ _ q hq => by cases hq
  exact
  { keep := fun b o e => by
      rw [prot_get] at e
      split at e
      · cases e
      · exact ⟨o.slots, e, fun _ => rfl⟩
    base := fun b o e => by
      rw [prot_get, if_neg]
      · exact hk _ _ (O.base b o e)
      · intro hm
        rcases mem_muts hm with q | ⟨hf, x, hx⟩ | ⟨n, p, hp, q⟩
        · have q : b = s.heap.objs.size := q
          rw [bigG (Nat.le_of_eq q.symm)] at e; cases e
        · have := hcb x b hx
          rw [bigG (Nat.le_of_lt this)] at e; cases e
        · have := O.free n p hp
          rcases q with rfl | rfl
          · rw [e] at this; cases this.1
          · rw [e] at this; cases this.2
    ff := by
      refine ⟨?_, ⟨s.heap.objs.size, ?_⟩, fz.funFrames O.ff⟩
      · show fd.scope.kind ≠ .module
        rw [c5]; decide
      · obtain ⟨o, es, ep, h1, h2, _⟩ := hn
        exact ⟨o, rfl, bigG (Nat.le_refl _), h1, fun vs => by rw [h2]; intro e; cases e⟩
    fd := fun b hb => by
      rcases List.mem_cons.mp hb with q | q
      · have q : b = s.heap.objs.size := q
        subst q
        obtain ⟨o, es, ep, h1, h2, _⟩ := hn
        exact ⟨o, es, ep, h1, h2⟩
      · exact fz.frD O.fd b q
    fr :=
      { kind := c5, gl := hg, bl := hbl
        len := by
          show _ = fd.scope.names.length
          simp only [List.length_append, List.length_map, List.length_replicate]
          simp only at hl ⊢
          omega
        nd := c11
        ns := ⟨_, hn, fun i v x e1 e2 => by
          obtain ⟨y, hy, ry⟩ := arg i v x _ e1 e2
          exact ⟨y, bindL_at ndb (kd e2) (.inl hy), ry⟩⟩
        cl := fun i x k e hk' => by
          have e : fd.scope.names[i]? = some (x, k) := e
          have hkc : k = .cell := by
            rcases c10 _ (List.mem_of_getElem? e) with (q | q) | q
            · have q : k = .local := q
              subst q; rcases hk' with q | q <;> cases q
            · exact q
            · have q : k = .globalImplicit := q
              subst q; rcases hk' with q | q <;> cases q
          subst hkc
          obtain ⟨c, hcm⟩ := cellsFrom_has (n := s.heap.objs.size + 1) (acc := []) (.inl (List.mem_of_getElem? e))
          have hlk : (callEnvC fd s.heap.objs.size a).cells.lookup x = some c := lookup_nodup ndc hcm
          obtain ⟨o, h1, h2⟩ := IC.cell x c hlk
          refine ⟨c, o, _, hlk, h1, ⟨_, h2⟩, h2, fun v hv => ?_⟩
          obtain ⟨y, hy, ry⟩ := arg i v x _ hv e
          exact ⟨y, bindC_at ndb (kd e) (.inl hy), ry⟩ }
    ownL := ⟨by rw [prot_get, if_pos (.head _)], fun n p hp => by
      have := hrho n p hp
      exact ⟨Nat.ne_of_lt this.1, Nat.ne_of_lt this.2⟩⟩
    ownC := fun hf x c hx => by
      have hm := lookup_mem hx
      refine ⟨?_, ?_, fun y hy => name_of_addr IC.apart (lookup_mem hy) hm⟩
      · rw [prot_get, if_pos]
        unfold muts
        rw [hf]
        exact .tail _ (List.mem_append_left _ (List.mem_map.mpr ⟨(x, c), hm, rfl⟩))
      · have := hcb x c hm
        exact Nat.ne_of_gt this
    len := O.len
    cells := fun n c p e1 e2 => (O.cells n c p e1 e2).mono (Rle.refl _) fz (fun o e => hk _ _ e) fun o e => hk _ _ e
    sep := O.sep
    fresh := fun n p hp => by rw [prot_get, prot_get, if_pos (mem_muts_rho hp).1, if_pos (mem_muts_rho hp).2]; exact ⟨rfl, rfl⟩
    gens := by rw [hs₁]; exact O.gens
    os := by rw [hs₁]; exact O.os }

/-- a def is called -/
theorem wp_def (B : BaseOk X) (O : Old X stk σ ρ s) {n : Nat} {hd : Bool} {D U : Nat} (CO : COk X (callN X.P n hd) hd (D + 1) (U + 3)) (COt : COk X (callN X.P n true) true (D + 1) (U + 3)) (hD : D < 1000) (hU : U + 83 < cLine) (hA : AOk A stk hd D U) {f : Str} {d : FnD} (hf : X.P.fn f = some d) {as : List V} {ys : List Value} {a : Addr} (ha : X.al f = some a) (rl : RvL X.toCx ρ s.heap as ys)
    (hb : runBody X.P (callN X.P n) d hd as σ ≠ .bad) {Q : Value → Shared → Prop} {E : Value → Shared → Prop}
    (h : ∀ (cenv : Env) (s1 s' : Shared) (ℓ' : Loc) (σ' : Store) (ρ' : Rho) (v : V) (y : Value), cenv.locals = s.heap.objs.size → cenv.frame = some s.heap.objs.size → CellsNd cenv → (∀ x c, (x, c) ∈ cenv.cells → s.heap.get? c = none) → (∀ b o, s.heap.get? b = some o → s1.heap.get? b = some o) → runBody X.P (callN X.P n) d hd as σ = .ok v σ' → Rle ρ ρ' → Fz s.heap s'.heap →
      Inv X (prot s1.heap ρ cenv) (cenv :: stk) cenv ℓ' σ' ρ' s' → Rv X.toCx ρ' s'.heap v y → Q y s')
    (hx : ∀ (cenv : Env) (s1 s' : Shared) (ℓ' : Loc) (σ' : Store) (ρ' : Rho) (c : Str) (e : Value), cenv.locals = s.heap.objs.size → cenv.frame = some s.heap.objs.size → CellsNd cenv → (∀ x c, (x, c) ∈ cenv.cells → s.heap.get? c = none) → (∀ b o, s.heap.get? b = some o → s1.heap.get? b = some o) → runBody X.P (callN X.P n) d hd as σ = .exc c σ' → Rle ρ ρ' → Fz s.heap s'.heap →
      Inv X (prot s1.heap ρ cenv) (cenv :: stk) cenv ℓ' σ' ρ' s' → (∀ f', Fly X (prot s1.heap ρ cenv) f' c e s'.heap) → E e s') : wpAny (model X.prog X.w) A (call (.ref a) ys) Q E s := by
  obtain ⟨a', o, fd, body, h1, h2, h3, h4, h5, h6, h7, h8, h9, h10⟩ := (B.fn f d hf).at_
  rw [ha] at h1; cases h1
  obtain ⟨c1, c2, c3, c4, c5, c6, c7, c8, c9, c10, c11, b, c12, hd'⟩ := cFn_spec h5
  unfold runBody at hb h hx
  by_cases hl : as.length = d.np
  · rw [if_pos hl] at hb h hx
    have hl' : as.length = fd.params.args.length := by rw [hl, hd']
    have hyl : ys.length = fd.params.args.length := by have := rl.length; omega
    have nd' : (fd.params.args.map (·.arg)).Nodup := by
      rw [← c8, List.map_take]; exact c11.sublist (List.take_sublist _ _)
    refine wpAny_call (codeAny_call_cells (binds := (fd.params.args.map (·.arg)).zip ys) (by have := hA.2.1; show A.depth < 1000; omega) (O.base _ _ h2) h3 (B.lim.keeps O.base) (h10.keeps O.base) h4 (bindArgs_pos c1 c2 c3 c4 h9 hyl nd') h8 ?_ (fun s₁ IC => ?_) c7 c6 c5)
    · intro p hp
      have : p.1 ∈ (fd.scope.names.take fd.params.args.length).map (·.1) := by
        rw [c8, ← zip_fst (ns := fd.params.args.map (·.arg)) (vs := ys) (by simpa using hyl)]
        exact List.mem_map.mpr ⟨p, hp, rfl⟩
      obtain ⟨q, hq, e⟩ := List.mem_map.mp this
      have hq' := List.mem_of_mem_take hq
      have hq2 : (p.1, q.2) ∈ fd.scope.names := by rw [← e]; exact hq'
      rcases c9 q hq with z | z <;> rw [z] at hq2
      · exact .inl (lookup_nodup c11 hq2)
      · refine .inr ⟨lookup_nodup c11 hq2, ?_⟩
        obtain ⟨c, hc⟩ := cellsFrom_has (n := s.heap.objs.size + 1) (acc := []) (.inl hq2)
        obtain ⟨c', e'⟩ := lookup_of_mem hc
        rw [e']; rfl
    · have I1 := O.frame (a := a) h5 h6 h7 rl hl IC
      have ndc : ((callEnvC fd s.heap.objs.size a).cells.map (·.1)).Nodup := cellsFrom_nd c11 List.nodup_nil fun _ _ q hq => by cases hq
      have hnd : CellsNd (callEnvC fd s.heap.objs.size a) := fun x c hx => lookup_nodup ndc hx
      have SC : SCtx X (callN X.P n) hd (D + 1) (U + 3) (A.deeper (callEnvC fd s.heap.objs.size a)) (callEnvC fd s.heap.objs.size a :: stk) (callEnvC fd s.heap.objs.size a) fd.scope :=
        { base := B, co := CO, hU := by omega, hs := (show ScOk (callEnvC fd s.heap.objs.size a).scope (callEnvC fd s.heap.objs.size a) from ScOk.self _)
          hA := by
            obtain ⟨z1, z2, z3, z4⟩ := hA
            refine ⟨?_, ?_, ?_, z4⟩
            · show A.frames.map _ = _
              rw [z1]; rfl
            · show A.depth + 1 ≤ D + 1
              omega
            · show A.units + 3 ≤ U + 3
              omega
          hfr := rfl
          tg := fun _ _ _ _ _ _ => rfl
          nd := hnd
          cot := COt
          top := ⟨stk, s.heap.objs.size, rfl, rfl⟩
          cn := fun x c hx => by
            rcases cellsFrom_mem hx with q | q
            · cases q
            · obtain ⟨i, hi, e⟩ := List.mem_iff_getElem.mp q
              exact ⟨i, .cell, by show fd.scope.names[i]? = _; rw [List.getElem?_eq_getElem hi, e], .inl rfl⟩ }
      have hlow : ∀ x c, (x, c) ∈ (callEnvC fd s.heap.objs.size a).cells → s.heap.get? c = none := fun x c hx => by
        have := IC.above x c hx
        have this : s.heap.objs.size < c := this
        cases q : s.heap.get? c with
        | none => rfl
        | some o => exact absurd (Heap.lt_size q) (Nat.not_lt.mpr (Nat.le_of_lt this))
      have hbad : exSs X.P (callN X.P n) b hd (as.map some ++ List.replicate (d.nl - d.np) none) σ ≠ .bad := fun q => hb (by rw [hd'] at q ⊢; dsimp only at q ⊢; rw [q])
      have fz0 : Fz s.heap s₁.heap := .of_keeps IC.toInCall.keep
      refine wpAny_mono ((snd_S SC _).2 body b (Nat.le_refl _) c12 _ _ σ ρ _ I1 hbad) (fun fl s' ⟨ρ', le, fz', hq⟩ => ?_) fun e s' ⟨cc, ℓ4, σ4, ρ4, e4, le4, fz4, I4, fl4⟩ => ?_
      · have go := h (callEnvC fd s.heap.objs.size a) s₁ s'
        have eb : exSs X.P (callN X.P n) d.body hd (as.map some ++ List.replicate (d.nl - d.np) none) σ = exSs X.P (callN X.P n) b hd (as.map some ++ List.replicate (d.nl - d.np) none) σ := by rw [hd']
        rw [eb] at hb go
        cases fl with
        | next => obtain ⟨ℓ1, σ1, e1, I2⟩ := hq; dsimp only at e1; rw [e1] at go; exact go ℓ1 σ1 ρ' .none .none rfl rfl hnd hlow IC.toInCall.keep rfl le (fz0.trans fz') I2 .none
        | cont => exact hq.elim
        | brk => exact hq.elim
        | ret y => obtain ⟨v, ℓ1, σ1, e1, I2, rv⟩ := hq; dsimp only at e1; rw [e1] at go; exact go ℓ1 σ1 ρ' v y rfl rfl hnd hlow IC.toInCall.keep rfl le (fz0.trans fz') I2 rv
      · have e4 : exSs X.P (callN X.P n) d.body hd (as.map some ++ List.replicate (d.nl - d.np) none) σ = .exc cc ℓ4 σ4 := by rw [hd'] at e4 ⊢; exact e4
        rw [e4] at hx
        exact wp_leave I4 SC.hA.1 rfl (fl4 _ rfl) fun s5 fz5 I5 fl5 => hx (callEnvC fd s.heap.objs.size a) s₁ s5 ℓ4 σ4 ρ4 cc e rfl rfl hnd hlow IC.toInCall.keep rfl le4 ((fz0.trans fz4).trans fz5) I5 fl5
  · rw [if_neg hl] at hb; exact absurd rfl hb

set_option tactic.hygienic true in
theorem snd_callFn (B : BaseOk X) {n : Nat} {hd : Bool} {D U : Nat} (CO : COk X (callN X.P n hd) hd (D + 1) (U + 3)) (COt : COk X (callN X.P n true) true (D + 1) (U + 3)) (hD : D < 1000) (hU : U + 83 < cLine) (hA : AOk A stk hd D U) {f : Str} {d : FnD} (hf : X.P.fn f = some d) {as : List V} {ys : List Value} {x : Value} :
    Snd X A G stk env ℓ (fun ρ h => Rv X.toCx ρ h (.fn f) x ∧ RvL X.toCx ρ h as ys) (rV X) (call x ys) (fun σ => runBody X.P (callN X.P n) d hd as σ) := by
  intro σ ρ s I hr hb
  obtain ⟨rf, rl⟩ := hr
  cases rf with
  | fn ha =>
    have fin : ∀ {cenv : Env} {s1 s' : Shared} {ℓ' : Loc} {σ' : Store} {ρ' : Rho}, cenv.locals = s.heap.objs.size → cenv.frame = some s.heap.objs.size → CellsNd cenv → (∀ x c, (x, c) ∈ cenv.cells → s.heap.get? c = none) → (∀ b o, s.heap.get? b = some o → s1.heap.get? b = some o) → Rle ρ ρ' → Fz s.heap s'.heap →
        Inv X (prot s1.heap ρ cenv) (cenv :: stk) cenv ℓ' σ' ρ' s' → Inv X G stk env ℓ σ' ρ' s' := fun hL hF hnd hlow k1 le fz I' => by
      refine I.backProt (fun b o e hb => ?_) hnd (fun _ => hlow) k1 ⟨by rw [hL]; exact I.freshAddr.1, by rw [hL]; exact I.freshAddr.2.1, fun o e => ?_⟩ le fz I'
      · intro hm
        unfold frs at hm
        rw [List.filterMap_cons, hF] at hm
        rcases List.mem_cons.mp hm with q | q
        · rw [q, get?_size] at e; cases e
        · exact hb q
      · rw [hL, get?_size] at e; cases e
    refine wp_def B I.old CO COt hD hU hA hf ha rl hb (fun cenv s1 s' ℓ' σ' ρ' v y hL hF hnd hlow k1 ho le fz I' rv => ⟨v, σ', ρ', ho, le, fz, fin hL hF hnd hlow k1 le fz I', rv⟩) fun cenv s1 s' ℓ' σ' ρ' c e hL hF hnd hlow k1 ho le fz I' fl => ⟨c, σ', ρ', ho, le, fz, fin hL hF hnd hlow k1 le fz I', fun f _ => ⟨?_⟩⟩
    have hGG : ∀ b, (prot s1.heap ρ cenv).get? b = none → G.get? b = none := fun b hb0 => by
      cases q : G.get? b with
      | none => rfl
      | some o =>
        obtain ⟨sl, z, _⟩ := I.keep b o q
        rw [prot_get] at hb0
        split at hb0
        · rename_i hm
          rcases mem_muts hm with q1 | ⟨_, x, hx⟩ | ⟨n, p, hp, q1⟩
          · rw [q1, hL, get?_size] at z; cases z
          · rw [hlow x b hx] at z; cases z
          · have := I.fresh n p hp
            rcases q1 with rfl | rfl
            · rw [this.1] at q; cases q
            · rw [this.2] at q; cases q
        · rw [k1 _ _ z] at hb0; cases hb0
    obtain ⟨ea, C', oe, vs, q1, q2, q3, q4, q5, q6, q7⟩ := (fl f).at_
    refine ⟨ea, C', oe, vs, q1, q2, q3, q4, q5, hGG _ q6, ?_⟩
    rcases q7 with q7 | ⟨T, oT, ts, w1, w2, w3, w4, w5, w6⟩
    · exact .inl q7
    · exact .inr ⟨T, oT, ts, w1, w2, hGG _ w3, w4, w5, w6⟩

theorem ints_borne {X : Cx} {ρ : Rho} {h : Heap} : ∀ {l : List V} {is : List Int} {items : List Value}, intsOf l = some is → RvL X ρ h l items → IntsAre items is
  | [], is, _, e, .nil => by simp only [intsOf, Option.some.injEq] at e; subst e; exact .nil
  | v :: l, is, _, e, .cons hv hl => by
    cases v <;> simp only [intsOf] at e <;> try (cases e; done)
    obtain ⟨js, e1, rfl⟩ := Option.map_eq_some_iff.mp e
    cases hv
    exact .cons _ _ (ints_borne e1 hl)
theorem rv_ints' {X : Cx} {ρ : Rho} {h : Heap} : ∀ {vs : List Value} {ns : List Int}, IntsAre vs ns → RvL X ρ h (ns.map .int) vs
  | _, _, .nil => .nil
  | _, _, .cons n t r => .cons (.int n t) (rv_ints' r)

theorem snd_pLen (B : BaseOk X) {v : V} {x : Value} (I : Inv X G stk env ℓ σ ρ s) (rv : Rv X.toCx ρ s.heap v x) (hb : pLen X.P v σ ≠ .bad) : wpAny (model X.prog X.w) A (call (.builtin "len") [x]) (Qok X G stk env ℓ (rV X) (pLen X.P v σ) ρ s) (Qex X G stk env ℓ (pLen X.P v σ) ρ s) s := by
  cases v with
  | loc n =>
    unfold pLen at hb ⊢
    dsimp only at hb ⊢
    cases e0 : σ[n]? with
    | none => rw [e0] at hb; exact absurd rfl hb
    | some c =>
      obtain ⟨l⟩ := c
      rw [e0] at hb
      dsimp only at hb ⊢
      by_cases hz : l.length ≤ szL
      · rw [if_pos hz]
        obtain ⟨a, items, k, o, rfl, hp, g1, g2, g3, g4⟩ := I.listAt rv e0
        have hln := g4.length
        refine call_len_list (isList_of g1 g2 g3) (by rw [List.size_toArray]; unfold szL at hz; omega) ?_
        refine qok_same I (by rw [hln]) ?_
        rw [List.size_toArray]
        exact .int _ _
      · rw [if_neg hz] at hb; exact absurd rfl hb
  | script =>
    by_cases hz : X.P.ns.length ≤ szL
    · have e : pLen X.P .script σ = .ok (.int X.P.ns.length) σ := if_pos hz
      rw [e]
      cases rv
      obtain ⟨o, n, items, g1, g2, g3, g4⟩ := B.scr
      have hln := g4.length
      simp only [List.length_map] at hln
      refine call_len_list (isList_of (I.frBase g1) g2 g3) (by rw [List.size_toArray]; unfold szL at hz; omega) ?_
      refine qok_same I (by rw [hln]) ?_
      rw [List.size_toArray]
      exact .int _ _
    · exact absurd (if_neg hz) hb
  | _ => exact absurd rfl hb
theorem pInts_inv {f : List Int → Store → Out V} {v : V} {n : Nat} (hv : v = .loc n) (hb : (match σ[n]? with | some (.list l) => (match intsOf l with | some is => f is σ | .none => .bad) | _ => .bad) ≠ Out.bad) : ∃ l is, σ[n]? = some (.list l) ∧ intsOf l = some is ∧ (match σ[n]? with | some (.list l) => (match intsOf l with | some is => f is σ | .none => .bad) | _ => Out.bad) = f is σ := by
  cases e0 : σ[n]? with
  | none => rw [e0] at hb; exact absurd rfl hb
  | some c =>
    obtain ⟨l⟩ := c
    cases hi : intsOf l with
    | none => rw [e0] at hb; dsimp only at hb; rw [hi] at hb; exact absurd rfl hb
    | some is => exact ⟨l, is, rfl, hi, by dsimp only; rw [hi]⟩
theorem snd_pSum {v : V} {x : Value} (hh : A.handled = none) (I : Inv X G stk env ℓ σ ρ s) (rv : Rv X.toCx ρ s.heap v x) (hb : pSum v σ ≠ .bad) : wpAny (model X.prog X.w) A (call (.builtin "sum") [x]) (Qok X G stk env ℓ (rV X) (pSum v σ) ρ s) (Qex X G stk env ℓ (pSum v σ) ρ s) s := by
  cases v with
  | loc n =>
    obtain ⟨l, is, e0, hi, e⟩ := pInts_inv (f := fun is σ => .ok (.int is.sum) σ) rfl hb
    have e : pSum (.loc n) σ = .ok (.int is.sum) σ := e
    rw [e]
    obtain ⟨a, items, k, o, rfl, hp, g1, g2, g3, g4⟩ := I.listAt rv e0
    refine sum_ints hh (isList_of g1 g2 g3) (ints_borne hi g4) fun h' tk t' kk => ?_
    exact ⟨.int is.sum, σ, ρ, rfl, Rle.refl _, .of_keeps kk, I.grow (s' := { s with heap := h', toks := tk }) kk rfl rfl, .int _ _⟩
  | _ => exact absurd rfl hb
theorem snd_isa {v t : V} {x y : Value} {r : Bool} (I : Inv X G stk env ℓ σ ρ s) (rv : Rv X.toCx ρ s.heap v x) (rt : Rv X.toCx ρ s.heap t y) (hv : isaV X.P σ v t = some r) : wpAny (model X.prog X.w) A (call (.builtin "isinstance") [x, y]) (Qok X G stk env ℓ (rV X) (.ok (.bool r) σ) ρ s) (Qex X G stk env ℓ (.ok (.bool r) σ : Out V) ρ s) s := by
  cases v with
  | int i =>
    cases t with
    | ty n =>
      cases rt
      cases rv
      by_cases e : n = "int"
      · cases Option.some.inj ((if_pos e).symm.trans hv); subst e; exact IsiPair.int_int (qok_same I rfl (.bool _))
      · have hv := (if_neg e).symm.trans hv
        by_cases e : n = "bool"
        · cases Option.some.inj ((if_pos e).symm.trans hv); subst e; exact IsiPair.int_bool (qok_same I rfl (.bool _))
        · exact no_some ((if_neg e).symm.trans hv)
    | _ => exact no_some hv
  | bool b =>
    cases t with
    | ty n =>
      cases rt
      cases rv
      by_cases e : n = "int"
      · cases Option.some.inj ((if_pos e).symm.trans hv); subst e; exact IsiPair.bool_int (qok_same I rfl (.bool _))
      · have hv := (if_neg e).symm.trans hv
        by_cases e : n = "bool"
        · cases Option.some.inj ((if_pos e).symm.trans hv); subst e; exact IsiPair.bool_bool (qok_same I rfl (.bool _))
        · exact no_some ((if_neg e).symm.trans hv)
    | _ => exact no_some hv
  | str z =>
    cases t with
    | ty n =>
      cases rt
      cases rv
      by_cases e : n = "int"
      · cases Option.some.inj ((if_pos e).symm.trans hv); subst e; exact IsiPair.str_int (qok_same I rfl (.bool _))
      · exact no_some ((if_neg e).symm.trans hv)
    | _ => exact no_some hv
  | none =>
    cases t with
    | ty n =>
      cases rt
      cases rv
      by_cases e : n = "int"
      · cases Option.some.inj ((if_pos e).symm.trans hv); subst e; exact IsiPair.NoneType_int (qok_same I rfl (.bool _))
      · exact no_some ((if_neg e).symm.trans hv)
    | _ => exact no_some hv
  | tup l =>
    cases t with
    | ty n =>
      cases rt
      obtain ⟨a, items, k, o, rfl, g1, g2, g3, g4⟩ := tup_inv rv
      by_cases e : n = "tuple"
      · cases Option.some.inj ((if_pos e).symm.trans hv); subst e; exact IsiPair.isTuple_tuple ⟨o, g1, g2, k, g3⟩ (fun _ _ e => e) (qok_same I rfl (.bool _))
      · exact no_some ((if_neg e).symm.trans hv)
    | _ => exact no_some hv
  | _ => exact no_some hv
theorem snd_prim (B : BaseOk X) {hd : Bool} {D U : Nat} (hA : AOk A stk hd D U) {b : String} {as : List V} {ys : List Value} {x : Value} :
    Snd X A G stk env ℓ (fun ρ h => Rv X.toCx ρ h (.bi b) x ∧ RvL X.toCx ρ h as ys) (rV X) (call x ys) (fun σ => prim X.P hd b as σ) := by
  intro σ ρ s I hr hb
  obtain ⟨rf, rl⟩ := hr
  cases rf
  cases rl with
  | nil => exact absurd rfl hb
  | @cons v x as ys rv rl => ?_
  cases rl with
  | nil =>
    change prim1 X.P hd b v σ ≠ .bad at hb
    show wpAny _ _ _ (Qok X G stk env ℓ (rV X) (prim1 X.P hd b v σ) ρ s) (Qex X G stk env ℓ (prim1 X.P hd b v σ) ρ s) s
    unfold prim1 at hb ⊢
    by_cases h1 : b = "len"
    · subst h1; rw [if_pos rfl] at hb ⊢; exact snd_pLen B I rv hb
    rw [if_neg h1] at hb ⊢
    by_cases h2 : hd = true
    · rw [if_pos h2] at hb; exact absurd rfl hb
    rw [if_neg h2] at hb ⊢
    have hh := hA.2.2.2 (by simpa using h2)
    by_cases h3 : b = "sum"
    · subst h3; rw [if_pos rfl] at hb ⊢; exact snd_pSum hh I rv hb
    rw [if_neg h3] at hb ⊢
    exact absurd rfl hb
  | @cons t y as ys rt rl => ?_
  cases rl with
  | cons => exact absurd rfl hb
  | nil => ?_
  change prim2 X.P hd b v t σ ≠ .bad at hb
  show wpAny _ _ _ (Qok X G stk env ℓ (rV X) (prim2 X.P hd b v t σ) ρ s) (Qex X G stk env ℓ (prim2 X.P hd b v t σ) ρ s) s
  unfold prim2 at hb ⊢
  by_cases h1 : b = "isinstance"
  · subst h1
    rw [if_pos rfl] at hb ⊢
    obtain ⟨r, hv⟩ := ofOpt_bad hb
    obtain ⟨r', hv', rfl⟩ := Option.map_eq_some_iff.mp hv
    rw [hv]
    exact snd_isa I rv rt hv'
  exact absurd (if_neg h1) hb
theorem coOk (B : BaseOk X) : ∀ (n : Nat) (hd : Bool) (D U : Nat), D + n < 1000 → U + 3 * n + 83 < cLine → COk X (callN X.P n hd) hd D U
  | 0, hd, D, U, _, _ => ⟨fun _ _ _ _ _ _ _ _ _ _ _ => Snd.cong Snd.bad fun _ => rfl, fun _ _ _ h => absurd rfl h, fun _ _ _ h => absurd rfl h⟩
  | n + 1, hd, D, U, hD, hU => by
    have ih := coOk B n hd (D + 1) (U + 3) (by omega) (by omega)
    have iht := coOk B n true (D + 1) (U + 3) (by omega) (by omega)
    refine ⟨fun A G stk env ℓ f as x ys hA hfr => ?_, fun f as σ h => ?_, fun v as σ h => ?_⟩
    · cases f with
      | fn f =>
        cases q : X.P.fn f with
        | none => exact Snd.cong Snd.bad fun σ => by simp only [callN, q]
        | some d => exact Snd.cong (snd_callFn B ih iht (by omega) (by omega) hA q) fun σ => by simp only [callN, q]
      | bi b => exact Snd.cong (snd_prim B hA) fun σ => by simp only [callN]
      | _ => exact Snd.cong Snd.bad fun σ => by simp only [callN]
    · cases q : X.P.fn f with
      | none => simp only [callN, q] at h; exact absurd rfl h
      | some d => exact ⟨d, rfl⟩
    · cases v with
      | fn f => exact .inl ⟨f, rfl⟩
      | bi b => exact .inr (.inl ⟨b, rfl⟩)
      | _ => simp only [callN] at h; exact absurd rfl h
end
end Mine
end

section
set_option tactic.hygienic false
set_option bootstrap.genMatcherCode false
set_option maxRecDepth 100000
set_option linter.unusedSimpArgs false
set_option linter.unusedVariables false
namespace Mine
open PySem PySem.W PySem.Calls PyProof.Rows

/-- the law's call, by the plain interpreter's answer -/
theorem enter {X : Cy} (B : BaseOk X) {s : Shared} (hG : X.G0 = s.heap) (ho : s.os = X.os) (hgens : s.gens = #[]) {f : Str} {d : FnD} (hf : X.P.fn f = some d) {a : Addr} (ha : X.al f = some a) {n : Nat} (hn : n < 600) (hcm : callerA.depth < 390) {v : V} {σ' : Store}
    (hv : callN X.P (n + 1) false (.fn f) [.script] [] = .ok v σ') {E : Value → Shared → Prop} :
    wpAny (model X.prog X.w) callerA (call (.ref a) [.ref X.scr]) (fun y s' => (∃ ρ', Rv X.toCx ρ' s'.heap v y) ∧ (∀ b o, s.heap.get? b = some o → s'.heap.get? b = some o) ∧ s'.os = s.os ∧ s'.gens = s.gens) E s := by
  simp only [callN, hf] at hv
  have O : Old X [] [] [] s := { base := fun b o e => hG ▸ e, ff := trivial, fd := fun b hb => (by cases hb), len := rfl, cells := fun n c p e => by simp at e, sep := fun n m p q e => by simp at e, free := fun n p e => by simp at e, gens := hgens, os := ho }
  refine wp_def B O (D := callerA.depth) (U := callerA.units) (hd := false) (coOk B n false _ _ (by omega) (by show 4 + 3 + 3 * n + 83 < 9900; omega)) (coOk B n true _ _ (by omega) (by show 4 + 3 + 3 * n + 83 < 9900; omega)) (by omega) (by show 4 + 83 < 9900; omega) ⟨rfl, Nat.le_refl _, Nat.le_refl _, fun _ => rfl⟩ hf ha (.cons .script .nil) (by rw [hv]; intro q; cases q) (fun cenv s1 s' ℓ' σ1 ρ' v' y _ _ _ _ _ e _ _ I' rv => ?_) fun cenv s1 s' ℓ' σ1 ρ' c x _ _ _ _ _ e _ _ _ _ => by rw [hv] at e; cases e
  rw [hv] at e; cases e
  exact ⟨⟨ρ', rv⟩, fun b o e => I'.frBase (hG ▸ e), I'.os.trans ho.symm, I'.gens.trans hgens.symm⟩
end Mine
end

section
set_option tactic.hygienic false
set_option bootstrap.genMatcherCode false
set_option maxRecDepth 100000
set_option linter.unusedSimpArgs false
set_option linter.unusedVariables false
namespace Mine
open PySem PySem.W PySem.Calls PyProof.Rows

/-- a name that the text leaves to the builtins -/
noncomputable def okB (p : Program) (loose : List Str) (x : Str) : Bool := !(x == "__name__") && !startupNames.contains x && !loose.contains x && !((recsOf p).map (·.name)).contains x && !((litsOf p).map (·.1)).contains x && !((clssOf p loose).map (·.name)).contains x
noncomputable def biV : Option Value → Option V
  | some (.builtin b) => some (.bi b)
  | some (.type t) => some (.ty t)
  | _ => none
noncomputable def litV : Option PyData → Option V
  | some (.int i) => some (.int i)
  | _ => none
noncomputable def globOf (p : Program) (loose : List Str) (x : Str) : Option V :=
  if ((recsOf p).map (·.name)).contains x then some (.fn x)
  else if (specOf p x).isSome then some (.cls x)
  else if (valOf p x).isSome then litV (valOf p x)
  else if (tupIntsOf p x).isSome then (tupIntsOf p x).map fun l => .tup (l.map .int)
  else if okB p loose x then biV (bootBuiltins x) else none
set_option tactic.hygienic true in
theorem lookup_mem' {β : Type} {l : List (Addr × β)} {x : Addr} {v : β} (h : l.lookup x = some v) : (x, v) ∈ l := by
  induction l with
  | nil => cases h
  | cons p r ih =>
    obtain ⟨y, u⟩ := p
    rw [List.lookup] at h
    split at h
    · rename_i q; cases h; rw [eq_of_beq q]; exact .head _
    · exact .tail _ (ih h)
abbrev TabC := List (Str × Str × Bool)
noncomputable def bmVE : List Value := [.type "ValueError", .type "Exception", .type "BaseException", .type "object"]
noncomputable def isVE : Option (String × List Value) → Bool
  | some (n, bm) => n == "ValueError.__new__" && bm == bmVE
  | none => false
noncomputable def isaOf (tc : TabC) (c d : Str) : Option Bool := (tc.find? fun e => e.1 == c && e.2.1 == d).map (·.2.2)
noncomputable def progOf (p : Program) (loose : List Str) (tc : TabC) (ns : List Int) : Prog where
  fn x := ((recsOf p).find? (·.name == x)).bind fun r => cFn r.params r.scope r.body
  glob x := globOf p loose x
  exc x := isVE (specOf p x)
  isa := isaOf tc
  ns := ns

/-! ### what is to be seen of the classes -/
noncomputable def nameAt (K : Frag) (x : Str) : Option Addr := match nsIn K mainGlobals x with
  | some (some (.ref a)) => some a
  | _ => none
noncomputable def chkC (K : Frag) (e : Str × Str × Bool) : Bool := match nameAt K e.1, nameAt K e.2.1 with
  | some C, some D => exmOne K (.ref C) (.ref D) == some e.2.2
  | _, _ => false
noncomputable def chk (tc : TabC) (K : Frag) : Bool := tc.all (chkC K)
noncomputable def fragAll (h : Heap) : Frag := (List.range h.objs.size).filterMap fun a => (h.get? a).map fun o => (a, o)
theorem fragAll_in (h : Heap) : (fragAll h).In h := fun a o e => by
  have hm := lookup_mem' e
  unfold fragAll at hm
  obtain ⟨b, _, hb⟩ := List.mem_filterMap.mp hm
  obtain ⟨o', h1, h2⟩ := Option.map_eq_some_iff.mp hb
  cases h2
  exact h1
noncomputable def exHook (tc : TabC) : Hook where
  α := Bool
  obs s := chk tc (fragAll s.heap)
  val _ := true
  says _ h := ∃ K : Frag, K.In h ∧ chk tc K = true
  of _ s e := ⟨fragAll s.heap, fragAll_in _, e⟩
  keeps _ _ _ := fun ⟨K, k1, k2⟩ k => ⟨K, k1.keeps k, k2⟩
set_option tactic.hygienic true in
theorem nameAt_spec {K : Frag} {x : Str} {a : Addr} (h : nameAt K x = some a) : nsIn K mainGlobals x = some (some (.ref a)) := by
  unfold nameAt at h
  split at h
  · cases h; assumption
  · cases h

theorem rv_ints {X : Cx} {ρ : Rho} {h : Heap} : ∀ {vs : List Value} {ns : List Int}, IntsAre vs ns → RvL X ρ h (ns.map .int) vs
  | _, _, .nil => .nil
  | _, _, .cons n t r => .cons (.int n t) (rv_ints r)

noncomputable def alOf (mg : Str → Option Value) (x : Str) : Option Addr := match mg x with
  | some (.ref a) => some a
  | _ => none
theorem alOf_eq {mg : Str → Option Value} {x : Str} {a : Addr} (h : mg x = some (.ref a)) : alOf mg x = some a := by unfold alOf; rw [h]

section
variable {p prog : Program} {loose : List Str} {w : World} {mean : ExcName → Option Value} {mg mb : Str → Option Value} {s : Shared}

theorem free_of (T : Top p loose mean mg mb s.heap) {x : Str} (h : okB p loose x = true) : mg x = none ∧ mb x = bootBuiltins x := by
  unfold okB at h
  simp only [Bool.and_eq_true, Bool.not_eq_true', beq_eq_false_iff_ne] at h
  obtain ⟨⟨⟨⟨⟨h1, h2⟩, h3⟩, h4⟩, h5⟩, h6⟩ := h
  have g : ∀ {l : List Str}, l.contains x = false → x ∉ l := fun e hm => by rw [List.contains_iff_mem.mpr hm] at e; cases e
  exact ⟨T.free x (g h2) (g h3) (g h4) (g h5) (g h6), T.builtins x h1⟩

theorem boot_range : bootBuiltins "range" = some (.type "range") ∧ bootBuiltins "enumerate" = some (.type "enumerate") ∧ bootBuiltins "zip" = some (.type "zip") := by decide +kernel

noncomputable def cyOf (p prog : Program) (loose : List Str) (tc : TabC) (ns : List Int) (mg : Str → Option Value) (a : Addr) (w : World) (s : Shared) : Cy where
  P := progOf p loose tc ns
  al := alOf mg
  scr := a
  prog := prog
  w := w
  os := s.os
  G0 := s.heap

end
section
variable {X : Cy} {K : Frag}
theorem exmAt_of (KX : K.In X.G0) {C : Addr} {y : Value} {r : Bool} (e : exmOne K (.ref C) y = some r) : ExmAt X C y r := fun A E s ea o vs hk ho hc hd Q hq =>
  exm_one (M := model X.prog X.w) (KX.keeps hk) (hc ▸ (Looks.ld ho).andThen .now) e A Q E s (fun _ _ z => z) hq
end
section
variable {p prog : Program} {loose : List Str} {w : World} {mean : ExcName → Option Value} {mg mb : Str → Option Value} {s : Shared}
set_option tactic.hygienic true in
theorem base_of {p' : Program} {tc : TabC} (Y : ∃ K : Frag, K.In s.heap ∧ chk tc K = true) (T : Top p loose mean mg mb s.heap) (B : Tables p' w mg s.heap) (hp : p' = p) {a : Addr} {items : List Value} {ns : List Int} (hL : s.heap.IsList a items.toArray) (hI : IntsAre items ns)
    (hr : (okB p loose "range" && okB p loose "enumerate" && okB p loose "zip") = true) : BaseOk (cyOf p prog loose tc ns mg a w s) := by
  subst hp
  simp only [Bool.and_eq_true] at hr
  obtain ⟨⟨r1, r2⟩, r3⟩ := hr
  obtain ⟨b1, b2, b3⟩ := boot_range
  obtain ⟨K, KX, hK⟩ := Y
  unfold chk at hK
  simp only [List.all_eq_true] at hK
  have al_of : ∀ {x : Str} {a : Addr}, nameAt K x = some a → alOf mg x = some a := fun h => alOf_eq (mg_of KX T.g (nameAt_spec h))
  have cOf : ∀ {c d : Str} {r : Bool}, isaOf tc c d = some r → ∃ C D, alOf mg c = some C ∧ alOf mg d = some D ∧ exmOne K (.ref C) (.ref D) = some r := fun {c d r} h => by
    obtain ⟨e, h1, h2⟩ := Option.map_eq_some_iff.mp h
    have hp := List.find?_some h1
    simp only [Bool.and_eq_true, beq_iff_eq] at hp
    have hc := hK e (List.mem_of_find?_eq_some h1)
    unfold chkC at hc
    split at hc
    · rename_i C D q1 q2
      simp only [beq_iff_eq] at hc
      exact ⟨C, D, hp.1 ▸ al_of q1, hp.2 ▸ al_of q2, h2 ▸ hc⟩
    · cases hc
  refine ⟨fun c hc => ?_, fun c d r h C D hC hD => ?_, ⟨mg, mb, T.g, T.b, fun x v hv => ?_, fun x => ⟨fun e => ?_, fun e => ?_, fun e => ?_⟩⟩, T.nolimit, ?_, fun f d hf => ?_⟩
  · have hc : isVE (specOf p' c) = true := hc
    cases hs : specOf p' c with
    | none => rw [hs] at hc; cases hc
    | some z =>
      obtain ⟨n, bm⟩ := z
      rw [hs] at hc
      simp only [isVE, Bool.and_eq_true, beq_iff_eq] at hc
      obtain ⟨rfl, rfl⟩ := hc
      obtain ⟨C, O, _⟩ := T.ownAt hs
      obtain ⟨bound, bm', N, nm, q, bs, hdct, sn, sub, ab, col, dd, k0, k1, k2, k3, k5, mN, gC, gN, hni, gT⟩ := O.own
      refine ⟨?_, C, alOf_eq bound, nm, q, N, bs, bm', hdct, sn, sub, ab, col, dd, k0, k1, k2, k3, k5, _, mN, _, _, _, _, _, _, bmVE, F.excBase_ValueError, rfl, F.excBase_ValueError, gT.hasType rfl, hni, gC, gN, gT⟩
      show globOf p' loose c = some (.cls c)
      unfold globOf
      rw [if_neg, if_pos (by rw [hs]; rfl)]
      intro hx
      obtain ⟨r, hr, rfl⟩ := List.mem_map.mp (List.contains_iff_mem.mp hx)
      obtain ⟨a', o, pm, code, doc, h1, h2, h3, h4⟩ := T.fn r hr
      rw [bound] at h1; cases h1
      rw [gC] at h2; cases h2
      cases h3
  · obtain ⟨C', D', a1, a2, a5⟩ := cOf h
    have hC : alOf mg c = some C := hC
    have hD : alOf mg d = some D := hD
    rw [a1] at hC; cases hC
    rw [a2] at hD; cases hD
    exact exmAt_of KX a5
  · have hv : globOf p' loose x = some v := hv
    unfold globOf at hv
    split at hv
    · rename_i hx
      cases hv
      obtain ⟨r, hr, rfl⟩ := List.mem_map.mp (List.contains_iff_mem.mp hx)
      obtain ⟨a', o, pm, code, doc, h1, h2, h3, h4⟩ := T.fn r hr
      exact ⟨.ref a', .inl h1, .fn (alOf_eq h1)⟩
    · split at hv
      · rename_i hx
        cases hv
        obtain ⟨z, hs⟩ := Option.isSome_iff_exists.mp hx
        obtain ⟨C, O, _⟩ := T.ownAt hs
        exact ⟨.ref C, .inl O.bound, .cls (alOf_eq O.bound)⟩
      split at hv
      · cases hd : valOf p' x with
        | none => rw [hd] at hv; cases hv
        | some d =>
          rw [hd] at hv
          cases d with
          | int i =>
            cases hv
            obtain ⟨y, h1, h2⟩ := T.const x _ hd
            obtain ⟨t, rfl, _⟩ := reads_int_inv (h2 s.heap)
            exact ⟨_, .inl h1, .int i t⟩
          | _ => cases hv
      · split at hv
        · cases hd : tupIntsOf p' x with
          | none => rw [hd] at hv; cases hv
          | some l =>
            rw [hd] at hv; cases hv
            obtain ⟨a', vs, h1, ⟨o, h2, h3, n, h4⟩, h5⟩ := B.tupI x _ hd
            exact ⟨_, .inl h1, .tup o n h2 h3 h4 (rv_ints h5)⟩
        · split at hv
          · rename_i hx
            obtain ⟨f1, f2⟩ := free_of T hx
            cases hd : bootBuiltins x with
            | none => rw [hd] at hv; cases hv
            | some y =>
              rw [hd] at hv
              refine ⟨y, .inr ⟨f1, f2.trans hd⟩, ?_⟩
              cases y <;> first | (cases hv; first | exact .bi _ | exact .ty _) | cases hv
          · cases hv
  · subst e; obtain ⟨f1, f2⟩ := free_of T r1; exact ⟨f1, f2.trans b1⟩
  · subst e; obtain ⟨f1, f2⟩ := free_of T r2; exact ⟨f1, f2.trans b2⟩
  · subst e; obtain ⟨f1, f2⟩ := free_of T r3; exact ⟨f1, f2.trans b3⟩
  · obtain ⟨o, h1, h2, n, h3⟩ := hL
    exact ⟨o, n, items, h1, h2, h3, rv_ints hI⟩
  · have hf' : ((recsOf p').find? (·.name == f)).bind (fun r => cFn r.params r.scope r.body) = some d := hf
    cases hq : (recsOf p').find? (·.name == f) with
    | none => rw [hq] at hf'; cases hf'
    | some r =>
      rw [hq] at hf'
      have hn : r.name = f := beq_iff_eq.mp (List.find?_some (p := fun e : DefRec => e.name == f) hq)
      obtain ⟨a', o, pm, code, doc, h1, h2, h3, h4⟩ := T.fn r (List.mem_of_find?_eq_some hq)
      subst hn
      exact ⟨a', o, _, r.body, alOf_eq h1, h2, h3, rfl, hf', rfl, rfl, rfl, rfl, h4⟩

theorem join {p' : Program} {tc : TabC} (Y : ∃ K : Frag, K.In s.heap ∧ chk tc K = true) (T : Top p loose mean mg mb s.heap) (B : Tables p' w mg s.heap) (hp : p' = p) (hg : s.gens = #[]) {fa : Addr} (hmg : mg "law" = some (.ref fa)) {a : Addr} {items : List Value} {ns : List Int} (hL : s.heap.IsList a items.toArray) (hI : IntsAre items ns)
    (hr : (okB p loose "range" && okB p loose "enumerate" && okB p loose "zip") = true) {d : FnD} (hd : (progOf p loose tc ns).fn "law" = some d) {n : Nat} (hn : n < 600)
    (hv : ∃ σ', callN (progOf p loose tc ns) (n + 1) false (.fn "law") [.script] [] = .ok (.bool true) σ') {c : ClaimW} {cl : Str → Option Addr} {mean' : ExcName → Option Value} {args : List WData}
    (h1 : ∀ cls, c.raises args cls = false) (h2 : c.post args (.bool true) args = true) {E : Value → Shared → Prop} :
    wpAny (model prog w) callerA (call (.ref fa) [.ref a]) (fun v s' => GoodWG c cl mean' args s (.ok (.ret v)) s') E s := by
  obtain ⟨σ', hv⟩ := hv
  refine wpAny_mono (enter (X := cyOf p prog loose tc ns mg a w s) (base_of Y T B hp hL hI hr) rfl rfl hg hd (alOf_eq hmg) hn (by decide) hv) (fun y s' ⟨⟨ρ', r⟩, hk, ho, hgs⟩ => ?_) (fun e s' h => h)
  cases r
  refine ⟨.inl ⟨_, _, [], rfl, h1, .bool true, h2, fun _ => ⟨List.nodup_nil, fun _ hm => by cases hm⟩⟩, .of_keep hk, ho, .of_eq (hgs.trans hg)⟩
end
end Mine
end

section
set_option tactic.hygienic false
set_option bootstrap.genMatcherCode false
set_option maxRecDepth 100000
set_option linter.unusedSimpArgs false
set_option linter.unusedVariables false
set_option linter.unusedSimpArgs false
namespace Mine
open PySem

theorem mulOk_l {a b : Int} (h : a.natAbs < 2 ^ 64) : mulOk a b = true := by unfold mulOk; simp [h]
theorem mulOk_r {a b : Int} (h : b.natAbs < 2 ^ 64) : mulOk a b = true := by unfold mulOk; simp [h]
theorem mulOk_ml {a c b : Int} (h : 0 < b) (h' : b ≤ 2 ^ 64) : mulOk (a % b) c = true := mulOk_l (by have := Int.emod_nonneg a (show b ≠ 0 by omega); have := Int.emod_lt_of_pos a h; omega)
/-! ### loops -/
theorem range_get {a b : Int} {i : Nat} {v : V} (h : (rangeL a b)[i]? = some v) : v = .int (a + i) ∧ a + i < b := by
  unfold rangeL at h
  rw [List.getElem?_map] at h
  cases q : (List.range (b - a).toNat)[i]? with
  | none => rw [q] at h; cases h
  | some k =>
    rw [q] at h
    obtain ⟨h1, h2⟩ := List.getElem?_eq_some_iff.mp q
    simp at h1 h2 h
    subst h2
    exact ⟨h.symm, by omega⟩
theorem range_len (a b : Int) : (rangeL a b).length = (b - a).toNat := by simp [rangeL]

theorem gt0 {a0 : Option V} {l : Loc} : (a0 :: l)[0]? = some a0 := rfl
theorem st0 {a0 v : Option V} {l : Loc} : (a0 :: l).set 0 v = v :: l := rfl
theorem gt1 {a0 a1 : Option V} {l : Loc} : (a0 :: a1 :: l)[1]? = some a1 := rfl
theorem st1 {a0 a1 v : Option V} {l : Loc} : (a0 :: a1 :: l).set 1 v = a0 :: v :: l := rfl
theorem gt2 {a0 a1 a2 : Option V} {l : Loc} : (a0 :: a1 :: a2 :: l)[2]? = some a2 := rfl
theorem st2 {a0 a1 a2 v : Option V} {l : Loc} : (a0 :: a1 :: a2 :: l).set 2 v = a0 :: a1 :: v :: l := rfl
theorem gt3 {a0 a1 a2 a3 : Option V} {l : Loc} : (a0 :: a1 :: a2 :: a3 :: l)[3]? = some a3 := rfl
theorem st3 {a0 a1 a2 a3 v : Option V} {l : Loc} : (a0 :: a1 :: a2 :: a3 :: l).set 3 v = a0 :: a1 :: a2 :: v :: l := rfl
theorem gt4 {a0 a1 a2 a3 a4 : Option V} {l : Loc} : (a0 :: a1 :: a2 :: a3 :: a4 :: l)[4]? = some a4 := rfl
theorem st4 {a0 a1 a2 a3 a4 v : Option V} {l : Loc} : (a0 :: a1 :: a2 :: a3 :: a4 :: l).set 4 v = a0 :: a1 :: a2 :: a3 :: v :: l := rfl
theorem gt5 {a0 a1 a2 a3 a4 a5 : Option V} {l : Loc} : (a0 :: a1 :: a2 :: a3 :: a4 :: a5 :: l)[5]? = some a5 := rfl
theorem st5 {a0 a1 a2 a3 a4 a5 v : Option V} {l : Loc} : (a0 :: a1 :: a2 :: a3 :: a4 :: a5 :: l).set 5 v = a0 :: a1 :: a2 :: a3 :: a4 :: v :: l := rfl
theorem gt6 {a0 a1 a2 a3 a4 a5 a6 : Option V} {l : Loc} : (a0 :: a1 :: a2 :: a3 :: a4 :: a5 :: a6 :: l)[6]? = some a6 := rfl
theorem st6 {a0 a1 a2 a3 a4 a5 a6 v : Option V} {l : Loc} : (a0 :: a1 :: a2 :: a3 :: a4 :: a5 :: a6 :: l).set 6 v = a0 :: a1 :: a2 :: a3 :: a4 :: a5 :: v :: l := rfl
theorem gt7 {a0 a1 a2 a3 a4 a5 a6 a7 : Option V} {l : Loc} : (a0 :: a1 :: a2 :: a3 :: a4 :: a5 :: a6 :: a7 :: l)[7]? = some a7 := rfl
theorem st7 {a0 a1 a2 a3 a4 a5 a6 a7 v : Option V} {l : Loc} : (a0 :: a1 :: a2 :: a3 :: a4 :: a5 :: a6 :: a7 :: l).set 7 v = a0 :: a1 :: a2 :: a3 :: a4 :: a5 :: a6 :: v :: l := rfl
theorem gt8 {a0 a1 a2 a3 a4 a5 a6 a7 a8 : Option V} {l : Loc} : (a0 :: a1 :: a2 :: a3 :: a4 :: a5 :: a6 :: a7 :: a8 :: l)[8]? = some a8 := rfl
theorem st8 {a0 a1 a2 a3 a4 a5 a6 a7 a8 v : Option V} {l : Loc} : (a0 :: a1 :: a2 :: a3 :: a4 :: a5 :: a6 :: a7 :: a8 :: l).set 8 v = a0 :: a1 :: a2 :: a3 :: a4 :: a5 :: a6 :: a7 :: v :: l := rfl
theorem gt9 {a0 a1 a2 a3 a4 a5 a6 a7 a8 a9 : Option V} {l : Loc} : (a0 :: a1 :: a2 :: a3 :: a4 :: a5 :: a6 :: a7 :: a8 :: a9 :: l)[9]? = some a9 := rfl
theorem st9 {a0 a1 a2 a3 a4 a5 a6 a7 a8 a9 v : Option V} {l : Loc} : (a0 :: a1 :: a2 :: a3 :: a4 :: a5 :: a6 :: a7 :: a8 :: a9 :: l).set 9 v = a0 :: a1 :: a2 :: a3 :: a4 :: a5 :: a6 :: a7 :: a8 :: v :: l := rfl
theorem gt10 {a0 a1 a2 a3 a4 a5 a6 a7 a8 a9 a10 : Option V} {l : Loc} : (a0 :: a1 :: a2 :: a3 :: a4 :: a5 :: a6 :: a7 :: a8 :: a9 :: a10 :: l)[10]? = some a10 := rfl
theorem st10 {a0 a1 a2 a3 a4 a5 a6 a7 a8 a9 a10 v : Option V} {l : Loc} : (a0 :: a1 :: a2 :: a3 :: a4 :: a5 :: a6 :: a7 :: a8 :: a9 :: a10 :: l).set 10 v = a0 :: a1 :: a2 :: a3 :: a4 :: a5 :: a6 :: a7 :: a8 :: a9 :: v :: l := rfl
theorem gt11 {a0 a1 a2 a3 a4 a5 a6 a7 a8 a9 a10 a11 : Option V} {l : Loc} : (a0 :: a1 :: a2 :: a3 :: a4 :: a5 :: a6 :: a7 :: a8 :: a9 :: a10 :: a11 :: l)[11]? = some a11 := rfl
theorem st11 {a0 a1 a2 a3 a4 a5 a6 a7 a8 a9 a10 a11 v : Option V} {l : Loc} : (a0 :: a1 :: a2 :: a3 :: a4 :: a5 :: a6 :: a7 :: a8 :: a9 :: a10 :: a11 :: l).set 11 v = a0 :: a1 :: a2 :: a3 :: a4 :: a5 :: a6 :: a7 :: a8 :: a9 :: a10 :: v :: l := rfl
theorem gt12 {a0 a1 a2 a3 a4 a5 a6 a7 a8 a9 a10 a11 a12 : Option V} {l : Loc} : (a0 :: a1 :: a2 :: a3 :: a4 :: a5 :: a6 :: a7 :: a8 :: a9 :: a10 :: a11 :: a12 :: l)[12]? = some a12 := rfl
theorem st12 {a0 a1 a2 a3 a4 a5 a6 a7 a8 a9 a10 a11 a12 v : Option V} {l : Loc} : (a0 :: a1 :: a2 :: a3 :: a4 :: a5 :: a6 :: a7 :: a8 :: a9 :: a10 :: a11 :: a12 :: l).set 12 v = a0 :: a1 :: a2 :: a3 :: a4 :: a5 :: a6 :: a7 :: a8 :: a9 :: a10 :: a11 :: v :: l := rfl
theorem gt13 {a0 a1 a2 a3 a4 a5 a6 a7 a8 a9 a10 a11 a12 a13 : Option V} {l : Loc} : (a0 :: a1 :: a2 :: a3 :: a4 :: a5 :: a6 :: a7 :: a8 :: a9 :: a10 :: a11 :: a12 :: a13 :: l)[13]? = some a13 := rfl
theorem st13 {a0 a1 a2 a3 a4 a5 a6 a7 a8 a9 a10 a11 a12 a13 v : Option V} {l : Loc} : (a0 :: a1 :: a2 :: a3 :: a4 :: a5 :: a6 :: a7 :: a8 :: a9 :: a10 :: a11 :: a12 :: a13 :: l).set 13 v = a0 :: a1 :: a2 :: a3 :: a4 :: a5 :: a6 :: a7 :: a8 :: a9 :: a10 :: a11 :: a12 :: v :: l := rfl
theorem gt14 {a0 a1 a2 a3 a4 a5 a6 a7 a8 a9 a10 a11 a12 a13 a14 : Option V} {l : Loc} : (a0 :: a1 :: a2 :: a3 :: a4 :: a5 :: a6 :: a7 :: a8 :: a9 :: a10 :: a11 :: a12 :: a13 :: a14 :: l)[14]? = some a14 := rfl
theorem st14 {a0 a1 a2 a3 a4 a5 a6 a7 a8 a9 a10 a11 a12 a13 a14 v : Option V} {l : Loc} : (a0 :: a1 :: a2 :: a3 :: a4 :: a5 :: a6 :: a7 :: a8 :: a9 :: a10 :: a11 :: a12 :: a13 :: a14 :: l).set 14 v = a0 :: a1 :: a2 :: a3 :: a4 :: a5 :: a6 :: a7 :: a8 :: a9 :: a10 :: a11 :: a12 :: a13 :: v :: l := rfl
theorem gt15 {a0 a1 a2 a3 a4 a5 a6 a7 a8 a9 a10 a11 a12 a13 a14 a15 : Option V} {l : Loc} : (a0 :: a1 :: a2 :: a3 :: a4 :: a5 :: a6 :: a7 :: a8 :: a9 :: a10 :: a11 :: a12 :: a13 :: a14 :: a15 :: l)[15]? = some a15 := rfl
theorem st15 {a0 a1 a2 a3 a4 a5 a6 a7 a8 a9 a10 a11 a12 a13 a14 a15 v : Option V} {l : Loc} : (a0 :: a1 :: a2 :: a3 :: a4 :: a5 :: a6 :: a7 :: a8 :: a9 :: a10 :: a11 :: a12 :: a13 :: a14 :: a15 :: l).set 15 v = a0 :: a1 :: a2 :: a3 :: a4 :: a5 :: a6 :: a7 :: a8 :: a9 :: a10 :: a11 :: a12 :: a13 :: a14 :: v :: l := rfl
theorem gt16 {a0 a1 a2 a3 a4 a5 a6 a7 a8 a9 a10 a11 a12 a13 a14 a15 a16 : Option V} {l : Loc} : (a0 :: a1 :: a2 :: a3 :: a4 :: a5 :: a6 :: a7 :: a8 :: a9 :: a10 :: a11 :: a12 :: a13 :: a14 :: a15 :: a16 :: l)[16]? = some a16 := rfl
theorem st16 {a0 a1 a2 a3 a4 a5 a6 a7 a8 a9 a10 a11 a12 a13 a14 a15 a16 v : Option V} {l : Loc} : (a0 :: a1 :: a2 :: a3 :: a4 :: a5 :: a6 :: a7 :: a8 :: a9 :: a10 :: a11 :: a12 :: a13 :: a14 :: a15 :: a16 :: l).set 16 v = a0 :: a1 :: a2 :: a3 :: a4 :: a5 :: a6 :: a7 :: a8 :: a9 :: a10 :: a11 :: a12 :: a13 :: a14 :: a15 :: v :: l := rfl
theorem gt17 {a0 a1 a2 a3 a4 a5 a6 a7 a8 a9 a10 a11 a12 a13 a14 a15 a16 a17 : Option V} {l : Loc} : (a0 :: a1 :: a2 :: a3 :: a4 :: a5 :: a6 :: a7 :: a8 :: a9 :: a10 :: a11 :: a12 :: a13 :: a14 :: a15 :: a16 :: a17 :: l)[17]? = some a17 := rfl
theorem st17 {a0 a1 a2 a3 a4 a5 a6 a7 a8 a9 a10 a11 a12 a13 a14 a15 a16 a17 v : Option V} {l : Loc} : (a0 :: a1 :: a2 :: a3 :: a4 :: a5 :: a6 :: a7 :: a8 :: a9 :: a10 :: a11 :: a12 :: a13 :: a14 :: a15 :: a16 :: a17 :: l).set 17 v = a0 :: a1 :: a2 :: a3 :: a4 :: a5 :: a6 :: a7 :: a8 :: a9 :: a10 :: a11 :: a12 :: a13 :: a14 :: a15 :: a16 :: v :: l := rfl
theorem gt18 {a0 a1 a2 a3 a4 a5 a6 a7 a8 a9 a10 a11 a12 a13 a14 a15 a16 a17 a18 : Option V} {l : Loc} : (a0 :: a1 :: a2 :: a3 :: a4 :: a5 :: a6 :: a7 :: a8 :: a9 :: a10 :: a11 :: a12 :: a13 :: a14 :: a15 :: a16 :: a17 :: a18 :: l)[18]? = some a18 := rfl
theorem st18 {a0 a1 a2 a3 a4 a5 a6 a7 a8 a9 a10 a11 a12 a13 a14 a15 a16 a17 a18 v : Option V} {l : Loc} : (a0 :: a1 :: a2 :: a3 :: a4 :: a5 :: a6 :: a7 :: a8 :: a9 :: a10 :: a11 :: a12 :: a13 :: a14 :: a15 :: a16 :: a17 :: a18 :: l).set 18 v = a0 :: a1 :: a2 :: a3 :: a4 :: a5 :: a6 :: a7 :: a8 :: a9 :: a10 :: a11 :: a12 :: a13 :: a14 :: a15 :: a16 :: a17 :: v :: l := rfl
theorem gt19 {a0 a1 a2 a3 a4 a5 a6 a7 a8 a9 a10 a11 a12 a13 a14 a15 a16 a17 a18 a19 : Option V} {l : Loc} : (a0 :: a1 :: a2 :: a3 :: a4 :: a5 :: a6 :: a7 :: a8 :: a9 :: a10 :: a11 :: a12 :: a13 :: a14 :: a15 :: a16 :: a17 :: a18 :: a19 :: l)[19]? = some a19 := rfl
theorem st19 {a0 a1 a2 a3 a4 a5 a6 a7 a8 a9 a10 a11 a12 a13 a14 a15 a16 a17 a18 a19 v : Option V} {l : Loc} : (a0 :: a1 :: a2 :: a3 :: a4 :: a5 :: a6 :: a7 :: a8 :: a9 :: a10 :: a11 :: a12 :: a13 :: a14 :: a15 :: a16 :: a17 :: a18 :: a19 :: l).set 19 v = a0 :: a1 :: a2 :: a3 :: a4 :: a5 :: a6 :: a7 :: a8 :: a9 :: a10 :: a11 :: a12 :: a13 :: a14 :: a15 :: a16 :: a17 :: a18 :: v :: l := rfl
theorem gt20 {a0 a1 a2 a3 a4 a5 a6 a7 a8 a9 a10 a11 a12 a13 a14 a15 a16 a17 a18 a19 a20 : Option V} {l : Loc} : (a0 :: a1 :: a2 :: a3 :: a4 :: a5 :: a6 :: a7 :: a8 :: a9 :: a10 :: a11 :: a12 :: a13 :: a14 :: a15 :: a16 :: a17 :: a18 :: a19 :: a20 :: l)[20]? = some a20 := rfl
theorem st20 {a0 a1 a2 a3 a4 a5 a6 a7 a8 a9 a10 a11 a12 a13 a14 a15 a16 a17 a18 a19 a20 v : Option V} {l : Loc} : (a0 :: a1 :: a2 :: a3 :: a4 :: a5 :: a6 :: a7 :: a8 :: a9 :: a10 :: a11 :: a12 :: a13 :: a14 :: a15 :: a16 :: a17 :: a18 :: a19 :: a20 :: l).set 20 v = a0 :: a1 :: a2 :: a3 :: a4 :: a5 :: a6 :: a7 :: a8 :: a9 :: a10 :: a11 :: a12 :: a13 :: a14 :: a15 :: a16 :: a17 :: a18 :: a19 :: v :: l := rfl
/-! ### stepping -/
section
variable {α β : Type} {σ σ' : Store} {ℓ : Loc} {P : Prog} {hd : Bool} {C : V → List V → Store → Out V} {C' : Bool → V → List V → Store → Out V} {n : Nat}
theorem bind_ok (a : α) (k : α → Store → Out β) : (Out.ok a σ).bind k = k a σ := rfl
theorem bindS_ok (a : α) (k : α → Store → SOut) : (Out.ok a σ).bindS ℓ k = k a σ := rfl
theorem ofOpt_some (a : α) : Out.ofOpt σ (some a) = .ok a σ := rfl
theorem seq_next (k : Loc → Store → SOut) : (SOut.next ℓ σ).seq k = k ℓ σ := rfl
theorem seq_ret (v : V) (k : Loc → Store → SOut) : (SOut.ret v σ).seq k = .ret v σ := rfl
theorem bin_add (a b : Int) : binV .add (.int a) (.int b) σ = .ok (.int (a + b)) σ := rfl
theorem bin_sub (a b : Int) : binV .sub (.int a) (.int b) σ = .ok (.int (a - b)) σ := rfl
theorem bin_mul (a b : Int) (h : mulOk a b = true) : binV .mul (.int a) (.int b) σ = .ok (.int (a * b)) σ := by simp [binV, intP, binI, h]
theorem bin_fdiv (a b : Int) (h : 0 < b) (h' : b < 1073741824) : binV .fdiv (.int a) (.int b) σ = .ok (.int (a / b)) σ := by simp [binV, intP, binI, h, h']
theorem bin_mod (a b : Int) (h : 0 < b) : binV .mod (.int a) (.int b) σ = .ok (.int (a % b)) σ := by simp [binV, intP, binI, h]
theorem bin_pow9 : binV .pow (.int 10) (.int 9) σ = .ok (.int 1000000000) σ := by simp [binV, intP, binI]
theorem bin_pow6 : binV .pow (.int 10) (.int 6) σ = .ok (.int 1000000) σ := by simp [binV, intP, binI]
theorem cmp_lt (a b : Int) : cmpV P .lt (.int a) (.int b) σ = some (decide (a < b)) := rfl
theorem cmp_le (a b : Int) : cmpV P .le (.int a) (.int b) σ = some (decide (a ≤ b)) := rfl
theorem cmp_gt (a b : Int) : cmpV P .gt (.int a) (.int b) σ = some (decide (b < a)) := rfl
theorem cmp_ge (a b : Int) : cmpV P .ge (.int a) (.int b) σ = some (decide (b ≤ a)) := rfl
theorem beq_dec (a b : Int) : (a == b) = decide (a = b) := by
  rw [Bool.eq_iff_iff]; simp
theorem veq_int (a b : Int) : veq σ (.int a) (.int b) = some (decide (a = b)) := by
  simp [veq, d_none, d_bool, d_int, d_tup, PyData.eqv, beq_dec]
theorem cmp_eq (a b : Int) : cmpV P .eq (.int a) (.int b) σ = some (decide (a = b)) := veq_int (σ := σ) a b
theorem cmp_ne (a b : Int) : cmpV P .ne (.int a) (.int b) σ = some (!decide (a = b)) := by simp [cmpV, veq_int]
theorem truth_bool (b : Bool) : truthV (.bool b) = some b := rfl
theorem callN_fn {f : Str} {d : FnD} {as : List V} (hf : P.fn f = some d) : callN P (n + 1) hd (.fn f) as σ = runBody P (callN P n) d hd as σ := by simp [callN, hf]
theorem callN_bi {b : String} {as : List V} : callN P (n + 1) hd (.bi b) as σ = prim P hd b as σ := rfl
theorem evS_nil : evEs P hd C [] ℓ σ = .ok [] σ := rfl
theorem rb_ret {d : FnD} {as : List V} {v : V} (hl : as.length = d.np) (h : exSs P C' d.body hd (as.map some ++ List.replicate (d.nl - d.np) none) σ = .ret v σ') : runBody P C' d hd as σ = .ok v σ' := by
  unfold runBody; rw [if_pos hl, h]
theorem rb_next {d : FnD} {as : List V} {ℓ' : Loc} (hl : as.length = d.np) (h : exSs P C' d.body hd (as.map some ++ List.replicate (d.nl - d.np) none) σ = .next ℓ' σ') : runBody P C' d hd as σ = .ok .none σ' := by
  unfold runBody; rw [if_pos hl, h]
end

/-! ### stores -/
structure Ext (σ σ' : Store) : Prop where
  le : σ.length ≤ σ'.length
  get : ∀ k, k < σ.length → σ'[k]? = σ[k]?
theorem Ext.refl (σ : Store) : Ext σ σ := ⟨Nat.le_refl _, fun _ _ => rfl⟩
theorem Ext.trans {a b c : Store} (x : Ext a b) (y : Ext b c) : Ext a c := ⟨Nat.le_trans x.le y.le, fun k h => (y.get k (Nat.lt_of_lt_of_le h x.le)).trans (x.get k h)⟩
theorem Ext.append (σ l : Store) : Ext σ (σ ++ l) := ⟨by simp, fun k h => List.getElem?_append_left h⟩
theorem Ext.set {σ σ' : Store} (x : Ext σ σ') {n : Nat} (h : σ.length ≤ n) (c : Cell) : Ext σ (σ'.set n c) := ⟨by simpa using x.le, fun k hk => by rw [List.getElem?_set_ne (by omega)]; exact x.get k hk⟩
theorem Ext.some {σ σ' : Store} (x : Ext σ σ') {n : Nat} {c : Cell} (h : σ[n]? = some c) : σ'[n]? = some c := by
  rw [x.get n (List.getElem?_eq_some_iff.mp h).1]; exact h
theorem set_get {σ : Store} {n : Nat} {c d : Cell} (h : σ[n]? = some c) : (σ.set n d)[n]? = some d := by
  have := (List.getElem?_eq_some_iff.mp h).1
  simp [this]
theorem app_get (σ : Store) (c : Cell) : (σ ++ [c])[σ.length]? = some c := by simp
section
variable {α β : Type} {σ σ' : Store} {ℓ : Loc} {P : Prog} {hd : Bool} {C : V → List V → Store → Out V} {n : Nat}
theorem sub_list {l : List V} {i : Int} (h : σ[n]? = some (.list l)) : subV P (.loc n) (.int i) σ = idx l i := by simp [subV, h]
theorem idx_nat {l : List V} {k : Nat} (h : k < 4611686018427387904) : idx l (k : Int) = l[k]? := by
  have : (k : Int) < 4611686018427387904 := by omega
  simp [idx, this]
theorem sub_t0 {a : V} {l : List V} : subV P (.tup (a :: l)) (.int 0) σ = some a := by simp [subV, idx]
theorem sub_t1 {a b : V} {l : List V} : subV P (.tup (a :: b :: l)) (.int 1) σ = some b := by simp [subV, idx]
theorem idx_ints {l : List Int} {i : Int} (h0 : 0 ≤ i) (h1 : i < l.length) (h : i < 4611686018427387904) : idx (l.map .int) i = some (.int (l.getD i.toNat 0)) := by
  have : i.toNat < l.length := by omega
  simp [idx, h0, h, this]
theorem isi_bi {a : Bool} {m : Nat} : callN P (m + 1) hd (.bi "isinstance") [.bool a, .ty "int"] σ = .ok (.bool true) σ := (p_isa (P := P) (hd := hd)).trans rfl
theorem isi_bb {a : Bool} {m : Nat} : callN P (m + 1) hd (.bi "isinstance") [.bool a, .ty "bool"] σ = .ok (.bool true) σ := (p_isa (P := P) (hd := hd)).trans rfl
theorem isi_si {a : List Nat} {m : Nat} : callN P (m + 1) hd (.bi "isinstance") [.str a, .ty "int"] σ = .ok (.bool false) σ := (p_isa (P := P) (hd := hd)).trans rfl
theorem isi_ni {m : Nat} : callN P (m + 1) hd (.bi "isinstance") [.none, .ty "int"] σ = .ok (.bool false) σ := (p_isa (P := P) (hd := hd)).trans rfl
theorem isi_tt {l : List V} {m : Nat} : callN P (m + 1) hd (.bi "isinstance") [.tup l, .ty "tuple"] σ = .ok (.bool true) σ := (p_isa (P := P) (hd := hd)).trans rfl
theorem isi_ii {a : Int} {m : Nat} : callN P (m + 1) hd (.bi "isinstance") [.int a, .ty "int"] σ = .ok (.bool true) σ := (p_isa (P := P) (hd := hd)).trans rfl
theorem isi_ib {a : Int} {m : Nat} : callN P (m + 1) hd (.bi "isinstance") [.int a, .ty "bool"] σ = .ok (.bool false) σ := (p_isa (P := P) (hd := hd)).trans rfl
theorem is_none {a : V} : cmpV P .is a .none σ = some (isNoneV a) := rfl
end

noncomputable def lookV (o : Option (Option V)) (σ : Store) : Out V := match o with | some (some v) => .ok v σ | _ => .bad
noncomputable def andV (P : Prog) (hd : Bool) (C : V → List V → Store → Out V) (es : List E) (ℓ : Loc) (v : V) (σ : Store) : Out V := match truthV v with | some true => evAnd P hd C es ℓ σ | some false => .ok v σ | _ => .bad
noncomputable def orV (P : Prog) (hd : Bool) (C : V → List V → Store → Out V) (es : List E) (ℓ : Loc) (v : V) (σ : Store) : Out V := match truthV v with | some true => .ok v σ | some false => evOr P hd C es ℓ σ | _ => .bad
section
variable {P : Prog} {hd : Bool} {C : V → List V → Store → Out V} {ℓ : Loc} {σ : Store}
theorem ev_int {i : Int} : evE P hd C (.int i) ℓ σ = .ok (.int i) σ := rfl
theorem ev_boolc {b : Bool} : evE P hd C (.bool b) ℓ σ = .ok (.bool b) σ := rfl
theorem ev_nonec : evE P hd C .none ℓ σ = .ok .none σ := rfl
theorem ev_var {i : Nat} : evE P hd C (.var i) ℓ σ = lookV ℓ[i]? σ := rfl
theorem ev_glob {x : Str} : evE P hd C (.glob x) ℓ σ = .ofOpt σ (P.glob x) := rfl
theorem ev_bin {o : Bop} {a b : E} : evE P hd C (.bin o a b) ℓ σ = (evE P hd C a ℓ σ).bind fun va σ => (evE P hd C b ℓ σ).bind fun vb σ => binV o va vb σ := rfl
theorem ev_neg {a : E} : evE P hd C (.neg a) ℓ σ = (evE P hd C a ℓ σ).bind fun v σ => match v with | .int i => .ok (.int (-i)) σ | _ => .bad := rfl
theorem ev_not {a : E} : evE P hd C (.not a) ℓ σ = (evE P hd C a ℓ σ).bind fun v σ => match truthV v with | some b => .ok (.bool (!b)) σ | _ => .bad := rfl
theorem ev_and {l : List E} : evE P hd C (.and l) ℓ σ = evAnd P hd C l ℓ σ := rfl
theorem ev_or {l : List E} : evE P hd C (.or l) ℓ σ = evOr P hd C l ℓ σ := rfl
theorem ep_cmp {o : Cop} {a b : E} : evE P hd C (.cmp o a b) ℓ σ = (evE P hd C a ℓ σ).bind fun va σ => (evE P hd C b ℓ σ).bind fun vb σ => (Out.ofOpt σ (cmpV P o va vb σ)).bind fun r σ => .ok (.bool r) σ := rfl
theorem ev_cmp2 {o p : Cop} {a b c : E} : evE P hd C (.cmp2 o p a b c) ℓ σ = (evE P hd C a ℓ σ).bind fun va σ => (evE P hd C b ℓ σ).bind fun vb σ => (Out.ofOpt σ (cmpV P o va vb σ)).bind fun r σ =>
      if r then (evE P hd C c ℓ σ).bind fun vc σ => (Out.ofOpt σ (cmpV P p vb vc σ)).bind fun r σ => .ok (.bool r) σ else .ok (.bool false) σ := rfl
theorem ev_call {f : E} {as : List E} : evE P hd C (.call f as) ℓ σ = (evE P hd C f ℓ σ).bind fun vf σ => (evEs P hd C as ℓ σ).bind fun vs σ => C vf vs σ := rfl
theorem ev_sub {o i : E} : evE P hd C (.sub o i) ℓ σ = (evE P hd C o ℓ σ).bind fun vo σ => (evE P hd C i ℓ σ).bind fun vi σ => .ofOpt σ (subV P vo vi σ) := rfl
theorem ev_list {es : List E} : evE P hd C (.list es) ℓ σ = (evEs P hd C es ℓ σ).bind fun vs σ => .ok (.loc σ.length) (σ ++ [.list vs]) := rfl
theorem ev_tup {es : List E} : evE P hd C (.tup es) ℓ σ = (evEs P hd C es ℓ σ).bind fun vs σ => .ok (.tup vs) σ := rfl
theorem es_nil : evEs P hd C [] ℓ σ = .ok [] σ := rfl
theorem es_cons {e : E} {es : List E} : evEs P hd C (e :: es) ℓ σ = (evE P hd C e ℓ σ).bind fun v σ => (evEs P hd C es ℓ σ).bind fun vs σ => .ok (v :: vs) σ := rfl
theorem and_one {e : E} : evAnd P hd C [e] ℓ σ = evE P hd C e ℓ σ := rfl
theorem and_cons {e f : E} {es : List E} : evAnd P hd C (e :: f :: es) ℓ σ = (evE P hd C e ℓ σ).bind fun v σ => andV P hd C (f :: es) ℓ v σ := rfl
theorem or_one {e : E} : evOr P hd C [e] ℓ σ = evE P hd C e ℓ σ := rfl
theorem or_cons {e f : E} {es : List E} : evOr P hd C (e :: f :: es) ℓ σ = (evE P hd C e ℓ σ).bind fun v σ => orV P hd C (f :: es) ℓ v σ := rfl
theorem eb_def {e : E} : evB P hd C e ℓ σ = (evE P hd C e ℓ σ).bind fun v σ => .ofOpt σ (truthV v) := by unfold evB; exact Eq.trans rfl rfl
theorem look_some {v : V} : lookV (some (some v)) σ = .ok v σ := rfl
theorem andV_t {es : List E} : andV P hd C es ℓ (.bool true) σ = evAnd P hd C es ℓ σ := rfl
theorem andV_f {es : List E} : andV P hd C es ℓ (.bool false) σ = .ok (.bool false) σ := rfl
theorem andV_d {es : List E} {p : Prop} [Decidable p] : andV P hd C es ℓ (.bool (decide p)) σ = if p then evAnd P hd C es ℓ σ else .ok (.bool false) σ := by by_cases h : p <;> simp [h, andV, truthV]
theorem orV_t {es : List E} : orV P hd C es ℓ (.bool true) σ = .ok (.bool true) σ := rfl
theorem orV_f {es : List E} : orV P hd C es ℓ (.bool false) σ = evOr P hd C es ℓ σ := rfl
theorem orV_d {es : List E} {p : Prop} [Decidable p] : orV P hd C es ℓ (.bool (decide p)) σ = if p then .ok (.bool true) σ else evOr P hd C es ℓ σ := by by_cases h : p <;> simp [h, orV, truthV]
theorem orV_n {es : List E} {b : Bool} : orV P hd C es ℓ (.bool (!b)) σ = if b then evOr P hd C es ℓ σ else .ok (.bool true) σ := by cases b <;> rfl
end

/-! ### statements, one by one -/
section
variable {P : Prog} {C : Bool → V → List V → Store → Out V} {hd : Bool} {ℓ : Loc} {σ : Store}
noncomputable def contS (P : Prog) (C : Bool → V → List V → Store → Out V) (hd : Bool) (ss : List S) (o : SOut) : SOut := o.seq fun ℓ σ => exSs P C ss hd ℓ σ
noncomputable def bodyF (P : Prog) (C : Bool → V → List V → Store → Out V) (hd : Bool) (b : List S) : Loc → Store → SOut := fun ℓ σ => exSs P C b hd ℓ σ
noncomputable def condF (P : Prog) (C : Bool → V → List V → Store → Out V) (hd : Bool) (c : E) : Loc → Store → Out Bool := fun ℓ σ => evB P hd (C hd) c ℓ σ
noncomputable def iteS (P : Prog) (C : Bool → V → List V → Store → Out V) (hd : Bool) (a b : List S) (ℓ : Loc) (o : Out Bool) : SOut := o.bindS ℓ fun r σ => if r then exSs P C a hd ℓ σ else exSs P C b hd ℓ σ
theorem ex_nil : exSs P C [] hd ℓ σ = .next ℓ σ := rfl
theorem ex_cons {s : S} {ss : List S} : exSs P C (s :: ss) hd ℓ σ = contS P C hd ss (exS P C s hd ℓ σ) := rfl
theorem cont_next {ss : List S} : contS P C hd ss (.next ℓ σ) = exSs P C ss hd ℓ σ := rfl
theorem cont_ret {ss : List S} {v : V} : contS P C hd ss (.ret v σ) = .ret v σ := rfl
theorem bind_exc {α β : Type} {c : Str} {k : α → Store → Out β} : (Out.exc c σ : Out α).bind k = .exc c σ := rfl
theorem bindS_exc {α : Type} {c : Str} {k : α → Store → SOut} : (Out.exc c σ : Out α).bindS ℓ k = .exc c ℓ σ := rfl
theorem cont_exc {ss : List S} {c : Str} : contS P C hd ss (.exc c ℓ σ) = .exc c ℓ σ := rfl
theorem ite_exc {a b : List S} {c : Str} : iteS P C hd a b ℓ (.exc c σ) = .exc c ℓ σ := rfl
theorem ex_raise {c : Str} {m : List Nat} (h : P.exc c = true) : exS P C (.raise c m) false ℓ σ = .exc c ℓ σ := by rw [q_raise, if_neg (by decide), if_pos h]
noncomputable def tryS (P : Prog) (C : Bool → V → List V → Store → Out V) (d : Str) (h : List S) (o : SOut) : SOut := match o with
    | .exc c ℓ' σ' => if catches P c d then (match exSs P C h true ℓ' σ' with
      | .ret v σ'' => .ret v σ''
      | _ => .bad) else .bad
    | .next ℓ' σ' => .next ℓ' σ'
    | .ret v σ' => .ret v σ'
    | _ => .bad
theorem ex_try {b h : List S} {d : Str} : exS P C (.try b d h) false ℓ σ = tryS P C d h (exSs P C b false ℓ σ) := by rw [q_try, if_neg (by decide)]; rfl
theorem try_next {h : List S} {d : Str} : tryS P C d h (.next ℓ σ) = .next ℓ σ := rfl
theorem try_exc {h : List S} {c d : Str} {v : V} {σ' : Store} (hc : catches P c d = true) (he : exSs P C h true ℓ σ = .ret v σ') : tryS P C d h (.exc c ℓ σ) = .ret v σ' := by
  show (if catches P c d then _ else _) = _
  rw [if_pos hc, he]
theorem ex_asg {t : AT} {e : E} : exS P C (.asg t e) hd ℓ σ = (evE P hd (C hd) e ℓ σ).bindS ℓ fun v σ => asgT P hd (C hd) t v ℓ σ := rfl
theorem ex_expr {e : E} : exS P C (.expr e) hd ℓ σ = (evE P hd (C hd) e ℓ σ).bindS ℓ fun v σ => .next ℓ σ := rfl
theorem ex_ret {e : E} : exS P C (.ret e) hd ℓ σ = (evE P hd (C hd) e ℓ σ).bindS ℓ fun v σ => .ret v σ := rfl
theorem ex_ite {c : E} {a b : List S} : exS P C (.ite c a b) hd ℓ σ = iteS P C hd a b ℓ (evB P hd (C hd) c ℓ σ) := rfl
theorem ite_t {a b : List S} : iteS P C hd a b ℓ (.ok true σ) = exSs P C a hd ℓ σ := rfl
theorem ite_f {a b : List S} : iteS P C hd a b ℓ (.ok false σ) = exSs P C b hd ℓ σ := rfl
theorem ite_d {a b : List S} {p : Prop} [Decidable p] : iteS P C hd a b ℓ (.ok (decide p) σ) = if p then exSs P C a hd ℓ σ else exSs P C b hd ℓ σ := by
  by_cases h : p <;> simp [h, iteS, Out.bindS]
theorem asg_name {i : Nat} {v : V} {C : V → List V → Store → Out V} : asgT P hd C (.name i) v ℓ σ = .next (ℓ.set i (some v)) σ := rfl
theorem bodyF_eq {b : List S} : bodyF P C hd b ℓ σ = exSs P C b hd ℓ σ := rfl
theorem ex_loop {c : E} {b : List S} : exS P C (.loop c b) false ℓ σ = whileLoop (condF P C false c) (bodyF P C false b) W ℓ σ := by rw [q_loop, if_neg (by decide)]; unfold condF bodyF; exact Eq.refl _
theorem condF_eq {c : E} : condF P C hd c ℓ σ = evB P hd (C hd) c ℓ σ := rfl
theorem src_of {e : E} {C : V → List V → Store → Out V} : evSrc P hd C (.of e) ℓ σ = (evE P hd C e ℓ σ).bind fun v σ => .ofOpt σ (srcOf P v σ) := rfl
end
end Mine
end

section
set_option tactic.hygienic false
set_option bootstrap.genMatcherCode false
set_option linter.unusedVariables false
namespace Mine
open PySem
theorem while_inv {c : Loc → Store → Out Bool} {body : Loc → Store → SOut} {I : Loc → Store → Prop} {D : Loc → Store → Prop} {m : Loc → Store → Nat}
    (step : ∀ ℓ σ, I ℓ σ → (∃ σ', c ℓ σ = .ok false σ' ∧ D ℓ σ') ∨ (∃ σ1, c ℓ σ = .ok true σ1 ∧ ∃ ℓ' σ', (body ℓ σ1 = .next ℓ' σ' ∨ False) ∧ I ℓ' σ' ∧ m ℓ' σ' < m ℓ σ)) :
    ∀ (K : Nat) (ℓ : Loc) (σ : Store), m ℓ σ < K → I ℓ σ → ∃ ℓ' σ', whileLoop c body K ℓ σ = .next ℓ' σ' ∧ D ℓ' σ' := by
  intro K
  induction K with
  | zero => intro ℓ σ h1; omega
  | succ K ih =>
    intro ℓ σ h1 hi
    unfold whileLoop
    rcases step ℓ σ hi with ⟨σ', e, d⟩ | ⟨σ1, e, ℓ', σ', hb, hi', hm⟩
    · rw [e]; exact ⟨ℓ, σ', rfl, d⟩
    · rw [e]
      dsimp only
      obtain ⟨ℓ2, σ2, h3, h4⟩ := ih ℓ' σ' (by omega) hi'
      refine ⟨ℓ2, σ2, ?_, h4⟩
      rcases hb with hb | hb
      · rw [hb]; exact h3
      · exact hb.elim

end Mine
end

section
set_option tactic.hygienic false
set_option bootstrap.genMatcherCode false
set_option maxRecDepth 100000
set_option linter.unusedSimpArgs false
set_option maxHeartbeats 1000000
set_option linter.unusedVariables false
set_option linter.unusedSimpArgs false
namespace Mine
open PySem
noncomputable def zlawzcellzat : FnD := ⟨2, 3, [.ite (.cmp .lt (.var 1) (.call (.glob "len") [(.var 0)])) [.ret (.sub (.var 0) (.var 1))] [], .ret (.int (0))]⟩
noncomputable def zlawzwhole : FnD := ⟨1, 4, [.ret (.and [(.call (.glob "isinstance") [(.var 0), (.glob "int")]), (.not (.call (.glob "isinstance") [(.var 0), (.glob "bool")]))])]⟩
noncomputable def zlawzmix : FnD := ⟨2, 3, [.asg (.name 2) (.bin .mod (.bin .add (.bin .add (.bin .mul (.var 0) (.int (48271))) (.bin .mul (.var 1) (.int (69621)))) (.int (11))) (.int (1000003))), .ret (.bin .mod (.bin .add (.bin .add (.bin .mul (.var 2) (.var 2)) (.bin .mul (.int (7)) (.var 2))) (.var 1)) (.int (999983)))]⟩

noncomputable def cell (P : Prog) (k : Nat) : Int := (P.ns[k]?).getD 0
noncomputable def mix (a k : Int) : Int := ((((a * 48271 + k * 69621 + 11) % 1000003) * ((a * 48271 + k * 69621 + 11) % 1000003) + 7 * ((a * 48271 + k * 69621 + 11) % 1000003)) + k) % 999983
abbrev pr (p : Int × Int) : V := .tup [.int p.1, .int p.2]
noncomputable def oV : Option (Int × Int) → V
  | none => .none
  | some p => pr p
noncomputable def phStep (day : Int) (acc : Option (Int × Int)) (p : Int × Int) : Option (Int × Int) := if p.1 ≤ day ∧ (∀ q, acc = some q → q.1 ≤ p.1) then some p else acc
noncomputable def ph (day : Int) (l : List (Int × Int)) : Option (Int × Int) := l.foldl (phStep day) none

section
variable {P : Prog} {n : Nat} {hd : Bool} {σ : Store}

theorem sp_len (hn : P.ns.length ≤ 63) : callN P (n + 1) hd (.bi "len") [.script] σ = .ok (.int P.ns.length) σ := by
  have : P.ns.length ≤ szL := by unfold szL; omega
  simp [callN_bi, p_len, pLen, this]
theorem sp_mix (hf : P.fn "_law_mix" = some zlawzmix) (a k : Int) : callN P (n + 1) hd (.fn "_law_mix") [.int a, .int k] σ = .ok (.int (mix a k)) σ := by
  rw [callN_fn hf]
  refine rb_ret rfl ?_
  simp [ex_nil, ex_cons, cont_next, cont_ret, ex_asg, ex_expr, ex_ret, ex_ite, ite_t, ite_f, ite_d, asg_name, src_of, ev_int, ev_boolc, ev_nonec, ev_var, ev_glob, ev_bin, ev_neg, ev_not, ev_and, ev_or, ep_cmp, ev_cmp2, ev_call, ev_sub, ev_list, ev_tup, es_nil, es_cons, and_one, and_cons, or_one, or_cons, eb_def, look_some, andV_t, andV_f, andV_d, orV_t, orV_f, orV_d, orV_n, bind_ok, bindS_ok, ofOpt_some, bin_add, bin_sub, bin_mul, bin_fdiv, bin_mod, bin_pow9, bin_pow6, cmp_lt, cmp_le, cmp_gt, cmp_ge, cmp_eq, cmp_ne, truth_bool, List.map_cons, List.map_nil, List.replicate, List.cons_append, List.nil_append, gt0, st0, gt1, st1, gt2, st2, gt3, st3, gt4, st4, gt5, st5, gt6, st6, gt7, st7, gt8, st8, gt9, st9, gt10, st10, gt11, st11, gt12, st12, gt13, st13, gt14, st14, gt15, st15, gt16, st16, gt17, st17, gt18, st18, gt19, st19, gt20, st20, zlawzmix, mulOk_ml, mulOk_r (b := 48271), mulOk_r (b := 69621), mulOk_l (a := 7), mix]
theorem sp_cell (hf : P.fn "_law_cell_at" = some zlawzcellzat) (hg : P.glob "len" = some (.bi "len")) (hn : P.ns.length ≤ 63) (k : Nat) (hk : k < 64) : callN P (n + 2) hd (.fn "_law_cell_at") [.script, .int k] σ = .ok (.int (cell P k)) σ := by
  rw [callN_fn hf]
  refine rb_ret rfl ?_
  simp -implicitDefEqProofs [ex_nil, ex_cons, cont_next, cont_ret, ex_asg, ex_expr, ex_ret, ex_ite, ite_t, ite_f, ite_d, asg_name, src_of, ev_int, ev_boolc, ev_nonec, ev_var, ev_glob, ev_bin, ev_neg, ev_not, ev_and, ev_or, ep_cmp, ev_cmp2, ev_call, ev_sub, ev_list, ev_tup, es_nil, es_cons, and_one, and_cons, or_one, or_cons, eb_def, look_some, andV_t, andV_f, andV_d, orV_t, orV_f, orV_d, orV_n, bind_ok, bindS_ok, ofOpt_some, bin_add, bin_sub, bin_mul, bin_fdiv, bin_mod, bin_pow9, bin_pow6, cmp_lt, cmp_le, cmp_gt, cmp_ge, cmp_eq, cmp_ne, truth_bool, List.map_cons, List.map_nil, List.replicate, List.cons_append, List.nil_append, gt0, st0, gt1, st1, gt2, st2, gt3, st3, gt4, st4, gt5, st5, gt6, st6, gt7, st7, gt8, st8, gt9, st9, gt10, st10, gt11, st11, gt12, st12, gt13, st13, gt14, st14, gt15, st15, gt16, st16, gt17, st17, gt18, st18, gt19, st19, gt20, st20, zlawzcellzat, hg, sp_len hn]
  by_cases h : k < P.ns.length
  · have : subV P .script (.int k) σ = some (.int (cell P k)) := by
      simp only [subV]
      rw [idx_nat (by omega)]
      simp [cell, h]
    simp -implicitDefEqProofs [h, this, ex_nil, ex_cons, cont_next, cont_ret, ex_asg, ex_expr, ex_ret, ex_ite, ite_t, ite_f, ite_d, asg_name, src_of, ev_int, ev_boolc, ev_nonec, ev_var, ev_glob, ev_bin, ev_neg, ev_not, ev_and, ev_or, ep_cmp, ev_cmp2, ev_call, ev_sub, ev_list, ev_tup, es_nil, es_cons, and_one, and_cons, or_one, or_cons, eb_def, look_some, andV_t, andV_f, andV_d, orV_t, orV_f, orV_d, orV_n, bind_ok, bindS_ok, ofOpt_some, bin_add, bin_sub, bin_mul, bin_fdiv, bin_mod, bin_pow9, bin_pow6, cmp_lt, cmp_le, cmp_gt, cmp_ge, cmp_eq, cmp_ne, truth_bool, List.map_cons, List.map_nil, List.replicate, List.cons_append, List.nil_append, gt0, st0, gt1, st1, gt2, st2, gt3, st3, gt4, st4, gt5, st5, gt6, st6, gt7, st7, gt8, st8, gt9, st9, gt10, st10, gt11, st11, gt12, st12, gt13, st13, gt14, st14, gt15, st15, gt16, st16, gt17, st17, gt18, st18, gt19, st19, gt20, st20]
  · simp -implicitDefEqProofs [h, ex_nil, ex_cons, cont_next, cont_ret, ex_asg, ex_expr, ex_ret, ex_ite, ite_t, ite_f, ite_d, asg_name, src_of, ev_int, ev_boolc, ev_nonec, ev_var, ev_glob, ev_bin, ev_neg, ev_not, ev_and, ev_or, ep_cmp, ev_cmp2, ev_call, ev_sub, ev_list, ev_tup, es_nil, es_cons, and_one, and_cons, or_one, or_cons, eb_def, look_some, andV_t, andV_f, andV_d, orV_t, orV_f, orV_d, orV_n, bind_ok, bindS_ok, ofOpt_some, bin_add, bin_sub, bin_mul, bin_fdiv, bin_mod, bin_pow9, bin_pow6, cmp_lt, cmp_le, cmp_gt, cmp_ge, cmp_eq, cmp_ne, truth_bool, List.map_cons, List.map_nil, List.replicate, List.cons_append, List.nil_append, gt0, st0, gt1, st1, gt2, st2, gt3, st3, gt4, st4, gt5, st5, gt6, st6, gt7, st7, gt8, st8, gt9, st9, gt10, st10, gt11, st11, gt12, st12, gt13, st13, gt14, st14, gt15, st15, gt16, st16, gt17, st17, gt18, st18, gt19, st19, gt20, st20, cell]
theorem oV_none {o : Option (Int × Int)} : isNoneV (oV o) = o.isNone := by cases o <;> rfl
end
end Mine
end

section
set_option tactic.hygienic false
set_option bootstrap.genMatcherCode false
set_option maxRecDepth 100000
set_option linter.unusedSimpArgs false
set_option maxHeartbeats 1000000
set_option linter.unusedVariables false
set_option linter.unusedSimpArgs false
namespace Mine
open PySem

/-! ### the calendar, in plain -/
noncomputable def leap (y : Int) : Int := if y % 4 = 0 ∧ (y % 100 ≠ 0 ∨ y % 400 = 0) then 1 else 0
noncomputable def mlen (y : Int) (m : Nat) : Int := match m with
  | 2 => 28 + leap y
  | 4 => 30
  | 6 => 30
  | 9 => 30
  | 11 => 30
  | _ => 31
noncomputable def preN (y : Int) : Nat → Int
  | 0 => 0
  | k + 1 => preN y k + mlen y (k + 1)
noncomputable def ys (y : Int) : Int := 365 * (y - 2000) + (y - 2000 + 3) / 4 - (y - 2000 + 99) / 100 + (y - 2000 + 399) / 400

theorem leap_01 (y : Int) : leap y = 0 ∨ leap y = 1 := by unfold leap; split <;> simp
theorem mlen_pos (y : Int) (m : Nat) : 28 ≤ mlen y m ∧ mlen y m ≤ 31 := by
  have := leap_01 y
  unfold mlen
  split <;> omega
theorem pre_mono {y : Int} : ∀ {a b : Nat}, a ≤ b → preN y a ≤ preN y b
  | a, b, h => by
    induction h with
    | refl => exact Int.le_refl _
    | @step m h ih => exact Int.le_trans ih (by show _ ≤ preN y m + mlen y (m + 1); have := mlen_pos y (m + 1); omega)
theorem pre12 (y : Int) : preN y 12 = 365 + leap y := by simp [preN, mlen]; omega
theorem dd1 {d : Int} (hd : 0 < d) (z : Int) : (z + 1 + (d - 1)) / d = (z + (d - 1)) / d + (if z % d = 0 then 1 else 0) := by
  have h := Int.emod_add_mul_ediv z d
  have r0 := Int.emod_nonneg z (Int.ne_of_gt hd)
  have r1 := Int.emod_lt_of_pos z hd
  have k : ∀ x, (x + d * (z / d)) / d = x / d + z / d := fun x => Int.add_mul_ediv_left x _ (Int.ne_of_gt hd)
  have k1 : ∀ x, (x + d) / d = x / d + 1 := fun x => by have := Int.add_mul_ediv_right x 1 (Int.ne_of_gt hd); rw [Int.one_mul] at this; exact this
  have z0 : ∀ x, 0 ≤ x → x < d → x / d = 0 := fun x a b => Int.ediv_eq_zero_of_lt a b
  rw [show z + 1 + (d - 1) = z % d + d + d * (z / d) by omega, k, k1, z0 _ r0 r1]
  by_cases c : z % d = 0
  · rw [if_pos c, show z + (d - 1) = d - 1 + d * (z / d) by omega, k, z0 (d - 1) (by omega) (by omega)]; omega
  · rw [if_neg c, show z + (d - 1) = z % d - 1 + d + d * (z / d) by omega, k, k1, z0 (z % d - 1) (by omega) (by omega)]; omega
theorem ys_succ (y : Int) : ys (y + 1) = ys y + preN y 12 := by
  rw [pre12]
  unfold ys leap
  have e1 : (y - 2000) % 4 = y % 4 := by omega
  have e2 : (y - 2000) % 100 = y % 100 := by omega
  have e3 : (y - 2000) % 400 = y % 400 := by omega
  have f1 := dd1 (show (0 : Int) < 4 by decide) (y - 2000)
  have f2 := dd1 (show (0 : Int) < 100 by decide) (y - 2000)
  have f3 := dd1 (show (0 : Int) < 400 by decide) (y - 2000)
  rw [e1] at f1
  rw [e2] at f2
  rw [e3] at f3
  rw [show y + 1 - 2000 = y - 2000 + 1 by omega]
  change _ = (y - 2000 + 3) / 4 + _ at f1
  change _ = (y - 2000 + 99) / 100 + _ at f2
  change _ = (y - 2000 + 399) / 400 + _ at f3
  rw [show (y - 2000 + 1 + 3) / 4 = _ from f1, show (y - 2000 + 1 + 99) / 100 = _ from f2, show (y - 2000 + 1 + 399) / 400 = _ from f3]
  clear f1 f2 f3 e1 e2 e3
  have h1 : y % 100 = 0 → y % 4 = 0 := by omega
  have h2 : y % 400 = 0 → y % 100 = 0 := by omega
  generalize (y - 2000 + 3) / 4 = p
  generalize (y - 2000 + 99) / 100 = q
  generalize (y - 2000 + 399) / 400 = r
  by_cases a : y % 4 = 0
  · by_cases b : y % 100 = 0
    · by_cases c : y % 400 = 0
      · rw [if_pos a, if_pos b, if_pos c, if_pos ⟨a, .inr c⟩]; clear h1 h2 a b c; omega
      · rw [if_pos a, if_pos b, if_neg c, if_neg (fun z => z.2.elim (fun w => w b) c)]; clear h1 h2 a b c; omega
    · have c : ¬ y % 400 = 0 := fun c => b (h2 c)
      rw [if_pos a, if_neg b, if_neg c, if_pos ⟨a, .inl b⟩]; clear h1 h2 a b c; omega
  · have b : ¬ y % 100 = 0 := fun b => a (h1 b)
    have c : ¬ y % 400 = 0 := fun c => b (h2 c)
    rw [if_neg a, if_neg b, if_neg c, if_neg (fun z => a z.1)]; clear h1 h2 a b c; omega
theorem ys_mono {a b : Int} (h : a ≤ b) : ys a ≤ ys b := by
  obtain ⟨k, rfl⟩ : ∃ k : Nat, b = a + k := ⟨(b - a).toNat, by omega⟩
  induction k with
  | zero => simp
  | succ k ih =>
    refine Int.le_trans (ih (by omega)) ?_
    have e : a + ((k + 1 : Nat) : Int) = a + k + 1 := by omega
    rw [e, ys_succ, pre12]
    have := leap_01 (a + k)
    omega

structure MD (D y : Int) (k : Nat) (r : Int) : Prop where
  k12 : k < 12
  r0 : 0 ≤ r
  r1 : r < mlen y (k + 1)
  eq : D = ys y + preN y k + r
theorem MD.uniq {D y y' r r' : Int} {k k' : Nat} (a : MD D y k r) (b : MD D y' k' r') : y = y' ∧ k = k' ∧ r = r' := by
  have ha := a.eq; have hb := b.eq
  have a1 : preN y (k + 1) ≤ preN y 12 := pre_mono (by have := a.k12; omega)
  have b1 : preN y' (k' + 1) ≤ preN y' 12 := pre_mono (by have := b.k12; omega)
  have a2 : 0 ≤ preN y k := pre_mono (a := 0) (Nat.zero_le _)
  have b2 : 0 ≤ preN y' k' := pre_mono (a := 0) (Nat.zero_le _)
  have a3 := a.r0; have a4 := a.r1; have b3 := b.r0; have b4 := b.r1
  have a5 : preN y (k + 1) = preN y k + mlen y (k + 1) := rfl
  have b5 : preN y' (k' + 1) = preN y' k' + mlen y' (k' + 1) := rfl
  have hy : y = y' := by
    rcases Int.lt_trichotomy y y' with h | h | h
    · have := ys_mono (show y + 1 ≤ y' by omega)
      rw [ys_succ] at this
      omega
    · exact h
    · have := ys_mono (show y' + 1 ≤ y by omega)
      rw [ys_succ] at this
      omega
  subst hy
  have hk : k = k' := by
    rcases Nat.lt_trichotomy k k' with h | h | h
    · have := pre_mono (y := y) (show k + 1 ≤ k' by omega)
      omega
    · exact h
    · have := pre_mono (y := y) (show k' + 1 ≤ k by omega)
      omega
  subst hk
  exact ⟨rfl, rfl, by omega⟩
theorem MD.year {D y r : Int} {k : Nat} (a : MD D y k r) (h : D ≤ 99999) : y ≤ 2273 := by
  refine Classical.byContradiction fun q => ?_
  have := ys_mono (show 2274 ≤ y by omega)
  have e : ys 2274 = 100077 := by decide
  have a2 : 0 ≤ preN y k := pre_mono (a := 0) (Nat.zero_le _)
  have := a.eq; have := a.r0
  omega
theorem MD.year0 {D y r : Int} {k : Nat} (a : MD D y k r) (h : 0 ≤ D) : 2000 ≤ y := by
  refine Classical.byContradiction fun q => ?_
  have h1 := ys_mono (show y + 1 ≤ 2000 by omega)
  have e : ys 2000 = 0 := by decide
  rw [ys_succ] at h1
  have a1 : preN y (k + 1) ≤ preN y 12 := pre_mono (by have := a.k12; omega)
  have a5 : preN y (k + 1) = preN y k + mlen y (k + 1) := rfl
  have := a.eq; have := a.r1
  omega
theorem MD.next {D y r : Int} {k : Nat} (a : MD D y k r) (h : r + 1 < mlen y (k + 1)) : MD (D + 1) y k (r + 1) := ⟨a.k12, by have := a.r0; omega, h, by have := a.eq; omega⟩
theorem MD.month {D y r : Int} {k : Nat} (a : MD D y k r) (h : r + 1 = mlen y (k + 1)) (hk : k < 11) : MD (D + 1) y (k + 1) 0 :=
  ⟨by omega, by omega, by have := mlen_pos y (k + 1 + 1); omega, by have := a.eq; have e : preN y (k + 1) = preN y k + mlen y (k + 1) := rfl; omega⟩
theorem MD.newYear {D y r : Int} {k : Nat} (a : MD D y k r) (h : r + 1 = mlen y (k + 1)) (hk : k = 11) : MD (D + 1) (y + 1) 0 0 :=
  ⟨by omega, by omega, by have := mlen_pos (y + 1) (0 + 1); omega, by subst hk; have := a.eq; have e : preN y 12 = preN y 11 + mlen y (11 + 1) := rfl; rw [ys_succ]; have e' : preN (y + 1) 0 = 0 := rfl; omega⟩
noncomputable def lenT : List Int := [31, 28, 31, 30, 31, 30, 31, 31, 30, 31, 30, 31]
theorem lenT_at {y : Int} {k : Nat} (hk : k < 12) (h : ¬ (k = 1 ∧ leap y = 1)) : lenT.getD k 0 = mlen y (k + 1) := by
  by_cases k1 : k = 1
  · have := leap_01 y
    rw [k1]
    show (28 : Int) = 28 + leap y; omega
  · have hm := (by decide : ∀ k : Nat, k < 12 → k ≠ 1 → k = 0 ∨ k = 2 ∨ k = 3 ∨ k = 4 ∨ k = 5 ∨ k = 6 ∨ k = 7 ∨ k = 8 ∨ k = 9 ∨ k = 10 ∨ k = 11) k hk k1
    clear h hk k1
    rcases hm with h | h | h | h | h | h | h | h | h | h | h <;> rw [h] <;> rfl
theorem leap_iff (y : Int) : leap y = 1 ↔ y % 4 = 0 ∧ (y % 100 ≠ 0 ∨ y % 400 = 0) := by unfold leap; split <;> simp_all

noncomputable def iszwhole : FnD := ⟨3, 6, [.ret (.and [(.call (.glob "isinstance") [(.var 0), (.glob "int")]), (.not (.call (.glob "isinstance") [(.var 0), (.glob "bool")])), (.cmp2 .le .le (.var 1) (.var 0) (.var 2))])]⟩
noncomputable def needzday : FnD := ⟨1, 4, [.ite (.not (.call (.glob "is_whole") [(.var 0), (.int (0)), (.glob "MOST_DAY")])) [.raise "BadDay" [110, 111, 32, 100, 97, 121]] []]⟩
noncomputable def monthzdays : FnD := ⟨2, 7, [.ite (.or [(.not (.call (.glob "is_whole") [(.var 0), (.glob "FIRST_YEAR"), (.glob "LAST_YEAR")])), (.not (.call (.glob "is_whole") [(.var 1), (.int (1)), (.int (12))]))]) [.raise "BadDay" [110, 111, 32, 109, 111, 110, 116, 104]] [], .ite (.and [(.cmp .eq (.var 1) (.int (2))), (.cmp .eq (.bin .mod (.var 0) (.int (4))) (.int (0))), (.or [(.cmp .ne (.bin .mod (.var 0) (.int (100))) (.int (0))), (.cmp .eq (.bin .mod (.var 0) (.int (400))) (.int (0)))])]) [.ret (.int (29))] [], .ret (.sub (.glob "LENGTHS") (.bin .sub (.var 1) (.int (1))))]⟩
noncomputable def yearzstart : FnD := ⟨1, 3, [.asg (.name 1) (.bin .sub (.var 0) (.glob "FIRST_YEAR")), .ret (.bin .add (.bin .sub (.bin .add (.bin .mul (.int (365)) (.var 1)) (.bin .fdiv (.bin .add (.var 1) (.int (3))) (.int (4)))) (.bin .fdiv (.bin .add (.var 1) (.int (99))) (.int (100)))) (.bin .fdiv (.bin .add (.var 1) (.int (399))) (.int (400))))]⟩
noncomputable def monthzofL0 : List S := [.asg (.name 2) (.bin .sub (.var 2) (.call (.glob "month_days") [(.var 1), (.var 3)])), .asg (.name 3) (.bin .add (.var 3) (.int (1)))]
noncomputable def monthzofL1 : List S := [.asg (.name 1) (.bin .add (.var 1) (.int (1)))]
noncomputable def monthzof : FnD := ⟨1, 8, [.expr (.call (.glob "need_day") [(.var 0)]), .asg (.name 1) (.bin .add (.glob "FIRST_YEAR") (.bin .fdiv (.var 0) (.int (366)))), .loop (.cmp .le (.call (.glob "year_start") [(.bin .add (.var 1) (.int (1)))]) (.var 0)) monthzofL1, .asg (.name 2) (.bin .sub (.var 0) (.call (.glob "year_start") [(.var 1)])), .asg (.name 3) (.int (1)), .loop (.cmp .ge (.var 2) (.call (.glob "month_days") [(.var 1), (.var 3)])) monthzofL0, .ret (.tup [(.var 1), (.var 3), (.bin .add (.var 2) (.int (1)))])]⟩
structure EnvC (P : Prog) : Prop where
  fisw : P.fn "is_whole" = some iszwhole
  fneed : P.fn "need_day" = some needzday
  fmd : P.fn "month_days" = some monthzdays
  fys : P.fn "year_start" = some yearzstart
  fmo : P.fn "month_of" = some monthzof
  gisw : P.glob "is_whole" = some (.fn "is_whole")
  gneed : P.glob "need_day" = some (.fn "need_day")
  gmd : P.glob "month_days" = some (.fn "month_days")
  gys : P.glob "year_start" = some (.fn "year_start")
  gmo : P.glob "month_of" = some (.fn "month_of")
  gmost : P.glob "MOST_DAY" = some (.int 99999)
  gfirst : P.glob "FIRST_YEAR" = some (.int 2000)
  glast : P.glob "LAST_YEAR" = some (.int 2273)
  glens : P.glob "LENGTHS" = some (.tup (lenT.map .int))
  gisi : P.glob "isinstance" = some (.bi "isinstance")
  gint : P.glob "int" = some (.ty "int")
  gbool : P.glob "bool" = some (.ty "bool")

section
variable {P : Prog} {n : Nat} {hd : Bool} {σ : Store}
theorem sp_isw (H : EnvC P) {a l m : Int} (h1 : l ≤ a) (h2 : a ≤ m) : callN P (n + 2) hd (.fn "is_whole") [.int a, .int l, .int m] σ = .ok (.bool true) σ := by
  rw [callN_fn H.fisw]
  refine rb_ret rfl ?_
  simp [ex_nil, ex_cons, cont_next, cont_ret, ex_asg, ex_expr, ex_ret, ex_ite, ite_t, ite_f, ite_d, ex_loop, asg_name, src_of, ev_int, ev_boolc, ev_nonec, ev_var, ev_glob, ev_bin, ev_neg, ev_not, ev_and, ev_or, ep_cmp, ev_cmp2, ev_call, ev_sub, ev_list, ev_tup, es_nil, es_cons, and_one, and_cons, or_one, or_cons, eb_def, look_some, andV_t, andV_f, andV_d, orV_t, orV_f, orV_d, orV_n, bind_ok, bindS_ok, ofOpt_some, bin_add, bin_sub, bin_mul, bin_fdiv, bin_mod, bin_pow9, bin_pow6, cmp_lt, cmp_le, cmp_gt, cmp_ge, cmp_eq, cmp_ne, truth_bool, List.map_cons, List.map_nil, List.replicate, List.cons_append, List.nil_append, gt0, st0, gt1, st1, gt2, st2, gt3, st3, gt4, st4, gt5, st5, gt6, st6, gt7, st7, gt8, st8, gt9, st9, gt10, st10, gt11, st11, gt12, st12, gt13, st13, gt14, st14, gt15, st15, gt16, st16, gt17, st17, gt18, st18, gt19, st19, gt20, st20, iszwhole, H.gisi, H.gint, H.gbool, isi_ii, isi_ib, h1, h2]
theorem sp_need (H : EnvC P) {a : Int} (h1 : 0 ≤ a) (h2 : a ≤ 99999) : callN P (n + 3) hd (.fn "need_day") [.int a] σ = .ok .none σ := by
  rw [callN_fn H.fneed]
  refine rb_next (ℓ' := [some (.int a), none, none, none]) rfl ?_
  simp [ex_nil, ex_cons, cont_next, cont_ret, ex_asg, ex_expr, ex_ret, ex_ite, ite_t, ite_f, ite_d, ex_loop, asg_name, src_of, ev_int, ev_boolc, ev_nonec, ev_var, ev_glob, ev_bin, ev_neg, ev_not, ev_and, ev_or, ep_cmp, ev_cmp2, ev_call, ev_sub, ev_list, ev_tup, es_nil, es_cons, and_one, and_cons, or_one, or_cons, eb_def, look_some, andV_t, andV_f, andV_d, orV_t, orV_f, orV_d, orV_n, bind_ok, bindS_ok, ofOpt_some, bin_add, bin_sub, bin_mul, bin_fdiv, bin_mod, bin_pow9, bin_pow6, cmp_lt, cmp_le, cmp_gt, cmp_ge, cmp_eq, cmp_ne, truth_bool, List.map_cons, List.map_nil, List.replicate, List.cons_append, List.nil_append, gt0, st0, gt1, st1, gt2, st2, gt3, st3, gt4, st4, gt5, st5, gt6, st6, gt7, st7, gt8, st8, gt9, st9, gt10, st10, gt11, st11, gt12, st12, gt13, st13, gt14, st14, gt15, st15, gt16, st16, gt17, st17, gt18, st18, gt19, st19, gt20, st20, needzday, H.gisw, H.gmost, sp_isw H h1 h2]
theorem sp_md' (H : EnvC P) {y m : Int} {k : Nat} (hm : m = k + 1) (h1 : 2000 ≤ y) (h2 : y ≤ 2273) (hk : k < 12) : callN P (n + 3) hd (.fn "month_days") [.int y, .int m] σ = .ok (.int (mlen y (k + 1))) σ := by
  rw [callN_fn H.fmd]
  refine rb_ret rfl ?_
  have s : subV P (.tup (lenT.map .int)) (.int (m - 1)) σ = some (.int (lenT.getD k 0)) := by
    have := idx_ints (l := lenT) (i := m - 1) (by omega) (by simp [lenT]; omega) (by omega)
    rw [show (m - 1).toNat = k by omega] at this
    exact this
  have w1 := sp_isw (P := P) (n := n) (hd := hd) (σ := σ) H h1 h2
  have w2 := sp_isw (P := P) (n := n) (hd := hd) (σ := σ) H (a := m) (l := 1) (m := 12) (by omega) (by omega)
  have hl := leap_iff y
  by_cases c1 : m = 2
  · have k1 : k = 1 := by omega
    subst k1
    by_cases c2 : y % 4 = 0
    · by_cases c3 : y % 100 = 0
      · by_cases c4 : y % 400 = 0
        · have : mlen y 2 = 29 := by show 28 + leap y = 29; have := hl.mpr ⟨c2, .inr c4⟩; omega
          simp [ex_nil, ex_cons, cont_next, cont_ret, ex_asg, ex_expr, ex_ret, ex_ite, ite_t, ite_f, ite_d, ex_loop, asg_name, src_of, ev_int, ev_boolc, ev_nonec, ev_var, ev_glob, ev_bin, ev_neg, ev_not, ev_and, ev_or, ep_cmp, ev_cmp2, ev_call, ev_sub, ev_list, ev_tup, es_nil, es_cons, and_one, and_cons, or_one, or_cons, eb_def, look_some, andV_t, andV_f, andV_d, orV_t, orV_f, orV_d, orV_n, bind_ok, bindS_ok, ofOpt_some, bin_add, bin_sub, bin_mul, bin_fdiv, bin_mod, bin_pow9, bin_pow6, cmp_lt, cmp_le, cmp_gt, cmp_ge, cmp_eq, cmp_ne, truth_bool, List.map_cons, List.map_nil, List.replicate, List.cons_append, List.nil_append, gt0, st0, gt1, st1, gt2, st2, gt3, st3, gt4, st4, gt5, st5, gt6, st6, gt7, st7, gt8, st8, gt9, st9, gt10, st10, gt11, st11, gt12, st12, gt13, st13, gt14, st14, gt15, st15, gt16, st16, gt17, st17, gt18, st18, gt19, st19, gt20, st20, monthzdays, H.gisw, H.gfirst, H.glast, w1, w2, eq_true c1, c2, c3, c4, this]
        · have q : ¬ leap y = 1 := fun q => by obtain ⟨_, z | z⟩ := hl.mp q <;> contradiction
          have e := lenT_at (y := y) (k := 1) (by omega) (fun z => q z.2)
          rw [e] at s
          simp [ex_nil, ex_cons, cont_next, cont_ret, ex_asg, ex_expr, ex_ret, ex_ite, ite_t, ite_f, ite_d, ex_loop, asg_name, src_of, ev_int, ev_boolc, ev_nonec, ev_var, ev_glob, ev_bin, ev_neg, ev_not, ev_and, ev_or, ep_cmp, ev_cmp2, ev_call, ev_sub, ev_list, ev_tup, es_nil, es_cons, and_one, and_cons, or_one, or_cons, eb_def, look_some, andV_t, andV_f, andV_d, orV_t, orV_f, orV_d, orV_n, bind_ok, bindS_ok, ofOpt_some, bin_add, bin_sub, bin_mul, bin_fdiv, bin_mod, bin_pow9, bin_pow6, cmp_lt, cmp_le, cmp_gt, cmp_ge, cmp_eq, cmp_ne, truth_bool, List.map_cons, List.map_nil, List.replicate, List.cons_append, List.nil_append, gt0, st0, gt1, st1, gt2, st2, gt3, st3, gt4, st4, gt5, st5, gt6, st6, gt7, st7, gt8, st8, gt9, st9, gt10, st10, gt11, st11, gt12, st12, gt13, st13, gt14, st14, gt15, st15, gt16, st16, gt17, st17, gt18, st18, gt19, st19, gt20, st20, monthzdays, H.gisw, H.gfirst, H.glast, w1, w2, eq_true c1, c2, c3, c4, H.glens, s]
      · have : mlen y 2 = 29 := by show 28 + leap y = 29; have := hl.mpr ⟨c2, .inl c3⟩; omega
        simp [ex_nil, ex_cons, cont_next, cont_ret, ex_asg, ex_expr, ex_ret, ex_ite, ite_t, ite_f, ite_d, ex_loop, asg_name, src_of, ev_int, ev_boolc, ev_nonec, ev_var, ev_glob, ev_bin, ev_neg, ev_not, ev_and, ev_or, ep_cmp, ev_cmp2, ev_call, ev_sub, ev_list, ev_tup, es_nil, es_cons, and_one, and_cons, or_one, or_cons, eb_def, look_some, andV_t, andV_f, andV_d, orV_t, orV_f, orV_d, orV_n, bind_ok, bindS_ok, ofOpt_some, bin_add, bin_sub, bin_mul, bin_fdiv, bin_mod, bin_pow9, bin_pow6, cmp_lt, cmp_le, cmp_gt, cmp_ge, cmp_eq, cmp_ne, truth_bool, List.map_cons, List.map_nil, List.replicate, List.cons_append, List.nil_append, gt0, st0, gt1, st1, gt2, st2, gt3, st3, gt4, st4, gt5, st5, gt6, st6, gt7, st7, gt8, st8, gt9, st9, gt10, st10, gt11, st11, gt12, st12, gt13, st13, gt14, st14, gt15, st15, gt16, st16, gt17, st17, gt18, st18, gt19, st19, gt20, st20, monthzdays, H.gisw, H.gfirst, H.glast, w1, w2, eq_true c1, c2, c3, this]
    · have q : ¬ leap y = 1 := fun q => c2 (hl.mp q).1
      have e := lenT_at (y := y) (k := 1) (by omega) (fun z => q z.2)
      rw [e] at s
      simp [ex_nil, ex_cons, cont_next, cont_ret, ex_asg, ex_expr, ex_ret, ex_ite, ite_t, ite_f, ite_d, ex_loop, asg_name, src_of, ev_int, ev_boolc, ev_nonec, ev_var, ev_glob, ev_bin, ev_neg, ev_not, ev_and, ev_or, ep_cmp, ev_cmp2, ev_call, ev_sub, ev_list, ev_tup, es_nil, es_cons, and_one, and_cons, or_one, or_cons, eb_def, look_some, andV_t, andV_f, andV_d, orV_t, orV_f, orV_d, orV_n, bind_ok, bindS_ok, ofOpt_some, bin_add, bin_sub, bin_mul, bin_fdiv, bin_mod, bin_pow9, bin_pow6, cmp_lt, cmp_le, cmp_gt, cmp_ge, cmp_eq, cmp_ne, truth_bool, List.map_cons, List.map_nil, List.replicate, List.cons_append, List.nil_append, gt0, st0, gt1, st1, gt2, st2, gt3, st3, gt4, st4, gt5, st5, gt6, st6, gt7, st7, gt8, st8, gt9, st9, gt10, st10, gt11, st11, gt12, st12, gt13, st13, gt14, st14, gt15, st15, gt16, st16, gt17, st17, gt18, st18, gt19, st19, gt20, st20, monthzdays, H.gisw, H.gfirst, H.glast, w1, w2, eq_true c1, c2, H.glens, s]
  · have e := lenT_at (y := y) (k := k) hk (fun z => c1 (by omega))
    rw [e] at s
    simp [ex_nil, ex_cons, cont_next, cont_ret, ex_asg, ex_expr, ex_ret, ex_ite, ite_t, ite_f, ite_d, ex_loop, asg_name, src_of, ev_int, ev_boolc, ev_nonec, ev_var, ev_glob, ev_bin, ev_neg, ev_not, ev_and, ev_or, ep_cmp, ev_cmp2, ev_call, ev_sub, ev_list, ev_tup, es_nil, es_cons, and_one, and_cons, or_one, or_cons, eb_def, look_some, andV_t, andV_f, andV_d, orV_t, orV_f, orV_d, orV_n, bind_ok, bindS_ok, ofOpt_some, bin_add, bin_sub, bin_mul, bin_fdiv, bin_mod, bin_pow9, bin_pow6, cmp_lt, cmp_le, cmp_gt, cmp_ge, cmp_eq, cmp_ne, truth_bool, List.map_cons, List.map_nil, List.replicate, List.cons_append, List.nil_append, gt0, st0, gt1, st1, gt2, st2, gt3, st3, gt4, st4, gt5, st5, gt6, st6, gt7, st7, gt8, st8, gt9, st9, gt10, st10, gt11, st11, gt12, st12, gt13, st13, gt14, st14, gt15, st15, gt16, st16, gt17, st17, gt18, st18, gt19, st19, gt20, st20, monthzdays, H.gisw, H.gfirst, H.glast, w1, w2, c1, H.glens, s]
theorem sp_ys (H : EnvC P) (y : Int) : callN P (n + 1) hd (.fn "year_start") [.int y] σ = .ok (.int (ys y)) σ := by
  rw [callN_fn H.fys]
  refine rb_ret rfl ?_
  simp [ex_nil, ex_cons, cont_next, cont_ret, ex_asg, ex_expr, ex_ret, ex_ite, ite_t, ite_f, ite_d, ex_loop, asg_name, src_of, ev_int, ev_boolc, ev_nonec, ev_var, ev_glob, ev_bin, ev_neg, ev_not, ev_and, ev_or, ep_cmp, ev_cmp2, ev_call, ev_sub, ev_list, ev_tup, es_nil, es_cons, and_one, and_cons, or_one, or_cons, eb_def, look_some, andV_t, andV_f, andV_d, orV_t, orV_f, orV_d, orV_n, bind_ok, bindS_ok, ofOpt_some, bin_add, bin_sub, bin_mul, bin_fdiv, bin_mod, bin_pow9, bin_pow6, cmp_lt, cmp_le, cmp_gt, cmp_ge, cmp_eq, cmp_ne, truth_bool, List.map_cons, List.map_nil, List.replicate, List.cons_append, List.nil_append, gt0, st0, gt1, st1, gt2, st2, gt3, st3, gt4, st4, gt5, st5, gt6, st6, gt7, st7, gt8, st8, gt9, st9, gt10, st10, gt11, st11, gt12, st12, gt13, st13, gt14, st14, gt15, st15, gt16, st16, gt17, st17, gt18, st18, gt19, st19, gt20, st20, yearzstart, H.gfirst, mulOk_l (a := 365), ys]
theorem ys_le (q : Nat) : ys (2000 + q) ≤ 366 * q := by
  unfold ys; omega
theorem sp_mo (H : EnvC P) {D : Int} (h0 : 0 ≤ D) (h1 : D ≤ 99999) : ∃ y k r, MD D y k r ∧ callN P (n + 4) false (.fn "month_of") [.int D] σ = .ok (.tup [.int y, .int (k + 1), .int (r + 1)]) σ := by
  rw [callN_fn H.fmo]
  have L1 := while_inv (c := condF P (callN P (n + 3)) false (.cmp .le (.call (.glob "year_start") [(.bin .add (.var 1) (.int (1)))]) (.var 0))) (body := bodyF P (callN P (n + 3)) false monthzofL1)
    (I := fun ℓ σ' => σ' = σ ∧ ∃ y : Int, 2000 ≤ y ∧ ys y ≤ D ∧ ℓ = [some (.int D), some (.int y), none, none, none, none, none, none])
    (D := fun ℓ σ' => σ' = σ ∧ ∃ y : Int, 2000 ≤ y ∧ ys y ≤ D ∧ D < ys (y + 1) ∧ ℓ = [some (.int D), some (.int y), none, none, none, none, none, none])
    (m := fun ℓ _ => match ℓ with | _ :: some (.int y) :: _ => (2300 - y).toNat | _ => 0)
    (fun ℓ σ' ⟨e1, y, y0, y1, e2⟩ => by
      subst e1 e2
      by_cases h : ys (y + 1) ≤ D
      · refine .inr ⟨σ', ?_, [some (.int D), some (.int (y + 1)), none, none, none, none, none, none], σ', .inl ?_, ⟨rfl, y + 1, by omega, h, rfl⟩, ?_⟩
        · rw [condF_eq]; simp [ex_nil, ex_cons, cont_next, cont_ret, ex_asg, ex_expr, ex_ret, ex_ite, ite_t, ite_f, ite_d, ex_loop, asg_name, src_of, ev_int, ev_boolc, ev_nonec, ev_var, ev_glob, ev_bin, ev_neg, ev_not, ev_and, ev_or, ep_cmp, ev_cmp2, ev_call, ev_sub, ev_list, ev_tup, es_nil, es_cons, and_one, and_cons, or_one, or_cons, eb_def, look_some, andV_t, andV_f, andV_d, orV_t, orV_f, orV_d, orV_n, bind_ok, bindS_ok, ofOpt_some, bin_add, bin_sub, bin_mul, bin_fdiv, bin_mod, bin_pow9, bin_pow6, cmp_lt, cmp_le, cmp_gt, cmp_ge, cmp_eq, cmp_ne, truth_bool, List.map_cons, List.map_nil, List.replicate, List.cons_append, List.nil_append, gt0, st0, gt1, st1, gt2, st2, gt3, st3, gt4, st4, gt5, st5, gt6, st6, gt7, st7, gt8, st8, gt9, st9, gt10, st10, gt11, st11, gt12, st12, gt13, st13, gt14, st14, gt15, st15, gt16, st16, gt17, st17, gt18, st18, gt19, st19, gt20, st20, H.gys, sp_ys H, h]
        · rw [bodyF_eq]; simp [ex_nil, ex_cons, cont_next, cont_ret, ex_asg, ex_expr, ex_ret, ex_ite, ite_t, ite_f, ite_d, ex_loop, asg_name, src_of, ev_int, ev_boolc, ev_nonec, ev_var, ev_glob, ev_bin, ev_neg, ev_not, ev_and, ev_or, ep_cmp, ev_cmp2, ev_call, ev_sub, ev_list, ev_tup, es_nil, es_cons, and_one, and_cons, or_one, or_cons, eb_def, look_some, andV_t, andV_f, andV_d, orV_t, orV_f, orV_d, orV_n, bind_ok, bindS_ok, ofOpt_some, bin_add, bin_sub, bin_mul, bin_fdiv, bin_mod, bin_pow9, bin_pow6, cmp_lt, cmp_le, cmp_gt, cmp_ge, cmp_eq, cmp_ne, truth_bool, List.map_cons, List.map_nil, List.replicate, List.cons_append, List.nil_append, gt0, st0, gt1, st1, gt2, st2, gt3, st3, gt4, st4, gt5, st5, gt6, st6, gt7, st7, gt8, st8, gt9, st9, gt10, st10, gt11, st11, gt12, st12, gt13, st13, gt14, st14, gt15, st15, gt16, st16, gt17, st17, gt18, st18, gt19, st19, gt20, st20, monthzofL1]
        · have : y < 2274 := Classical.byContradiction fun q => by
            have := ys_mono (show 2274 ≤ y by omega)
            have e : ys 2274 = 100077 := by decide
            omega
          show (2300 - (y + 1)).toNat < (2300 - y).toNat
          omega
      · refine .inl ⟨σ', ?_, rfl, y, y0, y1, by omega, rfl⟩
        rw [condF_eq]; simp [ex_nil, ex_cons, cont_next, cont_ret, ex_asg, ex_expr, ex_ret, ex_ite, ite_t, ite_f, ite_d, ex_loop, asg_name, src_of, ev_int, ev_boolc, ev_nonec, ev_var, ev_glob, ev_bin, ev_neg, ev_not, ev_and, ev_or, ep_cmp, ev_cmp2, ev_call, ev_sub, ev_list, ev_tup, es_nil, es_cons, and_one, and_cons, or_one, or_cons, eb_def, look_some, andV_t, andV_f, andV_d, orV_t, orV_f, orV_d, orV_n, bind_ok, bindS_ok, ofOpt_some, bin_add, bin_sub, bin_mul, bin_fdiv, bin_mod, bin_pow9, bin_pow6, cmp_lt, cmp_le, cmp_gt, cmp_ge, cmp_eq, cmp_ne, truth_bool, List.map_cons, List.map_nil, List.replicate, List.cons_append, List.nil_append, gt0, st0, gt1, st1, gt2, st2, gt3, st3, gt4, st4, gt5, st5, gt6, st6, gt7, st7, gt8, st8, gt9, st9, gt10, st10, gt11, st11, gt12, st12, gt13, st13, gt14, st14, gt15, st15, gt16, st16, gt17, st17, gt18, st18, gt19, st19, gt20, st20, H.gys, sp_ys H, h])
    W [some (.int D), some (.int (2000 + D / 366)), none, none, none, none, none, none] σ (by show (2300 - (2000 + D / 366)).toNat < 1000000; omega) ⟨rfl, 2000 + D / 366, by omega, by have := ys_le (D / 366).toNat; rw [show ((D / 366).toNat : Int) = D / 366 by omega] at this; omega, rfl⟩
  obtain ⟨ℓ1, σ1, e1, rfl, y, y0, y1, y2, rfl⟩ := L1
  have yy : y ≤ 2273 := Classical.byContradiction fun q => by
    have := ys_mono (show 2274 ≤ y by omega)
    have e : ys 2274 = 100077 := by decide
    omega
  have L2 := while_inv (c := condF P (callN P (n + 3)) false (.cmp .ge (.var 2) (.call (.glob "month_days") [(.var 1), (.var 3)]))) (body := bodyF P (callN P (n + 3)) false monthzofL0)
    (I := fun ℓ σ' => σ' = σ1 ∧ ∃ (k : Nat) (r : Int), k < 12 ∧ 0 ≤ r ∧ D = ys y + preN y k + r ∧ ℓ = [some (.int D), some (.int y), some (.int r), some (.int (k + 1)), none, none, none, none])
    (D := fun ℓ σ' => σ' = σ1 ∧ ∃ (k : Nat) (r : Int), MD D y k r ∧ ℓ = [some (.int D), some (.int y), some (.int r), some (.int (k + 1)), none, none, none, none])
    (m := fun ℓ _ => match ℓ with | _ :: _ :: _ :: some (.int m) :: _ => (20 - m).toNat | _ => 0)
    (fun ℓ σ' ⟨e1, k, r, hk, r0, hr, e2⟩ => by
      subst e1 e2
      have sm := sp_md' (P := P) (n := n) (hd := false) (σ := σ') H (y := y) (m := k + 1) rfl y0 yy hk
      by_cases h : mlen y (k + 1) ≤ r
      · have k11 : k < 11 := Classical.byContradiction fun q => by
          have : k = 11 := by omega
          subst this
          rw [ys_succ] at y2
          have e : preN y 12 = preN y 11 + mlen y (11 + 1) := rfl
          omega
        refine .inr ⟨σ', ?_, [some (.int D), some (.int y), some (.int (r - mlen y (k + 1))), some (.int ((k + 1 : Nat) + 1)), none, none, none, none], σ', .inl ?_, ⟨rfl, k + 1, r - mlen y (k + 1), by omega, by omega, ?_, rfl⟩, ?_⟩
        · rw [condF_eq]; simp [ex_nil, ex_cons, cont_next, cont_ret, ex_asg, ex_expr, ex_ret, ex_ite, ite_t, ite_f, ite_d, ex_loop, asg_name, src_of, ev_int, ev_boolc, ev_nonec, ev_var, ev_glob, ev_bin, ev_neg, ev_not, ev_and, ev_or, ep_cmp, ev_cmp2, ev_call, ev_sub, ev_list, ev_tup, es_nil, es_cons, and_one, and_cons, or_one, or_cons, eb_def, look_some, andV_t, andV_f, andV_d, orV_t, orV_f, orV_d, orV_n, bind_ok, bindS_ok, ofOpt_some, bin_add, bin_sub, bin_mul, bin_fdiv, bin_mod, bin_pow9, bin_pow6, cmp_lt, cmp_le, cmp_gt, cmp_ge, cmp_eq, cmp_ne, truth_bool, List.map_cons, List.map_nil, List.replicate, List.cons_append, List.nil_append, gt0, st0, gt1, st1, gt2, st2, gt3, st3, gt4, st4, gt5, st5, gt6, st6, gt7, st7, gt8, st8, gt9, st9, gt10, st10, gt11, st11, gt12, st12, gt13, st13, gt14, st14, gt15, st15, gt16, st16, gt17, st17, gt18, st18, gt19, st19, gt20, st20, H.gmd, sm, h]
        · rw [bodyF_eq]; simp [ex_nil, ex_cons, cont_next, cont_ret, ex_asg, ex_expr, ex_ret, ex_ite, ite_t, ite_f, ite_d, ex_loop, asg_name, src_of, ev_int, ev_boolc, ev_nonec, ev_var, ev_glob, ev_bin, ev_neg, ev_not, ev_and, ev_or, ep_cmp, ev_cmp2, ev_call, ev_sub, ev_list, ev_tup, es_nil, es_cons, and_one, and_cons, or_one, or_cons, eb_def, look_some, andV_t, andV_f, andV_d, orV_t, orV_f, orV_d, orV_n, bind_ok, bindS_ok, ofOpt_some, bin_add, bin_sub, bin_mul, bin_fdiv, bin_mod, bin_pow9, bin_pow6, cmp_lt, cmp_le, cmp_gt, cmp_ge, cmp_eq, cmp_ne, truth_bool, List.map_cons, List.map_nil, List.replicate, List.cons_append, List.nil_append, gt0, st0, gt1, st1, gt2, st2, gt3, st3, gt4, st4, gt5, st5, gt6, st6, gt7, st7, gt8, st8, gt9, st9, gt10, st10, gt11, st11, gt12, st12, gt13, st13, gt14, st14, gt15, st15, gt16, st16, gt17, st17, gt18, st18, gt19, st19, gt20, st20, monthzofL0, H.gmd, sm]
        · have e : preN y (k + 1) = preN y k + mlen y (k + 1) := rfl
          omega
        · show (20 - (((k + 1 : Nat) : Int) + 1)).toNat < (20 - ((k : Int) + 1)).toNat
          omega
      · refine .inl ⟨σ', ?_, rfl, k, r, ⟨hk, r0, by omega, hr⟩, rfl⟩
        rw [condF_eq]; simp [ex_nil, ex_cons, cont_next, cont_ret, ex_asg, ex_expr, ex_ret, ex_ite, ite_t, ite_f, ite_d, ex_loop, asg_name, src_of, ev_int, ev_boolc, ev_nonec, ev_var, ev_glob, ev_bin, ev_neg, ev_not, ev_and, ev_or, ep_cmp, ev_cmp2, ev_call, ev_sub, ev_list, ev_tup, es_nil, es_cons, and_one, and_cons, or_one, or_cons, eb_def, look_some, andV_t, andV_f, andV_d, orV_t, orV_f, orV_d, orV_n, bind_ok, bindS_ok, ofOpt_some, bin_add, bin_sub, bin_mul, bin_fdiv, bin_mod, bin_pow9, bin_pow6, cmp_lt, cmp_le, cmp_gt, cmp_ge, cmp_eq, cmp_ne, truth_bool, List.map_cons, List.map_nil, List.replicate, List.cons_append, List.nil_append, gt0, st0, gt1, st1, gt2, st2, gt3, st3, gt4, st4, gt5, st5, gt6, st6, gt7, st7, gt8, st8, gt9, st9, gt10, st10, gt11, st11, gt12, st12, gt13, st13, gt14, st14, gt15, st15, gt16, st16, gt17, st17, gt18, st18, gt19, st19, gt20, st20, H.gmd, sm, h])
    W [some (.int D), some (.int y), some (.int (D - ys y)), some (.int 1), none, none, none, none] σ1 (by show (20 - (1 : Int)).toNat < 1000000; decide) ⟨rfl, 0, D - ys y, by omega, by omega, by show D = ys y + 0 + (D - ys y); omega, rfl⟩
  obtain ⟨ℓ2, σ2, e2, rfl, k, r, md, rfl⟩ := L2
  refine ⟨y, k, r, md, rb_ret rfl ?_⟩
  simp [ex_nil, ex_cons, cont_next, cont_ret, ex_asg, ex_expr, ex_ret, ex_ite, ite_t, ite_f, ite_d, ex_loop, asg_name, src_of, ev_int, ev_boolc, ev_nonec, ev_var, ev_glob, ev_bin, ev_neg, ev_not, ev_and, ev_or, ep_cmp, ev_cmp2, ev_call, ev_sub, ev_list, ev_tup, es_nil, es_cons, and_one, and_cons, or_one, or_cons, eb_def, look_some, andV_t, andV_f, andV_d, orV_t, orV_f, orV_d, orV_n, bind_ok, bindS_ok, ofOpt_some, bin_add, bin_sub, bin_mul, bin_fdiv, bin_mod, bin_pow9, bin_pow6, cmp_lt, cmp_le, cmp_gt, cmp_ge, cmp_eq, cmp_ne, truth_bool, List.map_cons, List.map_nil, List.replicate, List.cons_append, List.nil_append, gt0, st0, gt1, st1, gt2, st2, gt3, st3, gt4, st4, gt5, st5, gt6, st6, gt7, st7, gt8, st8, gt9, st9, gt10, st10, gt11, st11, gt12, st12, gt13, st13, gt14, st14, gt15, st15, gt16, st16, gt17, st17, gt18, st18, gt19, st19, gt20, st20, monthzof, H.gneed, sp_need H h0 h1, H.gfirst, e1, H.gys, sp_ys H, e2]
end
end Mine
end

section
set_option tactic.hygienic false
set_option bootstrap.genMatcherCode false
set_option maxRecDepth 100000
set_option linter.unusedSimpArgs false
set_option maxHeartbeats 1000000
set_option linter.unusedVariables false
set_option linter.unusedSimpArgs false
namespace Mine
open PySem
noncomputable def condC (P : Prog) (C : V → List V → Store → Out V) (c : Option E) : Loc → Store → Out Bool := fun ℓ σ => evC P false C c ℓ σ
noncomputable def eltF (P : Prog) (C : V → List V → Store → Out V) (e : E) : Loc → Store → Out V := fun ℓ σ => evE P false C e ℓ σ
noncomputable def compS (P : Prog) (C : V → List V → Store → Out V) (elt : E) (t : Tgt) (c : Option E) (ℓc : Loc) (o : Out Src) : Out V :=
  o.bind fun src σ => (noExc (compLoop src t (condC P C c) (eltF P C elt) W 0 ℓc σ)).bind fun vs σ => .ok (.loc σ.length) (σ ++ [.list vs])
section
variable {P : Prog} {C : V → List V → Store → Out V} {ℓ : Loc} {σ : Store}
theorem ev_comp' {elt : E} {t : Tgt} {it : It} {c : Option E} {fm : List (Option Nat)} : evE P false C (.comp elt t it c fm) ℓ σ = compS P C elt t c (fm.map fun j => j.bind fun j => (ℓ[j]?).join) (evSrc P false C it ℓ σ) := by
  rw [q_comp, if_neg (by decide)]; unfold compS condC eltF; exact Eq.refl _
theorem condC_none : condC P C none ℓ σ = .ok true σ := rfl
theorem condC_some {e : E} : condC P C (some e) ℓ σ = (evE P false C e ℓ σ).bind fun v σ => .ofOpt σ (truthV v) := rfl
theorem eltF_eq {e : E} : eltF P C e ℓ σ = evE P false C e ℓ σ := rfl
/-- a comprehension that leaves the store as it is -/
theorem comp_loop {src : Src} {t : Tgt} {c : Loc → Store → Out Bool} {elt : Loc → Store → Out V} {l : List V} (hs : ∀ i, src.get σ i = some l[i]?) {p : V → Bool} {g : V → V} (J : Loc → Prop)
    (step : ∀ v ∈ l, ∀ ℓ, J ℓ → ∃ ℓ1, t.asg v ℓ = some ℓ1 ∧ J ℓ1 ∧ c ℓ1 σ = .ok (p v) σ ∧ (p v = true → elt ℓ1 σ = .ok (g v) σ)) :
    ∀ (K i : Nat) (ℓ : Loc), i ≤ l.length → l.length < K + i → J ℓ → compLoop src t c elt K i ℓ σ = .ok (((l.drop i).filter p).map g) σ := by
  intro K
  induction K with
  | zero =>
    intro i ℓ h0 h hJ
    omega
  | succ K ih =>
    intro i ℓ h0 h hJ
    unfold compLoop
    rw [hs i]
    by_cases hl : i < l.length
    · rw [List.getElem?_eq_getElem hl]
      obtain ⟨ℓ1, e1, hJ1, e2, e3⟩ := step l[i] (List.getElem_mem hl) ℓ hJ
      simp only [e1, e2, Out.bind]
      have hd : l.drop i = l[i] :: l.drop (i + 1) := List.drop_eq_getElem_cons hl
      cases hp : p l[i] with
      | true =>
        simp only [if_true, e3 hp, ih (i + 1) ℓ1 (by omega) (by omega) hJ1, hd, List.filter_cons, hp, List.map_cons]
      | false =>
        simp only [Bool.false_eq_true, if_false, ih (i + 1) ℓ1 (by omega) (by omega) hJ1, hd, List.filter_cons, hp]
    · rw [List.getElem?_eq_none (by omega)]
      simp only []
      rw [List.drop_of_length_le (by omega)]
      rfl
theorem comp_items {t : Tgt} {c : Option E} {elt : E} {l : List V} (hl : l.length ≤ 1000) {p : V → Bool} {g : V → V} (J : Loc → Prop) {ℓc : Loc}
    (step : ∀ v ∈ l, ∀ ℓ, J ℓ → ∃ ℓ1, t.asg v ℓ = some ℓ1 ∧ J ℓ1 ∧ condC P C c ℓ1 σ = .ok (p v) σ ∧ (p v = true → eltF P C elt ℓ1 σ = .ok (g v) σ)) (hJ : J ℓc) :
    compS P C elt t c ℓc (.ok (.items l) σ) = .ok (.loc σ.length) (σ ++ [.list ((l.filter p).map g)]) := by
  unfold compS
  rw [bind_ok, comp_loop (l := l) (fun i => rfl) J step W 0 ℓc (Nat.zero_le _) (by unfold W; omega) hJ]
  simp only [List.drop_zero, noExc, bind_ok]
theorem src_r2 {a b : E} : evSrc P false C (.range2 a b) ℓ σ = (evE P false C a ℓ σ).bind fun va σ => (evE P false C b ℓ σ).bind fun vb σ => rng2 va vb σ := rfl
theorem rng2_ok {a b : Int} (h1 : -4611686018427387904 ≤ a) (h2 : a < 4611686018427387904) (h3 : -4611686018427387904 ≤ b) (h4 : b < 4611686018427387904) : rng2 (.int a) (.int b) σ = .ok (.items (rangeL a b)) σ := by simp [rng2, smallI, h1, h2, h3, h4]
theorem intsOf_map (l : List Int) : intsOf (l.map .int) = some l := by
  induction l with
  | nil => rfl
  | cons a l ih => simp [intsOf, ih]
theorem call_sum {n m : Nat} {l : List Int} (h : σ[n]? = some (.list (l.map .int))) : callN P (m + 1) false (.bi "sum") [.loc n] σ = .ok (.int l.sum) σ := by
  simp [callN_bi, p_sum, pSum, h, intsOf_map]
end
end Mine
end

section
set_option tactic.hygienic false
set_option bootstrap.genMatcherCode false
set_option maxRecDepth 100000
set_option linter.unusedSimpArgs false
set_option maxHeartbeats 2000000
set_option linter.unusedVariables false
set_option linter.unusedSimpArgs false
namespace Mine
open PySem
noncomputable def dayzof : FnD := ⟨3, 11, [.ite (.not (.call (.glob "is_whole") [(.var 2), (.int (1)), (.call (.glob "month_days") [(.var 0), (.var 1)])])) [.raise "BadDay" [110, 111, 32, 100, 97, 121, 32, 111, 102, 32, 116, 104, 97, 116, 32, 109, 111, 110, 116, 104]] [], .asg (.name 3) (.bin .sub (.bin .add (.bin .add (.call (.glob "year_start") [(.var 0)]) (.call (.glob "sum") [(.comp (.call (.glob "month_days") [(.var 3), (.var 1)]) (.name 1) (.range2 (.int (1)) (.var 1)) none [none, none, none, some 0])])) (.var 2)) (.int (1))), .expr (.call (.glob "need_day") [(.var 3)]), .ret (.var 3)]⟩
noncomputable def zlawzday : FnD := ⟨1, 2, [.asg (.name 1) (.list [(.int (0)), (.int (31)), (.int (58)), (.int (59)), (.int (60)), (.int (365)), (.int (366)), (.int (36524)), (.int (36583)), (.int (36584)), (.int (73048)), (.int (73049)), (.int (99711)), (.int (99712)), (.int (99998)), (.int (99999))]), .asg (.name 1) (.bin .add (.var 1) (.list [(.int (36889)), (.int (36890)), (.int (73413)), (.int (73414))])), .ite (.cmp .eq (.bin .mod (.var 0) (.int (3))) (.int (1))) [.ret (.sub (.var 1) (.bin .mod (.bin .fdiv (.var 0) (.int (3))) (.int (20))))] [], .ret (.bin .mod (.bin .fdiv (.var 0) (.int (3))) (.int (100000)))]⟩
noncomputable def zlawzlength : FnD := ⟨2, 4, [.asg (.name 2) (.sub (.list [(.int (31)), (.int (28)), (.int (31)), (.int (30)), (.int (31)), (.int (30)), (.int (31)), (.int (31)), (.int (30)), (.int (31)), (.int (30)), (.int (31))]) (.bin .sub (.var 1) (.int (1)))), .asg (.name 3) (.and [(.cmp .eq (.bin .mod (.var 0) (.int (4))) (.int (0))), (.or [(.cmp .gt (.bin .mod (.var 0) (.int (100))) (.int (0))), (.cmp .eq (.bin .mod (.var 0) (.int (400))) (.int (0)))])]), .ite (.and [(.cmp .eq (.var 1) (.int (2))), (.var 3)]) [.ret (.int (29))] [], .ret (.var 2)]⟩
noncomputable def zlawzdateL0 : List S := [.asg (.name 0) (.bin .sub (.var 0) (.call (.glob "_law_length") [(.var 1), (.var 2)])), .asg (.name 2) (.bin .add (.var 2) (.int (1)))]
noncomputable def zlawzdateL1 : List S := [.asg (.name 0) (.bin .sub (.bin .sub (.var 0) (.int (337))) (.call (.glob "_law_length") [(.var 1), (.int (2))])), .asg (.name 1) (.bin .add (.var 1) (.int (1)))]
noncomputable def zlawzdate : FnD := ⟨1, 4, [.asg (.name 1) (.int (2000)), .loop (.cmp .ge (.var 0) (.bin .add (.int (337)) (.call (.glob "_law_length") [(.var 1), (.int (2))]))) zlawzdateL1, .asg (.name 2) (.int (1)), .loop (.cmp .ge (.var 0) (.call (.glob "_law_length") [(.var 1), (.var 2)])) zlawzdateL0, .ret (.tup [(.var 1), (.var 2), (.bin .add (.var 0) (.int (1)))])]⟩
noncomputable def zlawzrefused : FnD := ⟨2, 5, [.try [.ite (.cmp .is (.var 0) .none) [.expr (.call (.glob "month_of") [(.var 1)])] [.expr (.call (.glob "day_of") [(.sub (.var 0) (.int (0))), (.sub (.var 0) (.int (1))), (.var 1)])]] "BadDay" [.ret (.bool true)], .ret (.bool false)]⟩
noncomputable def zlawznone : FnD := ⟨2, 7, [.asg (.name 2) (.bin .add (.int (1996)) (.bin .mod (.var 0) (.int (282)))), .asg (.name 3) (.bin .sub (.bin .mod (.var 1) (.int (16))) (.int (1))), .asg (.name 4) (.bin .add (.int (1)) (.bin .mod (.bin .fdiv (.var 0) (.int (282))) (.int (31)))), .ite (.cmp .eq (.bin .mod (.bin .fdiv (.var 0) (.int (8742))) (.int (5))) (.int (1))) [.asg (.name 5) (.sub (.list [(.bool true), (.str [50]), .none, (.bin .add (.int (2024)) (.bin .pow (.int (10)) (.int (6)))), (.bin .sub (.int (0)) (.int (2024)))]) (.bin .mod (.bin .fdiv (.var 1) (.int (16))) (.int (5)))), .ret (.and [(.call (.glob "_law_refused") [(.tup [(.var 5), (.bin .add (.int (1)) (.bin .mod (.var 0) (.int (12))))]), (.var 4)]), (.call (.glob "_law_refused") [(.tup [(.bin .add (.int (2000)) (.bin .mod (.var 0) (.int (274)))), (.var 5)]), (.var 4)])])] [], .ite (.and [(.cmp .le (.int (2000)) (.var 2)), (.cmp .le (.var 2) (.int (2273))), (.cmp .le (.int (1)) (.var 3)), (.cmp .le (.var 3) (.int (12)))]) [.asg (.name 3) (.sub (.list [(.int (0)), (.neg (.int (1))), (.int (13)), (.bin .sub (.int (0)) (.bin .mod (.bin .fdiv (.var 0) (.int (282))) (.int (12)))), (.bin .add (.int (13)) (.bin .mod (.bin .fdiv (.var 0) (.int (282))) (.int (12))))]) (.bin .mod (.bin .fdiv (.var 1) (.int (16))) (.int (5))))] [], .ret (.call (.glob "_law_refused") [(.tup [(.var 2), (.var 3)]), (.var 4)])]⟩
noncomputable def zlawznext : FnD := ⟨2, 2, [.ite (.cmp .lt (.sub (.var 0) (.int (2))) (.var 1)) [.ret (.tup [(.sub (.var 0) (.int (0))), (.sub (.var 0) (.int (1))), (.bin .add (.sub (.var 0) (.int (2))) (.int (1)))])] [], .ite (.cmp .lt (.sub (.var 0) (.int (1))) (.int (12))) [.ret (.tup [(.sub (.var 0) (.int (0))), (.bin .add (.sub (.var 0) (.int (1))) (.int (1))), (.int (1))])] [], .ret (.tup [(.bin .add (.sub (.var 0) (.int (0))) (.int (1))), (.int (1)), (.int (1))])]⟩
noncomputable def lawT2 : List S := [.asg (.name 6) (.bin .sub (.bin .mod (.call (.glob "_law_cell_at") [(.var 0), (.int (2))]) (.int (36))) (.int (2))), .ite (.not (.cmp2 .le .le (.int (1)) (.var 6) (.var 5))) [.ret (.call (.glob "_law_refused") [(.var 4), (.var 6)])] [], .ite (.cmp .gt (.bin .add (.bin .sub (.var 1) (.sub (.var 4) (.int (2)))) (.var 6)) (.int (99999))) [.ret (.call (.glob "_law_refused") [(.var 4), (.var 6)])] [], .ite (.cmp .ne (.call (.glob "day_of") [(.sub (.var 4) (.int (0))), (.sub (.var 4) (.int (1))), (.var 6)]) (.bin .add (.bin .sub (.var 1) (.sub (.var 4) (.int (2)))) (.var 6))) [.ret (.bool false)] [], .ret (.or [(.cmp .eq (.var 1) (.int (99999))), (.cmp .eq (.call (.glob "month_of") [(.bin .add (.var 1) (.int (1)))]) (.call (.glob "_law_next") [(.var 4), (.var 5)]))])]
noncomputable def lawT : List S := .asg (.name 4) (.call (.glob "month_of") [(.var 1)]) :: .ite (.or [(.not (.call (.glob "isinstance") [(.var 4), (.glob "tuple")])), (.cmp .ne (.comp (.call (.glob "_law_whole") [(.var 1)]) (.name 1) (.of (.var 4)) none [none, none, none]) (.list [(.bool true), (.bool true), (.bool true)]))]) [.ret (.bool false)] [] :: .ite (.cmp .ne (.var 4) (.call (.glob "_law_date") [(.var 1)])) [.ret (.bool false)] [] :: .asg (.name 5) (.call (.glob "month_days") [(.sub (.var 4) (.int (0))), (.sub (.var 4) (.int (1)))]) :: .ite (.or [(.cmp .ne (.call (.glob "day_of") [(.sub (.var 4) (.int (0))), (.sub (.var 4) (.int (1))), (.sub (.var 4) (.int (2)))]) (.var 1)), (.cmp .ne (.call (.glob "month_of") [(.int (0))]) (.tup [(.int (2000)), (.int (1)), (.int (1))])), (.not (.cmp2 .le .le (.int (1)) (.sub (.var 4) (.int (2))) (.var 5)))]) [.ret (.bool false)] [] :: lawT2
noncomputable def law : FnD := ⟨1, 18, .asg (.name 1) (.call (.glob "_law_day") [(.call (.glob "_law_cell_at") [(.var 0), (.int (0))])]) :: .asg (.name 2) (.call (.glob "_law_cell_at") [(.var 0), (.int (1))]) :: .ite (.cmp .eq (.bin .mod (.var 2) (.int (6))) (.int (1))) [.asg (.name 3) (.bin .mod (.bin .fdiv (.var 2) (.int (42))) (.bin .pow (.int (10)) (.int (9)))), .ret (.call (.glob "_law_refused") [.none, (.sub (.list [(.neg (.int (1))), (.int (100000)), (.bool true), (.str [48]), .none, (.bin .add (.int (100000)) (.var 3)), (.bin .sub (.neg (.int (1))) (.var 3))]) (.bin .mod (.bin .fdiv (.var 2) (.int (6))) (.int (7))))])] [] :: .ite (.cmp .eq (.bin .mod (.var 2) (.int (6))) (.int (2))) [.ret (.call (.glob "_law_none") [(.bin .fdiv (.var 2) (.int (6))), (.call (.glob "_law_cell_at") [(.var 0), (.int (2))])])] [] :: lawT⟩

structure Env02 (P : Prog) : Prop extends EnvC P where
  fcell : P.fn "_law_cell_at" = some zlawzcellzat
  fwhole : P.fn "_law_whole" = some zlawzwhole
  fday : P.fn "_law_day" = some zlawzday
  flength : P.fn "_law_length" = some zlawzlength
  fdate : P.fn "_law_date" = some zlawzdate
  frefused : P.fn "_law_refused" = some zlawzrefused
  fnone : P.fn "_law_none" = some zlawznone
  fnext : P.fn "_law_next" = some zlawznext
  fdayof : P.fn "day_of" = some dayzof
  flaw : P.fn "law" = some law
  gcell : P.glob "_law_cell_at" = some (.fn "_law_cell_at")
  gwhole : P.glob "_law_whole" = some (.fn "_law_whole")
  gday : P.glob "_law_day" = some (.fn "_law_day")
  glength : P.glob "_law_length" = some (.fn "_law_length")
  gdate : P.glob "_law_date" = some (.fn "_law_date")
  grefused : P.glob "_law_refused" = some (.fn "_law_refused")
  gnone : P.glob "_law_none" = some (.fn "_law_none")
  gnext : P.glob "_law_next" = some (.fn "_law_next")
  gdayof : P.glob "day_of" = some (.fn "day_of")
  glen : P.glob "len" = some (.bi "len")
  gsum : P.glob "sum" = some (.bi "sum")
  gtuple : P.glob "tuple" = some (.ty "tuple")
  exc : P.exc "BadDay" = true
  cat : catches P "BadDay" "BadDay" = true
  ns : P.ns.length ≤ 63

section
variable {P : Prog} {n : Nat} {hd : Bool} {σ σ' : Store}
theorem rb_exc {C' : Bool → V → List V → Store → Out V} {d : FnD} {as : List V} {c : Str} {ℓ' : Loc} (hl : as.length = d.np) (h : exSs P C' d.body hd (as.map some ++ List.replicate (d.nl - d.np) none) σ = .exc c ℓ' σ') : runBody P C' d hd as σ = .exc c σ' := by
  unfold runBody; rw [if_pos hl, h]
/-- what is no whole number from l to m -/
inductive NotW (l m : Int) : V → Prop
  | lo {a : Int} (h : a < l) : NotW l m (.int a)
  | hi {a : Int} (h : m < a) : NotW l m (.int a)
  | bool (b : Bool) : NotW l m (.bool b)
  | str (s : List Nat) : NotW l m (.str s)
  | none : NotW l m .none
theorem sp_iswN (H : EnvC P) {v : V} {l m : Int} (h : NotW l m v) : callN P (n + 2) hd (.fn "is_whole") [v, .int l, .int m] σ = .ok (.bool false) σ := by
  rw [callN_fn H.fisw]
  refine rb_ret rfl ?_
  cases h with
  | lo h => simp [cont_exc, bindS_exc, bind_exc, ite_exc, ex_try, try_next, ex_nil, ex_cons, cont_next, cont_ret, ex_asg, ex_expr, ex_ret, ex_ite, ite_t, ite_f, ite_d, ex_loop, asg_name, src_of, ev_int, ev_boolc, ev_nonec, ev_var, ev_glob, ev_bin, ev_neg, ev_not, ev_and, ev_or, ep_cmp, ev_cmp2, ev_call, ev_sub, ev_list, ev_tup, es_nil, es_cons, and_one, and_cons, or_one, or_cons, eb_def, look_some, andV_t, andV_f, andV_d, orV_t, orV_f, orV_d, orV_n, bind_ok, bindS_ok, ofOpt_some, bin_add, bin_sub, bin_mul, bin_fdiv, bin_mod, bin_pow9, bin_pow6, cmp_lt, cmp_le, cmp_gt, cmp_ge, cmp_eq, cmp_ne, truth_bool, List.map_cons, List.map_nil, List.replicate, List.cons_append, List.nil_append, gt0, st0, gt1, st1, gt2, st2, gt3, st3, gt4, st4, gt5, st5, gt6, st6, gt7, st7, gt8, st8, gt9, st9, gt10, st10, gt11, st11, gt12, st12, gt13, st13, gt14, st14, gt15, st15, gt16, st16, gt17, st17, gt18, st18, gt19, st19, gt20, st20, iszwhole, H.gisi, H.gint, H.gbool, isi_ii, isi_ib, show ¬ l ≤ _ from Int.not_le.mpr h]
  | @hi a h => by_cases q : l ≤ a <;> simp [cont_exc, bindS_exc, bind_exc, ite_exc, ex_try, try_next, ex_nil, ex_cons, cont_next, cont_ret, ex_asg, ex_expr, ex_ret, ex_ite, ite_t, ite_f, ite_d, ex_loop, asg_name, src_of, ev_int, ev_boolc, ev_nonec, ev_var, ev_glob, ev_bin, ev_neg, ev_not, ev_and, ev_or, ep_cmp, ev_cmp2, ev_call, ev_sub, ev_list, ev_tup, es_nil, es_cons, and_one, and_cons, or_one, or_cons, eb_def, look_some, andV_t, andV_f, andV_d, orV_t, orV_f, orV_d, orV_n, bind_ok, bindS_ok, ofOpt_some, bin_add, bin_sub, bin_mul, bin_fdiv, bin_mod, bin_pow9, bin_pow6, cmp_lt, cmp_le, cmp_gt, cmp_ge, cmp_eq, cmp_ne, truth_bool, List.map_cons, List.map_nil, List.replicate, List.cons_append, List.nil_append, gt0, st0, gt1, st1, gt2, st2, gt3, st3, gt4, st4, gt5, st5, gt6, st6, gt7, st7, gt8, st8, gt9, st9, gt10, st10, gt11, st11, gt12, st12, gt13, st13, gt14, st14, gt15, st15, gt16, st16, gt17, st17, gt18, st18, gt19, st19, gt20, st20, iszwhole, H.gisi, H.gint, H.gbool, isi_ii, isi_ib, q, show ¬ a ≤ m from Int.not_le.mpr h]
  | bool b => simp [cont_exc, bindS_exc, bind_exc, ite_exc, ex_try, try_next, ex_nil, ex_cons, cont_next, cont_ret, ex_asg, ex_expr, ex_ret, ex_ite, ite_t, ite_f, ite_d, ex_loop, asg_name, src_of, ev_int, ev_boolc, ev_nonec, ev_var, ev_glob, ev_bin, ev_neg, ev_not, ev_and, ev_or, ep_cmp, ev_cmp2, ev_call, ev_sub, ev_list, ev_tup, es_nil, es_cons, and_one, and_cons, or_one, or_cons, eb_def, look_some, andV_t, andV_f, andV_d, orV_t, orV_f, orV_d, orV_n, bind_ok, bindS_ok, ofOpt_some, bin_add, bin_sub, bin_mul, bin_fdiv, bin_mod, bin_pow9, bin_pow6, cmp_lt, cmp_le, cmp_gt, cmp_ge, cmp_eq, cmp_ne, truth_bool, List.map_cons, List.map_nil, List.replicate, List.cons_append, List.nil_append, gt0, st0, gt1, st1, gt2, st2, gt3, st3, gt4, st4, gt5, st5, gt6, st6, gt7, st7, gt8, st8, gt9, st9, gt10, st10, gt11, st11, gt12, st12, gt13, st13, gt14, st14, gt15, st15, gt16, st16, gt17, st17, gt18, st18, gt19, st19, gt20, st20, iszwhole, H.gisi, H.gint, H.gbool, isi_bi, isi_bb]
  | str s => simp [cont_exc, bindS_exc, bind_exc, ite_exc, ex_try, try_next, ex_nil, ex_cons, cont_next, cont_ret, ex_asg, ex_expr, ex_ret, ex_ite, ite_t, ite_f, ite_d, ex_loop, asg_name, src_of, ev_int, ev_boolc, ev_nonec, ev_var, ev_glob, ev_bin, ev_neg, ev_not, ev_and, ev_or, ep_cmp, ev_cmp2, ev_call, ev_sub, ev_list, ev_tup, es_nil, es_cons, and_one, and_cons, or_one, or_cons, eb_def, look_some, andV_t, andV_f, andV_d, orV_t, orV_f, orV_d, orV_n, bind_ok, bindS_ok, ofOpt_some, bin_add, bin_sub, bin_mul, bin_fdiv, bin_mod, bin_pow9, bin_pow6, cmp_lt, cmp_le, cmp_gt, cmp_ge, cmp_eq, cmp_ne, truth_bool, List.map_cons, List.map_nil, List.replicate, List.cons_append, List.nil_append, gt0, st0, gt1, st1, gt2, st2, gt3, st3, gt4, st4, gt5, st5, gt6, st6, gt7, st7, gt8, st8, gt9, st9, gt10, st10, gt11, st11, gt12, st12, gt13, st13, gt14, st14, gt15, st15, gt16, st16, gt17, st17, gt18, st18, gt19, st19, gt20, st20, iszwhole, H.gisi, H.gint, H.gbool, isi_si]
  | none => simp [cont_exc, bindS_exc, bind_exc, ite_exc, ex_try, try_next, ex_nil, ex_cons, cont_next, cont_ret, ex_asg, ex_expr, ex_ret, ex_ite, ite_t, ite_f, ite_d, ex_loop, asg_name, src_of, ev_int, ev_boolc, ev_nonec, ev_var, ev_glob, ev_bin, ev_neg, ev_not, ev_and, ev_or, ep_cmp, ev_cmp2, ev_call, ev_sub, ev_list, ev_tup, es_nil, es_cons, and_one, and_cons, or_one, or_cons, eb_def, look_some, andV_t, andV_f, andV_d, orV_t, orV_f, orV_d, orV_n, bind_ok, bindS_ok, ofOpt_some, bin_add, bin_sub, bin_mul, bin_fdiv, bin_mod, bin_pow9, bin_pow6, cmp_lt, cmp_le, cmp_gt, cmp_ge, cmp_eq, cmp_ne, truth_bool, List.map_cons, List.map_nil, List.replicate, List.cons_append, List.nil_append, gt0, st0, gt1, st1, gt2, st2, gt3, st3, gt4, st4, gt5, st5, gt6, st6, gt7, st7, gt8, st8, gt9, st9, gt10, st10, gt11, st11, gt12, st12, gt13, st13, gt14, st14, gt15, st15, gt16, st16, gt17, st17, gt18, st18, gt19, st19, gt20, st20, iszwhole, H.gisi, H.gint, H.gbool, isi_ni]
theorem sp_needN (H : Env02 P) {v : V} (h : NotW 0 99999 v) : callN P (n + 3) false (.fn "need_day") [v] σ = .exc "BadDay" σ := by
  rw [callN_fn H.fneed]
  refine rb_exc (ℓ' := [some v, none, none, none]) rfl ?_
  simp [cont_exc, bindS_exc, bind_exc, ite_exc, ex_try, try_next, ex_nil, ex_cons, cont_next, cont_ret, ex_asg, ex_expr, ex_ret, ex_ite, ite_t, ite_f, ite_d, ex_loop, asg_name, src_of, ev_int, ev_boolc, ev_nonec, ev_var, ev_glob, ev_bin, ev_neg, ev_not, ev_and, ev_or, ep_cmp, ev_cmp2, ev_call, ev_sub, ev_list, ev_tup, es_nil, es_cons, and_one, and_cons, or_one, or_cons, eb_def, look_some, andV_t, andV_f, andV_d, orV_t, orV_f, orV_d, orV_n, bind_ok, bindS_ok, ofOpt_some, bin_add, bin_sub, bin_mul, bin_fdiv, bin_mod, bin_pow9, bin_pow6, cmp_lt, cmp_le, cmp_gt, cmp_ge, cmp_eq, cmp_ne, truth_bool, List.map_cons, List.map_nil, List.replicate, List.cons_append, List.nil_append, gt0, st0, gt1, st1, gt2, st2, gt3, st3, gt4, st4, gt5, st5, gt6, st6, gt7, st7, gt8, st8, gt9, st9, gt10, st10, gt11, st11, gt12, st12, gt13, st13, gt14, st14, gt15, st15, gt16, st16, gt17, st17, gt18, st18, gt19, st19, gt20, st20, needzday, H.gisw, H.gmost, sp_iswN H.toEnvC h, ex_raise H.exc]
theorem sp_moN (H : Env02 P) {v : V} (h : NotW 0 99999 v) : callN P (n + 4) false (.fn "month_of") [v] σ = .exc "BadDay" σ := by
  rw [callN_fn H.fmo]
  refine rb_exc (ℓ' := [some v, none, none, none, none, none, none, none]) rfl ?_
  simp [cont_exc, bindS_exc, bind_exc, ite_exc, ex_try, try_next, ex_nil, ex_cons, cont_next, cont_ret, ex_asg, ex_expr, ex_ret, ex_ite, ite_t, ite_f, ite_d, ex_loop, asg_name, src_of, ev_int, ev_boolc, ev_nonec, ev_var, ev_glob, ev_bin, ev_neg, ev_not, ev_and, ev_or, ep_cmp, ev_cmp2, ev_call, ev_sub, ev_list, ev_tup, es_nil, es_cons, and_one, and_cons, or_one, or_cons, eb_def, look_some, andV_t, andV_f, andV_d, orV_t, orV_f, orV_d, orV_n, bind_ok, bindS_ok, ofOpt_some, bin_add, bin_sub, bin_mul, bin_fdiv, bin_mod, bin_pow9, bin_pow6, cmp_lt, cmp_le, cmp_gt, cmp_ge, cmp_eq, cmp_ne, truth_bool, List.map_cons, List.map_nil, List.replicate, List.cons_append, List.nil_append, gt0, st0, gt1, st1, gt2, st2, gt3, st3, gt4, st4, gt5, st5, gt6, st6, gt7, st7, gt8, st8, gt9, st9, gt10, st10, gt11, st11, gt12, st12, gt13, st13, gt14, st14, gt15, st15, gt16, st16, gt17, st17, gt18, st18, gt19, st19, gt20, st20, monthzof, H.gneed, sp_needN H h]
theorem sp_mdY (H : Env02 P) {v w : V} (h : NotW 2000 2273 v) : callN P (n + 3) false (.fn "month_days") [v, w] σ = .exc "BadDay" σ := by
  rw [callN_fn H.fmd]
  refine rb_exc (ℓ' := [some v, some w, none, none, none, none, none]) rfl ?_
  simp [cont_exc, bindS_exc, bind_exc, ite_exc, ex_try, try_next, ex_nil, ex_cons, cont_next, cont_ret, ex_asg, ex_expr, ex_ret, ex_ite, ite_t, ite_f, ite_d, ex_loop, asg_name, src_of, ev_int, ev_boolc, ev_nonec, ev_var, ev_glob, ev_bin, ev_neg, ev_not, ev_and, ev_or, ep_cmp, ev_cmp2, ev_call, ev_sub, ev_list, ev_tup, es_nil, es_cons, and_one, and_cons, or_one, or_cons, eb_def, look_some, andV_t, andV_f, andV_d, orV_t, orV_f, orV_d, orV_n, bind_ok, bindS_ok, ofOpt_some, bin_add, bin_sub, bin_mul, bin_fdiv, bin_mod, bin_pow9, bin_pow6, cmp_lt, cmp_le, cmp_gt, cmp_ge, cmp_eq, cmp_ne, truth_bool, List.map_cons, List.map_nil, List.replicate, List.cons_append, List.nil_append, gt0, st0, gt1, st1, gt2, st2, gt3, st3, gt4, st4, gt5, st5, gt6, st6, gt7, st7, gt8, st8, gt9, st9, gt10, st10, gt11, st11, gt12, st12, gt13, st13, gt14, st14, gt15, st15, gt16, st16, gt17, st17, gt18, st18, gt19, st19, gt20, st20, monthzdays, H.gisw, H.gfirst, H.glast, sp_iswN H.toEnvC h, ex_raise H.exc]
theorem sp_mdM (H : Env02 P) {y : Int} {w : V} (h1 : 2000 ≤ y) (h2 : y ≤ 2273) (h : NotW 1 12 w) : callN P (n + 3) false (.fn "month_days") [.int y, w] σ = .exc "BadDay" σ := by
  rw [callN_fn H.fmd]
  refine rb_exc (ℓ' := [some (.int y), some w, none, none, none, none, none]) rfl ?_
  simp [cont_exc, bindS_exc, bind_exc, ite_exc, ex_try, try_next, ex_nil, ex_cons, cont_next, cont_ret, ex_asg, ex_expr, ex_ret, ex_ite, ite_t, ite_f, ite_d, ex_loop, asg_name, src_of, ev_int, ev_boolc, ev_nonec, ev_var, ev_glob, ev_bin, ev_neg, ev_not, ev_and, ev_or, ep_cmp, ev_cmp2, ev_call, ev_sub, ev_list, ev_tup, es_nil, es_cons, and_one, and_cons, or_one, or_cons, eb_def, look_some, andV_t, andV_f, andV_d, orV_t, orV_f, orV_d, orV_n, bind_ok, bindS_ok, ofOpt_some, bin_add, bin_sub, bin_mul, bin_fdiv, bin_mod, bin_pow9, bin_pow6, cmp_lt, cmp_le, cmp_gt, cmp_ge, cmp_eq, cmp_ne, truth_bool, List.map_cons, List.map_nil, List.replicate, List.cons_append, List.nil_append, gt0, st0, gt1, st1, gt2, st2, gt3, st3, gt4, st4, gt5, st5, gt6, st6, gt7, st7, gt8, st8, gt9, st9, gt10, st10, gt11, st11, gt12, st12, gt13, st13, gt14, st14, gt15, st15, gt16, st16, gt17, st17, gt18, st18, gt19, st19, gt20, st20, monthzdays, H.gisw, H.gfirst, H.glast, sp_isw H.toEnvC h1 h2, sp_iswN H.toEnvC h, ex_raise H.exc]
theorem sp_doM (H : Env02 P) {v w u : V} (h : ∀ σ, callN P (n + 3) false (.fn "month_days") [v, w] σ = .exc "BadDay" σ) : callN P (n + 4) false (.fn "day_of") [v, w, u] σ = .exc "BadDay" σ := by
  rw [callN_fn H.fdayof]
  refine rb_exc (ℓ' := [some v, some w, some u, none, none, none, none, none, none, none, none]) rfl ?_
  simp [cont_exc, bindS_exc, bind_exc, ite_exc, ex_try, try_next, ex_nil, ex_cons, cont_next, cont_ret, ex_asg, ex_expr, ex_ret, ex_ite, ite_t, ite_f, ite_d, ex_loop, asg_name, src_of, ev_int, ev_boolc, ev_nonec, ev_var, ev_glob, ev_bin, ev_neg, ev_not, ev_and, ev_or, ep_cmp, ev_cmp2, ev_call, ev_sub, ev_list, ev_tup, es_nil, es_cons, and_one, and_cons, or_one, or_cons, eb_def, look_some, andV_t, andV_f, andV_d, orV_t, orV_f, orV_d, orV_n, bind_ok, bindS_ok, ofOpt_some, bin_add, bin_sub, bin_mul, bin_fdiv, bin_mod, bin_pow9, bin_pow6, cmp_lt, cmp_le, cmp_gt, cmp_ge, cmp_eq, cmp_ne, truth_bool, List.map_cons, List.map_nil, List.replicate, List.cons_append, List.nil_append, gt0, st0, gt1, st1, gt2, st2, gt3, st3, gt4, st4, gt5, st5, gt6, st6, gt7, st7, gt8, st8, gt9, st9, gt10, st10, gt11, st11, gt12, st12, gt13, st13, gt14, st14, gt15, st15, gt16, st16, gt17, st17, gt18, st18, gt19, st19, gt20, st20, dayzof, H.gisw, H.gmd, h]
theorem sp_doN (H : Env02 P) {y m : Int} {k : Nat} {u : V} (hm : m = k + 1) (h1 : 2000 ≤ y) (h2 : y ≤ 2273) (hk : k < 12) (h : NotW 1 (mlen y (k + 1)) u) : callN P (n + 4) false (.fn "day_of") [.int y, .int m, u] σ = .exc "BadDay" σ := by
  rw [callN_fn H.fdayof]
  refine rb_exc (ℓ' := [some (.int y), some (.int m), some u, none, none, none, none, none, none, none, none]) rfl ?_
  have sm := fun σ => sp_md' (P := P) (n := n) (hd := false) (σ := σ) H.toEnvC (y := y) (m := m) hm h1 h2 hk
  simp [cont_exc, bindS_exc, bind_exc, ite_exc, ex_try, try_next, ex_nil, ex_cons, cont_next, cont_ret, ex_asg, ex_expr, ex_ret, ex_ite, ite_t, ite_f, ite_d, ex_loop, asg_name, src_of, ev_int, ev_boolc, ev_nonec, ev_var, ev_glob, ev_bin, ev_neg, ev_not, ev_and, ev_or, ep_cmp, ev_cmp2, ev_call, ev_sub, ev_list, ev_tup, es_nil, es_cons, and_one, and_cons, or_one, or_cons, eb_def, look_some, andV_t, andV_f, andV_d, orV_t, orV_f, orV_d, orV_n, bind_ok, bindS_ok, ofOpt_some, bin_add, bin_sub, bin_mul, bin_fdiv, bin_mod, bin_pow9, bin_pow6, cmp_lt, cmp_le, cmp_gt, cmp_ge, cmp_eq, cmp_ne, truth_bool, List.map_cons, List.map_nil, List.replicate, List.cons_append, List.nil_append, gt0, st0, gt1, st1, gt2, st2, gt3, st3, gt4, st4, gt5, st5, gt6, st6, gt7, st7, gt8, st8, gt9, st9, gt10, st10, gt11, st11, gt12, st12, gt13, st13, gt14, st14, gt15, st15, gt16, st16, gt17, st17, gt18, st18, gt19, st19, gt20, st20, dayzof, H.gisw, H.gmd, sm, sp_iswN H.toEnvC h, ex_raise H.exc]
end
end Mine
end

section
set_option tactic.hygienic false
set_option bootstrap.genMatcherCode false
set_option maxRecDepth 100000
set_option linter.unusedSimpArgs false
set_option maxHeartbeats 2000000
set_option linter.unusedVariables false
set_option linter.unusedSimpArgs false
namespace Mine
open PySem
section
variable {P : Prog} {n : Nat} {hd : Bool} {σ σ' : Store}
noncomputable def gMl (y : Int) : V → V
  | .int i => .int (mlen y i.toNat)
  | v => v
theorem pre_sum (y : Int) : ∀ k : Nat, ((List.range k).map fun i => mlen y (i + 1)).sum = preN y k
  | 0 => rfl
  | k + 1 => by
    rw [List.range_succ, List.map_append, List.sum_append, pre_sum y k]
    simp [preN]
theorem map_gMl (y : Int) (k : Nat) : ((rangeL 1 ((k : Int) + 1)).filter fun _ => true).map (gMl y) = ((List.range k).map fun i => mlen y (i + 1)).map V.int := by
  rw [List.filter_eq_self.mpr (fun _ _ => rfl)]
  unfold rangeL
  rw [List.map_map, List.map_map, show ((k : Int) + 1 - 1).toNat = k by omega]
  refine List.map_congr_left fun i _ => ?_
  show gMl y (.int (1 + (i : Int))) = .int (mlen y (i + 1))
  unfold gMl
  simp only
  rw [show (1 + (i : Int)).toNat = i + 1 by omega]
/-- day_of up to need_day -/
theorem sp_dopre (H : Env02 P) {y m u : Int} {k : Nat} (hm : m = k + 1) (h1 : 2000 ≤ y) (h2 : y ≤ 2273) (hk : k < 12) (u1 : 1 ≤ u) (u2 : u ≤ mlen y (k + 1)) : ∃ σ', Ext σ σ' ∧ exSs P (callN P (n + 3)) dayzof.body false [some (.int y), some (.int m), some (.int u), none, none, none, none, none, none, none, none] σ =
    exSs P (callN P (n + 3)) [.expr (.call (.glob "need_day") [(.var 3)]), .ret (.var 3)] false [some (.int y), some (.int m), some (.int u), some (.int (ys y + preN y k + u - 1)), none, none, none, none, none, none, none] σ' := by
  have hc := comp_items (P := P) (C := callN P (n + 3) false) (σ := σ) (t := .name 1) (c := none) (elt := .call (.glob "month_days") [(.var 3), (.var 1)]) (l := rangeL 1 m) (by rw [range_len]; omega) (p := fun _ => true) (g := gMl y) (fun ℓ => ∃ a b c, ℓ = [a, b, c, some (.int y)]) (ℓc := [none, none, none, some (.int y)])
    (fun v hv ℓ hJ => by
      obtain ⟨a, b, c, rfl⟩ := hJ
      obtain ⟨i, hi⟩ := List.getElem?_of_mem hv
      obtain ⟨rfl, hlt⟩ := range_get hi
      refine ⟨[a, some (.int (1 + i)), c, some (.int y)], rfl, ⟨_, _, _, rfl⟩, condC_none, fun _ => ?_⟩
      have sm := sp_md' (P := P) (n := n) (hd := false) (σ := σ) H.toEnvC (y := y) (m := 1 + i) (k := i) (by omega) h1 h2 (by omega)
      have e : gMl y (.int (1 + (i : Int))) = .int (mlen y (i + 1)) := by
        unfold gMl; simp only; rw [show (1 + (i : Int)).toNat = i + 1 by omega]
      rw [eltF_eq, e]
      simp -implicitDefEqProofs [cont_exc, bindS_exc, bind_exc, ite_exc, ex_try, try_next, ex_nil, ex_cons, cont_next, cont_ret, ex_asg, ex_expr, ex_ret, ex_ite, ite_t, ite_f, ite_d, ex_loop, asg_name, src_of, ev_int, ev_boolc, ev_nonec, ev_var, ev_glob, ev_bin, ev_neg, ev_not, ev_and, ev_or, ep_cmp, ev_cmp2, ev_call, ev_sub, ev_list, ev_tup, es_nil, es_cons, and_one, and_cons, or_one, or_cons, eb_def, look_some, andV_t, andV_f, andV_d, orV_t, orV_f, orV_d, orV_n, bind_ok, bindS_ok, ofOpt_some, bin_add, bin_sub, bin_mul, bin_fdiv, bin_mod, bin_pow9, bin_pow6, cmp_lt, cmp_le, cmp_gt, cmp_ge, cmp_eq, cmp_ne, truth_bool, List.map_cons, List.map_nil, List.replicate, List.cons_append, List.nil_append, gt0, st0, gt1, st1, gt2, st2, gt3, st3, gt4, st4, gt5, st5, gt6, st6, gt7, st7, gt8, st8, gt9, st9, gt10, st10, gt11, st11, gt12, st12, gt13, st13, gt14, st14, gt15, st15, gt16, st16, gt17, st17, gt18, st18, gt19, st19, gt20, st20, H.gmd, sm]) ⟨_, _, _, rfl⟩
  subst hm
  rw [map_gMl] at hc
  have g1 := app_get σ (.list (((List.range k).map fun i => mlen y (i + 1)).map V.int))
  have ks := call_sum (P := P) (m := n + 2) g1
  rw [pre_sum] at ks
  have sm := fun σ => sp_md' (P := P) (n := n) (hd := false) (σ := σ) H.toEnvC (y := y) (m := k + 1) rfl h1 h2 hk
  have sw := fun σ => sp_isw (P := P) (n := n + 1) (hd := false) (σ := σ) H.toEnvC (a := u) (l := 1) (m := mlen y (k + 1)) u1 u2
  refine ⟨σ ++ [.list (((List.range k).map fun i => mlen y (i + 1)).map V.int)], Ext.append _ _, ?_⟩
  simp -implicitDefEqProofs only [cont_exc, bindS_exc, bind_exc, ite_exc, ex_try, try_next, ex_nil, ex_cons, cont_next, cont_ret, ex_asg, ex_expr, ex_ret, ex_ite, ite_t, ite_f, ite_d, ex_loop, asg_name, src_of, ev_int, ev_boolc, ev_nonec, ev_var, ev_glob, ev_bin, ev_neg, ev_not, ev_and, ev_or, ep_cmp, ev_cmp2, ev_call, ev_sub, ev_list, ev_tup, es_nil, es_cons, and_one, and_cons, or_one, or_cons, eb_def, look_some, andV_t, andV_f, andV_d, orV_t, orV_f, orV_d, orV_n, bind_ok, bindS_ok, ofOpt_some, bin_add, bin_sub, bin_mul, bin_fdiv, bin_mod, bin_pow9, bin_pow6, cmp_lt, cmp_le, cmp_gt, cmp_ge, cmp_eq, cmp_ne, truth_bool, List.map_cons, List.map_nil, List.replicate, List.cons_append, List.nil_append, gt0, st0, gt1, st1, gt2, st2, gt3, st3, gt4, st4, gt5, st5, gt6, st6, gt7, st7, gt8, st8, gt9, st9, gt10, st10, gt11, st11, gt12, st12, gt13, st13, gt14, st14, gt15, st15, gt16, st16, gt17, st17, gt18, st18, gt19, st19, gt20, st20, dayzof, H.gisw, H.gmd, sm, sw, Bool.not_true, H.gys, sp_ys H.toEnvC, ev_comp', Option.bind_none, Option.bind_some, src_r2, rng2_ok (a := 1) (b := (k : Int) + 1) (by omega) (by omega) (by omega) (by omega), hc, H.gsum, ks, Option.join_some]
theorem sp_do (H : Env02 P) {y m u : Int} {k : Nat} (hm : m = k + 1) (h1 : 2000 ≤ y) (h2 : y ≤ 2273) (hk : k < 12) (u1 : 1 ≤ u) (u2 : u ≤ mlen y (k + 1)) (hD : ys y + preN y k + u - 1 ≤ 99999) : ∃ σ', callN P (n + 4) false (.fn "day_of") [.int y, .int m, .int u] σ = .ok (.int (ys y + preN y k + u - 1)) σ' ∧ Ext σ σ' := by
  rw [callN_fn H.fdayof]
  obtain ⟨σ', x, e⟩ := sp_dopre (n := n) (σ := σ) H hm h1 h2 hk u1 u2
  have p0 : 0 ≤ preN y k := pre_mono (a := 0) (Nat.zero_le _)
  have y0 := ys_mono h1
  have e0 : ys 2000 = 0 := by decide
  refine ⟨σ', rb_ret rfl ?_, x⟩
  refine e.trans ?_
  simp [cont_exc, bindS_exc, bind_exc, ite_exc, ex_try, try_next, ex_nil, ex_cons, cont_next, cont_ret, ex_asg, ex_expr, ex_ret, ex_ite, ite_t, ite_f, ite_d, ex_loop, asg_name, src_of, ev_int, ev_boolc, ev_nonec, ev_var, ev_glob, ev_bin, ev_neg, ev_not, ev_and, ev_or, ep_cmp, ev_cmp2, ev_call, ev_sub, ev_list, ev_tup, es_nil, es_cons, and_one, and_cons, or_one, or_cons, eb_def, look_some, andV_t, andV_f, andV_d, orV_t, orV_f, orV_d, orV_n, bind_ok, bindS_ok, ofOpt_some, bin_add, bin_sub, bin_mul, bin_fdiv, bin_mod, bin_pow9, bin_pow6, cmp_lt, cmp_le, cmp_gt, cmp_ge, cmp_eq, cmp_ne, truth_bool, List.map_cons, List.map_nil, List.replicate, List.cons_append, List.nil_append, gt0, st0, gt1, st1, gt2, st2, gt3, st3, gt4, st4, gt5, st5, gt6, st6, gt7, st7, gt8, st8, gt9, st9, gt10, st10, gt11, st11, gt12, st12, gt13, st13, gt14, st14, gt15, st15, gt16, st16, gt17, st17, gt18, st18, gt19, st19, gt20, st20, H.gneed, sp_need H.toEnvC (show 0 ≤ ys y + preN y k + u - 1 by omega) hD]
theorem sp_doX (H : Env02 P) {y m u : Int} {k : Nat} (hm : m = k + 1) (h1 : 2000 ≤ y) (h2 : y ≤ 2273) (hk : k < 12) (u1 : 1 ≤ u) (u2 : u ≤ mlen y (k + 1)) (hD : 99999 < ys y + preN y k + u - 1) : ∃ σ', callN P (n + 4) false (.fn "day_of") [.int y, .int m, .int u] σ = .exc "BadDay" σ' ∧ Ext σ σ' := by
  rw [callN_fn H.fdayof]
  obtain ⟨σ', x, e⟩ := sp_dopre (n := n) (σ := σ) H hm h1 h2 hk u1 u2
  refine ⟨σ', rb_exc (ℓ' := [some (.int y), some (.int m), some (.int u), some (.int (ys y + preN y k + u - 1)), none, none, none, none, none, none, none]) rfl ?_, x⟩
  refine e.trans ?_
  simp [cont_exc, bindS_exc, bind_exc, ite_exc, ex_try, try_next, ex_nil, ex_cons, cont_next, cont_ret, ex_asg, ex_expr, ex_ret, ex_ite, ite_t, ite_f, ite_d, ex_loop, asg_name, src_of, ev_int, ev_boolc, ev_nonec, ev_var, ev_glob, ev_bin, ev_neg, ev_not, ev_and, ev_or, ep_cmp, ev_cmp2, ev_call, ev_sub, ev_list, ev_tup, es_nil, es_cons, and_one, and_cons, or_one, or_cons, eb_def, look_some, andV_t, andV_f, andV_d, orV_t, orV_f, orV_d, orV_n, bind_ok, bindS_ok, ofOpt_some, bin_add, bin_sub, bin_mul, bin_fdiv, bin_mod, bin_pow9, bin_pow6, cmp_lt, cmp_le, cmp_gt, cmp_ge, cmp_eq, cmp_ne, truth_bool, List.map_cons, List.map_nil, List.replicate, List.cons_append, List.nil_append, gt0, st0, gt1, st1, gt2, st2, gt3, st3, gt4, st4, gt5, st5, gt6, st6, gt7, st7, gt8, st8, gt9, st9, gt10, st10, gt11, st11, gt12, st12, gt13, st13, gt14, st14, gt15, st15, gt16, st16, gt17, st17, gt18, st18, gt19, st19, gt20, st20, H.gneed, sp_needN H (.hi hD)]
theorem sp_ref0 (H : Env02 P) {v : V} (h : callN P (n + 4) false (.fn "month_of") [v] σ = .exc "BadDay" σ') : callN P (n + 5) false (.fn "_law_refused") [.none, v] σ = .ok (.bool true) σ' := by
  rw [callN_fn H.frefused]
  refine rb_ret rfl ?_
  have he : ∀ ℓ, exSs P (callN P (n + 4)) [.ret (.bool true)] true ℓ σ' = .ret (.bool true) σ' := fun ℓ => rfl
  simp [cont_exc, bindS_exc, bind_exc, ite_exc, ex_try, try_next, ex_nil, ex_cons, cont_next, cont_ret, ex_asg, ex_expr, ex_ret, ex_ite, ite_t, ite_f, ite_d, ex_loop, asg_name, src_of, ev_int, ev_boolc, ev_nonec, ev_var, ev_glob, ev_bin, ev_neg, ev_not, ev_and, ev_or, ep_cmp, ev_cmp2, ev_call, ev_sub, ev_list, ev_tup, es_nil, es_cons, and_one, and_cons, or_one, or_cons, eb_def, look_some, andV_t, andV_f, andV_d, orV_t, orV_f, orV_d, orV_n, bind_ok, bindS_ok, ofOpt_some, bin_add, bin_sub, bin_mul, bin_fdiv, bin_mod, bin_pow9, bin_pow6, cmp_lt, cmp_le, cmp_gt, cmp_ge, cmp_eq, cmp_ne, truth_bool, List.map_cons, List.map_nil, List.replicate, List.cons_append, List.nil_append, gt0, st0, gt1, st1, gt2, st2, gt3, st3, gt4, st4, gt5, st5, gt6, st6, gt7, st7, gt8, st8, gt9, st9, gt10, st10, gt11, st11, gt12, st12, gt13, st13, gt14, st14, gt15, st15, gt16, st16, gt17, st17, gt18, st18, gt19, st19, gt20, st20, zlawzrefused, is_none, isNoneV, H.gmo, h, try_exc H.cat (he _)]
theorem sp_ref1 (H : Env02 P) {a b v : V} {l : List V} (h : callN P (n + 4) false (.fn "day_of") [a, b, v] σ = .exc "BadDay" σ') : callN P (n + 5) false (.fn "_law_refused") [.tup (a :: b :: l), v] σ = .ok (.bool true) σ' := by
  rw [callN_fn H.frefused]
  refine rb_ret rfl ?_
  have he : ∀ ℓ, exSs P (callN P (n + 4)) [.ret (.bool true)] true ℓ σ' = .ret (.bool true) σ' := fun ℓ => rfl
  simp [cont_exc, bindS_exc, bind_exc, ite_exc, ex_try, try_next, ex_nil, ex_cons, cont_next, cont_ret, ex_asg, ex_expr, ex_ret, ex_ite, ite_t, ite_f, ite_d, ex_loop, asg_name, src_of, ev_int, ev_boolc, ev_nonec, ev_var, ev_glob, ev_bin, ev_neg, ev_not, ev_and, ev_or, ep_cmp, ev_cmp2, ev_call, ev_sub, ev_list, ev_tup, es_nil, es_cons, and_one, and_cons, or_one, or_cons, eb_def, look_some, andV_t, andV_f, andV_d, orV_t, orV_f, orV_d, orV_n, bind_ok, bindS_ok, ofOpt_some, bin_add, bin_sub, bin_mul, bin_fdiv, bin_mod, bin_pow9, bin_pow6, cmp_lt, cmp_le, cmp_gt, cmp_ge, cmp_eq, cmp_ne, truth_bool, List.map_cons, List.map_nil, List.replicate, List.cons_append, List.nil_append, gt0, st0, gt1, st1, gt2, st2, gt3, st3, gt4, st4, gt5, st5, gt6, st6, gt7, st7, gt8, st8, gt9, st9, gt10, st10, gt11, st11, gt12, st12, gt13, st13, gt14, st14, gt15, st15, gt16, st16, gt17, st17, gt18, st18, gt19, st19, gt20, st20, zlawzrefused, is_none, isNoneV, sub_t0, sub_t1, H.gdayof, h, try_exc H.cat (he _)]
end
end Mine
end

section
set_option tactic.hygienic false
set_option bootstrap.genMatcherCode false
set_option maxRecDepth 100000
set_option linter.unusedSimpArgs false
set_option maxHeartbeats 2000000
set_option linter.unusedVariables false
set_option linter.unusedSimpArgs false
namespace Mine
open PySem
section
variable {P : Prog} {n : Nat} {hd : Bool} {σ σ' : Store}
theorem sp_length (hf : P.fn "_law_length" = some zlawzlength) {y m : Int} {k : Nat} (hm : m = k + 1) (hk : k < 12) : callN P (n + 1) hd (.fn "_law_length") [.int y, .int m] σ = .ok (.int (mlen y (k + 1))) (σ ++ [.list (lenT.map .int)]) := by
  rw [callN_fn hf]
  refine rb_ret rfl ?_
  have s := sub_list (P := P) (i := m - 1) (app_get σ (.list (lenT.map .int)))
  rw [idx_ints (l := lenT) (i := m - 1) (by omega) (by simp [lenT]; omega) (by omega), show (m - 1).toNat = k by omega] at s
  have nn : lenT.map V.int = [.int 31, .int 28, .int 31, .int 30, .int 31, .int 30, .int 31, .int 31, .int 30, .int 31, .int 30, .int 31] := rfl
  have hl := leap_iff y
  by_cases c1 : m = 2
  · have k1 : k = 1 := by omega
    subst k1
    by_cases c2 : y % 4 = 0
    · by_cases c3 : y % 100 = 0
      · by_cases c4 : y % 400 = 0
        · have : mlen y 2 = 29 := by show 28 + leap y = 29; have := hl.mpr ⟨c2, .inr c4⟩; omega
          rw [nn] at s ⊢
          simp [cont_exc, bindS_exc, bind_exc, ite_exc, ex_try, try_next, ex_nil, ex_cons, cont_next, cont_ret, ex_asg, ex_expr, ex_ret, ex_ite, ite_t, ite_f, ite_d, ex_loop, asg_name, src_of, ev_int, ev_boolc, ev_nonec, ev_var, ev_glob, ev_bin, ev_neg, ev_not, ev_and, ev_or, ep_cmp, ev_cmp2, ev_call, ev_sub, ev_list, ev_tup, es_nil, es_cons, and_one, and_cons, or_one, or_cons, eb_def, look_some, andV_t, andV_f, andV_d, orV_t, orV_f, orV_d, orV_n, bind_ok, bindS_ok, ofOpt_some, bin_add, bin_sub, bin_mul, bin_fdiv, bin_mod, bin_pow9, bin_pow6, cmp_lt, cmp_le, cmp_gt, cmp_ge, cmp_eq, cmp_ne, truth_bool, List.map_cons, List.map_nil, List.replicate, List.cons_append, List.nil_append, gt0, st0, gt1, st1, gt2, st2, gt3, st3, gt4, st4, gt5, st5, gt6, st6, gt7, st7, gt8, st8, gt9, st9, gt10, st10, gt11, st11, gt12, st12, gt13, st13, gt14, st14, gt15, st15, gt16, st16, gt17, st17, gt18, st18, gt19, st19, gt20, st20, zlawzlength, eq_true c1, c2, c3, c4, this, s]
        · have q : ¬ leap y = 1 := fun q => by obtain ⟨_, z | z⟩ := hl.mp q <;> contradiction
          have e := lenT_at (y := y) (k := 1) (by omega) (fun z => q z.2)
          rw [e] at s
          rw [nn] at s ⊢
          simp [cont_exc, bindS_exc, bind_exc, ite_exc, ex_try, try_next, ex_nil, ex_cons, cont_next, cont_ret, ex_asg, ex_expr, ex_ret, ex_ite, ite_t, ite_f, ite_d, ex_loop, asg_name, src_of, ev_int, ev_boolc, ev_nonec, ev_var, ev_glob, ev_bin, ev_neg, ev_not, ev_and, ev_or, ep_cmp, ev_cmp2, ev_call, ev_sub, ev_list, ev_tup, es_nil, es_cons, and_one, and_cons, or_one, or_cons, eb_def, look_some, andV_t, andV_f, andV_d, orV_t, orV_f, orV_d, orV_n, bind_ok, bindS_ok, ofOpt_some, bin_add, bin_sub, bin_mul, bin_fdiv, bin_mod, bin_pow9, bin_pow6, cmp_lt, cmp_le, cmp_gt, cmp_ge, cmp_eq, cmp_ne, truth_bool, List.map_cons, List.map_nil, List.replicate, List.cons_append, List.nil_append, gt0, st0, gt1, st1, gt2, st2, gt3, st3, gt4, st4, gt5, st5, gt6, st6, gt7, st7, gt8, st8, gt9, st9, gt10, st10, gt11, st11, gt12, st12, gt13, st13, gt14, st14, gt15, st15, gt16, st16, gt17, st17, gt18, st18, gt19, st19, gt20, st20, zlawzlength, eq_true c1, c2, c3, c4, s]
      · have : mlen y 2 = 29 := by show 28 + leap y = 29; have := hl.mpr ⟨c2, .inl c3⟩; omega
        have c5 : 0 < y % 100 := by omega
        rw [nn] at s ⊢
        simp [cont_exc, bindS_exc, bind_exc, ite_exc, ex_try, try_next, ex_nil, ex_cons, cont_next, cont_ret, ex_asg, ex_expr, ex_ret, ex_ite, ite_t, ite_f, ite_d, ex_loop, asg_name, src_of, ev_int, ev_boolc, ev_nonec, ev_var, ev_glob, ev_bin, ev_neg, ev_not, ev_and, ev_or, ep_cmp, ev_cmp2, ev_call, ev_sub, ev_list, ev_tup, es_nil, es_cons, and_one, and_cons, or_one, or_cons, eb_def, look_some, andV_t, andV_f, andV_d, orV_t, orV_f, orV_d, orV_n, bind_ok, bindS_ok, ofOpt_some, bin_add, bin_sub, bin_mul, bin_fdiv, bin_mod, bin_pow9, bin_pow6, cmp_lt, cmp_le, cmp_gt, cmp_ge, cmp_eq, cmp_ne, truth_bool, List.map_cons, List.map_nil, List.replicate, List.cons_append, List.nil_append, gt0, st0, gt1, st1, gt2, st2, gt3, st3, gt4, st4, gt5, st5, gt6, st6, gt7, st7, gt8, st8, gt9, st9, gt10, st10, gt11, st11, gt12, st12, gt13, st13, gt14, st14, gt15, st15, gt16, st16, gt17, st17, gt18, st18, gt19, st19, gt20, st20, zlawzlength, eq_true c1, c2, c5, this, s]
    · have q : ¬ leap y = 1 := fun q => c2 (hl.mp q).1
      have e := lenT_at (y := y) (k := 1) (by omega) (fun z => q z.2)
      rw [e] at s
      rw [nn] at s ⊢
      simp [cont_exc, bindS_exc, bind_exc, ite_exc, ex_try, try_next, ex_nil, ex_cons, cont_next, cont_ret, ex_asg, ex_expr, ex_ret, ex_ite, ite_t, ite_f, ite_d, ex_loop, asg_name, src_of, ev_int, ev_boolc, ev_nonec, ev_var, ev_glob, ev_bin, ev_neg, ev_not, ev_and, ev_or, ep_cmp, ev_cmp2, ev_call, ev_sub, ev_list, ev_tup, es_nil, es_cons, and_one, and_cons, or_one, or_cons, eb_def, look_some, andV_t, andV_f, andV_d, orV_t, orV_f, orV_d, orV_n, bind_ok, bindS_ok, ofOpt_some, bin_add, bin_sub, bin_mul, bin_fdiv, bin_mod, bin_pow9, bin_pow6, cmp_lt, cmp_le, cmp_gt, cmp_ge, cmp_eq, cmp_ne, truth_bool, List.map_cons, List.map_nil, List.replicate, List.cons_append, List.nil_append, gt0, st0, gt1, st1, gt2, st2, gt3, st3, gt4, st4, gt5, st5, gt6, st6, gt7, st7, gt8, st8, gt9, st9, gt10, st10, gt11, st11, gt12, st12, gt13, st13, gt14, st14, gt15, st15, gt16, st16, gt17, st17, gt18, st18, gt19, st19, gt20, st20, zlawzlength, eq_true c1, c2, s]
  · have e := lenT_at (y := y) (k := k) hk (fun z => c1 (by omega))
    rw [e] at s
    rw [nn] at s ⊢
    by_cases c2 : y % 4 = 0
    · by_cases c5 : 0 < y % 100 <;> simp [cont_exc, bindS_exc, bind_exc, ite_exc, ex_try, try_next, ex_nil, ex_cons, cont_next, cont_ret, ex_asg, ex_expr, ex_ret, ex_ite, ite_t, ite_f, ite_d, ex_loop, asg_name, src_of, ev_int, ev_boolc, ev_nonec, ev_var, ev_glob, ev_bin, ev_neg, ev_not, ev_and, ev_or, ep_cmp, ev_cmp2, ev_call, ev_sub, ev_list, ev_tup, es_nil, es_cons, and_one, and_cons, or_one, or_cons, eb_def, look_some, andV_t, andV_f, andV_d, orV_t, orV_f, orV_d, orV_n, bind_ok, bindS_ok, ofOpt_some, bin_add, bin_sub, bin_mul, bin_fdiv, bin_mod, bin_pow9, bin_pow6, cmp_lt, cmp_le, cmp_gt, cmp_ge, cmp_eq, cmp_ne, truth_bool, List.map_cons, List.map_nil, List.replicate, List.cons_append, List.nil_append, gt0, st0, gt1, st1, gt2, st2, gt3, st3, gt4, st4, gt5, st5, gt6, st6, gt7, st7, gt8, st8, gt9, st9, gt10, st10, gt11, st11, gt12, st12, gt13, st13, gt14, st14, gt15, st15, gt16, st16, gt17, st17, gt18, st18, gt19, st19, gt20, st20, zlawzlength, c1, c2, c5, s]
    · simp [cont_exc, bindS_exc, bind_exc, ite_exc, ex_try, try_next, ex_nil, ex_cons, cont_next, cont_ret, ex_asg, ex_expr, ex_ret, ex_ite, ite_t, ite_f, ite_d, ex_loop, asg_name, src_of, ev_int, ev_boolc, ev_nonec, ev_var, ev_glob, ev_bin, ev_neg, ev_not, ev_and, ev_or, ep_cmp, ev_cmp2, ev_call, ev_sub, ev_list, ev_tup, es_nil, es_cons, and_one, and_cons, or_one, or_cons, eb_def, look_some, andV_t, andV_f, andV_d, orV_t, orV_f, orV_d, orV_n, bind_ok, bindS_ok, ofOpt_some, bin_add, bin_sub, bin_mul, bin_fdiv, bin_mod, bin_pow9, bin_pow6, cmp_lt, cmp_le, cmp_gt, cmp_ge, cmp_eq, cmp_ne, truth_bool, List.map_cons, List.map_nil, List.replicate, List.cons_append, List.nil_append, gt0, st0, gt1, st1, gt2, st2, gt3, st3, gt4, st4, gt5, st5, gt6, st6, gt7, st7, gt8, st8, gt9, st9, gt10, st10, gt11, st11, gt12, st12, gt13, st13, gt14, st14, gt15, st15, gt16, st16, gt17, st17, gt18, st18, gt19, st19, gt20, st20, zlawzlength, c1, c2, s]
theorem sp_lengthE (hf : P.fn "_law_length" = some zlawzlength) (n : Nat) (hd : Bool) (σ : Store) (y : Int) {m : Int} {k : Nat} (hm : m = k + 1) (hk : k < 12) : ∃ σ', callN P (n + 1) hd (.fn "_law_length") [.int y, .int m] σ = .ok (.int (mlen y (k + 1))) σ' ∧ Ext σ σ' :=
  ⟨_, sp_length hf hm hk, Ext.append _ _⟩

theorem ys2000 : ys 2000 = 0 := by decide
theorem yl_eq (y : Int) : preN y 12 = 337 + mlen y 2 := by rw [pre12]; show _ = 337 + (28 + leap y); omega
theorem sp_date (H : Env02 P) {D : Int} (h0 : 0 ≤ D) (h1 : D < 1000000) : ∃ σ' y k r, MD D y k r ∧ callN P (n + 2) false (.fn "_law_date") [.int D] σ = .ok (.tup [.int y, .int (k + 1), .int (r + 1)]) σ' ∧ Ext σ σ' := by
  rw [callN_fn H.fdate]
  have L1 := while_inv (c := condF P (callN P (n + 1)) false (.cmp .ge (.var 0) (.bin .add (.int (337)) (.call (.glob "_law_length") [(.var 1), (.int (2))])))) (body := bodyF P (callN P (n + 1)) false zlawzdateL1)
    (I := fun ℓ σ' => Ext σ σ' ∧ ∃ (y l : Int), l = D - ys y ∧ 0 ≤ l ∧ ℓ = [some (.int l), some (.int y), none, none])
    (D := fun ℓ σ' => Ext σ σ' ∧ ∃ (y l : Int), l = D - ys y ∧ 0 ≤ l ∧ D < ys (y + 1) ∧ ℓ = [some (.int l), some (.int y), none, none])
    (m := fun ℓ _ => match ℓ with | some (.int l) :: _ => l.toNat | _ => 0)
    (fun ℓ σ' ⟨x, y, l, hl, l0, e2⟩ => by
      subst e2
      obtain ⟨σa, ea, xa⟩ := sp_lengthE H.flength n false σ' y (m := 2) (k := 1) rfl (by omega)
      obtain ⟨σb, eb, xb⟩ := sp_lengthE H.flength n false σa y (m := 2) (k := 1) rfl (by omega)
      have hs := ys_succ y
      rw [yl_eq] at hs
      have ml := mlen_pos y 2
      by_cases h : 337 + mlen y 2 ≤ l
      · refine .inr ⟨σa, ?_, [some (.int (l - 337 - mlen y 2)), some (.int (y + 1)), none, none], σb, .inl ?_, ⟨x.trans (xa.trans xb), y + 1, l - 337 - mlen y 2, by omega, by omega, rfl⟩, ?_⟩
        · rw [condF_eq]; simp [cont_exc, bindS_exc, bind_exc, ite_exc, ex_try, try_next, ex_nil, ex_cons, cont_next, cont_ret, ex_asg, ex_expr, ex_ret, ex_ite, ite_t, ite_f, ite_d, ex_loop, asg_name, src_of, ev_int, ev_boolc, ev_nonec, ev_var, ev_glob, ev_bin, ev_neg, ev_not, ev_and, ev_or, ep_cmp, ev_cmp2, ev_call, ev_sub, ev_list, ev_tup, es_nil, es_cons, and_one, and_cons, or_one, or_cons, eb_def, look_some, andV_t, andV_f, andV_d, orV_t, orV_f, orV_d, orV_n, bind_ok, bindS_ok, ofOpt_some, bin_add, bin_sub, bin_mul, bin_fdiv, bin_mod, bin_pow9, bin_pow6, cmp_lt, cmp_le, cmp_gt, cmp_ge, cmp_eq, cmp_ne, truth_bool, List.map_cons, List.map_nil, List.replicate, List.cons_append, List.nil_append, gt0, st0, gt1, st1, gt2, st2, gt3, st3, gt4, st4, gt5, st5, gt6, st6, gt7, st7, gt8, st8, gt9, st9, gt10, st10, gt11, st11, gt12, st12, gt13, st13, gt14, st14, gt15, st15, gt16, st16, gt17, st17, gt18, st18, gt19, st19, gt20, st20, H.glength, ea, h]
        · rw [bodyF_eq]; simp [cont_exc, bindS_exc, bind_exc, ite_exc, ex_try, try_next, ex_nil, ex_cons, cont_next, cont_ret, ex_asg, ex_expr, ex_ret, ex_ite, ite_t, ite_f, ite_d, ex_loop, asg_name, src_of, ev_int, ev_boolc, ev_nonec, ev_var, ev_glob, ev_bin, ev_neg, ev_not, ev_and, ev_or, ep_cmp, ev_cmp2, ev_call, ev_sub, ev_list, ev_tup, es_nil, es_cons, and_one, and_cons, or_one, or_cons, eb_def, look_some, andV_t, andV_f, andV_d, orV_t, orV_f, orV_d, orV_n, bind_ok, bindS_ok, ofOpt_some, bin_add, bin_sub, bin_mul, bin_fdiv, bin_mod, bin_pow9, bin_pow6, cmp_lt, cmp_le, cmp_gt, cmp_ge, cmp_eq, cmp_ne, truth_bool, List.map_cons, List.map_nil, List.replicate, List.cons_append, List.nil_append, gt0, st0, gt1, st1, gt2, st2, gt3, st3, gt4, st4, gt5, st5, gt6, st6, gt7, st7, gt8, st8, gt9, st9, gt10, st10, gt11, st11, gt12, st12, gt13, st13, gt14, st14, gt15, st15, gt16, st16, gt17, st17, gt18, st18, gt19, st19, gt20, st20, zlawzdateL1, H.glength, eb]
        · show (l - 337 - mlen y 2).toNat < l.toNat
          omega
      · refine .inl ⟨σa, ?_, x.trans xa, y, l, hl, l0, by omega, rfl⟩
        rw [condF_eq]; simp [cont_exc, bindS_exc, bind_exc, ite_exc, ex_try, try_next, ex_nil, ex_cons, cont_next, cont_ret, ex_asg, ex_expr, ex_ret, ex_ite, ite_t, ite_f, ite_d, ex_loop, asg_name, src_of, ev_int, ev_boolc, ev_nonec, ev_var, ev_glob, ev_bin, ev_neg, ev_not, ev_and, ev_or, ep_cmp, ev_cmp2, ev_call, ev_sub, ev_list, ev_tup, es_nil, es_cons, and_one, and_cons, or_one, or_cons, eb_def, look_some, andV_t, andV_f, andV_d, orV_t, orV_f, orV_d, orV_n, bind_ok, bindS_ok, ofOpt_some, bin_add, bin_sub, bin_mul, bin_fdiv, bin_mod, bin_pow9, bin_pow6, cmp_lt, cmp_le, cmp_gt, cmp_ge, cmp_eq, cmp_ne, truth_bool, List.map_cons, List.map_nil, List.replicate, List.cons_append, List.nil_append, gt0, st0, gt1, st1, gt2, st2, gt3, st3, gt4, st4, gt5, st5, gt6, st6, gt7, st7, gt8, st8, gt9, st9, gt10, st10, gt11, st11, gt12, st12, gt13, st13, gt14, st14, gt15, st15, gt16, st16, gt17, st17, gt18, st18, gt19, st19, gt20, st20, H.glength, ea, h])
    W [some (.int D), some (.int 2000), none, none] σ (by show D.toNat < 1000000; omega) ⟨Ext.refl _, 2000, D, by rw [ys2000]; omega, h0, rfl⟩
  obtain ⟨ℓ1, σ1, e1, x1, y, l, hl, l0, y2, rfl⟩ := L1
  have L2 := while_inv (c := condF P (callN P (n + 1)) false (.cmp .ge (.var 0) (.call (.glob "_law_length") [(.var 1), (.var 2)]))) (body := bodyF P (callN P (n + 1)) false zlawzdateL0)
    (I := fun ℓ σ' => Ext σ1 σ' ∧ ∃ (k : Nat) (r m : Int), m = k + 1 ∧ k < 12 ∧ 0 ≤ r ∧ D = ys y + preN y k + r ∧ ℓ = [some (.int r), some (.int y), some (.int m), none])
    (D := fun ℓ σ' => Ext σ1 σ' ∧ ∃ (k : Nat) (r m : Int), m = k + 1 ∧ MD D y k r ∧ ℓ = [some (.int r), some (.int y), some (.int m), none])
    (m := fun ℓ _ => match ℓ with | _ :: _ :: some (.int m) :: _ => (20 - m).toNat | _ => 0)
    (fun ℓ σ' ⟨x, k, r, m, hm, hk, r0, hr, e2⟩ => by
      subst e2
      obtain ⟨σa, ea, xa⟩ := sp_lengthE H.flength n false σ' y hm hk
      obtain ⟨σb, eb, xb⟩ := sp_lengthE H.flength n false σa y hm hk
      by_cases h : mlen y (k + 1) ≤ r
      · have k11 : k < 11 := Classical.byContradiction fun q => by
          have : k = 11 := by omega
          subst this
          rw [ys_succ] at y2
          have e : preN y 12 = preN y 11 + mlen y (11 + 1) := rfl
          omega
        refine .inr ⟨σa, ?_, [some (.int (r - mlen y (k + 1))), some (.int y), some (.int (m + 1)), none], σb, .inl ?_, ⟨x.trans (xa.trans xb), k + 1, r - mlen y (k + 1), m + 1, by omega, by omega, by omega, ?_, rfl⟩, ?_⟩
        · rw [condF_eq]; simp [cont_exc, bindS_exc, bind_exc, ite_exc, ex_try, try_next, ex_nil, ex_cons, cont_next, cont_ret, ex_asg, ex_expr, ex_ret, ex_ite, ite_t, ite_f, ite_d, ex_loop, asg_name, src_of, ev_int, ev_boolc, ev_nonec, ev_var, ev_glob, ev_bin, ev_neg, ev_not, ev_and, ev_or, ep_cmp, ev_cmp2, ev_call, ev_sub, ev_list, ev_tup, es_nil, es_cons, and_one, and_cons, or_one, or_cons, eb_def, look_some, andV_t, andV_f, andV_d, orV_t, orV_f, orV_d, orV_n, bind_ok, bindS_ok, ofOpt_some, bin_add, bin_sub, bin_mul, bin_fdiv, bin_mod, bin_pow9, bin_pow6, cmp_lt, cmp_le, cmp_gt, cmp_ge, cmp_eq, cmp_ne, truth_bool, List.map_cons, List.map_nil, List.replicate, List.cons_append, List.nil_append, gt0, st0, gt1, st1, gt2, st2, gt3, st3, gt4, st4, gt5, st5, gt6, st6, gt7, st7, gt8, st8, gt9, st9, gt10, st10, gt11, st11, gt12, st12, gt13, st13, gt14, st14, gt15, st15, gt16, st16, gt17, st17, gt18, st18, gt19, st19, gt20, st20, H.glength, ea, h]
        · rw [bodyF_eq]; simp [cont_exc, bindS_exc, bind_exc, ite_exc, ex_try, try_next, ex_nil, ex_cons, cont_next, cont_ret, ex_asg, ex_expr, ex_ret, ex_ite, ite_t, ite_f, ite_d, ex_loop, asg_name, src_of, ev_int, ev_boolc, ev_nonec, ev_var, ev_glob, ev_bin, ev_neg, ev_not, ev_and, ev_or, ep_cmp, ev_cmp2, ev_call, ev_sub, ev_list, ev_tup, es_nil, es_cons, and_one, and_cons, or_one, or_cons, eb_def, look_some, andV_t, andV_f, andV_d, orV_t, orV_f, orV_d, orV_n, bind_ok, bindS_ok, ofOpt_some, bin_add, bin_sub, bin_mul, bin_fdiv, bin_mod, bin_pow9, bin_pow6, cmp_lt, cmp_le, cmp_gt, cmp_ge, cmp_eq, cmp_ne, truth_bool, List.map_cons, List.map_nil, List.replicate, List.cons_append, List.nil_append, gt0, st0, gt1, st1, gt2, st2, gt3, st3, gt4, st4, gt5, st5, gt6, st6, gt7, st7, gt8, st8, gt9, st9, gt10, st10, gt11, st11, gt12, st12, gt13, st13, gt14, st14, gt15, st15, gt16, st16, gt17, st17, gt18, st18, gt19, st19, gt20, st20, zlawzdateL0, H.glength, eb]
        · have e : preN y (k + 1) = preN y k + mlen y (k + 1) := rfl
          omega
        · show (20 - (m + 1)).toNat < (20 - m).toNat
          omega
      · refine .inl ⟨σa, ?_, x.trans xa, k, r, m, hm, ⟨hk, r0, by omega, hr⟩, rfl⟩
        rw [condF_eq]; simp [cont_exc, bindS_exc, bind_exc, ite_exc, ex_try, try_next, ex_nil, ex_cons, cont_next, cont_ret, ex_asg, ex_expr, ex_ret, ex_ite, ite_t, ite_f, ite_d, ex_loop, asg_name, src_of, ev_int, ev_boolc, ev_nonec, ev_var, ev_glob, ev_bin, ev_neg, ev_not, ev_and, ev_or, ep_cmp, ev_cmp2, ev_call, ev_sub, ev_list, ev_tup, es_nil, es_cons, and_one, and_cons, or_one, or_cons, eb_def, look_some, andV_t, andV_f, andV_d, orV_t, orV_f, orV_d, orV_n, bind_ok, bindS_ok, ofOpt_some, bin_add, bin_sub, bin_mul, bin_fdiv, bin_mod, bin_pow9, bin_pow6, cmp_lt, cmp_le, cmp_gt, cmp_ge, cmp_eq, cmp_ne, truth_bool, List.map_cons, List.map_nil, List.replicate, List.cons_append, List.nil_append, gt0, st0, gt1, st1, gt2, st2, gt3, st3, gt4, st4, gt5, st5, gt6, st6, gt7, st7, gt8, st8, gt9, st9, gt10, st10, gt11, st11, gt12, st12, gt13, st13, gt14, st14, gt15, st15, gt16, st16, gt17, st17, gt18, st18, gt19, st19, gt20, st20, H.glength, ea, h])
    W [some (.int l), some (.int y), some (.int 1), none] σ1 (by show (20 - (1 : Int)).toNat < 1000000; decide) ⟨Ext.refl _, 0, l, 1, by omega, by omega, l0, by show D = ys y + 0 + l; omega, rfl⟩
  obtain ⟨ℓ2, σ2, e2, x2, k, r, m, hm, md, rfl⟩ := L2
  refine ⟨σ2, y, k, r, md, rb_ret rfl ?_, x1.trans x2⟩
  subst hm
  simp -implicitDefEqProofs [cont_exc, bindS_exc, bind_exc, ite_exc, ex_try, try_next, ex_nil, ex_cons, cont_next, cont_ret, ex_asg, ex_expr, ex_ret, ex_ite, ite_t, ite_f, ite_d, ex_loop, asg_name, src_of, ev_int, ev_boolc, ev_nonec, ev_var, ev_glob, ev_bin, ev_neg, ev_not, ev_and, ev_or, ep_cmp, ev_cmp2, ev_call, ev_sub, ev_list, ev_tup, es_nil, es_cons, and_one, and_cons, or_one, or_cons, eb_def, look_some, andV_t, andV_f, andV_d, orV_t, orV_f, orV_d, orV_n, bind_ok, bindS_ok, ofOpt_some, bin_add, bin_sub, bin_mul, bin_fdiv, bin_mod, bin_pow9, bin_pow6, cmp_lt, cmp_le, cmp_gt, cmp_ge, cmp_eq, cmp_ne, truth_bool, List.map_cons, List.map_nil, List.replicate, List.cons_append, List.nil_append, gt0, st0, gt1, st1, gt2, st2, gt3, st3, gt4, st4, gt5, st5, gt6, st6, gt7, st7, gt8, st8, gt9, st9, gt10, st10, gt11, st11, gt12, st12, gt13, st13, gt14, st14, gt15, st15, gt16, st16, gt17, st17, gt18, st18, gt19, st19, gt20, st20, zlawzdate, e1, e2]
theorem bin_addL {i j : Nat} {l m : List V} (h1 : σ[i]? = some (.list l)) (h2 : σ[j]? = some (.list m)) (hl : l.length + m.length ≤ 16777216) : binV .add (.loc i) (.loc j) σ = .ok (.loc σ.length) (σ ++ [.list (l ++ m)]) := by
  have : l.length + m.length ≤ szL := hl
  simp [binV, intP, binL, h1, h2, this]
noncomputable def nearD : List Int := [0, 31, 58, 59, 60, 365, 366, 36524, 36583, 36584, 73048, 73049, 99711, 99712, 99998, 99999]
noncomputable def nearE : List Int := [36889, 36890, 73413, 73414]
theorem sp_day (H : Env02 P) (c : Int) : ∃ σ' D, callN P (n + 1) hd (.fn "_law_day") [.int c] σ = .ok (.int D) σ' ∧ Ext σ σ' ∧ 0 ≤ D ∧ D ≤ 99999 := by
  rw [callN_fn H.fday]
  have x1 : Ext σ (σ ++ [.list (nearD.map .int)]) := Ext.append _ _
  have g1 := app_get σ (.list (nearD.map .int))
  have h1 : σ ++ [Cell.list [.int 0, .int 31, .int 58, .int 59, .int 60, .int 365, .int 366, .int 36524, .int 36583, .int 36584, .int 73048, .int 73049, .int 99711, .int 99712, .int 99998, .int 99999]] = σ ++ [.list (nearD.map .int)] := rfl
  generalize hσ1 : σ ++ [Cell.list (nearD.map V.int)] = σ1 at x1 g1 h1
  have x2 : Ext σ1 (σ1 ++ [.list (nearE.map .int)]) := Ext.append _ _
  have g2 := app_get σ1 (.list (nearE.map .int))
  have h2 : σ1 ++ [Cell.list [.int 36889, .int 36890, .int 73413, .int 73414]] = σ1 ++ [.list (nearE.map .int)] := rfl
  generalize hσ2 : σ1 ++ [Cell.list (nearE.map V.int)] = σ2 at x2 g2 h2
  have k3 := bin_addL (x2.some g1) g2 (by decide)
  rw [← List.map_append] at k3
  have x3 : Ext σ2 (σ2 ++ [.list ((nearD ++ nearE).map .int)]) := Ext.append _ _
  have g3 := app_get σ2 (.list ((nearD ++ nearE).map .int))
  generalize σ2 ++ [Cell.list ((nearD ++ nearE).map V.int)] = σ3 at k3 x3 g3
  by_cases h : c % 3 = 1
  · have e := idx_ints (l := nearD ++ nearE) (i := c / 3 % 20) (by omega) (by show c / 3 % 20 < 20; omega) (by omega)
    have s := (sub_list (P := P) (i := c / 3 % 20) g3).trans e
    refine ⟨σ3, _, rb_ret rfl (by simp [cont_exc, bindS_exc, bind_exc, ite_exc, ex_try, try_next, ex_nil, ex_cons, cont_next, cont_ret, ex_asg, ex_expr, ex_ret, ex_ite, ite_t, ite_f, ite_d, ex_loop, asg_name, src_of, ev_int, ev_boolc, ev_nonec, ev_var, ev_glob, ev_bin, ev_neg, ev_not, ev_and, ev_or, ep_cmp, ev_cmp2, ev_call, ev_sub, ev_list, ev_tup, es_nil, es_cons, and_one, and_cons, or_one, or_cons, eb_def, look_some, andV_t, andV_f, andV_d, orV_t, orV_f, orV_d, orV_n, bind_ok, bindS_ok, ofOpt_some, bin_add, bin_sub, bin_mul, bin_fdiv, bin_mod, bin_pow9, bin_pow6, cmp_lt, cmp_le, cmp_gt, cmp_ge, cmp_eq, cmp_ne, truth_bool, List.map_cons, List.map_nil, List.replicate, List.cons_append, List.nil_append, gt0, st0, gt1, st1, gt2, st2, gt3, st3, gt4, st4, gt5, st5, gt6, st6, gt7, st7, gt8, st8, gt9, st9, gt10, st10, gt11, st11, gt12, st12, gt13, st13, gt14, st14, gt15, st15, gt16, st16, gt17, st17, gt18, st18, gt19, st19, gt20, st20, zlawzday, h1, h2, k3, h, s]; exact rfl), (x1.trans x2).trans x3, ?_⟩
    exact (by decide : ∀ j : Fin 20, 0 ≤ (nearD ++ nearE).getD j.1 0 ∧ (nearD ++ nearE).getD j.1 0 ≤ 99999) ⟨(c / 3 % 20).toNat, by omega⟩
  · exact ⟨σ3, _, rb_ret rfl (by simp [cont_exc, bindS_exc, bind_exc, ite_exc, ex_try, try_next, ex_nil, ex_cons, cont_next, cont_ret, ex_asg, ex_expr, ex_ret, ex_ite, ite_t, ite_f, ite_d, ex_loop, asg_name, src_of, ev_int, ev_boolc, ev_nonec, ev_var, ev_glob, ev_bin, ev_neg, ev_not, ev_and, ev_or, ep_cmp, ev_cmp2, ev_call, ev_sub, ev_list, ev_tup, es_nil, es_cons, and_one, and_cons, or_one, or_cons, eb_def, look_some, andV_t, andV_f, andV_d, orV_t, orV_f, orV_d, orV_n, bind_ok, bindS_ok, ofOpt_some, bin_add, bin_sub, bin_mul, bin_fdiv, bin_mod, bin_pow9, bin_pow6, cmp_lt, cmp_le, cmp_gt, cmp_ge, cmp_eq, cmp_ne, truth_bool, List.map_cons, List.map_nil, List.replicate, List.cons_append, List.nil_append, gt0, st0, gt1, st1, gt2, st2, gt3, st3, gt4, st4, gt5, st5, gt6, st6, gt7, st7, gt8, st8, gt9, st9, gt10, st10, gt11, st11, gt12, st12, gt13, st13, gt14, st14, gt15, st15, gt16, st16, gt17, st17, gt18, st18, gt19, st19, gt20, st20, zlawzday, h1, h2, k3, h]; exact rfl), (x1.trans x2).trans x3, by omega⟩
theorem sub_t2 {a b c : V} {l : List V} : subV P (.tup (a :: b :: c :: l)) (.int 2) σ = some c := by simp [subV, idx]
theorem sp_next (H : Env02 P) {D y r : Int} {k : Nat} (md : MD D y k r) : ∃ y' k' r', MD (D + 1) y' k' r' ∧ callN P (n + 1) false (.fn "_law_next") [.tup [.int y, .int (k + 1), .int (r + 1)], .int (mlen y (k + 1))] σ = .ok (.tup [.int y', .int (k' + 1), .int (r' + 1)]) σ := by
  rw [callN_fn H.fnext]
  have r1 := md.r1
  have kk := md.k12
  by_cases h : r + 1 < mlen y (k + 1)
  · refine ⟨y, k, r + 1, md.next h, rb_ret rfl ?_⟩
    simp [cont_exc, bindS_exc, bind_exc, ite_exc, ex_try, try_next, ex_nil, ex_cons, cont_next, cont_ret, ex_asg, ex_expr, ex_ret, ex_ite, ite_t, ite_f, ite_d, ex_loop, asg_name, src_of, ev_int, ev_boolc, ev_nonec, ev_var, ev_glob, ev_bin, ev_neg, ev_not, ev_and, ev_or, ep_cmp, ev_cmp2, ev_call, ev_sub, ev_list, ev_tup, es_nil, es_cons, and_one, and_cons, or_one, or_cons, eb_def, look_some, andV_t, andV_f, andV_d, orV_t, orV_f, orV_d, orV_n, bind_ok, bindS_ok, ofOpt_some, bin_add, bin_sub, bin_mul, bin_fdiv, bin_mod, bin_pow9, bin_pow6, cmp_lt, cmp_le, cmp_gt, cmp_ge, cmp_eq, cmp_ne, truth_bool, List.map_cons, List.map_nil, List.replicate, List.cons_append, List.nil_append, gt0, st0, gt1, st1, gt2, st2, gt3, st3, gt4, st4, gt5, st5, gt6, st6, gt7, st7, gt8, st8, gt9, st9, gt10, st10, gt11, st11, gt12, st12, gt13, st13, gt14, st14, gt15, st15, gt16, st16, gt17, st17, gt18, st18, gt19, st19, gt20, st20, zlawznext, sub_t0, sub_t1, sub_t2, h]
  · by_cases h2 : k < 11
    · refine ⟨y, k + 1, 0, md.month (by omega) h2, rb_ret rfl ?_⟩
      simp [cont_exc, bindS_exc, bind_exc, ite_exc, ex_try, try_next, ex_nil, ex_cons, cont_next, cont_ret, ex_asg, ex_expr, ex_ret, ex_ite, ite_t, ite_f, ite_d, ex_loop, asg_name, src_of, ev_int, ev_boolc, ev_nonec, ev_var, ev_glob, ev_bin, ev_neg, ev_not, ev_and, ev_or, ep_cmp, ev_cmp2, ev_call, ev_sub, ev_list, ev_tup, es_nil, es_cons, and_one, and_cons, or_one, or_cons, eb_def, look_some, andV_t, andV_f, andV_d, orV_t, orV_f, orV_d, orV_n, bind_ok, bindS_ok, ofOpt_some, bin_add, bin_sub, bin_mul, bin_fdiv, bin_mod, bin_pow9, bin_pow6, cmp_lt, cmp_le, cmp_gt, cmp_ge, cmp_eq, cmp_ne, truth_bool, List.map_cons, List.map_nil, List.replicate, List.cons_append, List.nil_append, gt0, st0, gt1, st1, gt2, st2, gt3, st3, gt4, st4, gt5, st5, gt6, st6, gt7, st7, gt8, st8, gt9, st9, gt10, st10, gt11, st11, gt12, st12, gt13, st13, gt14, st14, gt15, st15, gt16, st16, gt17, st17, gt18, st18, gt19, st19, gt20, st20, zlawznext, sub_t0, sub_t1, sub_t2, h, show ((k : Int) + 1 < 12) by omega]
    · refine ⟨y + 1, 0, 0, md.newYear (by omega) (by omega), rb_ret rfl ?_⟩
      simp [cont_exc, bindS_exc, bind_exc, ite_exc, ex_try, try_next, ex_nil, ex_cons, cont_next, cont_ret, ex_asg, ex_expr, ex_ret, ex_ite, ite_t, ite_f, ite_d, ex_loop, asg_name, src_of, ev_int, ev_boolc, ev_nonec, ev_var, ev_glob, ev_bin, ev_neg, ev_not, ev_and, ev_or, ep_cmp, ev_cmp2, ev_call, ev_sub, ev_list, ev_tup, es_nil, es_cons, and_one, and_cons, or_one, or_cons, eb_def, look_some, andV_t, andV_f, andV_d, orV_t, orV_f, orV_d, orV_n, bind_ok, bindS_ok, ofOpt_some, bin_add, bin_sub, bin_mul, bin_fdiv, bin_mod, bin_pow9, bin_pow6, cmp_lt, cmp_le, cmp_gt, cmp_ge, cmp_eq, cmp_ne, truth_bool, List.map_cons, List.map_nil, List.replicate, List.cons_append, List.nil_append, gt0, st0, gt1, st1, gt2, st2, gt3, st3, gt4, st4, gt5, st5, gt6, st6, gt7, st7, gt8, st8, gt9, st9, gt10, st10, gt11, st11, gt12, st12, gt13, st13, gt14, st14, gt15, st15, gt16, st16, gt17, st17, gt18, st18, gt19, st19, gt20, st20, zlawznext, sub_t0, sub_t1, sub_t2, h, show ¬ ((k : Int) + 1 < 12) by omega]
end
end Mine
end

section
set_option tactic.hygienic false
set_option bootstrap.genMatcherCode false
set_option maxRecDepth 100000
set_option linter.unusedSimpArgs false
set_option maxHeartbeats 2000000
set_option linter.unusedVariables false
set_option linter.unusedSimpArgs false
namespace Mine
open PySem
section
variable {P : Prog} {n : Nat} {hd : Bool} {σ σ' : Store}
noncomputable def oddL : List V := [.bool true, .str [50], .none, .int 1002024, .int (-2024)]
theorem odd_at {j : Nat} (h : j < 5) : ∃ v, oddL[j]? = some v ∧ NotW 2000 2273 v ∧ NotW 1 12 v := by
  have hm := (by decide : ∀ j : Nat, j < 5 → j = 0 ∨ j = 1 ∨ j = 2 ∨ j = 3 ∨ j = 4) j h
  rcases hm with h | h | h | h | h <;> rw [h]
  · exact ⟨_, rfl, .bool _, .bool _⟩
  · exact ⟨_, rfl, .str _, .str _⟩
  · exact ⟨_, rfl, .none, .none⟩
  · exact ⟨_, rfl, .hi (by decide), .hi (by decide)⟩
  · exact ⟨_, rfl, .lo (by decide), .lo (by decide)⟩
noncomputable def monL (q : Int) : List Int := [0, -1, 13, 0 - q, 13 + q]
theorem mon_at {q : Int} (h0 : 0 ≤ q) {j : Nat} (h : j < 5) : (monL q).getD j 0 < 1 ∨ 12 < (monL q).getD j 0 := by
  have hm := (by decide : ∀ j : Nat, j < 5 → j = 0 ∨ j = 1 ∨ j = 2 ∨ j = 3 ∨ j = 4) j h
  rcases hm with h | h | h | h | h <;> rw [h]
  · exact .inl (by decide : (0 : Int) < 1)
  · exact .inl (by decide : (-1 : Int) < 1)
  · exact .inr (by decide : (12 : Int) < 13)
  · exact .inl (show 0 - q < 1 by omega)
  · exact .inr (show 12 < 13 + q by omega)
theorem NotW.of {l m a : Int} (h : a < l ∨ m < a) : NotW l m (.int a) := h.elim .lo .hi
theorem ref_bad (H : Env02 P) {y m : Int} {v : V} (h : (y < 2000 ∨ 2273 < y) ∨ (m < 1 ∨ 12 < m)) : callN P (n + 5) false (.fn "_law_refused") [.tup [.int y, .int m], v] σ = .ok (.bool true) σ := by
  by_cases hy : y < 2000 ∨ 2273 < y
  · exact sp_ref1 H (sp_doM H fun σ => sp_mdY H (.of hy))
  · exact sp_ref1 H (sp_doM H fun σ => sp_mdM H (by omega) (by omega) (.of (h.resolve_left hy)))
theorem sp_none (H : Env02 P) (c o : Int) : ∃ σ', callN P (n + 6) false (.fn "_law_none") [.int c, .int o] σ = .ok (.bool true) σ' := by
  rw [callN_fn H.fnone]
  have e1 : ((2024 : Int) + 1000000) = 1002024 := rfl
  have e2 : ((0 : Int) - 2024) = -2024 := rfl
  by_cases h : c / 8742 % 5 = 1
  · obtain ⟨j, hj, hj5⟩ : ∃ j : Nat, o / 16 % 5 = j ∧ j < 5 := ⟨(o / 16 % 5).toNat, by omega, by omega⟩
    obtain ⟨v, hv, w1, w2⟩ := odd_at hj5
    have g1 := app_get σ (.list oddL)
    have hl : σ ++ [Cell.list [.bool true, .str [50], .none, .int 1002024, .int (-2024)]] = σ ++ [.list oddL] := rfl
    generalize σ ++ [Cell.list oddL] = σ1 at g1 hl
    have s : subV P (.loc σ.length) (.int j) σ1 = some v := by rw [sub_list g1, idx_nat (by omega), hv]
    have r1 : ∀ u w : V, callN P (n + 5) false (.fn "_law_refused") [.tup [v, w], u] σ1 = .ok (.bool true) σ1 := fun u w => sp_ref1 H (sp_doM H fun σ => sp_mdY H w1)
    have r2 : ∀ u : V, callN P (n + 5) false (.fn "_law_refused") [.tup [.int (2000 + c % 274), v], u] σ1 = .ok (.bool true) σ1 := fun u => sp_ref1 H (sp_doM H fun σ => sp_mdM H (by omega) (by omega) w2)
    refine ⟨σ1, rb_ret rfl ?_⟩
    simp -implicitDefEqProofs only [cont_exc, bindS_exc, bind_exc, ite_exc, ex_try, try_next, ex_nil, ex_cons, cont_next, cont_ret, ex_asg, ex_expr, ex_ret, ex_ite, ite_t, ite_f, ite_d, ex_loop, asg_name, src_of, ev_int, ev_boolc, ev_nonec, ev_var, ev_glob, ev_bin, ev_neg, ev_not, ev_and, ev_or, ep_cmp, ev_cmp2, ev_call, ev_sub, ev_list, ev_tup, es_nil, es_cons, and_one, and_cons, or_one, or_cons, eb_def, look_some, andV_t, andV_f, andV_d, orV_t, orV_f, orV_d, orV_n, bind_ok, bindS_ok, ofOpt_some, bin_add, bin_sub, bin_mul, bin_fdiv, bin_mod, bin_pow9, bin_pow6, cmp_lt, cmp_le, cmp_gt, cmp_ge, cmp_eq, cmp_ne, truth_bool, List.map_cons, List.map_nil, List.replicate, List.cons_append, List.nil_append, gt0, st0, gt1, st1, gt2, st2, gt3, st3, gt4, st4, gt5, st5, gt6, st6, gt7, st7, gt8, st8, gt9, st9, gt10, st10, gt11, st11, gt12, st12, gt13, st13, gt14, st14, gt15, st15, gt16, st16, gt17, st17, gt18, st18, gt19, st19, gt20, st20, zlawznone, bin_mod _ _ (show (0 : Int) < 282 by decide), bin_mod _ _ (show (0 : Int) < 16 by decide), bin_mod _ _ (show (0 : Int) < 31 by decide), bin_mod _ _ (show (0 : Int) < 5 by decide), bin_mod _ _ (show (0 : Int) < 12 by decide), bin_mod _ _ (show (0 : Int) < 274 by decide), bin_fdiv _ _ (show (0 : Int) < 282 by decide) (by decide), bin_fdiv _ _ (show (0 : Int) < 8742 by decide) (by decide), bin_fdiv _ _ (show (0 : Int) < 16 by decide) (by decide), h, decide_true, e1, e2, hl, hj, s, H.grefused, r1, r2, q_str]
  · obtain ⟨j, hj, hj5⟩ : ∃ j : Nat, o / 16 % 5 = j ∧ j < 5 := ⟨(o / 16 % 5).toNat, by omega, by omega⟩
    by_cases q : 2000 ≤ 1996 + c % 282 ∧ 1996 + c % 282 ≤ 2273 ∧ 1 ≤ o % 16 - 1 ∧ o % 16 - 1 ≤ 12
    · have g1 := app_get σ (.list ((monL (c / 282 % 12)).map .int))
      have hl : σ ++ [Cell.list [.int 0, .int (-1), .int 13, .int (0 - c / 282 % 12), .int (13 + c / 282 % 12)]] = σ ++ [.list ((monL (c / 282 % 12)).map .int)] := rfl
      generalize σ ++ [Cell.list ((monL (c / 282 % 12)).map V.int)] = σ1 at g1 hl
      have s : subV P (.loc σ.length) (.int j) σ1 = some (.int ((monL (c / 282 % 12)).getD j 0)) := by
        have := (sub_list (P := P) (i := (j : Int)) g1).trans (idx_ints (by omega) (by show (j : Int) < 5; omega) (by omega))
        rw [Int.toNat_natCast] at this; exact this
      have r := fun u => ref_bad (n := n) (σ := σ1) (v := u) H (y := 1996 + c % 282) (.inr (mon_at (q := c / 282 % 12) (by omega) hj5))
      refine ⟨σ1, rb_ret rfl ?_⟩
      simp -implicitDefEqProofs only [cont_exc, bindS_exc, bind_exc, ite_exc, ex_try, try_next, ex_nil, ex_cons, cont_next, cont_ret, ex_asg, ex_expr, ex_ret, ex_ite, ite_t, ite_f, ite_d, ex_loop, asg_name, src_of, ev_int, ev_boolc, ev_nonec, ev_var, ev_glob, ev_bin, ev_neg, ev_not, ev_and, ev_or, ep_cmp, ev_cmp2, ev_call, ev_sub, ev_list, ev_tup, es_nil, es_cons, and_one, and_cons, or_one, or_cons, eb_def, look_some, andV_t, andV_f, andV_d, orV_t, orV_f, orV_d, orV_n, bind_ok, bindS_ok, ofOpt_some, bin_add, bin_sub, bin_mul, bin_fdiv, bin_mod, bin_pow9, bin_pow6, cmp_lt, cmp_le, cmp_gt, cmp_ge, cmp_eq, cmp_ne, truth_bool, List.map_cons, List.map_nil, List.replicate, List.cons_append, List.nil_append, gt0, st0, gt1, st1, gt2, st2, gt3, st3, gt4, st4, gt5, st5, gt6, st6, gt7, st7, gt8, st8, gt9, st9, gt10, st10, gt11, st11, gt12, st12, gt13, st13, gt14, st14, gt15, st15, gt16, st16, gt17, st17, gt18, st18, gt19, st19, gt20, st20, zlawznone, bin_mod _ _ (show (0 : Int) < 282 by decide), bin_mod _ _ (show (0 : Int) < 16 by decide), bin_mod _ _ (show (0 : Int) < 31 by decide), bin_mod _ _ (show (0 : Int) < 5 by decide), bin_mod _ _ (show (0 : Int) < 12 by decide), bin_fdiv _ _ (show (0 : Int) < 282 by decide) (by decide), bin_fdiv _ _ (show (0 : Int) < 8742 by decide) (by decide), bin_fdiv _ _ (show (0 : Int) < 16 by decide) (by decide), h, decide_false, q.1, q.2.1, q.2.2.1, q.2.2.2, decide_true, hl, hj, s, H.grefused, r]
    · have r := fun u => ref_bad (n := n) (σ := σ) (v := u) H (y := 1996 + c % 282) (m := o % 16 - 1) (by omega)
      refine ⟨σ, rb_ret rfl ?_⟩
      by_cases q1 : 2000 ≤ 1996 + c % 282
      · by_cases q2 : 1996 + c % 282 ≤ 2273
        · by_cases q3 : 1 ≤ o % 16 - 1
          · have q4 : ¬ o % 16 - 1 ≤ 12 := fun q4 => q ⟨q1, q2, q3, q4⟩
            simp -implicitDefEqProofs only [cont_exc, bindS_exc, bind_exc, ite_exc, ex_try, try_next, ex_nil, ex_cons, cont_next, cont_ret, ex_asg, ex_expr, ex_ret, ex_ite, ite_t, ite_f, ite_d, ex_loop, asg_name, src_of, ev_int, ev_boolc, ev_nonec, ev_var, ev_glob, ev_bin, ev_neg, ev_not, ev_and, ev_or, ep_cmp, ev_cmp2, ev_call, ev_sub, ev_list, ev_tup, es_nil, es_cons, and_one, and_cons, or_one, or_cons, eb_def, look_some, andV_t, andV_f, andV_d, orV_t, orV_f, orV_d, orV_n, bind_ok, bindS_ok, ofOpt_some, bin_add, bin_sub, bin_mul, bin_fdiv, bin_mod, bin_pow9, bin_pow6, cmp_lt, cmp_le, cmp_gt, cmp_ge, cmp_eq, cmp_ne, truth_bool, List.map_cons, List.map_nil, List.replicate, List.cons_append, List.nil_append, gt0, st0, gt1, st1, gt2, st2, gt3, st3, gt4, st4, gt5, st5, gt6, st6, gt7, st7, gt8, st8, gt9, st9, gt10, st10, gt11, st11, gt12, st12, gt13, st13, gt14, st14, gt15, st15, gt16, st16, gt17, st17, gt18, st18, gt19, st19, gt20, st20, zlawznone, bin_mod _ _ (show (0 : Int) < 282 by decide), bin_mod _ _ (show (0 : Int) < 16 by decide), bin_mod _ _ (show (0 : Int) < 31 by decide), bin_mod _ _ (show (0 : Int) < 5 by decide), bin_fdiv _ _ (show (0 : Int) < 282 by decide) (by decide), bin_fdiv _ _ (show (0 : Int) < 8742 by decide) (by decide), h, decide_false, decide_true, q1, q2, q3, q4, H.grefused, r]
          · simp -implicitDefEqProofs only [cont_exc, bindS_exc, bind_exc, ite_exc, ex_try, try_next, ex_nil, ex_cons, cont_next, cont_ret, ex_asg, ex_expr, ex_ret, ex_ite, ite_t, ite_f, ite_d, ex_loop, asg_name, src_of, ev_int, ev_boolc, ev_nonec, ev_var, ev_glob, ev_bin, ev_neg, ev_not, ev_and, ev_or, ep_cmp, ev_cmp2, ev_call, ev_sub, ev_list, ev_tup, es_nil, es_cons, and_one, and_cons, or_one, or_cons, eb_def, look_some, andV_t, andV_f, andV_d, orV_t, orV_f, orV_d, orV_n, bind_ok, bindS_ok, ofOpt_some, bin_add, bin_sub, bin_mul, bin_fdiv, bin_mod, bin_pow9, bin_pow6, cmp_lt, cmp_le, cmp_gt, cmp_ge, cmp_eq, cmp_ne, truth_bool, List.map_cons, List.map_nil, List.replicate, List.cons_append, List.nil_append, gt0, st0, gt1, st1, gt2, st2, gt3, st3, gt4, st4, gt5, st5, gt6, st6, gt7, st7, gt8, st8, gt9, st9, gt10, st10, gt11, st11, gt12, st12, gt13, st13, gt14, st14, gt15, st15, gt16, st16, gt17, st17, gt18, st18, gt19, st19, gt20, st20, zlawznone, bin_mod _ _ (show (0 : Int) < 282 by decide), bin_mod _ _ (show (0 : Int) < 16 by decide), bin_mod _ _ (show (0 : Int) < 31 by decide), bin_mod _ _ (show (0 : Int) < 5 by decide), bin_fdiv _ _ (show (0 : Int) < 282 by decide) (by decide), bin_fdiv _ _ (show (0 : Int) < 8742 by decide) (by decide), h, decide_false, decide_true, q1, q2, q3, H.grefused, r]
        · simp -implicitDefEqProofs only [cont_exc, bindS_exc, bind_exc, ite_exc, ex_try, try_next, ex_nil, ex_cons, cont_next, cont_ret, ex_asg, ex_expr, ex_ret, ex_ite, ite_t, ite_f, ite_d, ex_loop, asg_name, src_of, ev_int, ev_boolc, ev_nonec, ev_var, ev_glob, ev_bin, ev_neg, ev_not, ev_and, ev_or, ep_cmp, ev_cmp2, ev_call, ev_sub, ev_list, ev_tup, es_nil, es_cons, and_one, and_cons, or_one, or_cons, eb_def, look_some, andV_t, andV_f, andV_d, orV_t, orV_f, orV_d, orV_n, bind_ok, bindS_ok, ofOpt_some, bin_add, bin_sub, bin_mul, bin_fdiv, bin_mod, bin_pow9, bin_pow6, cmp_lt, cmp_le, cmp_gt, cmp_ge, cmp_eq, cmp_ne, truth_bool, List.map_cons, List.map_nil, List.replicate, List.cons_append, List.nil_append, gt0, st0, gt1, st1, gt2, st2, gt3, st3, gt4, st4, gt5, st5, gt6, st6, gt7, st7, gt8, st8, gt9, st9, gt10, st10, gt11, st11, gt12, st12, gt13, st13, gt14, st14, gt15, st15, gt16, st16, gt17, st17, gt18, st18, gt19, st19, gt20, st20, zlawznone, bin_mod _ _ (show (0 : Int) < 282 by decide), bin_mod _ _ (show (0 : Int) < 16 by decide), bin_mod _ _ (show (0 : Int) < 31 by decide), bin_mod _ _ (show (0 : Int) < 5 by decide), bin_fdiv _ _ (show (0 : Int) < 282 by decide) (by decide), bin_fdiv _ _ (show (0 : Int) < 8742 by decide) (by decide), h, decide_false, decide_true, q1, q2, H.grefused, r]
      · simp -implicitDefEqProofs only [cont_exc, bindS_exc, bind_exc, ite_exc, ex_try, try_next, ex_nil, ex_cons, cont_next, cont_ret, ex_asg, ex_expr, ex_ret, ex_ite, ite_t, ite_f, ite_d, ex_loop, asg_name, src_of, ev_int, ev_boolc, ev_nonec, ev_var, ev_glob, ev_bin, ev_neg, ev_not, ev_and, ev_or, ep_cmp, ev_cmp2, ev_call, ev_sub, ev_list, ev_tup, es_nil, es_cons, and_one, and_cons, or_one, or_cons, eb_def, look_some, andV_t, andV_f, andV_d, orV_t, orV_f, orV_d, orV_n, bind_ok, bindS_ok, ofOpt_some, bin_add, bin_sub, bin_mul, bin_fdiv, bin_mod, bin_pow9, bin_pow6, cmp_lt, cmp_le, cmp_gt, cmp_ge, cmp_eq, cmp_ne, truth_bool, List.map_cons, List.map_nil, List.replicate, List.cons_append, List.nil_append, gt0, st0, gt1, st1, gt2, st2, gt3, st3, gt4, st4, gt5, st5, gt6, st6, gt7, st7, gt8, st8, gt9, st9, gt10, st10, gt11, st11, gt12, st12, gt13, st13, gt14, st14, gt15, st15, gt16, st16, gt17, st17, gt18, st18, gt19, st19, gt20, st20, zlawznone, bin_mod _ _ (show (0 : Int) < 282 by decide), bin_mod _ _ (show (0 : Int) < 16 by decide), bin_mod _ _ (show (0 : Int) < 31 by decide), bin_mod _ _ (show (0 : Int) < 5 by decide), bin_fdiv _ _ (show (0 : Int) < 282 by decide) (by decide), bin_fdiv _ _ (show (0 : Int) < 8742 by decide) (by decide), h, decide_false, decide_true, q1, H.grefused, r]
end
end Mine
end

section
set_option tactic.hygienic false
set_option bootstrap.genMatcherCode false
set_option maxRecDepth 100000
set_option linter.unusedSimpArgs false
set_option maxHeartbeats 2000000
set_option linter.unusedVariables false
set_option linter.unusedSimpArgs false
namespace Mine
open PySem
section
variable {P : Prog} {n : Nat} {hd : Bool} {σ σ' : Store}
theorem eq3 {a b c : Int} : veq σ (.tup [.int a, .int b, .int c]) (.tup [.int a, .int b, .int c]) = some true := by
  simp [veq, d_tup, d_cons, d_nil, d_int, PyData.eqv, PyData.eqvAll]
theorem ne3 {a b c : Int} : cmpV P .ne (.tup [.int a, .int b, .int c]) (.tup [.int a, .int b, .int c]) σ = some false := by simp [cmpV, eq3]
theorem eq3' {a b c : Int} : cmpV P .eq (.tup [.int a, .int b, .int c]) (.tup [.int a, .int b, .int c]) σ = some true := eq3
theorem neB {i j : Nat} (h1 : σ[i]? = some (.list [.bool true, .bool true, .bool true])) (h2 : σ[j]? = some (.list [.bool true, .bool true, .bool true])) : cmpV P .ne (.loc i) (.loc j) σ = some false := by
  simp [cmpV, veq, d_loc h1, d_loc h2, d_cons, d_nil, d_bool, PyData.eqv, PyData.eqvAll]
theorem sp_whole (H : Env02 P) {a : Int} : callN P (n + 2) hd (.fn "_law_whole") [.int a] σ = .ok (.bool true) σ := by
  rw [callN_fn H.fwhole]
  refine rb_ret rfl ?_
  simp [cont_exc, bindS_exc, bind_exc, ite_exc, ex_try, try_next, ex_nil, ex_cons, cont_next, cont_ret, ex_asg, ex_expr, ex_ret, ex_ite, ite_t, ite_f, ite_d, ex_loop, asg_name, src_of, ev_int, ev_boolc, ev_nonec, ev_var, ev_glob, ev_bin, ev_neg, ev_not, ev_and, ev_or, ep_cmp, ev_cmp2, ev_call, ev_sub, ev_list, ev_tup, es_nil, es_cons, and_one, and_cons, or_one, or_cons, eb_def, look_some, andV_t, andV_f, andV_d, orV_t, orV_f, orV_d, orV_n, bind_ok, bindS_ok, ofOpt_some, bin_add, bin_sub, bin_mul, bin_fdiv, bin_mod, bin_pow9, bin_pow6, cmp_lt, cmp_le, cmp_gt, cmp_ge, cmp_eq, cmp_ne, truth_bool, List.map_cons, List.map_nil, List.replicate, List.cons_append, List.nil_append, gt0, st0, gt1, st1, gt2, st2, gt3, st3, gt4, st4, gt5, st5, gt6, st6, gt7, st7, gt8, st8, gt9, st9, gt10, st10, gt11, st11, gt12, st12, gt13, st13, gt14, st14, gt15, st15, gt16, st16, gt17, st17, gt18, st18, gt19, st19, gt20, st20, zlawzwhole, H.gisi, H.gint, H.gbool, isi_ii, isi_ib]
theorem law_t2 (H : Env02 P) {D y r c : Int} {k : Nat} (md : MD D y k r) (h0 : 0 ≤ D) (h1 : D ≤ 99999) {l : Loc} : ∃ σ', exSs P (callN P (n + 6)) lawT2 false ([some .script, some (.int D), some (.int c), none, some (.tup [.int y, .int (k + 1), .int (r + 1)]), some (.int (mlen y (k + 1))), none, none] ++ l) σ = .ret (.bool true) σ' := by
  have y1 := md.year0 h0
  have y2 := md.year h1
  have kk := md.k12
  have e := md.eq
  have sc := sp_cell (P := P) (n := n + 4) (hd := false) (σ := σ) H.fcell H.glen H.ns 2 (by omega)
  have e2 : ((2 : Nat) : Int) = 2 := rfl
  rw [e2] at sc
  by_cases z : 1 ≤ cell P 2 % 36 - 2 ∧ cell P 2 % 36 - 2 ≤ mlen y (k + 1)
  · by_cases o : 99999 < D - (r + 1) + (cell P 2 % 36 - 2)
    · obtain ⟨σ', q, _⟩ := sp_doX (n := n + 1) (σ := σ) H (m := k + 1) rfl y1 y2 kk z.1 z.2 (by omega)
      have q' := sp_ref1 (n := n + 1) (l := [.int (r + 1)]) H q
      refine ⟨σ', ?_⟩
      simp -implicitDefEqProofs only [cont_exc, bindS_exc, bind_exc, ite_exc, ex_try, try_next, ex_nil, ex_cons, cont_next, cont_ret, ex_asg, ex_expr, ex_ret, ex_ite, ite_t, ite_f, ite_d, ex_loop, asg_name, src_of, ev_int, ev_boolc, ev_nonec, ev_var, ev_glob, ev_bin, ev_neg, ev_not, ev_and, ev_or, ep_cmp, ev_cmp2, ev_call, ev_sub, ev_list, ev_tup, es_nil, es_cons, and_one, and_cons, or_one, or_cons, eb_def, look_some, andV_t, andV_f, andV_d, orV_t, orV_f, orV_d, orV_n, bind_ok, bindS_ok, ofOpt_some, bin_add, bin_sub, bin_mul, bin_fdiv, bin_mod, bin_pow9, bin_pow6, cmp_lt, cmp_le, cmp_gt, cmp_ge, cmp_eq, cmp_ne, truth_bool, List.map_cons, List.map_nil, List.replicate, List.cons_append, List.nil_append, gt0, st0, gt1, st1, gt2, st2, gt3, st3, gt4, st4, gt5, st5, gt6, st6, gt7, st7, gt8, st8, gt9, st9, gt10, st10, gt11, st11, gt12, st12, gt13, st13, gt14, st14, gt15, st15, gt16, st16, gt17, st17, gt18, st18, gt19, st19, gt20, st20, lawT2, H.gcell, sc, bin_mod _ _ (show (0 : Int) < 36 by decide), z.1, z.2, decide_true, if_true, Bool.not_true, sub_t2, o, H.grefused, q']
    · obtain ⟨σ1, q, _⟩ := sp_do (n := n + 2) (σ := σ) H (m := k + 1) rfl y1 y2 kk z.1 z.2 (by omega)
      rw [show ys y + preN y k + (cell P 2 % 36 - 2) - 1 = D - (r + 1) + (cell P 2 % 36 - 2) by omega] at q
      by_cases d : D = 99999
      · refine ⟨σ1, ?_⟩
        simp -implicitDefEqProofs only [cont_exc, bindS_exc, bind_exc, ite_exc, ex_try, try_next, ex_nil, ex_cons, cont_next, cont_ret, ex_asg, ex_expr, ex_ret, ex_ite, ite_t, ite_f, ite_d, ex_loop, asg_name, src_of, ev_int, ev_boolc, ev_nonec, ev_var, ev_glob, ev_bin, ev_neg, ev_not, ev_and, ev_or, ep_cmp, ev_cmp2, ev_call, ev_sub, ev_list, ev_tup, es_nil, es_cons, and_one, and_cons, or_one, or_cons, eb_def, look_some, andV_t, andV_f, andV_d, orV_t, orV_f, orV_d, orV_n, bind_ok, bindS_ok, ofOpt_some, bin_add, bin_sub, bin_mul, bin_fdiv, bin_mod, bin_pow9, bin_pow6, cmp_lt, cmp_le, cmp_gt, cmp_ge, cmp_eq, cmp_ne, truth_bool, List.map_cons, List.map_nil, List.replicate, List.cons_append, List.nil_append, gt0, st0, gt1, st1, gt2, st2, gt3, st3, gt4, st4, gt5, st5, gt6, st6, gt7, st7, gt8, st8, gt9, st9, gt10, st10, gt11, st11, gt12, st12, gt13, st13, gt14, st14, gt15, st15, gt16, st16, gt17, st17, gt18, st18, gt19, st19, gt20, st20, lawT2, H.gcell, sc, bin_mod _ _ (show (0 : Int) < 36 by decide), z.1, z.2, decide_true, if_true, Bool.not_true, sub_t0, sub_t1, sub_t2, o, if_false, H.gdayof, q, eq_true d]
      · obtain ⟨y', k', r', m1, s1⟩ := sp_mo (n := n + 2) (σ := σ1) H.toEnvC (D := D + 1) (by omega) (by omega)
        obtain ⟨y3, k3, r3, m2, s2⟩ := sp_next (n := n + 5) (σ := σ1) H md
        obtain ⟨a1, a2, a3⟩ := m1.uniq m2
        subst a1 a2 a3
        refine ⟨σ1, ?_⟩
        simp -implicitDefEqProofs only [cont_exc, bindS_exc, bind_exc, ite_exc, ex_try, try_next, ex_nil, ex_cons, cont_next, cont_ret, ex_asg, ex_expr, ex_ret, ex_ite, ite_t, ite_f, ite_d, ex_loop, asg_name, src_of, ev_int, ev_boolc, ev_nonec, ev_var, ev_glob, ev_bin, ev_neg, ev_not, ev_and, ev_or, ep_cmp, ev_cmp2, ev_call, ev_sub, ev_list, ev_tup, es_nil, es_cons, and_one, and_cons, or_one, or_cons, eb_def, look_some, andV_t, andV_f, andV_d, orV_t, orV_f, orV_d, orV_n, bind_ok, bindS_ok, ofOpt_some, bin_add, bin_sub, bin_mul, bin_fdiv, bin_mod, bin_pow9, bin_pow6, cmp_lt, cmp_le, cmp_gt, cmp_ge, cmp_eq, cmp_ne, truth_bool, List.map_cons, List.map_nil, List.replicate, List.cons_append, List.nil_append, gt0, st0, gt1, st1, gt2, st2, gt3, st3, gt4, st4, gt5, st5, gt6, st6, gt7, st7, gt8, st8, gt9, st9, gt10, st10, gt11, st11, gt12, st12, gt13, st13, gt14, st14, gt15, st15, gt16, st16, gt17, st17, gt18, st18, gt19, st19, gt20, st20, lawT2, H.gcell, sc, bin_mod _ _ (show (0 : Int) < 36 by decide), z.1, z.2, decide_true, if_true, Bool.not_true, sub_t0, sub_t1, sub_t2, o, if_false, H.gdayof, q, eq_false d, H.gmo, s1, H.gnext, s2, eq3']
  · have q := sp_doN (n := n + 1) (σ := σ) H (m := k + 1) (u := .int (cell P 2 % 36 - 2)) rfl y1 y2 kk (.of (by omega))
    have q' := sp_ref1 (n := n + 1) (l := [.int (r + 1)]) H q
    refine ⟨σ, ?_⟩
    by_cases z1 : 1 ≤ cell P 2 % 36 - 2
    · have z2 : ¬ cell P 2 % 36 - 2 ≤ mlen y (k + 1) := fun z2 => z ⟨z1, z2⟩
      simp -implicitDefEqProofs only [cont_exc, bindS_exc, bind_exc, ite_exc, ex_try, try_next, ex_nil, ex_cons, cont_next, cont_ret, ex_asg, ex_expr, ex_ret, ex_ite, ite_t, ite_f, ite_d, ex_loop, asg_name, src_of, ev_int, ev_boolc, ev_nonec, ev_var, ev_glob, ev_bin, ev_neg, ev_not, ev_and, ev_or, ep_cmp, ev_cmp2, ev_call, ev_sub, ev_list, ev_tup, es_nil, es_cons, and_one, and_cons, or_one, or_cons, eb_def, look_some, andV_t, andV_f, andV_d, orV_t, orV_f, orV_d, orV_n, bind_ok, bindS_ok, ofOpt_some, bin_add, bin_sub, bin_mul, bin_fdiv, bin_mod, bin_pow9, bin_pow6, cmp_lt, cmp_le, cmp_gt, cmp_ge, cmp_eq, cmp_ne, truth_bool, List.map_cons, List.map_nil, List.replicate, List.cons_append, List.nil_append, gt0, st0, gt1, st1, gt2, st2, gt3, st3, gt4, st4, gt5, st5, gt6, st6, gt7, st7, gt8, st8, gt9, st9, gt10, st10, gt11, st11, gt12, st12, gt13, st13, gt14, st14, gt15, st15, gt16, st16, gt17, st17, gt18, st18, gt19, st19, gt20, st20, lawT2, H.gcell, sc, bin_mod _ _ (show (0 : Int) < 36 by decide), z1, z2, decide_true, decide_false, if_true, if_false, Bool.not_false, H.grefused, q']
    · simp -implicitDefEqProofs only [cont_exc, bindS_exc, bind_exc, ite_exc, ex_try, try_next, ex_nil, ex_cons, cont_next, cont_ret, ex_asg, ex_expr, ex_ret, ex_ite, ite_t, ite_f, ite_d, ex_loop, asg_name, src_of, ev_int, ev_boolc, ev_nonec, ev_var, ev_glob, ev_bin, ev_neg, ev_not, ev_and, ev_or, ep_cmp, ev_cmp2, ev_call, ev_sub, ev_list, ev_tup, es_nil, es_cons, and_one, and_cons, or_one, or_cons, eb_def, look_some, andV_t, andV_f, andV_d, orV_t, orV_f, orV_d, orV_n, bind_ok, bindS_ok, ofOpt_some, bin_add, bin_sub, bin_mul, bin_fdiv, bin_mod, bin_pow9, bin_pow6, cmp_lt, cmp_le, cmp_gt, cmp_ge, cmp_eq, cmp_ne, truth_bool, List.map_cons, List.map_nil, List.replicate, List.cons_append, List.nil_append, gt0, st0, gt1, st1, gt2, st2, gt3, st3, gt4, st4, gt5, st5, gt6, st6, gt7, st7, gt8, st8, gt9, st9, gt10, st10, gt11, st11, gt12, st12, gt13, st13, gt14, st14, gt15, st15, gt16, st16, gt17, st17, gt18, st18, gt19, st19, gt20, st20, lawT2, H.gcell, sc, bin_mod _ _ (show (0 : Int) < 36 by decide), z1, decide_true, decide_false, Bool.false_eq_true, if_false, Bool.not_false, H.grefused, q']
theorem md_zero : MD 0 2000 0 0 := ⟨by decide, by decide, by decide, by decide⟩
theorem law_t (H : Env02 P) {D c : Int} (h0 : 0 ≤ D) (h1 : D ≤ 99999) {l : Loc} : ∃ σ', exSs P (callN P (n + 6)) lawT false ([some .script, some (.int D), some (.int c), none, none, none, none, none] ++ l) σ = .ret (.bool true) σ' := by
  obtain ⟨y, k, r, md, s1⟩ := sp_mo (n := n + 2) (σ := σ) H.toEnvC h0 h1
  have y1 := md.year0 h0
  have y2 := md.year h1
  have kk := md.k12
  have r0 := md.r0
  have r1 := md.r1
  have e := md.eq
  have hc := comp_items (P := P) (C := callN P (n + 6) false) (σ := σ) (t := .name 1) (c := none) (elt := .call (.glob "_law_whole") [(.var 1)]) (l := [.int y, .int (k + 1), .int (r + 1)]) (by show 3 ≤ 1000; decide) (p := fun _ => true) (g := fun _ => .bool true) (fun ℓ => ∃ a b c, ℓ = [a, b, c]) (ℓc := [none, none, none])
    (fun v hv ℓ hJ => by
      obtain ⟨a, b, c, rfl⟩ := hJ
      refine ⟨[a, some v, c], rfl, ⟨_, _, _, rfl⟩, condC_none, fun _ => ?_⟩
      obtain ⟨i, rfl⟩ : ∃ i, v = .int i := by
        rcases List.mem_cons.mp hv with h | hv
        · exact ⟨_, h⟩
        rcases List.mem_cons.mp hv with h | hv
        · exact ⟨_, h⟩
        rcases List.mem_cons.mp hv with h | hv
        · exact ⟨_, h⟩
        cases hv
      rw [eltF_eq]
      simp -implicitDefEqProofs [cont_exc, bindS_exc, bind_exc, ite_exc, ex_try, try_next, ex_nil, ex_cons, cont_next, cont_ret, ex_asg, ex_expr, ex_ret, ex_ite, ite_t, ite_f, ite_d, ex_loop, asg_name, src_of, ev_int, ev_boolc, ev_nonec, ev_var, ev_glob, ev_bin, ev_neg, ev_not, ev_and, ev_or, ep_cmp, ev_cmp2, ev_call, ev_sub, ev_list, ev_tup, es_nil, es_cons, and_one, and_cons, or_one, or_cons, eb_def, look_some, andV_t, andV_f, andV_d, orV_t, orV_f, orV_d, orV_n, bind_ok, bindS_ok, ofOpt_some, bin_add, bin_sub, bin_mul, bin_fdiv, bin_mod, bin_pow9, bin_pow6, cmp_lt, cmp_le, cmp_gt, cmp_ge, cmp_eq, cmp_ne, truth_bool, List.map_cons, List.map_nil, List.replicate, List.cons_append, List.nil_append, gt0, st0, gt1, st1, gt2, st2, gt3, st3, gt4, st4, gt5, st5, gt6, st6, gt7, st7, gt8, st8, gt9, st9, gt10, st10, gt11, st11, gt12, st12, gt13, st13, gt14, st14, gt15, st15, gt16, st16, gt17, st17, gt18, st18, gt19, st19, gt20, st20, H.gwhole, sp_whole (n := n + 4) H]) ⟨_, _, _, rfl⟩
  have hl : (([.int y, .int (k + 1), .int (r + 1)] : List V).filter fun _ => true).map (fun _ => V.bool true) = [.bool true, .bool true, .bool true] := rfl
  rw [hl] at hc
  have x1 := Ext.append σ [.list [.bool true, .bool true, .bool true]]
  have g1 := app_get σ (.list [.bool true, .bool true, .bool true])
  generalize σ ++ [Cell.list [.bool true, .bool true, .bool true]] = σ1 at hc x1 g1
  have x2 := Ext.append σ1 [.list [.bool true, .bool true, .bool true]]
  have g2 := app_get σ1 (.list [.bool true, .bool true, .bool true])
  have nb := neB (P := P) (x2.some g1) g2
  generalize hσ2 : σ1 ++ [Cell.list [.bool true, .bool true, .bool true]] = σ2 at nb
  obtain ⟨σ3, y', k', r', m1, s2, _⟩ := sp_date (n := n + 4) (σ := σ2) H h0 (show D < 1000000 by omega)
  obtain ⟨a1, a2, a3⟩ := m1.uniq md
  subst a1 a2 a3
  have s3 := fun σ => sp_md' (P := P) (n := n + 3) (hd := false) (σ := σ) H.toEnvC (y := y') (m := k' + 1) rfl y1 y2 kk
  obtain ⟨σ4, s4, _⟩ := sp_do (n := n + 2) (σ := σ3) H (m := k' + 1) (u := r' + 1) rfl y1 y2 kk (by omega) (by omega) (by omega)
  rw [show ys y' + preN y' k' + (r' + 1) - 1 = D by omega] at s4
  obtain ⟨y0, k0, q0, m0, s5⟩ := sp_mo (n := n + 2) (σ := σ4) H.toEnvC (D := 0) (by decide) (by decide)
  obtain ⟨a1, a2, a3⟩ := m0.uniq md_zero
  subst a1 a2 a3
  have s5' : callN P (n + 6) false (.fn "month_of") [.int 0] σ4 = .ok (.tup [.int 2000, .int 1, .int 1]) σ4 := s5
  obtain ⟨σ5, s6⟩ := law_t2 (n := n) (σ := σ4) (c := c) (l := l) H md h0 h1
  refine ⟨σ5, ?_⟩
  have z1 : 1 ≤ r' + 1 := by omega
  have z2 : r' + 1 ≤ mlen y' (k' + 1) := by omega
  simp -implicitDefEqProofs only [cont_exc, bindS_exc, bind_exc, ite_exc, ex_try, try_next, ex_nil, ex_cons, cont_next, cont_ret, ex_asg, ex_expr, ex_ret, ex_ite, ite_t, ite_f, ite_d, ex_loop, asg_name, src_of, ev_int, ev_boolc, ev_nonec, ev_var, ev_glob, ev_bin, ev_neg, ev_not, ev_and, ev_or, ep_cmp, ev_cmp2, ev_call, ev_sub, ev_list, ev_tup, es_nil, es_cons, and_one, and_cons, or_one, or_cons, eb_def, look_some, andV_t, andV_f, andV_d, orV_t, orV_f, orV_d, orV_n, bind_ok, bindS_ok, ofOpt_some, bin_add, bin_sub, bin_mul, bin_fdiv, bin_mod, bin_pow9, bin_pow6, cmp_lt, cmp_le, cmp_gt, cmp_ge, cmp_eq, cmp_ne, truth_bool, List.map_cons, List.map_nil, List.replicate, List.cons_append, List.nil_append, gt0, st0, gt1, st1, gt2, st2, gt3, st3, gt4, st4, gt5, st5, gt6, st6, gt7, st7, gt8, st8, gt9, st9, gt10, st10, gt11, st11, gt12, st12, gt13, st13, gt14, st14, gt15, st15, gt16, st16, gt17, st17, gt18, st18, gt19, st19, gt20, st20, lawT, H.gmo, s1, H.gisi, H.gtuple, isi_tt, Bool.not_true, ev_comp', Option.bind_none, src_of, srcOf, hc, hσ2, nb, H.gdate, s2, ne3, sub_t0, sub_t1, sub_t2, H.gmd, s3, H.gdayof, s4, decide_true, s5', z1, z2, if_true]
  exact s6
noncomputable def farL (f : Int) : List V := [.int (-1), .int 100000, .bool true, .str [48], .none, .int (100000 + f), .int (-1 - f)]
theorem far_at {f : Int} (h0 : 0 ≤ f) {j : Nat} (h : j < 7) : ∃ v, (farL f)[j]? = some v ∧ NotW 0 99999 v := by
  have hm := (by decide : ∀ j : Nat, j < 7 → j = 0 ∨ j = 1 ∨ j = 2 ∨ j = 3 ∨ j = 4 ∨ j = 5 ∨ j = 6) j h
  rcases hm with h | h | h | h | h | h | h <;> rw [h]
  · exact ⟨_, rfl, .lo (by decide)⟩
  · exact ⟨_, rfl, .hi (by decide)⟩
  · exact ⟨_, rfl, .bool _⟩
  · exact ⟨_, rfl, .str _⟩
  · exact ⟨_, rfl, .none⟩
  · exact ⟨_, rfl, .hi (by omega)⟩
  · exact ⟨_, rfl, .lo (by omega)⟩
theorem law02 (H : Env02 P) : ∃ σ', callN P (n + 7) false (.fn "law") [.script] σ = .ok (.bool true) σ' := by
  rw [callN_fn H.flaw]
  have sc := fun (k : Nat) (hk : k < 64) σ => sp_cell (P := P) (n := n + 4) (hd := false) (σ := σ) H.fcell H.glen H.ns k hk
  have c0 : ∀ σ, callN P (n + 6) false (.fn "_law_cell_at") [.script, .int 0] σ = .ok (.int (cell P 0)) σ := sc 0 (by decide)
  have c1 : ∀ σ, callN P (n + 6) false (.fn "_law_cell_at") [.script, .int 1] σ = .ok (.int (cell P 1)) σ := sc 1 (by decide)
  have c2 : ∀ σ, callN P (n + 6) false (.fn "_law_cell_at") [.script, .int 2] σ = .ok (.int (cell P 2)) σ := sc 2 (by decide)
  clear sc
  obtain ⟨σ1, D, s1, _, h0, h1⟩ := sp_day (P := P) (n := n + 5) (hd := false) (σ := σ) H (cell P 0)
  by_cases b1 : cell P 1 % 6 = 1
  · obtain ⟨j, hj, hj7⟩ : ∃ j : Nat, cell P 1 / 6 % 7 = j ∧ j < 7 := ⟨(cell P 1 / 6 % 7).toNat, by omega, by omega⟩
    obtain ⟨v, hv, w⟩ := far_at (f := cell P 1 / 42 % 1000000000) (by omega) hj7
    have g1 := app_get σ1 (.list (farL (cell P 1 / 42 % 1000000000)))
    have hl : σ1 ++ [Cell.list [.int (-1), .int 100000, .bool true, .str [48], .none, .int (100000 + cell P 1 / 42 % 1000000000), .int (-1 - cell P 1 / 42 % 1000000000)]] = σ1 ++ [.list (farL (cell P 1 / 42 % 1000000000))] := rfl
    generalize σ1 ++ [Cell.list (farL (cell P 1 / 42 % 1000000000))] = σ2 at g1 hl
    have s : subV P (.loc σ1.length) (.int j) σ2 = some v := by rw [sub_list g1, idx_nat (by omega), hv]
    have r := sp_ref0 (n := n + 1) H (sp_moN (n := n + 1) (σ := σ2) H w)
    refine ⟨σ2, rb_ret rfl ?_⟩
    simp -implicitDefEqProofs only [cont_exc, bindS_exc, bind_exc, ite_exc, ex_try, try_next, ex_nil, ex_cons, cont_next, cont_ret, ex_asg, ex_expr, ex_ret, ex_ite, ite_t, ite_f, ite_d, ex_loop, asg_name, src_of, ev_int, ev_boolc, ev_nonec, ev_var, ev_glob, ev_bin, ev_neg, ev_not, ev_and, ev_or, ep_cmp, ev_cmp2, ev_call, ev_sub, ev_list, ev_tup, es_nil, es_cons, and_one, and_cons, or_one, or_cons, eb_def, look_some, andV_t, andV_f, andV_d, orV_t, orV_f, orV_d, orV_n, bind_ok, bindS_ok, ofOpt_some, bin_add, bin_sub, bin_mul, bin_fdiv, bin_mod, bin_pow9, bin_pow6, cmp_lt, cmp_le, cmp_gt, cmp_ge, cmp_eq, cmp_ne, truth_bool, List.map_cons, List.map_nil, List.replicate, List.cons_append, List.nil_append, gt0, st0, gt1, st1, gt2, st2, gt3, st3, gt4, st4, gt5, st5, gt6, st6, gt7, st7, gt8, st8, gt9, st9, gt10, st10, gt11, st11, gt12, st12, gt13, st13, gt14, st14, gt15, st15, gt16, st16, gt17, st17, gt18, st18, gt19, st19, gt20, st20, law, H.gcell, c0, H.gday, s1, c1, bin_mod _ _ (show (0 : Int) < 6 by decide), bin_mod _ _ (show (0 : Int) < 7 by decide), bin_mod _ _ (show (0 : Int) < 1000000000 by decide), bin_fdiv _ _ (show (0 : Int) < 42 by decide) (by decide), bin_fdiv _ _ (show (0 : Int) < 6 by decide) (by decide), b1, decide_true, hl, hj, s, H.grefused, r, q_str]
  · by_cases b2 : cell P 1 % 6 = 2
    · obtain ⟨σ2, s2⟩ := sp_none (n := n) (σ := σ1) H (cell P 1 / 6) (cell P 2)
      refine ⟨σ2, rb_ret rfl ?_⟩
      simp -implicitDefEqProofs only [cont_exc, bindS_exc, bind_exc, ite_exc, ex_try, try_next, ex_nil, ex_cons, cont_next, cont_ret, ex_asg, ex_expr, ex_ret, ex_ite, ite_t, ite_f, ite_d, ex_loop, asg_name, src_of, ev_int, ev_boolc, ev_nonec, ev_var, ev_glob, ev_bin, ev_neg, ev_not, ev_and, ev_or, ep_cmp, ev_cmp2, ev_call, ev_sub, ev_list, ev_tup, es_nil, es_cons, and_one, and_cons, or_one, or_cons, eb_def, look_some, andV_t, andV_f, andV_d, orV_t, orV_f, orV_d, orV_n, bind_ok, bindS_ok, ofOpt_some, bin_add, bin_sub, bin_mul, bin_fdiv, bin_mod, bin_pow9, bin_pow6, cmp_lt, cmp_le, cmp_gt, cmp_ge, cmp_eq, cmp_ne, truth_bool, List.map_cons, List.map_nil, List.replicate, List.cons_append, List.nil_append, gt0, st0, gt1, st1, gt2, st2, gt3, st3, gt4, st4, gt5, st5, gt6, st6, gt7, st7, gt8, st8, gt9, st9, gt10, st10, gt11, st11, gt12, st12, gt13, st13, gt14, st14, gt15, st15, gt16, st16, gt17, st17, gt18, st18, gt19, st19, gt20, st20, law, H.gcell, c0, H.gday, s1, c1, bin_mod _ _ (show (0 : Int) < 6 by decide), b2, show ¬ (2 : Int) = 1 by decide, decide_true, decide_false, if_false, bin_fdiv _ _ (show (0 : Int) < 6 by decide) (by decide), H.gnone, c2, s2]
    · obtain ⟨σ2, s2⟩ := law_t (n := n) (σ := σ1) (c := cell P 1) (l := List.replicate 10 none) H h0 h1
      refine ⟨σ2, rb_ret rfl ?_⟩
      simp -implicitDefEqProofs only [cont_exc, bindS_exc, bind_exc, ite_exc, ex_try, try_next, ex_nil, ex_cons, cont_next, cont_ret, ex_asg, ex_expr, ex_ret, ex_ite, ite_t, ite_f, ite_d, ex_loop, asg_name, src_of, ev_int, ev_boolc, ev_nonec, ev_var, ev_glob, ev_bin, ev_neg, ev_not, ev_and, ev_or, ep_cmp, ev_cmp2, ev_call, ev_sub, ev_list, ev_tup, es_nil, es_cons, and_one, and_cons, or_one, or_cons, eb_def, look_some, andV_t, andV_f, andV_d, orV_t, orV_f, orV_d, orV_n, bind_ok, bindS_ok, ofOpt_some, bin_add, bin_sub, bin_mul, bin_fdiv, bin_mod, bin_pow9, bin_pow6, cmp_lt, cmp_le, cmp_gt, cmp_ge, cmp_eq, cmp_ne, truth_bool, List.map_cons, List.map_nil, List.replicate, List.cons_append, List.nil_append, gt0, st0, gt1, st1, gt2, st2, gt3, st3, gt4, st4, gt5, st5, gt6, st6, gt7, st7, gt8, st8, gt9, st9, gt10, st10, gt11, st11, gt12, st12, gt13, st13, gt14, st14, gt15, st15, gt16, st16, gt17, st17, gt18, st18, gt19, st19, gt20, st20, law, H.gcell, c0, H.gday, s1, c1, bin_mod _ _ (show (0 : Int) < 6 by decide), b1, b2, decide_true, decide_false, if_false]
      exact s2
end
end Mine
end

section
open PySem PySem.W PyProof.Rows
open Mine
namespace Mine
noncomputable def isNm : Stmt → Bool
  | .Assign [.Name x _] _ _ => x == "__name__"
  | _ => false
noncomputable def view : Program := { PySem.Challenge.rw_uf020030_02.row.prog with main := { PySem.Challenge.rw_uf020030_02.row.prog.main with body := PySem.Challenge.rw_uf020030_02.row.prog.main.body.filter fun st => !isNm st } }
noncomputable def tc02 : TabC := [("BadDay", "BadDay", true)]
noncomputable def hk : Hook := exHook tc02
end Mine
set_option maxHeartbeats 8000000 in
theorem PySem.Challenge.cw_uf020030_02_holds : PySem.Challenge.rw_uf020030_02.Holds := by
  w_on
  refine holds_law (by kernel_rfl) fun said => ?_
  refine holds_open (q := view) (loose := []) (Xt := fun s => xlAt view [] s && recOk (RowW.records _) s) (XP := XL view []) (Yf := Hook.obs hk) (Ya := Hook.val hk) (YP := Hook.says hk) (N := 20000) ?hl (Hook.of hk) (Hook.keeps hk) (fun s e => xl_of s (Bool.and_eq_true_iff.mp e).1) XL.keeps (by rfl) (by rfl) (by rfl) (fun s e => recFacts_of (Bool.and_eq_true_iff.mp e).2) (by rfl) (by first | assumption | decide +kernel) (by decide +kernel) ⟨rfl, rfl, rfl, rfl, rfl, by decide +kernel⟩ ?hw ?hc
  case hl => intro w; kernel_rfl
  case hw => w_witness2
  intro w s₀ s₁ mg mb G Y fa o pm cd doc dV kV ho hd hcd hD hmg hg args vals as hpre hlay hrd hwl hlo
  refine Ground.open G ?_
  intro T B D TE TW
  wrow_args hpre hlay hrd hwl hlo
  refine join (tc := tc02) Y T B rfl hg hmg (by assumption) (by assumption) (by kernel_rfl) (d := Mine.law) (by kernel_rfl) (n := 40) (by decide) (law02 (n := 34) ?_) (fun _ => rfl) (by wrow_post)
  constructor
  all_goals first | kernel_rfl | (simp only [Mine.progOf]; omega) | (constructor <;> kernel_rfl)
end
