import PyProof.Rows.All
import Wide.All
import OpenK.AllK
import Wide.FinOn
import Lean
import PySem.Challenge.RW_nm0018_01
set_option Elab.async false
set_option linter.all false
noncomputable section
namespace Mine
set_option tactic.hygienic false
set_option genSizeOfSpec false
set_option genInjectivity false
open PySem

inductive V where
  | none | bool (b : Bool) | int (i : Int) | str (s : Str) | ref (a : Addr) | ty (n : String) | bi (id : String)
  | tup (vs : List V) | fl (vs : List V) | fi (a c : Addr) (fs : List (Str × V))
  deriving Inhabited

inductive O where
  | list (vs : List V) | dict (kvs : List (Int × V)) | set (xs : List Int) | inst (c : Addr) (fs : List (Str × V))
  deriving Inhabited

noncomputable abbrev AH := Addr → Option O
noncomputable def put (σ : AH) (a : Addr) (o : O) : AH := fun b => if b = a then some o else σ b
noncomputable def del (σ : AH) (a : Addr) : AH := fun b => if b = a then .none else σ b
noncomputable def le (σ τ : AH) : Prop := ∀ a o, σ a = some o → τ a = some o

noncomputable abbrev Lo := List (Str × V)
noncomputable def setL (x : Str) (v : V) : Lo → Lo
  | [] => [(x, v)]
  | (y, w) :: r => if x = y then (y, v) :: r else (y, w) :: setL x v r
noncomputable def getL (x : Str) : Lo → Option V
  | [] => .none
  | (y, w) :: r => if x = y then some w else getL x r

noncomputable def putD (k : Int) (v : V) : List (Int × V) → List (Int × V)
  | [] => [(k, v)]
  | (j, w) :: r => if k = j then (j, v) :: r else (j, w) :: putD k v r
noncomputable def getD (k : Int) : List (Int × V) → Option V
  | [] => .none
  | (j, w) :: r => if k = j then some w else getD k r

inductive Fl where | next | brk | cont | ret (v : V)

noncomputable abbrev QV := V → AH → Prop
noncomputable abbrev QB := Bool → AH → Prop
noncomputable abbrev QL := List V → AH → Prop
noncomputable abbrev QS := Fl → Lo → AH → Prop

mutual
noncomputable def V.data : V → Option PyData
  | .none => some .none
  | .bool b => some (.bool b)
  | .int i => some (.int i)
  | .str s => some (.str s)
  | .tup vs => (V.datas vs).map .tuple
  | .fl vs => (V.datas vs).map .list
  | _ => Option.none
noncomputable def V.datas : List V → Option (List PyData)
  | [] => some []
  | v :: vs => match V.data v, V.datas vs with
    | some d, some ds => some (d :: ds)
    | _, _ => Option.none
end

mutual
noncomputable def V.sub (a : Addr) (w : V) : V → V
  | .ref b => if b = a then w else .ref b
  | .tup vs => .tup (V.subs a w vs)
  | .fl vs => .fl vs
  | v => v
noncomputable def V.subs (a : Addr) (w : V) : List V → List V
  | [] => []
  | v :: vs => V.sub a w v :: V.subs a w vs
end

noncomputable def look (σ : AH) : V → V
  | .ref a => match σ a with | some (.list vs) => .fl vs | _ => .ref a
  | v => v
/-- the stops of the evaluator -/
noncomputable def optQ {α : Type} (o : Option α) (Q : α → Prop) : Prop := match o with
  | some v => Q v
  | none => False
noncomputable def chk (b : Bool) (P : Prop) : Prop := match b with
  | true => P
  | false => False
noncomputable def sel (b : Bool) (P Q : Prop) : Prop := match b with
  | true => P
  | false => Q
inductive cnd (b : Bool) (P Q : Prop) : Prop
  | t : b = true → P → cnd b P Q
  | f : b = false → Q → cnd b P Q
structure gloQ (o : Option V) (Q : V → Prop) : Prop where
  get : optQ o Q
structure fldR (o : Option V) (Q : V → Prop) : Prop where
  get : optQ o Q
structure idxR (o : Option V) (Q : V → Prop) : Prop where
  get : optQ o Q
structure valS (v : V) (Q : V → Prop) : Prop where
  get : Q v
structure optR {α : Type} (o : Option α) (Q : α → Prop) : Prop where
  get : optQ o Q
noncomputable def ltQ (a b : Nat) (P : Prop) : Prop := chk (Nat.blt a b) P
noncomputable def leQ (a b : Nat) (P : Prop) : Prop := chk (Nat.ble a b) P
structure rd (σ : AH) (a : Addr) (k : O → Prop) : Prop where
  get : optQ (σ a) k
noncomputable def lkP (σ : AH) (v : V) (k : V → Prop) : Prop := match v with
  | .ref a => rd σ a fun o => match o with | .list vs => k (.fl vs) | _ => k (.ref a)
  | v => k v

noncomputable def intP (v : V) (k : Int → Prop) : Prop := match v with
  | .int i => k i
  | _ => False
noncomputable def flP (v : V) (k : List V → Prop) : Prop := match v with
  | .fl vs => k vs
  | _ => False
noncomputable def refP (v : V) (k : Addr → Prop) : Prop := match v with
  | .ref a => k a
  | _ => False
noncomputable def noneP (v : V) (k : Prop) : Prop := match v with
  | .none => k
  | _ => False
noncomputable def okS (s : Str) : Bool := s.cps.toList.all fun c => Nat.blt c 1114112
@[irreducible] noncomputable def eqP (σ : AH) (v w : V) (Q : Bool → Prop) : Prop :=
  ∃ d e, (look σ v).data = some d ∧ (look σ w).data = some e ∧ PySem.SeqAt.shaped d = true ∧ PySem.SeqAt.shaped e = true ∧ Q (PyData.eqv d e)

noncomputable def truth (σ : AH) : V → Option Bool
  | .none => some false
  | .bool b => some b
  | .fl vs => some (!vs.isEmpty)
  | .ref a => match σ a with
    | some (.list vs) => some (!vs.isEmpty)
    | some (.dict kvs) => some (!kvs.isEmpty)
    | some (.set xs) => some (!xs.isEmpty)
    | _ => Option.none
  | _ => Option.none
noncomputable def truP (σ : AH) (v : V) (Q : Bool → Prop) : Prop := match v with
  | .none => Q false
  | .bool b => Q b
  | .fl vs => Q (!vs.isEmpty)
  | .ref a => rd σ a fun o => match o with
    | .list vs => Q (!vs.isEmpty)
    | .dict kvs => Q (!kvs.isEmpty)
    | .set xs => Q (!xs.isEmpty)
    | _ => False
  | _ => False

inductive newListP (vs : List V) (σ : AH) (Q : QV) : Prop
  | fl : Q (.fl vs) σ → newListP vs σ Q
  | own : (∀ n, σ n = .none → Q (.ref n) (put σ n (.list vs))) → newListP vs σ Q

noncomputable def idx (vs : List V) (i : Int) : Option V :=
  if 0 ≤ i then vs[i.toNat]? else if 0 ≤ vs.length + i then vs[(vs.length + i).toNat]? else .none

noncomputable def itemP (v w : V) (σ : AH) (Q : QV) : Prop := match w with
  | .int i => match v with
    | .fl vs => idxR (idx vs i) fun x => Q x σ
    | .tup vs => optQ (idx vs i) fun x => Q x σ
    | .ref a => rd σ a fun o => match o with
      | .list vs => idxR (idx vs i) fun x => Q x σ
      | .dict kvs => idxR (getD i kvs) fun x => Q x σ
      | _ => False
    | _ => False
  | _ => False

noncomputable def attrP (v : V) (x : Str) (σ : AH) (Q : QV) : Prop := match v with
  | .fi _ _ fs => optQ (getL x fs) fun w => Q w σ
  | .ref a => rd σ a fun o => match o with
    | .inst _ fs => fldR (getL x fs) fun w => Q w σ
    | _ => False
  | _ => False

noncomputable def intsOf : List V → Option (List Int)
  | [] => some []
  | .int i :: vs => (intsOf vs).map (i :: ·)
  | _ :: _ => .none
noncomputable def boolsOf : List V → Option (List Bool)
  | [] => some []
  | .bool i :: vs => (boolsOf vs).map (i :: ·)
  | _ :: _ => .none
noncomputable def pairsOf : List V → Option (List (Int × V))
  | [] => some []
  | .int k :: v :: vs => (pairsOf vs).map ((k, v) :: ·)
  | _ => .none

noncomputable def sortI (is : List Int) : List Int := is.mergeSort (· ≤ ·)
noncomputable def lineOf : Nat := 16777216

noncomputable def binP (op : Operator) (v w : V) (σ : AH) (Q : QV) : Prop := match op with
  | .Add => match w with
    | .int j => intP v fun i => Q (.int (i + j)) σ
    | .str t => match v with
      | .str s => leQ (s.length + t.length) 1000 (Q (.str (s ++ t)) σ)
      | _ => False
    | w => lkP σ v fun v => lkP σ w fun w => flP v fun vs => flP w fun ws => leQ (vs.length + ws.length) lineOf (newListP (vs ++ ws) σ Q)
  | .Sub => intP v fun i => intP w fun j => Q (.int (i - j)) σ
  | .Mult => intP w fun j => match v with
    | .int i => (i.natAbs < 4294967296 ∧ j.natAbs < 4294967296) ∧ Q (.int (i * j)) σ
    | .ref a => rd σ a fun o => match o with
      | .list [x] => (0 ≤ j ∧ j ≤ lineOf) ∧ newListP (List.replicate j.toNat x) σ Q
      | _ => False
    | _ => False
  | .Mod => intP v fun i => intP w fun j => j > 0 ∧ Q (.int (i % j)) σ
  | .FloorDiv => intP v fun i => intP w fun j => (j > 0 ∧ j.natAbs < 1073741824) ∧ Q (.int (i / j)) σ
  | _ => False

noncomputable def sameFs (fs gs : List (Str × V)) : Prop := ∀ x v w d e, getL x fs = some v → getL x gs = some w → v.data = some d → w.data = some e → d = e

noncomputable def isP (v w : V) (Q : Bool → Prop) : Prop := match v with
  | .none => noneP w (Q true)
  | .int _ => noneP w (Q false)
  | .fi _ _ fs => match w with
    | .fi _ _ gs => ∀ r : Bool, (r = true → sameFs fs gs) → Q r
    | _ => False
  | _ => False

@[irreducible] noncomputable def inP (σ : AH) (v w : V) (Q : Bool → Prop) : Prop := match v with
  | .int i => refP w fun a => rd σ a fun o => match o with
    | .dict kvs => Q (getD i kvs).isSome
    | .set xs => Q (decide (i ∈ xs))
    | _ => False
  | .str s => match w with
    | .tup vs => ∃ ds, V.datas vs = some ds ∧ PyData.canLayAll0 ds = true ∧ PyData.canLay0 (.str s) = true ∧ Q (ds.any fun y => PyData.eqv y (.str s))
    | _ => False
  | _ => False

noncomputable def lenP (σ : AH) (v w : V) (q : Prop) : Prop := ∃ vs ws, look σ v = .fl vs ∧ look σ w = .fl ws ∧ vs.length ≠ ws.length ∧ q

noncomputable def eqQ (σ : AH) (v w : V) (Q : Bool → Prop) : Prop := match v with
  | .int i => match w with
    | .int j => Q (decide (i = j))
    | w => eqP σ (.int i) w Q
  | .str s => match w with
    | .str t => chk (okS s) (chk (okS t) (Q (decide (s = t))))
    | w => eqP σ (.str s) w Q
  | v => eqP σ v w Q ∨ lenP σ v w (Q false)
noncomputable def neQ (σ : AH) (v w : V) (Q : Bool → Prop) : Prop := match v with
  | .int i => match w with
    | .int j => Q (!decide (i = j))
    | w => eqP σ (.int i) w fun b => Q !b
  | v => eqP σ v w fun b => Q !b

noncomputable def cmpP (op : CmpOp) (v w : V) (σ : AH) (Q : Bool → Prop) : Prop := match op with
  | .Eq => eqQ σ v w Q
  | .NotEq => neQ σ v w Q
  | .Is => isP v w Q
  | .IsNot => isP v w fun b => Q !b
  | .In => inP σ v w Q
  | .NotIn => inP σ v w fun b => Q !b
  | .Lt => intP v fun i => intP w fun j => Q (decide (i < j))
  | .LtE => intP v fun i => intP w fun j => Q (decide (i ≤ j))
  | .Gt => intP v fun i => intP w fun j => Q (decide (j < i))
  | .GtE => intP v fun i => intP w fun j => Q (decide (j ≤ i))

noncomputable def isS (x : Str) (s : String) : Bool := decide (x = Str.ofString s)
noncomputable def methP (v : V) (x : Str) (vs : List V) (σ : AH) (Q : QV) : Prop := match v with
  | .ref a => rd σ a fun o => match o with
    | .list xs => match vs with
      | [w] => chk (isS x "append") (ltQ xs.length lineOf (Q .none (put σ a (.list (xs ++ [w])))))
      | [] => chk (isS x "pop") (idxR xs.getLast? fun y => Q y (put σ a (.list xs.dropLast)))
      | _ => False
    | .set xs => match vs with
      | [.int i] => chk (isS x "add") (ltQ xs.length 1000 (Q .none (put σ a (.set (if i ∈ xs then xs else xs ++ [i])))))
      | _ => False
    | .dict kvs => match vs with
      | [.int k, d] => chk (isS x "get") (valS ((getD k kvs).getD d) fun y => Q y σ)
      | _ => False
    | _ => False
  | .fl xs => match vs with
    | [.int i] => chk (isS x "count") (optR (intsOf xs) fun is => Q (.int (is.count i)) σ)
    | _ => False
  | _ => False

noncomputable def eqb (a b : String) : Bool := decide (a = b)
noncomputable def biP (f : V) (vs : List V) (σ : AH) (Q : QV) : Prop := match f with
  | .bi b => match vs with
    | [v] =>
      sel (eqb b "len") (lkP σ v fun v => flP v fun xs => Q (.int xs.length) σ)
      (sel (eqb b "any") (flP v fun xs => optR (boolsOf xs) fun bs => Q (.bool (bs.any id)) σ)
      (chk (eqb b "sorted") (match v with
        | .fl xs => optR (intsOf xs) fun is => ltQ xs.length 64 (Q (.fl ((sortI is).map .int)) σ)
        | .ref a => rd σ a fun o => match o with
          | .dict kvs => ltQ kvs.length 64 (Q (.fl ((sortI (kvs.map (·.1))).map .int)) σ)
          | _ => False
        | _ => False)))
    | [v, .ty t] => chk (eqb b "isinstance" && eqb t "bool") (match v with
      | .bool _ => Q (.bool true) σ
      | _ => False)
    | _ => False
  | .ty t => match vs with
    | [] => chk (eqb t "set") (∀ n, σ n = .none → Q (.ref n) (put σ n (.set [])))
    | [v] =>
      sel (eqb t "list") (flP v fun xs => leQ xs.length 1000 (newListP xs σ Q))
      (sel (eqb t "tuple") (flP v fun xs => leQ xs.length 1000 (Q (.tup xs) σ))
      (chk (eqb t "str") (intP v fun i => 0 ≤ i ∧ i < 1000 ∧ Q (.str (Str.ofString (toString i))) σ)))
    | _ => False
  | _ => False

structure EvT where
  ev : Scope → Expr → Lo → AH → QV → Prop
  ts : Scope → Expr → Lo → AH → QB → Prop

noncomputable abbrev Calls := Addr → List V → AH → QV → Prop

noncomputable def kCons (v : V) (Q : QL) : QL := fun vs σ => Q (v :: vs) σ
noncomputable def evsP (T : EvT) (sc : Scope) (m : Lo) : List Expr → AH → QL → Prop
  | [], σ, Q => Q [] σ
  | e :: es, σ, Q => T.ev sc e m σ fun v σ => evsP T sc m es σ (kCons v Q)
noncomputable def kB (σ : AH) (Q : QB) : Bool → Prop := fun b => Q b σ
noncomputable def kCm (op : CmpOp) (v : V) (Q : QB) : QV := fun w σ => cmpP op v w σ (kB σ Q)
noncomputable def chainP (T : EvT) (sc : Scope) (m : Lo) (v : V) : List CmpOp → List Expr → AH → QB → Prop
  | [op], [e], σ, Q => chk (!behindInMarks op e) (T.ev sc e m σ (kCm op v Q))
  | op :: op2 :: ops, e :: e2 :: es, σ, Q => T.ev sc e m σ fun w σ => cmpP op v w σ fun b => cnd b (chainP T sc m w (op2 :: ops) (e2 :: es) σ Q) (Q false σ)
  | _, _, _, _ => False
noncomputable def kCh (T : EvT) (sc : Scope) (m : Lo) (ops : List CmpOp) (es : List Expr) (Q : QB) : QV := fun v σ => chainP T sc m v ops es σ Q
noncomputable def kBl (Q : QV) : QB := fun b σ => Q (.bool b) σ

noncomputable def boolP (T : EvT) (sc : Scope) (m : Lo) (op : BoolOp) : List Expr → AH → QV → Prop
  | [], _, _ => False
  | [e], σ, Q => T.ev sc e m σ Q
  | e :: e2 :: es, σ, Q => T.ev sc e m σ fun v σ => truP σ v fun b => match op with
    | .And => cnd b (boolP T sc m op (e2 :: es) σ Q) (Q v σ)
    | .Or => cnd b (Q v σ) (boolP T sc m op (e2 :: es) σ Q)

noncomputable def allP (T : EvT) (sc : Scope) (m : Lo) (op : BoolOp) : List Expr → AH → QB → Prop
  | [], σ, Q => Q (op == .And) σ
  | [e], σ, Q => T.ts sc e m σ Q
  | e :: e2 :: es, σ, Q => T.ts sc e m σ fun b σ => match op with
    | .And => cnd b (allP T sc m op (e2 :: es) σ Q) (Q false σ)
    | .Or => cnd b (Q true σ) (allP T sc m op (e2 :: es) σ Q)

noncomputable def kV (σ : AH) (Q : QV) : V → Prop := fun v => Q v σ
noncomputable def nameP (G : Str → Option V) (sc : Scope) (m : Lo) (x : Str) (Q : V → Prop) : Prop :=
  chk (!isS x "__debug__") (match sc.names.lookup x with
  | some .globalImplicit => gloQ (G x) Q
  | some .local => optQ (getL x m) Q
  | some .cell => optQ (getL x m) Q
  | some .free => optQ (getL x m) Q
  | _ => False)

noncomputable def enumV : Nat → List V → List V
  | _, [] => []
  | k, v :: vs => .tup [.int k, v] :: enumV (k + 1) vs

noncomputable def notStar : Expr → Bool
  | .Starred _ _ => false
  | _ => true
noncomputable def tgt : Expr → Option Bool
  | .Name _ _ => some false
  | .Tuple _ _ _ => some true
  | _ => .none
noncomputable def notSet : Expr → Bool
  | .Set _ _ _ => false
  | _ => true

noncomputable def kIts (Q : QL) : QV := fun v σ => match v with
  | .fl vs => Q vs σ
  | .tup vs => Q vs σ
  | _ => False
noncomputable def nameOf : Expr → Option Str
  | .Name x _ => some x
  | _ => none
noncomputable def rngOf : Expr → Option (Str × Expr)
  | .Call f [e₁] [] _ => match nameOf f with
    | some x => some (x, e₁)
    | none => none
  | _ => none
noncomputable def iterO (T : EvT) (sc : Scope) (tup : Bool) (e : Expr) (m : Lo) (σ : AH) (Q : QL) : Prop :=
  chk (!tup) (chk (notSet e) (T.ev sc e m σ (kIts Q)))
noncomputable def iterP (G : Str → Option V) (T : EvT) (sc : Scope) (tup : Bool) (e : Expr) (m : Lo) (σ : AH) (Q : QL) : Prop := match rngOf e with
  | some (f, e₁) => nameP G sc m f fun fv => match fv with
    | .ty t => chk (notStar e₁) (sel (eqb t "range") (chk (!tup) (T.ev sc e₁ m σ fun v σ => intP v fun k => 0 ≤ k ∧ k ≤ lineOf ∧ Q ((List.range k.toNat).map fun (i : Nat) => V.int (i : Int)) σ))
      (chk (eqb t "enumerate") (chk tup (T.ev sc e₁ m σ fun v σ => flP v fun vs => Q (enumV 0 vs) σ))))
    | _ => iterO T sc tup e m σ Q
  | none => iterO T sc tup e m σ Q

@[irreducible] noncomputable def compL (T : EvT) (sc : Scope) (m : Lo) (x : Str) (elt : Expr) (ifs : List Expr) : List V → List V → AH → QL → Prop
  | [], acc, σ, Q => Q acc σ
  | v :: vs, acc, σ, Q => allP T sc (setL x v m) .And ifs σ fun b σ =>
    cnd b (T.ev sc elt (setL x v m) σ fun w σ => compL T sc m x elt ifs vs (acc ++ [w]) σ Q) (compL T sc m x elt ifs vs acc σ Q)

theorem compL_nil {T : EvT} {sc : Scope} {m : Lo} {x : Str} {elt : Expr} {ifs : List Expr} {acc : List V} {σ : AH} {Q : QL} : compL T sc m x elt ifs [] acc σ Q = Q acc σ := by with_unfolding_all rfl
theorem compL_cons {T : EvT} {sc : Scope} {m : Lo} {x : Str} {elt : Expr} {ifs : List Expr} {v : V} {vs acc : List V} {σ : AH} {Q : QL} : compL T sc m x elt ifs (v :: vs) acc σ Q = allP T sc (setL x v m) .And ifs σ fun b σ =>
    cnd b (T.ev sc elt (setL x v m) σ fun w σ => compL T sc m x elt ifs vs (acc ++ [w]) σ Q) (compL T sc m x elt ifs vs acc σ Q) := by with_unfolding_all rfl

noncomputable def freesOk (x : Str) (sc outer : Scope) : Bool :=
  (sc.kind == .function) && sc.names.all fun (n, k) => k != .cell && (k != .local || ((n == x || n == Str.ofString ".0") && sc.names.lookup n == some .local)) && (k != .free || outer.names.lookup n == some .cell)

noncomputable def callP (call : Calls) (f : V) (vs : List V) (σ : AH) (Q : QV) : Prop := match f with
  | .ref a => call a vs σ Q
  | .ty t => biP (.ty t) vs σ Q
  | .bi b => biP (.bi b) vs σ Q
  | _ => False

noncomputable def notSuper : Expr → Bool
  | .Call (.Name _ _) [] [] _ => false
  | _ => true

noncomputable def methOk (v : V) (x : Str) (σ : AH) (k : Prop) : Prop := match v with
  | .ref a => rd σ a fun o => match o with
    | .list _ => chk (isS x "append" || isS x "pop") k
    | .set _ => chk (isS x "add") k
    | .dict _ => chk (isS x "get") k
    | _ => False
  | .fl _ => chk (isS x "count") k
  | _ => False

noncomputable def isLocal (sc : Scope) (x : Str) : Bool := match sc.names.lookup x with | some .local => true | _ => false
noncomputable def isLoc (sc : Scope) (x : Str) : Bool := match sc.names.lookup x with | some .local => true | some .cell => true | _ => false

noncomputable def dcOf : List (Option Expr) → List Expr → Option (List Expr)
  | [], [] => some []
  | some k :: ks, v :: vs => (dcOf ks vs).map fun es => k :: v :: es
  | _, _ => none
structure Gen where
  x : Str
  iter : Expr
  ifs : List Expr
noncomputable def genOf : List Comprehension → Option Gen
  | [g] => match nameOf g.target with
    | some x => match g.is_async with
      | 0 => some ⟨x, g.iter, g.ifs⟩
      | _ => none
    | none => none
  | _ => none
inductive SubK where | rev | upto (k : Int) | bad | item
noncomputable def intOf : Expr → Option Int
  | .Constant (.int k) _ _ => some k
  | _ => none
noncomputable def isOne (e : Expr) : Bool := match intOf e with
  | some k => decide (k = 1)
  | none => false
noncomputable def isM1 : Expr → Bool
  | .UnaryOp .USub e _ => isOne e
  | _ => false
noncomputable def sliceK (lo hi st : Option Expr) : SubK := match lo with
  | some _ => .bad
  | none => match hi with
    | some e => match intOf e with
      | some k => match st with
        | none => .upto k
        | some _ => .bad
      | none => .bad
    | none => match st with
      | some e => match isM1 e with
        | true => .rev
        | false => .bad
      | none => .bad
noncomputable def subK : Expr → SubK
  | .Slice lo hi st _ => sliceK lo hi st
  | _ => .item
inductive CalK where | meth (o : Expr) (x : Str) (p : Pos) | name (f : Str) (p : Pos) | bad
noncomputable def calK : Expr → CalK
  | .Attribute o x p => .meth o x p
  | .Name f p => .name f p
  | _ => .bad

noncomputable def kBin1 (T : EvT) (sc : Scope) (m : Lo) (op : Operator) (r : Expr) (Q : QV) : QV := fun v σ => T.ev sc r m σ fun w σ => binP op v w σ Q
noncomputable def kIfE (T : EvT) (sc : Scope) (m : Lo) (a b : Expr) (Q : QV) : QB := fun c σ => cnd c (T.ev sc a m σ Q) (T.ev sc b m σ Q)
noncomputable def kNew (Q : QV) : QL := fun vs σ => newListP vs σ Q
noncomputable def kTup (Q : QV) : QL := fun vs σ => Q (.tup vs) σ
noncomputable def kAttr (x : Str) (Q : QV) : QV := fun v σ => attrP v x σ Q
noncomputable def kIt (v : V) (Q : QV) : QV := fun w σ => itemP v w σ Q
noncomputable def kSub (T : EvT) (sc : Scope) (m : Lo) (i : Expr) (Q : QV) : QV := fun v σ => T.ev sc i m σ (kIt v Q)
noncomputable def kMe (v : V) (x : Str) (Q : QV) : QL := fun vs σ => methP v x vs σ Q
noncomputable def kMeth (T : EvT) (sc : Scope) (m : Lo) (x : Str) (args : List Expr) (Q : QV) : QV := fun v σ => methOk v x σ (evsP T sc m args σ (kMe v x Q))
noncomputable def kCa (call : Calls) (f : V) (Q : QV) : QL := fun vs σ => callP call f vs σ Q
noncomputable def kCall (call : Calls) (T : EvT) (sc : Scope) (m : Lo) (args : List Expr) (Q : QV) : QV := fun fv σ => evsP T sc m args σ (kCa call fv Q)
noncomputable def kComp (T : EvT) (sc : Scope) (m : Lo) (x : Str) (elt : Expr) (ifs : List Expr) (Q : QV) : QL := fun vs σ => compL T sc m x elt ifs vs [] σ (kNew Q)
noncomputable def kTr (Q : QB) : QV := fun v σ => truP σ v (kB σ Q)
noncomputable def kNot (Q : QB) : QB := fun b σ => Q (!b) σ
noncomputable def kIfT (T : EvT) (sc : Scope) (m : Lo) (a b : Expr) (Q : QB) : QB := fun c σ => cnd c (T.ts sc a m σ Q) (T.ts sc b m σ Q)

noncomputable def evStep (G : Str → Option V) (call : Calls) (T : EvT) (sc : Scope) (e : Expr) (m : Lo) (σ : AH) (Q : QV) : Prop := match e with
  | .Constant c _ _ => match c with
    | .none => Q .none σ
    | .bool b => Q (.bool b) σ
    | .int i => Q (.int i) σ
    | .str s => Q (.str s) σ
    | _ => False
  | .Name x _ => nameP G sc m x (kV σ Q)
  | .BoolOp op es _ => boolP T sc m op es σ Q
  | .BinOp l op r _ => T.ev sc l m σ (kBin1 T sc m op r Q)
  | .UnaryOp op x _ => match op with
    | .Not => T.ev sc x m σ fun v σ => truP σ v fun b => Q (.bool !b) σ
    | .USub => T.ev sc x m σ fun v σ => intP v fun i => Q (.int (-i)) σ
    | _ => False
  | .IfExp t a b _ => T.ts sc t m σ (kIfE T sc m a b Q)
  | .Compare l ops es _ => T.ev sc l m σ (kCh T sc m ops es (kBl Q))
  | .List es _ => chk (Nat.ble es.length 100) (evsP T sc m es σ (kNew Q))
  | .Tuple es _ _ => chk (Nat.ble es.length 100) (evsP T sc m es σ (kTup Q))
  | .Dict ks vs _ => chk (Nat.blt ks.length 10) <| optQ (dcOf ks vs) fun es => evsP T sc m es σ fun ws σ => optQ (pairsOf ws) fun kvs => (kvs.map (·.1)).Nodup ∧ ∀ n, σ n = .none → Q (.ref n) (put σ n (.dict kvs))
  | .Set es k _ => match es with
    | [e] => chk (Nat.beq k 0) (T.ev sc e m σ fun v σ => intP v fun i => ∀ n, σ n = .none → Q (.ref n) (put σ n (.set [i])))
    | _ => False
  | .ListComp elt gens sc' _ => optQ (genOf gens) fun g => chk (isLocal sc' g.x && freesOk g.x sc' sc) (getL (Str.ofString ".0") m = none ∧ iterP G T sc false g.iter m σ (kComp T sc' m g.x elt g.ifs Q))
  | .Attribute o x _ => chk (notSuper o) (T.ev sc o m σ (kAttr x Q))
  | .Subscript o i _ => match subK i with
    | .rev => T.ev sc o m σ fun v σ => lkP σ v fun v => flP v fun vs => newListP vs.reverse σ Q
    | .upto k => T.ev sc o m σ fun v σ => lkP σ v fun v => flP v fun vs => 0 ≤ k ∧ k < 1000 ∧ newListP (vs.take k.toNat) σ Q
    | .bad => False
    | .item => T.ev sc o m σ (kSub T sc m i Q)
  | .Call f args kw pos => chk (kw.isEmpty && Nat.blt args.length 20 && args.all notStar) (match calK f with
    | .meth o x ap => chk (ap.endLine == pos.line && notSuper o) (T.ev sc o m σ (kMeth T sc m x args Q))
    | .name f p => T.ev sc (.Name f p) m σ (kCall call T sc m args Q)
    | .bad => False)
  | _ => False

noncomputable def tsStep (T : EvT) (sc : Scope) (e : Expr) (m : Lo) (σ : AH) (Q : QB) : Prop := match e with
  | .UnaryOp .Not x _ => T.ts sc x m σ (kNot Q)
  | .BoolOp op es _ => allP T sc m op es σ Q
  | .IfExp t a b _ => T.ts sc t m σ (kIfT T sc m a b Q)
  | .Compare l ops es _ => T.ev sc l m σ (kCh T sc m ops es Q)
  | e => T.ev sc e m σ (kTr Q)

noncomputable def evT (G : Str → Option V) (call : Calls) : Nat → EvT
  | 0 => ⟨fun zz zz zz zz zz => False, fun zz zz zz zz zz => False⟩
  | n + 1 => ⟨evStep G call (evT G call n), tsStep (evT G call n)⟩

noncomputable def seqK (B : Lo → AH → QS → Prop) (Q : QS) : QS := fun fl m σ => match fl with
  | .next => B m σ Q
  | .brk => Q .brk m σ
  | .cont => Q .cont m σ
  | .ret v => Q (.ret v) m σ
noncomputable def blkP (X : Stmt → Lo → AH → QS → Prop) : List Stmt → Lo → AH → QS → Prop
  | [], m, σ, Q => Q .next m σ
  | s :: r, m, σ, Q => X s m σ (seqK (blkP X r) Q)

noncomputable def okNames : List String := ["op", "dst", "args", "more", "is_volatile", "line", "number", "steps", "end", "name", "params", "is_static", "slots", "blocks", "registers", "has_value"]
noncomputable def okName (x : Str) : Bool := okNames.any fun y => x == Str.ofString y

noncomputable def storeP (T : EvT) (sc : Scope) (t : Expr) (v : V) (m : Lo) (σ : AH) (Q : Lo → AH → Prop) : Prop := match t with
  | .Name x _ => chk (isLoc sc x) (Q (setL x v m) σ)
  | .Attribute o x _ => T.ev sc o m σ fun w σ => refP w fun a => rd σ a fun o => match o with
    | .inst c fs => chk (okName x) (ltQ fs.length 100 (Q m (put σ a (.inst c (setL x v fs)))))
    | _ => False
  | .Subscript o i _ => match subK i with
    | .item => T.ev sc o m σ fun w σ => T.ev sc i m σ fun k σ => refP w fun a => intP k fun k => rd σ a fun o => match o with
      | .dict kvs => ltQ kvs.length lineOf (Q m (put σ a (.dict (putD k v kvs))))
      | .list vs => 0 ≤ k ∧ k < vs.length ∧ Q m (put σ a (.list (vs.set k.toNat v)))
      | _ => False
    | _ => False
  | _ => False

noncomputable def namesP (sc : Scope) : List Expr → List V → Lo → Option Lo
  | [], [], m => some m
  | e :: ts, v :: vs, m => match nameOf e with
    | some x => match isLoc sc x with
      | true => namesP sc ts vs (setL x v m)
      | false => none
    | none => none
  | _, _, _ => none

noncomputable def unpP (sc : Scope) (ts : List Expr) (m : Lo) (N : Lo → Prop) (v : V) : Prop := match v with
  | .tup vs => optQ (namesP sc ts vs m) N
  | .fl vs => optQ (namesP sc ts vs m) N
  | _ => False
noncomputable def targetP (T : EvT) (sc : Scope) (t : Expr) (v : V) (m : Lo) (σ : AH) (Q : Lo → AH → Prop) : Prop := match t with
  | .Tuple ts _ _ => lkP σ v (unpP sc ts m fun m => Q m σ)
  | .Name x p => storeP T sc (.Name x p) v m σ Q
  | .Attribute o x p => storeP T sc (.Attribute o x p) v m σ Q
  | .Subscript o i p => storeP T sc (.Subscript o i p) v m σ Q
  | _ => False

@[irreducible] noncomputable def forP (T : EvT) (X : Stmt → Lo → AH → QS → Prop) (sc : Scope) (t : Expr) (body : List Stmt) : List V → Lo → AH → QS → Prop
  | [], m, σ, Q => Q .next m σ
  | v :: vs, m, σ, Q => targetP T sc t v m σ fun m σ => blkP X body m σ fun fl m σ => match fl with
    | .next => forP T X sc t body vs m σ Q
    | .cont => forP T X sc t body vs m σ Q
    | .brk => Q .next m σ
    | .ret v => Q (.ret v) m σ

theorem forP_nil {T : EvT} {X : Stmt → Lo → AH → QS → Prop} {sc : Scope} {t : Expr} {body : List Stmt} {m : Lo} {σ : AH} {Q : QS} : forP T X sc t body [] m σ Q = Q .next m σ := by with_unfolding_all rfl
theorem forP_cons {T : EvT} {X : Stmt → Lo → AH → QS → Prop} {sc : Scope} {t : Expr} {body : List Stmt} {v : V} {vs : List V} {m : Lo} {σ : AH} {Q : QS} : forP T X sc t body (v :: vs) m σ Q = targetP T sc t v m σ fun m σ => blkP X body m σ fun fl m σ => match fl with
    | .next => forP T X sc t body vs m σ Q
    | .cont => forP T X sc t body vs m σ Q
    | .brk => Q .next m σ
    | .ret v => Q (.ret v) m σ := by with_unfolding_all rfl

@[irreducible] noncomputable def whileP (T : EvT) (X : Stmt → Lo → AH → QS → Prop) (sc : Scope) (t : Expr) (body : List Stmt) (m : Lo) (σ : AH) (Q : QS) : Prop :=
  ∀ R : Lo → AH → Prop, (∀ m σ, (T.ts sc t m σ fun b σ => cnd b (blkP X body m σ fun fl m σ => match fl with
    | .next => ∃ τ, le τ σ ∧ R m τ
    | .cont => ∃ τ, le τ σ ∧ R m τ
    | .brk => Q .next m σ
    | .ret v => Q (.ret v) m σ) (Q .next m σ)) → R m σ) → R m σ

noncomputable def notComp : Expr → Bool
  | .ListComp .. => false
  | .SetComp .. => false
  | .DictComp .. => false
  | _ => true

noncomputable def okTup : Expr → Bool
  | .Tuple vs _ _ => !vs.all (constantsAlone 8)
  | _ => true

inductive Wk : V → AH → V → AH → Prop
  | refl (v σ) : Wk v σ v σ
  | drop {v σ τ} : le τ σ → Wk v σ v τ
  | list {v σ a vs} : σ a = some (.list vs) → Wk v σ (V.sub a (.fl vs) v) (del σ a)
  | inst {v σ a c fs} : σ a = some (.inst c fs) → Wk v σ (V.sub a (.fi a c fs) v) (del σ a)
  | field {v σ b c fs x a vs} : σ b = some (.inst c fs) → getL x fs = some (.ref a) → σ a = some (.list vs) → a ≠ b → Wk v σ v (del (put σ b (.inst c (setL x (.fl vs) fs))) a)
  | trans {v σ v' σ' v'' σ''} : Wk v σ v' σ' → Wk v' σ' v'' σ'' → Wk v σ v'' σ''

@[irreducible] noncomputable def retP (v : V) (σ : AH) (Q : QV) : Prop := ∃ v' σ', Wk v σ v' σ' ∧ Q v' σ'

noncomputable def kDrop (m : Lo) (Q : QS) : QV := fun zz σ => Q .next m σ
noncomputable def kRet (m : Lo) (Q : QS) : QV := fun v σ => Q (.ret v) m σ
noncomputable def kNext (Q : QS) : Lo → AH → Prop := fun m σ => Q .next m σ
noncomputable def kAsg (T : EvT) (sc : Scope) (t : Expr) (m : Lo) (Q : QS) : QV := fun v σ => targetP T sc t v m σ (kNext Q)
noncomputable def kIf (X : Stmt → Lo → AH → QS → Prop) (a b : List Stmt) (m : Lo) (Q : QS) : QB := fun c σ => cnd c (blkP X a m σ Q) (blkP X b m σ Q)
noncomputable def kFor (T : EvT) (X : Stmt → Lo → AH → QS → Prop) (sc : Scope) (t : Expr) (body : List Stmt) (m : Lo) (Q : QS) : QL := fun vs σ => forP T X sc t body vs m σ Q
noncomputable def kFn (Q : QV) : QS := fun fl zz σ => retP (match fl with | .ret v => v | _ => .none) σ Q
noncomputable def subOf : Expr → Option (Expr × Expr)
  | .Subscript o i _ => match subK i with
    | .item => some (o, i)
    | _ => none
  | _ => none
noncomputable def isAdd : Operator → Bool
  | .Add => true
  | _ => false
noncomputable def oneE : List Expr → Option Expr
  | [t] => some t
  | _ => none
noncomputable def exStep (G : Str → Option V) (T : EvT) (X : Scope → Stmt → Lo → AH → QS → Prop) (sc : Scope) (s : Stmt) (m : Lo) (σ : AH) (Q : QS) : Prop := match s with
  | .Expr e _ => chk (notComp e) (T.ev sc e m σ (kDrop m Q))
  | .Break _ => Q .brk m σ
  | .Continue _ => Q .cont m σ
  | .Return e _ => optQ e fun e => T.ev sc e m σ (kRet m Q)
  | .Assign ts e _ => optQ (oneE ts) fun t => chk (okTup e) (T.ev sc e m σ (kAsg T sc t m Q))
  | .AugAssign t op e _ => chk (isAdd op) (optQ (subOf t) fun oi => T.ev sc oi.1 m σ fun w σ => T.ev sc oi.2 m σ fun k σ => itemP w k σ fun x σ => T.ev sc e m σ fun y σ => intP x fun x => intP y fun y => refP w fun a => intP k fun k => rd σ a fun o => match o with
      | .list vs => 0 ≤ k ∧ k < vs.length ∧ Q .next m (put σ a (.list (vs.set k.toNat (.int (x + y)))))
      | _ => False)
  | .If t a b _ => T.ts sc t m σ (kIf (X sc) a b m Q)
  | .While t body els _ => chk els.isEmpty (whileP T (X sc) sc t body m σ Q)
  | .For t iter body els _ => chk els.isEmpty (optQ (tgt t) fun tup => iterP G T sc tup iter m σ (kFor T (X sc) sc t body m Q))
  | _ => False

noncomputable def exT (G : Str → Option V) (call : Calls) : Nat → Scope → Stmt → Lo → AH → QS → Prop
  | 0, _, _, _, _, _ => False
  | n + 1, sc, s, m, σ, Q => exStep G (evT G call 20) (exT G call n) sc s m σ Q

inductive Fn where
  | fn (ps : List Str) (sc : Scope) (body : List Stmt)
  | cls (init : Addr)

noncomputable def calls (G : Str → Option V) (F : Addr → Option Fn) : Nat → Calls
  | 0, _, _, _, _ => False
  | d + 1, a, vs, σ, Q => match F a with
    | none => False
    | some (.fn ps sc body) => ps.length = vs.length ∧ blkP (exT G (calls G F d) 20 sc) body (ps.zip vs) σ (kFn Q)
    | some (.cls init) => ∀ n, σ n = none → calls G F d init (.ref n :: vs) (put σ n (.inst a [])) fun v σ => v = .none ∧ retP (.ref n) σ Q

end Mine

noncomputable section
namespace Mine
set_option tactic.hygienic false
set_option genSizeOfSpec false
set_option genInjectivity false
open PySem
set_option maxRecDepth 100000

noncomputable def stmtN (k : Nat) : Stmt := PySem.Challenge.pw_nm0018_01.main.body.getD k (.Pass ⟨0, 0, 0, 0⟩)
noncomputable def scOf : Stmt → Scope
  | .FunctionDef (scope := s) .. => s
  | _ => ⟨.module, [], false, false, []⟩
noncomputable def bodyOf : Stmt → List Stmt
  | .FunctionDef (body := b) .. => b
  | .ClassDef (body := b) .. => b
  | _ => []
noncomputable def initOf (s : Stmt) : Stmt := (bodyOf s).getD 0 (.Pass ⟨0, 0, 0, 0⟩)

noncomputable def bd84 : {l : List Stmt // l = bodyOf (stmtN 4)} := by
  refine ⟨?l, ?h⟩
  case h => conv => rhs; whnf
noncomputable def sc84 : {l : Scope // l = scOf (stmtN 4)} := by
  refine ⟨?l, ?h⟩
  case h => conv => rhs; whnf
noncomputable def bd91 : {l : List Stmt // l = bodyOf (stmtN 7)} := by
  refine ⟨?l, ?h⟩
  case h => conv => rhs; whnf
noncomputable def sc91 : {l : Scope // l = scOf (stmtN 7)} := by
  refine ⟨?l, ?h⟩
  case h => conv => rhs; whnf
noncomputable def bd98 : {l : List Stmt // l = bodyOf (stmtN 8)} := by
  refine ⟨?l, ?h⟩
  case h => conv => rhs; whnf
noncomputable def sc98 : {l : Scope // l = scOf (stmtN 8)} := by
  refine ⟨?l, ?h⟩
  case h => conv => rhs; whnf
noncomputable def bd105 : {l : List Stmt // l = bodyOf (stmtN 9)} := by
  refine ⟨?l, ?h⟩
  case h => conv => rhs; whnf
noncomputable def sc105 : {l : Scope // l = scOf (stmtN 9)} := by
  refine ⟨?l, ?h⟩
  case h => conv => rhs; whnf
noncomputable def bd110 : {l : List Stmt // l = bodyOf (stmtN 10)} := by
  refine ⟨?l, ?h⟩
  case h => conv => rhs; whnf
noncomputable def sc110 : {l : Scope // l = scOf (stmtN 10)} := by
  refine ⟨?l, ?h⟩
  case h => conv => rhs; whnf
noncomputable def bd117 : {l : List Stmt // l = bodyOf (stmtN 11)} := by
  refine ⟨?l, ?h⟩
  case h => conv => rhs; whnf
noncomputable def sc117 : {l : Scope // l = scOf (stmtN 11)} := by
  refine ⟨?l, ?h⟩
  case h => conv => rhs; whnf
noncomputable def bd124 : {l : List Stmt // l = bodyOf (stmtN 12)} := by
  refine ⟨?l, ?h⟩
  case h => conv => rhs; whnf
noncomputable def sc124 : {l : Scope // l = scOf (stmtN 12)} := by
  refine ⟨?l, ?h⟩
  case h => conv => rhs; whnf
noncomputable def bd131 : {l : List Stmt // l = bodyOf (stmtN 13)} := by
  refine ⟨?l, ?h⟩
  case h => conv => rhs; whnf
noncomputable def sc131 : {l : Scope // l = scOf (stmtN 13)} := by
  refine ⟨?l, ?h⟩
  case h => conv => rhs; whnf
noncomputable def bd138 : {l : List Stmt // l = bodyOf (stmtN 14)} := by
  refine ⟨?l, ?h⟩
  case h => conv => rhs; whnf
noncomputable def sc138 : {l : Scope // l = scOf (stmtN 14)} := by
  refine ⟨?l, ?h⟩
  case h => conv => rhs; whnf
noncomputable def bd145 : {l : List Stmt // l = bodyOf (stmtN 15)} := by
  refine ⟨?l, ?h⟩
  case h => conv => rhs; whnf
noncomputable def sc145 : {l : Scope // l = scOf (stmtN 15)} := by
  refine ⟨?l, ?h⟩
  case h => conv => rhs; whnf
noncomputable def bd152 : {l : List Stmt // l = bodyOf (stmtN 16)} := by
  refine ⟨?l, ?h⟩
  case h => conv => rhs; whnf
noncomputable def sc152 : {l : Scope // l = scOf (stmtN 16)} := by
  refine ⟨?l, ?h⟩
  case h => conv => rhs; whnf
noncomputable def bd159 : {l : List Stmt // l = bodyOf (stmtN 17)} := by
  refine ⟨?l, ?h⟩
  case h => conv => rhs; whnf
noncomputable def sc159 : {l : Scope // l = scOf (stmtN 17)} := by
  refine ⟨?l, ?h⟩
  case h => conv => rhs; whnf
noncomputable def bd166 : {l : List Stmt // l = bodyOf (stmtN 18)} := by
  refine ⟨?l, ?h⟩
  case h => conv => rhs; whnf
noncomputable def sc166 : {l : Scope // l = scOf (stmtN 18)} := by
  refine ⟨?l, ?h⟩
  case h => conv => rhs; whnf
noncomputable def bd171 : {l : List Stmt // l = bodyOf (stmtN 19)} := by
  refine ⟨?l, ?h⟩
  case h => conv => rhs; whnf
noncomputable def sc171 : {l : Scope // l = scOf (stmtN 19)} := by
  refine ⟨?l, ?h⟩
  case h => conv => rhs; whnf
noncomputable def bd178 : {l : List Stmt // l = bodyOf (stmtN 20)} := by
  refine ⟨?l, ?h⟩
  case h => conv => rhs; whnf
noncomputable def sc178 : {l : Scope // l = scOf (stmtN 20)} := by
  refine ⟨?l, ?h⟩
  case h => conv => rhs; whnf
noncomputable def bd185 : {l : List Stmt // l = bodyOf (stmtN 21)} := by
  refine ⟨?l, ?h⟩
  case h => conv => rhs; whnf
noncomputable def sc185 : {l : Scope // l = scOf (stmtN 21)} := by
  refine ⟨?l, ?h⟩
  case h => conv => rhs; whnf
noncomputable def bd190 : {l : List Stmt // l = bodyOf (stmtN 22)} := by
  refine ⟨?l, ?h⟩
  case h => conv => rhs; whnf
noncomputable def sc190 : {l : Scope // l = scOf (stmtN 22)} := by
  refine ⟨?l, ?h⟩
  case h => conv => rhs; whnf
noncomputable def bd195 : {l : List Stmt // l = bodyOf (stmtN 23)} := by
  refine ⟨?l, ?h⟩
  case h => conv => rhs; whnf
noncomputable def sc195 : {l : Scope // l = scOf (stmtN 23)} := by
  refine ⟨?l, ?h⟩
  case h => conv => rhs; whnf
noncomputable def bd202 : {l : List Stmt // l = bodyOf (stmtN 24)} := by
  refine ⟨?l, ?h⟩
  case h => conv => rhs; whnf
noncomputable def sc202 : {l : Scope // l = scOf (stmtN 24)} := by
  refine ⟨?l, ?h⟩
  case h => conv => rhs; whnf
noncomputable def bd209 : {l : List Stmt // l = bodyOf (stmtN 26)} := by
  refine ⟨?l, ?h⟩
  case h => conv => rhs; whnf
noncomputable def sc209 : {l : Scope // l = scOf (stmtN 26)} := by
  refine ⟨?l, ?h⟩
  case h => conv => rhs; whnf
noncomputable def bd216 : {l : List Stmt // l = bodyOf (stmtN 27)} := by
  refine ⟨?l, ?h⟩
  case h => conv => rhs; whnf
noncomputable def sc216 : {l : Scope // l = scOf (stmtN 27)} := by
  refine ⟨?l, ?h⟩
  case h => conv => rhs; whnf
noncomputable def bd223 : {l : List Stmt // l = bodyOf (stmtN 28)} := by
  refine ⟨?l, ?h⟩
  case h => conv => rhs; whnf
noncomputable def sc223 : {l : Scope // l = scOf (stmtN 28)} := by
  refine ⟨?l, ?h⟩
  case h => conv => rhs; whnf
noncomputable def bd230 : {l : List Stmt // l = bodyOf (stmtN 29)} := by
  refine ⟨?l, ?h⟩
  case h => conv => rhs; whnf
noncomputable def sc230 : {l : Scope // l = scOf (stmtN 29)} := by
  refine ⟨?l, ?h⟩
  case h => conv => rhs; whnf
noncomputable def bd237 : {l : List Stmt // l = bodyOf (stmtN 30)} := by
  refine ⟨?l, ?h⟩
  case h => conv => rhs; whnf
noncomputable def sc237 : {l : Scope // l = scOf (stmtN 30)} := by
  refine ⟨?l, ?h⟩
  case h => conv => rhs; whnf
noncomputable def bd242 : {l : List Stmt // l = bodyOf (stmtN 31)} := by
  refine ⟨?l, ?h⟩
  case h => conv => rhs; whnf
noncomputable def sc242 : {l : Scope // l = scOf (stmtN 31)} := by
  refine ⟨?l, ?h⟩
  case h => conv => rhs; whnf
noncomputable def bd247 : {l : List Stmt // l = bodyOf (stmtN 32)} := by
  refine ⟨?l, ?h⟩
  case h => conv => rhs; whnf
noncomputable def sc247 : {l : Scope // l = scOf (stmtN 32)} := by
  refine ⟨?l, ?h⟩
  case h => conv => rhs; whnf
noncomputable def bd252 : {l : List Stmt // l = bodyOf (stmtN 33)} := by
  refine ⟨?l, ?h⟩
  case h => conv => rhs; whnf
noncomputable def sc252 : {l : Scope // l = scOf (stmtN 33)} := by
  refine ⟨?l, ?h⟩
  case h => conv => rhs; whnf
noncomputable def bd259 : {l : List Stmt // l = bodyOf (stmtN 34)} := by
  refine ⟨?l, ?h⟩
  case h => conv => rhs; whnf
noncomputable def sc259 : {l : Scope // l = scOf (stmtN 34)} := by
  refine ⟨?l, ?h⟩
  case h => conv => rhs; whnf
noncomputable def bd264 : {l : List Stmt // l = bodyOf (stmtN 35)} := by
  refine ⟨?l, ?h⟩
  case h => conv => rhs; whnf
noncomputable def sc264 : {l : Scope // l = scOf (stmtN 35)} := by
  refine ⟨?l, ?h⟩
  case h => conv => rhs; whnf
noncomputable def bd271 : {l : List Stmt // l = bodyOf (stmtN 36)} := by
  refine ⟨?l, ?h⟩
  case h => conv => rhs; whnf
noncomputable def sc271 : {l : Scope // l = scOf (stmtN 36)} := by
  refine ⟨?l, ?h⟩
  case h => conv => rhs; whnf
noncomputable def bd278 : {l : List Stmt // l = bodyOf (stmtN 37)} := by
  refine ⟨?l, ?h⟩
  case h => conv => rhs; whnf
noncomputable def sc278 : {l : Scope // l = scOf (stmtN 37)} := by
  refine ⟨?l, ?h⟩
  case h => conv => rhs; whnf
noncomputable def bd283 : {l : List Stmt // l = bodyOf (stmtN 38)} := by
  refine ⟨?l, ?h⟩
  case h => conv => rhs; whnf
noncomputable def sc283 : {l : Scope // l = scOf (stmtN 38)} := by
  refine ⟨?l, ?h⟩
  case h => conv => rhs; whnf
noncomputable def bd290 : {l : List Stmt // l = bodyOf (stmtN 39)} := by
  refine ⟨?l, ?h⟩
  case h => conv => rhs; whnf
noncomputable def sc290 : {l : Scope // l = scOf (stmtN 39)} := by
  refine ⟨?l, ?h⟩
  case h => conv => rhs; whnf
noncomputable def bd297 : {l : List Stmt // l = bodyOf (stmtN 40)} := by
  refine ⟨?l, ?h⟩
  case h => conv => rhs; whnf
noncomputable def sc297 : {l : Scope // l = scOf (stmtN 40)} := by
  refine ⟨?l, ?h⟩
  case h => conv => rhs; whnf
noncomputable def bd304 : {l : List Stmt // l = bodyOf (stmtN 41)} := by
  refine ⟨?l, ?h⟩
  case h => conv => rhs; whnf
noncomputable def sc304 : {l : Scope // l = scOf (stmtN 41)} := by
  refine ⟨?l, ?h⟩
  case h => conv => rhs; whnf
noncomputable def bd309 : {l : List Stmt // l = bodyOf (stmtN 42)} := by
  refine ⟨?l, ?h⟩
  case h => conv => rhs; whnf
noncomputable def sc309 : {l : Scope // l = scOf (stmtN 42)} := by
  refine ⟨?l, ?h⟩
  case h => conv => rhs; whnf
noncomputable def bd28 : {l : List Stmt // l = bodyOf (initOf (stmtN 1))} := by
  refine ⟨?l, ?h⟩
  case h => conv => rhs; whnf
noncomputable def sc28 : {l : Scope // l = scOf (initOf (stmtN 1))} := by
  refine ⟨?l, ?h⟩
  case h => conv => rhs; whnf
noncomputable def bd49 : {l : List Stmt // l = bodyOf (initOf (stmtN 2))} := by
  refine ⟨?l, ?h⟩
  case h => conv => rhs; whnf
noncomputable def sc49 : {l : Scope // l = scOf (initOf (stmtN 2))} := by
  refine ⟨?l, ?h⟩
  case h => conv => rhs; whnf
noncomputable def bd70 : {l : List Stmt // l = bodyOf (initOf (stmtN 3))} := by
  refine ⟨?l, ?h⟩
  case h => conv => rhs; whnf
noncomputable def sc70 : {l : Scope // l = scOf (initOf (stmtN 3))} := by
  refine ⟨?l, ?h⟩
  case h => conv => rhs; whnf

noncomputable def paramsOf : Stmt → Arguments
  | .FunctionDef (args := p) .. => p
  | _ => ⟨[], [], none, [], [], none, []⟩
structure FR where
  a : Addr
  ps : List Str
  sc : Scope
  body : List Stmt
  params : Arguments
noncomputable def fnTab : List FR := [
  ⟨84, [Str.ofString "block"], sc84.1, bd84.1, paramsOf (stmtN 4)⟩,
  ⟨91, [Str.ofString "func"], sc91.1, bd91.1, paramsOf (stmtN 7)⟩,
  ⟨98, [Str.ofString "func"], sc98.1, bd98.1, paramsOf (stmtN 8)⟩,
  ⟨105, [Str.ofString "step", Str.ofString "op", Str.ofString "dst", Str.ofString "args", Str.ofString "more"], sc105.1, bd105.1, paramsOf (stmtN 9)⟩,
  ⟨110, [Str.ofString "end", Str.ofString "lead"], sc110.1, bd110.1, paramsOf (stmtN 10)⟩,
  ⟨117, [Str.ofString "one", Str.ofString "other"], sc117.1, bd117.1, paramsOf (stmtN 11)⟩,
  ⟨124, [Str.ofString "block", Str.ofString "operand"], sc124.1, bd124.1, paramsOf (stmtN 12)⟩,
  ⟨131, [Str.ofString "block", Str.ofString "end"], sc131.1, bd131.1, paramsOf (stmtN 13)⟩,
  ⟨138, [Str.ofString "block", Str.ofString "end"], sc138.1, bd138.1, paramsOf (stmtN 14)⟩,
  ⟨145, [Str.ofString "block", Str.ofString "end"], sc145.1, bd145.1, paramsOf (stmtN 15)⟩,
  ⟨152, [Str.ofString "func"], sc152.1, bd152.1, paramsOf (stmtN 16)⟩,
  ⟨159, [Str.ofString "jumps", Str.ofString "number"], sc159.1, bd159.1, paramsOf (stmtN 17)⟩,
  ⟨166, [Str.ofString "func"], sc166.1, bd166.1, paramsOf (stmtN 18)⟩,
  ⟨171, [Str.ofString "func"], sc171.1, bd171.1, paramsOf (stmtN 19)⟩,
  ⟨178, [Str.ofString "func", Str.ofString "row"], sc178.1, bd178.1, paramsOf (stmtN 20)⟩,
  ⟨185, [Str.ofString "func", Str.ofString "row"], sc185.1, bd185.1, paramsOf (stmtN 21)⟩,
  ⟨190, [Str.ofString "func", Str.ofString "kept"], sc190.1, bd190.1, paramsOf (stmtN 22)⟩,
  ⟨195, [Str.ofString "func"], sc195.1, bd195.1, paramsOf (stmtN 23)⟩,
  ⟨202, [Str.ofString "func"], sc202.1, bd202.1, paramsOf (stmtN 24)⟩,
  ⟨209, [Str.ofString "well", Str.ofString "size"], sc209.1, bd209.1, paramsOf (stmtN 26)⟩,
  ⟨216, [Str.ofString "well"], sc216.1, bd216.1, paramsOf (stmtN 27)⟩,
  ⟨223, [Str.ofString "well", Str.ofString "tag"], sc223.1, bd223.1, paramsOf (stmtN 28)⟩,
  ⟨230, [Str.ofString "well", Str.ofString "tag"], sc230.1, bd230.1, paramsOf (stmtN 29)⟩,
  ⟨237, [Str.ofString "well"], sc237.1, bd237.1, paramsOf (stmtN 30)⟩,
  ⟨242, [Str.ofString "well", Str.ofString "many"], sc242.1, bd242.1, paramsOf (stmtN 31)⟩,
  ⟨247, [Str.ofString "well"], sc247.1, bd247.1, paramsOf (stmtN 32)⟩,
  ⟨252, [Str.ofString "well"], sc252.1, bd252.1, paramsOf (stmtN 33)⟩,
  ⟨259, [Str.ofString "held", Str.ofString "operand"], sc259.1, bd259.1, paramsOf (stmtN 34)⟩,
  ⟨264, [Str.ofString "act", Str.ofString "held", Str.ofString "trace"], sc264.1, bd264.1, paramsOf (stmtN 35)⟩,
  ⟨271, [Str.ofString "end", Str.ofString "held"], sc271.1, bd271.1, paramsOf (stmtN 36)⟩,
  ⟨278, [Str.ofString "drawn", Str.ofString "pair"], sc278.1, bd278.1, paramsOf (stmtN 37)⟩,
  ⟨283, [Str.ofString "drawn"], sc283.1, bd283.1, paramsOf (stmtN 38)⟩,
  ⟨290, [Str.ofString "end"], sc290.1, bd290.1, paramsOf (stmtN 39)⟩,
  ⟨297, [Str.ofString "drawn"], sc297.1, bd297.1, paramsOf (stmtN 40)⟩,
  ⟨304, [Str.ofString "drawn"], sc304.1, bd304.1, paramsOf (stmtN 41)⟩,
  ⟨309, [Str.ofString "script"], sc309.1, bd309.1, paramsOf (stmtN 42)⟩,
  ⟨28, [Str.ofString "self", Str.ofString "op", Str.ofString "dst", Str.ofString "args", Str.ofString "more"], sc28.1, bd28.1, paramsOf (initOf (stmtN 1))⟩,
  ⟨49, [Str.ofString "self", Str.ofString "number"], sc49.1, bd49.1, paramsOf (initOf (stmtN 2))⟩,
  ⟨70, [Str.ofString "self", Str.ofString "name"], sc70.1, bd70.1, paramsOf (initOf (stmtN 3))⟩]
noncomputable def clTab : List (Addr × Addr) := [(31, 28), (52, 49), (73, 70)]
noncomputable def F0 (a : Addr) : Option Fn := match fnTab.find? fun r => Nat.beq r.a a with
  | some r => some (.fn r.ps r.sc r.body)
  | none => (clTab.lookup a).map .cls
noncomputable def gTab : List (Str × V) := [
  (Str.ofString "followers", .ref 84),
  (Str.ofString "postorder", .ref 91),
  (Str.ofString "order", .ref 98),
  (Str.ofString "in_place_of", .ref 105),
  (Str.ofString "led_end", .ref 110),
  (Str.ofString "same_end", .ref 117),
  (Str.ofString "known_value", .ref 124),
  (Str.ofString "settled_branch", .ref 131),
  (Str.ofString "settled_table", .ref 138),
  (Str.ofString "settled_end", .ref 145),
  (Str.ofString "plain_jumps", .ref 152),
  (Str.ofString "last_goal", .ref 159),
  (Str.ofString "threads", .ref 166),
  (Str.ofString "straighten_ends", .ref 171),
  (Str.ofString "edges_into", .ref 178),
  (Str.ofString "join_blocks", .ref 185),
  (Str.ofString "keep_blocks", .ref 190),
  (Str.ofString "straighten_once", .ref 195),
  (Str.ofString "straighten", .ref 202),
  (Str.ofString "_law_draw", .ref 209),
  (Str.ofString "_law_place", .ref 216),
  (Str.ofString "_law_step", .ref 223),
  (Str.ofString "_law_call", .ref 230),
  (Str.ofString "_law_test", .ref 237),
  (Str.ofString "_law_end", .ref 242),
  (Str.ofString "_law_blocks", .ref 247),
  (Str.ofString "_law_func", .ref 252),
  (Str.ofString "_law_value", .ref 259),
  (Str.ofString "_law_do", .ref 264),
  (Str.ofString "_law_next", .ref 271),
  (Str.ofString "_law_walk", .ref 278),
  (Str.ofString "_law_shown", .ref 283),
  (Str.ofString "_law_goals", .ref 290),
  (Str.ofString "_law_reached", .ref 297),
  (Str.ofString "_law_is_straight", .ref 304),
  (Str.ofString "law", .ref 309),
  (Str.ofString "Step", .ref 31),
  (Str.ofString "Block", .ref 52),
  (Str.ofString "Func", .ref 73),
  (Str.ofString "ROUND", .int 4294967296),
  (Str.ofString "list", .ty "list"),
  (Str.ofString "range", .ty "range"),
  (Str.ofString "enumerate", .ty "enumerate"),
  (Str.ofString "set", .ty "set"),
  (Str.ofString "bool", .ty "bool"),
  (Str.ofString "tuple", .ty "tuple"),
  (Str.ofString "str", .ty "str"),
  (Str.ofString "len", .bi "len"),
  (Str.ofString "sorted", .bi "sorted"),
  (Str.ofString "any", .bi "any"),
  (Str.ofString "isinstance", .bi "isinstance")]
@[irreducible] noncomputable def G0 (x : Str) : Option V := gTab.lookup x
theorem g_followers : G0 (Str.ofString "followers") = some (.ref 84) := by kernel_rfl
theorem g_postorder : G0 (Str.ofString "postorder") = some (.ref 91) := by kernel_rfl
theorem g_order : G0 (Str.ofString "order") = some (.ref 98) := by kernel_rfl
theorem g_in_place_of : G0 (Str.ofString "in_place_of") = some (.ref 105) := by kernel_rfl
theorem g_led_end : G0 (Str.ofString "led_end") = some (.ref 110) := by kernel_rfl
theorem g_same_end : G0 (Str.ofString "same_end") = some (.ref 117) := by kernel_rfl
theorem g_known_value : G0 (Str.ofString "known_value") = some (.ref 124) := by kernel_rfl
theorem g_settled_branch : G0 (Str.ofString "settled_branch") = some (.ref 131) := by kernel_rfl
theorem g_settled_table : G0 (Str.ofString "settled_table") = some (.ref 138) := by kernel_rfl
theorem g_settled_end : G0 (Str.ofString "settled_end") = some (.ref 145) := by kernel_rfl
theorem g_plain_jumps : G0 (Str.ofString "plain_jumps") = some (.ref 152) := by kernel_rfl
theorem g_last_goal : G0 (Str.ofString "last_goal") = some (.ref 159) := by kernel_rfl
theorem g_threads : G0 (Str.ofString "threads") = some (.ref 166) := by kernel_rfl
theorem g_straighten_ends : G0 (Str.ofString "straighten_ends") = some (.ref 171) := by kernel_rfl
theorem g_edges_into : G0 (Str.ofString "edges_into") = some (.ref 178) := by kernel_rfl
theorem g_join_blocks : G0 (Str.ofString "join_blocks") = some (.ref 185) := by kernel_rfl
theorem g_keep_blocks : G0 (Str.ofString "keep_blocks") = some (.ref 190) := by kernel_rfl
theorem g_straighten_once : G0 (Str.ofString "straighten_once") = some (.ref 195) := by kernel_rfl
theorem g_straighten : G0 (Str.ofString "straighten") = some (.ref 202) := by kernel_rfl
theorem g_law_draw : G0 (Str.ofString "_law_draw") = some (.ref 209) := by kernel_rfl
theorem g_law_place : G0 (Str.ofString "_law_place") = some (.ref 216) := by kernel_rfl
theorem g_law_step : G0 (Str.ofString "_law_step") = some (.ref 223) := by kernel_rfl
theorem g_law_call : G0 (Str.ofString "_law_call") = some (.ref 230) := by kernel_rfl
theorem g_law_test : G0 (Str.ofString "_law_test") = some (.ref 237) := by kernel_rfl
theorem g_law_end : G0 (Str.ofString "_law_end") = some (.ref 242) := by kernel_rfl
theorem g_law_blocks : G0 (Str.ofString "_law_blocks") = some (.ref 247) := by kernel_rfl
theorem g_law_func : G0 (Str.ofString "_law_func") = some (.ref 252) := by kernel_rfl
theorem g_law_value : G0 (Str.ofString "_law_value") = some (.ref 259) := by kernel_rfl
theorem g_law_do : G0 (Str.ofString "_law_do") = some (.ref 264) := by kernel_rfl
theorem g_law_next : G0 (Str.ofString "_law_next") = some (.ref 271) := by kernel_rfl
theorem g_law_walk : G0 (Str.ofString "_law_walk") = some (.ref 278) := by kernel_rfl
theorem g_law_shown : G0 (Str.ofString "_law_shown") = some (.ref 283) := by kernel_rfl
theorem g_law_goals : G0 (Str.ofString "_law_goals") = some (.ref 290) := by kernel_rfl
theorem g_law_reached : G0 (Str.ofString "_law_reached") = some (.ref 297) := by kernel_rfl
theorem g_law_is_straight : G0 (Str.ofString "_law_is_straight") = some (.ref 304) := by kernel_rfl
theorem g_Step : G0 (Str.ofString "Step") = some (.ref 31) := by kernel_rfl
theorem g_Block : G0 (Str.ofString "Block") = some (.ref 52) := by kernel_rfl
theorem g_Func : G0 (Str.ofString "Func") = some (.ref 73) := by kernel_rfl
theorem g_ROUND : G0 (Str.ofString "ROUND") = some (.int 4294967296) := by kernel_rfl
theorem g_list : G0 (Str.ofString "list") = some (.ty "list") := by kernel_rfl
theorem g_range : G0 (Str.ofString "range") = some (.ty "range") := by kernel_rfl
theorem g_enumerate : G0 (Str.ofString "enumerate") = some (.ty "enumerate") := by kernel_rfl
theorem g_set : G0 (Str.ofString "set") = some (.ty "set") := by kernel_rfl
theorem g_bool : G0 (Str.ofString "bool") = some (.ty "bool") := by kernel_rfl
theorem g_tuple : G0 (Str.ofString "tuple") = some (.ty "tuple") := by kernel_rfl
theorem g_str : G0 (Str.ofString "str") = some (.ty "str") := by kernel_rfl
theorem g_len : G0 (Str.ofString "len") = some (.bi "len") := by kernel_rfl
theorem g_sorted : G0 (Str.ofString "sorted") = some (.bi "sorted") := by kernel_rfl
theorem g_any : G0 (Str.ofString "any") = some (.bi "any") := by kernel_rfl
theorem g_isinstance : G0 (Str.ofString "isinstance") = some (.bi "isinstance") := by kernel_rfl
theorem f_followers : F0 84 = some (.fn [Str.ofString "block"] sc84.1 bd84.1) := rfl
theorem f_postorder : F0 91 = some (.fn [Str.ofString "func"] sc91.1 bd91.1) := rfl
theorem f_order : F0 98 = some (.fn [Str.ofString "func"] sc98.1 bd98.1) := rfl
theorem f_in_place_of : F0 105 = some (.fn [Str.ofString "step", Str.ofString "op", Str.ofString "dst", Str.ofString "args", Str.ofString "more"] sc105.1 bd105.1) := rfl
theorem f_led_end : F0 110 = some (.fn [Str.ofString "end", Str.ofString "lead"] sc110.1 bd110.1) := rfl
theorem f_same_end : F0 117 = some (.fn [Str.ofString "one", Str.ofString "other"] sc117.1 bd117.1) := rfl
theorem f_known_value : F0 124 = some (.fn [Str.ofString "block", Str.ofString "operand"] sc124.1 bd124.1) := rfl
theorem f_settled_branch : F0 131 = some (.fn [Str.ofString "block", Str.ofString "end"] sc131.1 bd131.1) := rfl
theorem f_settled_table : F0 138 = some (.fn [Str.ofString "block", Str.ofString "end"] sc138.1 bd138.1) := rfl
theorem f_settled_end : F0 145 = some (.fn [Str.ofString "block", Str.ofString "end"] sc145.1 bd145.1) := rfl
theorem f_plain_jumps : F0 152 = some (.fn [Str.ofString "func"] sc152.1 bd152.1) := rfl
theorem f_last_goal : F0 159 = some (.fn [Str.ofString "jumps", Str.ofString "number"] sc159.1 bd159.1) := rfl
theorem f_threads : F0 166 = some (.fn [Str.ofString "func"] sc166.1 bd166.1) := rfl
theorem f_straighten_ends : F0 171 = some (.fn [Str.ofString "func"] sc171.1 bd171.1) := rfl
theorem f_edges_into : F0 178 = some (.fn [Str.ofString "func", Str.ofString "row"] sc178.1 bd178.1) := rfl
theorem f_join_blocks : F0 185 = some (.fn [Str.ofString "func", Str.ofString "row"] sc185.1 bd185.1) := rfl
theorem f_keep_blocks : F0 190 = some (.fn [Str.ofString "func", Str.ofString "kept"] sc190.1 bd190.1) := rfl
theorem f_straighten_once : F0 195 = some (.fn [Str.ofString "func"] sc195.1 bd195.1) := rfl
theorem f_straighten : F0 202 = some (.fn [Str.ofString "func"] sc202.1 bd202.1) := rfl
theorem f_law_draw : F0 209 = some (.fn [Str.ofString "well", Str.ofString "size"] sc209.1 bd209.1) := rfl
theorem f_law_place : F0 216 = some (.fn [Str.ofString "well"] sc216.1 bd216.1) := rfl
theorem f_law_step : F0 223 = some (.fn [Str.ofString "well", Str.ofString "tag"] sc223.1 bd223.1) := rfl
theorem f_law_call : F0 230 = some (.fn [Str.ofString "well", Str.ofString "tag"] sc230.1 bd230.1) := rfl
theorem f_law_test : F0 237 = some (.fn [Str.ofString "well"] sc237.1 bd237.1) := rfl
theorem f_law_end : F0 242 = some (.fn [Str.ofString "well", Str.ofString "many"] sc242.1 bd242.1) := rfl
theorem f_law_blocks : F0 247 = some (.fn [Str.ofString "well"] sc247.1 bd247.1) := rfl
theorem f_law_func : F0 252 = some (.fn [Str.ofString "well"] sc252.1 bd252.1) := rfl
theorem f_law_value : F0 259 = some (.fn [Str.ofString "held", Str.ofString "operand"] sc259.1 bd259.1) := rfl
theorem f_law_do : F0 264 = some (.fn [Str.ofString "act", Str.ofString "held", Str.ofString "trace"] sc264.1 bd264.1) := rfl
theorem f_law_next : F0 271 = some (.fn [Str.ofString "end", Str.ofString "held"] sc271.1 bd271.1) := rfl
theorem f_law_walk : F0 278 = some (.fn [Str.ofString "drawn", Str.ofString "pair"] sc278.1 bd278.1) := rfl
theorem f_law_shown : F0 283 = some (.fn [Str.ofString "drawn"] sc283.1 bd283.1) := rfl
theorem f_law_goals : F0 290 = some (.fn [Str.ofString "end"] sc290.1 bd290.1) := rfl
theorem f_law_reached : F0 297 = some (.fn [Str.ofString "drawn"] sc297.1 bd297.1) := rfl
theorem f_law_is_straight : F0 304 = some (.fn [Str.ofString "drawn"] sc304.1 bd304.1) := rfl
theorem f_law : F0 309 = some (.fn [Str.ofString "script"] sc309.1 bd309.1) := rfl
theorem f_Step_init : F0 28 = some (.fn [Str.ofString "self", Str.ofString "op", Str.ofString "dst", Str.ofString "args", Str.ofString "more"] sc28.1 bd28.1) := rfl
theorem f_Step : F0 31 = some (.cls 28) := rfl
theorem f_Block_init : F0 49 = some (.fn [Str.ofString "self", Str.ofString "number"] sc49.1 bd49.1) := rfl
theorem f_Block : F0 52 = some (.cls 49) := rfl
theorem f_Func_init : F0 70 = some (.fn [Str.ofString "self", Str.ofString "name"] sc70.1 bd70.1) := rfl
theorem f_Func : F0 73 = some (.cls 70) := rfl
end Mine
end

namespace Mine
set_option tactic.hygienic false
set_option genSizeOfSpec false
open PySem
set_option maxRecDepth 100000

noncomputable abbrev st (x : String) : Str := Str.ofString x

structure Arg where
  k : Bool
  v : Int
  deriving DecidableEq, Inhabited
noncomputable def Arg.enc : Arg → V
  | ⟨true, v⟩ => .tup [.str (Str.ofString "k"), .int v]
  | ⟨false, v⟩ => .tup [.str (Str.ofString "r"), .int v]

inductive En where
  | jump (g : Nat) | branch (a : Arg) (t o : Nat) | table (a : Arg) (low : Int) (lot : List Nat) (o : Nat) | give (a : Arg)
  deriving DecidableEq, Inhabited

noncomputable def nV (n : Nat) : V := .int (n : Int)
noncomputable def En.op : En → Str
  | .jump _ => Str.ofString "jump" | .branch .. => Str.ofString "branch" | .table .. => Str.ofString "table" | .give _ => Str.ofString "give"
noncomputable def En.args : En → List Arg
  | .jump _ => [] | .branch a _ _ => [a] | .table a _ _ _ => [a] | .give a => [a]
noncomputable def En.more : En → V
  | .jump g => nV g | .branch _ t o => .tup [nV t, nV o] | .table _ low lot o => .tup [.int low, .fl (lot.map nV), nV o] | .give _ => .int 0
noncomputable def En.goals : En → List Nat
  | .jump g => [g] | .branch _ t o => [t, o] | .table _ _ lot o => lot ++ [o] | .give _ => []

structure EnS where
  id : Addr
  line : Int
  e : En
  deriving Inhabited

noncomputable def stepFs (op : Str) (dst : Int) (args : List Arg) (more : V) (vol : Bool) (line : Int) : Lo :=
  [(Str.ofString "op", .str op), (Str.ofString "dst", .int dst), (Str.ofString "args", .fl (args.map Arg.enc)), (Str.ofString "more", more), (Str.ofString "is_volatile", .bool vol), (Str.ofString "line", .int line)]
noncomputable def EnS.enc (e : EnS) : V := .fi e.id 31 (stepFs e.e.op (-1) e.e.args e.e.more false e.line)

structure Act where
  id : Addr
  op : Str
  dst : Int
  args : List Arg
  more : V
  vol : Bool
  line : Int
  deriving Inhabited
noncomputable def Act.enc (a : Act) : V := .fi a.id 31 (stepFs a.op a.dst a.args a.more a.vol a.line)

structure Blk where
  num : Nat
  steps : List Act
  en : EnS
  deriving Inhabited
noncomputable def Blk.obj (b : Blk) : O := .inst 52 [(Str.ofString "number", nV b.num), (Str.ofString "steps", .fl (b.steps.map Act.enc)), (Str.ofString "end", b.en.enc)]

theorem ofString_inj (a b : String) : (Str.ofString a = Str.ofString b) = (a = b) := by
  refine propext ⟨fun e' => ?_, fun e => by rw [e]⟩
  rw [Str.ofString_eq_toList, Str.ofString_eq_toList] at e'
  have e1 := congrArg Str.cps e'
  have h1 : a.toList.map Char.toNat = b.toList.map Char.toNat := by simpa using congrArg Array.toList e1
  have h2 : a.toList = b.toList := (List.map_inj_right (fun x y hxy => Char.ext (UInt32.toNat_inj.mp hxy))).mp h1
  exact String.toList_inj.mp h2

theorem oks_jump : okS (Str.ofString "jump") = true := by kernel_rfl
theorem oks_branch : okS (Str.ofString "branch") = true := by kernel_rfl
theorem oks_table : okS (Str.ofString "table") = true := by kernel_rfl
theorem oks_give : okS (Str.ofString "give") = true := by kernel_rfl
theorem oks_k : okS (Str.ofString "k") = true := by kernel_rfl
theorem oks_r : okS (Str.ofString "r") = true := by kernel_rfl
theorem oks_const : okS (Str.ofString "const") = true := by kernel_rfl
theorem oks_copy : okS (Str.ofString "copy") = true := by kernel_rfl
theorem oks_add : okS (Str.ofString "add") = true := by kernel_rfl
theorem oks_lt : okS (Str.ofString "lt") = true := by kernel_rfl
theorem oks_store : okS (Str.ofString "store") = true := by kernel_rfl
theorem oks_call : okS (Str.ofString "call") = true := by kernel_rfl
theorem lay_of {s : Str} (h : okS s = true) : PyData.canLay0 (.str s) = true := by
  unfold PyData.canLay0 PyData.strOk
  rw [← Array.all_toList]
  refine List.all_eq_true.mpr fun c hc => ?_
  have := List.all_eq_true.mp h c hc
  simpa [Nat.blt_eq] using this
end Mine

namespace Mine
set_option tactic.hygienic false
set_option genSizeOfSpec false
open PySem
set_option maxRecDepth 100000
set_option linter.unusedVariables false
variable {G : Str → Option V} {cl : Calls} {n d : Nat} {T : EvT} {sc : Scope} {m : Lo} {σ : AH} {K : QV} {Q : QS} {p : Pos}

theorem optQ_ok {α : Type} {o : Option α} {v : α} {k : α → Prop} (h : o = some v) (hk : k v) : optQ o k := by subst h; exact hk
theorem chk_ok {b : Bool} {P : Prop} (h : b = true) (hk : P) : chk b P := by subst h; exact hk
theorem glo {o : Option V} {v : V} {k : V → Prop} (h : o = some v) (hk : k v) : gloQ o k := ⟨optQ_ok h hk⟩
theorem fld {o : Option V} {v : V} {k : V → Prop} (h : o = some v) (hk : k v) : fldR o k := ⟨optQ_ok h hk⟩
theorem itm {o : Option V} {v : V} {k : V → Prop} (h : o = some v) (hk : k v) : idxR o k := ⟨optQ_ok h hk⟩
theorem opt {α : Type} {o : Option α} {v : α} {k : α → Prop} (h : o = some v) (hk : k v) : optR o k := ⟨optQ_ok h hk⟩
theorem val {v w : V} {k : V → Prop} (h : v = w) (hk : k w) : valS v k := ⟨h ▸ hk⟩
theorem lt_ok {a b : Nat} {P : Prop} (h : a < b) (hk : P) : ltQ a b P := chk_ok (Nat.ble_eq_true_of_le h) hk
theorem le_ok {a b : Nat} {P : Prop} (h : a ≤ b) (hk : P) : leQ a b P := chk_ok (Nat.ble_eq_true_of_le h) hk
theorem cnd_t {b : Bool} {P Q : Prop} (h : b = true) (hk : P) : cnd b P Q := .t h hk
theorem cnd_f {b : Bool} {P Q : Prop} (h : b = false) (hk : Q) : cnd b P Q := .f h hk
theorem yes {P Q : Prop} (hk : P) : cnd true P Q := .t rfl hk
theorem no {P Q : Prop} (hk : Q) : cnd false P Q := .f rfl hk
theorem cnd_d {q : Prop} [i : Decidable q] {P Q : Prop} (h1 : q → P) (h2 : ¬ q → Q) : cnd (decide q) P Q := by
  by_cases h : q
  · exact cnd_t (decide_eq_true h) (h1 h)
  · exact cnd_f (decide_eq_false h) (h2 h)
theorem cnd_n {q : Prop} [i : Decidable q] {P Q : Prop} (h1 : ¬ q → P) (h2 : q → Q) : cnd (!decide q) P Q := by
  by_cases h : q
  · exact cnd_f (by simp [h]) (h2 h)
  · exact cnd_t (by simp [h]) (h1 h)
theorem cnd_b {b : Bool} {P Q : Prop} (h1 : b = true → P) (h2 : b = false → Q) : cnd b P Q := by
  cases b with
  | true => exact yes (h1 rfl)
  | false => exact no (h2 rfl)
theorem rd_ok {a : Addr} {o : O} {k : O → Prop} (h : σ a = some o) (hk : k o) : rd σ a k := ⟨optQ_ok h hk⟩
theorem in_dict {i : Int} {a : Addr} {kvs : List (Int × V)} {k : Bool → Prop} (h : σ a = some (.dict kvs)) (hk : k (getD i kvs).isSome) : inP σ (.int i) (.ref a) k := by unfold inP; exact rd_ok h hk
theorem in_set {i : Int} {a : Addr} {xs : List Int} {k : Bool → Prop} (h : σ a = some (.set xs)) (hk : k (decide (i ∈ xs))) : inP σ (.int i) (.ref a) k := by unfold inP; exact rd_ok h hk
theorem newL {vs : List V} (h : K (.fl vs) σ) : newListP vs σ K := .fl h
theorem newO {vs : List V} (h : ∀ n, σ n = none → K (.ref n) (put σ n (.list vs))) : newListP vs σ K := .own h
theorem getL_hit {x : Str} {v : V} : ∀ {m : Lo}, getL x (setL x v m) = some v
  | [] => by simp [setL, getL]
  | (z, w) :: r => by
    simp only [setL]
    by_cases h : x = z
    · simp [h, getL]
    · simp only [h, if_false, getL]; exact getL_hit
theorem getL_ne {x y : Str} {v : V} (hne : y ≠ x) : ∀ {m : Lo}, getL y (setL x v m) = getL y m
  | [] => by simp [setL, getL, hne]
  | (z, w) :: r => by
    simp only [setL]
    by_cases h : x = z
    · subst h; simp [getL, hne]
    · simp only [h, if_false, getL]
      rw [getL_ne hne]
theorem put_same {a : Addr} {o : O} : put σ a o a = some o := if_pos rfl
theorem put_ne {a b : Addr} {o : O} (h : b ≠ a) : put σ a o b = σ b := if_neg h
theorem put_put {a : Addr} {o o' : O} : put (put σ a o) a o' = put σ a o' := by
  funext b; unfold put; split <;> rfl
theorem idx_nat {vs : List V} {k : Nat} : idx vs (k : Int) = vs[k]? := by
  unfold idx; simp
theorem idx_last {vs : List V} : idx vs (-1) = vs.getLast? := by
  unfold idx
  rw [if_neg (by decide)]
  cases vs with
  | nil => simp
  | cons v vs =>
    rw [if_pos (by simp; lia)]
    rw [List.getLast?_eq_getElem?]
    congr 1
    simp; lia
theorem retP_here {v : V} {Q : QV} (h : Q v σ) : retP v σ Q := by unfold retP; exact ⟨v, σ, .refl _ _, h⟩
theorem retP_drop {v : V} {Q : QV} {τ} (hle : le τ σ) (h : Q v τ) : retP v σ Q := by unfold retP; exact ⟨v, τ, .drop hle, h⟩
theorem retP_list {a vs} {Q : QV} {τ} (hs : σ a = some (.list vs)) (hle : le τ (del σ a)) (h : Q (.fl vs) τ) : retP (.ref a) σ Q := by
  unfold retP
  refine ⟨.fl vs, τ, .trans (.list hs) (.trans ?_ (.drop hle)), h⟩
  simp only [V.sub, if_true]; exact .refl _ _
theorem retP_inst {a c fs} {Q : QV} {τ} (hs : σ a = some (.inst c fs)) (hle : le τ (del σ a)) (h : Q (.fi a c fs) τ) : retP (.ref a) σ Q := by
  unfold retP
  refine ⟨.fi a c fs, τ, .trans (.inst hs) (.trans ?_ (.drop hle)), h⟩
  simp only [V.sub, if_true]; exact .refl _ _
theorem retP_two {a b : Addr} {vs ws : List V} {Q : QV} {τ : AH} (ha : σ a = some (.list vs)) (hb : σ b = some (.list ws)) (hab : a ≠ b) (hle : le τ (del (del σ a) b)) (h : Q (.tup [.fl vs, .fl ws]) τ) : retP (.tup [.ref a, .ref b]) σ Q := by
  unfold retP
  refine ⟨_, τ, .trans (.list ha) (.trans (.list (a := b) (vs := ws) ?_) (.trans ?_ (.drop hle))), h⟩
  · simp only [del, Ne.symm hab, if_false]; exact hb
  · simp [V.sub, V.subs, Ne.symm hab]
    exact .refl _ _
theorem retP_pair {a : Addr} {vs : List V} {w : V} {Q : QV} {τ : AH} (hs : σ a = some (.list vs)) (hv : V.sub a (.fl vs) w = w) (hle : le τ (del σ a)) (h : Q (.tup [.fl vs, w]) τ) : retP (.tup [.ref a, w]) σ Q := by
  unfold retP
  refine ⟨.tup [.fl vs, w], τ, .trans (.list hs) (.trans ?_ (.drop hle)), h⟩
  simp only [V.sub, V.subs, if_true, hv]
  exact .refl _ _
theorem retP_field {v : V} {b a : Addr} {c : Addr} {fs : Lo} {x : Str} {vs : List V} {Q : QV} (hb : σ b = some (.inst c fs)) (hx : getL x fs = some (.ref a)) (ha : σ a = some (.list vs)) (hab : a ≠ b) (h : Q v (del (put σ b (.inst c (setL x (.fl vs) fs))) a)) : retP v σ Q := by
  unfold retP
  exact ⟨_, _, .field hb hx ha hab, h⟩

theorem le_refl' : le σ σ := fun zz zz h => h
theorem le_del_put {n : Addr} {o : O} (hn : σ n = none) : le σ (del (put σ n o) n) := fun a v h => by
  have : a ≠ n := by rintro rfl; rw [hn] at h; cases h
  simp [del, put, this, h]
theorem le_put {n : Addr} {o : O} (hn : σ n = none) : le σ (put σ n o) := fun a v h => by
  have : a ≠ n := by rintro rfl; rw [hn] at h; cases h
  simp [put, this, h]
theorem le.put {σ τ : AH} {a : Addr} {o : O} (h : le σ τ) (ha : σ a = none) : le σ (put τ a o) := fun b v e => by
  have : b ≠ a := by rintro rfl; rw [ha] at e; cases e
  rw [put_ne this]; exact h b v e
theorem le.del {σ τ : AH} {a : Addr} (h : le σ τ) (ha : σ a = none) : le σ (del τ a) := fun b v e => by
  have : b ≠ a := by rintro rfl; rw [ha] at e; cases e
  show (if b = a then none else τ b) = _
  rw [if_neg this]; exact h b v e
theorem le.none {σ τ : AH} {a : Addr} (h : le σ τ) (ha : τ a = none) : σ a = none := by
  cases e : σ a with
  | none => rfl
  | some v => rw [h a v e] at ha; cases ha

theorem call_fn {a : Addr} {vs : List V} {Q : QV} {ps : List Str} {body : List Stmt} (h : F0 a = some (.fn ps sc body)) (hl : ps.length = vs.length)
    (hk : ∀ cl, cl = calls G0 F0 d → blkP (exT G0 cl 20 sc) body (ps.zip vs) σ (kFn Q)) : calls G0 F0 (d + 1) a vs σ Q := by
  unfold calls; rw [h]; exact ⟨hl, hk _ rfl⟩
theorem call_cls {a : Addr} {vs : List V} {Q : QV} {init : Addr} (h : F0 a = some (.cls init)) (hk : ∀ n, σ n = none → calls G0 F0 d init (.ref n :: vs) (put σ n (.inst a [])) fun v σ => v = .none ∧ retP (.ref n) σ Q) : calls G0 F0 (d + 1) a vs σ Q := by
  unfold calls; rw [h]; exact hk
theorem use (h : cl = calls G0 F0 d) {a : Addr} {vs : List V} {Q : QV} (k : calls G0 F0 d a vs σ Q) : cl a vs σ Q := h ▸ k

/-- A loop by a measure. -/
theorem while_by {α : Type} {t : Expr} {body : List Stmt} {X : Stmt → Lo → AH → QS → Prop} (I : α → Lo → AH → Prop) (μ : α → Nat)
    (step : ∀ (R : Lo → AH → Prop) x m σ, I x m σ → (∀ y m τ, μ y < μ x → I y m τ → R m τ) → T.ts sc t m σ fun b σ => cnd b (blkP X body m σ fun fl m σ => match fl with
      | .next => ∃ τ, le τ σ ∧ R m τ
      | .cont => ∃ τ, le τ σ ∧ R m τ
      | .brk => Q .next m σ
      | .ret v => Q (.ret v) m σ) (Q .next m σ)) (x : α) (hi : I x m σ) : whileP T X sc t body m σ Q := by
  unfold whileP
  intro R hR
  have key : ∀ k x m σ, μ x < k → I x m σ → R m σ := by
    intro k
    induction k with
    | zero => intro x m σ h; lia
    | succ k ih =>
      intro x m σ h hi
      exact hR m σ (step R x m σ hi fun y m τ hy hi => ih y m τ (by lia) hi)
  exact key _ x m σ (Nat.lt_succ_self _) hi
/-- A comprehension by an invariant. -/
theorem comp_I {x : Str} {elt : Expr} {KL : QL} (I : List V → List V → AH → Prop)
    (step : ∀ v vs acc σ, I (v :: vs) acc σ → ∀ K : QV, (∀ w σ', I vs (acc ++ [w]) σ' → K w σ') → T.ev sc elt (setL x v m) σ K)
    (done : ∀ acc σ, I [] acc σ → KL acc σ) : ∀ vs acc σ, I vs acc σ → compL T sc m x elt [] vs acc σ KL
  | [], acc, σ, h => by rw [compL_nil]; exact done acc σ h
  | v :: vs, acc, σ, h => by rw [compL_cons]; exact yes <| step v vs acc σ h _ fun w σ' h' => comp_I I step done vs (acc ++ [w]) σ' h'
theorem comp_by {x : Str} {elt : Expr} {KL : QL} (f : V → V) : ∀ (vs acc : List V), (∀ v ∈ vs, ∀ (K : QV), K (f v) σ → T.ev sc elt (setL x v m) σ K) → KL (acc ++ vs.map f) σ → compL T sc m x elt [] vs acc σ KL
  | [], acc, _, h => by rw [compL_nil]; simpa using h
  | v :: vs, acc, hf, h => by rw [compL_cons]; exact yes <| hf v (.head _) _ (comp_by f vs (acc ++ [f v]) (fun v hv => hf v (.tail _ hv)) (by simpa using h))
theorem comp_if_by {x : Str} {elt c : Expr} {KL : QL} (f : V → V) (q : V → Bool) : ∀ (vs acc : List V), (∀ v ∈ vs, ∀ K : QB, K (q v) σ → T.ts sc c (setL x v m) σ K) → (∀ v ∈ vs, q v = true → ∀ (K : QV), K (f v) σ → T.ev sc elt (setL x v m) σ K) →
    KL (acc ++ (vs.filter q).map f) σ → compL T sc m x elt [c] vs acc σ KL
  | [], acc, _, _, h => by rw [compL_nil]; simpa using h
  | v :: vs, acc, hq, hf, h => by
    rw [compL_cons]
    refine hq v (.head _) _ ?_
    cases hqv : q v with
    | true => exact yes <| hf v (.head _) hqv _ (comp_if_by f q vs (acc ++ [f v]) (fun v hv => hq v (.tail _ hv)) (fun v hv => hf v (.tail _ hv)) (by simpa [hqv] using h))
    | false => exact no <| comp_if_by f q vs acc (fun v hv => hq v (.tail _ hv)) (fun v hv => hf v (.tail _ hv)) (by simpa [hqv] using h)

theorem boolsOf_map : ∀ bs : List Bool, boolsOf (bs.map V.bool) = some bs
  | [] => rfl
  | b :: bs => by simp [boolsOf, boolsOf_map bs]
end Mine

namespace Mine
set_option tactic.hygienic false
set_option genSizeOfSpec false
open PySem
set_option maxRecDepth 100000
set_option linter.unusedVariables false
variable {G : Str → Option V} {cl : Calls} {n d : Nat} {T : EvT} {sc : Scope} {m m' : Lo} {σ : AH} {K K' : QV} {KB KB' : QB} {KL KL' : QL} {p : Pos}

theorem optQ.mono {α : Type} {o : Option α} {k k' : α → Prop} (hk : ∀ v, k v → k' v) (h : optQ o k) : optQ o k' := by
  cases o with
  | some v => exact hk v h
  | none => exact h
theorem gloQ.mono {o : Option V} {k k' : V → Prop} (hk : ∀ v, k v → k' v) (h : gloQ o k) : gloQ o k' := ⟨optQ.mono hk h.get⟩
theorem fldR.mono {o : Option V} {k k' : V → Prop} (hk : ∀ v, k v → k' v) (h : fldR o k) : fldR o k' := ⟨optQ.mono hk h.get⟩
theorem idxR.mono {o : Option V} {k k' : V → Prop} (hk : ∀ v, k v → k' v) (h : idxR o k) : idxR o k' := ⟨optQ.mono hk h.get⟩
theorem optR.mono {α : Type} {o : Option α} {k k' : α → Prop} (hk : ∀ v, k v → k' v) (h : optR o k) : optR o k' := ⟨optQ.mono hk h.get⟩
theorem rd.mono {a : Addr} {k k' : O → Prop} (hk : ∀ v, k v → k' v) (h : rd σ a k) : rd σ a k' := ⟨optQ.mono hk h.get⟩
theorem chk.mono {b : Bool} {P Q : Prop} (hk : P → Q) (h : chk b P) : chk b Q := by
  cases b with
  | true => exact hk h
  | false => exact h
theorem sel.mono {b : Bool} {P Q P' Q' : Prop} (h1 : P → P') (h2 : Q → Q') (h : sel b P Q) : sel b P' Q' := by
  cases b with
  | true => exact h1 h
  | false => exact h2 h
theorem cnd.mono {b : Bool} {P Q P' Q' : Prop} (h1 : P → P') (h2 : Q → Q') (h : cnd b P Q) : cnd b P' Q' := by
  cases h with
  | t e h => exact .t e (h1 h)
  | f e h => exact .f e (h2 h)
theorem newListP.mono {vs : List V} (hk : ∀ v σ, K v σ → K' v σ) (h : newListP vs σ K) : newListP vs σ K' := by
  cases h with
  | fl h => exact .fl (hk _ _ h)
  | own h => exact .own fun n hn => hk _ _ (h n hn)
theorem intP.mono {v : V} {k k' : Int → Prop} (hk : ∀ i, k i → k' i) (h : intP v k) : intP v k' := by
  cases v with
  | int i => exact hk i h
  | _ => exact h
theorem flP.mono {v : V} {k k' : List V → Prop} (hk : ∀ i, k i → k' i) (h : flP v k) : flP v k' := by
  cases v with
  | fl i => exact hk i h
  | _ => exact h
theorem refP.mono {v : V} {k k' : Addr → Prop} (hk : ∀ i, k i → k' i) (h : refP v k) : refP v k' := by
  cases v with
  | ref i => exact hk i h
  | _ => exact h
theorem noneP.mono {v : V} {k k' : Prop} (hk : k → k') (h : noneP v k) : noneP v k' := by
  cases v with
  | none => exact hk h
  | _ => exact h
theorem lkP.mono {v : V} {k k' : V → Prop} (hk : ∀ v, k v → k' v) (h : lkP σ v k) : lkP σ v k' := by
  cases v with
  | ref a => exact rd.mono (fun o h => by cases o <;> exact hk _ h) h
  | _ => exact hk _ h
theorem truP.mono {v : V} {k k' : Bool → Prop} (hk : ∀ v, k v → k' v) (h : truP σ v k) : truP σ v k' := by
  cases v with
  | ref a => exact rd.mono (fun o h => by cases o <;> first | exact hk _ h | exact h) h
  | _ => first | exact hk _ h | exact h
theorem itemP.mono {v w : V} (hk : ∀ v σ, K v σ → K' v σ) (h : itemP v w σ K) : itemP v w σ K' := by
  cases w with
  | int i =>
    cases v with
    | fl vs => exact idxR.mono (fun v => hk v σ) h
    | tup vs => exact optQ.mono (fun v => hk v σ) h
    | ref a => exact rd.mono (fun o h => by cases o <;> first | exact idxR.mono (fun v => hk v σ) h | exact h) h
    | _ => exact h
  | _ => exact h
theorem attrP.mono {v : V} {x : Str} (hk : ∀ v σ, K v σ → K' v σ) (h : attrP v x σ K) : attrP v x σ K' := by
  cases v with
  | fi a c fs => exact optQ.mono (fun v => hk v σ) h
  | ref a => exact rd.mono (fun o h => by cases o <;> first | exact fldR.mono (fun v => hk v σ) h | exact h) h
  | _ => exact h
theorem binP.mono {op : Operator} {v w : V} (hk : ∀ v σ, K v σ → K' v σ) (h : binP op v w σ K) : binP op v w σ K' := by
  have ml : ∀ v w, (lkP σ v fun v => lkP σ w fun w => flP v fun vs => flP w fun ws => leQ (vs.length + ws.length) lineOf (newListP (vs ++ ws) σ K)) → lkP σ v fun v => lkP σ w fun w => flP v fun vs => flP w fun ws => leQ (vs.length + ws.length) lineOf (newListP (vs ++ ws) σ K') :=
    fun v w => lkP.mono fun v => lkP.mono fun w => flP.mono fun vs => flP.mono fun ws => chk.mono (newListP.mono hk)
  cases op with
  | Add =>
    cases w with
    | int j => exact intP.mono (fun i => hk _ σ) h
    | str t =>
      cases v with
      | str s => exact chk.mono (hk _ σ) h
      | _ => exact h
    | _ => exact ml _ _ h
  | Sub => exact intP.mono (fun i => intP.mono fun j => hk _ σ) h
  | Mult =>
    refine intP.mono (fun j h => ?_) h
    cases v with
    | int i => exact ⟨h.1, hk _ σ h.2⟩
    | ref a =>
      refine rd.mono (fun o h => ?_) h
      cases o with
      | list vs =>
        cases vs with
        | nil => exact h
        | cons x xs =>
          cases xs with
          | nil => exact ⟨h.1, newListP.mono hk h.2⟩
          | cons y ys => exact h
      | _ => exact h
    | _ => exact h
  | Mod => exact intP.mono (fun i => intP.mono fun j h => ⟨h.1, hk _ σ h.2⟩) h
  | FloorDiv => exact intP.mono (fun i => intP.mono fun j h => ⟨h.1, hk _ σ h.2⟩) h
  | _ => exact h
theorem eqP.mono {v w : V} {k k' : Bool → Prop} (hk : ∀ b, k b → k' b) (h : eqP σ v w k) : eqP σ v w k' := by
  unfold eqP at h ⊢
  obtain ⟨d, e, a, b, c, f, q⟩ := h
  exact ⟨d, e, a, b, c, f, hk _ q⟩
theorem eqQ.mono {v w : V} {k k' : Bool → Prop} (hk : ∀ b, k b → k' b) (h : eqQ σ v w k) : eqQ σ v w k' := by
  have l : ∀ v, (eqP σ v w k ∨ lenP σ v w (k false)) → eqP σ v w k' ∨ lenP σ v w (k' false) := fun v h => h.imp (eqP.mono hk) fun ⟨vs, ws, a, b, c, q⟩ => ⟨vs, ws, a, b, c, hk _ q⟩
  cases v with
  | int i => cases w <;> first | exact hk _ h | exact eqP.mono hk h
  | str s => cases w <;> first | exact chk.mono (chk.mono (hk _)) h | exact eqP.mono hk h
  | _ => exact l _ h
theorem neQ.mono {v w : V} {k k' : Bool → Prop} (hk : ∀ b, k b → k' b) (h : neQ σ v w k) : neQ σ v w k' := by
  cases v with
  | int i => cases w <;> first | exact hk _ h | exact eqP.mono (fun b => hk _) h
  | _ => exact eqP.mono (fun b => hk _) h
theorem isP.mono {v w : V} {k k' : Bool → Prop} (hk : ∀ b, k b → k' b) (h : isP v w k) : isP v w k' := by
  cases v with
  | none => exact noneP.mono (hk _) h
  | int i => exact noneP.mono (hk _) h
  | fi a c fs => cases w <;> first | exact fun r hr => hk _ (h r hr) | exact h
  | _ => exact h
theorem inP.mono {v w : V} {k k' : Bool → Prop} (hk : ∀ b, k b → k' b) (h : inP σ v w k) : inP σ v w k' := by
  unfold inP at h ⊢
  cases v with
  | int i => exact refP.mono (fun a => rd.mono fun o h => by cases o <;> first | exact hk _ h | exact h) h
  | str s =>
    cases w with
    | tup vs => obtain ⟨ds, a, b, c, q⟩ := h; exact ⟨ds, a, b, c, hk _ q⟩
    | _ => exact h
  | _ => exact h
theorem cmpP.mono {op : CmpOp} {v w : V} {k k' : Bool → Prop} (hk : ∀ b, k b → k' b) (h : cmpP op v w σ k) : cmpP op v w σ k' := by
  cases op with
  | Eq => exact eqQ.mono hk h
  | NotEq => exact neQ.mono hk h
  | Is => exact isP.mono hk h
  | IsNot => exact isP.mono (fun b => hk _) h
  | In => exact inP.mono hk h
  | NotIn => exact inP.mono (fun b => hk _) h
  | Lt => exact intP.mono (fun i => intP.mono fun j => hk _) h
  | LtE => exact intP.mono (fun i => intP.mono fun j => hk _) h
  | Gt => exact intP.mono (fun i => intP.mono fun j => hk _) h
  | GtE => exact intP.mono (fun i => intP.mono fun j => hk _) h
theorem methOk.mono {v : V} {x : Str} {P Q : Prop} (hk : P → Q) (h : methOk v x σ P) : methOk v x σ Q := by
  cases v with
  | ref a => exact rd.mono (fun o h => by cases o <;> first | exact chk.mono hk h | exact h) h
  | fl vs => exact chk.mono hk h
  | _ => exact h
theorem methP.mono {v : V} {x : Str} {vs : List V} (hk : ∀ v σ, K v σ → K' v σ) (h : methP v x vs σ K) : methP v x vs σ K' := by
  cases v with
  | ref a =>
    refine rd.mono (fun o h => ?_) h
    cases o with
    | list xs =>
      match vs, h with
      | [w], h => exact chk.mono (chk.mono (hk _ _)) h
      | [], h => exact chk.mono (idxR.mono fun y => hk _ _) h
    | set xs =>
      match vs, h with
      | [.int i], h => exact chk.mono (chk.mono (hk _ _)) h
    | dict kvs =>
      match vs, h with
      | [.int i, d], h => exact chk.mono (fun h => ⟨hk _ _ h.get⟩) h
    | inst c fs => exact h
  | fl xs =>
    match vs, h with
    | [.int i], h => exact chk.mono (optR.mono fun is => hk _ _) h
  | _ => exact h
theorem biP.mono {f : V} {vs : List V} (hk : ∀ v σ, K v σ → K' v σ) (h : biP f vs σ K) : biP f vs σ K' := by
  cases f with
  | bi b =>
    match vs, h with
    | [v], h =>
      refine sel.mono (lkP.mono fun v => flP.mono fun xs => hk _ _) (sel.mono (flP.mono fun xs => optR.mono fun bs => hk _ _) (chk.mono fun h => ?_)) h
      cases v with
      | fl xs => exact optR.mono (fun is => chk.mono (hk _ _)) h
      | ref a => exact rd.mono (fun o h => by cases o <;> first | exact chk.mono (hk _ _) h | exact h) h
      | _ => exact h
    | [v, .ty t], h => exact chk.mono (fun h => by cases v <;> first | exact hk _ _ h | exact h) h
  | ty t =>
    match vs, h with
    | [], h => exact chk.mono (fun h n hn => hk _ _ (h n hn)) h
    | [v], h => exact sel.mono (flP.mono fun xs => chk.mono (newListP.mono hk)) (sel.mono (flP.mono fun xs => chk.mono (hk _ _)) (chk.mono (intP.mono fun i h => ⟨h.1, h.2.1, hk _ _ h.2.2⟩))) h
  | _ => exact h

/-- A frame that knows at least as much. -/
structure LeF (m m' : Lo) : Prop where
  get : ∀ x v, getL x m = some v → getL x m' = some v
  dot : getL (Str.ofString ".0") m = none → getL (Str.ofString ".0") m' = none
theorem LeF.refl : LeF m m := ⟨fun zz zz h => h, fun h => h⟩
theorem LeF.set {x : Str} {v : V} (h : LeF m m') : LeF (setL x v m) (setL x v m') := by
  refine ⟨fun y w e => ?_, fun e => ?_⟩
  · by_cases q : y = x
    · subst q; rw [getL_hit] at e ⊢; exact e
    · rw [getL_ne q] at e ⊢; exact h.get y w e
  · by_cases q : Str.ofString ".0" = x
    · subst q; rw [getL_hit] at e; cases e
    · rw [getL_ne q] at e ⊢; exact h.dot e
noncomputable def MonoC (cl : Calls) : Prop := ∀ a vs σ (K K' : QV), (∀ v σ, K v σ → K' v σ) → cl a vs σ K → cl a vs σ K'
structure MonoT (T : EvT) : Prop where
  ev : ∀ sc e m m' σ (K K' : QV), LeF m m' → (∀ v σ, K v σ → K' v σ) → T.ev sc e m σ K → T.ev sc e m' σ K'
  ts : ∀ sc e m m' σ (K K' : QB), LeF m m' → (∀ v σ, K v σ → K' v σ) → T.ts sc e m σ K → T.ts sc e m' σ K'
section
variable (hT : MonoT T) (hm : LeF m m')
include hT hm
theorem evsP.mono : ∀ {es : List Expr} {σ : AH} {KL KL' : QL}, (∀ v σ, KL v σ → KL' v σ) → evsP T sc m es σ KL → evsP T sc m' es σ KL'
  | [], _, _, _, hk, h => hk _ _ h
  | e :: es, _, _, _, hk, h => hT.ev _ _ _ _ _ _ _ hm (fun v σ => evsP.mono fun vs σ => hk _ _) h
theorem chainP.mono : ∀ {ops : List CmpOp} {es : List Expr} {v : V} {σ : AH} {k k' : QB}, (∀ b σ, k b σ → k' b σ) → chainP T sc m v ops es σ k → chainP T sc m' v ops es σ k'
  | [op], [e], v, _, _, _, hk, h => chk.mono (hT.ev _ _ _ _ _ _ _ hm fun w σ => cmpP.mono fun b => hk b σ) h
  | op :: op2 :: ops, e :: e2 :: es, v, _, _, _, hk, h => hT.ev _ _ _ _ _ _ _ hm (fun w σ => cmpP.mono fun b => cnd.mono (chainP.mono hk) (hk _ _)) h
theorem boolP.mono {op : BoolOp} : ∀ {es : List Expr} {σ : AH} {K K' : QV}, (∀ v σ, K v σ → K' v σ) → boolP T sc m op es σ K → boolP T sc m' op es σ K'
  | [e], _, _, _, hk, h => hT.ev _ _ _ _ _ _ _ hm hk h
  | e :: e2 :: es, _, _, _, hk, h => hT.ev _ _ _ _ _ _ _ hm (fun v σ => truP.mono fun b => by
    cases op with
    | And => exact cnd.mono (boolP.mono hk) (hk _ _)
    | Or => exact cnd.mono (hk _ _) (boolP.mono hk)) h
theorem allP.mono {op : BoolOp} : ∀ {es : List Expr} {σ : AH} {k k' : QB}, (∀ v σ, k v σ → k' v σ) → allP T sc m op es σ k → allP T sc m' op es σ k'
  | [], _, _, _, hk, h => hk _ _ h
  | [e], _, _, _, hk, h => hT.ts _ _ _ _ _ _ _ hm hk h
  | e :: e2 :: es, _, _, _, hk, h => hT.ts _ _ _ _ _ _ _ hm (fun b σ => by
    cases op with
    | And => exact cnd.mono (allP.mono hk) (hk _ _)
    | Or => exact cnd.mono (hk _ _) (allP.mono hk)) h
end
theorem nameP.mono {x : Str} {k k' : V → Prop} (hm : LeF m m') (hk : ∀ v, k v → k' v) (h : nameP G sc m x k) : nameP G sc m' x k' := by
  refine chk.mono (fun h => ?_) h
  have lo : optQ (getL x m) k → optQ (getL x m') k' := fun h => by
    cases e : getL x m with
    | none => rw [e] at h; exact h.elim
    | some v => rw [e] at h; exact optQ_ok (hm.get x v e) (hk v h)
  generalize sc.names.lookup x = o at h ⊢
  cases o with
  | none => exact h
  | some q => cases q <;> first | exact lo h | exact gloQ.mono hk h | exact h
theorem iterO.mono {tup : Bool} {e : Expr} (hT : MonoT T) (hm : LeF m m') (hk : ∀ v σ, KL v σ → KL' v σ) (h : iterO T sc tup e m σ KL) : iterO T sc tup e m' σ KL' :=
  chk.mono (chk.mono (hT.ev _ _ _ _ _ _ _ hm fun v σ h => by cases v <;> first | exact hk _ _ h | exact h)) h
theorem iterP.mono {tup : Bool} {e : Expr} (hT : MonoT T) (hm : LeF m m') (hk : ∀ v σ, KL v σ → KL' v σ) (h : iterP G T sc tup e m σ KL) : iterP G T sc tup e m' σ KL' := by
  unfold iterP at h ⊢
  generalize rngOf e = o at h ⊢
  cases o with
  | none => exact iterO.mono hT hm hk h
  | some o =>
    refine nameP.mono hm (fun fv h => ?_) h
    cases fv with
    | ty t => exact chk.mono (sel.mono (chk.mono (hT.ev _ _ _ _ _ _ _ hm fun v σ => intP.mono fun i h => ⟨h.1, h.2.1, hk _ _ h.2.2⟩)) (chk.mono (chk.mono (hT.ev _ _ _ _ _ _ _ hm fun v σ => flP.mono fun i => hk _ _)))) h
    | _ => exact iterO.mono hT hm hk h
theorem compL.mono {x : Str} {elt : Expr} {ifs : List Expr} (hT : MonoT T) (hm : LeF m m') : ∀ {vs acc : List V} {σ : AH} {KL KL' : QL}, (∀ v σ, KL v σ → KL' v σ) → compL T sc m x elt ifs vs acc σ KL → compL T sc m' x elt ifs vs acc σ KL'
  | [], acc, σ, _, _, hk, h => by rw [compL_nil] at h ⊢; exact hk _ _ h
  | v :: vs, acc, σ, _, _, hk, h => by
    rw [compL_cons] at h ⊢
    exact allP.mono hT hm.set (fun b σ => cnd.mono (hT.ev _ _ _ _ _ _ _ hm.set fun w σ => compL.mono hT hm hk) (compL.mono hT hm hk)) h
theorem callP.mono {f : V} {vs : List V} (hc : MonoC cl) (hk : ∀ v σ, K v σ → K' v σ) (h : callP cl f vs σ K) : callP cl f vs σ K' := by
  cases f with
  | ref a => exact hc _ _ _ _ _ hk h
  | ty t => exact biP.mono (f := .ty t) hk h
  | bi t => exact biP.mono (f := .bi t) hk h
  | _ => exact h
theorem and_mono {a b c : Prop} (h : b → c) (x : a ∧ b) : a ∧ c := ⟨x.1, h x.2⟩

theorem evStep.mono {e : Expr} (hc : MonoC cl) (hT : MonoT T) (hm : LeF m m') (hk : ∀ v σ, K v σ → K' v σ) (h : evStep G cl T sc e m σ K) : evStep G cl T sc e m' σ K' := by
  have E := fun {e σ} {K K' : QV} (hk : ∀ v σ, K v σ → K' v σ) (h : T.ev sc e m σ K) => hT.ev _ _ _ _ _ _ _ hm hk h
  cases e with
  | Constant c k p => cases c <;> first | exact hk _ _ h | exact h
  | Name x p => exact nameP.mono hm (fun v => hk v σ) h
  | BoolOp op es p => exact boolP.mono hT hm hk h
  | BinOp l op r p => exact E (fun v σ => E fun w σ => binP.mono hk) h
  | UnaryOp op x p =>
    cases op with
    | Not => exact E (fun v σ => truP.mono fun b => hk _ _) h
    | USub => exact E (fun v σ => intP.mono fun i => hk _ _) h
    | _ => exact h
  | IfExp t a b p => exact hT.ts _ _ _ _ _ _ _ hm (fun c σ => cnd.mono (E hk) (E hk)) h
  | Compare l ops es p => exact E (fun v σ => chainP.mono hT hm fun b σ => hk _ _) h
  | List es p => exact chk.mono (evsP.mono hT hm fun vs σ => newListP.mono hk) h
  | Tuple es k p => exact chk.mono (evsP.mono hT hm fun vs σ => hk _ _) h
  | Dict ks vs p => exact chk.mono (optQ.mono fun es => evsP.mono hT hm fun ws σ => optQ.mono fun kvs h => ⟨h.1, fun n hn => hk _ _ (h.2 n hn)⟩) h
  | Set es k p =>
    cases es with
    | nil => exact h
    | cons e es => cases es <;> first | exact chk.mono (E fun v σ => intP.mono fun i h n hn => hk _ _ (h n hn)) h | exact h
  | ListComp elt gens sc' p => exact optQ.mono (fun g => chk.mono fun h => ⟨hm.dot h.1, iterP.mono hT hm (fun vs σ => compL.mono hT hm fun ws σ => newListP.mono hk) h.2⟩) h
  | Attribute o x p => exact chk.mono (E fun v σ => attrP.mono hk) h
  | Subscript o i p =>
    unfold evStep at h ⊢
    dsimp only at h ⊢
    generalize subK i = q at h ⊢
    cases q with
    | rev => exact E (fun v σ => lkP.mono fun v => flP.mono fun vs => newListP.mono hk) h
    | upto k => exact E (fun v σ => lkP.mono fun v => flP.mono fun vs => and_mono (and_mono (newListP.mono hk))) h
    | bad => exact h
    | item => exact E (fun v σ => E fun w σ => itemP.mono hk) h
  | Call f args kw pos =>
    refine chk.mono (fun h => ?_) h
    generalize calK f = q at h ⊢
    cases q with
    | meth o x ap => exact chk.mono (E fun v σ => methOk.mono (evsP.mono hT hm fun vs σ => methP.mono hk)) h
    | name f p => exact E (fun fv σ => evsP.mono hT hm fun vs σ => callP.mono hc hk) h
    | bad => exact h
  | _ => exact h
theorem tsStep.mono {e : Expr} (hT : MonoT T) (hm : LeF m m') (hk : ∀ v σ, KB v σ → KB' v σ) (h : tsStep T sc e m σ KB) : tsStep T sc e m' σ KB' := by
  have E := fun {e σ} {K K' : QV} (hk : ∀ v σ, K v σ → K' v σ) (h : T.ev sc e m σ K) => hT.ev _ _ _ _ _ _ _ hm hk h
  have S := fun {e σ} {K K' : QB} (hk : ∀ v σ, K v σ → K' v σ) (h : T.ts sc e m σ K) => hT.ts _ _ _ _ _ _ _ hm hk h
  have D := fun {e} (h : T.ev sc e m σ (kTr KB)) => E (K' := kTr KB') (fun v σ => truP.mono fun b => hk b σ) h
  cases e with
  | UnaryOp op x p => cases op <;> first | exact S (fun b σ => hk _ _) h | exact D h
  | BoolOp op es p => exact allP.mono hT hm hk h
  | IfExp t a b p => exact S (fun c σ => cnd.mono (S hk) (S hk)) h
  | Compare l ops es p => exact E (fun v σ => chainP.mono hT hm hk) h
  | _ => exact D h
theorem evT.mono (hc : MonoC cl) : ∀ n, MonoT (evT G cl n)
  | 0 => ⟨fun zz zz zz zz zz zz zz zz zz h => h, fun zz zz zz zz zz zz zz zz zz h => h⟩
  | n + 1 => ⟨fun zz zz zz zz zz zz zz hm hk h => evStep.mono hc (evT.mono hc n) hm hk h, fun zz zz zz zz zz zz zz hm hk h => tsStep.mono (evT.mono hc n) hm hk h⟩

noncomputable abbrev QLe (Q Q' : QS) : Prop := ∀ fl m m' σ, LeF m m' → Q fl m σ → Q' fl m' σ
noncomputable def MonoX (X : Stmt → Lo → AH → QS → Prop) : Prop := ∀ s m m' σ (Q Q' : QS), LeF m m' → QLe Q Q' → X s m σ Q → X s m' σ Q'
theorem blkP.mono {X : Stmt → Lo → AH → QS → Prop} (hX : MonoX X) : ∀ {ss : List Stmt} {m m' : Lo} {σ : AH} {Q Q' : QS}, LeF m m' → QLe Q Q' → blkP X ss m σ Q → blkP X ss m' σ Q'
  | [], _, _, _, _, _, hm, hq, h => hq _ _ _ _ hm h
  | s :: r, _, _, _, _, _, hm, hq, h => hX _ _ _ _ _ _ hm (fun fl m m' σ hm h => by
    cases fl with
    | next => exact blkP.mono hX hm hq h
    | _ => exact hq _ _ _ _ hm h) h
theorem namesP.mono : ∀ {ts : List Expr} {vs : List V} {m m' : Lo} {N N' : Lo → Prop}, LeF m m' → (∀ m m', LeF m m' → N m → N' m') → optQ (namesP sc ts vs m) N → optQ (namesP sc ts vs m') N'
  | [], [], _, _, _, _, hm, hn, h => hn _ _ hm h
  | [], _ :: _, _, _, _, _, hm, hn, h => h
  | _ :: _, [], _, _, _, _, hm, hn, h => h
  | e :: ts, v :: vs, m, m', N, N', hm, hn, h => by
    unfold namesP at h ⊢
    generalize nameOf e = o at h ⊢
    cases o with
    | none => exact h
    | some x =>
      dsimp only at h ⊢
      generalize isLoc sc x = b at h ⊢
      cases b with
      | true => exact namesP.mono hm.set hn h
      | false => exact h
theorem storeP.mono {t : Expr} {v : V} {N N' : Lo → AH → Prop} (hT : MonoT T) (hm : LeF m m') (hn : ∀ m m' σ, LeF m m' → N m σ → N' m' σ) (h : storeP T sc t v m σ N) : storeP T sc t v m' σ N' := by
  have E := fun {e σ} {K K' : QV} (hk : ∀ v σ, K v σ → K' v σ) (h : T.ev sc e m σ K) => hT.ev _ _ _ _ _ _ _ hm hk h
  cases t with
  | Name x p => exact chk.mono (hn _ _ _ hm.set) h
  | Attribute o x p => exact E (fun w σ => refP.mono fun a => rd.mono fun o h => by cases o <;> first | exact chk.mono (chk.mono (hn _ _ _ hm)) h | exact h) h
  | Subscript o i p =>
    unfold storeP at h ⊢
    dsimp only at h ⊢
    generalize subK i = q at h ⊢
    cases q with
    | item =>
      refine E (fun w σ => E fun k σ => refP.mono fun a => intP.mono fun k => rd.mono fun o h => ?_) h
      cases o with
      | dict kvs => exact chk.mono (hn _ _ _ hm) h
      | list vs => exact and_mono (and_mono (hn _ _ _ hm)) h
      | _ => exact h
    | _ => exact h
  | _ => exact h
theorem targetP.mono {t : Expr} {v : V} {N N' : Lo → AH → Prop} (hT : MonoT T) (hm : LeF m m') (hn : ∀ m m' σ, LeF m m' → N m σ → N' m' σ) (h : targetP T sc t v m σ N) : targetP T sc t v m' σ N' := by
  cases t with
  | Tuple ts k p => exact lkP.mono (k := unpP sc ts m fun m => N m σ) (k' := unpP sc ts m' fun m => N' m σ) (fun v h => by cases v <;> first | exact namesP.mono hm (fun m m' => hn m m' σ) h | exact h) h
  | Name x p => exact storeP.mono (t := .Name x p) hT hm hn h
  | Attribute o x p => exact storeP.mono (t := .Attribute o x p) hT hm hn h
  | Subscript o i p => exact storeP.mono (t := .Subscript o i p) hT hm hn h
  | _ => exact h
theorem forP.mono {X : Stmt → Lo → AH → QS → Prop} {t : Expr} {body : List Stmt} (hT : MonoT T) (hX : MonoX X) : ∀ {vs : List V} {m m' : Lo} {σ : AH} {Q Q' : QS}, LeF m m' → QLe Q Q' → forP T X sc t body vs m σ Q → forP T X sc t body vs m' σ Q'
  | [], _, _, _, _, _, hm, hq, h => by rw [forP_nil] at h ⊢; exact hq _ _ _ _ hm h
  | v :: vs, _, _, _, _, _, hm, hq, h => by
    rw [forP_cons] at h ⊢
    exact targetP.mono hT hm (fun m m' σ hm => blkP.mono hX hm fun fl m m' σ hm h => by
      cases fl with
      | next => exact forP.mono hT hX hm hq h
      | cont => exact forP.mono hT hX hm hq h
      | brk => exact hq _ _ _ _ hm h
      | ret v => exact hq _ _ _ _ hm h) h
theorem whileP.mono {X : Stmt → Lo → AH → QS → Prop} {t : Expr} {body : List Stmt} {Q Q' : QS} (hT : MonoT T) (hX : MonoX X) (hm : LeF m m') (hq : QLe Q Q') (h : whileP T X sc t body m σ Q) : whileP T X sc t body m' σ Q' := by
  unfold whileP at h ⊢
  intro R hR
  refine h (fun m σ => ∀ m', LeF m m' → R m' σ) (fun m σ h m' hm => hR m' σ ?_) m' hm
  exact hT.ts _ _ _ _ _ _ _ hm (fun b σ => cnd.mono (blkP.mono hX hm fun fl m m' σ hm h => by
    cases fl with
    | next => obtain ⟨τ, a, b⟩ := h; exact ⟨τ, a, b m' hm⟩
    | cont => obtain ⟨τ, a, b⟩ := h; exact ⟨τ, a, b m' hm⟩
    | brk => exact hq _ _ _ _ hm h
    | ret v => exact hq _ _ _ _ hm h) (hq _ _ _ _ hm)) h
theorem exT.mono (hc : MonoC cl) : ∀ n sc, MonoX (exT G cl n sc)
  | 0, sc => fun zz zz zz zz zz zz zz zz h => h
  | n + 1, sc => fun s m m' σ Q Q' hm hq h => by
    have hT := evT.mono (G := G) hc 20
    have hX := fun sc => exT.mono hc n sc
    have E := fun {e σ} {K K' : QV} (hk : ∀ v σ, K v σ → K' v σ) (h : (evT G cl 20).ev sc e m σ K) => hT.ev _ _ _ _ _ _ _ hm hk h
    cases s with
    | Expr e p => exact chk.mono (E fun zz σ => hq _ _ _ σ hm) h
    | Break p => exact hq _ _ _ _ hm h
    | Continue p => exact hq _ _ _ _ hm h
    | Return e p => exact optQ.mono (fun e => E fun v σ => hq _ _ _ σ hm) h
    | Assign ts e p => exact optQ.mono (fun t => chk.mono (E fun v σ => targetP.mono hT hm fun m m' σ hm => hq _ _ _ _ hm)) h
    | AugAssign t op e p => exact chk.mono (optQ.mono fun oi => E fun w σ => E fun k σ => itemP.mono fun x σ => E fun y σ => intP.mono fun x => intP.mono fun y => refP.mono fun a => intP.mono fun k => rd.mono fun o h => by
          cases o <;> first | exact and_mono (and_mono (hq _ _ _ _ hm)) h | exact h) h
    | If t a b p => exact hT.ts _ _ _ _ _ _ _ hm (fun c σ => cnd.mono (blkP.mono (hX _) hm hq) (blkP.mono (hX _) hm hq)) h
    | While t body els p => exact chk.mono (whileP.mono hT (hX _) hm hq) h
    | For t iter body els p => exact chk.mono (optQ.mono fun tup => iterP.mono hT hm fun vs σ => forP.mono hT (hX _) hm hq) h
    | _ => exact h
theorem calls.mono {F : Addr → Option Fn} : ∀ d, MonoC (calls G F d)
  | 0 => fun zz zz zz zz zz zz h => h
  | d + 1 => fun a vs σ K K' hk h => by
    have rm : ∀ v σ, retP v σ K → retP v σ K' := fun v σ h => by
      unfold retP at h ⊢
      obtain ⟨v', σ', a, b⟩ := h
      exact ⟨v', σ', a, hk _ _ b⟩
    unfold calls at h ⊢
    generalize F a = f at h ⊢
    cases f with
    | none => exact h
    | some f =>
      cases f with
      | fn ps sc body => exact ⟨h.1, blkP.mono (exT.mono (calls.mono d) 20 sc) .refl (fun fl m m' σ zz => rm _ _) h.2⟩
      | cls init => exact fun n hn => calls.mono d _ _ _ _ _ (fun v σ h => ⟨h.1, by
          have h2 := h.2
          unfold retP at h2 ⊢
          obtain ⟨v', σ', a, b⟩ := h2
          exact ⟨v', σ', a, hk _ _ b⟩⟩) (h n hn)
end Mine

namespace Mine
set_option tactic.hygienic false
set_option genSizeOfSpec false
open PySem
set_option maxRecDepth 100000
set_option linter.unusedVariables false
variable {G : Str → Option V} {cl : Calls} {n d : Nat} {T : EvT} {sc : Scope} {m m' m1 : Lo} {σ : AH} {K : QV} {Q : QS} {X : Stmt → Lo → AH → QS → Prop}

noncomputable def ifB : Stmt → List Stmt
  | .If _ a _ _ => a
  | _ => []
noncomputable def nth (k : Nat) (l : List Stmt) : Stmt := l.getD k (.Pass ⟨0, 0, 0, 0⟩)
theorem LeF.trans {a b c : Lo} (h : LeF a b) (k : LeF b c) : LeF a c := ⟨fun x v e => k.get x v (h.get x v e), fun e => k.dot (h.dot e)⟩
noncomputable def SubF : Lo → Lo → Prop
  | [], _ => True
  | (x, v) :: r, m => getL x m = some v ∧ SubF r m
theorem SubF.le (hd : getL (Str.ofString ".0") m = none) (h : SubF m1 m) : LeF m1 m := by
  refine ⟨fun x v e => ?_, fun zz => hd⟩
  induction m1 with
  | nil => cases e
  | cons p r ih =>
    simp only [getL] at e
    split at e
    · rename_i q; subst q; cases e; exact h.1
    · exact ih h.2 e
theorem qle_fn {Q : QV} : QLe (kFn Q) (kFn Q) := fun zz zz zz zz zz h => h
theorem qle_seq {r : List Stmt} (hX : MonoX X) (hq : QLe Q Q) : QLe (seqK (blkP X r) Q) (seqK (blkP X r) Q) := fun fl m m' σ hm h => by
  cases fl with
  | next => exact blkP.mono hX hm hq h
  | _ => exact hq _ _ _ _ hm h
noncomputable def LoopQ (I : AH → Lo → Prop) (Q : QS) : QS := fun fl m σ => match fl with
  | .next => ∃ m1, LeF m1 m ∧ I σ m1
  | .cont => ∃ m1, LeF m1 m ∧ I σ m1
  | .brk => Q .next m σ
  | .ret v => Q (.ret v) m σ
theorem qle_loop {I : AH → Lo → Prop} (hq : QLe Q Q) : QLe (LoopQ I Q) (LoopQ I Q) := fun fl m m' σ hm h => by
  cases fl with
  | next => obtain ⟨m1, a, b⟩ := h; exact ⟨m1, a.trans hm, b⟩
  | cont => obtain ⟨m1, a, b⟩ := h; exact ⟨m1, a.trans hm, b⟩
  | brk => exact hq _ _ _ _ hm h
  | ret v => exact hq _ _ _ _ hm h
theorem monoC (h : cl = calls G0 F0 d) : MonoC cl := h ▸ calls.mono d
theorem monoX (h : cl = calls G0 F0 d) {n : Nat} {sc : Scope} : MonoX (exT G0 cl n sc) := exT.mono (monoC h) n sc
/-- A loop over a list: an invariant over the rest, the heap and what the frame knows. -/
theorem for_c (h : cl = calls G0 F0 d) (hQ : QLe Q Q) {t : Expr} {body : List Stmt} (I : List V → AH → Lo → Prop)
    (step : ∀ v vs σ m, I (v :: vs) σ m → targetP (evT G0 cl 20) sc t v m σ fun m σ => blkP (exT G0 cl n sc) body m σ (LoopQ (I vs) Q))
    (done : ∀ σ m, I [] σ m → Q .next m σ) : ∀ vs m1 m σ, LeF m1 m → I vs σ m1 → forP (evT G0 cl 20) (exT G0 cl n sc) sc t body vs m σ Q
  | [], m1, m, σ, hm, hi => by rw [forP_nil]; exact hQ _ _ _ _ hm (done σ m1 hi)
  | v :: vs, m1, m, σ, hm, hi => by
    rw [forP_cons]
    refine targetP.mono (evT.mono (monoC h) 20) hm (fun m m' σ hm => blkP.mono (monoX h) hm fun fl m m' σ hm h' => ?_) (step v vs σ m1 hi)
    cases fl with
    | next => obtain ⟨m2, a, b⟩ := h'; exact for_c h hQ I step done vs m2 m' σ (a.trans hm) b
    | cont => obtain ⟨m2, a, b⟩ := h'; exact for_c h hQ I step done vs m2 m' σ (a.trans hm) b
    | brk => exact hQ _ _ _ _ hm h'
    | ret v => exact hQ _ _ _ _ hm h'
/-- A loop by a measure. -/
theorem while_c (h : cl = calls G0 F0 d) (hQ : QLe Q Q) {α : Type} {t : Expr} {body : List Stmt} (I : α → AH → Lo → Prop) (μ : α → Nat)
    (step : ∀ x σ m, I x σ m → (evT G0 cl 20).ts sc t m σ fun b σ => cnd b (blkP (exT G0 cl n sc) body m σ (LoopQ (fun σ m => ∃ y τ, le τ σ ∧ μ y < μ x ∧ I y τ m) Q)) (Q .next m σ))
    (x : α) (m1 : Lo) (hm : LeF m1 m) (hi : I x σ m1) : whileP (evT G0 cl 20) (exT G0 cl n sc) sc t body m σ Q := by
  refine while_by (fun x m σ => ∃ m1, LeF m1 m ∧ I x σ m1) μ (fun R x m σ ⟨m1, hm, hi⟩ hr => ?_) x ⟨m1, hm, hi⟩
  refine (evT.mono (monoC h) 20).ts _ _ _ _ _ _ _ hm (fun b σ => cnd.mono (blkP.mono (monoX h) hm fun fl m m' σ hm h' => ?_) (hQ _ _ _ _ hm)) (step x σ m1 hi)
  cases fl with
  | next => obtain ⟨m2, a, y, τ, q1, q2, q3⟩ := h'; exact ⟨τ, q1, hr y _ τ q2 ⟨m2, a.trans hm, q3⟩⟩
  | cont => obtain ⟨m2, a, y, τ, q1, q2, q3⟩ := h'; exact ⟨τ, q1, hr y _ τ q2 ⟨m2, a.trans hm, q3⟩⟩
  | brk => exact hQ _ _ _ _ hm h'
  | ret v => exact hQ _ _ _ _ hm h'
noncomputable def CutQ (I : AH → Lo → Prop) (Q : QS) : QS := fun fl m σ => match fl with
  | .next => ∃ m1, LeF m1 m ∧ I σ m1
  | .cont => Q .cont m σ
  | .brk => Q .brk m σ
  | .ret v => Q (.ret v) m σ
theorem cut_go (hX : MonoX X) (hQ : QLe Q Q) (I : AH → Lo → Prop) : ∀ (k : Nat) (l : List Stmt) (m : Lo) (σ : AH), (∀ σ m, I σ m → blkP X (l.drop k) m σ Q) → blkP X (l.take k) m σ (CutQ I Q) → blkP X l m σ Q
  | 0, l, m, σ, hr, h => by obtain ⟨m1, a, b⟩ := h; exact blkP.mono hX a hQ (hr σ m1 b)
  | k + 1, [], m, σ, hr, h => by obtain ⟨m1, a, b⟩ := h; exact blkP.mono hX a hQ (hr σ m1 b)
  | k + 1, s :: l, m, σ, hr, h => by
    refine hX s _ _ _ _ _ LeF.refl (fun fl m m' σ hm h' => ?_) h
    cases fl with
    | next => exact blkP.mono hX hm hQ (cut_go hX hQ I k l m σ hr h')
    | cont => exact hQ _ _ _ _ hm h'
    | brk => exact hQ _ _ _ _ hm h'
    | ret v => exact hQ _ _ _ _ hm h'
/-- The rest of a block under what the frame and the heap are ahead of it. -/
theorem cut (h : cl = calls G0 F0 d) (hQ : QLe Q Q) (k : Nat) (I : AH → Lo → Prop) {l : List Stmt} (first : blkP (exT G0 cl n sc) (l.take k) m σ (CutQ I Q)) (rest : ∀ σ m, I σ m → blkP (exT G0 cl n sc) (l.drop k) m σ Q) : blkP (exT G0 cl n sc) l m σ Q :=
  cut_go (monoX h) hQ I k l m σ rest first
end Mine

namespace Mine
set_option tactic.hygienic false
set_option genSizeOfSpec false
open PySem
set_option maxRecDepth 100000
set_option linter.unusedVariables false
variable {d : Nat} {σ : AH} {Q : QV}

theorem followers_c {b : Addr} {B : Blk} (h : σ b = some B.obj) (hlen : B.en.e.goals.length ≤ 100) (hq : Q (.fl (B.en.e.goals.map nV)) σ) : calls G0 F0 (d + 1) 84 [.ref b] σ Q := by
  refine call_fn f_followers rfl fun cl hcl => rd_ok h (fld rfl ?_)
  obtain ⟨num, steps, id, line, e⟩ := B
  cases e with
  | jump g => exact yes (newL (retP_here hq))
  | branch a t o => exact no (yes (newL (retP_here hq)))
  | table a low lot o =>
    simp [En.goals] at hlen
    refine no (no (yes (glo g_list ?_)))
    refine le_ok (by simp; lia) (newL (newL (le_ok (by simp [lineOf]; lia) (newL (retP_here ?_)))))
    have e : (lot ++ [o]).map nV = lot.map nV ++ [.int (o : Nat)] := by simp [nV]
    exact e ▸ hq
  | give a => exact no (no (no (newL (retP_here hq))))

theorem step_new {a b c e : V} (hq : ∀ n, σ n = none → Q (.ref n) (put σ n (.inst 31 [(Str.ofString "op", a), (Str.ofString "dst", b), (Str.ofString "args", c), (Str.ofString "more", e), (Str.ofString "is_volatile", .bool false), (Str.ofString "line", .int 0)]))) :
    calls G0 F0 (d + 2) 31 [a, b, c, e] σ Q := by
  refine call_cls f_Step fun n hn => call_fn f_Step_init rfl fun cl hcl => ?_
  refine rd_ok put_same (rd_ok put_same (rd_ok put_same (rd_ok put_same (rd_ok put_same (rd_ok put_same ?_)))))
  simp only [put_put]
  exact retP_here ⟨rfl, retP_here (hq n hn)⟩
theorem step_fi {a b c e : V} (hq : ∀ n, Q (.fi n 31 [(Str.ofString "op", a), (Str.ofString "dst", b), (Str.ofString "args", c), (Str.ofString "more", e), (Str.ofString "is_volatile", .bool false), (Str.ofString "line", .int 0)]) σ) :
    calls G0 F0 (d + 2) 31 [a, b, c, e] σ Q := by
  refine call_cls f_Step fun n hn => call_fn f_Step_init rfl fun cl hcl => ?_
  refine rd_ok put_same (rd_ok put_same (rd_ok put_same (rd_ok put_same (rd_ok put_same (rd_ok put_same ?_)))))
  simp only [put_put]
  exact retP_here ⟨rfl, retP_inst put_same (le_del_put hn) (hq n)⟩

theorem in_place_of_c {id c : Addr} {o0 : Str} {d0 l : Int} {a0 : List Arg} {m0 : V} {v0 : Bool} {a b x y : V}
    (hq : ∀ n, Q (.fi n 31 [(Str.ofString "op", a), (Str.ofString "dst", b), (Str.ofString "args", x), (Str.ofString "more", y), (Str.ofString "is_volatile", .bool false), (Str.ofString "line", .int l)]) σ) :
    calls G0 F0 (d + 3) 105 [.fi id c (stepFs o0 d0 a0 m0 v0 l), a, b, x, y] σ Q := by
  refine call_fn f_in_place_of rfl fun cl hcl => ?_
  refine glo g_Step (use hcl (step_new fun n hn => ?_))
  refine rd_ok put_same ?_
  simp only [put_put]
  exact retP_inst put_same (le_del_put hn) (hq n)

noncomputable def lg (ld : List (Nat × Nat)) (g : Nat) : Nat := (ld.lookup g).getD g
noncomputable def encD (ld : List (Nat × Nat)) : List (Int × V) := ld.map fun p => ((p.1 : Int), nV p.2)
theorem getD_enc {ld : List (Nat × Nat)} {g : Nat} : getD (g : Int) (encD ld) = (ld.lookup g).map nV := by
  induction ld with
  | nil => rfl
  | cons p ld ih =>
    obtain ⟨a, b⟩ := p
    simp only [encD, List.map_cons, getD, List.lookup_cons] at ih ⊢
    by_cases h : g = a
    · subst h; simp
    · have h1 : ¬ (g : Int) = (a : Int) := by lia
      have h2 : (g == a) = false := by simpa using h
      simp only [h1, if_false, h2]
      exact ih
theorem get_lg {ld : List (Nat × Nat)} {g : Nat} : (getD (g : Int) (encD ld)).getD (.int g) = .int (lg ld g) := by
  rw [getD_enc]; unfold lg
  cases ld.lookup g <;> rfl
noncomputable def ledE (ld : List (Nat × Nat)) : En → En
  | .jump g => .jump (lg ld g)
  | .branch a t o => .branch a (lg ld t) (lg ld o)
  | .table a low lot o => .table a low (lot.map (lg ld)) (lg ld o)
  | .give a => .give a

theorem led_end_c {e : EnS} {l : Addr} {ld : List (Nat × Nat)} (hl : σ l = some (.dict (encD ld))) (hlen : e.e.goals.length ≤ 100) (hq : ∀ id, Q (EnS.enc ⟨id, e.line, ledE ld e.e⟩) σ) : calls G0 F0 (d + 4) 110 [e.enc, .ref l] σ Q := by
  refine call_fn f_led_end rfl fun cl hcl => ?_
  obtain ⟨id, line, e⟩ := e
  cases e with
  | jump g => exact yes (glo g_in_place_of (newL (rd_ok hl (rd_ok hl (val get_lg (use hcl (in_place_of_c fun n => retP_here (hq n))))))))
  | branch a t o => exact no (yes (glo g_in_place_of (rd_ok hl (rd_ok hl (val get_lg (rd_ok hl (rd_ok hl (val get_lg (use hcl (in_place_of_c fun n => retP_here (hq n)))))))))))
  | table a low lot o =>
    refine no (no (yes ⟨rfl, comp_by (fun v => match v with | .int i => (getD i (encD ld)).getD (.int i) | v => v) _ _ (fun v hv K hK => ?_) ?_⟩))
    · obtain ⟨g, _, rfl⟩ := List.mem_map.mp hv
      exact rd_ok hl (rd_ok hl ⟨hK⟩)
    · have e1 : [] ++ List.map (fun v => match v with | .int i => (getD i (encD ld)).getD (.int i) | v => v) (lot.map nV) = (lot.map (lg ld)).map nV := by
        simp only [List.nil_append, List.map_map]
        exact List.map_congr_left fun g zz => get_lg
      rw [e1]
      exact newL (glo g_in_place_of (rd_ok hl (rd_ok hl (val get_lg (use hcl (in_place_of_c fun n => retP_here (hq n)))))))
  | give a => exact no (no (no (retP_here (hq id))))
end Mine

namespace Mine
set_option tactic.hygienic false
set_option genSizeOfSpec false
open PySem
set_option maxRecDepth 100000
set_option linter.unusedSimpArgs false
set_option linter.unusedVariables false
variable {d : Nat} {σ : AH} {Q : QV}
theorem cm_eq_go {v w : V} {a b : PyData} {k : Bool → Prop} (hv : (look σ v).data = some a) (hw : (look σ w).data = some b) (sa : SeqAt.shaped a = true) (sb : SeqAt.shaped b = true) (h : k (PyData.eqv a b)) : eqP σ v w k :=
  by unfold eqP; exact ⟨a, b, hv, hw, sa, sb, h⟩
noncomputable def Arg.data (a : Arg) : PyData := .tuple [.str (if a.k = true then Str.ofString "k" else Str.ofString "r"), .int a.v]
theorem Arg.enc_data (a : Arg) : a.enc.data = some a.data := by
  obtain ⟨k, v⟩ := a
  cases k <;> simp [Arg.enc, V.data, V.datas, Arg.data]
theorem args_data : ∀ as : List Arg, V.datas (as.map Arg.enc) = some (as.map Arg.data)
  | [] => rfl
  | a :: as => by simp [V.datas, Arg.enc_data, args_data as]
theorem ints_data : ∀ as : List Int, V.datas (as.map V.int) = some (as.map PyData.int)
  | [] => rfl
  | a :: as => by simp [V.datas, V.data, ints_data as]
theorem nvs_data : ∀ as : List Nat, V.datas (as.map nV) = some (as.map fun n : Nat => PyData.int (n : Int))
  | [] => rfl
  | a :: as => by simp [V.datas, V.data, nV, nvs_data as]
theorem str_beq (x y : Str) : (x == y) = decide (x = y) := by
  by_cases h : x = y <;> simp [h]
theorem Arg.data_inj (a b : Arg) : PyData.eqv a.data b.data = decide (a = b) := by
  obtain ⟨k, v⟩ := a
  obtain ⟨k', v'⟩ := b
  simp only [Arg.data, PyData.eqv, PyData.eqvAll, Bool.and_true, str_beq]
  rw [Bool.eq_iff_iff]
  cases k <;> cases k' <;> simp [ofString_inj]
theorem args_eqv : ∀ as bs : List Arg, PyData.eqvAll (as.map Arg.data) (bs.map Arg.data) = decide (as = bs)
  | [], [] => by simp [PyData.eqvAll]
  | [], _ :: _ => by simp [PyData.eqvAll]
  | _ :: _, [] => by simp [PyData.eqvAll]
  | a :: as, b :: bs => by
    simp only [List.map_cons, PyData.eqvAll, Arg.data_inj, args_eqv as bs]
    rw [Bool.eq_iff_iff]; simp
theorem nats_eqv : ∀ as bs : List Nat, PyData.eqvAll (as.map fun n : Nat => PyData.int (n : Int)) (bs.map fun n : Nat => PyData.int (n : Int)) = decide (as = bs)
  | [], [] => by simp [PyData.eqvAll]
  | [], _ :: _ => by simp [PyData.eqvAll]
  | _ :: _, [] => by simp [PyData.eqvAll]
  | a :: as, b :: bs => by
    simp only [List.map_cons, PyData.eqvAll, PyData.eqv, nats_eqv as bs]
    rw [Bool.eq_iff_iff]; simp; lia

/-- Shallow data. -/
theorem shaped_of {a : PyData} (h : PyData.canLay0 a = true) (hd : PyData.depth a ≤ 64) : SeqAt.shaped a = true := by
  unfold SeqAt.shaped; rw [h]; simpa using hd
theorem Arg.lay (a : Arg) : PyData.canLay0 a.data = true ∧ PyData.depth a.data ≤ 1 := by
  obtain ⟨k, v⟩ := a
  have hk := lay_of oks_k
  have hr := lay_of oks_r
  cases k <;> simp [Arg.data, PyData.canLay0, PyData.canLayAll0, PyData.depth, PyData.depthAll] at hk hr ⊢ <;> assumption
theorem args_lay : ∀ as : List Arg, PyData.canLayAll0 (as.map Arg.data) = true ∧ PyData.depthAll (as.map Arg.data) ≤ 1
  | [] => by simp [PyData.canLayAll0, PyData.depthAll]
  | a :: as => by
    have h1 := a.lay
    have h2 := args_lay as
    simp only [List.map_cons, PyData.canLayAll0, PyData.depthAll, h1.1, h2.1, Bool.and_self, true_and]
    lia
theorem ints_lay : ∀ as : List Int, PyData.canLayAll0 (as.map PyData.int) = true ∧ PyData.depthAll (as.map PyData.int) = 0
  | [] => by simp [PyData.canLayAll0, PyData.depthAll]
  | a :: as => by
    have h2 := ints_lay as
    simp [PyData.canLayAll0, PyData.depthAll, h2.1, h2.2, PyData.canLay0, PyData.depth]
theorem nats_lay : ∀ as : List Nat, PyData.canLayAll0 (as.map fun n : Nat => PyData.int (n : Int)) = true ∧ PyData.depthAll (as.map fun n : Nat => PyData.int (n : Int)) = 0
  | [] => by simp [PyData.canLayAll0, PyData.depthAll]
  | a :: as => by
    have h2 := nats_lay as
    simp [PyData.canLayAll0, PyData.depthAll, h2.1, h2.2, PyData.canLay0, PyData.depth]

theorem cm_eq_args {as bs : List Arg} {k : Bool → Prop} (h : k (decide (as = bs))) : eqP σ (.fl (as.map Arg.enc)) (.fl (bs.map Arg.enc)) k := by
  have a1 := args_lay as
  have b1 := args_lay bs
  refine cm_eq_go (a := .list (as.map Arg.data)) (b := .list (bs.map Arg.data)) (by simp [look, V.data, args_data]) (by simp [look, V.data, args_data]) ?_ ?_ ?_
  · exact shaped_of (by simp only [PyData.canLay0]; exact a1.1) (by simp only [PyData.depth]; lia)
  · exact shaped_of (by simp only [PyData.canLay0]; exact b1.1) (by simp only [PyData.depth]; lia)
  · simp only [PyData.eqv, args_eqv]; exact h
theorem cm_eq_nats {as bs : List Nat} {k : Bool → Prop} (h : k (decide (as = bs))) : eqP σ (.fl (as.map nV)) (.fl (bs.map nV)) k := by
  have a1 := nats_lay as
  have b1 := nats_lay bs
  refine cm_eq_go (by simp only [look, V.data, nvs_data]; rfl) (by simp only [look, V.data, nvs_data]; rfl) ?_ ?_ ?_
  · exact shaped_of (by simp only [PyData.canLay0]; exact a1.1) (by simp only [PyData.depth]; lia)
  · exact shaped_of (by simp only [PyData.canLay0]; exact b1.1) (by simp only [PyData.depth]; lia)
  · simp only [PyData.eqv, nats_eqv]; exact h
noncomputable def En.mdata : En → PyData
  | .jump g => .int g | .branch _ t o => .tuple [.int t, .int o] | .table _ low lot o => .tuple [.int low, .list (lot.map fun n : Nat => PyData.int (n : Int)), .int o] | .give _ => .int 0
theorem En.more_data (e : En) : e.more.data = some e.mdata := by
  cases e <;> simp [En.more, En.mdata, V.data, V.datas, nV]
  rw [nvs_data]; rfl
theorem En.mlay (e : En) : PyData.canLay0 e.mdata = true ∧ PyData.depth e.mdata ≤ 2 := by
  cases e <;> simp [En.mdata, PyData.canLay0, PyData.canLayAll0, PyData.depth, PyData.depthAll, nats_lay]
theorem cm_eq_more {e e' : En} {k : Bool → Prop} (h : k (PyData.eqv e.mdata e'.mdata)) : eqP σ e.more e'.more k := by
  have nl : ∀ e : En, look σ e.more = e.more := fun e => by cases e <;> rfl
  refine cm_eq_go (by rw [nl]; exact e.more_data) (by rw [nl]; exact e'.more_data) (shaped_of e.mlay.1 (by have := e.mlay.2; lia)) (shaped_of e'.mlay.1 (by have := e'.mlay.2; lia)) h


theorem same_end_c {e e' : EnS} (hq : Q (.bool (decide (e.e = e'.e))) σ) : calls G0 F0 (d + 1) 117 [e.enc, e'.enc] σ Q := by
  refine call_fn f_same_end rfl fun cl hcl => ?_
  obtain ⟨id, line, e⟩ := e
  obtain ⟨id', line', e'⟩ := e'
  have fin : ∀ {b : Bool}, b = decide (e = e') → retP (.bool b) σ Q := fun {b} hb => by rw [hb]; exact retP_here hq
  have one : ∀ {a a' : Arg} {P : Prop}, (a = a' → P) → (a ≠ a' → retP (.bool false) σ Q) → cnd (decide ([a] = [a'])) P (retP (.bool (decide ([a] = [a']))) σ Q) := fun {a a' P} h1 h2 => by
    by_cases h : a = a'
    · exact cnd_t (by simp [h]) (h1 h)
    · have e0 : decide ([a] = [a']) = false := by simp [h]
      rw [e0]; exact no (h2 h)
  cases e with
  | jump g =>
    cases e' with
    | jump g' => exact yes (.inl (cm_eq_args (as := []) (bs := []) (yes (fin (by rw [Bool.eq_iff_iff]; simp; lia)))))
    | _ => exact no (fin (by simp [En.op, ofString_inj]))
  | branch a t o =>
    cases e' with
    | branch a' t' o' =>
      refine yes (.inl (cm_eq_args (as := [a]) (bs := [a']) (one (fun h => .inl (cm_eq_more (e := .branch a t o) (e' := .branch a' t' o') (fin ?_))) fun h => fin (by simp [h]))))
      subst h
      simp only [En.mdata, PyData.eqv, PyData.eqvAll, Bool.and_true]
      rw [Bool.eq_iff_iff]; simp; lia
    | _ => exact no (fin (by simp [En.op, ofString_inj]))
  | table a low lot o =>
    cases e' with
    | table a' low' lot' o' =>
      refine yes (.inl (cm_eq_args (as := [a]) (bs := [a']) (one (fun h => .inl (cm_eq_more (e := .table a low lot o) (e' := .table a' low' lot' o') (fin ?_))) fun h => fin (by simp [h]))))
      subst h
      simp only [En.mdata, PyData.eqv, PyData.eqvAll, Bool.and_true, nats_eqv]
      rw [Bool.eq_iff_iff]; simp; lia
    | _ => exact no (fin (by simp [En.op, ofString_inj]))
  | give a =>
    cases e' with
    | give a' =>
      refine yes (.inl (cm_eq_args (as := [a]) (bs := [a']) (one (fun h => fin (by simp [h])) fun h => fin (by simp [h]))))
    | _ => exact no (fin (by simp [En.op, ofString_inj]))

end Mine

namespace Mine
set_option tactic.hygienic false
set_option genSizeOfSpec false
open PySem
set_option maxRecDepth 100000
set_option linter.unusedSimpArgs false
set_option linter.unusedVariables false
variable {d : Nat} {σ : AH} {Q : QV}
structure ActOk (s : Act) : Prop where
  op : okS s.op = true
  args : s.args ≠ []
noncomputable def actK (s : Act) : Option Int := if s.op = Str.ofString "const" ∨ s.op = Str.ofString "copy" then match s.args with | a :: _ => if a.k = true then some (a.v % 4294967296) else none | [] => none else none
noncomputable def knownRev : List Act → Int → Option Int
  | [], _ => none
  | s :: r, v => if s.dst = v then actK s else knownRev r v
noncomputable def known (steps : List Act) (a : Arg) : Option Int := if a.k = true then some (a.v % 4294967296) else knownRev steps.reverse a.v
noncomputable def oV : Option Int → V
  | some i => .int i
  | none => .none


theorem cm_in_go {s a b : Str} {k : Bool → Prop} (hs : okS s = true) (ha : okS a = true) (hb : okS b = true) (h : k (decide (s = a ∨ s = b))) : inP σ (.str s) (.tup [.str a, .str b]) k := by
  unfold inP
  refine ⟨[.str a, .str b], by simp [V.datas, V.data], ?_, lay_of hs, ?_⟩
  · have h1 := lay_of ha
    have h2 := lay_of hb
    simp [PyData.canLayAll0, h1, h2]
  · have : ([PyData.str a, PyData.str b].any fun y => PyData.eqv y (.str s)) = decide (s = a ∨ s = b) := by
      simp only [List.any_cons, List.any_nil, Bool.or_false, PyData.eqv, str_beq]
      rw [Bool.eq_iff_iff]; simp only [Bool.or_eq_true, decide_eq_true_eq]
      exact or_congr eq_comm eq_comm
    rw [this]; exact h

theorem known_value_c {b : Addr} {B : Blk} {a : Arg} (h : σ b = some B.obj) (hok : ∀ s ∈ B.steps, ActOk s) (hq : Q (oV (known B.steps a)) σ) : calls G0 F0 (d + 1) 124 [.ref b, a.enc] σ Q := by
  refine call_fn f_known_value rfl fun cl hcl => ?_
  obtain ⟨k, v⟩ := a
  cases k with
  | true => exact yes (glo g_ROUND ⟨by decide, retP_here hq⟩)
  | false =>
    refine no (rd_ok h (fld rfl (newL ?_)))
    refine for_c hcl (qle_seq (monoX hcl) qle_fn) (fun vs τ m => τ = σ ∧ m = [(st "value", .int v)] ∧ ∃ r : List Act, vs = r.map Act.enc ∧ (∀ s ∈ r, ActOk s) ∧ Q (oV (knownRev r v)) σ) (fun x vs τ m hI => ?_) (fun τ m hI => ?_) _ [(st "value", .int v)] _ _ ?_
      ⟨rfl, rfl, B.steps.reverse, by rw [List.map_reverse], fun s hs => hok s (List.mem_reverse.mp hs), by simpa [known] using hq⟩
    · obtain ⟨rfl, rfl, r, hr, hrok, hrq⟩ := hI
      cases r with
      | nil => cases hr
      | cons s r =>
        rw [List.map_cons] at hr
        obtain ⟨rfl, rfl⟩ := List.cons.inj hr
        obtain ⟨hso, hsa⟩ := hrok s (.head _)
        refine cnd_d (fun hd => ?_) (fun hd => ?_)
        · simp only [knownRev, hd, if_true] at hrq
          refine cm_in_go hso oks_const oks_copy ?_
          refine cnd_d (fun hop => ?_) (fun hop => ?_)
          · obtain ⟨id, op, dst, args, more, vol, line⟩ := s
            simp only [actK, hop, if_true] at hrq
            cases args with
            | nil => exact absurd rfl hsa
            | cons a args =>
              obtain ⟨k, w⟩ := a
              cases k with
              | true => exact itm rfl (yes (itm rfl (glo g_ROUND ⟨by decide, retP_here hrq⟩)))
              | false => exact itm rfl (no (retP_here hrq))
          · simp only [actK, hop, if_false] at hrq
            exact no (retP_here hrq)
        · simp only [knownRev, hd, if_false] at hrq
          exact ⟨[(st "value", .int v)], by exact SubF.le rfl ⟨rfl, trivial⟩, rfl, rfl, r, rfl, fun s hs => hrok s (.tail _ hs), hrq⟩
    · obtain ⟨rfl, rfl, r, hr, hrok, hrq⟩ := hI
      cases r with
      | nil => exact retP_here hrq
      | cons s r => cases hr
    · exact SubF.le rfl ⟨rfl, trivial⟩
end Mine

namespace Mine
set_option tactic.hygienic false
set_option genSizeOfSpec false
open PySem
set_option maxRecDepth 100000
set_option linter.unusedSimpArgs false
set_option linter.unusedVariables false
variable {d : Nat} {σ : AH} {Q : QV}
theorem nvs_ints (l : List Nat) : l.map nV = (l.map fun n : Nat => (n : Int)).map V.int := by simp [nV, Function.comp_def]
theorem count_nat (l : List Nat) (o : Nat) : (l.map fun n : Nat => (n : Int)).count (o : Int) = l.count o := by
  induction l with
  | nil => rfl
  | cons a l ih =>
    simp only [List.map_cons, List.count_cons, ih]
    congr 1
    by_cases h : a = o
    · subst h; simp
    · have : ¬ (a : Int) = (o : Int) := by lia
      simp [h, this]
theorem intsOf_map : ∀ bs : List Int, intsOf (bs.map V.int) = some bs
  | [] => rfl
  | b :: bs => by simp [intsOf, intsOf_map bs]
theorem intsOf_nat (l : List Nat) : intsOf (l.map nV) = some (l.map fun n : Nat => (n : Int)) := by rw [nvs_ints, intsOf_map]
noncomputable def settledN (steps : List Act) : En → Option Nat
  | .branch a t o => if t = o then some t else match known steps a with | none => none | some v => some (if v ≠ 0 then t else o)
  | .table a low lot o => if lot.count o = lot.length then some o else match known steps a with | none => none | some v => some ((lot[((v - low) % 4294967296).toNat]?).getD o)
  | _ => none
noncomputable def oN : Option Nat → V
  | some n => .int n
  | none => .int (-1)


theorem settled_branch_c {b : Addr} {B : Blk} {id line} {a : Arg} {t o : Nat} (h : σ b = some B.obj) (hok : ∀ s ∈ B.steps, ActOk s) (hq : Q (oN (settledN B.steps (.branch a t o))) σ) : calls G0 F0 (d + 2) 131 [.ref b, EnS.enc ⟨id, line, .branch a t o⟩] σ Q := by
  refine call_fn f_settled_branch rfl fun cl hcl => ?_
  simp only [settledN] at hq
  refine cnd_d (fun ht => ?_) (fun ht => ?_)
  · have ht' : t = o := by lia
    simp only [ht', if_true] at hq
    subst ht'
    exact retP_here hq
  · have ht' : ¬ t = o := by lia
    simp only [ht', if_false] at hq
    refine glo g_known_value (itm rfl (use hcl (known_value_c h hok ?_)))
    cases hk : known B.steps a with
    | none => simp only [hk] at hq; exact yes (retP_here hq)
    | some v =>
      simp only [hk] at hq
      refine no (cnd_n (fun hv => retP_here ?_) (fun hv => retP_here ?_))
      · have e : Q (oN (some (if v ≠ 0 then t else o))) σ := hq
        rw [if_pos hv] at e; exact e
      · have e : Q (oN (some (if v ≠ 0 then t else o))) σ := hq
        rw [if_neg (fun h => h hv)] at e; exact e

theorem settled_table_c {b : Addr} {B : Blk} {id line} {a : Arg} {low : Int} {lot : List Nat} {o : Nat} (h : σ b = some B.obj) (hok : ∀ s ∈ B.steps, ActOk s) (hq : Q (oN (settledN B.steps (.table a low lot o))) σ) : calls G0 F0 (d + 2) 138 [.ref b, EnS.enc ⟨id, line, .table a low lot o⟩] σ Q := by
  refine call_fn f_settled_table rfl fun cl hcl => ?_
  simp only [settledN] at hq
  refine opt (intsOf_nat lot) (glo g_len ?_)
  have e1 : ∀ P R, cnd (decide (lot.count o = lot.length)) P R → cnd (decide ((((lot.map fun n : Nat => (n : Int)).count (o : Int) : Nat) : Int) = ((lot.map nV).length : Nat))) P R := fun P R h => by
    rw [count_nat, List.length_map]
    have : decide (((lot.count o : Nat) : Int) = (lot.length : Nat)) = decide (lot.count o = lot.length) := by rw [decide_eq_decide]; lia
    rw [this]; exact h
  refine e1 _ _ (cnd_d (fun ht => ?_) (fun ht => ?_))
  · simp only [ht, if_true] at hq
    exact retP_here hq
  · simp only [ht, if_false] at hq
    refine glo g_known_value (itm rfl (use hcl (known_value_c h hok ?_)))
    cases hk : known B.steps a with
    | none => simp only [hk] at hq; exact yes (retP_here hq)
    | some v =>
      simp only [hk] at hq
      obtain ⟨k, hk1⟩ : ∃ k : Nat, (v - low) % 4294967296 = (k : Int) := ⟨((v - low) % 4294967296).toNat, by lia⟩
      rw [hk1] at hq
      simp only [Int.toNat_natCast] at hq
      have hk2 : V.int ((v - low) % 4294967296) = .int (k : Int) := by rw [hk1]
      refine no (glo g_ROUND ⟨by decide, glo g_len (cnd_d (fun hlt => ?_) (fun hlt => ?_))⟩)
      · rw [hk1] at hlt
        have hlt' : k < lot.length := by simp at hlt; lia
        have hg : idx (lot.map nV) ((v - low) % 4294967296) = some (.int (lot[k] : Nat)) := by rw [hk1, idx_nat]; simp [hlt', nV]
        refine itm hg (retP_here ?_)
        rw [List.getElem?_eq_getElem hlt'] at hq; exact hq
      · rw [hk1] at hlt
        have hlt' : ¬ k < lot.length := by simp at hlt; lia
        refine retP_here ?_
        rw [List.getElem?_eq_none (by lia)] at hq; exact hq

noncomputable def settledE (steps : List Act) (e : En) : En := match settledN steps e with
  | some n => .jump n
  | none => e


theorem settled_end_c {b : Addr} {B : Blk} {e : EnS} (h : σ b = some B.obj) (hok : ∀ s ∈ B.steps, ActOk s) (hq : ∀ id, Q (EnS.enc ⟨id, e.line, settledE B.steps e.e⟩) σ) : calls G0 F0 (d + 4) 145 [.ref b, e.enc] σ Q := by
  refine call_fn f_settled_end rfl fun cl hcl => ?_
  obtain ⟨id, line, e⟩ := e
  have none_ : settledN B.steps e = none → retP (EnS.enc ⟨id, line, e⟩) σ Q := fun hk => by
    simp only [settledE, hk] at hq; exact retP_here (hq id)
  have neg : ∀ {n : Nat} {P R : Prop}, R → cnd (decide ((n : Int) < 0)) P R := fun {n P R} h => cnd_f (by simp) h
  cases e with
  | jump g => exact no (no (none_ rfl))
  | give g => exact no (no (none_ rfl))
  | branch a t o =>
    refine yes (glo g_settled_branch (use hcl (settled_branch_c (id := id) (line := line) h hok ?_)))
    cases hk : settledN B.steps (.branch a t o) with
    | none => exact yes (none_ hk)
    | some n =>
      simp only [settledE, hk] at hq
      exact neg (glo g_in_place_of (newL (use hcl (in_place_of_c fun n => retP_here (hq n)))))
  | table a low lot o =>
    refine no (yes (glo g_settled_table (use hcl (settled_table_c (id := id) (line := line) h hok ?_))))
    cases hk : settledN B.steps (.table a low lot o) with
    | none => exact yes (none_ hk)
    | some n =>
      simp only [settledE, hk] at hq
      exact neg (glo g_in_place_of (newL (use hcl (in_place_of_c fun n => retP_here (hq n)))))
end Mine

namespace Mine
set_option tactic.hygienic false
set_option genSizeOfSpec false
open PySem
set_option maxRecDepth 100000
set_option linter.unusedSimpArgs false
set_option linter.unusedVariables false
variable {d : Nat} {σ : AH} {Q : QV}
structure FunAt (σ : AH) (f : Addr) (bs : List Addr) (S : List Blk) : Prop where
  fo : ∃ fs, σ f = some (.inst 73 fs) ∧ getL (Str.ofString "blocks") fs = some (.fl (bs.map V.ref)) ∧ fs.length < 50
  len : bs.length = S.length
  at' : ∀ (i : Nat) (b : Addr) (B : Blk), bs[i]? = some b → S[i]? = some B → σ b = some B.obj
  nd : bs.Nodup
  nf : f ∉ bs

noncomputable def putN (k v : Nat) : List (Nat × Nat) → List (Nat × Nat)
  | [] => [(k, v)]
  | (j, w) :: r => if k = j then (j, v) :: r else (j, w) :: putN k v r
theorem putD_enc {k v : Nat} : ∀ {ld : List (Nat × Nat)}, putD (k : Int) (.int (v : Nat)) (encD ld) = encD (putN k v ld)
  | [] => rfl
  | (j, w) :: r => by
    have ih := putD_enc (k := k) (v := v) (ld := r)
    simp only [encD, List.map_cons, putD, putN] at ih ⊢
    by_cases h : k = j
    · subst h; simp [nV]
    · have h1 : ¬ (k : Int) = (j : Int) := by lia
      simp only [h1, h, if_false, List.map_cons, ih]
theorem putN_length {k v : Nat} : ∀ {ld : List (Nat × Nat)}, (putN k v ld).length ≤ ld.length + 1
  | [] => by simp [putN]
  | (j, w) :: r => by
    have ih := putN_length (k := k) (v := v) (ld := r)
    simp only [putN]
    split
    · simp
    · simp; exact ih
theorem putN_lookup {k v g : Nat} : ∀ {ld : List (Nat × Nat)}, (putN k v ld).lookup g = if g = k then some v else ld.lookup g
  | [] => by
    simp only [putN, List.lookup_cons, List.lookup_nil]
    by_cases h : g = k
    · subst h; simp
    · have : (g == k) = false := by simpa using h
      simp [this, h]
  | (j, w) :: r => by
    have ih := putN_lookup (k := k) (v := v) (g := g) (ld := r)
    simp only [putN]
    by_cases hk : k = j
    · subst hk
      simp only [if_true, List.lookup_cons]
      by_cases h : g = k
      · subst h; simp
      · have : (g == k) = false := by simpa using h
        simp [this, h]
    · simp only [hk, if_false, List.lookup_cons, ih]
      by_cases h : g = j
      · subst h
        have : ¬ g = k := fun e => hk e.symm
        simp [this]
      · have : (g == j) = false := by simpa using h
        simp [this]
theorem encD_length {ld : List (Nat × Nat)} : (encD ld).length = ld.length := List.length_map ..

noncomputable def plainOf (B : Blk) : Option Nat := match B.en.e with
  | .jump g => if B.steps = [] ∧ g ≠ B.num then some g else none
  | _ => none
noncomputable def plainF (S : List Blk) (ld : List (Nat × Nat)) : List (Nat × Nat) := S.foldl (fun ld B => match plainOf B with | some g => putN B.num g ld | none => ld) ld
noncomputable def plainJ (S : List Blk) : List (Nat × Nat) := plainF S []
theorem plainF_length : ∀ {S : List Blk} {ld : List (Nat × Nat)}, (plainF S ld).length ≤ ld.length + S.length
  | [], ld => by simp [plainF]
  | B :: S, ld => by
    show (plainF S (match plainOf B with | some g => putN B.num g ld | none => ld)).length ≤ _
    have ih := @plainF_length S (match plainOf B with | some g => putN B.num g ld | none => ld)
    refine Nat.le_trans ih ?_
    cases plainOf B with
    | none => simp <;> lia
    | some g => have := @putN_length B.num g ld; simp <;> lia

theorem plain_jumps_c {f : Addr} {bs : List Addr} {S : List Blk} (h : FunAt σ f bs S) (hs : S.length < 1000) (hq : ∀ n, σ n = none → Q (.ref n) (put σ n (.dict (encD (plainJ S))))) : calls G0 F0 (d + 1) 152 [.ref f] σ Q := by
  refine call_fn f_plain_jumps rfl fun cl hcl => ?_
  obtain ⟨fs, hf, hb, _⟩ := h.fo
  refine ⟨List.nodup_nil, fun n hn => rd_ok (le_put hn _ _ hf) (fld hb ?_)⟩
  refine for_c hcl (qle_seq (monoX hcl) qle_fn) (fun vs τ m => ∃ k ld, vs = (bs.drop k).map V.ref ∧ τ = put σ n (.dict (encD ld)) ∧ m = [(st "found", .ref n)] ∧ plainF (S.drop k) ld = plainJ S ∧ ld.length ≤ k ∧ k ≤ bs.length) (fun v vs τ m hI => ?_) (fun τ m hI => ?_) _ [(st "found", .ref n)] _ _ ?_
    ⟨0, [], by simp, rfl, rfl, by simp [plainJ], by simp, by lia⟩
  · obtain ⟨k, ld, hvs, rfl, rfl, hp, hl, hk⟩ := hI
    have hk2 : k < bs.length := by
      rcases Nat.lt_or_ge k bs.length with h | h
      · exact h
      · rw [List.drop_of_length_le h] at hvs; cases hvs
    have hk3 : k < S.length := by rw [← h.len]; exact hk2
    rw [List.drop_eq_getElem_cons hk2, List.map_cons] at hvs
    obtain ⟨rfl, rfl⟩ := List.cons.inj hvs
    have hB : σ bs[k] = some (S[k].obj) := h.at' k _ _ (by simp [hk2]) (by simp [hk3])
    have hB' : ∀ o, put σ n o bs[k] = some (S[k].obj) := fun o => le_put hn _ _ hB
    rw [List.drop_eq_getElem_cons hk3] at hp
    clear hB
    generalize S[k] = B at hB' hp
    have hp : plainF (S.drop (k + 1)) (match plainOf B with | some g => putN B.num g ld | none => ld) = plainJ S := hp
    have el := @encD_length ld
    have hm : ∀ b, LeF [(st "found", .ref n)] [(st "found", .ref n), (st "block", b)] := fun b => SubF.le rfl ⟨rfl, trivial⟩
    obtain ⟨num, steps, id, line, e⟩ := B
    cases e with
    | jump g =>
      cases steps with
      | nil =>
        refine rd_ok (hB' _) <| fld rfl <| yes <| rd_ok (hB' _) <| fld rfl <| yes <| rd_ok (hB' _) <| fld rfl <| rd_ok (hB' _) <| fld rfl <| cnd_n (fun hg => ?_) fun hg => ?_
        · have hpo : plainOf ⟨num, [], id, line, .jump g⟩ = some g := by
            have hg : ¬ (g : Int) = (num : Int) := hg
            simp [plainOf]; lia
          rw [hpo] at hp
          refine rd_ok (hB' _) (fld rfl (rd_ok (hB' _) (fld rfl (rd_ok put_same (lt_ok (by simp [lineOf]; lia) ?_)))))
          rw [put_put]
          have e1 : putD (num : Int) (nV g) (encD ld) = encD (putN num g ld) := putD_enc
          exact ⟨_, hm _, k + 1, _, rfl, congrArg (fun x => put σ n (.dict x)) e1, rfl, hp, by have := @putN_length num g ld; lia, by lia⟩
        · have hg : (g : Int) = (num : Int) := hg
          exact ⟨_, hm _, k + 1, _, rfl, rfl, rfl, by simpa [plainOf, show g = num by lia] using hp, by lia, by lia⟩
      | cons s steps => exact rd_ok (hB' _) (fld rfl (yes (rd_ok (hB' _) (fld rfl (no (no ⟨_, hm _, k + 1, _, rfl, rfl, rfl, by simpa [plainOf] using hp, by lia, by lia⟩))))))
    | branch a t o => exact rd_ok (hB' _) (fld rfl (no (no ⟨_, hm _, k + 1, _, rfl, rfl, rfl, by simpa [plainOf] using hp, by lia, by lia⟩)))
    | table a low lot o => exact rd_ok (hB' _) (fld rfl (no (no ⟨_, hm _, k + 1, _, rfl, rfl, rfl, by simpa [plainOf] using hp, by lia, by lia⟩)))
    | give a => exact rd_ok (hB' _) (fld rfl (no (no ⟨_, hm _, k + 1, _, rfl, rfl, rfl, by simpa [plainOf] using hp, by lia, by lia⟩)))
  · obtain ⟨k, ld, hvs, rfl, rfl, hp, hl, hk⟩ := hI
    have hk2 : bs.length ≤ k := by
      rcases Nat.lt_or_ge k bs.length with h | h
      · rw [List.drop_eq_getElem_cons h] at hvs; cases hvs
      · exact h
    have hp : ld = plainJ S := by rw [List.drop_of_length_le (by rw [← h.len]; exact hk2)] at hp; exact hp
    subst hp
    exact retP_here (hq n hn)
  · exact SubF.le rfl ⟨rfl, trivial⟩
end Mine

namespace Mine
set_option tactic.hygienic false
set_option genSizeOfSpec false
open PySem
set_option maxRecDepth 100000
set_option linter.unusedSimpArgs false
set_option linter.unusedVariables false
variable {d : Nat} {σ : AH} {Q : QV}
theorem nodup_lt_length : ∀ (N : Nat) (xs : List Nat), xs.Nodup → (∀ x ∈ xs, x < N) → xs.length ≤ N
  | 0, xs, _, h => by
    cases xs with
    | nil => simp
    | cons x xs => exact absurd (h x (.head _)) (Nat.not_lt_zero _)
  | N + 1, xs, nd, h => by
    by_cases hm : N ∈ xs
    · have h1 := nodup_lt_length N (xs.erase N) (nd.erase _) fun x hx => by
        have h2 := (List.Nodup.mem_erase_iff nd).mp hx
        have h3 := h x h2.2
        have := h2.1
        lia
      rw [List.length_erase_of_mem hm] at h1
      lia
    · have h1 := nodup_lt_length N xs nd fun x hx => by
        have h3 := h x hx
        have : x ≠ N := by rintro rfl; exact hm hx
        lia
      lia

inductive PathL (jd : List (Nat × Nat)) (n : Nat) : List Nat → Nat → Prop
  | one : PathL jd n [n] n
  | snoc {xs g h} : PathL jd n xs g → jd.lookup g = some h → h ∉ xs → PathL jd n (xs ++ [h]) h
noncomputable def LastG (jd : List (Nat × Nat)) (n g : Nat) : Prop := ∃ xs, PathL jd n xs g ∧ (jd.lookup g = none ∨ ∃ h ∈ xs, jd.lookup g = some h)
theorem PathL.nodup {jd : List (Nat × Nat)} {n g : Nat} {xs : List Nat} (h : PathL jd n xs g) : xs.Nodup := by
  induction h with
  | one => simp
  | snoc _ _ hn ih => exact List.nodup_append.mpr ⟨ih, by simp, fun a ha b hb => by simp at hb; subst hb; rintro rfl; exact hn ha⟩
theorem PathL.lt {jd : List (Nat × Nat)} {n g N : Nat} {xs : List Nat} (hn : n < N) (hj : ∀ a b, jd.lookup a = some b → b < N) (h : PathL jd n xs g) : (∀ x ∈ xs, x < N) ∧ g < N := by
  induction h with
  | one => simpa using hn
  | snoc _ hl _ ih =>
    refine ⟨fun x hx => ?_, hj _ _ hl⟩
    rcases List.mem_append.mp hx with hx | hx
    · exact ih.1 x hx
    · simp at hx; subst hx; exact hj _ _ hl

theorem mem_ints {h : Nat} {xs : List Nat} : ((h : Int) ∈ xs.map fun n : Nat => (n : Int)) ↔ h ∈ xs := by
  simp only [List.mem_map]
  constructor
  · rintro ⟨a, ha, e⟩
    have : a = h := by lia
    exact this ▸ ha
  · exact fun hm => ⟨h, hm, rfl⟩

theorem last_goal_c {j : Addr} {jd : List (Nat × Nat)} {n0 N : Nat} (hj : σ j = some (.dict (encD jd))) (hn0 : n0 < N) (hN : N < 900) (hjN : ∀ a b, jd.lookup a = some b → b < N)
    (hq : ∀ g, LastG jd n0 g → Q (.int (g : Nat)) σ) : calls G0 F0 (d + 1) 159 [.ref j, .int (n0 : Nat)] σ Q := by
  refine call_fn f_last_goal rfl fun cl hcl => ?_
  intro n hn
  have jn : ∀ o, put σ n o j = some (.dict (encD jd)) := fun o => le_put hn _ _ hj
  have hge : ∀ {g : Nat} {o : Option Nat}, jd.lookup g = o → getD (g : Int) (encD jd) = o.map nV := fun {g o} h => h ▸ getD_enc
  have hgs : ∀ {g : Nat} {b : Bool} {P R : Prop}, (jd.lookup g).isSome = b → cnd b P R → cnd (getD (g : Int) (encD jd)).isSome P R := fun {g b P R} h k => by
    rw [getD_enc, Option.isSome_map, h]; exact k
  refine while_c hcl (qle_seq (monoX hcl) qle_fn) (fun (x : List Nat × Nat) τ m => τ = put σ n (.set (x.1.map fun n : Nat => (n : Int))) ∧ m = [(st "jumps", .ref j), (st "goal", .int (x.2 : Nat)), (st "seen", .ref n)] ∧ PathL jd n0 x.1 x.2)
    (fun x => N + 1 - x.1.length) (fun x τ m hI => ?_) ([n0], n0) [(st "jumps", .ref j), (st "goal", .int (n0 : Nat)), (st "seen", .ref n)] ?_ ⟨rfl, rfl, .one⟩
  · obtain ⟨xs, g⟩ := x
    obtain ⟨rfl, rfl, hp⟩ := hI
    simp only at hp ⊢
    have hlen := nodup_lt_length N xs hp.nodup (hp.lt hn0 hjN).1
    refine in_dict (jn _) ?_
    cases hl : jd.lookup g with
    | none => exact hgs (congrArg _ hl) (no (no (retP_drop (le_put hn) (hq g ⟨xs, hp, .inl hl⟩))))
    | some h =>
      refine hgs (congrArg _ hl) (yes (rd_ok (jn _) (itm (hge hl) ?_)))
      refine in_set put_same (cnd_n (fun hm => ?_) fun hm => ?_)
      · have hm : ¬ h ∈ xs := fun e => hm (mem_ints.mpr e)
        refine rd_ok (jn _) (itm (hge hl) (rd_ok put_same (rd_ok put_same (lt_ok ?_ ?_))))
        · simp; lia
        · rw [put_put]
          exact ⟨_, by exact SubF.le rfl ⟨rfl, rfl, rfl, trivial⟩, (xs ++ [h], h), _, le_refl', by simp; lia, by simp [mem_ints, hm], rfl, .snoc hp hl hm⟩
      · have hm : h ∈ xs := mem_ints.mp hm
        exact (retP_drop (le_put hn) (hq g ⟨xs, hp, .inr ⟨h, hm, hl⟩⟩))
  · exact SubF.le rfl ⟨rfl, rfl, rfl, trivial⟩
end Mine

namespace Mine
set_option tactic.hygienic false
set_option genSizeOfSpec false
open PySem
set_option maxRecDepth 100000
set_option linter.unusedSimpArgs false
set_option linter.unusedVariables false
variable {d : Nat} {σ : AH} {Q : QV}
theorem lookup_some_mem {jd : List (Nat × Nat)} {g : Nat} : (jd.lookup g).isSome = true ↔ g ∈ jd.map (·.1) := by
  induction jd with
  | nil => simp
  | cons p jd ih =>
    obtain ⟨a, b⟩ := p
    simp only [List.lookup_cons, List.map_cons, List.mem_cons]
    by_cases h : g = a
    · subst h; simp
    · have : (g == a) = false := by simpa using h
      simp only [this, h, false_or]; exact ih

theorem sorted_nats (l : List Nat) : ∃ r : List Nat, sortI (l.map fun n : Nat => (n : Int)) = r.map (fun n : Nat => (n : Int)) ∧ r.Perm l ∧ r.Pairwise (· ≤ ·) := by
  have hp : (sortI (l.map fun n : Nat => (n : Int))).Perm (l.map fun n : Nat => (n : Int)) := List.mergeSort_perm _ _
  have hs : (sortI (l.map fun n : Nat => (n : Int))).Pairwise (· ≤ ·) := by
    have := List.pairwise_mergeSort (le := fun a b : Int => decide (a ≤ b)) (fun a b c h1 h2 => by simp at *; lia) (fun a b => by simp; lia) (l.map fun n : Nat => (n : Int))
    simpa [sortI] using this
  generalize sortI (l.map fun n : Nat => (n : Int)) = s at hp hs
  have he : s = (s.map Int.toNat).map fun n : Nat => (n : Int) := by
    rw [List.map_map]
    refine ((List.map_congr_left fun i hi => ?_).trans (List.map_id _)).symm
    obtain ⟨n, _, rfl⟩ := List.mem_map.mp (hp.mem_iff.mp hi)
    simp
  refine ⟨s.map Int.toNat, he, ?_, ?_⟩
  · have := hp.map Int.toNat
    rw [List.map_map] at this
    refine this.trans (List.Perm.of_eq ?_)
    exact (List.map_congr_left fun n hn => by simp).trans (List.map_id _)
  · rw [List.pairwise_map]
    exact hs.imp fun h => by lia

noncomputable def ThreadsOk (jd fd : List (Nat × Nat)) : Prop := ∀ g, match fd.lookup g with | none => jd.lookup g = none | some x => (jd.lookup g).isSome = true ∧ LastG jd g x

theorem threads_c {f : Addr} {bs : List Addr} {S : List Blk} {N : Nat} (h : FunAt σ f bs S) (hs : S.length < 64) (hN : N < 900) (hj : ∀ a b, (plainJ S).lookup a = some b → a < N ∧ b < N)
    (hq : ∀ n fd, σ n = none → ThreadsOk (plainJ S) fd → Q (.ref n) (put σ n (.dict (encD fd)))) : calls G0 F0 (d + 2) 166 [.ref f] σ Q := by
  refine call_fn f_threads rfl fun cl hcl => ?_
  refine glo g_plain_jumps (use hcl (plain_jumps_c h (by lia) fun j hσj => ?_))
  generalize hjd : plainJ S = jd at *
  have hlj : jd.length ≤ S.length := by rw [← hjd]; have := @plainF_length S []; simpa [plainJ] using this
  refine ⟨List.nodup_nil, fun n hn => ?_⟩
  have njσ : σ n = none ∧ n ≠ j := by
    by_cases e : n = j
    · subst e; simp [put_same] at hn
    · exact ⟨by rw [put_ne e] at hn; exact hn, e⟩
  have jn : ∀ o, put (put σ j (.dict (encD jd))) n o j = some (.dict (encD jd)) := fun o => le_put hn _ _ put_same
  obtain ⟨r, hr, hperm, _⟩ := sorted_nats (jd.map (·.1))
  have hr2 : (sortI ((encD jd).map (·.1))).map V.int = (r.map fun n : Nat => (n : Int)).map V.int := by
    rw [← hr]; congr 2; simp [encD, Function.comp_def]
  have rl : r.length ≤ S.length := by have := hperm.length_eq; simp at this; lia
  refine glo g_sorted (glo g_sorted (rd_ok (jn _) (lt_ok (by have := @encD_length jd; lia) ?_)))
  refine for_c hcl (qle_seq (monoX hcl) qle_fn) (fun vs τ m => ∃ r fd, vs = (r.map fun n : Nat => (n : Int)).map V.int ∧ τ = put (put σ j (.dict (encD jd))) n (.dict (encD fd)) ∧ m = [(st "jumps", .ref j), (st "found", .ref n)] ∧
      (∀ g ∈ r, (jd.lookup g).isSome = true) ∧ (∀ g x, fd.lookup g = some x → (jd.lookup g).isSome = true ∧ LastG jd g x) ∧ (∀ g, (jd.lookup g).isSome = true → g ∉ r → (fd.lookup g).isSome = true) ∧ fd.length + r.length ≤ S.length) (fun v vs τ m hI => ?_) (fun τ m hI => ?_) _ [(st "jumps", .ref j), (st "found", .ref n)] _ _ ?_
    ⟨r, [], hr2, rfl, rfl, fun g hg => lookup_some_mem.mpr (hperm.mem_iff.mp hg), fun g x e => by simp at e, fun g hg hn => absurd (hperm.mem_iff.mpr (lookup_some_mem.mp hg)) hn, by simpa using rl⟩
  · obtain ⟨r, fd, hvs, rfl, rfl, c1, c2, c3, c4⟩ := hI
    cases r with
    | nil => cases hvs
    | cons k r =>
      simp only [List.map_cons] at hvs
      obtain ⟨rfl, rfl⟩ := List.cons.inj hvs
      have hk := c1 k (.head _)
      obtain ⟨b, hb⟩ := Option.isSome_iff_exists.mp hk
      have elf := @encD_length fd
      have hlo : lineOf = 16777216 := rfl
      refine glo g_last_goal (use hcl (last_goal_c (N := N) (jn _) (hj k b hb).1 hN (fun a b h => (hj a b h).2) fun x hx => ?_))
      refine rd_ok put_same (lt_ok (by simp at c4; lia) ?_)
      rw [put_put]
      refine ⟨_, ?_, r, putN k x fd, rfl, congrArg (fun x => put _ n (.dict x)) putD_enc, rfl, fun g hg => c1 g (.tail _ hg), fun g y e => ?_, fun g hg hn => ?_, by have := @putN_length k x fd; simp at c4; lia⟩
      · exact SubF.le rfl ⟨rfl, rfl, trivial⟩
      · rw [putN_lookup] at e
        split at e
        · rename_i q; cases e; subst q; exact ⟨hk, hx⟩
        · exact c2 g y e
      · rw [putN_lookup]
        split
        · rfl
        · rename_i q; exact c3 g hg (by simp [q, hn])
  · obtain ⟨r, fd, hvs, rfl, rfl, c1, c2, c3, c4⟩ := hI
    cases r with
    | cons k r => cases hvs
    | nil =>
      refine retP_drop (τ := put σ n (.dict (encD fd))) (fun a v e => ?_) (hq n fd njσ.1 fun g => ?_)
      · by_cases q : a = n
        · subst q; rw [put_same] at e ⊢; exact e
        · rw [put_ne q] at e ⊢
          have : a ≠ j := by rintro rfl; rw [hσj] at e; cases e
          rw [put_ne this]; exact e
      · cases e : fd.lookup g with
        | some x => exact c2 g x e
        | none =>
          cases e2 : jd.lookup g with
          | none => rfl
          | some y => have := c3 g (by rw [e2]; rfl) (by simp); rw [e] at this; cases this
  · exact SubF.le rfl ⟨rfl, rfl, trivial⟩
end Mine

namespace Mine
set_option tactic.hygienic false
set_option genSizeOfSpec false
open PySem
set_option maxRecDepth 100000
set_option linter.unusedSimpArgs false
set_option linter.unusedVariables false
variable {d : Nat} {σ : AH} {Q : QV}
theorem ledE_id {fd : List (Nat × Nat)} {e : En} (h : ∀ g ∈ e.goals, fd.lookup g = none) : ledE fd e = e := by
  have l : ∀ g, fd.lookup g = none → lg fd g = g := fun g hg => by simp [lg, hg]
  cases e with
  | jump g => simp [ledE, l g (h g (by simp [En.goals]))]
  | branch a t o => simp [ledE, l t (h t (by simp [En.goals])), l o (h o (by simp [En.goals]))]
  | table a low lot o =>
    simp only [ledE, l o (h o (by simp [En.goals]))]
    congr 1
    exact (List.map_congr_left fun g hg => l g (h g (by simp [En.goals, hg]))).trans (List.map_id _)
  | give a => rfl
theorem en_of_same {e e' : En} {l l' : Int} {a a' b b' : Bool} (h : sameFs (stepFs e.op (-1) e.args e.more a l) (stepFs e'.op (-1) e'.args e'.more b l')) : e = e' := by
  have hop : e.op = e'.op := by
    have := h (Str.ofString "op") (.str e.op) (.str e'.op) (.str e.op) (.str e'.op) (by simp [stepFs, getL]) (by simp [stepFs, getL]) (by simp [V.data]) (by simp [V.data])
    simpa using this
  have harg : e.args = e'.args := by
    have := h (Str.ofString "args") (.fl (e.args.map Arg.enc)) (.fl (e'.args.map Arg.enc)) (.list (e.args.map Arg.data)) (.list (e'.args.map Arg.data)) (by simp [stepFs, getL, ofString_inj]) (by simp [stepFs, getL, ofString_inj]) (by simp [V.data, args_data]) (by simp [V.data, args_data])
    have h2 : e.args.map Arg.data = e'.args.map Arg.data := by simpa using this
    have h3 := args_eqv e.args e'.args
    rw [h2] at h3
    have h4 := args_eqv e'.args e'.args
    simp only [decide_true] at h4
    rw [h4] at h3
    simpa using h3.symm
  have hmore : e.mdata = e'.mdata := h (Str.ofString "more") e.more e'.more _ _ (by simp [stepFs, getL, ofString_inj]) (by simp [stepFs, getL, ofString_inj]) e.more_data e'.more_data
  have ci : ∀ x y : Nat, (x : Int) = (y : Int) → x = y := fun x y h => by lia
  cases e with
  | jump g =>
    cases e' <;> simp [En.op, ofString_inj] at hop
    simp [En.mdata] at hmore
    rw [ci _ _ hmore]
  | branch x t o =>
    cases e' <;> simp [En.op, ofString_inj] at hop
    simp [En.args] at harg
    simp [En.mdata] at hmore
    rw [harg, ci _ _ hmore.1, ci _ _ hmore.2]
  | table x low lot o =>
    cases e' <;> simp [En.op, ofString_inj] at hop
    simp [En.args] at harg
    simp only [En.mdata, PyData.tuple.injEq, List.cons.injEq, PyData.int.injEq, PyData.list.injEq, and_true] at hmore
    have h2 := (List.map_inj_right (f := fun n : Nat => PyData.int (n : Int)) (fun x y h => ci _ _ (by simpa using h))).mp hmore.2.1
    rw [harg, hmore.1, h2, ci _ _ hmore.2.2]
  | give x =>
    cases e' <;> simp [En.op, ofString_inj] at hop
    simp [En.args] at harg
    rw [harg]

theorem cm_isnot_enc {e e' : EnS} {KB : Bool → Prop} (h : ∀ r : Bool, (r = true → e.e = e'.e) → KB (!r)) : cmpP .IsNot e.enc e'.enc σ KB :=
  fun r hr => h r fun q => en_of_same (a' := false) (b' := false) (hr q)
theorem nodup_inj {α : Type} {xs : List α} (nd : xs.Nodup) {i j : Nat} {a : α} (hi : xs[i]? = some a) (hj : xs[j]? = some a) : i = j := by
  obtain ⟨l1, e1⟩ := List.getElem?_eq_some_iff.mp hi
  obtain ⟨l2, e2⟩ := List.getElem?_eq_some_iff.mp hj
  have := List.pairwise_iff_getElem.mp nd
  rcases Nat.lt_trichotomy i j with h | h | h
  · exact absurd (e1.trans e2.symm) (this i j l1 l2 h)
  · exact h
  · exact absurd (e2.trans e1.symm) (this j i l2 l1 h)

theorem FunAt.set {f : Addr} {bs : List Addr} {S : List Blk} (h : FunAt σ f bs S) {k : Nat} {b : Addr} (hb : bs[k]? = some b) (B : Blk) : FunAt (put σ b B.obj) f bs (S.set k B) where
  fo := by
    obtain ⟨fs, a, c⟩ := h.fo
    refine ⟨fs, ?_, c⟩
    rw [put_ne]; exact a
    rintro rfl; exact h.nf (List.mem_of_getElem? hb)
  len := by rw [List.length_set]; exact h.len
  at' i c C hc hC := by
    rw [List.getElem?_set] at hC
    by_cases q : k = i
    · subst q
      rw [hb] at hc; cases hc
      rw [if_pos rfl] at hC
      split at hC
      · cases hC; exact put_same
      · cases hC
    · rw [if_neg q] at hC
      have : c ≠ b := by
        rintro rfl
        exact q (nodup_inj h.nd hb hc)
      rw [put_ne this]; exact h.at' i c C hc hC
  nd := h.nd
  nf := h.nf
theorem FunAt.mono {f : Addr} {bs : List Addr} {S : List Blk} {τ : AH} (h : FunAt σ f bs S) (k : ∀ a o, σ a = some o → τ a = some o) : FunAt τ f bs S where
  fo := by obtain ⟨fs, a, c⟩ := h.fo; exact ⟨fs, k _ _ a, c⟩
  len := h.len
  at' i b B hb hB := k _ _ (h.at' i b B hb hB)
  nd := h.nd
  nf := h.nf
theorem FunAt.alive {f : Addr} {bs : List Addr} {S : List Blk} (h : FunAt σ f bs S) {b : Addr} (hb : b ∈ bs) : ∃ o, σ b = some o := by
  obtain ⟨i, hi, rfl⟩ := List.mem_iff_getElem.mp hb
  have hi2 : i < S.length := by rw [← h.len]; exact hi
  exact ⟨_, h.at' i _ S[i] (by simp [hi]) (by simp [hi2])⟩
theorem FunAt.get {f : Addr} {bs : List Addr} {S : List Blk} (h : FunAt σ f bs S) {k : Nat} {B : Blk} (hB : S[k]? = some B) : ∃ b, bs[k]? = some b ∧ σ b = some B.obj := by
  have hk := (List.getElem?_eq_some_iff.mp hB).1
  have hk2 : k < bs.length := by rw [h.len]; exact hk
  exact ⟨bs[k], by simp [hk2], h.at' k _ B (by simp [hk2]) hB⟩

noncomputable def endsE (fd : List (Nat × Nat)) (B : Blk) : En := settledE B.steps (ledE fd B.en.e)
structure BlkOk (B : Blk) : Prop where
  steps : ∀ s ∈ B.steps, ActOk s
  goals : B.en.e.goals.length ≤ 50

/-- What the pass over the ends makes of a row of blocks. -/
noncomputable def EndsRel (fd : List (Nat × Nat)) (S S' : List Blk) (b : Bool) : Prop :=
  S'.length = S.length ∧ (∀ (i : Nat) (B : Blk), S[i]? = some B → ∃ B' : Blk, S'[i]? = some B' ∧ B'.num = B.num ∧ B'.steps = B.steps ∧ B'.en.e = endsE fd B) ∧ (b = true ↔ ∃ (i : Nat) (B : Blk), S[i]? = some B ∧ endsE fd B ≠ B.en.e)


noncomputable def EndsI (f n : Addr) (bs : List Addr) (fd : List (Nat × Nat)) (S : List Blk) (vs : List V) (τ : AH) (m : Lo) : Prop :=
  ∃ k S' b, vs = (bs.drop k).map V.ref ∧ k ≤ bs.length ∧ FunAt τ f bs S' ∧ τ n = some (.dict (encD fd)) ∧ m = [(st "lead", .ref n), (st "is_changed", .bool b)] ∧
      S'.length = S.length ∧ (∀ (i : Nat) (B : Blk), S[i]? = some B → if i < k then ∃ B' : Blk, S'[i]? = some B' ∧ B'.num = B.num ∧ B'.steps = B.steps ∧ B'.en.e = endsE fd B else S'[i]? = some B) ∧
      (b = true ↔ ∃ (i : Nat) (B : Blk), i < k ∧ S[i]? = some B ∧ endsE fd B ≠ B.en.e)
theorem straighten_ends_c {f : Addr} {bs : List Addr} {S : List Blk} {N : Nat} (h : FunAt σ f bs S) (hs : S.length < 64) (hN : N < 900) (hj : ∀ a b, (plainJ S).lookup a = some b → a < N ∧ b < N) (hok : ∀ B ∈ S, BlkOk B)
    (hq : ∀ σ' S' fd b, FunAt σ' f bs S' → ThreadsOk (plainJ S) fd → EndsRel fd S S' b → Q (.bool b) σ') : calls G0 F0 (d + 6) 171 [.ref f] σ Q := by
  refine call_fn f_straighten_ends rfl fun cl hcl => ?_
  refine glo g_threads (use hcl (threads_c h hs hN hj fun n fd hn hfd => ?_))
  obtain ⟨fs, hf, hb, _⟩ := h.fo
  have hF : FunAt (put σ n (.dict (encD fd))) f bs S := h.mono (le_put hn)
  have hfn : put σ n (.dict (encD fd)) f = some (.inst 73 fs) := le_put hn _ _ hf
  have nb : n ∉ bs := fun e => by obtain ⟨o, ho⟩ := h.alive e; rw [hn] at ho; cases ho
  refine rd_ok hfn (fld hb ?_)
  refine for_c hcl (qle_seq (monoX hcl) qle_fn) (EndsI f n bs fd S) (fun v vs τ m hI => ?_) (fun τ m hI => ?_) _ [(st "lead", .ref n), (st "is_changed", .bool false)] _ _ ?_
    ⟨0, S, false, by simp, by lia, hF, put_same, rfl, rfl, fun i B e => by simp [e], by simp⟩
  · obtain ⟨k, S', b, hvs, hk, hF', hτn, rfl, l1, c1, c2⟩ := hI
    have hk2 : k < bs.length := by
      rcases Nat.lt_or_ge k bs.length with h | h
      · exact h
      · rw [List.drop_of_length_le h] at hvs; cases hvs
    have hk3 : k < S.length := by rw [← h.len]; exact hk2
    rw [List.drop_eq_getElem_cons hk2, List.map_cons] at hvs
    obtain ⟨rfl, rfl⟩ := List.cons.inj hvs
    have hbk : bs[k]? = some bs[k] := by simp [hk2]
    generalize bs[k] = a at hbk ⊢
    have hSk : S[k]? = some S[k] := by simp [hk3]
    have hBok := hok S[k] (List.getElem_mem hk3)
    generalize S[k] = B at hSk hBok
    have hS'k : S'[k]? = some B := by have := c1 k B hSk; rwa [if_neg (Nat.lt_irrefl k)] at this
    have hτa : τ a = some B.obj := hF'.at' k a B hbk hS'k
    have hokS := hBok.steps
    have hgl := hBok.goals
    have stay : endsE fd B = B.en.e → EndsI f n bs fd S ((bs.drop (k + 1)).map V.ref) τ [(st "lead", .ref n), (st "is_changed", .bool b)] := fun he => ⟨k + 1, S', b, rfl, by lia, hF', hτn, rfl, l1, fun i C hC => by
      have := c1 i C hC
      by_cases q : i = k
      · subst q
        rw [hSk] at hC; cases hC
        rw [if_pos (Nat.lt_succ_self _)]
        exact ⟨B, hS'k, rfl, rfl, he.symm⟩
      · by_cases q2 : i < k
        · rw [if_pos q2] at this; rw [if_pos (by lia)]; exact this
        · rw [if_neg q2] at this; rw [if_neg (by lia)]; exact this, c2.trans ⟨fun ⟨i, C, x, y⟩ => ⟨i, C, by lia, y⟩, fun ⟨i, C, x, y, z⟩ => by
          by_cases q : i = k
          · subst q; rw [hSk] at y; cases y; exact absurd he z
          · exact ⟨i, C, by lia, y, z⟩⟩⟩
    have move : endsE fd B ≠ B.en.e → ∀ (en : EnS), en.e = endsE fd B → EndsI f n bs fd S ((bs.drop (k + 1)).map V.ref) (put τ a (Blk.obj ⟨B.num, B.steps, en⟩)) [(st "lead", .ref n), (st "is_changed", .bool true)] := fun he en hen => ⟨k + 1, S'.set k ⟨B.num, B.steps, en⟩, true, rfl, by lia, hF'.set hbk _, by
        rw [put_ne]; exact hτn
        rintro rfl; exact nb (List.mem_of_getElem? hbk), rfl, by rw [List.length_set]; exact l1, fun i C hC => by
      have := c1 i C hC
      rw [List.getElem?_set]
      by_cases q : i = k
      · subst q
        rw [hSk] at hC; cases hC
        rw [if_pos (Nat.lt_succ_self _), if_pos rfl, if_pos (by rw [l1]; exact hk3)]
        exact ⟨_, rfl, rfl, rfl, hen⟩
      · rw [if_neg (Ne.symm q)]
        by_cases q2 : i < k
        · rw [if_pos q2] at this; rw [if_pos (by lia)]; exact this
        · rw [if_neg q2] at this; rw [if_neg (by lia)]; exact this, ⟨fun zz => ⟨k, B, by lia, hSk, he⟩, fun zz => rfl⟩⟩
    obtain ⟨num, steps, en⟩ := B
    simp only at hokS hgl
    refine cut hcl (qle_loop (qle_seq (monoX hcl) qle_fn)) 2 (fun τ' m => τ' = τ ∧ ∃ e1 : EnS, e1.e = ledE fd en.e ∧ m = [(st "lead", .ref n), (st "is_changed", .bool b), (st "block", .ref a), (st "end", e1.enc)]) ?_ fun τ' m ⟨e0, e1, he1, e2⟩ => ?_
    case' refine_2 =>
      subst e0 e2
      refine glo g_settled_end (use hcl (settled_end_c (e := e1) hτa hokS fun id2 => ?_))
      rw [he1]
      have hen : settledE steps (ledE fd en.e) = endsE fd ⟨num, steps, en⟩ := rfl
      refine rd_ok hτa (fld rfl (cm_isnot_enc (e := ⟨id2, e1.line, settledE steps (ledE fd en.e)⟩) (e' := en) fun r hr => ?_))
      cases r with
      | true => exact no (no ⟨_, by exact SubF.le rfl ⟨rfl, rfl, trivial⟩, stay (hen ▸ hr rfl)⟩)
      | false =>
        refine yes (glo g_same_end (rd_ok hτa (fld rfl (use hcl (same_end_c (e := ⟨id2, e1.line, settledE steps (ledE fd en.e)⟩) (e' := en) (cnd_n (fun hs => ?_) fun hs => ?_))))))
        · exact rd_ok hτa ⟨_, by exact SubF.le rfl ⟨rfl, rfl, trivial⟩, move hs ⟨id2, e1.line, settledE steps (ledE fd en.e)⟩ rfl⟩
        · exact ⟨_, by exact SubF.le rfl ⟨rfl, rfl, trivial⟩, stay hs⟩
    have hge : ∀ g : Nat, getD (g : Int) (encD fd) = (fd.lookup g).map nV := fun g => getD_enc
    refine rd_ok hτa (fld rfl (rd_ok hτn (cnd_b (fun he => ?_) fun he => ?_)))
    · refine glo g_any ⟨rfl, glo g_followers (glo g_followers (use hcl (followers_c hτa (by show en.e.goals.length ≤ 100; lia) ?_)))⟩
      refine comp_by (fun v => match v with | .int i => .bool (getD i (encD fd)).isSome | v => v) _ _ (fun v hv K hK => ?_) (newL ?_)
      · obtain ⟨g, _, rfl⟩ := List.mem_map.mp hv
        exact in_dict hτn hK
      · have hb : [] ++ (en.e.goals.map nV).map (fun v => match v with | .int i => V.bool (getD i (encD fd)).isSome | v => v) = (en.e.goals.map fun g => (fd.lookup g).isSome).map V.bool := by
          simp [nV, hge]
        refine opt (v := en.e.goals.map fun g => (fd.lookup g).isSome) ((congrArg boolsOf hb).trans (boolsOf_map _)) (cnd_b (fun hany => ?_) fun hany => ?_)
        · exact glo g_led_end (use hcl (led_end_c (e := en) hτn (by lia) fun id1 => ⟨_, by exact SubF.le rfl ⟨rfl, rfl, rfl, rfl, trivial⟩, rfl, ⟨id1, en.line, ledE fd en.e⟩, rfl, rfl⟩))
        · refine ⟨_, ?_, rfl, en, (ledE_id fun g hg => ?_).symm, rfl⟩
          exact SubF.le rfl ⟨rfl, rfl, rfl, rfl, trivial⟩
          cases e : fd.lookup g with
          | none => rfl
          | some x =>
            exfalso
            have : ((en.e.goals.map fun g => (fd.lookup g).isSome).any id) = true := List.any_eq_true.mpr ⟨true, List.mem_map.mpr ⟨g, hg, by simp [e]⟩, rfl⟩
            rw [this] at hany; cases hany
    · refine no ⟨_, ?_, rfl, en, (ledE_id fun g hg => ?_).symm, rfl⟩
      exact SubF.le rfl ⟨rfl, rfl, rfl, rfl, trivial⟩
      cases fd with
      | nil => rfl
      | cons p q => cases he
  · obtain ⟨k, S', b, hvs, hk, hF', hτn, rfl, l1, c1, c2⟩ := hI
    have hk2 : bs.length ≤ k := by
      rcases Nat.lt_or_ge k bs.length with h | h
      · rw [List.drop_eq_getElem_cons h] at hvs; cases hvs
      · exact h
    have hkS : ∀ (i : Nat) (B : Blk), S[i]? = some B → i < k := fun i B e => by
      have := (List.getElem?_eq_some_iff.mp e).1
      rw [← h.len] at this; lia
    refine retP_here (hq _ S' fd b hF' hfd ⟨l1, fun i B e => ?_, c2.trans ⟨fun ⟨i, B, _, x⟩ => ⟨i, B, x⟩, fun ⟨i, B, e, x⟩ => ⟨i, B, hkS i B e, e, x⟩⟩⟩)
    have := c1 i B e
    rw [if_pos (hkS i B e)] at this
    exact this
  · exact SubF.le rfl ⟨rfl, rfl, trivial⟩
end Mine

namespace Mine
set_option tactic.hygienic false
set_option genSizeOfSpec false
open PySem
set_option maxRecDepth 100000
set_option linter.unusedSimpArgs false
set_option linter.unusedVariables false
variable {d : Nat} {σ : AH} {Q : QV}
noncomputable def gl (S : List Blk) (i : Nat) : List Nat := match S[i]? with | some B => B.en.e.goals | none => []
inductive Rch (S : List Blk) : Nat → Prop
  | zero : Rch S 0
  | step {i g} : Rch S i → g ∈ gl S i → Rch S g
structure RowOk (S : List Blk) (row : List Nat) : Prop where
  nd : row.Nodup
  zero : 0 ∈ row
  lt : ∀ x ∈ row, x < S.length
  closed : ∀ x ∈ row, ∀ g ∈ gl S x, g ∈ row
  rch : ∀ x ∈ row, Rch S x
structure PO (S : List Blk) (es : List (Nat × Nat)) (seen fnd : List Nat) : Prop where
  nd : seen.Nodup
  zero : 0 ∈ seen
  lt : ∀ x ∈ seen, x < S.length
  rch : ∀ x ∈ seen, Rch S x
  perm : (es.map (·.1) ++ fnd).Perm seen
  fc : ∀ x ∈ fnd, ∀ g ∈ gl S x, g ∈ seen
  ec : ∀ e ∈ es, e.2 ≤ (gl S e.1).length ∧ ∀ j g, j < e.2 → (gl S e.1)[j]? = some g → g ∈ seen
theorem PO.done {S : List Blk} {seen fnd : List Nat} (h : PO S [] seen fnd) : RowOk S fnd where
  nd := (h.perm.nodup_iff).mpr h.nd
  zero := h.perm.mem_iff.mpr h.zero
  lt x hx := h.lt x (h.perm.mem_iff.mp hx)
  closed x hx g hg := h.perm.mem_iff.mpr (h.fc x hx g hg)
  rch x hx := h.rch x (h.perm.mem_iff.mp hx)
theorem PO.top {S : List Blk} {es : List (Nat × Nat)} {x i : Nat} {seen fnd : List Nat} (h : PO S (es ++ [(x, i)]) seen fnd) : x ∈ seen := h.perm.mem_iff.mp (by simp)
theorem PO.pop {S : List Blk} {es : List (Nat × Nat)} {x i : Nat} {seen fnd : List Nat} (h : PO S (es ++ [(x, i)]) seen fnd) (hi : i = (gl S x).length) : PO S es seen (fnd ++ [x]) where
  nd := h.nd
  zero := h.zero
  lt := h.lt
  rch := h.rch
  perm := by
    refine List.Perm.trans ?_ h.perm
    simp only [List.map_append, List.map_cons, List.map_nil, List.append_assoc]
    exact List.Perm.append_left _ List.perm_append_comm
  fc y hy g hg := by
    rcases List.mem_append.mp hy with hy | hy
    · exact h.fc y hy g hg
    · simp at hy; subst hy
      obtain ⟨j, hj, e⟩ := List.mem_iff_getElem.mp hg
      exact (h.ec (y, i) (by simp)).2 j g (by simp only [hi]; exact hj) (by rw [← e]; exact List.getElem?_eq_getElem hj)
  ec e he := h.ec e (by simp [he])
theorem PO.seen {S : List Blk} {es : List (Nat × Nat)} {x i g : Nat} {seen fnd : List Nat} (h : PO S (es ++ [(x, i)]) seen fnd) (hi : (gl S x)[i]? = some g) (hg : g ∈ seen) : PO S (es ++ [(x, i + 1)]) seen fnd where
  nd := h.nd
  zero := h.zero
  lt := h.lt
  rch := h.rch
  perm := by have := h.perm; simpa using this
  fc := h.fc
  ec e he := by
    rcases List.mem_append.mp he with he | he
    · exact h.ec e (by simp [he])
    · simp at he; subst he
      refine ⟨(List.getElem?_eq_some_iff.mp hi).1, fun j y hj hy => ?_⟩
      by_cases q : j = i
      · subst q; simp only at hy; rw [hi] at hy; cases hy; exact hg
      · exact (h.ec (x, i) (by simp)).2 j y (by simp only at hj ⊢; lia) hy
theorem PO.push {S : List Blk} {es : List (Nat × Nat)} {x i g : Nat} {seen fnd : List Nat} (h : PO S (es ++ [(x, i)]) seen fnd) (hi : (gl S x)[i]? = some g) (hg : g ∉ seen) (hlt : g < S.length) : PO S ((es ++ [(x, i + 1)]) ++ [(g, 0)]) (seen ++ [g]) fnd where
  nd := List.nodup_append.mpr ⟨h.nd, by simp, fun a ha b hb => by simp at hb; subst hb; rintro rfl; exact hg ha⟩
  zero := by simp [h.zero]
  lt y hy := by
    rcases List.mem_append.mp hy with hy | hy
    · exact h.lt y hy
    · simp at hy; subst hy; exact hlt
  rch y hy := by
    rcases List.mem_append.mp hy with hy | hy
    · exact h.rch y hy
    · simp at hy; subst hy
      exact .step (h.rch x h.top) (List.mem_of_getElem? hi)
  perm := by
    have := h.perm
    simp only [List.map_append, List.map_cons, List.map_nil] at this ⊢
    rw [List.append_assoc]
    refine (List.Perm.append_left _ List.perm_append_comm).trans ?_
    rw [← List.append_assoc]
    exact this.append_right _
  fc y hy z hz := by simp [h.fc y hy z hz]
  ec e he := by
    rcases List.mem_append.mp he with he | he
    · rcases List.mem_append.mp he with he | he
      · obtain ⟨a, b⟩ := h.ec e (by simp [he])
        exact ⟨a, fun j y hj hy => by simp [b j y hj hy]⟩
      · simp at he; subst he
        refine ⟨(List.getElem?_eq_some_iff.mp hi).1, fun j y hj hy => ?_⟩
        by_cases q : j = i
        · subst q; simp only at hy; rw [hi] at hy; cases hy; simp
        · have := (h.ec (x, i) (by simp)).2 j y (by simp only at hj ⊢; lia) hy
          simp [this]
    · simp at he; subst he
      exact ⟨Nat.zero_le _, fun j y hj => absurd hj (Nat.not_lt_zero _)⟩

structure GoalsOk (S : List Blk) : Prop where
  lt : ∀ i, ∀ g ∈ gl S i, g < S.length
  len : ∀ i, (gl S i).length ≤ 50
theorem gl_of {S : List Blk} {i : Nat} {B : Blk} (h : S[i]? = some B) : gl S i = B.en.e.goals := by simp [gl, h]

/-- What holds of the heap in the walk over the blocks. -/
structure PH (S : List Blk) (σ τ : AH) (nf ns nk : Addr) (es : List (Addr × Nat × Nat)) (seen fnd : List Nat) : Prop where
  le' : le σ τ
  hf : τ nf = some (.list (fnd.map nV))
  hs : τ ns = some (.set (seen.map fun n : Nat => (n : Int)))
  hk : τ nk = some (.list (es.map fun e => V.ref e.1))
  he : ∀ e ∈ es, τ e.1 = some (.list [nV e.2.1, .fl ((gl S e.2.1).map nV), nV e.2.2])
  nd : (es.map (·.1)).Nodup
  ne : ∀ e ∈ es, σ e.1 = none ∧ e.1 ≠ nf ∧ e.1 ≠ ns ∧ e.1 ≠ nk
  po : PO S (es.map (·.2)) seen fnd

theorem postorder_c {f : Addr} {bs : List Addr} {S : List Blk} (h : FunAt σ f bs S) (hs : S.length < 64) (h0 : 0 < S.length) (hg : GoalsOk S)
    (hq : ∀ row, RowOk S row → Q (.fl (row.map nV)) σ) : calls G0 F0 (d + 2) 91 [.ref f] σ Q := by
  refine call_fn f_postorder rfl fun cl hcl => ?_
  refine newO fun nf hnf => fun ns hns => ?_
  obtain ⟨fs, hff, hb, _⟩ := h.fo
  have hσ1 : le σ (put σ nf (.list [])) := le_put hnf
  have hσ2 : le σ (put (put σ nf (.list [])) ns (.set [0])) := hσ1.put (hσ1.none hns)
  have nsf : ns ≠ nf := by rintro rfl; rw [put_same] at hns; cases hns
  have kf : put (put σ nf (.list [])) ns (.set [0]) nf = some (.list []) := by rw [put_ne (Ne.symm nsf), put_same]
  have ks : put (put σ nf (.list [])) ns (.set [0]) ns = some (.set [0]) := put_same
  have σns : σ ns = none := hσ1.none hns
  have hB0 : S[0]? = some S[0] := by simp [h0]
  generalize S[0] = B0 at hB0
  obtain ⟨b0, hb0, hσb0⟩ := h.get hB0
  have hb0' : idx (bs.map V.ref) 0 = some (.ref b0) := by
    show idx (bs.map V.ref) ((0 : Nat) : Int) = _
    rw [idx_nat]; simp [hb0]
  refine glo g_followers (rd_ok (hσ2 _ _ hff) (fld hb (itm hb0' (use hcl (followers_c (hσ2 _ _ hσb0) (by have := hg.len 0; rw [gl_of hB0] at this; lia) ?_)))))
  refine newO fun n0 hn0 => newO fun nk hnk => ?_
  generalize put (put σ nf (.list [])) ns (.set [0]) = τ at hσ2 kf ks hn0 hnk ⊢
  have hσ3 : le σ (put τ n0 (.list [.int 0, .fl (B0.en.e.goals.map nV), .int 0])) := hσ2.put (hσ2.none hn0)
  have n0f : n0 ≠ nf := by rintro rfl; rw [kf] at hn0; cases hn0
  have n0s : n0 ≠ ns := by rintro rfl; rw [ks] at hn0; cases hn0
  have nk0 : nk ≠ n0 := by rintro rfl; rw [put_same] at hnk; cases hnk
  have nkf : nk ≠ nf := by rintro rfl; rw [put_ne (Ne.symm n0f), kf] at hnk; cases hnk
  have nks : nk ≠ ns := by rintro rfl; rw [put_ne (Ne.symm n0s), ks] at hnk; cases hnk
  have σnk := hσ3.none hnk
  have σn0 := hσ2.none hn0
  have ph : PH S σ (put (put τ n0 (.list [.int 0, .fl (B0.en.e.goals.map nV), .int 0])) nk (.list [.ref n0])) nf ns nk [(n0, 0, 0)] [0] [] := {
    le' := hσ3.put σnk
    hf := by rw [put_ne (Ne.symm nkf), put_ne (Ne.symm n0f)]; exact kf
    hs := by rw [put_ne (Ne.symm nks), put_ne (Ne.symm n0s)]; exact ks
    hk := put_same
    he := fun e he => by
      cases List.mem_singleton.mp he
      show put _ _ _ n0 = _
      rw [put_ne (Ne.symm nk0), put_same]
      show _ = some (O.list [nV 0, V.fl ((gl S 0).map nV), nV 0])
      rw [gl_of hB0]; rfl
    nd := by simp
    ne := fun e he => by cases List.mem_singleton.mp he; exact ⟨σn0, n0f, n0s, Ne.symm nk0⟩
    po := {
      nd := by simp
      zero := .head _
      lt := fun x hx => by cases List.mem_singleton.mp hx; exact h0
      rch := fun x hx => by cases List.mem_singleton.mp hx; exact .zero
      perm := .refl _
      fc := fun x hx => by cases hx
      ec := fun e he => by cases List.mem_singleton.mp he; exact ⟨Nat.zero_le _, fun j g hj => absurd hj (Nat.not_lt_zero _)⟩ } }
  refine while_c hcl (qle_seq (monoX hcl) qle_fn) (fun (x : List (Addr × Nat × Nat) × List Nat × List Nat) τ m => PH S σ τ nf ns nk x.1 x.2.1 x.2.2 ∧ m = [(st "func", .ref f), (st "found", .ref nf), (st "seen", .ref ns), (st "stack", .ref nk)])
    (fun x => (S.length - x.2.1.length) * 102 + (x.1.map fun e => 101 - e.2.2).sum) (fun x τ m hI => ?_) ([(n0, 0, 0)], [0], []) [(st "func", .ref f), (st "found", .ref nf), (st "seen", .ref ns), (st "stack", .ref nk)] ?_ ⟨ph, rfl⟩
  case refine_2 => exact SubF.le rfl ⟨rfl, rfl, rfl, rfl, trivial⟩
  clear ph hσ3 hn0 hnk σn0 nk0 n0f n0s hns hσ1 ks kf hσ2 hb0' hσb0 hb0
  obtain ⟨es, seen, fnd⟩ := x
  obtain ⟨ph, rfl⟩ := hI
  simp only at ph ⊢
  have ksn := ph.hs
  have kkn := ph.hk
  have kfn := ph.hf
  have seenlen := nodup_lt_length _ _ ph.po.nd ph.po.lt
  have fndlen : fnd.length ≤ seen.length := by have := ph.po.perm.length_eq; simp at this; lia
  have eslen : es.length ≤ seen.length := by have := ph.po.perm.length_eq; simp at this; lia
  rcases List.eq_nil_or_concat es with rfl | ⟨es, ⟨t, x, i⟩, rfl⟩
  · exact rd_ok kkn (no (retP_list kfn (ph.le'.del hnf) (hq fnd (PO.done ph.po))))
  · simp only [List.concat_eq_append] at ph kkn eslen ⊢
    have hpo := ph.po
    have kt := ph.he (t, x, i) (by simp)
    have ke : ∀ {l : List (Addr × Nat × Nat)}, (l ++ [(t, x, i)]).map (fun e => V.ref e.1) = l.map (fun e => V.ref e.1) ++ [V.ref t] := fun {l} => by simp
    rw [ke] at kkn
    have hlast : (es.map (fun e => V.ref e.1) ++ [V.ref t]).getLast? = some (.ref t) := by simp
    simp only [List.map_append, List.map_cons, List.map_nil] at hpo
    have hx := hpo.lt x hpo.top
    have hec := (hpo.ec (x, i) (by simp)).1
    simp only at hec
    have hgl := hg.len x
    obtain ⟨σt, tnf, tns, tnk⟩ : σ t = none ∧ t ≠ nf ∧ t ≠ ns ∧ t ≠ nk := ph.ne (t, x, i) (by simp)
    have kt : τ t = some (.list [nV x, .fl ((gl S x).map nV), nV i]) := kt
    obtain ⟨hnd, hnt⟩ : (es.map (·.1)).Nodup ∧ ∀ e ∈ es, e.1 ≠ t := by
      have hnd := ph.nd
      rw [List.map_append, List.nodup_append] at hnd
      exact ⟨hnd.1, fun e he => hnd.2.2 _ (List.mem_map.mpr ⟨e, he, rfl⟩) t (by simp)⟩
    refine rd_ok kkn (cnd_t (by simp) (rd_ok kkn (itm (idx_last.trans hlast) (rd_ok kt (itm rfl (glo g_len (rd_ok kt (itm rfl ?_))))))))
    refine cnd_d (fun hi => ?_) (fun hi => ?_)
    · have hi : i = (gl S x).length := by rw [List.length_map] at hi; lia
      have kk2 : ∀ o, put τ nf o nk = some (.list (es.map (fun e => V.ref e.1) ++ [V.ref t])) := fun o => by rw [put_ne nkf]; exact kkn
      refine rd_ok kfn (rd_ok kt (itm rfl (rd_ok kfn (lt_ok (by simp [lineOf]; lia) ?_))))
      refine rd_ok (kk2 _) ?_
      refine rd_ok (kk2 _) ?_
      refine itm hlast ?_
      refine ⟨_, ?_, (es, seen, fnd ++ [x]), _, le_refl', ?_, ?_, rfl⟩
      · exact SubF.le rfl ⟨rfl, rfl, rfl, rfl, trivial⟩
      · simp; lia
      · exact {
          le' := (ph.le'.put hnf).put σnk
          hf := by rw [put_ne (Ne.symm nkf), put_same]; simp [nV]
          hs := by rw [put_ne (Ne.symm nks), put_ne (Ne.symm nsf).symm]; exact ksn
          hk := by rw [put_same]; simp
          he := fun e he => by
            obtain ⟨_, h1, _, h2⟩ := ph.ne e (List.mem_append_left _ he)
            rw [put_ne h2, put_ne h1]; exact ph.he e (List.mem_append_left _ he)
          nd := hnd
          ne := fun e he => ph.ne e (List.mem_append_left _ he)
          po := hpo.pop hi }
    · have hil : i < (gl S x).length := by
        have hi : ¬ (i : Int) = (((gl S x).map nV).length : Nat) := hi
        rw [List.length_map] at hi; lia
      have hgi : (gl S x)[i]? = some (gl S x)[i] := by simp [hil]
      have hgm : (gl S x)[i] ∈ gl S x := List.getElem_mem hil
      generalize (gl S x)[i] = g at hgi hgm
      have hgi' : idx ((gl S x).map nV) (i : Int) = some (nV g) := by rw [idx_nat]; simp [hgi]
      have hglt := hg.lt x g hgm
      have ks1 : ∀ o, put τ t o ns = some (.set (seen.map fun n : Nat => (n : Int))) := fun o => by rw [put_ne (Ne.symm tns)]; exact ksn
      have kk1 : ∀ o, put τ t o nk = some (.list (es.map (fun e => V.ref e.1) ++ [V.ref t])) := fun o => by rw [put_ne (Ne.symm tnk)]; exact kkn
      have eO : O.list ([nV x, .fl ((gl S x).map nV), nV i].set 2 (.int ((i : Int) + 1))) = .list [nV x, .fl ((gl S x).map nV), nV (i + 1)] := rfl
      refine rd_ok kt (itm rfl (rd_ok kt (itm rfl (itm hgi' (rd_ok kt (itm rfl (rd_ok kt ⟨by decide, by simp, ?_⟩)))))))
      refine in_set (ks1 _) (cnd_n (fun hgs => ?_) fun hgs => ?_)
      · have hgs : ¬ g ∈ seen := fun e => hgs (mem_ints.mpr e)
        have ks2 : ∀ o o', put (put τ t o) ns o' ns = some o' := fun o o' => put_same
        have kk2 : ∀ o o', put (put τ t o) ns o' nk = some (.list (es.map (fun e => V.ref e.1) ++ [V.ref t])) := fun o o' => by rw [put_ne nks]; exact kk1 o
        have hSg : S[g]? = some S[g] := by simp [hglt]
        generalize S[g] = Bg at hSg
        obtain ⟨bg, hbg, hσbg⟩ := h.get hSg
        have le2 : ∀ o o', le σ (put (put τ t o) ns o') := fun o o' => (ph.le'.put σt).put σns
        have hbg' : idx (bs.map V.ref) (g : Int) = some (.ref bg) := by rw [idx_nat]; simp [hbg]
        refine rd_ok (ks1 _) (rd_ok (ks1 _) (lt_ok (by simp; lia) (rd_ok (kk2 _ _) (glo g_followers (rd_ok (le2 _ _ _ _ hff) (fld hb (itm hbg' (use hcl (followers_c (le2 _ _ _ _ hσbg) (by rw [← gl_of hSg]; have := hg.len g; lia) ?_)))))))))
        refine newO fun n hnn => ?_
        have n1 : nk ≠ n := by rintro rfl; rw [kk2] at hnn; cases hnn
        have n2 : ns ≠ n := by rintro rfl; rw [ks2] at hnn; cases hnn
        have n3 : nf ≠ n := by rintro rfl; rw [put_ne (Ne.symm nsf), put_ne (Ne.symm tnf), kfn] at hnn; cases hnn
        have n4 : t ≠ n := by rintro rfl; rw [put_ne tns, put_same] at hnn; cases hnn
        have n5 : ∀ e ∈ es, e.1 ≠ n := fun e he => by
          rintro rfl
          obtain ⟨_, _, h2, _⟩ := ph.ne e (List.mem_append_left _ he)
          rw [put_ne h2, put_ne (hnt e he), ph.he e (List.mem_append_left _ he)] at hnn; cases hnn
        have σn : σ n = none := (le2 _ _).none hnn
        have eslen2 : es.length + 1 ≤ seen.length := by simpa using eslen
        have hpp := hpo.push hgi hgs hglt
        have kk3 : ∀ o o' o'', put (put (put τ t o) ns o') n o'' nk = some (.list (es.map (fun e => V.ref e.1) ++ [V.ref t])) := fun o o' o'' => by rw [put_ne n1]; exact kk2 _ _
        refine rd_ok (kk3 _ _ _) (lt_ok (by simp [lineOf]; lia) ⟨_, ?_, (es ++ [(t, x, i + 1)] ++ [(n, g, 0)], seen ++ [g], fnd), _, le_refl', ?_, ?_, rfl⟩)
        · exact SubF.le rfl ⟨rfl, rfl, rfl, rfl, trivial⟩
        · have := nodup_lt_length _ _ hpp.nd hpp.lt
          simp at this ⊢; lia
        · exact {
            le' := ((le2 _ _).put σn).put σnk
            hf := by rw [put_ne (Ne.symm nkf), put_ne n3, put_ne (Ne.symm nsf), put_ne (Ne.symm tnf)]; exact kfn
            hs := by rw [put_ne (Ne.symm nks), put_ne n2, put_same, if_neg (fun e => hgs (mem_ints.mp e)), List.map_append]; rfl
            hk := by rw [put_same]; simp
            he := fun e he => by
              rcases List.mem_append.mp he with he | he
              · rcases List.mem_append.mp he with he | he
                · obtain ⟨_, _, h2, h3⟩ := ph.ne e (List.mem_append_left _ he)
                  rw [put_ne h3, put_ne (n5 e he), put_ne h2, put_ne (hnt e he)]; exact ph.he e (List.mem_append_left _ he)
                · cases List.mem_singleton.mp he
                  show put _ _ _ t = _
                  rw [put_ne tnk, put_ne n4, put_ne tns, put_same]; rfl
              · cases List.mem_singleton.mp he
                show put _ _ _ n = _
                rw [put_ne (Ne.symm n1), put_same, gl_of hSg]; rfl
            nd := by
              rw [List.map_append, List.map_append, List.nodup_append, List.nodup_append]
              refine ⟨⟨hnd, by simp, fun a ha b hb => ?_⟩, by simp, fun a ha b hb => ?_⟩
              · cases List.mem_singleton.mp hb
                obtain ⟨e, he, rfl⟩ := List.mem_map.mp ha
                exact hnt e he
              · cases List.mem_singleton.mp hb
                rcases List.mem_append.mp ha with ha | ha
                · obtain ⟨e, he, rfl⟩ := List.mem_map.mp ha
                  exact n5 e he
                · cases List.mem_singleton.mp ha; exact n4
            ne := fun e he => by
              rcases List.mem_append.mp he with he | he
              · rcases List.mem_append.mp he with he | he
                · exact ph.ne e (List.mem_append_left _ he)
                · cases List.mem_singleton.mp he; exact ⟨σt, tnf, tns, tnk⟩
              · cases List.mem_singleton.mp he; exact ⟨σn, Ne.symm n3, Ne.symm n2, Ne.symm n1⟩
            po := by simpa using hpp }
      · have hgs : g ∈ seen := mem_ints.mp hgs
        refine ⟨_, ?_, (es ++ [(t, x, i + 1)], seen, fnd), _, le_refl', ?_, ?_, rfl⟩
        · exact SubF.le rfl ⟨rfl, rfl, rfl, rfl, trivial⟩
        · simp; lia
        · exact {
            le' := ph.le'.put σt
            hf := by rw [put_ne (Ne.symm tnf)]; exact kfn
            hs := ks1 _
            hk := by rw [kk1]; simp
            he := fun e he => by
              rcases List.mem_append.mp he with he | he
              · rw [put_ne (hnt e he)]; exact ph.he e (List.mem_append_left _ he)
              · cases List.mem_singleton.mp he
                show put τ t _ t = _
                rw [put_same]; rfl
            nd := by have := ph.nd; simpa using this
            ne := fun e he => by
              rcases List.mem_append.mp he with he | he
              · exact ph.ne e (List.mem_append_left _ he)
              · cases List.mem_singleton.mp he; exact ⟨σt, tnf, tns, tnk⟩
            po := by simpa using hpo.seen hgi hgs }

theorem order_c {f : Addr} {bs : List Addr} {S : List Blk} (h : FunAt σ f bs S) (hs : S.length < 64) (h0 : 0 < S.length) (hg : GoalsOk S)
    (hq : ∀ row, RowOk S row → Q (.fl (row.map nV)) σ) : calls G0 F0 (d + 3) 98 [.ref f] σ Q := by
  refine call_fn f_order rfl fun cl hcl => ?_
  refine glo g_postorder (use hcl (postorder_c h hs h0 hg fun row hr => newL (retP_here ?_)))
  rw [← List.map_reverse]
  exact hq _ {
    nd := (List.reverse_perm row).nodup_iff.mpr hr.nd
    zero := by simpa using hr.zero
    lt := fun x hx => hr.lt x (by simpa using hx)
    closed := fun x hx g hg => by simpa using hr.closed x (by simpa using hx) g hg
    rch := fun x hx => hr.rch x (by simpa using hx) }
end Mine

namespace Mine
set_option tactic.hygienic false
set_option genSizeOfSpec false
open PySem
set_option maxRecDepth 100000
set_option linter.unusedSimpArgs false
set_option linter.unusedVariables false
variable {d : Nat} {σ : AH} {Q : QV}
noncomputable def Cnt (done : List Nat) (ld : List (Nat × Nat)) : Prop := ∀ g, ld.lookup g = if done.count g = 0 then none else some (done.count g)
theorem Cnt.step {done : List Nat} {ld : List (Nat × Nat)} (h : Cnt done ld) (g : Nat) : Cnt (done ++ [g]) (putN g ((ld.lookup g).getD 0 + 1) ld) := fun x => by
  rw [putN_lookup]
  have hx := h x
  by_cases q : x = g
  · subst q
    rw [if_pos rfl, hx]
    rw [List.count_append]
    by_cases z : done.count x = 0 <;> simp [z]
  · rw [if_neg q, hx]
    have : (done ++ [g]).count x = done.count x := by rw [List.count_append]; simp [List.count_cons, Ne.symm q]
    rw [this]
theorem get0 {ld : List (Nat × Nat)} {g : Nat} : (getD (g : Int) (encD ld)).getD (.int 0) = .int (((ld.lookup g).getD 0 : Nat) : Int) := by
  rw [getD_enc]
  cases ld.lookup g <;> rfl

inductive EdI (S : List Blk) (σ : AH) (f n : Addr) (row : List Nat) (vs : List V) (τ : AH) (m : Lo) : Prop
  | mk (pre suf : List Nat) (ld : List (Nat × Nat)) (hr : row = pre ++ suf) (hv : vs = suf.map nV) (ht : τ = put σ n (.dict (encD ld))) (hm : m = [(st "func", .ref f), (st "found", .ref n)])
      (hc : Cnt (pre.flatMap (gl S)) ld) (hl : ld.length ≤ 50 * pre.length)
inductive EdJ (S : List Blk) (σ : AH) (f n : Addr) (pre gs : List Nat) (vs : List V) (τ : AH) (m : Lo) : Prop
  | mk (g1 g2 : List Nat) (ld : List (Nat × Nat)) (hr : gs = g1 ++ g2) (hv : vs = g2.map nV) (ht : τ = put σ n (.dict (encD ld))) (hm : m = [(st "func", .ref f), (st "found", .ref n)])
      (hc : Cnt (pre.flatMap (gl S) ++ g1) ld) (hl : ld.length ≤ 50 * pre.length + g1.length)
theorem edges_into_c {f : Addr} {bs : List Addr} {S : List Blk} {row : List Nat} (h : FunAt σ f bs S) (hg : GoalsOk S) (hr : ∀ x ∈ row, x < S.length) (hl : row.length ≤ 100)
    (hq : ∀ n D, σ n = none → Cnt (row.flatMap (gl S)) D → Q (.ref n) (put σ n (.dict (encD D)))) : calls G0 F0 (d + 2) 178 [.ref f, .fl (row.map nV)] σ Q := by
  refine call_fn f_edges_into rfl fun cl hcl => ?_
  obtain ⟨fs, hff, hb, _⟩ := h.fo
  refine ⟨List.nodup_nil, fun n hn => ?_⟩
  have kf : ∀ o, put σ n o f = some (.inst 73 fs) := fun o => le_put hn _ _ hff
  refine for_c hcl (qle_seq (monoX hcl) qle_fn) (EdI S σ f n row) (fun v vs τ m hI => ?_) (fun τ m hI => ?_) _ [(st "func", .ref f), (st "found", .ref n)] _ _ ?_
    ⟨[], row, [], rfl, rfl, rfl, rfl, fun g => by simp, by simp⟩
  · obtain ⟨pre, suf, ld, hrow, hvs, rfl, rfl, hc, hlen⟩ := hI
    cases suf with
    | nil => cases hvs
    | cons x suf =>
      obtain ⟨rfl, rfl⟩ := List.cons.inj hvs
      have hx : x < S.length := hr x (by rw [hrow]; simp)
      have hSx : S[x]? = some S[x] := by simp [hx]
      generalize S[x] = B at hSx
      obtain ⟨b, hbx, hσb⟩ := h.get hSx
      have hbx' : idx (bs.map V.ref) (x : Int) = some (.ref b) := by rw [idx_nat]; simp [hbx]
      have hgB : gl S x = B.en.e.goals := gl_of hSx
      have hgl := hg.len x
      have hrow2 : pre.length + (suf.length + 1) = row.length := by rw [hrow]; simp
      rw [hgB] at hgl
      refine glo g_followers (glo g_followers (rd_ok (kf _) (fld hb (itm hbx' (use hcl (followers_c (le_put hn _ _ hσb) (by lia) ?_))))))
      refine for_c hcl (qle_seq (monoX hcl) (qle_loop (qle_seq (monoX hcl) qle_fn))) (EdJ S σ f n pre B.en.e.goals) (fun v vs τ m hI => ?_) (fun τ m hI => ?_) _ [(st "func", .ref f), (st "found", .ref n)] _ _ ?_
        ⟨[], B.en.e.goals, ld, rfl, rfl, rfl, rfl, by simpa using hc, hlen⟩
      · obtain ⟨g1, g2, ld, hgs, hvs, rfl, rfl, hc, hlen⟩ := hI
        cases g2 with
        | nil => cases hvs
        | cons g g2 =>
          obtain ⟨rfl, rfl⟩ := List.cons.inj hvs
          have elf := @encD_length ld
          have hg2 : g1.length + (g2.length + 1) = B.en.e.goals.length := by rw [hgs]; simp
          refine rd_ok put_same (rd_ok put_same ?_)
          have e1 : put (put σ n (.dict (encD ld))) n (.dict (putD (g : Int) (.int ((((ld.lookup g).getD 0 : Nat) : Int) + 1)) (encD ld))) = put σ n (.dict (encD (putN g ((ld.lookup g).getD 0 + 1) ld))) := by
            rw [put_put, ← putD_enc]; rfl
          refine val get0 (rd_ok put_same (lt_ok (by simp [lineOf]; lia) ?_))
          rw [e1]
          refine ⟨_, ?_, g1 ++ [g], g2, _, by rw [hgs]; simp, rfl, rfl, rfl, ?_, by have := @putN_length g ((ld.lookup g).getD 0 + 1) ld; simp; lia⟩
          · exact SubF.le rfl ⟨rfl, rfl, trivial⟩
          · have := hc.step g
            rwa [List.append_assoc] at this
      · obtain ⟨g1, g2, ld, hgs, hvs, rfl, rfl, hc, hlen⟩ := hI
        cases g2 with
        | cons g g2 => cases hvs
        | nil =>
          rw [List.append_nil] at hgs
          subst hgs
          refine ⟨_, ?_, pre ++ [x], suf, ld, by rw [hrow]; simp, rfl, rfl, rfl, by rw [List.flatMap_append]; simpa [hgB] using hc, by simp; lia⟩
          exact SubF.le rfl ⟨rfl, rfl, trivial⟩
      · exact SubF.le rfl ⟨rfl, rfl, trivial⟩
  · obtain ⟨pre, suf, ld, hrow, hvs, rfl, rfl, hc, hlen⟩ := hI
    cases suf with
    | cons g g2 => cases hvs
    | nil =>
      rw [List.append_nil] at hrow
      subst hrow
      exact retP_here (hq n ld hn hc)
  · exact SubF.le rfl ⟨rfl, rfl, trivial⟩
end Mine

namespace Mine
set_option tactic.hygienic false
set_option genSizeOfSpec false
open PySem
set_option maxRecDepth 100000
set_option linter.unusedSimpArgs false
set_option linter.unusedVariables false
variable {d : Nat} {σ : AH} {Q : QV}
theorem setL_len {x : Str} {v w : V} : ∀ {fs : Lo}, getL x fs = some v → (setL x w fs).length = fs.length
  | [], h => by cases h
  | (y, u) :: r, h => by
    simp only [setL]
    by_cases q : x = y
    · simp [q]
    · simp only [getL, q, if_false] at h
      simp [q, setL_len h]
noncomputable def LeadOk (kept : List Nat) (ld : List (Nat × Nat)) : Prop := (∀ i k : Nat, kept[i]? = some k → ld.lookup k = some i) ∧ ∀ k, k ∉ kept → ld.lookup k = none
noncomputable def KeepRel (kept : List Nat) (S S' : List Blk) : Prop :=
  ∃ ld, LeadOk kept ld ∧ S'.length = kept.length ∧ ∀ (i k : Nat) (B : Blk), kept[i]? = some k → S[k]? = some B → ∃ id, S'[i]? = some ⟨i, B.steps, ⟨id, B.en.line, ledE ld B.en.e⟩⟩
theorem LeadOk.step {pre : List Nat} {ld : List (Nat × Nat)} (h : LeadOk pre ld) {k : Nat} (hk : k ∉ pre) : LeadOk (pre ++ [k]) (putN k pre.length ld) := by
  refine ⟨fun i x hi => ?_, fun x hx => ?_⟩
  · rw [putN_lookup]
    rcases Nat.lt_or_ge i pre.length with q | q
    · rw [List.getElem?_append_left q] at hi
      have : x ≠ k := by rintro rfl; exact hk (List.mem_of_getElem? hi)
      rw [if_neg this]; exact h.1 i x hi
    · rw [List.getElem?_append_right q] at hi
      have hi0 : i - pre.length = 0 := by
        have := (List.getElem?_eq_some_iff.mp hi).1; simp at this; lia
      rw [hi0] at hi; simp at hi; subst hi
      rw [if_pos rfl]; congr 1; lia
  · rw [putN_lookup]
    simp at hx
    rw [if_neg hx.2]; exact h.2 x hx.1

inductive KpI (σ : AH) (f n : Addr) (kept : List Nat) (vs : List V) (τ : AH) (m : Lo) : Prop
  | mk (pre suf : List Nat) (ld : List (Nat × Nat)) (hr : kept = pre ++ suf) (hv : vs = enumV pre.length (suf.map nV)) (ht : τ = put σ n (.dict (encD ld)))
      (hm : m = [(st "func", .ref f), (st "kept", .fl (kept.map nV)), (st "lead", .ref n)]) (hc : LeadOk pre ld) (hl : ld.length ≤ pre.length)
inductive KpJ (S : List Blk) (f n : Addr) (kept : List Nat) (bs' : List Addr) (ld : List (Nat × Nat)) (vs : List V) (τ : AH) (m : Lo) : Prop
  | mk (i : Nat) (S2 : List Blk) (hi : i ≤ kept.length) (hv : vs = enumV i ((bs'.drop i).map V.ref)) (hF : FunAt τ f bs' S2) (hn : τ n = some (.dict (encD ld))) (hm : m = [(st "lead", .ref n)]) (hl : S2.length = kept.length)
      (h : ∀ (j k : Nat) (B : Blk), kept[j]? = some k → S[k]? = some B → if j < i then ∃ id, S2[j]? = some ⟨j, B.steps, ⟨id, B.en.line, ledE ld B.en.e⟩⟩ else S2[j]? = some B)
theorem keep_blocks_c {f : Addr} {bs : List Addr} {S : List Blk} {kept : List Nat} (h : FunAt σ f bs S) (hg : GoalsOk S) (hk : ∀ x ∈ kept, x < S.length) (hnd : kept.Nodup) (hl : kept.length ≤ 64)
    (hq : ∀ σ' S' bs', FunAt σ' f bs' S' → KeepRel kept S S' → Q .none σ') : calls G0 F0 (d + 5) 190 [.ref f, .fl (kept.map nV)] σ Q := by
  refine call_fn f_keep_blocks rfl fun cl hcl => ?_
  obtain ⟨fs, hff, hb, hfl⟩ := h.fo
  refine ⟨List.nodup_nil, fun n hn => glo g_enumerate ?_⟩
  refine for_c hcl (qle_seq (monoX hcl) qle_fn) (KpI σ f n kept) (fun v vs τ m hI => ?_) (fun τ m hI => ?_) _ [(st "func", .ref f), (st "kept", .fl (kept.map nV)), (st "lead", .ref n)] _ _ ?_
    ⟨[], kept, [], rfl, rfl, rfl, rfl, ⟨fun i k e => by simp at e, fun k e => by simp⟩, by simp⟩
  · obtain ⟨pre, suf, ld, hrow, hvs, rfl, rfl, hc, hlen⟩ := hI
    cases suf with
    | nil => cases hvs
    | cons x suf =>
      obtain ⟨rfl, rfl⟩ := List.cons.inj hvs
      have elf := @encD_length ld
      have hrow2 : pre.length + (suf.length + 1) = kept.length := by rw [hrow]; simp
      have hxp : x ∉ pre := by
        rw [hrow] at hnd
        have := (List.nodup_append.mp hnd).2.2
        exact fun q => this x q x (by simp) rfl
      refine rd_ok put_same (lt_ok (by simp [lineOf]; lia) ?_)
      rw [put_put]
      refine ⟨_, ?_, pre ++ [x], suf, _, by rw [hrow]; simp, by simp, congrArg (fun x => put σ n (.dict x)) putD_enc, rfl, hc.step hxp, by have := @putN_length x pre.length ld; simp; lia⟩
      exact SubF.le rfl ⟨rfl, rfl, rfl, trivial⟩
  · obtain ⟨pre, suf, ld, hrow, hvs, rfl, rfl, hc, hlen⟩ := hI
    cases suf with
    | cons g g2 => cases hvs
    | nil =>
      rw [List.append_nil] at hrow
      subst hrow
      have nf : f ≠ n := by rintro rfl; rw [hn] at hff; cases hff
      have kf : ∀ o, put σ n o f = some (.inst 73 fs) := fun o => by rw [put_ne nf]; exact hff
      have hF : FunAt (put σ n (.dict (encD ld))) f bs S := h.mono (le_put hn)
      have nb : n ∉ bs := fun e => by obtain ⟨o, ho⟩ := h.alive e; rw [hn] at ho; cases ho
      have hbl : ∀ k ∈ kept, ∃ b, bs[k]? = some b := fun k hk' => by
        have := hk k hk'
        rw [← h.len] at this
        exact ⟨bs[k], by simp [this]⟩
      refine ⟨rfl, comp_by (fun v => match v with | .int i => .ref ((bs[i.toNat]?).getD 0) | v => v) _ _ (fun v hv K hK => ?_) ?_⟩
      · obtain ⟨g, hg', rfl⟩ := List.mem_map.mp hv
        obtain ⟨b, hbg⟩ := hbl g hg'
        have hb2 : idx (bs.map V.ref) (g : Int) = some (.ref b) := by rw [idx_nat]; simp [hbg]
        refine rd_ok (kf _) (fld hb (itm hb2 ?_))
        have : V.ref ((bs[((g : Nat) : Int).toNat]?).getD 0) = .ref b := by rw [Int.toNat_natCast, hbg]; rfl
        exact this ▸ hK
      · have hmm : [] ++ List.map (fun v => match v with | .int i => V.ref ((bs[i.toNat]?).getD 0) | v => v) (kept.map nV) = (kept.map fun k => (bs[k]?).getD 0).map V.ref := by simp [nV]
        rw [hmm]
        have hbsl : (kept.map fun k => (bs[k]?).getD 0).length = kept.length := by simp
        have hbs' : ∀ (i : Nat) (b : Addr), (kept.map fun k => (bs[k]?).getD 0)[i]? = some b → ∃ k, kept[i]? = some k ∧ bs[k]? = some b := fun i b e => by
          rw [List.getElem?_map] at e
          cases hp : kept[i]? with
          | none => rw [hp] at e; cases e
          | some k =>
            rw [hp] at e
            obtain ⟨b', hb'⟩ := hbl k (List.mem_of_getElem? hp)
            simp [hb'] at e
            exact ⟨k, rfl, by rw [hb', e]⟩
        have hbn : (kept.map fun k => (bs[k]?).getD 0).Nodup := by
          refine List.pairwise_iff_getElem.mpr fun i j hi hj hij q => ?_
          obtain ⟨k1, a1, c1⟩ := hbs' i _ (List.getElem?_eq_getElem hi)
          obtain ⟨k2, a2, c2⟩ := hbs' j _ (List.getElem?_eq_getElem hj)
          have e := nodup_inj h.nd c1 (by rw [q]; exact c2)
          subst e
          have := nodup_inj hnd a1 a2
          lia
        have hbm : ∀ b ∈ (kept.map fun k => (bs[k]?).getD 0), b ∈ bs := fun b hb' => by
          obtain ⟨i, hi, rfl⟩ := List.mem_iff_getElem.mp hb'
          obtain ⟨k, _, c⟩ := hbs' i _ (List.getElem?_eq_getElem hi)
          exact List.mem_of_getElem? c
        generalize (kept.map fun k => (bs[k]?).getD 0) = bs' at hbsl hbs' hbn hbm
        refine newL (rd_ok (kf _) (lt_ok (by lia) ?_))
        obtain ⟨S1, hF2, hS1l, hS1⟩ : ∃ S1, FunAt (put (put σ n (.dict (encD ld))) f (.inst 73 (setL (Str.ofString "blocks") (.fl (bs'.map V.ref)) fs))) f bs' S1 ∧ S1.length = kept.length ∧ ∀ (i k : Nat) (B : Blk), kept[i]? = some k → S[k]? = some B → S1[i]? = some B := by
          have hget : ∀ k ∈ kept, S[k]? = some ((S[k]?).getD default) := fun k hk' => by simp [hk k hk']
          refine ⟨kept.map fun k => (S[k]?).getD default, ⟨⟨_, put_same, getL_hit, by rw [setL_len hb]; exact hfl⟩, by rw [hbsl]; simp, fun i b B e1 e2 => ?_, hbn, fun q => h.nf (hbm f q)⟩, by simp, fun i k B e1 e2 => by simp [e1, e2]⟩
          obtain ⟨k, a, c⟩ := hbs' i b e1
          simp [a] at e2
          have := hget k (List.mem_of_getElem? a)
          rw [e2] at this
          have hbf : b ≠ f := fun q => h.nf (q ▸ List.mem_of_getElem? c)
          rw [put_ne hbf]
          exact hF.at' k b B c this
        have kn : put (put σ n (.dict (encD ld))) f (.inst 73 (setL (Str.ofString "blocks") (.fl (bs'.map V.ref)) fs)) n = some (.dict (encD ld)) := by rw [put_ne (Ne.symm nf), put_same]
        have nb' : n ∉ bs' := fun q => nb (hbm n q)
        obtain ⟨fs2, hff2, hb2, _⟩ := hF2.fo
        refine glo g_enumerate (rd_ok hff2 (fld hb2 ?_))
        refine for_c hcl (qle_seq (monoX hcl) qle_fn) (KpJ S f n kept bs' ld) (fun v vs τ m hI => ?_) (fun τ m hI => ?_) _ [(st "lead", .ref n)] _ _ ?_
          ⟨0, S1, by lia, rfl, hF2, kn, rfl, hS1l, fun j k B e1 e2 => by simp [hS1 j k B e1 e2]⟩
        · obtain ⟨i, S2, hi, hvs, hF, hτn, rfl, l2, c⟩ := hI
          have hi2 : i < bs'.length := by
            rcases Nat.lt_or_ge i bs'.length with h | h
            · exact h
            · rw [List.drop_of_length_le h] at hvs; cases hvs
          rw [List.drop_eq_getElem_cons hi2, List.map_cons, enumV] at hvs
          obtain ⟨rfl, rfl⟩ := List.cons.inj hvs
          have hbi : bs'[i]? = some bs'[i] := by simp [hi2]
          generalize bs'[i] = b at hbi ⊢
          obtain ⟨k, hpk, _⟩ := hbs' i b hbi
          have hkS := hk k (List.mem_of_getElem? hpk)
          have hSk : S[k]? = some S[k] := by simp [hkS]
          generalize S[k] = B at hSk
          have hS2 : S2[i]? = some B := by have := c i k B hpk hSk; rwa [if_neg (Nat.lt_irrefl i)] at this
          have hτb := hF.at' i b B hbi hS2
          have hgl : B.en.e.goals.length ≤ 100 := by rw [← gl_of hSk]; have := hg.len k; lia
          have bn : n ≠ b := by rintro rfl; exact nb' (List.mem_of_getElem? hbi)
          have kn1 : ∀ o, put τ b o n = some (.dict (encD ld)) := fun o => by rw [put_ne bn]; exact hτn
          obtain ⟨num, steps, en⟩ := B
          refine rd_ok hτb (glo g_led_end (rd_ok put_same (fld rfl (use hcl (led_end_c (e := en) (kn1 _) hgl fun id => rd_ok put_same ?_)))))
          refine ⟨_, ?_, i + 1, S2.set i ⟨i, steps, ⟨id, en.line, ledE ld en.e⟩⟩, by lia, rfl, by rw [put_put]; exact hF.set hbi ⟨i, steps, ⟨id, en.line, ledE ld en.e⟩⟩, by rw [put_put]; exact kn1 _, rfl, by rw [List.length_set]; exact l2, fun j k' B' e1 e2 => ?_⟩
          · exact SubF.le rfl ⟨rfl, trivial⟩
          · have := c j k' B' e1 e2
            rw [List.getElem?_set]
            by_cases q : j = i
            · subst q
              rw [hpk] at e1; cases e1
              rw [hSk] at e2; cases e2
              rw [if_pos (Nat.lt_succ_self _), if_pos rfl, if_pos (by lia)]
              exact ⟨id, rfl⟩
            · rw [if_neg (Ne.symm q)]
              by_cases q2 : j < i
              · rw [if_pos q2] at this; rw [if_pos (by lia)]; exact this
              · rw [if_neg q2] at this; rw [if_neg (by lia)]; exact this
        · obtain ⟨i, S2, hi, hvs, hF, hτn, rfl, l2, c⟩ := hI
          have hi2 : bs'.length ≤ i := by
            rcases Nat.lt_or_ge i bs'.length with h | h
            · rw [List.drop_eq_getElem_cons h, List.map_cons, enumV] at hvs; cases hvs
            · exact h
          refine retP_here (hq _ S2 bs' hF ⟨ld, hc, l2, fun j k B e1 e2 => ?_⟩)
          have := c j k B e1 e2
          have hj := (List.getElem?_eq_some_iff.mp e1).1
          rwa [if_pos (by lia)] at this
        · exact SubF.le rfl ⟨rfl, trivial⟩
  · exact SubF.le rfl ⟨rfl, rfl, rfl, trivial⟩
end Mine

namespace Mine
set_option tactic.hygienic false
set_option genSizeOfSpec false
open PySem
set_option maxRecDepth 100000
set_option linter.unusedSimpArgs false
set_option linter.unusedVariables false
variable {d : Nat} {σ : AH} {Q : QV}
noncomputable def wsum (w : Nat → Nat) (L : List Nat) : Nat := (L.map w).sum
theorem wsum_cons {w : Nat → Nat} {x : Nat} {L : List Nat} : wsum w (x :: L) = w x + wsum w L := by simp [wsum]
theorem wsum_perm {w : Nat → Nat} {L L' : List Nat} (h : L.Perm L') : wsum w L = wsum w L' := by
  induction h with
  | nil => rfl
  | cons x _ ih => simp only [wsum_cons, ih]
  | swap x y l => simp only [wsum_cons]; lia
  | trans _ _ a b => rw [a, b]
theorem wsum_congr {w w' : Nat → Nat} : ∀ {L : List Nat}, (∀ x ∈ L, w x = w' x) → wsum w L = wsum w' L
  | [], _ => rfl
  | x :: L, h => by rw [wsum_cons, wsum_cons, h x (.head _), wsum_congr fun y hy => h y (.tail _ hy)]
theorem wsum_le {w : Nat → Nat} {L : List Nat} {x : Nat} (h : x ∈ L) : w x ≤ wsum w L := by
  rw [wsum_perm (List.perm_cons_erase h), wsum_cons]; lia
theorem wsum_step {w w' : Nat → Nat} {L : List Nat} {i g : Nat} (nd : L.Nodup) (hi : i ∈ L) (hg : g ∈ L) (hne : i ≠ g) (hw : ∀ x, x ≠ i → w' x = w x) : wsum w L + w' i = wsum w' (L.erase g) + w i + w g := by
  have hi' : i ∈ L.erase g := (List.Nodup.mem_erase_iff nd).mpr ⟨hne, hi⟩
  rw [wsum_perm (List.perm_cons_erase hg), wsum_cons, wsum_perm (List.perm_cons_erase hi'), wsum_cons, wsum_perm (w := w') (List.perm_cons_erase hi'), wsum_cons]
  have : wsum w' ((L.erase g).erase i) = wsum w ((L.erase g).erase i) := wsum_congr fun x hx => hw x (by
    have := (List.Nodup.mem_erase_iff (nd.erase g)).mp hx
    exact this.1)
  lia

theorem FunAt.other {f : Addr} {bs : List Addr} {S : List Blk} (h : FunAt σ f bs S) {a : Addr} {o : O} (ha : a ∉ bs) (hf : a ≠ f) : FunAt (put σ a o) f bs S where
  fo := by
    obtain ⟨fs, x, c⟩ := h.fo
    exact ⟨fs, by rw [put_ne (Ne.symm hf)]; exact x, c⟩
  len := h.len
  at' i b B hb hB := by
    have : b ≠ a := by rintro rfl; exact ha (List.mem_of_getElem? hb)
    rw [put_ne this]; exact h.at' i b B hb hB
  nd := h.nd
  nf := h.nf
/-- One block put behind another one. -/
noncomputable def joinAt (T : List Blk) (i : Nat) (B C : Blk) : List Blk := T.set i ⟨B.num, B.steps ++ C.steps, C.en⟩
inductive Joins : List Blk → List Blk → Prop
  | refl {T} : Joins T T
  | step {S T i g B C} : Joins S T → T[i]? = some B → B.en.e = .jump g → T[g]? = some C → g ≠ i → Joins S (joinAt T i B C)

noncomputable def cntE (S : List Blk) (row : List Nat) (y : Nat) : Nat := (row.flatMap (gl S)).count y
noncomputable def stepsL (T : List Blk) (x : Nat) : Nat := match T[x]? with | some B => B.steps.length | none => 0
noncomputable def Stuck (S : List Blk) (row : List Nat) (x : Nat) : Prop := ∀ B g, S[x]? = some B → B.en.e = .jump g → g = 0 ∨ g = x ∨ cntE S row g ≠ 1
structure JI (S : List Blk) (row : List Nat) (M : Nat) (T : List Blk) (G L : List Nat) : Prop where
  js : Joins S T
  len : T.length = S.length
  nd : L.Nodup
  ndG : G.Nodup
  mem : ∀ x, x ∈ L ↔ x ∈ row ∧ x ∉ G
  sub : ∀ g ∈ G, g ∈ row ∧ g ≠ 0 ∧ cntE S row g = 1
  cl : ∀ x ∈ L, ∀ y ∈ gl T x, y ∈ row
  ed : ∀ y, wsum (fun x => (gl T x).count y) L + (if y ∈ G then 1 else 0) = cntE S row y
  st : wsum (stepsL T) L ≤ M
  gd : ∀ x, (gl T x).length ≤ 50
  id : G = [] → T = S
  ns : G ≠ [] → ∃ x ∈ row, ¬ Stuck S row x

theorem JI.goal {S T : List Blk} {row G L : List Nat} {M : Nat} (h : JI S row M T G L) {x y : Nat} (hx : x ∈ L) (hy : y ∈ gl T x) : 0 < cntE S row y ∧ (cntE S row y = 1 → y ∉ G) ∧ y ∈ row := by
  have h1 := h.ed y
  have h2 : 0 < (gl T x).count y := List.count_pos_iff.mpr hy
  have h3 : (gl T x).count y ≤ wsum (fun x => (gl T x).count y) L := wsum_le (w := fun x => (gl T x).count y) hx
  refine ⟨by lia, fun e q => ?_, h.cl x hx y hy⟩
  rw [if_pos q] at h1; lia
theorem JI.live {S T : List Blk} {row G L : List Nat} {M : Nat} (h : JI S row M T G L) {x y : Nat} (hx : x ∈ L) (hy : y ∈ gl T x) : y ∈ L := by
  obtain ⟨h1, h2, h3⟩ := h.goal hx hy
  refine (h.mem y).mpr ⟨h3, fun q => h2 (h.sub y q).2.2 q⟩
theorem gl_set {T : List Blk} {i : Nat} {B B' : Blk} (hi : T[i]? = some B) {x : Nat} : gl (T.set i B') x = if x = i then B'.en.e.goals else gl T x := by
  unfold gl
  rw [List.getElem?_set]
  by_cases q : x = i
  · subst q
    rw [if_pos rfl, if_pos (List.getElem?_eq_some_iff.mp hi).1, if_pos rfl]
  · rw [if_neg (Ne.symm q), if_neg q]
theorem stepsL_set {T : List Blk} {i : Nat} {B B' : Blk} (hi : T[i]? = some B) {x : Nat} : stepsL (T.set i B') x = if x = i then B'.steps.length else stepsL T x := by
  unfold stepsL
  rw [List.getElem?_set]
  by_cases q : x = i
  · subst q
    rw [if_pos rfl, if_pos (List.getElem?_eq_some_iff.mp hi).1, if_pos rfl]
  · rw [if_neg (Ne.symm q), if_neg q]
theorem JI.step {S T : List Blk} {row G L : List Nat} {M : Nat} (h : JI S row M T G L) {i g : Nat} {B C : Blk} (hi : i ∈ L) (hB : T[i]? = some B) (hj : B.en.e = .jump g) (hg0 : g ≠ 0) (hgi : g ≠ i) (hc : cntE S row g = 1) (hC : T[g]? = some C) :
    JI S row M (joinAt T i B C) (G ++ [g]) (L.erase g) ∧ i ∈ L.erase g ∧ g ∉ G ∧ g ∈ row := by
  have hgT : gl T i = [g] := by rw [gl_of hB, hj]; rfl
  have hgTg : gl T g = C.en.e.goals := gl_of hC
  have hgL : g ∈ L := h.live hi (by rw [hgT]; simp)
  have hgG : g ∉ G := ((h.mem g).mp hgL).2
  have hi' : i ∈ L.erase g := (List.Nodup.mem_erase_iff h.nd).mpr ⟨Ne.symm hgi, hi⟩
  have hw : ∀ x, gl (joinAt T i B C) x = if x = i then C.en.e.goals else gl T x := fun x => gl_set hB
  refine ⟨⟨.step h.js hB hj hC hgi, by rw [joinAt, List.length_set]; exact h.len, h.nd.erase g, List.nodup_append.mpr ⟨h.ndG, by simp, fun a ha b hb => by simp at hb; subst hb; rintro rfl; exact hgG ha⟩, fun x => ?_, fun x hx => ?_, fun x hx y hy => ?_, fun y => ?_, ?_, fun x => ?_, fun e => by simp at e, fun zz => ?_⟩, hi', hgG, ((h.mem g).mp hgL).1⟩
  · rw [List.Nodup.mem_erase_iff h.nd, h.mem x]
    simp only [List.mem_append, List.mem_singleton]
    exact ⟨fun ⟨a, b, c⟩ => ⟨b, fun q => q.elim c a⟩, fun ⟨b, c⟩ => ⟨fun q => c (.inr q), b, fun q => c (.inl q)⟩⟩
  · rcases List.mem_append.mp hx with hx | hx
    · exact h.sub x hx
    · simp at hx; subst hx; exact ⟨((h.mem x).mp hgL).1, hg0, hc⟩
  · rw [hw] at hy
    have hxL := ((List.Nodup.mem_erase_iff h.nd).mp hx).2
    split at hy
    · exact h.cl g hgL y (by rw [hgTg]; exact hy)
    · exact h.cl x hxL y hy
  · have e1 := wsum_step (w := fun x => (gl T x).count y) (w' := fun x => (gl (joinAt T i B C) x).count y) h.nd hi hgL (Ne.symm hgi) (fun x hx => by simp only [hw, hx, if_false])
    have a1 : (gl (joinAt T i B C) i).count y = (gl T g).count y := by rw [hw, if_pos rfl, hgTg]
    have a2 : (gl T i).count y = [g].count y := by rw [hgT]
    have e2 := h.ed y
    by_cases q : y = g
    · subst q
      rw [if_neg hgG] at e2
      rw [if_pos (by simp)]
      have : [y].count y = 1 := by simp
      lia
    · have q2 : (y ∈ G ++ [g]) = (y ∈ G) := by simp [q]
      simp only [q2]
      have h0 : [g].count y = 0 := by simp [List.count_cons, Ne.symm q]
      lia
  · have e1 := wsum_step (w := stepsL T) (w' := stepsL (joinAt T i B C)) h.nd hi hgL (Ne.symm hgi) (fun x hx => by rw [joinAt, stepsL_set hB, if_neg hx])
    have a1 : stepsL T i = B.steps.length := by simp [stepsL, hB]
    have a2 : stepsL T g = C.steps.length := by simp [stepsL, hC]
    have a3 : stepsL (joinAt T i B C) i = B.steps.length + C.steps.length := by rw [joinAt, stepsL_set hB, if_pos rfl]; simp
    have := h.st
    lia
  · rw [hw]
    split
    · rw [← hgTg]; exact h.gd g
    · exact h.gd x
  · by_cases e : G = []
    · have eT := h.id e
      subst eT
      refine ⟨i, ((h.mem i).mp hi).1, fun st => ?_⟩
      rcases st B g hB hj with a | a | a
      · exact hg0 a
      · exact hgi a
      · exact a hc
    · exact h.ns e
theorem cntE_eq {S : List Blk} {y : Nat} : ∀ {row : List Nat}, cntE S row y = wsum (fun x => (gl S x).count y) row
  | [] => rfl
  | x :: row => by rw [wsum_cons, ← cntE_eq (row := row)]; simp [cntE, List.count_append]
theorem JI.start {S : List Blk} {row : List Nat} {M : Nat} (hr : RowOk S row) (hg : GoalsOk S) (hM : wsum (stepsL S) row ≤ M) : JI S row M S [] row where
  js := .refl
  len := rfl
  nd := hr.nd
  ndG := by simp
  mem x := by simp
  sub g h := by simp at h
  cl x hx y hy := hr.closed x hx y hy
  ed y := by simp [cntE_eq]
  st := hM
  gd x := hg.len x
  id _ := rfl
  ns e := absurd rfl e

structure JoinRel (S : List Blk) (row : List Nat) (M : Nat) (T : List Blk) (G : List Nat) : Prop where
  ex : ∃ L, JI S row M T G L
  stuck : G = [] → ∀ x ∈ row, Stuck S row x


theorem nodup_lt_length' {xs ys : List Nat} (h : xs.Nodup) (hs : ∀ x ∈ xs, x ∈ ys) : xs.length ≤ ys.length := by
  induction xs generalizing ys with
  | nil => simp
  | cons x xs ih =>
    have h1 := List.nodup_cons.mp h
    have hx := hs x (.head _)
    have := ih h1.2 (ys := ys.erase x) fun y hy => (List.mem_erase_of_ne (by rintro rfl; exact h1.1 hy)).mpr (hs y (.tail _ hy))
    have e := List.length_erase_of_mem hx
    have p : 0 < ys.length := List.length_pos_of_mem hx
    simp; lia
structure JH (S T : List Blk) (row : List Nat) (M : Nat) (σ τ : AH) (f : Addr) (bs : List Addr) (ne ng : Addr) (D : List (Nat × Nat)) (G : List Nat) : Prop where
  fa : FunAt τ f bs T
  hd : τ ne = some (.dict (encD D))
  hs : τ ng = some (.set (G.map fun n : Nat => (n : Int)))

inductive JlI (S : List Blk) (row : List Nat) (M : Nat) (σ : AH) (f : Addr) (bs : List Addr) (ne ng : Addr) (D : List (Nat × Nat)) (vs : List V) (τ : AH) (m : Lo) : Prop
  | mk (pre suf : List Nat) (T : List Blk) (G L : List Nat) (hrow : row = pre ++ suf) (hvs : vs = suf.map nV) (jh : JH S T row M σ τ f bs ne ng D G) (ji : JI S row M T G L)
      (hs : G = [] → ∀ x ∈ pre, Stuck S row x) (hm : m = [(st "func", .ref f), (st "edges", .ref ne), (st "gone", .ref ng)])
theorem join_blocks_c {f : Addr} {bs : List Addr} {S : List Blk} {row : List Nat} {M : Nat} (h : FunAt σ f bs S) (hg : GoalsOk S) (hr : RowOk S row) (hl : S.length ≤ 100) (hst : wsum (stepsL S) row ≤ M) (hM : M ≤ 10000)
    (hq : ∀ σ' ng T G, FunAt σ' f bs T → σ' ng = some (.set (G.map fun n : Nat => (n : Int))) → JoinRel S row M T G → Q (.ref ng) σ') : calls G0 F0 (d + 3) 185 [.ref f, .fl (row.map nV)] σ Q := by
  refine call_fn f_join_blocks rfl fun cl hcl => ?_
  have hrl : row.length ≤ 100 := Nat.le_trans (nodup_lt_length _ _ hr.nd hr.lt) hl
  refine glo g_edges_into (use hcl (edges_into_c h hg hr.lt hrl fun ne D hne hD => glo g_set fun ng hng => ?_))
  obtain ⟨fs0, hff0, _, _⟩ := h.fo
  have hF : FunAt (put (put σ ne (.dict (encD D))) ng (.set [])) f bs S := (h.mono (le_put hne)).mono (le_put hng)
  have ngne : ng ≠ ne := by rintro rfl; rw [put_same] at hng; cases hng
  have jh : JH S S row M σ (put (put σ ne (.dict (encD D))) ng (.set [])) f bs ne ng D [] := ⟨hF, by rw [put_ne (Ne.symm ngne), put_same], put_same⟩
  have hnef : ne ≠ f := by rintro rfl; rw [hff0] at hne; cases hne
  have hngf : ng ≠ f := by rintro rfl; rw [put_ne (Ne.symm hnef), hff0] at hng; cases hng
  have hneb : ne ∉ bs := fun q => by obtain ⟨o, ho⟩ := h.alive q; rw [hne] at ho; cases ho
  have hngb : ng ∉ bs := fun q => by obtain ⟨o, ho⟩ := (h.mono (le_put hne)).alive q; rw [hng] at ho; cases ho
  refine for_c hcl (qle_seq (monoX hcl) qle_fn) (JlI S row M σ f bs ne ng D) (fun v vs τ m hI => ?_) (fun τ m hI => ?_) _ [(st "func", .ref f), (st "edges", .ref ne), (st "gone", .ref ng)] _ _ ?_
    ⟨[], row, S, [], row, rfl, rfl, jh, .start hr hg hst, fun zz x hx => absurd hx List.not_mem_nil, rfl⟩
  · obtain ⟨pre, suf, T, G, L, hrow, hvs, jh, ji, hstk, rfl⟩ := hI
    cases suf with
    | nil => cases hvs
    | cons x suf =>
      obtain ⟨rfl, rfl⟩ := List.cons.inj hvs
      have hxr : x ∈ row := by rw [hrow]; simp
      have hx := hr.lt x hxr
      have hrow2 : row = (pre ++ [x]) ++ suf := by rw [hrow]; simp
      refine in_set jh.hs (cnd_d (fun hxG => ?_) fun hxG => ?_)
      · have hxG : x ∈ G := mem_ints.mp hxG
        refine ⟨_, ?_, pre ++ [x], suf, T, G, L, hrow2, rfl, jh, ji, fun e => (by subst e; cases hxG), rfl⟩
        exact SubF.le rfl ⟨rfl, rfl, rfl, trivial⟩
      · have hxG : ¬ x ∈ G := fun e => hxG (mem_ints.mpr e)
        have hxL : x ∈ L := (ji.mem x).mpr ⟨hxr, hxG⟩
        have hx2 : x < T.length := by rw [ji.len]; exact hx
        have hTx : T[x]? = some T[x] := by simp [hx2]
        generalize T[x] = B0 at hTx
        obtain ⟨b, hbx, hτb⟩ := jh.fa.get hTx
        have hbx' : idx (bs.map V.ref) (x : Int) = some (.ref b) := by rw [idx_nat]; simp [hbx]
        obtain ⟨fs, hff, hb, _⟩ := jh.fa.fo
        refine rd_ok hff (fld hb (itm hbx' ?_))
        refine while_c hcl (qle_seq (monoX hcl) (qle_loop (qle_seq (monoX hcl) qle_fn))) (fun (y : List Blk × List Nat × List Nat) τ m => JH S y.1 row M σ τ f bs ne ng D y.2.1 ∧ JI S row M y.1 y.2.1 y.2.2 ∧ x ∈ y.2.2 ∧ (y.2.1 = [] → G = []) ∧ m = [(st "func", .ref f), (st "edges", .ref ne), (st "gone", .ref ng), (st "block", .ref b), (st "number", nV x)])
          (fun y => row.length - y.2.1.length) (fun y τ m hI => ?_) (T, G, L) [(st "func", .ref f), (st "edges", .ref ne), (st "gone", .ref ng), (st "block", .ref b), (st "number", nV x)] ?_ ⟨jh, ji, hxL, id, rfl⟩
        case refine_2 => exact SubF.le rfl ⟨rfl, rfl, rfl, rfl, rfl, trivial⟩
        clear hTx hτb hff hb jh
        obtain ⟨T1, G1, L1⟩ := y
        obtain ⟨jh1, ji1, hx1, hGG, rfl⟩ := hI
        simp only at jh1 ji1 hx1 hGG ⊢
        have hx3 : x < T1.length := by rw [ji1.len]; exact hx
        have hT1 : T1[x]? = some T1[x] := by simp [hx3]
        generalize T1[x] = B at hT1
        have kb : τ b = some B.obj := jh1.fa.at' x b B hbx hT1
        have ke := jh1.hd
        have kg1 := jh1.hs
        have leave : (G1 = [] → Stuck S row x) → ∀ {m}, LeF [(st "func", .ref f), (st "edges", .ref ne), (st "gone", .ref ng)] m → ∃ m1, LeF m1 m ∧ JlI S row M σ f bs ne ng D (suf.map nV) τ m1 := fun hs m hm =>
          ⟨_, hm, pre ++ [x], suf, T1, G1, L1, hrow2, rfl, jh1, ji1, fun e y hy => by
            rcases List.mem_append.mp hy with hy | hy
            · exact hstk (hGG e) y hy
            · cases List.mem_singleton.mp hy
              exact hs e, rfl⟩
        have lf : ∀ {v w : V}, LeF [(st "func", .ref f), (st "edges", .ref ne), (st "gone", .ref ng)] [(st "func", .ref f), (st "edges", .ref ne), (st "gone", .ref ng), (st "block", v), (st "number", w)] := fun {v w} => SubF.le rfl ⟨rfl, rfl, rfl, trivial⟩
        obtain ⟨num, steps, id, line, e⟩ := B
        have notj : (∀ g, e ≠ .jump g) → G1 = [] → Stuck S row x := fun hn e1 B g hB hj => by
          rw [← ji1.id e1, hT1] at hB
          cases hB
          exact absurd hj (hn g)
        refine rd_ok kb (fld rfl ?_)
        cases e with
        | jump g =>
          have hgT : gl T1 x = [g] := gl_of hT1
          obtain ⟨c0, c1, c2⟩ := ji1.goal hx1 (y := g) (by rw [hgT]; simp)
          have hDg2 : getD (g : Int) (encD D) = some (nV (cntE S row g)) := by
            have hDg := hD g
            have hcg : (row.flatMap (gl S)).count g = cntE S row g := rfl
            rw [hcg, if_neg (by lia)] at hDg
            rw [getD_enc, hDg]; rfl
          have stk : (g = 0 ∨ g = x ∨ cntE S row g ≠ 1) → G1 = [] → Stuck S row x := fun hs e1 B' g' hB hj => by
            rw [← ji1.id e1, hT1] at hB
            cases hB; cases hj; exact hs
          refine yes (rd_ok kb (fld rfl (cnd_d (fun z0 => yes ?_) fun z0 => cnd_d (fun z1 => yes ?_) fun z1 => rd_ok ke (itm hDg2 (cnd_n (fun z2 => ?_) fun z2 => ?_)))))
          · have z0 : (g : Int) = 0 := z0
            exact leave (stk (.inl (by lia))) (SubF.le rfl ⟨rfl, rfl, rfl, trivial⟩)
          · have z1 : (g : Int) = (x : Int) := z1
            exact leave (stk (.inr (.inl (by lia)))) (SubF.le rfl ⟨rfl, rfl, rfl, trivial⟩)
          · have z2 : ¬ ((cntE S row g : Nat) : Int) = 1 := z2
            exact leave (stk (.inr (.inr (by lia)))) (SubF.le rfl ⟨rfl, rfl, rfl, trivial⟩)
          · have z0 : ¬ (g : Int) = 0 := z0
            have z1 : ¬ (g : Int) = (x : Int) := z1
            have z2 : ((cntE S row g : Nat) : Int) = 1 := z2
            have hgL := ji1.live hx1 (y := g) (by rw [hgT]; simp)
            have hgr := hr.lt g c2
            have hg3 : g < T1.length := by rw [ji1.len]; exact hgr
            have hTg : T1[g]? = some T1[g] := by simp [hg3]
            generalize T1[g] = C at hTg
            obtain ⟨bg, hbg, hτg⟩ := jh1.fa.get hTg
            have hbg' : idx (bs.map V.ref) (g : Int) = some (.ref bg) := by rw [idx_nat]; simp [hbg]
            obtain ⟨fs, hff, hb, _⟩ := jh1.fa.fo
            have w1 := wsum_le (w := stepsL T1) hx1
            have w2 := wsum_le (w := stepsL T1) hgL
            have w3 := ji1.st
            have s1 : stepsL T1 x = steps.length := by simp [stepsL, hT1]
            have s2 : stepsL T1 g = C.steps.length := by simp [stepsL, hTg]
            obtain ⟨j1, j2, j3, j4⟩ := ji1.step hx1 hT1 rfl (by lia) (by lia) (by lia) hTg
            have bgne : bg ≠ b := by
              rintro rfl
              have := nodup_inj jh1.fa.nd hbg hbx
              lia
            have fne : f ≠ b := by rintro rfl; exact jh1.fa.nf (List.mem_of_getElem? hbx)
            have nne : ne ≠ b := by rintro rfl; exact hneb (List.mem_of_getElem? hbx)
            have ngb : ng ≠ b := by rintro rfl; exact hngb (List.mem_of_getElem? hbx)
            have k1 : ∀ o, put τ b o f = some (.inst 73 fs) := fun o => by rw [put_ne fne]; exact hff
            have k2 : ∀ o, put τ b o bg = some C.obj := fun o => by rw [put_ne bgne]; exact hτg
            have k3 : ∀ o, put τ b o ng = some (.set (G1.map fun n : Nat => (n : Int))) := fun o => by rw [put_ne ngb]; exact kg1
            have hGl := nodup_lt_length' ji1.ndG fun y hy => (ji1.sub y hy).1
            have hGl2 := nodup_lt_length' j1.ndG fun y hy => (j1.sub y hy).1
            have FA := jh1.fa.set hbx ⟨num, steps ++ C.steps, C.en⟩
            have eo : ∀ {id' : Addr} {ln : Int} {fs' : Lo} {o : O}, fs' = setL (st "end") C.en.enc (setL (st "steps") (.fl (steps.map Act.enc ++ C.steps.map Act.enc)) [(Str.ofString "number", nV num), (Str.ofString "steps", .fl (steps.map Act.enc)), (Str.ofString "end", EnS.enc ⟨id', ln, .jump g⟩)]) → FunAt (put (put τ b o) b (O.inst 52 fs')) f bs (T1.set x ⟨num, steps ++ C.steps, C.en⟩) := fun {id' ln fs' o} e => by
              have e2 : O.inst 52 fs' = Blk.obj ⟨num, steps ++ C.steps, C.en⟩ := by rw [e, Blk.obj, List.map_append]; rfl
              rw [put_put, e2]; exact FA
            refine rd_ok kb (fld rfl (rd_ok hff (fld hb (itm hbg' (rd_ok hτg (fld rfl (le_ok ?_ (newL (rd_ok kb ?_)))))))))
            · simp only [List.length_map, lineOf]; lia
            refine rd_ok (k1 _) (fld hb (itm hbg' (rd_ok (k2 _) (fld rfl (rd_ok put_same ?_)))))
            have k4 : ∀ o o', put (put τ b o) b o' ng = some (.set (G1.map fun n : Nat => (n : Int))) := fun o o' => by rw [put_put]; exact k3 _
            refine rd_ok (k4 _ _) (rd_ok (k4 _ _) (lt_ok ?_ ?_))
            · simp only [List.length_map]; lia
            refine ⟨_, ?_, (joinAt T1 x ⟨num, steps, ⟨id, line, .jump g⟩⟩ C, G1 ++ [g], L1.erase g), _, le_refl', ?_, ⟨(eo rfl).other hngb hngf, ?_, ?_⟩, j1, j2, fun e => ?_, rfl⟩
            · exact SubF.le rfl ⟨rfl, rfl, rfl, rfl, rfl, trivial⟩
            · simp only [List.length_append, List.length_singleton] at hGl2 ⊢; lia
            · rw [put_ne (Ne.symm ngne), put_put, put_ne nne]; exact ke
            · rw [put_same, if_neg (fun e => j3 (mem_ints.mp e)), List.map_append]; rfl
            · cases G1 <;> cases e
        | branch a t o => exact no (leave (notj fun g h => by cases h) lf)
        | table a low lot o => exact no (leave (notj fun g h => by cases h) lf)
        | give a => exact no (leave (notj fun g h => by cases h) lf)
  · obtain ⟨pre, suf, T, G, L, hrow, hvs, jh, ji, hstk, rfl⟩ := hI
    cases suf with
    | cons g g2 => cases hvs
    | nil =>
      rw [List.append_nil] at hrow
      subst hrow
      exact retP_here (hq _ ng T G jh.fa jh.hs ⟨⟨L, ji⟩, hstk⟩)
  · exact SubF.le rfl ⟨rfl, rfl, rfl, trivial⟩
end Mine

namespace Mine
set_option tactic.hygienic false
set_option genSizeOfSpec false
open PySem
set_option maxRecDepth 100000
set_option linter.unusedSimpArgs false
set_option linter.unusedVariables false
variable {d : Nat} {σ : AH} {Q : QV}

structure WF (S : List Blk) : Prop where
  pos : 0 < S.length
  len : S.length ≤ 60
  num : ∀ (i : Nat) (B : Blk), S[i]? = some B → B.num = i
  goals : GoalsOk S
  steps : ∀ (i : Nat) (B : Blk), S[i]? = some B → ∀ s ∈ B.steps, ActOk s
  tot : wsum (stepsL S) (List.range S.length) ≤ 1000

theorem plainF_lookup {a : Nat} : ∀ {S : List Blk} {k : Nat} {ld : List (Nat × Nat)}, (∀ (i : Nat) (B : Blk), S[i]? = some B → B.num = k + i) →
    (plainF S ld).lookup a = if k ≤ a then (match S[a - k]? with | some B => (match plainOf B with | some g => some g | none => ld.lookup a) | none => ld.lookup a) else ld.lookup a
  | [], k, ld, _ => by simp [plainF]
  | B :: S, k, ld, h => by
    show (plainF S (match plainOf B with | some g => putN B.num g ld | none => ld)).lookup a = _
    have hB : B.num = k := by simpa using h 0 B rfl
    rw [plainF_lookup (k := k + 1) fun i C hC => by have := h (i + 1) C (by simpa using hC); lia]
    have base : (match plainOf B with | some g => putN B.num g ld | none => ld).lookup a = if a = k then (match plainOf B with | some g => some g | none => ld.lookup a) else ld.lookup a := by
      cases plainOf B with
      | none => simp
      | some g =>
        rw [putN_lookup, hB]
    by_cases h1 : k + 1 ≤ a
    · rw [if_pos h1, if_pos (by lia)]
      have e : a - k = (a - (k + 1)) + 1 := by lia
      rw [e, List.getElem?_cons_succ, base, if_neg (by lia)]
    · rw [if_neg h1, base]
      by_cases h2 : a = k
      · subst h2
        simp
      · rw [if_neg h2, if_neg (by lia)]
theorem plainJ_lookup {S : List Blk} (h : WF S) {a : Nat} : (plainJ S).lookup a = match S[a]? with | some B => plainOf B | none => none := by
  have := plainF_lookup (S := S) (k := 0) (ld := []) (a := a) fun i B hB => by rw [h.num i B hB]; lia
  unfold plainJ
  rw [this]
  simp
  cases S[a]? with
  | none => rfl
  | some B => cases e : plainOf B <;> simp [e]
set_option tactic.hygienic true in
theorem plainJ_goal {S : List Blk} (h : WF S) {a b : Nat} (e : (plainJ S).lookup a = some b) : ∃ B, S[a]? = some B ∧ B.en.e = .jump b ∧ B.steps = [] ∧ b ≠ a ∧ a < S.length ∧ b < S.length := by
  rw [plainJ_lookup h] at e
  cases hB : S[a]? with
  | none => rw [hB] at e; cases e
  | some B =>
    rw [hB] at e
    simp only [plainOf] at e
    split at e
    · rename_i g hg
      split at e
      · rename_i q
        cases e
        refine ⟨B, rfl, hg, q.1, by rw [h.num a B hB] at q; exact q.2, (List.getElem?_eq_some_iff.mp hB).1, h.goals.lt a _ ?_⟩
        rw [gl_of hB, hg]; simp [En.goals]
      · cases e
    · cases e
theorem lg_lt {S : List Blk} (h : WF S) {fd : List (Nat × Nat)} (hf : ThreadsOk (plainJ S) fd) {g : Nat} (hg : g < S.length) : lg fd g < S.length := by
  have := hf g
  unfold lg
  cases e : fd.lookup g with
  | none => exact hg
  | some x =>
    rw [e] at this
    obtain ⟨_, xs, hp, _⟩ := this
    exact (hp.lt hg fun a b e => (plainJ_goal h e).choose_spec.2.2.2.2.2).2
theorem ledE_goals {ld : List (Nat × Nat)} {e : En} : (ledE ld e).goals = e.goals.map (lg ld) := by cases e <;> simp [ledE, En.goals]
theorem settledN_mem {st : List Act} {e : En} {n : Nat} (h : settledN st e = some n) : n ∈ e.goals := by
  cases e with
  | jump g => cases h
  | give a => cases h
  | branch a t o =>
    simp only [settledN] at h
    split at h
    · cases h; simp [En.goals]
    · split at h
      · cases h
      · rename_i v _
        cases h
        by_cases q : v = 0 <;> simp [q, En.goals]
  | table a low lot o =>
    simp only [settledN] at h
    split at h
    · cases h; simp [En.goals]
    · split at h
      · cases h
      · rename_i v _
        cases h
        cases e : lot[((v - low) % 4294967296).toNat]? with
        | none => simp [En.goals]
        | some x => simp [En.goals, List.mem_of_getElem? e]
theorem settledE_goals {st : List Act} {e : En} : (∀ g ∈ (settledE st e).goals, g ∈ e.goals) ∧ ((settledE st e).goals.length ≤ e.goals.length) := by
  unfold settledE
  cases h : settledN st e with
  | none => exact ⟨fun g hg => hg, Nat.le_refl _⟩
  | some n =>
    have := settledN_mem h
    exact ⟨fun g hg => by simp [En.goals] at hg; subst hg; exact this, List.length_pos_of_mem this⟩

theorem EndsRel.inv {fd : List (Nat × Nat)} {S T : List Blk} {b : Bool} (h : EndsRel fd S T b) {i : Nat} {B' : Blk} (hB : T[i]? = some B') : ∃ B, S[i]? = some B ∧ B'.num = B.num ∧ B'.steps = B.steps ∧ B'.en.e = endsE fd B := by
  have hi := (List.getElem?_eq_some_iff.mp hB).1
  rw [h.1] at hi
  have hS : S[i]? = some S[i] := by simp [hi]
  obtain ⟨B'', h1, h2⟩ := h.2.1 i _ hS
  rw [hB] at h1; cases h1
  exact ⟨_, hS, h2⟩
theorem EndsRel.wf {fd : List (Nat × Nat)} {S T : List Blk} {b : Bool} (h : EndsRel fd S T b) (w : WF S) (hf : ThreadsOk (plainJ S) fd) : WF T where
  pos := by rw [h.1]; exact w.pos
  len := by rw [h.1]; exact w.len
  num i B hB := by obtain ⟨C, c1, c2, _⟩ := h.inv hB; rw [c2]; exact w.num i C c1
  goals := by
    have key : ∀ (i : Nat) (B : Blk), T[i]? = some B → ∃ C, S[i]? = some C ∧ (∀ g ∈ B.en.e.goals, g < S.length) ∧ B.en.e.goals.length ≤ 50 := fun i B hB => by
      obtain ⟨C, c1, c2, c3, c4⟩ := h.inv hB
      refine ⟨C, c1, fun g hg => ?_, ?_⟩
      · rw [c4] at hg
        have := settledE_goals.1 g hg
        rw [ledE_goals] at this
        obtain ⟨y, hy, rfl⟩ := List.mem_map.mp this
        exact lg_lt w hf (w.goals.lt i y (by rw [gl_of c1]; exact hy))
      · rw [c4]
        refine Nat.le_trans settledE_goals.2 ?_
        rw [ledE_goals, List.length_map]
        have := w.goals.len i
        rw [gl_of c1] at this; exact this
    refine ⟨fun i g hg => ?_, fun i => ?_⟩
    · unfold gl at hg
      cases hB : T[i]? with
      | none => rw [hB] at hg; simp at hg
      | some B => rw [hB] at hg; rw [h.1]; exact (key i B hB).choose_spec.2.1 g hg
    · unfold gl
      cases hB : T[i]? with
      | none => simp
      | some B => exact (key i B hB).choose_spec.2.2
  steps i B hB s hs := by obtain ⟨C, c1, c2, c3, c4⟩ := h.inv hB; rw [c3] at hs; exact w.steps i C c1 s hs
  tot := by
    rw [h.1, wsum_congr (w' := stepsL S)]
    · exact w.tot
    · intro x hx
      unfold stepsL
      cases hB : T[x]? with
      | none =>
        have : S[x]? = none := by rw [List.getElem?_eq_none_iff] at hB ⊢; rw [← h.1]; exact hB
        rw [this]
      | some B => obtain ⟨C, c1, c2, c3, c4⟩ := h.inv hB; rw [c1]; dsimp only; rw [c3]

theorem Joins.ok {S T : List Blk} (h : Joins S T) (w : WF S) : T.length = S.length ∧ (∀ (i : Nat) (B : Blk), T[i]? = some B → B.num = i) ∧ GoalsOk T ∧ ∀ (i : Nat) (B : Blk), T[i]? = some B → ∀ s ∈ B.steps, ActOk s := by
  induction h with
  | refl => exact ⟨rfl, w.num, w.goals, w.steps⟩
  | @step T i g B C hj hB he hC hgi ih =>
    obtain ⟨a, b, c, e⟩ := ih
    refine ⟨by rw [joinAt, List.length_set]; exact a, fun j D hD => ?_, ⟨fun j y hy => ?_, fun j => ?_⟩, fun j D hD s hs => ?_⟩
    · rw [joinAt, List.getElem?_set] at hD
      split at hD
      · rename_i q; subst q
        split at hD
        · cases hD; exact b _ B hB
        · cases hD
      · exact b _ _ hD
    · rw [joinAt, gl_set hB] at hy
      rw [joinAt, List.length_set]
      split at hy
      · exact c.lt g y (by rw [gl_of hC]; exact hy)
      · exact c.lt j y hy
    · rw [joinAt, gl_set hB]
      split
      · have := c.len g; rw [gl_of hC] at this; exact this
      · exact c.len j
    · rw [joinAt, List.getElem?_set] at hD
      split at hD
      · rename_i q; subst q
        split at hD
        · cases hD
          rcases List.mem_append.mp hs with hs | hs
          · exact e _ B hB s hs
          · exact e _ C hC s hs
        · cases hD
      · exact e _ _ hD s hs

theorem KeepRel.wf {S T T' : List Blk} {row G L kept : List Nat} {M : Nat} (w : WF S) (ji : JI S row M T G L) (hr : ∀ x ∈ row, x < S.length) (hp : kept.Perm L) (hM : M ≤ 1000) (h0 : 0 ∈ kept) (h : KeepRel kept T T') : WF T' := by
  obtain ⟨ld, hld, hlen, hk⟩ := h
  obtain ⟨t1, t2, t3, t4⟩ := ji.js.ok w
  have hkn : kept.Nodup := hp.nodup_iff.mpr ji.nd
  have hget : ∀ (i : Nat) (B' : Blk), T'[i]? = some B' → ∃ (k : Nat) (B : Blk), kept[i]? = some k ∧ k ∈ L ∧ T[k]? = some B ∧ B'.num = i ∧ B'.steps = B.steps ∧ B'.en.e = ledE ld B.en.e := fun i B' hB => by
    have hi := (List.getElem?_eq_some_iff.mp hB).1
    rw [hlen] at hi
    have hki : kept[i]? = some kept[i] := by simp [hi]
    have hkL : kept[i] ∈ L := hp.mem_iff.mp (List.getElem_mem hi)
    generalize kept[i] = k at hki hkL
    have hkT : k < T.length := by rw [t1]; exact hr k ((ji.mem k).mp hkL).1
    have hTk : T[k]? = some T[k] := by simp [hkT]
    obtain ⟨id, e⟩ := hk i k _ hki hTk
    rw [hB] at e; cases e
    exact ⟨k, _, hki, hkL, hTk, rfl, rfl, rfl⟩
  have gls : ∀ i, ∀ g ∈ gl T' i, g < T'.length := fun i g hg => by
    unfold gl at hg
    cases hB : T'[i]? with
    | none => rw [hB] at hg; simp at hg
    | some B' =>
      rw [hB] at hg
      obtain ⟨k, B, a1, a2, a3, a4, a5, a6⟩ := hget i B' hB
      simp only [a6, ledE_goals] at hg
      obtain ⟨y, hy, rfl⟩ := List.mem_map.mp hg
      have hyL := ji.live a2 (y := y) (by rw [gl_of a3]; exact hy)
      obtain ⟨j, hj, e⟩ := List.mem_iff_getElem.mp (hp.mem_iff.mpr hyL)
      have := hld.1 j y (by simp [hj, e])
      rw [hlen]
      simp [lg, this]; exact hj
  have hkl : kept.length ≤ S.length := by
    exact nodup_lt_length _ _ hkn fun x hx => hr x ((ji.mem x).mp (hp.mem_iff.mp hx)).1
  exact {
    pos := by rw [hlen]; exact List.length_pos_of_mem h0
    len := by rw [hlen]; exact Nat.le_trans hkl w.len
    num := fun i B' hB => by obtain ⟨k, B, a1, a2, a3, a4, a5, a6⟩ := hget i B' hB; exact a4
    goals := ⟨gls, fun i => by
      unfold gl
      cases hB : T'[i]? with
      | none => simp
      | some B' =>
        obtain ⟨k, B, a1, a2, a3, a4, a5, a6⟩ := hget i B' hB
        simp only [a6, ledE_goals, List.length_map]
        have := t3.len k
        rw [gl_of a3] at this; exact this⟩
    steps := fun i B' hB s hs => by obtain ⟨k, B, a1, a2, a3, a4, a5, a6⟩ := hget i B' hB; rw [a5] at hs; exact t4 k B a3 s hs
    tot := by
      have e1 : wsum (stepsL T') (List.range T'.length) = wsum (stepsL T) kept := by
        unfold wsum
        congr 1
        refine List.ext_getElem (by simp [hlen]) fun i h1 h2 => ?_
        simp only [List.getElem_map, List.getElem_range]
        simp at h1 h2
        have hB : T'[i]? = some T'[i] := by simp [h1]
        obtain ⟨k, B, a1, a2, a3, a4, a5, a6⟩ := hget i _ hB
        have ek : kept[i] = k := by have := List.getElem?_eq_getElem h2; rw [a1] at this; exact (Option.some.inj this).symm
        simp only [stepsL, hB, ek, a3, a5]
      rw [e1, wsum_perm hp]
      exact Nat.le_trans ji.st hM }

end Mine

namespace Mine
set_option tactic.hygienic false
set_option genSizeOfSpec false
open PySem
set_option maxRecDepth 100000
set_option linter.unusedSimpArgs false
set_option linter.unusedVariables false
variable {d : Nat} {σ : AH} {Q : QV}
theorem wsum_sub {w : Nat → Nat} {xs ys : List Nat} (h : xs.Nodup) (hs : ∀ x ∈ xs, x ∈ ys) : wsum w xs ≤ wsum w ys := by
  induction xs generalizing ys with
  | nil => simp [wsum]
  | cons x xs ih =>
    have h1 := List.nodup_cons.mp h
    have hx := hs x (.head _)
    have := ih h1.2 (ys := ys.erase x) fun y hy => (List.mem_erase_of_ne (by rintro rfl; exact h1.1 hy)).mpr (hs y (.tail _ hy))
    rw [wsum_cons, wsum_perm (List.perm_cons_erase hx), wsum_cons]; lia

noncomputable def OnceRel (S S' : List Blk) (b : Bool) : Prop :=
  ∃ fd T b1 row T2 G, ThreadsOk (plainJ S) fd ∧ EndsRel fd S T b1 ∧ RowOk T row ∧ JoinRel T row 1000 T2 G ∧
    ((G = [] ∧ ¬ row.length < S.length ∧ S' = T2 ∧ b = b1) ∨
     ((G ≠ [] ∨ row.length < S.length) ∧ b = true ∧ ∃ kept, kept.Perm (row.filter (· ∉ G)) ∧ kept.Pairwise (· ≤ ·) ∧ KeepRel kept T2 S'))

theorem live_perm {S : List Blk} {row T G L} {M : Nat} (ji : JI S row M T G L) (hr : row.Nodup) : (row.filter (· ∉ G)).Perm L := by
  refine (List.perm_ext_iff_of_nodup (hr.filter _) ji.nd).mpr fun x => ?_
  rw [ji.mem x]; simp

theorem OnceRel.wf {S S' : List Blk} {b : Bool} (h : OnceRel S S' b) (w : WF S) : WF S' := by
  obtain ⟨fd, T, b1, row, T2, G, hf, he, hr, ⟨⟨L, ji⟩, hs⟩, hk⟩ := h
  have wT := he.wf w hf
  rcases hk with ⟨hG, hl, rfl, rfl⟩ | ⟨hG, rfl, kept, hp, hp2, hk⟩
  · rw [ji.id hG]; exact wT
  · have hpL := hp.trans (live_perm ji hr.nd)
    refine hk.wf wT ji hr.lt hpL (Nat.le_refl _) ?_
    refine hpL.mem_iff.mpr ((ji.mem 0).mpr ⟨hr.zero, fun q => (ji.sub 0 q).2.1 rfl⟩)

theorem straighten_once_c {f : Addr} {bs : List Addr} {S : List Blk} (h : FunAt σ f bs S) (w : WF S)
    (hq : ∀ σ' S' bs' b, FunAt σ' f bs' S' → OnceRel S S' b → Q (.bool b) σ') : calls G0 F0 (d + 7) 195 [.ref f] σ Q := by
  refine call_fn f_straighten_once rfl fun cl hcl => ?_
  have hSl := w.len
  refine glo g_straighten_ends (use hcl (straighten_ends_c (d := d) h (by lia) (N := S.length) (by lia) (fun a b e => ⟨(plainJ_goal w e).choose_spec.2.2.2.2.1, (plainJ_goal w e).choose_spec.2.2.2.2.2⟩) (fun B hB => ?_) fun σ1 T fd b1 hF hth hE => ?_))
  · obtain ⟨i, hi, rfl⟩ := List.mem_iff_getElem.mp hB
    have hS : S[i]? = some S[i] := by simp [hi]
    refine ⟨w.steps i _ hS, ?_⟩
    have := w.goals.len i
    rw [gl_of hS] at this; exact this
  have wT := hE.wf w hth
  have hTl := hE.1
  refine glo g_order (use hcl (order_c (d := d + 3) hF (by lia) wT.pos wT.goals fun row hr => ?_))
  have hrl := nodup_lt_length _ _ hr.nd hr.lt
  refine glo g_join_blocks (use hcl (join_blocks_c (d := d + 3) hF wT.goals hr (by lia) (Nat.le_trans (wsum_sub hr.nd fun x hx => List.mem_range.mpr (hr.lt x hx)) wT.tot) (by lia) fun σ2 ng T2 G hF2 hng hJ => ?_))
  obtain ⟨L, ji⟩ := hJ.ex
  obtain ⟨fs, hff, hb, _⟩ := hF2.fo
  have t1 := (ji.js.ok wT).1
  have hbl : (bs.map V.ref).length = S.length := by rw [List.length_map, hF2.len, t1, hTl]
  have hmem : ∀ g : Nat, decide ((g : Int) ∈ G.map fun n : Nat => (n : Int)) = decide (g ∈ G) := fun g => by
    rw [decide_eq_decide]; exact mem_ints
  have tail : (G ≠ [] ∨ row.length < S.length) → blkP (exT G0 cl 19 sc195.1) (ifB (nth 3 bd195.1)) [(st "func", .ref f), (st "is_changed", .bool b1), (st "row", .fl (row.map nV)), (st "gone", .ref ng)] σ2 (seqK (blkP (exT G0 cl 20 sc195.1) (bd195.1.drop 4)) (kFn Q)) := fun hor => by
    refine glo g_keep_blocks (glo g_sorted ⟨rfl, comp_if_by (fun v => v) (fun v => match v with | .int i => !decide (i ∈ G.map fun n : Nat => (n : Int)) | _ => false) _ _ (fun v hv K hK => ?_) (fun v hv zz K hK => ?_) ?_⟩)
    · obtain ⟨g, _, rfl⟩ := List.mem_map.mp hv
      exact in_set hng hK
    · exact hK
    · have e1 : [] ++ List.map (fun v => v) (List.filter (fun v => match v with | V.int i => !decide (i ∈ G.map fun n : Nat => (n : Int)) | _ => false) (row.map nV)) = ((row.filter (· ∉ G)).map fun n : Nat => (n : Int)).map V.int := by
        rw [List.nil_append, List.map_id', List.filter_map, List.map_map]
        have : ((fun v => match v with | V.int i => !decide (i ∈ G.map fun n : Nat => (n : Int)) | _ => false) ∘ nV) = fun x : Nat => decide (x ∉ G) := by
          funext x
          simp only [Function.comp, nV, hmem]
          by_cases q : x ∈ G <;> simp [q]
        rw [this]
        rfl
      rw [e1]
      obtain ⟨r, hr', hperm, hpw⟩ := sorted_nats (row.filter (· ∉ G))
      have hfl : (row.filter (· ∉ G)).length ≤ row.length := List.length_filter_le ..
      have hrl2 := hperm.length_eq
      have e2 : (r.map fun n : Nat => (n : Int)).map V.int = r.map nV := by rw [List.map_map]; rfl
      refine newL (opt (intsOf_map _) (lt_ok (by simp only [List.length_map]; lia) ?_))
      rw [hr', e2]
      have jo := ji.js.ok wT
      have hpL := hperm.trans (live_perm ji hr.nd)
      exact use hcl (keep_blocks_c (d := d + 1) hF2 jo.2.2.1 (fun x hx => by rw [jo.1]; exact hr.lt x ((ji.mem x).mp (hpL.mem_iff.mp hx)).1) (hpL.nodup_iff.mpr ji.nd) (by lia) fun σ3 S' bs' hF3 hK =>
        retP_here (hq _ S' bs' true hF3 ⟨fd, T, b1, row, T2, G, hth, hE, hr, hJ, .inr ⟨hor, rfl, r, hperm, hpw, hK⟩⟩))
  refine rd_ok hng (cnd_b (fun hG => ?_) fun hG => ?_)
  · refine yes (tail (.inl ?_))
    rintro rfl; cases hG
  · have hG : G = [] := by cases G with | nil => rfl | cons a G => cases hG
    refine glo g_len (glo g_len (rd_ok hff (fld hb (cnd_d (fun hl => ?_) fun hl => ?_))))
    · have hl : (((row.map nV).length : Nat) : Int) < (((bs.map V.ref).length : Nat) : Int) := hl
      rw [hbl, List.length_map] at hl
      exact tail (.inr (by lia))
    · have hl : ¬ (((row.map nV).length : Nat) : Int) < (((bs.map V.ref).length : Nat) : Int) := hl
      rw [hbl, List.length_map] at hl
      exact retP_here (hq _ T2 bs b1 hF2 ⟨fd, T, b1, row, T2, G, hth, hE, hr, hJ, .inl ⟨hG, by lia, rfl, rfl⟩⟩)
/-- The whole pass: laps that change something, then one that does not. -/
inductive StrRel : List Blk → List Blk → Bool → Prop
  | stop {S S'} : OnceRel S S' false → StrRel S S' false
  | go {S S1 S' b} : OnceRel S S1 true → StrRel S1 S' b → StrRel S S' true

theorem straighten_c {f : Addr} {bs : List Addr} {S : List Blk} (μ : List Blk → Nat) (hμ : ∀ S S', WF S → OnceRel S S' true → μ S' < μ S) (h : FunAt σ f bs S) (w : WF S)
    (hq : ∀ σ' S' bs' b, FunAt σ' f bs' S' → WF S' → StrRel S S' b → Q (.bool b) σ') : calls G0 F0 (d + 8) 202 [.ref f] σ Q := by
  refine call_fn f_straighten rfl fun cl hcl => ?_
  refine while_c hcl (qle_seq (monoX hcl) qle_fn) (fun (x : List Blk) τ m => ∃ bs b, FunAt τ f bs x ∧ WF x ∧ m = [(st "func", .ref f), (st "is_changed", .bool b)] ∧ (b = true → ∀ S' b', StrRel x S' b' → StrRel S S' true) ∧ (b = false → x = S)) μ
    (fun x τ m hI => ?_) S [(st "func", .ref f), (st "is_changed", .bool false)] ?_ ⟨bs, false, h, w, rfl, fun e => (by cases e), fun zz => rfl⟩
  case refine_2 => exact SubF.le rfl ⟨rfl, rfl, trivial⟩
  obtain ⟨bs1, b, hF, wx, rfl, c1, c2⟩ := hI
  refine glo g_straighten_once (use hcl (straighten_once_c hF wx fun σ' S' bs' b' hF' hO => ?_))
  have wS' := hO.wf wx
  cases b' with
  | true =>
    refine yes ⟨[(st "func", .ref f), (st "is_changed", .bool true)], ?_, S', _, le_refl', hμ _ _ wx hO, bs', true, hF', wS', rfl, fun zz S2 b2 h2 => ?_, fun e => (by cases e)⟩
    · exact SubF.le rfl ⟨rfl, rfl, trivial⟩
    · cases b with
      | true => exact c1 rfl _ _ (.go hO h2)
      | false => have := c2 rfl; subst this; exact .go hO h2
  | false =>
    refine no (retP_here (hq _ S' bs' b hF' wS' ?_))
    cases b with
    | true => exact c1 rfl _ _ (.stop hO)
    | false => have := c2 rfl; subst this; exact .stop hO
end Mine

namespace Mine
set_option tactic.hygienic false
set_option genSizeOfSpec false
open PySem
set_option maxRecDepth 100000
set_option linter.unusedSimpArgs false
set_option linter.unusedVariables false
variable {d : Nat} {σ : AH} {Q : QV}
/-- The well: a list of two, the numbers and how many are drawn (at most P). -/
structure WellAt (τ : AH) (wl nm : Addr) (P : Nat) : Prop where
  ne : wl ≠ nm
  ex : ∃ (ns : List Int) (p : Nat), τ wl = some (.list [.ref nm, .int p]) ∧ τ nm = some (.list (ns.map V.int)) ∧ (∀ n ∈ ns, 0 ≤ n ∧ n < 2147483647) ∧ p ≤ ns.length ∧ p ≤ P ∧ ns.length ≤ P + 64
noncomputable def FrW (σ τ : AH) (wl nm : Addr) : Prop := ∀ a o, a ≠ wl → a ≠ nm → σ a = some o → τ a = some o
theorem FrW.trans {σ1 σ2 σ3 : AH} {wl nm : Addr} (h : FrW σ1 σ2 wl nm) (k : FrW σ2 σ3 wl nm) : FrW σ1 σ3 wl nm := fun a o h1 h2 e => k a o h1 h2 (h a o h1 h2 e)
theorem FrW.of_le {τ : AH} {wl nm : Addr} (h : le σ τ) : FrW σ τ wl nm := fun a o zz zz e => h a o e
theorem WellAt.mono {wl nm : Addr} {P P' : Nat} (h : WellAt σ wl nm P) (hp : P ≤ P') : WellAt σ wl nm P' where
  ne := h.ne
  ex := by obtain ⟨ns, p, a, b, c, e, f, g⟩ := h.ex; exact ⟨ns, p, a, b, c, e, by lia, by lia⟩
theorem WellAt.le {wl nm : Addr} {P : Nat} {τ : AH} (h : WellAt σ wl nm P) (k : Mine.le σ τ) : WellAt τ wl nm P where
  ne := h.ne
  ex := by obtain ⟨ns, p, a, b, c⟩ := h.ex; exact ⟨ns, p, k _ _ a, k _ _ b, c⟩
theorem WellAt.put {wl nm : Addr} {P : Nat} {n : Addr} {o : O} (h : WellAt σ wl nm P) (h1 : n ≠ wl) (h2 : n ≠ nm) : WellAt (put σ n o) wl nm P where
  ne := h.ne
  ex := by obtain ⟨ns, p, a, b, c⟩ := h.ex; exact ⟨ns, p, by rw [put_ne (Ne.symm h1)]; exact a, by rw [put_ne (Ne.symm h2)]; exact b, c⟩

theorem cm_nil {is : List Int} {a : Addr} {k : Bool → Prop} (ha : σ a = some (.list (is.map V.int))) (h : k (decide (is = []))) : eqP σ (.ref a) (.fl []) k := by
  have l := ints_lay is
  refine cm_eq_go (a := .list (is.map PyData.int)) (b := .list []) (by simp [look, ha, V.data, ints_data]) rfl ?_ ?_ ?_
  · exact shaped_of (by simp only [PyData.canLay0]; exact l.1) (by simp only [PyData.depth]; lia)
  · exact shaped_of (by simp [PyData.canLay0, PyData.canLayAll0]) (by simp [PyData.depth, PyData.depthAll])
  · have e : PyData.eqv (.list (is.map PyData.int)) (.list []) = decide (is = []) := by
      cases is <;> simp [PyData.eqv, PyData.eqvAll]
    rw [e]; exact h
theorem draw_c {wl nm : Addr} {P size : Nat} (h : WellAt σ wl nm P) (hP : P < 100000) (hs : 0 < size) (hs2 : size < 100)
    (hq : ∀ σ' (v : Nat), v < size → WellAt σ' wl nm (P + 1) → FrW σ σ' wl nm → Q (.int v) σ') : calls G0 F0 (d + 1) 209 [.ref wl, .int (size : Nat)] σ Q := by
  refine call_fn f_law_draw rfl fun cl hcl => ?_
  obtain ⟨ns, p, hw, hn, hr, hp, hpP, hl⟩ := h.ex
  have hne := h.ne
  have k1 : ∀ o, put σ wl o nm = some (.list (ns.map V.int)) := fun o => by rw [put_ne (Ne.symm hne)]; exact hn
  have hsz : (size : Int) > 0 := by lia
  have fin : ∀ (v : Int) τ, 0 ≤ v → τ wl = some (.list [.ref nm, .int ((p : Int) + 1)]) → (∀ a o, a ≠ wl → a ≠ nm → σ a = some o → τ a = some o) → (∃ ns' : List Int, τ nm = some (.list (ns'.map V.int)) ∧ (∀ n ∈ ns', 0 ≤ n ∧ n < 2147483647) ∧ p + 1 ≤ ns'.length ∧ ns'.length ≤ P + 1 + 64) → Q (.int (v % (size : Int))) τ := fun v τ hv h1 h2 ⟨ns', a, b, c, e⟩ => by
    have hm := Int.emod_nonneg v (show (size : Int) ≠ 0 by lia)
    have hm2 := Int.emod_lt_of_pos v hsz
    obtain ⟨k, hk⟩ := Int.eq_ofNat_of_zero_le hm
    rw [hk] at hm2 ⊢
    exact hq τ k (by lia) ⟨hne, ns', p + 1, h1, a, b, c, by lia, e⟩ h2
  refine rd_ok hw (rd_ok hw ⟨by decide, by simp, ?_⟩)
  refine glo g_len (rd_ok (k1 _) (cnd_d (fun hpn => ?_) fun hpn => ?_))
  · have hpn : p = ns.length := by
      have hpn : (p : Int) = (((ns.map V.int).length : Nat) : Int) := hpn
      rw [List.length_map] at hpn; lia
    have pN : (p : Int).natAbs < 4294967296 := by lia
    have key : ∀ l : Int, 0 ≤ (l * 48271 + 40692 * (p : Int) + 11) % 2147483647 ∧ (l * 48271 + 40692 * (p : Int) + 11) % 2147483647 < 2147483647 := fun l => ⟨Int.emod_nonneg _ (by decide), Int.emod_lt_of_pos _ (by decide)⟩
    have fin2 : ∀ x : Int, 0 ≤ x ∧ x < 2147483647 → retP (.int (x / 16 % (size : Int))) (put (put σ wl (.list [.ref nm, .int ((p : Int) + 1)])) nm (.list (ns.map V.int ++ [.int x]))) Q := fun x hx => by
      refine retP_here (fin (x / 16) _ (by have := hx.1; lia) (by rw [put_ne hne, put_same]) (fun a o h1 h2 e => by rw [put_ne h2, put_ne h1]; exact e) ⟨ns ++ [x], by rw [put_same, List.map_append]; rfl, fun y hy => ?_, by simp; lia, by simp; lia⟩)
      rcases List.mem_append.mp hy with hy | hy
      · exact hr y hy
      · cases List.mem_singleton.mp hy; exact hx
    have hidx : ∀ {x}, idx (ns.map V.int ++ [V.int x]) (p : Int) = some (V.int x) := fun {x} => by rw [idx_nat, hpn]; simp
    refine newL ?_
    refine cm_nil (k1 _) (cnd_n (fun hns => ?_) fun hns => ?_)
    · have hlr := List.getLast_mem hns
      have hl1 : idx (ns.map V.int) (-1) = some (.int (ns.getLast hns)) := by
        rw [idx_last, List.getLast?_map, List.getLast?_eq_some_getLast hns]; rfl
      generalize ns.getLast hns = l at hlr hl1
      have hlr := hr l hlr
      exact rd_ok (k1 _) (itm hl1 (rd_ok (k1 _) ⟨⟨by lia, by decide⟩, ⟨by decide, pN⟩, by decide, rd_ok (k1 _) (lt_ok (by simp [lineOf]; lia) (rd_ok put_same (itm hidx ⟨⟨by decide, by decide⟩, hsz, fin2 _ (key l)⟩)))⟩))
    · exact rd_ok (k1 _) ⟨⟨by decide, by decide⟩, ⟨by decide, pN⟩, by decide, rd_ok (k1 _) (lt_ok (by simp [lineOf]; lia) (rd_ok put_same (itm hidx ⟨⟨by decide, by decide⟩, hsz, fin2 _ (key 5)⟩)))⟩
  · have hlt : p < ns.length := by
      have hpn : ¬ (p : Int) = (((ns.map V.int).length : Nat) : Int) := hpn
      rw [List.length_map] at hpn; lia
    have hget : idx (ns.map V.int) (p : Int) = some (.int ns[p]) := by rw [idx_nat]; simp [hlt]
    have hmem := hr ns[p] (List.getElem_mem hlt)
    exact rd_ok (k1 _) (itm hget ⟨hsz, retP_here (fin ns[p] _ hmem.1 put_same (fun a o h1 h2 e => by rw [put_ne h1]; exact e) ⟨ns, k1 _, hr, by lia, by lia⟩)⟩)
end Mine

namespace Mine
set_option tactic.hygienic false
set_option genSizeOfSpec false
open PySem
set_option maxRecDepth 100000
set_option linter.unusedSimpArgs false
set_option linter.unusedVariables false
variable {d : Nat} {σ : AH} {Q : QV}
structure ArgWf (x : Arg) : Prop where
  r : x.k = false → 0 ≤ x.v ∧ x.v ≤ 4
  k : x.k = true → 0 ≤ x.v ∧ x.v < 4294967296
structure ActWf (a : Act) : Prop where
  ok : ActOk a
  args : ∀ x ∈ a.args, ArgWf x
  dst : a.dst = -1 ∨ (2 ≤ a.dst ∧ a.dst ≤ 4)
  two : (a.op = Str.ofString "add" ∨ a.op = Str.ofString "lt") → 2 ≤ a.args.length
  more : (∃ i, a.more = .int i) ∨ ∃ s, a.more = .str s ∧ okS s = true
  alen : a.args.length ≤ 2

theorem place_c {wl nm : Addr} {P : Nat} (h : WellAt σ wl nm P) (hP : P < 90000)
    (hq : ∀ σ' (v : Nat), v < 5 → WellAt σ' wl nm (P + 1) → FrW σ σ' wl nm → Q (Arg.enc ⟨false, v⟩) σ') : calls G0 F0 (d + 2) 216 [.ref wl] σ Q := by
  refine call_fn f_law_place rfl fun cl hcl => ?_
  exact glo g_law_draw (use hcl (draw_c (size := 5) h (by lia) (by lia) (by lia) fun σ1 v hv h1 f1 => retP_here (hq σ1 v hv h1 f1)))
theorem fresh_ne {a b : Addr} {o : O} (ha : σ a = none) (hb : σ b = some o) : a ≠ b := by rintro rfl; rw [ha] at hb; cases hb
theorem WellAt.wl' {wl nm : Addr} {P : Nat} (h : WellAt σ wl nm P) {n : Addr} (hn : σ n = none) : n ≠ wl ∧ n ≠ nm := by
  obtain ⟨ns, p, a, b, _⟩ := h.ex
  exact ⟨fresh_ne hn a, fresh_ne hn b⟩
theorem tagOk : ∀ t : Fin 100, okS (Str.ofString "f" ++ Str.ofString (toString ((t.1 : Nat) : Int))) = true ∧ (Str.ofString "f").length + (Str.ofString (toString ((t.1 : Nat) : Int))).length ≤ 1000 := by decide +kernel

theorem law_call_c {wl nm : Addr} {P t : Nat} (h : WellAt σ wl nm P) (hP : P < 80000) (ht : t < 100)
    (hq : ∀ σ' a, ActWf a → WellAt σ' wl nm (P + 2) → FrW σ σ' wl nm → Q a.enc σ') : calls G0 F0 (d + 3) 230 [.ref wl, .int (t : Nat)] σ Q := by
  refine call_fn f_law_call rfl fun cl hcl => ?_
  refine glo g_Step (glo g_law_draw (use hcl (draw_c (d := d + 1) (size := 3) h (by lia) (by lia) (by lia) fun σ1 v hv h1 f1 => ?_)))
  refine glo g_law_place (use hcl (place_c h1 (by lia) fun σ2 r hr h2 f2 => newL (glo g_str ?_)))
  obtain ⟨t1, t2⟩ := tagOk ⟨t, ht⟩
  refine ⟨by lia, by lia, le_ok t2 (use hcl (step_fi fun n => retP_here ?_))⟩
  exact hq σ2 ⟨n, Str.ofString "call", 2 + v, [⟨false, r⟩], .str (Str.ofString "f" ++ Str.ofString (toString ((t : Nat) : Int))), false, 0⟩
    { ok := ⟨oks_call, by simp⟩
      args := fun x hx => by cases List.mem_singleton.mp hx; exact ⟨fun zz => ⟨by simp, by simp; lia⟩, fun e => by cases e⟩
      dst := .inr ⟨by show (2 : Int) ≤ 2 + v; lia, by show 2 + (v : Int) ≤ 4; lia⟩
      two := fun e => by simp [ofString_inj] at e
      more := .inr ⟨_, rfl, t1⟩
      alen := by simp } h2 (f1.trans f2)
theorem argWf_r {v : Nat} (h : v < 5) : ArgWf ⟨false, v⟩ := ⟨fun zz => ⟨by show (0 : Int) ≤ v; lia, by show (v : Int) ≤ 4; lia⟩, fun e => by simp at e⟩
theorem argWf_k {v : Int} (h : 0 ≤ v) (h2 : v < 4294967296) : ArgWf ⟨true, v⟩ := ⟨fun e => by simp at e, fun zz => ⟨h, h2⟩⟩
theorem dst_ok {v : Nat} (h : v < 3) : (2 + (v : Int)) = -1 ∨ (2 ≤ 2 + (v : Int) ∧ 2 + (v : Int) ≤ 4) := .inr ⟨by lia, by lia⟩
theorem argWf_one {x y : Arg} (h : ArgWf x) (hy : y ∈ [x]) : ArgWf y := by cases List.mem_singleton.mp hy; exact h
theorem argWf_two {x x' y : Arg} (h : ArgWf x) (h' : ArgWf x') (hy : y ∈ [x, x']) : ArgWf y := by
  rcases List.mem_cons.mp hy with rfl | hy
  · exact h
  · exact argWf_one h' hy
theorem step_c {wl nm : Addr} {P t : Nat} (h : WellAt σ wl nm P) (hP : P < 70000) (ht : t < 100)
    (hq : ∀ σ' a, ActWf a → WellAt σ' wl nm (P + 8) → FrW σ σ' wl nm → Q a.enc σ') : calls G0 F0 (d + 4) 223 [.ref wl, .int (t : Nat)] σ Q := by
  refine call_fn f_law_step rfl fun cl hcl => ?_
  refine glo g_law_draw (use hcl (draw_c (d := d + 2) (size := 7) h (by lia) (by lia) (by lia) fun σ1 kd hkd h1 f1 => ?_))
  refine glo g_law_draw (use hcl (draw_c (d := d + 2) (size := 3) h1 (by lia) (by lia) (by lia) fun σ2 g hg h2 f2 => ?_))
  have hdst := dst_ok hg
  refine cnd_d (fun k0 => ?_) fun zz => cnd_d (fun k0 => ?_) fun zz => cnd_d (fun k0 => ?_) fun zz => cnd_d (fun k0 => ?_) fun zz => cnd_d (fun k0 => ?_) fun zz => ?_
  · refine glo g_Step (glo g_law_draw (use hcl (draw_c (d := d + 2) (size := 4) h2 (by lia) (by lia) (by lia) fun σ3 v hv h3 f3 => newL (use hcl (step_fi fun n => retP_here ?_)))))
    exact hq σ3 ⟨n, Str.ofString "const", 2 + g, [⟨true, v⟩], .int 0, false, 0⟩ { ok := ⟨oks_const, by simp⟩, args := fun x hx => argWf_one (argWf_k (by lia) (by lia)) hx, dst := hdst, two := fun e => by simp [ofString_inj] at e, more := .inl ⟨_, rfl⟩, alen := by simp } (h3.mono (by lia)) ((f1.trans f2).trans f3)
  · refine glo g_Step (glo g_law_place (use hcl (place_c (d := d + 1) h2 (by lia) fun σ3 v hv h3 f3 => newL (use hcl (step_fi fun n => retP_here ?_)))))
    exact hq σ3 ⟨n, Str.ofString "copy", 2 + g, [⟨false, v⟩], .int 0, false, 0⟩ { ok := ⟨oks_copy, by simp⟩, args := fun x hx => argWf_one (argWf_r hv) hx, dst := hdst, two := fun e => by simp [ofString_inj] at e, more := .inl ⟨_, rfl⟩, alen := by simp } (h3.mono (by lia)) ((f1.trans f2).trans f3)
  · refine glo g_Step (glo g_law_place (use hcl (place_c (d := d + 1) h2 (by lia) fun σ3 v hv h3 f3 => newL (use hcl (step_fi fun n => retP_here ?_)))))
    exact hq σ3 ⟨n, Str.ofString "add", 2 + g, [⟨false, v⟩, ⟨true, 4294967295⟩], .int 0, false, 0⟩ { ok := ⟨oks_add, by simp⟩, args := fun x hx => argWf_two (argWf_r hv) (argWf_k (by lia) (by lia)) hx, dst := hdst, two := fun e => Nat.le_refl 2, more := .inl ⟨_, rfl⟩, alen := Nat.le_refl 2 } (h3.mono (by lia)) ((f1.trans f2).trans f3)
  · refine glo g_Step (glo g_law_place (use hcl (place_c (d := d + 1) h2 (by lia) fun σ3 v hv h3 f3 => newL (use hcl (step_fi fun n => retP_here ?_)))))
    exact hq σ3 ⟨n, Str.ofString "lt", 2 + g, [⟨true, 0⟩, ⟨false, v⟩], .int 0, false, 0⟩ { ok := ⟨oks_lt, by simp⟩, args := fun x hx => argWf_two (argWf_k (by lia) (by lia)) (argWf_r hv) hx, dst := hdst, two := fun e => Nat.le_refl 2, more := .inl ⟨_, rfl⟩, alen := Nat.le_refl 2 } (h3.mono (by lia)) ((f1.trans f2).trans f3)
  · refine glo g_Step ⟨⟨by decide, by lia⟩, glo g_law_place (use hcl (place_c (d := d + 1) h2 (by lia) fun σ3 v hv h3 f3 => newL (use hcl (step_new fun n hn => ?_))))⟩
    obtain ⟨n1, n2⟩ := h3.wl' hn
    refine glo g_law_draw (use hcl (draw_c (d := d + 2) (size := 2) (h3.put n1 n2) (by lia) (by lia) (by lia) fun σ5 w hw h5 f5 => ?_))
    have k5 := f5 n _ n1 n2 put_same
    refine rd_ok k5 (retP_inst put_same le_refl' ?_)
    refine hq _ ⟨n, Str.ofString "store", -1, [⟨true, 4096 + 4 * t⟩, ⟨false, v⟩], .int 4, decide ((w : Int) = 1), 0⟩ { ok := ⟨oks_store, by simp⟩, args := fun x hx => argWf_two (argWf_k (by lia) (by lia)) (argWf_r hv) hx, dst := .inl rfl, two := fun e => by simp [ofString_inj] at e, more := .inl ⟨_, rfl⟩, alen := Nat.le_refl 2 } ⟨h5.ne, ?_⟩ (((f1.trans f2).trans f3).trans fun a o e1 e2 e => ?_)
    · obtain ⟨ns, p, a, b, c1, c2, c3, c4⟩ := h5.ex
      refine ⟨ns, p, ?_, ?_, c1, c2, by lia, by lia⟩
      · simp only [del, put, Ne.symm n1, if_false]; exact a
      · simp only [del, put, Ne.symm n2, if_false]; exact b
    · have an : a ≠ n := by rintro rfl; rw [hn] at e; cases e
      have := f5 a o e1 e2 (by rw [put_ne an]; exact e)
      simp only [del, put, an, if_false]; exact this
  · exact glo g_law_call (use hcl (law_call_c (d := d) h2 (by lia) ht fun σ3 a ha h3 f3 => retP_here (hq σ3 a ha (h3.mono (by lia)) ((f1.trans f2).trans f3))))
structure EnWf (n : Nat) (e : En) : Prop where
  goals : ∀ g ∈ e.goals, g < n
  len : e.goals.length ≤ 10
  args : ∀ x ∈ e.args, ArgWf x

theorem test_c {wl nm : Addr} {P : Nat} (h : WellAt σ wl nm P) (hP : P < 80000)
    (hq : ∀ σ' a, ArgWf a → WellAt σ' wl nm (P + 2) → FrW σ σ' wl nm → Q a.enc σ') : calls G0 F0 (d + 3) 237 [.ref wl] σ Q := by
  refine call_fn f_law_test rfl fun cl hcl => ?_
  refine glo g_law_draw (use hcl (draw_c (d := d + 1) (size := 4) h (by lia) (by lia) (by lia) fun σ1 v hv h1 f1 => cnd_d (fun hz => ?_) fun hz => ?_))
  · exact glo g_law_draw (use hcl (draw_c (d := d + 1) (size := 3) h1 (by lia) (by lia) (by lia) fun σ2 w hw h2 f2 => retP_here (hq σ2 ⟨true, w⟩ (argWf_k (by lia) (by lia)) h2 (f1.trans f2))))
  · exact glo g_law_place (use hcl (place_c h1 (by lia) fun σ2 w hw h2 f2 => retP_here (hq σ2 ⟨false, w⟩ (argWf_r hw) h2 (f1.trans f2))))
theorem end_c {wl nm : Addr} {P many : Nat} (h : WellAt σ wl nm P) (hP : P < 70000) (h0 : 0 < many) (h9 : many < 10)
    (hq : ∀ σ' (e : EnS), EnWf many e.e → WellAt σ' wl nm (P + 10) → FrW σ σ' wl nm → Q e.enc σ') : calls G0 F0 (d + 4) 242 [.ref wl, .int (many : Nat)] σ Q := by
  refine call_fn f_law_end rfl fun cl hcl => ?_
  refine glo g_law_draw (use hcl (draw_c (d := d + 2) (size := 7) h (by lia) (by lia) (by lia) fun σ1 kd hkd h1 f1 => cnd_d (fun k0 => ?_) fun zz => cnd_d (fun k6 => ?_) fun zz => ?_))
  · refine glo g_Step (newL (glo g_law_draw (use hcl (draw_c (d := d + 2) (size := many) h1 (by lia) (by lia) (by lia) fun σ2 g hg h2 f2 => use hcl (step_fi fun n => retP_here ?_)))))
    exact hq σ2 ⟨n, 0, .jump g⟩ ⟨fun x hx => by cases List.mem_singleton.mp hx; exact hg, by simp [En.goals], fun x hx => absurd hx List.not_mem_nil⟩ (h2.mono (by lia)) (f1.trans f2)
  · refine glo g_Step (glo g_law_place (use hcl (place_c (d := d + 1) h1 (by lia) fun σ2 w hw h2 f2 => newL (use hcl (step_fi fun n => retP_here ?_)))))
    exact hq σ2 ⟨n, 0, .give ⟨false, w⟩⟩ ⟨fun x hx => absurd hx List.not_mem_nil, by simp [En.goals], fun x hx => argWf_one (argWf_r hw) hx⟩ (h2.mono (by lia)) (f1.trans f2)
  refine glo g_law_test (use hcl (test_c (d := d) h1 (by lia) fun σ2 a ha h2 f2 => cnd_d (fun k5 => ?_) fun zz => ?_))
  · refine glo g_Step (newL (glo g_law_draw (use hcl (draw_c (d := d + 2) (size := many) h2 (by lia) (by lia) (by lia) fun σ3 t ht h3 f3 => ?_))))
    refine glo g_law_draw (use hcl (draw_c (d := d + 2) (size := many) h3 (by lia) (by lia) (by lia) fun σ4 o ho h4 f4 => use hcl (step_fi fun n => retP_here ?_)))
    exact hq σ4 ⟨n, 0, .branch a t o⟩ ⟨fun x hx => by simp [En.goals] at hx; rcases hx with rfl | rfl; exact ht; exact ho, by simp [En.goals], fun x hx => argWf_one ha hx⟩ (h4.mono (by lia)) (((f1.trans f2).trans f3).trans f4)
  · refine ⟨rfl, glo g_range (glo g_law_draw (use hcl (draw_c (d := d + 2) (size := 3) h2 (by lia) (by lia) (by lia) fun σ3 c hc h3 f3 => ⟨by lia, by simp [lineOf]; lia, ?_⟩)))⟩
    refine comp_I (fun vs acc τ => ∃ lot : List Nat, acc = lot.map nV ∧ (∀ g ∈ lot, g < many) ∧ WellAt τ wl nm (P + 4 + lot.length) ∧ FrW σ τ wl nm ∧ lot.length + vs.length = 1 + c) (fun v vs acc τ hI K hK => ?_) (fun acc τ hI => ?_) _ _ _ ⟨[], rfl, by simp, h3, (f1.trans f2).trans f3, by simp; lia⟩
    · obtain ⟨lot, rfl, hl, hw, hf, hn⟩ := hI
      refine glo g_law_draw (use hcl (draw_c (d := d + 2) (size := many) hw (by simp at hn; lia) (by lia) (by lia) fun σ4 g hg h4 f4 => ?_))
      refine hK _ _ ⟨lot ++ [g], by simp [nV], fun x hx => ?_, by simpa [Nat.add_assoc] using h4, hf.trans f4, by simp at hn ⊢; lia⟩
      rcases List.mem_append.mp hx with hx | hx
      · exact hl x hx
      · cases List.mem_singleton.mp hx; exact hg
    · obtain ⟨lot, rfl, hl, hw, hf, hn⟩ := hI
      have hll : lot.length ≤ 3 := by simp at hn; lia
      refine newL (glo g_Step (newL (glo g_law_draw (use hcl (draw_c (d := d + 2) (size := 3) hw (by lia) (by lia) (by lia) fun σ4 low hlow h4 f4 => ?_)))))
      refine glo g_law_draw (use hcl (draw_c (d := d + 2) (size := many) h4 (by lia) (by lia) (by lia) fun σ5 o ho h5 f5 => use hcl (step_fi fun n => retP_here ?_)))
      exact hq σ5 ⟨n, 0, .table a low lot o⟩ ⟨fun x hx => by simp [En.goals] at hx; rcases hx with hx | rfl; exact hl x hx; exact ho, by simp [En.goals]; lia, fun x hx => argWf_one ha hx⟩ (h5.mono (by lia)) ((hf.trans f4).trans f5)
end Mine

namespace Mine
set_option tactic.hygienic false
set_option genSizeOfSpec false
open PySem
set_option maxRecDepth 100000
set_option linter.unusedSimpArgs false
set_option linter.unusedVariables false
variable {d : Nat} {σ : AH} {Q : QV}
noncomputable def sideV (s : List Act) : V := .fl (s.map Act.enc)
structure BlocksOk (sides : List (List Act)) (last : List EnS) : Prop where
  len : last.length = sides.length
  lo : 2 ≤ sides.length
  hi : sides.length ≤ 7
  acts : ∀ s ∈ sides, s.length ≤ 2 ∧ ∀ a ∈ s, ActWf a
  ends : ∀ e ∈ last, EnWf sides.length e.e

theorem sizes (v : Nat) (h : v < 4) : ∃ s : Nat, s ≤ 2 ∧ [V.int 0, V.int 0, V.int 1, V.int 2][v]? = some (.int (s : Int)) := by
  match v, h with
  | 0, _ => exact ⟨0, by lia, rfl⟩
  | 1, _ => exact ⟨0, by lia, rfl⟩
  | 2, _ => exact ⟨1, by lia, rfl⟩
  | 3, _ => exact ⟨2, by lia, rfl⟩

inductive LbI (wl nm sd la : Addr) (P mv : Nat) (σ2 : AH) (vs : List V) (τ : AH) (m : Lo) : Prop
  | mk (k : Nat) (sides : List (List Act)) (last : List EnS) (hvs : vs = ((List.range (2 + mv)).drop k).map (fun i : Nat => V.int (i : Int))) (hk : k ≤ 2 + mv) (hs : sides.length = k) (hl : last.length = k)
      (ks : τ sd = some (.list (sides.map sideV))) (kl : τ la = some (.list (last.map EnS.enc))) (hw : WellAt τ wl nm (P + 2 + 30 * k)) (hf : FrW σ2 τ wl nm) (ha : ∀ s ∈ sides, s.length ≤ 2 ∧ ∀ a ∈ s, ActWf a)
      (he : ∀ e ∈ last, EnWf (2 + mv) e.e) (hm : m = [(st "well", .ref wl), (st "many", .int (2 + (mv : Int))), (st "sides", .ref sd), (st "last", .ref la)])
inductive LbJ (wl nm sd la : Addr) (P k sz : Nat) (σ2 : AH) (sides : List (List Act)) (last : List EnS) (vs acc : List V) (τ' : AH) : Prop
  | mk (j : Nat) (acts : List Act) (hvs : vs = ((List.range sz).drop j).map (fun i : Nat => V.int (i : Int))) (hj : j ≤ sz) (hacc : acc = acts.map Act.enc) (hl : acts.length = j) (ha : ∀ a ∈ acts, ActWf a)
      (hw : WellAt τ' wl nm (P + 2 + 30 * k + 1 + 8 * j)) (hf : FrW σ2 τ' wl nm) (ks : τ' sd = some (.list (sides.map sideV))) (kl : τ' la = some (.list (last.map EnS.enc)))

theorem law_blocks_c {wl nm : Addr} {P : Nat} (h : WellAt σ wl nm P) (hP : P < 10000)
    (hq : ∀ σ' sides last, BlocksOk sides last → WellAt σ' wl nm (P + 400) → FrW σ σ' wl nm → Q (.tup [.fl (sides.map sideV), .fl (last.map EnS.enc)]) σ') : calls G0 F0 (d + 5) 247 [.ref wl] σ Q := by
  refine call_fn f_law_blocks rfl fun cl hcl => ?_
  refine glo g_law_draw (use hcl (draw_c (d := d + 3) (size := 5) h (by lia) (by lia) (by lia) fun σ1 kd hkd h1 f1 => cnd_d (fun k0 => ?_) fun k0 => ?_))
  · refine newL (glo g_law_call (use hcl (law_call_c (d := d + 1) (t := 1) h1 (by lia) (by lia) fun σ2 a1 ha1 h2 f2 => newL ?_)))
    refine glo g_law_call (use hcl (law_call_c (d := d + 1) (t := 2) h2 (by lia) (by lia) fun σ3 a2 ha2 h3 f3 => newL ?_))
    refine glo g_law_call (use hcl (law_call_c (d := d + 1) (t := 3) h3 (by lia) (by lia) fun σ4 a3 ha3 h4 f4 => newL (newL ?_)))
    refine glo g_Step (newL (use hcl (step_fi fun n1 => glo g_Step (newL (use hcl (step_fi fun n2 => glo g_Step (newL (use hcl (step_fi fun n3 => newL ?_)))))))))
    refine glo g_Step (newL (use hcl (step_fi fun n4 => newL (newL (retP_here ?_)))))
    have w0 : ArgWf ⟨false, 0⟩ := argWf_r (v := 0) (by lia)
    have w2 : ArgWf ⟨false, 2⟩ := argWf_r (v := 2) (by lia)
    refine hq σ4 [[], [a1], [a2], [a3]] [⟨n1, 0, .branch ⟨false, 0⟩ 1 2⟩, ⟨n2, 0, .jump 3⟩, ⟨n3, 0, .jump 3⟩, ⟨n4, 0, .give ⟨false, 2⟩⟩] ⟨rfl, by simp, by simp, fun s hs => ?_, fun e he => ?_⟩ (h4.mono (by lia)) (((f1.trans f2).trans f3).trans f4)
    · have one : ∀ {a : Act}, ActWf a → [a].length ≤ 2 ∧ ∀ x ∈ [a], ActWf x := fun {a} h => ⟨by simp, fun x hx => by cases List.mem_singleton.mp hx; exact h⟩
      simp only [List.mem_cons, List.not_mem_nil, or_false] at hs
      rcases hs with rfl | rfl | rfl | rfl
      · exact ⟨by simp, fun x hx => absurd hx List.not_mem_nil⟩
      · exact one ha1
      · exact one ha2
      · exact one ha3
    · simp only [List.mem_cons, List.not_mem_nil, or_false] at he
      have jw : EnWf 4 (.jump 3) := ⟨fun g hg => by cases List.mem_singleton.mp hg; lia, by simp [En.goals], fun x hx => absurd hx List.not_mem_nil⟩
      rcases he with rfl | rfl | rfl | rfl
      · exact ⟨fun g hg => by simp [En.goals] at hg; rcases hg with rfl | rfl <;> simp, by simp [En.goals], fun x hx => argWf_one w0 hx⟩
      · exact jw
      · exact jw
      · exact ⟨fun g hg => absurd hg List.not_mem_nil, by simp [En.goals], fun x hx => argWf_one w2 hx⟩
  · refine glo g_law_draw (use hcl (draw_c (d := d + 3) (size := 6) h1 (by lia) (by lia) (by lia) fun σ2 mv hmv h2 f2 => newO fun sd hsd => newO fun la hla => ?_))
    obtain ⟨s1, s2⟩ := h2.wl' hsd
    obtain ⟨l1, l2⟩ := (h2.put s1 s2).wl' hla
    have hsl : sd ≠ la := by rintro rfl; rw [put_same] at hla; cases hla
    have hlaσ : σ2 la = none := by rw [put_ne (Ne.symm hsl)] at hla; exact hla
    have h4 := (h2.put (o := .list []) s1 s2).put (o := .list []) l1 l2
    have kd0 : put (put σ2 sd (.list [])) la (.list []) sd = some (.list []) := by rw [put_ne hsl, put_same]
    have f4 : FrW σ2 (put (put σ2 sd (.list [])) la (.list [])) wl nm := FrW.of_le ((le_put hsd).put hlaσ)
    have e1 : (2 + (mv : Int)).toNat = 2 + mv := by lia
    refine glo g_range ⟨by lia, by simp [lineOf]; lia, ?_⟩
    refine for_c hcl (qle_seq (monoX hcl) qle_fn) (LbI wl nm sd la P mv σ2) (fun v vs τ m hI => ?_) (fun τ m hI => ?_) _ [(st "well", .ref wl), (st "many", .int (2 + (mv : Int))), (st "sides", .ref sd), (st "last", .ref la)] _ _ ?_
      ⟨0, [], [], by rw [e1]; rfl, by lia, rfl, rfl, kd0, put_same, h4, f4, fun s hs => absurd hs List.not_mem_nil, fun s hs => absurd hs List.not_mem_nil, rfl⟩
    · obtain ⟨k, sides, last, hvs, hk, hsl1, hll1, ksd, kla, hw, hf, hs, he, rfl⟩ := hI
      have hk2 : k < 2 + mv := by
        rcases Nat.lt_or_ge k (2 + mv) with h | h
        · exact h
        · rw [List.drop_of_length_le (by simpa using h)] at hvs; cases hvs
      rw [List.drop_eq_getElem_cons (by simpa using hk2), List.map_cons, List.getElem_range] at hvs
      obtain ⟨rfl, rfl⟩ := List.cons.inj hvs
      refine newL (glo g_law_draw (use hcl (draw_c (d := d + 3) (size := 4) hw (by lia) (by lia) (by lia) fun σ5 v hv h5 f5 => ?_)))
      obtain ⟨sz, hsz, hidx⟩ := sizes v hv
      have e2 : (sz : Int).toNat = sz := by lia
      have ksd5 := f5 sd _ s1 s2 ksd
      have kla5 := f5 la _ l1 l2 kla
      refine itm (idx_nat.trans hidx) (rd_ok ksd5 ⟨rfl, glo g_range ⟨by lia, by simp [lineOf]; lia, ?_⟩⟩)
      refine comp_I (LbJ wl nm sd la P k sz σ2 sides last) (fun v vs acc τ' hI K hK => ?_) (fun acc τ' hI => ?_) _ _ _
        ⟨0, [], by rw [e2]; rfl, by lia, rfl, rfl, fun s hs => absurd hs List.not_mem_nil, h5, hf.trans f5, ksd5, kla5⟩
      · obtain ⟨j, acts, hvs, hj, rfl, hjl, hact, hw6, hf6, kd6, kl6⟩ := hI
        have hj2 : j < sz := by
          rcases Nat.lt_or_ge j sz with h | h
          · exact h
          · rw [List.drop_of_length_le (by simpa using h)] at hvs; cases hvs
        rw [List.drop_eq_getElem_cons (by simpa using hj2), List.map_cons, List.getElem_range] at hvs
        obtain ⟨rfl, rfl⟩ := List.cons.inj hvs
        refine glo g_law_step ⟨⟨by decide, by lia⟩, ?_⟩
        have e3 : V.int (10 * (k : Int) + (j : Int)) = .int ((10 * k + j : Nat) : Int) := by congr 1
        refine use hcl (show calls G0 F0 (d + 4) 223 [.ref wl, .int (10 * (k : Int) + (j : Int))] τ' _ from ?_)
        rw [e3]
        refine step_c (d := d) hw6 (by lia) (by lia) fun σ7 a ha h7 f7 => ?_
        exact hK _ _ ⟨j + 1, acts ++ [a], rfl, by lia, by rw [List.map_append]; rfl, by simp [hjl], fun x hx => by
          rcases List.mem_append.mp hx with hx | hx
          · exact hact x hx
          · cases List.mem_singleton.mp hx; exact ha, h7.mono (by lia), hf6.trans f7, f7 sd _ s1 s2 kd6, f7 la _ l1 l2 kl6⟩
      · obtain ⟨j, acts, hvs, hj, rfl, hjl, hact, hw6, hf6, kd6, kl6⟩ := hI
        have hjs : j = sz := by
          rcases Nat.lt_or_ge j sz with h | h
          · rw [List.drop_eq_getElem_cons (by simpa using h)] at hvs; cases hvs
          · lia
        subst hjs
        have e4 : V.int (2 + (mv : Int)) = .int ((2 + mv : Nat) : Int) := by congr 1
        have kl7 : ∀ o, put τ' sd o la = some (.list (last.map EnS.enc)) := fun o => by rw [put_ne (Ne.symm hsl)]; exact kl6
        refine newL (rd_ok kd6 (lt_ok (by simp [lineOf]; lia) ?_))
        have hwl := hw6.put (n := sd) (o := .list (sides.map sideV ++ [.fl (acts.map Act.enc)])) s1 s2
        refine rd_ok (kl7 _) (glo g_law_end (use hcl (show calls G0 F0 (d + 4) 242 [.ref wl, .int (2 + (mv : Int))] _ _ from ?_)))
        rw [e4]
        refine end_c (d := d) (many := 2 + mv) hwl (by lia) (by lia) (by lia) fun σ8 e he8 h8 f8 => ?_
        have k1 := f8 sd _ s1 s2 put_same
        have k2 := f8 la _ l1 l2 (kl7 _)
        refine rd_ok k2 (lt_ok (by simp [lineOf]; lia) ⟨_, ?_, k + 1, sides ++ [acts], last ++ [e], rfl, by lia, by simp [hsl1], by simp [hll1], by rw [put_ne hsl, k1, List.map_append]; rfl, by rw [put_same, List.map_append]; rfl, (h8.put l1 l2).mono (by lia), fun a o e1 e2 e3 => ?_, fun s' hs' => ?_, fun e' he' => ?_, rfl⟩)
        · exact SubF.le rfl ⟨rfl, rfl, rfl, rfl, trivial⟩
        · have a1 : a ≠ sd := by rintro rfl; rw [hsd] at e3; cases e3
          have a2 : a ≠ la := by rintro rfl; rw [hlaσ] at e3; cases e3
          rw [put_ne a2]
          exact f8 a o e1 e2 (by rw [put_ne a1]; exact hf6 a o e1 e2 e3)
        · rcases List.mem_append.mp hs' with h | h
          · exact hs s' h
          · cases List.mem_singleton.mp h; exact ⟨by lia, hact⟩
        · rcases List.mem_append.mp he' with h | h
          · exact he e' h
          · cases List.mem_singleton.mp h; exact he8
    · obtain ⟨k, sides, last, hvs, hk, hsl1, hll1, ksd, kla, hw, hf, hs, he, rfl⟩ := hI
      have hk2 : 2 + mv ≤ k := by
        rcases Nat.lt_or_ge k (2 + mv) with h | h
        · rw [List.drop_eq_getElem_cons (by simpa using h)] at hvs; cases hvs
        · exact h
      have hkk : k = 2 + mv := by lia
      subst hkk
      refine retP_two (τ := del (del τ sd) la) ksd kla hsl le_refl' (hq _ sides last ⟨by rw [hsl1, hll1], by rw [hsl1]; lia, by rw [hsl1]; lia, hs, by rw [hsl1]; exact he⟩ ⟨hw.ne, ?_⟩ fun a o e1 e2 e3 => ?_)
      · obtain ⟨ns, p, a, b, c1, c2, c3, c4⟩ := hw.ex
        refine ⟨ns, p, ?_, ?_, c1, c2, by lia, by lia⟩
        · simp only [del, Ne.symm s1, Ne.symm l1, if_false]; exact a
        · simp only [del, Ne.symm s2, Ne.symm l2, if_false]; exact b
      · have e4 := f2 a o e1 e2 (f1 a o e1 e2 e3)
        have a1 : a ≠ sd := by rintro rfl; rw [hsd] at e4; cases e4
        have a2 : a ≠ la := by rintro rfl; rw [hlaσ] at e4; cases e4
        simp only [del, a1, a2, if_false]
        exact hf a o e1 e2 e4
    · exact SubF.le rfl ⟨rfl, rfl, rfl, rfl, trivial⟩
end Mine

namespace Mine
set_option tactic.hygienic false
set_option genSizeOfSpec false
open PySem
set_option maxRecDepth 100000
set_option linter.unusedSimpArgs false
set_option linter.unusedVariables false
variable {d : Nat} {σ : AH} {Q : QV}
theorem block_new {k : Int} (hq : ∀ n, σ n = none → Q (.ref n) (put σ n (.inst 52 [(Str.ofString "number", .int k), (Str.ofString "steps", .fl []), (Str.ofString "end", .none)]))) : calls G0 F0 (d + 2) 52 [.int k] σ Q := by
  refine call_cls f_Block fun n hn => call_fn f_Block_init rfl fun cl hcl => ?_
  refine rd_ok put_same (newL (rd_ok put_same (rd_ok put_same ?_)))
  simp only [put_put]
  exact retP_here ⟨rfl, retP_here (hq n hn)⟩
theorem func_new {k : Str} (hq : ∀ n b, σ n = none → σ b = none → b ≠ n → Q (.ref n) (put (put σ b (.list [])) n (.inst 73 [(Str.ofString "name", .str k), (Str.ofString "params", .fl []), (Str.ofString "is_static", .bool false), (Str.ofString "slots", .fl []), (Str.ofString "blocks", .ref b), (Str.ofString "registers", .int 0), (Str.ofString "has_value", .bool false)]))) : calls G0 F0 (d + 2) 73 [.str k] σ Q := by
  refine call_cls f_Func fun n hn => call_fn f_Func_init rfl fun cl hcl => ?_
  refine rd_ok put_same (newL (rd_ok put_same (rd_ok put_same (newL (rd_ok put_same (newO fun b hb => ?_))))))
  simp only [put_put] at hb ⊢
  have bn : b ≠ n := by rintro rfl; rw [put_same] at hb; cases hb
  have hbσ : σ b = none := by rw [put_ne bn] at hb; exact hb
  have k1 : ∀ o o', put (put σ n o) b o' n = some o := fun o o' => by rw [put_ne (Ne.symm bn), put_same]
  refine rd_ok (k1 _ _) (rd_ok put_same (rd_ok put_same ?_))
  simp only [put_put]
  have e : ∀ o o' o'', put (put (put σ n o) b o') n o'' = put (put σ b o') n o'' := fun o o' o'' => by
    funext a
    by_cases q : a = n
    · subst q; rw [put_same, put_same]
    · by_cases q2 : a = b
      · subst q2; rw [put_ne q, put_ne q, put_same, put_same]
      · rw [put_ne q, put_ne q2, put_ne q, put_ne q, put_ne q2]
  refine retP_here ⟨rfl, retP_here ?_⟩
  rw [e]
  exact hq n b hn hbσ bn
structure LawS (S : List Blk) : Prop where
  wf : WF S
  acts : ∀ (i : Nat) (B : Blk), S[i]? = some B → ∀ a ∈ B.steps, ActWf a
  ends : ∀ (i : Nat) (B : Blk), S[i]? = some B → EnWf S.length B.en.e
  first : ∃ (B : Blk) (r : List Act) (a b c : Act), S[0]? = some B ∧ B.steps = a :: b :: c :: r ∧ (a.op = Str.ofString "const" ∧ a.dst = 2 ∧ a.args = [⟨true, 2⟩]) ∧ (b.op = Str.ofString "const" ∧ b.dst = 3 ∧ b.args = [⟨true, 3⟩]) ∧ (c.op = Str.ofString "const" ∧ c.dst = 4 ∧ c.args = [⟨true, 4⟩])

structure BF (σ2 τ : AH) (f bl : Addr) (fs : Lo) (bs : List Addr) (S : List Blk) : Prop where
  le' : le σ2 τ
  hf : τ f = some (.inst 73 fs)
  hb : τ bl = some (.list (bs.map V.ref))
  at' : ∀ (i : Nat) (b : Addr) (B : Blk), bs[i]? = some b → S[i]? = some B → τ b = some B.obj
  nd : bs.Nodup
  fr : ∀ b ∈ bs, σ2 b = none ∧ b ≠ f ∧ b ≠ bl
  len : bs.length = S.length
theorem BF.push {σ2 τ : AH} {f bl : Addr} {fs : Lo} {bs : List Addr} {S : List Blk} (h : BF σ2 τ f bl fs bs S) (hbl : σ2 bl = none) (hfb : f ≠ bl) {n : Addr} (hn : τ n = none) (B : Blk) :
    BF σ2 (put (put τ n B.obj) bl (.list (bs.map V.ref ++ [.ref n]))) f bl fs (bs ++ [n]) (S ++ [B]) := by
  have n1 := fresh_ne hn h.hf
  have n2 := fresh_ne hn h.hb
  have n3 : ∀ b ∈ bs, b ≠ n := fun b hb => by
    obtain ⟨i, hi, rfl⟩ := List.mem_iff_getElem.mp hb
    have hi2 : i < S.length := by rw [← h.len]; exact hi
    have := h.at' i bs[i] S[i] (by simp [hi]) (by simp [hi2])
    exact Ne.symm (fresh_ne hn this)
  exact {
    le' := (h.le'.put (h.le'.none hn)).put hbl
    hf := by rw [put_ne hfb, put_ne (Ne.symm n1)]; exact h.hf
    hb := by rw [put_same]; simp
    at' := fun i b C hb hC => by
      rcases Nat.lt_or_ge i bs.length with q | q
      · rw [List.getElem?_append_left q] at hb
        rw [List.getElem?_append_left (by rw [← h.len]; exact q)] at hC
        have hm := List.mem_of_getElem? hb
        rw [put_ne (h.fr b hm).2.2, put_ne (n3 b hm)]; exact h.at' i b C hb hC
      · rw [List.getElem?_append_right q] at hb
        rw [List.getElem?_append_right (by rw [← h.len]; exact q)] at hC
        have hi0 : i - bs.length = 0 := by have := (List.getElem?_eq_some_iff.mp hb).1; simp at this; lia
        rw [hi0] at hb
        rw [← h.len, hi0] at hC
        simp at hb hC; subst hb; subst hC
        rw [put_ne n2, put_same]
    nd := List.nodup_append.mpr ⟨h.nd, by simp, fun a ha b hb => by simp at hb; subst hb; exact n3 a ha⟩
    fr := fun b hb => by
      rcases List.mem_append.mp hb with hb | hb
      · exact h.fr b hb
      · simp at hb; subst hb; exact ⟨h.le'.none hn, n1, n2⟩
    len := by simp [h.len] }

inductive LfI (f bl : Addr) (fs : Lo) (σ2 : AH) (sides : List (List Act)) (last : List EnS) (vs : List V) (τ : AH) (m : Lo) : Prop
  | mk (k : Nat) (bs : List Addr) (S : List Blk) (hvs : vs = ((List.range sides.length).drop k).map (fun i : Nat => V.int (i : Int))) (hk : k ≤ sides.length) (hb : BF σ2 τ f bl fs bs S) (hl : S.length = k)
      (hS : ∀ (i : Nat) (B : Blk), S[i]? = some B → B.num = i ∧ sides[i]? = some B.steps ∧ last[i]? = some B.en)
      (hm : m = [(st "sides", .fl (sides.map sideV)), (st "last", .fl (last.map EnS.enc)), (st "drawn", .ref f)])
theorem law_func_c {wl nm : Addr} {P : Nat} (h : WellAt σ wl nm P) (hP : P < 10000)
    (hq : ∀ σ' f bs S, FunAt σ' f bs S → LawS S → WellAt σ' wl nm (P + 400) → FrW σ σ' wl nm → Q (.ref f) σ') : calls G0 F0 (d + 6) 252 [.ref wl] σ Q := by
  refine call_fn f_law_func rfl fun cl hcl => ?_
  refine glo g_law_blocks (use hcl (law_blocks_c (d := d) h hP fun σ2 sides last ok h2 f2 => ?_))
  have hsl := ok.len
  have hlo := ok.lo
  have hhi := ok.hi
  have hacts := ok.acts
  have hends := ok.ends
  refine glo g_Func (use hcl (func_new fun f bl hf hbl hbf => newL (rd_ok put_same (rd_ok put_same (rd_ok put_same ?_)))))
  simp only [put_put]
  have hlof : (List.map sideV sides).length = sides.length := List.length_map ..
  have e1 : (((List.map sideV sides).length : Nat) : Int).toNat = sides.length := by rw [hlof]; lia
  refine glo g_range (glo g_len ⟨by lia, by simp [lineOf]; lia, ?_⟩)
  obtain ⟨fs, hfs, hfl, hfb⟩ : ∃ fs : Lo, fs = [(Str.ofString "name", V.str (Str.ofString "drawn")), (Str.ofString "params", .fl [.int 0, .int 1]), (Str.ofString "is_static", .bool false), (Str.ofString "slots", .fl []), (Str.ofString "blocks", .ref bl), (Str.ofString "registers", .int 5), (Str.ofString "has_value", .bool true)] ∧ fs.length < 50 ∧ getL (Str.ofString "blocks") fs = some (.ref bl) := ⟨_, rfl, by simp, rfl⟩
  have bf0 : BF σ2 (put (put σ2 bl (.list [])) f (.inst 73 fs)) f bl fs [] [] := {
    le' := (le_put hbl).put hf
    hf := put_same
    hb := by rw [put_ne hbf, put_same]; rfl
    at' := fun i b B e => by cases e
    nd := by simp
    fr := fun b e => absurd e List.not_mem_nil
    len := rfl }
  refine for_c hcl (qle_seq (monoX hcl) qle_fn) (LfI f bl fs σ2 sides last) (fun v vs τ m hI => ?_) (fun τ m hI => ?_) _ [(st "sides", .fl (sides.map sideV)), (st "last", .fl (last.map EnS.enc)), (st "drawn", .ref f)] _ _ ?_
    ⟨0, [], [], by rw [e1]; rfl, by lia, (by subst hfs; exact bf0), rfl, fun i B e => (by cases e), rfl⟩
  · obtain ⟨k, bs, S, hvs, hk, bf, hSl, hS, rfl⟩ := hI
    have hk2 : k < sides.length := by
      rcases Nat.lt_or_ge k sides.length with h | h
      · exact h
      · rw [List.drop_of_length_le (by simpa using h)] at hvs; cases hvs
    rw [List.drop_eq_getElem_cons (by simpa using hk2), List.map_cons, List.getElem_range] at hvs
    obtain ⟨rfl, rfl⟩ := List.cons.inj hvs
    have hk3 : k < last.length := by rw [hsl]; exact hk2
    have hs0 : sides[k]? = some sides[k] := by simp [hk2]
    have hl0 : last[k]? = some last[k] := by simp [hk3]
    generalize sides[k] = s at hs0
    generalize last[k] = e at hl0
    have hs1 : idx (sides.map sideV) (k : Int) = some (sideV s) := by rw [idx_nat]; simp [hs0]
    have hl1 : idx (last.map EnS.enc) (k : Int) = some e.enc := by rw [idx_nat]; simp [hl0]
    have hbsl := bf.len
    refine glo g_Block (use hcl (block_new fun n hn => itm hs1 (rd_ok put_same (itm hl1 (rd_ok put_same ?_)))))
    have kf : ∀ o o' o'', put (put (put τ n o) n o') n o'' f = some (.inst 73 fs) := fun o o' o'' => by rw [put_put, put_put]; exact le_put hn _ _ bf.hf
    have kb : ∀ o o' o'', put (put (put τ n o) n o') n o'' bl = some (.list (bs.map V.ref)) := fun o o' o'' => by rw [put_put, put_put]; exact le_put hn _ _ bf.hb
    refine rd_ok (kf _ _ _) (fld hfb (rd_ok (kb _ _ _) (rd_ok (kb _ _ _) (lt_ok (by rw [List.length_map]; simp [lineOf]; lia) ⟨_, ?_, k + 1, bs ++ [n], S ++ [⟨k, s, e⟩], rfl, by lia, ?_, by simp [hSl], fun i B hB => ?_, rfl⟩))))
    · exact SubF.le rfl ⟨rfl, rfl, rfl, trivial⟩
    · rw [put_put, put_put]; exact bf.push hbl (Ne.symm hbf) hn ⟨k, s, e⟩
    · rcases Nat.lt_or_ge i S.length with q | q
      · rw [List.getElem?_append_left q] at hB; exact hS i B hB
      · rw [List.getElem?_append_right q] at hB
        have hi0 : i - S.length = 0 := by have := (List.getElem?_eq_some_iff.mp hB).1; simp at this; lia
        rw [hi0] at hB; cases hB
        have hik : i = k := by lia
        subst hik
        exact ⟨rfl, hs0, hl0⟩
  · obtain ⟨k, bs, S, hvs, hk, bf, hSl, hS, rfl⟩ := hI
    have hk2 : sides.length ≤ k := by
      rcases Nat.lt_or_ge k sides.length with h | h
      · rw [List.drop_eq_getElem_cons (by simpa using h)] at hvs; cases hvs
      · exact h
    have hkk : k = sides.length := by lia
    subst hkk
    have hpos : 0 < S.length := by lia
    have hS0 : S[0]? = some S[0] := by simp [hpos]
    have hpb : 0 < bs.length := by rw [bf.len]; exact hpos
    have hb0 : bs[0]? = some bs[0] := by simp [hpb]
    generalize S[0] = B0 at hS0
    generalize bs[0] = b0 at hb0
    have kb0 := bf.at' 0 b0 B0 hb0 hS0
    have kf := bf.hf
    have kb := bf.hb
    have hidx : idx (bs.map V.ref) 0 = some (.ref b0) := by
      show idx (bs.map V.ref) ((0 : Nat) : Int) = _
      rw [idx_nat]; simp [hb0]
    refine ⟨rfl, comp_I (fun vs acc τ' => τ' = τ ∧ ∃ (j : Nat) (acts : List Act), vs = ((List.range 3).drop j).map (fun i : Nat => V.int (2 + (i : Int))) ∧ j ≤ 3 ∧ acc = acts.map Act.enc ∧ acts.length = j ∧ ∀ (i : Nat) (a : Act), acts[i]? = some a → ActWf a ∧ a.op = Str.ofString "const" ∧ a.dst = 2 + (i : Int) ∧ a.args = [⟨true, 2 + (i : Int)⟩]) (fun v vs acc τ' hI K hK => ?_) (fun acc τ' hI => ?_) _ _ _
      ⟨rfl, 0, [], rfl, by lia, rfl, rfl, fun i a e => (by cases e)⟩⟩
    · obtain ⟨rfl, j, acts, hvs, hj, rfl, hjl, hact⟩ := hI
      have hj2 : j < 3 := by
        rcases Nat.lt_or_ge j 3 with h | h
        · exact h
        · rw [List.drop_of_length_le (by simpa using h)] at hvs; cases hvs
      rw [List.drop_eq_getElem_cons (by simpa using hj2), List.map_cons, List.getElem_range] at hvs
      obtain ⟨rfl, rfl⟩ := List.cons.inj hvs
      refine glo g_Step (newL (use hcl (step_fi fun n => ?_)))
      have hw : ActWf ⟨n, Str.ofString "const", 2 + (j : Int), [⟨true, 2 + (j : Int)⟩], .int 0, false, 0⟩ := { ok := ⟨oks_const, by simp⟩, args := fun x hx => argWf_one (argWf_k (by lia) (by lia)) hx, dst := .inr ⟨by show (2 : Int) ≤ 2 + j; lia, by show 2 + (j : Int) ≤ 4; lia⟩, two := fun e => by simp [ofString_inj] at e, more := .inl ⟨_, rfl⟩, alen := by simp }
      refine hK (Act.enc ⟨n, Str.ofString "const", 2 + (j : Int), [⟨true, 2 + (j : Int)⟩], .int 0, false, 0⟩) _ ⟨rfl, j + 1, acts ++ [⟨n, Str.ofString "const", 2 + (j : Int), [⟨true, 2 + (j : Int)⟩], .int 0, false, 0⟩], rfl, by lia, by rw [List.map_append]; rfl, by simp [hjl], fun i a e => ?_⟩
      rcases Nat.lt_or_ge i acts.length with q | q
      · rw [List.getElem?_append_left q] at e; exact hact i a e
      · rw [List.getElem?_append_right q] at e
        have hi0 : i - acts.length = 0 := by have := (List.getElem?_eq_some_iff.mp e).1; simp at this; lia
        rw [hi0] at e; cases e
        have hij : i = j := by lia
        subst hij
        exact ⟨hw, rfl, rfl, rfl⟩
    · obtain ⟨rfl, j, acts, hvs, hj, rfl, hjl, hact⟩ := hI
      have hj3 : j = 3 := by
        rcases Nat.lt_or_ge j 3 with h | h
        · rw [List.drop_eq_getElem_cons (by simpa using h)] at hvs; cases hvs
        · lia
      subst hj3
      obtain ⟨a, b, c, rfl⟩ : ∃ a b c, acts = [a, b, c] := by
        match acts, hjl with
        | [a, b, c], _ => exact ⟨a, b, c, rfl⟩
      have ha := hact 0 a rfl
      have hb := hact 1 b rfl
      have hc := hact 2 c rfl
      have hB0 := hS 0 B0 hS0
      have hB0s := hacts B0.steps (List.mem_of_getElem? hB0.2.1)
      obtain ⟨num0, steps0, en0⟩ := B0
      have hb0m := List.mem_of_getElem? hb0
      obtain ⟨g1, g2, g3⟩ := bf.fr b0 hb0m
      have kf2 : ∀ o, put τ' b0 o f = some (.inst 73 fs) := fun o => by rw [put_ne (Ne.symm g2)]; exact kf
      have kb2 : ∀ o, put τ' b0 o bl = some (.list (bs.map V.ref)) := fun o => by rw [put_ne (Ne.symm g3)]; exact kb
      refine newL (rd_ok kf (fld hfb (rd_ok kb (itm hidx (rd_ok kb0 (fld rfl (le_ok ?_ (newL ?_))))))))
      · have := hB0s.1; simp [lineOf] at this ⊢; lia
      refine rd_ok kf (fld hfb (rd_ok kb (itm hidx (rd_ok kb0 (retP_field (b := f) (a := bl) (kf2 _) hfb (kb2 _) hbf ?_)))))
      have leF : ∀ o o', le σ2 (del (put (put τ' b0 o) f o') bl) := fun o o' => ((bf.le'.put g1).put hf).del hbl
      have eqv : ∀ (i : Nat) (B : Blk), (S.set 0 ⟨num0, a :: b :: c :: steps0, en0⟩)[i]? = some B → (i < S.length ∧ B.num = i ∧ (∀ e, last[i]? = some e → B.en = e) ∧ (∃ e, last[i]? = some e) ∧ B.steps.length ≤ 5 ∧ ∀ x ∈ B.steps, ActWf x) := fun i B hB => by
        rw [List.getElem?_set] at hB
        by_cases q : 0 = i
        · subst q
          rw [if_pos rfl, if_pos hpos] at hB
          cases hB
          obtain ⟨q1, q2, q3⟩ := hB0
          simp only at q1 q2 q3
          refine ⟨hpos, q1, fun e he => by rw [q3] at he; exact Option.some.inj he, ⟨_, q3⟩, ?_, fun x hx => ?_⟩
          · have := hB0s.1; simp at this ⊢; lia
          · simp only [List.mem_cons] at hx
            rcases hx with rfl | rfl | rfl | hx
            · exact ha.1
            · exact hb.1
            · exact hc.1
            · exact hB0s.2 x hx
        · rw [if_neg q] at hB
          obtain ⟨q1, q2, q3⟩ := hS i B hB
          have q4 := hacts B.steps (List.mem_of_getElem? q2)
          exact ⟨(List.getElem?_eq_some_iff.mp hB).1, q1, fun e he => by rw [q3] at he; exact Option.some.inj he, ⟨_, q3⟩, by lia, q4.2⟩
      have endw : ∀ (i : Nat) (B : Blk), (S.set 0 ⟨num0, a :: b :: c :: steps0, en0⟩)[i]? = some B → EnWf S.length B.en.e := fun i B hB => by
        obtain ⟨_, _, q3, ⟨e, q4⟩, _⟩ := eqv i B hB
        rw [q3 e q4, hSl]; exact hends e (List.mem_of_getElem? q4)
      refine hq _ f bs (S.set 0 ⟨num0, a :: b :: c :: steps0, en0⟩) ?_ ?_ (h2.le (leF _ _)) (f2.trans (FrW.of_le (leF _ _)))
      · exact {
          fo := ⟨_, by show (if f = bl then none else put _ _ _ f) = _; rw [if_neg (Ne.symm hbf), put_same], getL_hit, by rw [setL_len hfb]; exact hfl⟩
          len := by rw [List.length_set]; exact bf.len
          at' := fun i x B hx hB => by
            have hm := List.mem_of_getElem? hx
            obtain ⟨_, x2, x3⟩ := bf.fr x hm
            show (if x = bl then none else put _ _ _ x) = _
            rw [if_neg x3, put_ne x2]
            rw [List.getElem?_set] at hB
            by_cases q : 0 = i
            · subst q
              rw [if_pos rfl, if_pos hpos] at hB
              cases hB
              rw [hb0] at hx; cases hx
              rw [put_same]
              rfl
            · rw [if_neg q] at hB
              have : x ≠ b0 := by rintro rfl; exact q (nodup_inj bf.nd hb0 hx)
              rw [put_ne this]; exact bf.at' i x B hx hB
          nd := bf.nd
          nf := fun q => (bf.fr f q).2.1 rfl }
      · have gls : ∀ i, (∀ g ∈ gl (S.set 0 ⟨num0, a :: b :: c :: steps0, en0⟩) i, g < S.length) ∧ (gl (S.set 0 ⟨num0, a :: b :: c :: steps0, en0⟩) i).length ≤ 50 := fun i => by
          unfold gl
          cases hB : (S.set 0 ⟨num0, a :: b :: c :: steps0, en0⟩)[i]? with
          | none => exact ⟨fun g hg => absurd hg List.not_mem_nil, Nat.zero_le _⟩
          | some B =>
            have := endw i B hB
            exact ⟨this.goals, Nat.le_trans this.len (by decide)⟩
        exact {
          wf := {
            pos := by rw [List.length_set]; exact hpos
            len := by rw [List.length_set]; lia
            num := fun i B hB => (eqv i B hB).2.1
            goals := ⟨fun i => by rw [List.length_set]; exact (gls i).1, fun i => (gls i).2⟩
            steps := fun i B hB x hx => ((eqv i B hB).2.2.2.2.2 x hx).ok
            tot := by
              have : ∀ L : List Nat, wsum (stepsL (S.set 0 ⟨num0, a :: b :: c :: steps0, en0⟩)) L ≤ 5 * L.length := fun L => by
                induction L with
                | nil => simp [wsum]
                | cons x L ih =>
                  rw [wsum_cons]
                  have : stepsL (S.set 0 ⟨num0, a :: b :: c :: steps0, en0⟩) x ≤ 5 := by
                    unfold stepsL
                    cases hB : (S.set 0 ⟨num0, a :: b :: c :: steps0, en0⟩)[x]? with
                    | none => exact Nat.zero_le _
                    | some B => exact (eqv x B hB).2.2.2.2.1
                  simp; lia
              have := this (List.range (S.set 0 ⟨num0, a :: b :: c :: steps0, en0⟩).length)
              simp at this ⊢
              lia }
          acts := fun i B hB => (eqv i B hB).2.2.2.2.2
          ends := fun i B hB => by rw [List.length_set]; exact endw i B hB
          first := ⟨⟨num0, a :: b :: c :: steps0, en0⟩, steps0, a, b, c, by rw [List.getElem?_set, if_pos rfl, if_pos hpos], rfl, ha.2, hb.2, hc.2⟩ }
  · exact SubF.le rfl ⟨rfl, rfl, rfl, trivial⟩
end Mine

namespace Mine
set_option tactic.hygienic false
set_option genSizeOfSpec false
set_option genInjectivity false
open PySem
set_option maxRecDepth 100000
set_option linter.unusedSimpArgs false
set_option linter.unusedVariables false
variable {d : Nat} {σ : AH} {Q : QV}
/-- One entry of a trace. -/
structure TE where
  op : Str
  more : V
  sides : List Int
  vol : Bool
noncomputable def TE.enc (e : TE) : V := .tup [.str e.op, e.more, .tup (e.sides.map V.int), .bool e.vol]
noncomputable def valR (R : Int → Int) (a : Arg) : Int := if a.k = true then a.v else R a.v
noncomputable def doV (a : Act) (ss : List Int) (n : Nat) : Int :=
  if a.op = Str.ofString "call" then (5 * (n : Int) + ss.headD 0) % 4
  else if a.op = Str.ofString "add" then (ss.headD 0 + (ss.tail.headD 0)) % 4294967296
  else if a.op = Str.ofString "lt" then (if ss.headD 0 < ss.tail.headD 0 ∧ ss.tail.headD 0 < 2147483648 then 1 else 0)
  else ss.headD 0
noncomputable def upd (R : Int → Int) (k v : Int) : Int → Int := fun i => if i = k then v else R i
noncomputable def doR (a : Act) (R : Int → Int) (n : Nat) : Int → Int := if 0 ≤ a.dst then upd R a.dst (doV a (a.args.map (valR R)) n) else R
noncomputable def teOf (a : Act) (R : Int → Int) : TE := ⟨a.op, a.more, a.args.map (valR R), a.vol⟩
noncomputable def runA : List Act → (Int → Int) → List TE → (Int → Int) × List TE
  | [], R, tr => (R, tr)
  | a :: r, R, tr => runA r (doR a R tr.length) (tr ++ [teOf a R])
noncomputable def nextE (R : Int → Int) : En → Nat
  | .jump g => g
  | .branch a t o => if valR R a ≠ 0 then t else o
  | .table a low lot o => (lot[((valR R a - low) % 4294967296).toNat]?).getD o
  | .give _ => 0
structure HeldOk (kvs : List (Int × V)) (R : Int → Int) (D : Int → Bool) : Prop where
  get : ∀ r, D r = true → getD r kvs = some (.int (R r))
  nd : (kvs.map (·.1)).Nodup
  rng : ∀ k ∈ kvs.map (·.1), 0 ≤ k ∧ k ≤ 4

theorem value_c {h : Addr} {kvs : List (Int × V)} {R : Int → Int} {D : Int → Bool} {a : Arg} (hh : σ h = some (.dict kvs)) (ho : HeldOk kvs R D) (hD : a.k = false → D a.v = true) (hq : Q (.int (valR R a)) σ) : calls G0 F0 (d + 1) 259 [.ref h, a.enc] σ Q := by
  refine call_fn f_law_value rfl fun cl hcl => ?_
  obtain ⟨k, v⟩ := a
  cases k with
  | true => exact yes (retP_here hq)
  | false => exact no (rd_ok hh (itm (ho.get v (hD rfl)) (retP_here hq)))
theorem putD_keys {k : Int} {v : V} : ∀ {kvs : List (Int × V)}, (putD k v kvs).map (·.1) = if k ∈ kvs.map (·.1) then kvs.map (·.1) else kvs.map (·.1) ++ [k]
  | [] => by simp [putD]
  | (j, w) :: r => by
    have ih := putD_keys (k := k) (v := v) (kvs := r)
    simp only [putD]
    by_cases h : k = j
    · subst h; simp
    · simp only [h, if_false, List.map_cons, ih, List.mem_cons, false_or]
      split <;> simp
theorem getD_put {k i : Int} {v : V} : ∀ {kvs : List (Int × V)}, getD i (putD k v kvs) = if i = k then some v else getD i kvs
  | [] => by simp [putD, getD]
  | (j, w) :: r => by
    have ih := getD_put (k := k) (i := i) (v := v) (kvs := r)
    simp only [putD]
    by_cases h : k = j
    · subst h
      simp only [if_true, getD]
      by_cases q : i = k <;> simp [q]
    · simp only [h, if_false, getD, ih]
      by_cases q : i = j
      · subst q; simp [show ¬ i = k from fun e => h e.symm]
      · simp [q]
theorem HeldOk.put {kvs : List (Int × V)} {R : Int → Int} {D : Int → Bool} (h : HeldOk kvs R D) {k v : Int} (hk : 0 ≤ k ∧ k ≤ 4) : HeldOk (putD k (.int v) kvs) (upd R k v) (fun r => D r || decide (r = k)) where
  get r hr := by
    rw [getD_put]
    unfold upd
    by_cases q : r = k
    · simp [q]
    · simp [q] at hr ⊢; exact h.get r hr
  nd := by
    rw [putD_keys]
    split
    · exact h.nd
    · rename_i q
      exact List.nodup_append.mpr ⟨h.nd, by simp, fun a ha b hb => by simp at hb; subst hb; rintro rfl; exact q ha⟩
  rng x hx := by
    rw [putD_keys] at hx
    split at hx
    · exact h.rng x hx
    · rcases List.mem_append.mp hx with hx | hx
      · exact h.rng x hx
      · simp at hx; subst hx; exact hk
theorem HeldOk.len {kvs : List (Int × V)} {R : Int → Int} {D : Int → Bool} (h : HeldOk kvs R D) : kvs.length ≤ 5 := by
  have h1 : ((kvs.map (·.1)).map Int.toNat).Nodup := by
    refine List.pairwise_map.mpr ?_
    have := List.pairwise_iff_getElem.mp h.nd
    refine List.pairwise_iff_getElem.mpr fun i j hi hj hij e => this i j hi hj hij ?_
    have a1 := h.rng _ (List.getElem_mem hi)
    have a2 := h.rng _ (List.getElem_mem hj)
    lia
  have := nodup_lt_length 5 _ h1 fun x hx => by
    obtain ⟨y, hy, rfl⟩ := List.mem_map.mp hx
    have := h.rng y hy; lia
  simpa using this

theorem do_c {h t : Addr} {kvs : List (Int × V)} {R : Int → Int} {D : Int → Bool} {a : Act} {tr : List TE} (hh : σ h = some (.dict kvs)) (ht : σ t = some (.list (tr.map TE.enc))) (ho : HeldOk kvs R D) (wa : ActWf a) (hD : ∀ x ∈ a.args, x.k = false → D x.v = true) (hl : tr.length < 100000)
    (hq : ∀ σ' kvs', σ' h = some (.dict kvs') → σ' t = some (.list ((tr ++ [teOf a R]).map TE.enc)) → HeldOk kvs' (doR a R tr.length) (fun r => D r || (decide (0 ≤ a.dst) && decide (r = a.dst))) → (∀ x, x ≠ h → x ≠ t → σ' x = σ x) → Q .none σ') : calls G0 F0 (d + 2) 264 [a.enc, .ref h, .ref t] σ Q := by
  refine call_fn f_law_do rfl fun cl hcl => ?_
  have hht : h ≠ t := by rintro rfl; rw [hh] at ht; cases ht
  have hhl := ho.len
  have hlen := wa.alen
  have hop := wa.ok.op
  have ll : ((tr.map TE.enc).length : Int) = (tr.length : Int) := by rw [List.length_map]
  refine cut hcl qle_fn 3 (fun τ m => τ = σ ∧ m = [(st "act", a.enc), (st "held", .ref h), (st "trace", .ref t), (st "sides", .fl ((a.args.map (valR R)).map V.int)), (st "value", .int (doV a (a.args.map (valR R)) tr.length))]) ?_ fun τ m ⟨e0, e1⟩ => ?_
  · have fin : ∀ {m} v, v = doV a (a.args.map (valR R)) tr.length → LeF [(st "act", a.enc), (st "held", .ref h), (st "trace", .ref t), (st "sides", .fl ((a.args.map (valR R)).map V.int)), (st "value", .int v)] m → ∃ m1, LeF m1 m ∧ (σ = σ ∧ m1 = [(st "act", a.enc), (st "held", .ref h), (st "trace", .ref t), (st "sides", .fl ((a.args.map (valR R)).map V.int)), (st "value", .int (doV a (a.args.map (valR R)) tr.length))]) := fun {m} v e h => ⟨_, h, rfl, by rw [e]⟩
    refine ⟨rfl, comp_by (fun v => match v with | .tup [.str s, .int i] => if s = Str.ofString "k" then .int i else .int (R i) | v => v) _ _ (fun v hv K hK => ?_) ?_⟩
    · obtain ⟨x, hx, rfl⟩ := List.mem_map.mp hv
      refine glo g_law_value (use hcl (value_c hh ho (hD x hx) ?_))
      obtain ⟨k, v⟩ := x
      cases k with
      | true => exact hK
      | false => exact (show (if Str.ofString "r" = Str.ofString "k" then V.int v else .int (R v)) = .int (R v) from if_neg (by simp [ofString_inj])) ▸ hK
    · have hm : [] ++ List.map (fun v => match v with | .tup [.str s, .int i] => if s = Str.ofString "k" then V.int i else V.int (R i) | v => v) (a.args.map Arg.enc) = (a.args.map (valR R)).map V.int := by
        simp only [List.nil_append, List.map_map]
        refine List.map_congr_left fun x zz => ?_
        obtain ⟨k, v⟩ := x
        cases k <;> simp [Arg.enc, valR, ofString_inj]
      rw [hm]
      refine newL ?_
      obtain ⟨id, op, dst, args, more, vol, line⟩ := a
      have hargs := wa.ok.args
      have htwo := wa.two
      simp only at hargs htwo hop hlen
      obtain ⟨x, xs, rfl⟩ : ∃ x xs, args = x :: xs := by
        cases args with
        | nil => exact absurd rfl hargs
        | cons x xs => exact ⟨x, xs, rfl⟩
      have i1 : ∀ {y ys}, xs = y :: ys → idx (((x :: xs).map (valR R)).map V.int) 1 = some (.int (valR R y)) := fun {y ys} e => by rw [e]; rfl
      have two : (op = Str.ofString "add" ∨ op = Str.ofString "lt") → ∃ y ys, xs = y :: ys := fun e => by
        have := htwo e
        cases xs with
        | nil => simp at this
        | cons y ys => exact ⟨y, ys, rfl⟩
      refine itm rfl (chk_ok hop (cnd_d (fun hc => ?_) fun hc => chk_ok hop (cnd_d (fun ha => ?_) fun ha => chk_ok hop (cnd_d (fun hlt => ?_) fun hlt => ?_))))
      · refine glo g_len (rd_ok ht ⟨⟨by decide, by rw [List.length_map]; lia⟩, itm rfl ⟨by decide, fin ((5 * (((tr.map TE.enc).length : Nat) : Int) + valR R x) % 4) ?_ ?_⟩⟩)
        · rw [ll]; exact (if_pos hc).symm
        · exact SubF.le rfl ⟨rfl, rfl, rfl, rfl, rfl, trivial⟩
      · obtain ⟨y, ys, e⟩ := two (.inl ha)
        refine itm rfl (itm (i1 e) ⟨by decide, fin ((valR R x + valR R y) % 4294967296) ?_ ?_⟩)
        · subst e; exact ((if_neg hc).trans (if_pos ha)).symm
        · exact SubF.le rfl ⟨rfl, rfl, rfl, rfl, rfl, trivial⟩
      · obtain ⟨y, ys, e⟩ := two (.inr hlt)
        refine itm rfl (itm (i1 e) (cnd_d (fun c1 => cnd_d (fun c2 => fin 1 ?_ ?_) fun c2 => fin 0 ?_ ?_) fun c1 => no (fin 0 ?_ ?_)))
        · subst e; exact ((if_neg hc).trans ((if_neg ha).trans ((if_pos hlt).trans (if_pos ⟨c1, c2⟩)))).symm
        · exact SubF.le rfl ⟨rfl, rfl, rfl, rfl, rfl, trivial⟩
        · subst e; exact ((if_neg hc).trans ((if_neg ha).trans ((if_pos hlt).trans (if_neg fun q => c2 q.2)))).symm
        · exact SubF.le rfl ⟨rfl, rfl, rfl, rfl, rfl, trivial⟩
        · subst e; exact ((if_neg hc).trans ((if_neg ha).trans ((if_pos hlt).trans (if_neg fun q => c1 q.1)))).symm
        · exact SubF.le rfl ⟨rfl, rfl, rfl, rfl, rfl, trivial⟩
      · refine fin (valR R x) ?_ ?_
        · exact ((if_neg hc).trans ((if_neg ha).trans (if_neg hlt))).symm
        · exact SubF.le rfl ⟨rfl, rfl, rfl, rfl, rfl, trivial⟩
  · subst e0 e1
    have kh : ∀ o, put τ t o h = some (.dict kvs) := fun o => by rw [put_ne hht]; exact hh
    refine rd_ok ht (glo g_tuple (le_ok (by simp; lia) (rd_ok ht (lt_ok (by simp [lineOf]; lia) (cnd_d (fun hd => ?_) fun hd => ?_)))))
    · refine rd_ok (kh _) (lt_ok (by simp [lineOf]; lia) (retP_here (hq _ (putD a.dst (.int (doV a (a.args.map (valR R)) tr.length)) kvs) put_same (by rw [put_ne (Ne.symm hht), put_same, List.map_append]; rfl) ?_ fun y h1 h2 => by rw [put_ne h1, put_ne h2])))
      have hd : 0 ≤ a.dst := hd
      have hdst := wa.dst
      have := ho.put (k := a.dst) (v := doV a (a.args.map (valR R)) tr.length) (by lia)
      simp only [doR, hd, if_true, decide_true, Bool.true_and]
      exact this
    · have hd : ¬ 0 ≤ a.dst := hd
      refine retP_here (hq _ kvs (kh _) (by rw [put_same, List.map_append]; rfl) ?_ fun y h1 h2 => by rw [put_ne h2])
      simp only [doR, hd, if_false, decide_false, Bool.false_and, Bool.or_false]
      exact ho
end Mine

namespace Mine
set_option tactic.hygienic false
set_option genSizeOfSpec false
open PySem
set_option maxRecDepth 100000
set_option linter.unusedSimpArgs false
set_option linter.unusedVariables false
variable {d : Nat} {σ : AH} {Q : QV}
theorem next_c {h : Addr} {kvs : List (Int × V)} {R : Int → Int} {D : Int → Bool} {e : EnS} (hh : σ h = some (.dict kvs)) (ho : HeldOk kvs R D) (hD : ∀ x ∈ e.e.args, x.k = false → D x.v = true) (hg : ∀ a, e.e ≠ .give a) (hq : Q (.int (nextE R e.e : Nat)) σ) : calls G0 F0 (d + 2) 271 [e.enc, .ref h] σ Q := by
  refine call_fn f_law_next rfl fun cl hcl => ?_
  obtain ⟨id, line, e⟩ := e
  cases e with
  | jump g => exact yes (retP_here hq)
  | give a => exact absurd rfl (hg a)
  | branch a t o =>
    refine no (glo g_law_value (itm rfl (use hcl (value_c hh ho (hD a (.head _)) (yes (cnd_n (fun hz => retP_here ?_) fun hz => retP_here ?_))))))
    · have e : Q (.int ((if valR R a ≠ 0 then t else o : Nat) : Int)) σ := hq
      rw [if_pos hz] at e; exact e
    · have e : Q (.int ((if valR R a ≠ 0 then t else o : Nat) : Int)) σ := hq
      rw [if_neg (fun h => h hz)] at e; exact e
  | table a low lot o =>
    have hq : Q (.int (((lot[((valR R a - low) % 4294967296).toNat]?).getD o : Nat) : Int)) σ := hq
    have h0 := Int.emod_nonneg (valR R a - low) (show (4294967296 : Int) ≠ 0 by decide)
    have e0 : (valR R a - low) % 4294967296 = (((valR R a - low) % 4294967296).toNat : Int) := by lia
    refine no (glo g_law_value (itm rfl (use hcl (value_c hh ho (hD a (.head _)) (no ⟨by decide, glo g_len (cnd_d (fun hp => ?_) fun hp => retP_here ?_)⟩)))))
    · generalize ((valR R a - low) % 4294967296).toNat = p at e0 hq
      have hp : (valR R a - low) % 4294967296 < (((lot.map nV).length : Nat) : Int) := hp
      rw [e0, List.length_map] at hp
      have hp' : p < lot.length := by lia
      have hx : idx (lot.map nV) ((valR R a - low) % 4294967296) = some (nV lot[p]) := by rw [e0, idx_nat]; simp [hp']
      rw [List.getElem?_eq_getElem hp'] at hq
      exact itm hx (retP_here hq)
    · generalize ((valR R a - low) % 4294967296).toNat = p at e0 hq
      have hp : ¬ (valR R a - low) % 4294967296 < (((lot.map nV).length : Nat) : Int) := hp
      rw [e0, List.length_map] at hp
      rw [List.getElem?_eq_none (by lia)] at hq
      exact hq
end Mine

namespace Mine
set_option tactic.hygienic false
set_option genSizeOfSpec false
set_option genInjectivity false
open PySem
set_option maxRecDepth 100000
set_option linter.unusedSimpArgs false
set_option linter.unusedVariables false
variable {d : Nat} {σ : AH} {Q : QV}
structure WR where
  tr : List TE
  val : Option Int
noncomputable def onV : Option Int → V
  | none => .str (Str.ofString "on")
  | some v => .int v
noncomputable def WR.enc (w : WR) : V := .tup [.fl (w.tr.map TE.enc), onV w.val]
noncomputable def laps (S : List Blk) : Nat → (Int → Int) → List TE → Nat → WR
  | 0, _, tr, _ => ⟨tr, none⟩
  | n + 1, R, tr, k => match S[k]? with
    | none => ⟨tr, none⟩
    | some B =>
      if 30 ≤ (runA B.steps R tr).2.length then ⟨(runA B.steps R tr).2.take 30, none⟩
      else match B.en.e with
        | .give a => ⟨(runA B.steps R tr).2, some (valR (runA B.steps R tr).1 a)⟩
        | e => laps S n (runA B.steps R tr).1 (runA B.steps R tr).2 (nextE (runA B.steps R tr).1 e)
noncomputable def R0 (p0 p1 : Int) : Int → Int := fun i => if i = 0 then p0 else if i = 1 then p1 else 0
noncomputable def walkP (S : List Blk) (p0 p1 : Int) : WR := laps S (31 * (S.length + 1)) (R0 p0 p1) [] 0

noncomputable def Full (D : Int → Bool) : Prop := ∀ r, 0 ≤ r → r ≤ 4 → D r = true
noncomputable def addD (D : Int → Bool) (a : Act) : Int → Bool := fun r => D r || (decide (0 ≤ a.dst) && decide (r = a.dst))
noncomputable def okRun : (Int → Bool) → List Act → Prop
  | D, [] => Full D
  | D, a :: r => (∀ x ∈ a.args, x.k = false → D x.v = true) ∧ okRun (addD D a) r
theorem okRun_full : ∀ {acts : List Act} {D : Int → Bool}, Full D → (∀ a ∈ acts, ActWf a) → okRun D acts
  | [], D, h, _ => h
  | a :: r, D, h, hw => ⟨fun x hx hk => by
      have := ((hw a (.head _)).args x hx).r hk
      exact h _ this.1 this.2, okRun_full (D := addD D a) (fun i h1 h2 => by simp [addD, h i h1 h2]) fun b hb => hw b (.tail _ hb)⟩

structure WOk (S : List Blk) : Prop where
  wf : WF S
  acts : ∀ (i : Nat) (B : Blk), S[i]? = some B → ∀ a ∈ B.steps, ActWf a
  eargs : ∀ (i : Nat) (B : Blk), S[i]? = some B → ∀ x ∈ B.en.e.args, ArgWf x
  first : ∃ (B : Blk) (r : List Act) (a b c : Act), S[0]? = some B ∧ B.steps = a :: b :: c :: r ∧ (a.op = Str.ofString "const" ∧ a.dst = 2 ∧ a.args = [⟨true, 2⟩]) ∧ (b.op = Str.ofString "const" ∧ b.dst = 3 ∧ b.args = [⟨true, 3⟩]) ∧ (c.op = Str.ofString "const" ∧ c.dst = 4 ∧ c.args = [⟨true, 4⟩])
theorem LawS.wok {S : List Blk} (h : LawS S) : WOk S := ⟨h.wf, h.acts, fun i B hB => (h.ends i B hB).args, h.first⟩
noncomputable def D01 : Int → Bool := fun r => decide (r = 0) || decide (r = 1)
theorem WOk.start {S : List Blk} (h : WOk S) {B : Blk} (hB : S[0]? = some B) : okRun D01 B.steps := by
  obtain ⟨B', r, a, b, c, h0, hs, ⟨_, a2, a3⟩, ⟨_, b2, b3⟩, _, c2, c3⟩ := h.first
  rw [hB] at h0; cases h0
  have hw := h.acts 0 B hB
  rw [hs] at hw ⊢
  refine ⟨fun x hx hk => ?_, fun x hx hk => ?_, fun x hx hk => ?_, okRun_full (fun i h1 h2 => ?_) fun y hy => hw y (by simp [hy])⟩
  · rw [a3] at hx; simp at hx; subst hx; simp at hk
  · rw [b3] at hx; simp at hx; subst hx; simp at hk
  · rw [c3] at hx; simp at hx; subst hx; simp at hk
  · simp only [addD, D01, a2, b2, c2]
    have : i = 0 ∨ i = 1 ∨ i = 2 ∨ i = 3 ∨ i = 4 := by lia
    rcases this with rfl | rfl | rfl | rfl | rfl <;> decide

theorem nextE_mem {R : Int → Int} {e : En} (h : ∀ a, e ≠ .give a) : nextE R e ∈ e.goals := by
  cases e with
  | jump g => simp [nextE, En.goals]
  | give a => exact absurd rfl (h a)
  | branch a t o =>
    by_cases q : valR R a = 0 <;> simp [nextE, En.goals, q]
  | table a low lot o =>
    simp only [nextE, En.goals]
    cases q : lot[((valR R a - low) % 4294967296).toNat]? with
    | none => simp
    | some x => simp [List.mem_of_getElem? q]
inductive WkI (S : List Blk) (f hd tr0 : Addr) (W : WR) (σ : AH) (vs : List V) (τ : AH) (m : Lo) : Prop
  | mk (k : Nat) (R : Int → Int) (D : Int → Bool) (kvs : List (Int × V)) (tr : List TE) (hk : k < S.length) (hle : le σ τ) (kd : τ hd = some (.dict kvs)) (kt : τ tr0 = some (.list (tr.map TE.enc))) (ho : HeldOk kvs R D) (hr : ∀ B, S[k]? = some B → okRun D B.steps) (hl : tr.length < 30) (hw : laps S vs.length R tr k = W)
    (hm : m = [(st "drawn", .ref f), (st "held", .ref hd), (st "trace", .ref tr0), (st "at", nV k)])
inductive WkJ (f hd tr0 b : Addr) (res : (Int → Int) × List TE) (σ : AH) (vs : List V) (τ : AH) (m : Lo) : Prop
  | mk (acts : List Act) (R1 : Int → Int) (tr1 : List TE) (kvs1 : List (Int × V)) (D1 : Int → Bool) (hvs : vs = acts.map Act.enc) (ha : ∀ a ∈ acts, ActWf a) (hr : okRun D1 acts) (ho : HeldOk kvs1 R1 D1) (kd : τ hd = some (.dict kvs1)) (kt : τ tr0 = some (.list (tr1.map TE.enc))) (hle : le σ τ) (hres : runA acts R1 tr1 = res) (hl : tr1.length + acts.length ≤ 1100)
    (hm : m = [(st "drawn", .ref f), (st "held", .ref hd), (st "trace", .ref tr0), (st "here", .ref b)])
theorem walk_c {f : Addr} {bs : List Addr} {S : List Blk} {p0 p1 : Int} (h : FunAt σ f bs S) (w : WOk S) (hq : Q (walkP S p0 p1).enc σ) : calls G0 F0 (d + 3) 278 [.ref f, .tup [.int p0, .int p1]] σ Q := by
  refine call_fn f_law_walk rfl fun cl hcl => ?_
  obtain ⟨fs, hff, hb, _⟩ := h.fo
  have hSl := w.wf.len
  have hbl := h.len
  refine ⟨by simp, fun hd hhd => newO fun tr0 htr => ?_⟩
  have le1 : le σ (put (put σ hd (.dict [(0, .int p0), (1, .int p1)])) tr0 (.list [])) := (le_put hhd).put ((le_put hhd).none htr)
  have hne : hd ≠ tr0 := by rintro rfl; rw [put_same] at htr; cases htr
  have kd : put (put σ hd (.dict [(0, .int p0), (1, .int p1)])) tr0 (.list []) hd = some (.dict [(0, .int p0), (1, .int p1)]) := by rw [put_ne hne, put_same]
  have kt : put (put σ hd (.dict [(0, .int p0), (1, .int p1)])) tr0 (.list []) tr0 = some (.list []) := put_same
  have σt : σ tr0 = none := (le_put hhd).none htr
  refine glo g_range (glo g_len (rd_ok (le1 _ _ hff) (fld hb ⟨⟨by decide, by rw [List.length_map]; lia⟩, by rw [List.length_map]; lia, by rw [List.length_map]; simp [lineOf]; lia, ?_⟩)))
  have e1 : (31 * ((((bs.map V.ref).length : Nat) : Int) + 1)).toNat = 31 * (S.length + 1) := by rw [List.length_map]; lia
  rw [e1]
  have ho0 : HeldOk [(0, .int p0), (1, .int p1)] (R0 p0 p1) D01 := {
    get := fun r hr => by
      simp only [D01, Bool.or_eq_true, decide_eq_true_eq] at hr
      rcases hr with rfl | rfl <;> simp [getD, R0]
    nd := by simp
    rng := fun k hk => by simp at hk; rcases hk with rfl | rfl <;> lia }
  refine for_c hcl (qle_seq (monoX hcl) qle_fn) (WkI S f hd tr0 (walkP S p0 p1) σ) (fun v vs τ m hI => ?_) (fun τ m hI => ?_) _ [(st "drawn", .ref f), (st "held", .ref hd), (st "trace", .ref tr0), (st "at", nV 0)] _ _ ?_
    ⟨0, R0 p0 p1, D01, _, [], w.wf.pos, le1, kd, kt, ho0, fun B hB => w.start hB, by simp, by simp [walkP], rfl⟩
  · obtain ⟨k, R, D, kvs, tr, hk, hle, kd, kt, ho, hrun, htl, hW, rfl⟩ := hI
    have hSk : S[k]? = some S[k] := by simp [hk]
    generalize S[k] = B at hSk
    obtain ⟨b, hbk, hσb⟩ := h.get hSk
    have hbk' : idx (bs.map V.ref) (k : Int) = some (.ref b) := by rw [idx_nat]; simp [hbk]
    have hstl : B.steps.length ≤ 1000 := by
      have := wsum_le (w := stepsL S) (List.mem_range.mpr hk)
      have t := w.wf.tot
      simp only [stepsL, hSk] at this
      lia
    have hgoals : ∀ g ∈ B.en.e.goals, g < S.length := fun g hg => w.wf.goals.lt k g (by rw [gl_of hSk]; exact hg)
    simp only [List.length_cons, laps, hSk] at hW
    refine rd_ok (hle _ _ hff) (fld hb (itm hbk' (rd_ok (hle _ _ hσb) (fld rfl ?_))))
    refine for_c hcl (qle_seq (monoX hcl) (qle_loop (qle_seq (monoX hcl) qle_fn))) (WkJ f hd tr0 b (runA B.steps R tr) σ) (fun v vs τ m hI => ?_) (fun τ m hI => ?_) _ [(st "drawn", .ref f), (st "held", .ref hd), (st "trace", .ref tr0), (st "here", .ref b)] _ _ ?_
      ⟨B.steps, R, tr, kvs, D, rfl, w.acts k B hSk, hrun B hSk, ho, kd, kt, hle, rfl, by lia, rfl⟩
    · obtain ⟨acts, R1, tr1, kvs1, D1, hvs, ha1, hr1, ho1, kd1, kt1, hle1, hres1, hl1, rfl⟩ := hI
      cases acts with
      | nil => cases hvs
      | cons a acts =>
        obtain ⟨rfl, rfl⟩ := List.cons.inj hvs
        simp only [List.length_cons] at hl1
        refine glo g_law_do (use hcl (do_c kd1 kt1 ho1 (ha1 a (.head _)) hr1.1 (by lia) fun σ' kvs' x1 x2 x3 x4 => ?_))
        refine ⟨_, ?_, acts, _, tr1 ++ [teOf a R1], kvs', _, rfl, fun y hy => ha1 y (.tail _ hy), hr1.2, x3, x1, x2, fun y o e => ?_, hres1, by simp; lia, rfl⟩
        · exact SubF.le rfl ⟨rfl, rfl, rfl, rfl, trivial⟩
        have y1 : y ≠ hd := by rintro rfl; rw [hhd] at e; cases e
        have y2 : y ≠ tr0 := by rintro rfl; rw [σt] at e; cases e
        rw [x4 y y1 y2]; exact hle1 y o e
    · obtain ⟨acts, R1, tr1, kvs1, D1, hvs, ha1, hr1, ho1, kd1, kt1, hle1, hres1, hl1, rfl⟩ := hI
      cases acts with
      | cons a acts => cases hvs
      | nil =>
        have hfull : Full D1 := hr1
        have kb1 := hle1 _ _ hσb
        rw [← hres1] at hW
        have hW : (if 30 ≤ tr1.length then (⟨tr1.take 30, none⟩ : WR) else match B.en.e with
          | .give a => ⟨tr1, some (valR R1 a)⟩
          | e => laps S vs.length R1 tr1 (nextE R1 e)) = walkP S p0 p1 := hW
        have hargs : ∀ x ∈ B.en.e.args, x.k = false → D1 x.v = true := fun x hx hk => by
          have := (w.eargs k B hSk x hx).r hk
          exact hfull _ this.1 this.2
        have ll : ((tr1.map TE.enc).length : Int) = (tr1.length : Int) := by rw [List.length_map]
        refine glo g_len (rd_ok kt1 (cnd_d (fun h30 => ?_) fun h30 => ?_))
        · have h30 : (30 : Int) ≤ (((tr1.map TE.enc).length : Nat) : Int) := h30
          rw [if_pos (by lia)] at hW
          refine rd_ok kt1 ⟨by decide, by decide, newL (retP_drop hle1 ?_)⟩
          rw [← hW] at hq
          simpa [WR.enc, onV, List.map_take] using hq
        · have h30 : ¬ (30 : Int) ≤ (((tr1.map TE.enc).length : Nat) : Int) := h30
          rw [if_neg (by lia)] at hW
          obtain ⟨num, steps, id, line, e⟩ := B
          have go : (∀ a, e ≠ .give a) → laps S vs.length R1 tr1 (nextE R1 e) = walkP S p0 p1 → ∀ {m}, LeF [(st "drawn", .ref f), (st "held", .ref hd), (st "trace", .ref tr0), (st "at", nV (nextE R1 e))] m → ∃ m1, LeF m1 m ∧ WkI S f hd tr0 (walkP S p0 p1) σ vs τ m1 := fun hn hW m hm =>
            ⟨_, hm, nextE R1 e, R1, D1, kvs1, tr1, hgoals _ (nextE_mem (R := R1) hn), hle1, kd1, kt1, ho1, fun B hB => okRun_full hfull (w.acts _ B hB), by lia, hW, rfl⟩
          have ng : (∀ a, e ≠ .give a) → laps S vs.length R1 tr1 (nextE R1 e) = walkP S p0 p1 := fun hn => by
            cases e with
            | give a => exact absurd rfl (hn a)
            | _ => exact hW
          refine rd_ok kb1 (fld rfl ?_)
          cases e with
          | give a =>
            refine yes (glo g_law_value (rd_ok kb1 (fld rfl (itm rfl (use hcl (value_c kd1 ho1 (hargs a (by simp [En.args])) (retP_pair kt1 rfl (hle1.del σt) ?_)))))))
            have hW : (⟨tr1, some (valR R1 a)⟩ : WR) = walkP S p0 p1 := hW
            rw [← hW] at hq; exact hq
          | jump g => exact no (glo g_law_next (rd_ok kb1 (fld rfl (use hcl (next_c (e := ⟨id, line, .jump g⟩) kd1 ho1 hargs (fun a e => by cases e) (go (fun a e => by cases e) (ng fun a e => by cases e) (SubF.le rfl ⟨rfl, rfl, rfl, rfl, trivial⟩)))))))
          | branch a t o => exact no (glo g_law_next (rd_ok kb1 (fld rfl (use hcl (next_c (e := ⟨id, line, .branch a t o⟩) kd1 ho1 hargs (fun a e => by cases e) (go (fun a e => by cases e) (ng fun a e => by cases e) (SubF.le rfl ⟨rfl, rfl, rfl, rfl, trivial⟩)))))))
          | table a low lot o => exact no (glo g_law_next (rd_ok kb1 (fld rfl (use hcl (next_c (e := ⟨id, line, .table a low lot o⟩) kd1 ho1 hargs (fun a e => by cases e) (go (fun a e => by cases e) (ng fun a e => by cases e) (SubF.le rfl ⟨rfl, rfl, rfl, rfl, trivial⟩)))))))
    · exact SubF.le rfl ⟨rfl, rfl, rfl, rfl, trivial⟩
  · obtain ⟨k, R, D, kvs, tr, hk, hle, kd, kt, ho, hrun, htl, hW, rfl⟩ := hI
    simp only [List.length_nil, laps] at hW
    refine retP_pair kt rfl (hle.del σt) ?_
    rw [← hW] at hq; exact hq
  · exact SubF.le rfl ⟨rfl, rfl, rfl, rfl, trivial⟩
end Mine

namespace Mine
set_option tactic.hygienic false
set_option genSizeOfSpec false
open PySem
set_option maxRecDepth 100000
set_option linter.unusedSimpArgs false
set_option linter.unusedVariables false
variable {d : Nat} {σ : AH} {Q : QV}
noncomputable def actV (a : Act) : V := .tup [.str a.op, .int a.dst, .fl (a.args.map Arg.enc), a.more, .bool a.vol]
noncomputable def enV (e : En) : V := .tup [.str e.op, .int (-1), .fl (e.args.map Arg.enc), e.more, .bool false]
noncomputable def rowV (B : Blk) : V := .tup [nV B.num, .fl (B.steps.map actV ++ [enV B.en.e])]
noncomputable def shownV (S : List Blk) : V := .fl (S.map rowV)
noncomputable def fiV : V → V
  | .fi _ _ fs => .tup [(getL (Str.ofString "op") fs).getD .none, (getL (Str.ofString "dst") fs).getD .none, (getL (Str.ofString "args") fs).getD .none, (getL (Str.ofString "more") fs).getD .none, (getL (Str.ofString "is_volatile") fs).getD .none]
  | v => v
theorem fiV_step {id : Addr} {c : Addr} {op : Str} {dst : Int} {args : List Arg} {more : V} {vol : Bool} {line : Int} : fiV (.fi id c (stepFs op dst args more vol line)) = .tup [.str op, .int dst, .fl (args.map Arg.enc), more, .bool vol] := by
  simp [fiV, stepFs, getL, ofString_inj]

inductive ShI (S : List Blk) (bs : List Addr) (r : Addr) (σ : AH) (vs : List V) (τ : AH) (m : Lo) : Prop
  | mk (k : Nat) (hvs : vs = (bs.drop k).map V.ref) (hk : k ≤ bs.length) (hτ : τ = put σ r (.list ((S.take k).map rowV))) (hm : m = [(st "rows", .ref r)])
theorem shown_c {f : Addr} {bs : List Addr} {S : List Blk} (h : FunAt σ f bs S) (w : WF S) (hq : Q (shownV S) σ) : calls G0 F0 (d + 1) 283 [.ref f] σ Q := by
  refine call_fn f_law_shown rfl fun cl hcl => ?_
  obtain ⟨fs, hff, hb, _⟩ := h.fo
  have hSl := w.len
  have hbl := h.len
  refine newO fun r hr => rd_ok (le_put hr _ _ hff) (fld hb ?_)
  refine for_c hcl (qle_seq (monoX hcl) qle_fn) (ShI S bs r σ) (fun v vs τ m hI => ?_) (fun τ m hI => ?_) _ [(st "rows", .ref r)] _ _ ?_
    ⟨0, rfl, Nat.zero_le _, rfl, rfl⟩
  · obtain ⟨k, hvs, hk, rfl, rfl⟩ := hI
    have hk2 : k < bs.length := by
      rcases Nat.lt_or_ge k bs.length with h | h
      · exact h
      · rw [List.drop_of_length_le h] at hvs; cases hvs
    rw [List.drop_eq_getElem_cons hk2, List.map_cons] at hvs
    obtain ⟨rfl, rfl⟩ := List.cons.inj hvs
    have hbk : bs[k]? = some bs[k] := by simp [hk2]
    generalize bs[k] = b at hbk ⊢
    have hk3 : k < S.length := by lia
    have hSk : S[k]? = some S[k] := by simp [hk3]
    have htk : S.take (k + 1) = S.take k ++ [S[k]] := by rw [List.take_add_one, hSk]; rfl
    generalize S[k] = B at hSk htk
    have hσb := h.at' k b B hbk hSk
    have kb : ∀ o, put σ r o b = some B.obj := fun o => le_put hr _ _ hσb
    have hst : B.steps.length ≤ 1000 := by
      have := wsum_le (w := stepsL S) (List.mem_range.mpr hk3)
      have t := w.tot
      simp only [stepsL, hSk] at this
      lia
    refine rd_ok (kb _) (fld rfl (rd_ok (kb _) (fld rfl (newL (le_ok ?_ (newL (rd_ok put_same (rd_ok (kb _) (fld rfl ⟨rfl, comp_by fiV _ _ (fun v hv K hK => ?_) ?_⟩)))))))))
    · rw [List.length_map]; simp [lineOf]; lia
    · rcases List.mem_append.mp hv with hv | hv
      · obtain ⟨a, _, rfl⟩ := List.mem_map.mp hv
        exact hK
      · cases List.mem_singleton.mp hv
        exact hK
    · have hm : [] ++ (B.steps.map Act.enc ++ [B.en.enc]).map fiV = B.steps.map actV ++ [enV B.en.e] := by
        rw [List.nil_append, List.map_append, List.map_map]
        have e1 : B.steps.map (fiV ∘ Act.enc) = B.steps.map actV := List.map_congr_left fun a zz => fiV_step
        rw [e1]; rfl
      rw [hm]
      refine newL (rd_ok put_same (lt_ok ?_ ⟨_, ?_, k + 1, rfl, hk2, ?_, rfl⟩))
      · rw [List.length_map, List.length_take]; simp [lineOf]; lia
      · exact SubF.le rfl ⟨rfl, trivial⟩
      · rw [put_put, htk, List.map_append]; rfl
  · obtain ⟨k, hvs, hk, rfl, rfl⟩ := hI
    have hk2 : bs.length ≤ k := by
      rcases Nat.lt_or_ge k bs.length with h | h
      · rw [List.drop_eq_getElem_cons h] at hvs; cases hvs
      · exact h
    have ht : S.take k = S := List.take_of_length_le (by lia)
    rw [ht]
    exact retP_list put_same (le_del_put hr) hq
  · exact SubF.le rfl ⟨rfl, trivial⟩
end Mine

namespace Mine
set_option tactic.hygienic false
set_option genSizeOfSpec false
open PySem
set_option maxRecDepth 100000
set_option linter.unusedSimpArgs false
set_option linter.unusedVariables false
variable {d : Nat} {σ : AH} {Q : QV}
theorem goals_c {e : EnS} (hlen : e.e.goals.length ≤ 100) (hq : Q (.fl (e.e.goals.map nV)) σ) : calls G0 F0 (d + 1) 290 [e.enc] σ Q := by
  refine call_fn f_law_goals rfl fun cl hcl => ?_
  obtain ⟨id, line, e⟩ := e
  cases e with
  | jump g => exact yes (newL (retP_here hq))
  | branch a t o => exact no (yes (newL (retP_here hq)))
  | table a low lot o =>
    simp [En.goals] at hlen
    refine no (no (yes (newL (le_ok (by simp [lineOf]; lia) (newL (retP_here ?_))))))
    have e : (lot ++ [o]).map nV = lot.map nV ++ [.int (o : Nat)] := by simp [nV]
    exact e ▸ hq
  | give a => exact no (no (no (newL (retP_here hq))))
noncomputable def lkN (S : List Blk) (seen dn : List Nat) (extra : List Nat) (D : List (Nat × Nat)) : Prop := ∀ g, D.lookup g = if g ∈ seen then some (cntE S dn g + extra.count g) else none
structure RI (S : List Blk) (dn wt : List Nat) : Prop where
  nd : (dn ++ wt).Nodup
  zero : 0 ∈ dn ++ wt
  lt : ∀ x ∈ dn ++ wt, x < S.length
  cl : ∀ x ∈ dn, ∀ g ∈ gl S x, g ∈ dn ++ wt
  rch : ∀ x ∈ dn ++ wt, Rch S x
theorem RI.done {S : List Blk} {dn : List Nat} (h : RI S dn []) : RowOk S dn where
  nd := by simpa using h.nd
  zero := by simpa using h.zero
  lt x hx := h.lt x (by simpa using hx)
  closed x hx g hg := by simpa using h.cl x hx g hg
  rch x hx := h.rch x (by simpa using hx)

structure RP (S : List Blk) (dn : List Nat) (x : Nat) (g1 wt : List Nat) : Prop where
  nd : (dn ++ [x] ++ wt).Nodup
  zero : 0 ∈ dn ++ [x] ++ wt
  lt : ∀ y ∈ dn ++ [x] ++ wt, y < S.length
  cl : ∀ y ∈ dn, ∀ g ∈ gl S y, g ∈ dn ++ [x] ++ wt
  pr : ∀ g ∈ g1, g ∈ dn ++ [x] ++ wt
  rch : ∀ y ∈ dn ++ [x] ++ wt, Rch S y
theorem perm_x {dn wt : List Nat} {x : Nat} : (dn ++ [x] ++ wt).Perm (dn ++ (wt ++ [x])) := by
  rw [List.append_assoc]
  exact List.Perm.append_left _ List.perm_append_comm
theorem RI.start {S : List Blk} {dn wt : List Nat} {x : Nat} (h : RI S dn (wt ++ [x])) : RP S dn x [] wt where
  nd := perm_x.nodup_iff.mpr h.nd
  zero := perm_x.mem_iff.mpr h.zero
  lt y hy := h.lt y (perm_x.mem_iff.mp hy)
  cl y hy g hg := perm_x.mem_iff.mpr (h.cl y hy g hg)
  pr g hg := by simp at hg
  rch y hy := h.rch y (perm_x.mem_iff.mp hy)
theorem RP.old {S : List Blk} {dn g1 wt : List Nat} {x g : Nat} (h : RP S dn x g1 wt) (hg : g ∈ dn ++ [x] ++ wt) : RP S dn x (g1 ++ [g]) wt :=
  ⟨h.nd, h.zero, h.lt, h.cl, fun y hy => by
    rcases List.mem_append.mp hy with hy | hy
    · exact h.pr y hy
    · rw [List.mem_singleton] at hy; subst hy; exact hg, h.rch⟩
theorem RP.new {S : List Blk} {dn g1 wt : List Nat} {x g : Nat} (h : RP S dn x g1 wt) (hg : g ∉ dn ++ [x] ++ wt) (hgl : g ∈ gl S x) (hlt : g < S.length) : RP S dn x (g1 ++ [g]) (wt ++ [g]) := by
  have e : dn ++ [x] ++ (wt ++ [g]) = (dn ++ [x] ++ wt) ++ [g] := by simp
  have hin : ∀ y, y ∈ dn ++ [x] ++ wt → y ∈ dn ++ [x] ++ (wt ++ [g]) := fun y hy => by rw [e]; exact List.mem_append_left _ hy
  refine ⟨?_, hin _ h.zero, fun y hy => ?_, fun y hy z hz => hin _ (h.cl y hy z hz), fun y hy => ?_, fun y hy => ?_⟩
  · rw [e]; exact List.nodup_append.mpr ⟨h.nd, by simp, fun a ha b hb => by rw [List.mem_singleton] at hb; subst hb; rintro rfl; exact hg ha⟩
  · rw [e] at hy
    rcases List.mem_append.mp hy with hy | hy
    · exact h.lt y hy
    · rw [List.mem_singleton] at hy; subst hy; exact hlt
  · rcases List.mem_append.mp hy with hy | hy
    · exact hin _ (h.pr y hy)
    · rw [List.mem_singleton] at hy; subst hy; rw [e]; simp
  · rw [e] at hy
    rcases List.mem_append.mp hy with hy | hy
    · exact h.rch y hy
    · rw [List.mem_singleton] at hy; subst hy; exact .step (h.rch x (by simp)) hgl
theorem RP.fin {S : List Blk} {dn wt : List Nat} {x : Nat} (h : RP S dn x (gl S x) wt) : RI S (dn ++ [x]) wt where
  nd := h.nd
  zero := h.zero
  lt := h.lt
  cl y hy g hg := by
    rcases List.mem_append.mp hy with hy | hy
    · exact h.cl y hy g hg
    · rw [List.mem_singleton] at hy; subst hy; exact h.pr g hg
  rch := h.rch

theorem in_dict' {i : Int} {a : Addr} {kvs : List (Int × V)} {b : Bool} {k : Bool → Prop} (h : σ a = some (.dict kvs)) (hb : (getD i kvs).isSome = b) (hk : k b) : inP σ (.int i) (.ref a) k := in_dict h (hb ▸ hk)
inductive ReI (S : List Blk) (f n q : Addr) (σ : AH) (x : List Nat × List Nat × List (Nat × Nat)) (τ : AH) (m : Lo) : Prop
  | mk (hle : le σ τ) (kn : τ n = some (.dict (encD x.2.2))) (kq : τ q = some (.list (x.2.1.map nV))) (ri : RI S x.1 x.2.1) (lk : lkN S (x.1 ++ x.2.1) x.1 [] x.2.2) (hl : x.2.2.length ≤ 1 + 100 * x.1.length) (hm : m = [(st "drawn", .ref f), (st "found", .ref n), (st "waiting", .ref q)])
inductive ReJ (S : List Blk) (f n q : Addr) (σ : AH) (dn : List Nat) (x : Nat) (vs : List V) (τ : AH) (m : Lo) : Prop
  | mk (g1 g2 wt : List Nat) (D : List (Nat × Nat)) (hgs : gl S x = g1 ++ g2) (hvs : vs = g2.map nV) (hle : le σ τ) (kn : τ n = some (.dict (encD D))) (kq : τ q = some (.list (wt.map nV))) (rp : RP S dn x g1 wt) (lk : lkN S (dn ++ [x] ++ wt) dn g1 D) (hl : D.length ≤ 1 + 100 * dn.length + 2 * g1.length)
    (hm : m = [(st "drawn", .ref f), (st "found", .ref n), (st "waiting", .ref q)])
theorem lkN.next {S : List Blk} {dn L g1 L' : List Nat} {D : List (Nat × Nat)} {g : Nat} (lk : lkN S L dn g1 D) (hL : ∀ y, y ∈ L' ↔ y ∈ L ∨ y = g) (c : Nat) (hc : cntE S dn g + g1.count g = c) : lkN S L' dn (g1 ++ [g]) (putN g (c + 1) D) := fun y => by
  rw [putN_lookup, lk y, List.count_append]
  simp only [hL]
  by_cases q1 : y = g
  · subst q1; rw [if_pos rfl, if_pos (.inr rfl), ← hc]; simp; lia
  · have : [g].count y = 0 := by simp [List.count_cons, Ne.symm q1]
    simp [q1, this]
theorem reached_c {f : Addr} {bs : List Addr} {S : List Blk} (h : FunAt σ f bs S) (w : WF S)
    (hq : ∀ n D row, σ n = none → RowOk S row → lkN S row row [] D → Q (.ref n) (put σ n (.dict (encD D)))) : calls G0 F0 (d + 2) 297 [.ref f] σ Q := by
  refine call_fn f_law_reached rfl fun cl hcl => ?_
  obtain ⟨fs, hff, hb, _⟩ := h.fo
  have hSl := w.len
  refine ⟨by simp, fun n hn => newO fun q hq0 => ?_⟩
  have le1 : le σ (put (put σ n (.dict [(0, .int 0)])) q (.list [.int 0])) := (le_put hn).put ((le_put hn).none hq0)
  have hnq : n ≠ q := by rintro rfl; rw [put_same] at hq0; cases hq0
  have σq : σ q = none := (le_put hn).none hq0
  have kn : put (put σ n (.dict [(0, .int 0)])) q (.list [.int 0]) n = some (.dict (encD [(0, 0)])) := by rw [put_ne hnq, put_same]; rfl
  have kq : put (put σ n (.dict [(0, .int 0)])) q (.list [.int 0]) q = some (.list ([0].map nV)) := put_same
  have ri0 : RI S [] [0] := ⟨by simp, by simp, fun x hx => by simp at hx; subst hx; exact w.pos, fun x hx => by simp at hx, fun x hx => by simp at hx; subst hx; exact .zero⟩
  have lk0 : lkN S ([] ++ [0]) [] [] [(0, 0)] := fun g => by
    by_cases z : g = 0
    · subst z; simp [cntE]
    · have : (g == 0) = false := by simpa using z
      simp [List.lookup_cons, this, z]
  refine while_c hcl (qle_seq (monoX hcl) qle_fn) (ReI S f n q σ) (fun x => S.length - x.1.length) (fun x τ m hI => ?_) ([], [0], [(0, 0)]) [(st "drawn", .ref f), (st "found", .ref n), (st "waiting", .ref q)] ?_ ⟨le1, kn, kq, ri0, lk0, by simp, rfl⟩
  case refine_2 => exact SubF.le rfl ⟨rfl, rfl, rfl, trivial⟩
  obtain ⟨dn, wt, D⟩ := x
  obtain ⟨hle, kn, kq, ri, lk, hDl, rfl⟩ := hI
  simp only at hle kn kq ri lk hDl
  have hdl := nodup_lt_length _ _ ri.nd ri.lt
  rw [List.length_append] at hdl
  have kq' : τ q = some (.list ((wt.map fun (n : Nat) => (n : Int)).map V.int)) := by rw [List.map_map]; exact kq
  refine newL (cm_nil kq' ?_)
  rcases List.eq_nil_or_concat wt with rfl | ⟨wt, x, rfl⟩
  · refine no (retP_drop (τ := put σ n (.dict (encD D))) (fun a v e => ?_) (hq n D dn hn ri.done (by simpa using lk)))
    by_cases an : a = n
    · subst an; rw [put_same] at e; rw [← e]; exact kn
    · rw [put_ne an] at e; exact hle a v e
  · simp only [List.concat_eq_append] at *
    have hx : x < S.length := ri.lt x (by simp)
    have hSx : S[x]? = some S[x] := by simp [hx]
    generalize S[x] = B at hSx
    obtain ⟨b, hbx, hσb⟩ := h.get hSx
    have hbx' : idx (bs.map V.ref) (x : Int) = some (.ref b) := by rw [idx_nat]; simp [hbx]
    have kf := hle _ _ hff
    have kb := hle _ _ hσb
    have bq : b ≠ q := by rintro rfl; rw [kq] at kb; cases kb
    have kbq : ∀ o, put τ q o b = some B.obj := fun o => by rw [put_ne bq]; exact kb
    have hgl := w.goals.len x
    have hglt := w.goals.lt x
    have hgB : gl S x = B.en.e.goals := gl_of hSx
    have hlast : ((wt ++ [x]).map nV).getLast? = some (nV x) := by simp [nV]
    have hdrop : ((wt ++ [x]).map nV).dropLast = wt.map nV := by simp
    have hdn : dn.length + (wt.length + 1) ≤ S.length := by simpa using hdl
    have lk1 : lkN S (dn ++ [x] ++ wt) dn [] D := fun g => by
      rw [lk g]
      by_cases z : g ∈ dn ++ (wt ++ [x])
      · rw [if_pos z, if_pos (perm_x.mem_iff.mpr z)]
      · rw [if_neg z, if_neg fun y => z (perm_x.mem_iff.mp y)]
    have e0 : (!decide ((List.map (fun n : Nat => (n : Int)) (wt ++ [x])) = [])) = true := by simp
    refine cnd_t e0 (glo g_law_goals (glo g_law_goals (rd_ok kf (fld hb (rd_ok kq (rd_ok kq (itm hlast (itm hbx' (rd_ok (kbq _) (fld rfl (use hcl (goals_c (by rw [← hgB]; lia) ?_))))))))))))
    rw [hdrop]
    refine for_c hcl (qle_seq (monoX hcl) (qle_loop (qle_seq (monoX hcl) qle_fn))) (ReJ S f n q σ dn x) (fun v vs τ m hI => ?_) (fun τ m hI => ?_) _ [(st "drawn", .ref f), (st "found", .ref n), (st "waiting", .ref q)] _ _ ?_
      ⟨[], gl S x, wt, D, rfl, by rw [hgB], hle.put σq, by rw [put_ne hnq]; exact kn, put_same, ri.start, lk1, by simp; lia, rfl⟩
    · obtain ⟨g1, g2, wt', D', hgs', hvs, hle, kn, kq, rp, lk, hDl', rfl⟩ := hI
      cases g2 with
      | nil => cases hvs
      | cons g g2 =>
        obtain ⟨rfl, rfl⟩ := List.cons.inj hvs
        have hggs : g ∈ gl S x := by rw [hgs']; simp
        have hg1 : g1.length + (g2.length + 1) = (gl S x).length := by rw [hgs']; simp
        have elf := @encD_length D'
        have hgs'' : gl S x = (g1 ++ [g]) ++ g2 := by rw [hgs', List.append_assoc]; rfl
        have lkg := lk g
        have pe : ∀ {D : List (Nat × Nat)} {c : Nat}, putD (g : Int) (.int ((c : Int) + 1)) (encD D) = encD (putN g (c + 1) D) := fun {D c} => putD_enc (v := c + 1)
        by_cases hgs : g ∈ dn ++ [x] ++ wt'
        · rw [if_pos hgs] at lkg
          have hget : getD (g : Int) (encD D') = some (nV (cntE S dn g + g1.count g)) := by rw [getD_enc, lkg]; rfl
          refine in_dict' kn (congrArg Option.isSome hget) (no (rd_ok kn (itm hget (rd_ok kn (lt_ok ?_ ⟨_, ?_, g1 ++ [g], g2, wt', _, hgs'', rfl, hle.put hn, put_same.trans (congrArg (fun x => some (O.dict x)) pe), ?_, rp.old hgs, lk.next (fun y => ⟨.inl, fun e => e.elim id fun e => e ▸ hgs⟩) _ rfl, ?_, rfl⟩)))))
          · simp [lineOf]; lia
          · exact SubF.le rfl ⟨rfl, rfl, rfl, trivial⟩
          · rw [put_ne (Ne.symm hnq)]; exact kq
          · have := @putN_length g (cntE S dn g + g1.count g + 1) D'; simp; lia
        · rw [if_neg hgs] at lkg
          have hget : getD (g : Int) (encD D') = none := by rw [getD_enc, lkg]; rfl
          have hc0 : cntE S dn g + g1.count g = 0 := by
            have a1 : g ∉ g1 := fun e => hgs (rp.pr g e)
            have a2 : cntE S dn g = 0 := List.count_eq_zero.mpr fun e => by
              obtain ⟨y, hy, hy2⟩ := List.mem_flatMap.mp e
              exact hgs (rp.cl y hy g hy2)
            rw [a2, List.count_eq_zero.mpr a1]
          have hD1 : putD (g : Int) (.int 0) (encD D') = encD (putN g 0 D') := putD_enc (v := 0)
          have hD2 : getD (g : Int) (encD (putN g 0 D')) = some (nV 0) := by rw [getD_enc, putN_lookup, if_pos rfl]; rfl
          have a1 := @putN_length g 0 D'
          have a2 := @putN_length g (0 + 1) (putN g 0 D')
          have a3 := @encD_length (putN g 0 D')
          have wl := nodup_lt_length _ _ rp.nd rp.lt
          have kq2 : ∀ o, put τ n o q = some (.list (wt'.map nV)) := fun o => by rw [put_ne (Ne.symm hnq)]; exact kq
          have kn3 : ∀ o, put (put τ n (.dict (putD (g : Int) (.int 0) (encD D')))) q o n = some (.dict (encD (putN g 0 D'))) := fun o => by rw [put_ne hnq, put_same, hD1]
          refine in_dict' kn (congrArg Option.isSome hget) (yes (rd_ok kn (lt_ok ?_ (rd_ok (kq2 _) (rd_ok (kq2 _) (lt_ok ?_ (rd_ok (kn3 _) (itm hD2 (rd_ok (kn3 _) (lt_ok ?_ ⟨_, ?_, g1 ++ [g], g2, wt' ++ [g], _, hgs'', rfl, ((hle.put hn).put σq).put hn, put_same.trans (congrArg (fun x => some (O.dict x)) (pe (c := 0))), ?_, rp.new hgs hggs (hglt g hggs), ?_, ?_, rfl⟩))))))))))
          · simp [lineOf]; lia
          · simp at wl; simp [lineOf]; lia
          · simp [lineOf]; lia
          · exact SubF.le rfl ⟨rfl, rfl, rfl, trivial⟩
          · rw [put_ne (Ne.symm hnq), put_same, List.map_append]; rfl
          · have := lk.next (L' := dn ++ [x] ++ (wt' ++ [g])) (g := g) (fun y => by simp [or_assoc]) 0 hc0
            intro y
            rw [← this y, putN_lookup, putN_lookup, putN_lookup]
            by_cases q1 : y = g <;> simp [q1]
          · rw [List.length_append, List.length_singleton]; lia
    · obtain ⟨g1, g2, wt', D', hgs', hvs, hle, kn, kq, rp, lk, hDl', rfl⟩ := hI
      cases g2 with
      | cons g g2 => cases hvs
      | nil =>
        rw [List.append_nil] at hgs'
        subst hgs'
        refine ⟨_, ?_, (dn ++ [x], wt', D'), _, le_refl', ?_, hle, kn, kq, rp.fin, fun g => ?_, ?_, rfl⟩
        · exact SubF.le rfl ⟨rfl, rfl, rfl, trivial⟩
        · simp; lia
        · rw [lk g]
          have : cntE S (dn ++ [x]) g = cntE S dn g + (gl S x).count g := by
            unfold cntE; rw [List.flatMap_append, List.count_append]; simp
          rw [this]; simp
        · simp; lia
    · exact SubF.le rfl ⟨rfl, rfl, rfl, trivial⟩
end Mine

namespace Mine
set_option tactic.hygienic false
set_option genSizeOfSpec false
open PySem
set_option maxRecDepth 100000
set_option linter.unusedSimpArgs false
set_option linter.unusedVariables false
variable {d : Nat} {σ : AH} {Q : QV}
noncomputable def plainB (B : Blk) (g : Nat) : Prop := B.steps = [] ∧ ∃ h, B.en.e = .jump h ∧ h ≠ g
structure Straight (S : List Blk) : Prop where
  wf : WF S
  all : ∀ row, RowOk S row → ∀ i, i < S.length → i ∈ row
  br : ∀ (i : Nat) (B : Blk) a t o, S[i]? = some B → B.en.e = .branch a t o → a.k = false ∧ t ≠ o
  tb : ∀ (i : Nat) (B : Blk) a low lot o, S[i]? = some B → B.en.e = .table a low lot o → a.k = false ∧ lot ≠ [] ∧ ∃ g ∈ lot, g ≠ o
  jp : ∀ row, RowOk S row → ∀ (i : Nat) (B : Blk) g, S[i]? = some B → B.en.e = .jump g → g = 0 ∨ g = i ∨ cntE S row g ≠ 1
  pl : ∀ (i : Nat), ∀ g ∈ gl S i, ∀ B : Blk, S[g]? = some B → ¬ plainB B g

theorem cm_eq_nil {vs : List V} {k : Bool → Prop} (h : k (decide (vs = []))) : eqQ σ (.fl vs) (.fl []) k := by
  cases vs with
  | nil => exact .inl (cm_eq_nats (as := []) (bs := []) h)
  | cons v vs => exact .inr ⟨v :: vs, [], rfl, rfl, by simp, h⟩
inductive StI (S : List Blk) (f n : Addr) (τ0 : AH) (vs : List V) (τ : AH) (m : Lo) : Prop
  | mk (k : Nat) (hvs : vs = ((List.range S.length).drop k).map (fun i : Nat => V.int (i : Int))) (hk : k ≤ S.length) (hle : le τ0 τ) (hm : m = [(st "drawn", .ref f), (st "named", .ref n)])
inductive StJ (gs : List Nat) (f n : Addr) (τ0 : AH) (vs : List V) (τ : AH) (m : Lo) : Prop
  | mk (j : Nat) (hvs : vs = (gs.drop j).map nV) (hj : j ≤ gs.length) (hle : le τ0 τ) (hm : m = [(st "drawn", .ref f), (st "named", .ref n)])
inductive StC (gs : List Nat) (f n : Addr) (τ0 : AH) (τ : AH) (m : Lo) : Prop
  | mk (hle : le τ0 τ) (hm : m = [(st "drawn", .ref f), (st "named", .ref n), (st "goals", .fl (gs.map nV))])
theorem is_straight_c {f : Addr} {bs : List Addr} {S : List Blk} (h : FunAt σ f bs S) (w : Straight S) (hq : Q (.bool true) σ) : calls G0 F0 (d + 3) 304 [.ref f] σ Q := by
  refine call_fn f_law_is_straight rfl fun cl hcl => ?_
  obtain ⟨fs, hff, hb, _⟩ := h.fo
  have hSl := w.wf.len
  have hbl := h.len
  refine glo g_law_reached (use hcl (reached_c (d := d) h w.wf fun n D row hn hrow hD => ?_))
  have hall := w.all row hrow
  have kf0 := le_put hn (o := .dict (encD D)) _ _ hff
  refine glo g_range (glo g_len (rd_ok kf0 (fld hb ⟨by lia, by rw [List.length_map]; simp [lineOf]; lia, ?_⟩)))
  have e1 : (((bs.map V.ref).length : Nat) : Int).toNat = S.length := by rw [List.length_map]; lia
  rw [e1]
  refine for_c hcl (qle_seq (monoX hcl) qle_fn) (StI S f n (put σ n (.dict (encD D)))) (fun v vs τ m hI => ?_) (fun τ m hI => ?_) _ [(st "drawn", .ref f), (st "named", .ref n)] _ _ ?_
    ⟨0, rfl, Nat.zero_le _, le_refl', rfl⟩
  · obtain ⟨k, hvs, hk, hle, rfl⟩ := hI
    have kf := hle _ _ kf0
    have kn := hle _ _ put_same
    have hk2 : k < S.length := by
      rcases Nat.lt_or_ge k S.length with h | h
      · exact h
      · rw [List.drop_of_length_le (by simpa using h)] at hvs; cases hvs
    rw [List.drop_eq_getElem_cons (by simpa using hk2), List.map_cons, List.getElem_range] at hvs
    obtain ⟨rfl, rfl⟩ := List.cons.inj hvs
    have hSk : S[k]? = some S[k] := by simp [hk2]
    generalize S[k] = B at hSk
    obtain ⟨b, hbk, hσb⟩ := h.get hSk
    have hbk' : idx (bs.map V.ref) (k : Int) = some (.ref b) := by rw [idx_nat]; simp [hbk]
    have kb := hle _ _ (le_put hn (o := .dict (encD D)) _ _ hσb)
    have hnum := w.wf.num k B hSk
    have hDk : getD (k : Int) (encD D) = some (nV (cntE S row k + 0)) := by rw [getD_enc, hD k, if_pos (hall k hk2)]; rfl
    have hglB : gl S k = B.en.e.goals := gl_of hSk
    have hgl := w.wf.goals.len k
    refine rd_ok kf (fld hb (itm hbk' (rd_ok kb (fld rfl ?_))))
    refine rd_ok kf (fld hb (itm hbk' (rd_ok kb (fld rfl (cnd_n (fun e => absurd (congrArg (fun n : Nat => (n : Int)) hnum) e) fun zz => in_dict' kn (congrArg Option.isSome hDk) (no ?_))))))
    refine glo g_law_goals (use hcl (goals_c (by rw [← hglB]; lia) ?_))
    rw [← hglB]
    refine cut hcl (qle_loop (qle_seq (monoX hcl) qle_fn)) 2 (StC (gl S k) f n (put σ n (.dict (encD D)))) ?_ fun τ m hI => ?_
    · have fin : ∀ {τ m}, le (put σ n (.dict (encD D))) τ → LeF [(st "drawn", .ref f), (st "named", .ref n), (st "goals", .fl ((gl S k).map nV))] m → ∃ m1, LeF m1 m ∧ StC (gl S k) f n (put σ n (.dict (encD D))) τ m1 := fun {τ m} a b => ⟨_, b, a, rfl⟩
      have alleq : ∀ {x0 τ} {k' : Bool → Prop}, ¬ gl S k = List.replicate (gl S k).length x0 → k' false → eqQ τ (.fl ((gl S k).map nV)) (.fl (List.replicate ((((gl S k).map nV).length : Nat) : Int).toNat (nV x0))) k' := fun {x0 τ k'} nall hk' => by
        have er : List.replicate ((((gl S k).map nV).length : Nat) : Int).toNat (nV x0) = (List.replicate (gl S k).length x0).map nV := by rw [List.map_replicate, List.length_map]; rfl
        rw [er]
        exact .inl (cm_eq_nats ((decide_eq_false nall).symm ▸ hk'))
      have jl : 0 ≤ ((((gl S k).map nV).length : Nat) : Int) ∧ ((((gl S k).map nV).length : Nat) : Int) ≤ lineOf := ⟨by lia, by rw [List.length_map]; simp [lineOf]; lia⟩
      obtain ⟨num, steps, id, line, e⟩ := B
      cases e with
      | jump g =>
        have hgS : g < S.length := w.wf.goals.lt k g (by rw [hglB]; simp [En.goals])
        have hjp := w.jp row hrow k _ g hSk rfl
        have hDg : getD (g : Int) (encD D) = some (nV (cntE S row g + 0)) := by rw [getD_enc, hD g, if_pos (hall g hgS)]; rfl
        refine cm_in_go oks_jump oks_branch oks_table (no (yes (cnd_n (fun z0 => cnd_n (fun z1 => rd_ok kn (itm hDg (cnd_d (fun z2 => ?_) fun z2 => fin hle ?_))) fun z1 => no (fin hle ?_)) fun z0 => no (fin hle ?_))))
        · have z0 : ¬ (g : Int) = 0 := z0
          have z1 : ¬ (g : Int) = (k : Int) := z1
          have z2 : ((cntE S row g + 0 : Nat) : Int) = 1 := z2
          exfalso; lia
        · exact SubF.le rfl ⟨rfl, rfl, rfl, trivial⟩
        · exact SubF.le rfl ⟨rfl, rfl, rfl, trivial⟩
        · exact SubF.le rfl ⟨rfl, rfl, rfl, trivial⟩
      | give a =>
        refine cm_in_go oks_give oks_branch oks_table (no (no (no (fin hle ?_))))
        exact SubF.le rfl ⟨rfl, rfl, rfl, trivial⟩
      | branch a t o =>
        obtain ⟨hak, hto⟩ := w.br k _ a t o hSk rfl
        obtain ⟨ak, av⟩ := a
        cases hak
        have nall : ¬ gl S k = List.replicate (gl S k).length t := by rw [hglB]; simp [En.goals, List.replicate]; exact fun e => hto e.symm
        have hx : gl S k = t :: [o] := hglB
        refine cm_in_go oks_branch oks_branch oks_table (yes (itm rfl (no (itm (by rw [hx]; rfl) (newO fun l hl => glo g_len (rd_ok put_same ⟨jl, newL (alleq nall (no (no (no (fin (hle.put (hle.none hl)) ?_)))))⟩))))))
        exact SubF.le rfl ⟨rfl, rfl, rfl, trivial⟩
      | table a low lot o =>
        obtain ⟨hak, hln, g, g1, g2⟩ := w.tb k _ a low lot o hSk rfl
        obtain ⟨ak, av⟩ := a
        cases hak
        cases lot with
        | nil => exact absurd rfl hln
        | cons t lot =>
          have hx : gl S k = t :: (lot ++ [o]) := hglB
          have nall : ¬ gl S k = List.replicate (gl S k).length t := fun e => by
            have e1 : ∀ y ∈ gl S k, y = t := fun y hy => by rw [e] at hy; exact List.eq_of_mem_replicate hy
            rw [hx] at e1
            have a1 := e1 g (List.mem_append_left [o] g1)
            have a2 := e1 o (by simp)
            exact g2 (a1.trans a2.symm)
          refine cm_in_go oks_table oks_branch oks_table (yes (itm rfl (no (itm (by rw [hx]; rfl) (newO fun l hl => glo g_len (rd_ok put_same ⟨jl, newL (alleq nall (no (no (no (fin (hle.put (hle.none hl)) ?_)))))⟩))))))
          exact SubF.le rfl ⟨rfl, rfl, rfl, trivial⟩
    · obtain ⟨hle, rfl⟩ := hI
      refine for_c hcl (qle_seq (monoX hcl) (qle_loop (qle_seq (monoX hcl) qle_fn))) (StJ (gl S k) f n (put σ n (.dict (encD D)))) (fun v vs τ m hI => ?_) (fun τ m hI => ?_) _ [(st "drawn", .ref f), (st "named", .ref n)] _ _ ?_ ⟨0, rfl, Nat.zero_le _, hle, rfl⟩
      · obtain ⟨j, hvs, hj, hle, rfl⟩ := hI
        have kf := hle _ _ kf0
        have hj2 : j < (gl S k).length := by
          rcases Nat.lt_or_ge j (gl S k).length with h | h
          · exact h
          · rw [List.drop_of_length_le h] at hvs; cases hvs
        rw [List.drop_eq_getElem_cons hj2, List.map_cons] at hvs
        obtain ⟨rfl, rfl⟩ := List.cons.inj hvs
        have hgm : (gl S k)[j] ∈ gl S k := List.getElem_mem hj2
        generalize (gl S k)[j] = y at hgm
        have hy := w.wf.goals.lt k y hgm
        have hSy : S[y]? = some S[y] := by simp [hy]
        have hpl := w.pl k y hgm
        generalize S[y] = C at hSy
        have hpl := hpl C hSy
        obtain ⟨c, hcy, hσc⟩ := h.get hSy
        have hcy' : idx (bs.map V.ref) (y : Int) = some (.ref c) := by rw [idx_nat]; simp [hcy]
        have kc := hle _ _ (le_put hn (o := .dict (encD D)) _ _ hσc)
        have fin : ∀ {m}, LeF [(st "drawn", .ref f), (st "named", .ref n)] m → ∃ m1, LeF m1 m ∧ StJ (gl S k) f n (put σ n (.dict (encD D))) (((gl S k).drop (j + 1)).map nV) τ m1 := fun {m} q => ⟨_, q, j + 1, rfl, hj2, hle, rfl⟩
        obtain ⟨cnum, csteps, cid, cline, ce⟩ := C
        refine rd_ok kf (fld hb (itm hcy' (rd_ok kc (fld rfl (newL (cm_eq_nil ?_))))))
        cases csteps with
        | cons a r =>
          refine no (no (fin ?_))
          exact SubF.le rfl ⟨rfl, rfl, trivial⟩
        | nil =>
          refine yes (rd_ok kc (fld rfl ?_))
          cases ce with
          | jump z =>
            refine yes (rd_ok kc (fld rfl (cnd_n (fun zy => ?_) fun zy => fin ?_)))
            · exact absurd ⟨rfl, z, rfl, fun e => zy (congrArg (fun n : Nat => (n : Int)) e)⟩ hpl
            · exact SubF.le rfl ⟨rfl, rfl, trivial⟩
          | branch a t o =>
            refine no (no (fin ?_))
            exact SubF.le rfl ⟨rfl, rfl, trivial⟩
          | table a low lot o =>
            refine no (no (fin ?_))
            exact SubF.le rfl ⟨rfl, rfl, trivial⟩
          | give a =>
            refine no (no (fin ?_))
            exact SubF.le rfl ⟨rfl, rfl, trivial⟩
      · obtain ⟨j, hvs, hj, hle, rfl⟩ := hI
        refine ⟨_, ?_, k + 1, rfl, hk2, hle, rfl⟩
        exact SubF.le rfl ⟨rfl, rfl, trivial⟩
      · exact SubF.le rfl ⟨rfl, rfl, trivial⟩
  · obtain ⟨k, hvs, hk, hle, rfl⟩ := hI
    exact retP_drop (fun a v e => hle a v (le_put hn a v e)) hq
  · exact SubF.le rfl ⟨rfl, rfl, trivial⟩
end Mine

namespace Mine
set_option tactic.hygienic false
set_option genSizeOfSpec false
open PySem
set_option maxRecDepth 100000
set_option linter.unusedSimpArgs false
set_option linter.unusedVariables false

/-- A block that does nothing and does not give. -/
noncomputable def sil (S : List Blk) (k : Nat) : Prop := ∃ B : Blk, S[k]? = some B ∧ B.steps = [] ∧ ∀ a, B.en.e ≠ .give a
noncomputable def nx (S : List Blk) (R : Int → Int) (k : Nat) : Nat := match S[k]? with | some B => nextE R B.en.e | none => 0
/-- An endless silent round. -/
noncomputable def SDiv (S : List Blk) (R : Int → Int) (k : Nat) : Prop := ∃ X : Nat → Prop, X k ∧ ∀ j, X j → sil S j ∧ X (nx S R j)
theorem SDiv.sil {S : List Blk} {R : Int → Int} {k : Nat} (h : SDiv S R k) : Mine.sil S k := by obtain ⟨X, a, b⟩ := h; exact (b k a).1
theorem SDiv.nx {S : List Blk} {R : Int → Int} {k : Nat} (h : SDiv S R k) : SDiv S R (Mine.nx S R k) := by obtain ⟨X, a, b⟩ := h; exact ⟨X, (b k a).2, b⟩

inductive Out (S : List Blk) : (Int → Int) → List TE → Nat → WR → Prop
  | full {R tr k B} : tr.length < 30 → S[k]? = some B → 30 ≤ (runA B.steps R tr).2.length → Out S R tr k ⟨(runA B.steps R tr).2.take 30, none⟩
  | give {R tr k B a} : tr.length < 30 → S[k]? = some B → ¬ 30 ≤ (runA B.steps R tr).2.length → B.en.e = .give a → Out S R tr k ⟨(runA B.steps R tr).2, some (valR (runA B.steps R tr).1 a)⟩
  | go {R tr k B w} : tr.length < 30 → S[k]? = some B → ¬ 30 ≤ (runA B.steps R tr).2.length → (∀ a, B.en.e ≠ .give a) → Out S (runA B.steps R tr).1 (runA B.steps R tr).2 (nextE (runA B.steps R tr).1 B.en.e) w → Out S R tr k w
  | loop {R tr k} : tr.length < 30 → SDiv S R k → Out S R tr k ⟨tr, none⟩

theorem runA_nil {R : Int → Int} {tr : List TE} : runA [] R tr = (R, tr) := rfl
theorem runA_append : ∀ {xs ys : List Act} {R : Int → Int} {tr : List TE}, runA (xs ++ ys) R tr = runA ys (runA xs R tr).1 (runA xs R tr).2
  | [], ys, R, tr => rfl
  | a :: xs, ys, R, tr => by simp only [List.cons_append, runA]; exact runA_append
theorem runA_pre : ∀ {xs : List Act} {R : Int → Int} {tr : List TE}, ∃ us, (runA xs R tr).2 = tr ++ us ∧ us.length = xs.length
  | [], R, tr => ⟨[], by simp [runA], rfl⟩
  | a :: xs, R, tr => by
    obtain ⟨us, h, hl⟩ := runA_pre (xs := xs) (R := doR a R tr.length) (tr := tr ++ [teOf a R])
    exact ⟨teOf a R :: us, by simp only [runA, h]; simp, by simp [hl]⟩
theorem runA_len {xs : List Act} {R : Int → Int} {tr : List TE} : (runA xs R tr).2.length = tr.length + xs.length := by
  obtain ⟨us, h, hl⟩ := runA_pre (xs := xs) (R := R) (tr := tr)
  rw [h, List.length_append, hl]

theorem laps_step {S : List Blk} {n k : Nat} {R : Int → Int} {tr : List TE} {B : Blk} (hB : S[k]? = some B) (h30 : ¬ 30 ≤ (runA B.steps R tr).2.length) (hg : ∀ a, B.en.e ≠ .give a) :
    laps S (n + 1) R tr k = laps S n (runA B.steps R tr).1 (runA B.steps R tr).2 (nextE (runA B.steps R tr).1 B.en.e) := by
  simp only [laps, hB, if_neg h30]
theorem laps_sil {S : List Blk} {n k : Nat} {R : Int → Int} {tr : List TE} (h : sil S k) (ht : tr.length < 30) : laps S (n + 1) R tr k = laps S n R tr (nx S R k) := by
  obtain ⟨B, hB, hs, hg⟩ := h
  rw [laps_step hB (by rw [hs, runA_nil]; simp only; lia) hg, hs, runA_nil]
  simp only [nx, hB]
theorem laps_div {S : List Blk} {R : Int → Int} {tr : List TE} (ht : tr.length < 30) : ∀ {n k : Nat}, SDiv S R k → laps S n R tr k = ⟨tr, none⟩
  | 0, k, _ => rfl
  | n + 1, k, h => by rw [laps_sil h.sil ht]; exact laps_div ht h.nx

noncomputable def nxs (S : List Blk) (R : Int → Int) : Nat → Nat → Nat
  | 0, k => k
  | i + 1, k => nxs S R i (nx S R k)
theorem nxs_add {S : List Blk} {R : Int → Int} : ∀ {i j k : Nat}, nxs S R (i + j) k = nxs S R j (nxs S R i k)
  | 0, j, k => by simp [nxs]
  | i + 1, j, k => by rw [Nat.add_right_comm]; simp only [nxs]; exact nxs_add
theorem nxs_succ {S : List Blk} {R : Int → Int} {i k : Nat} : nxs S R (i + 1) k = nx S R (nxs S R i k) := nxs_add (j := 1)
/-- A silent stretch that is longer than the row of blocks is an endless round. -/
theorem sdiv_of_long {S : List Blk} {R : Int → Int} {k : Nat} (h : ∀ i, i ≤ S.length → sil S (nxs S R i k)) : SDiv S R k := by
  have hlt : ∀ i, i ≤ S.length → nxs S R i k < S.length := fun i hi => by
    obtain ⟨B, hB, _⟩ := h i hi
    exact (List.getElem?_eq_some_iff.mp hB).1
  have rep : ∃ a b, a < b ∧ b ≤ S.length ∧ nxs S R a k = nxs S R b k := by
    refine Classical.byContradiction fun hc => ?_
    have hnd : ((List.range (S.length + 1)).map fun i => nxs S R i k).Nodup := by
      refine List.pairwise_map.mpr ?_
      refine List.pairwise_iff_getElem.mpr fun i j hi hj hij e => ?_
      simp only [List.getElem_range] at e
      simp at hi hj
      exact hc ⟨i, j, hij, by lia, e⟩
    have := nodup_lt_length S.length _ hnd fun x hx => by
      obtain ⟨i, hi, rfl⟩ := List.mem_map.mp hx
      have := List.mem_range.mp hi
      exact hlt i (by lia)
    simp at this
    lia
  obtain ⟨a, b, hab, hb, e⟩ := rep
  have all : ∀ i, ∃ j, j ≤ S.length ∧ nxs S R i k = nxs S R j k := by
    intro i
    induction i using Nat.strongRecOn with
    | ind i ih =>
      by_cases hi : i ≤ S.length
      · exact ⟨i, hi, rfl⟩
      · obtain ⟨j, hj, ej⟩ := ih (a + (i - b)) (by lia)
        refine ⟨j, hj, ?_⟩
        rw [← ej]
        have e1 : i = b + (i - b) := by lia
        rw [nxs_add (i := a), e, ← nxs_add, ← e1]
  refine ⟨fun j => ∃ i, j = nxs S R i k, ⟨0, rfl⟩, fun j ⟨i, hi⟩ => ⟨?_, i + 1, ?_⟩⟩
  · obtain ⟨j', hj', e'⟩ := all i
    rw [hi, e']; exact h j' hj'
  · rw [hi, nxs_succ]

theorem nx_goal {S : List Blk} {R : Int → Int} {k : Nat} (h : sil S k) : nx S R k ∈ gl S k := by
  obtain ⟨B, hB, _, hg⟩ := h
  simp only [nx, hB, gl_of hB]
  exact nextE_mem hg

/-- Silent laps, then a block that is not silent. -/
theorem laps_go {S : List Blk} {R : Int → Int} {tr : List TE} (ht : tr.length < 30) : ∀ {i n k : Nat}, (∀ j, j < i → sil S (nxs S R j k)) → laps S (n + i) R tr k = laps S n R tr (nxs S R i k)
  | 0, n, k, _ => rfl
  | i + 1, n, k, h => by
    rw [← Nat.add_assoc, laps_sil (show sil S k from h 0 (by lia)) ht]
    exact laps_go ht fun j hj => h (j + 1) (by lia)
theorem out_go {S : List Blk} {R : Int → Int} {tr : List TE} {w : WR} (ht : tr.length < 30) : ∀ {i k : Nat}, (∀ j, j < i → sil S (nxs S R j k)) → Out S R tr (nxs S R i k) w → Out S R tr k w
  | 0, k, _, h => h
  | i + 1, k, h, ho => by
    have := out_go ht (i := i) (k := nx S R k) (fun j hj => h (j + 1) (by lia)) ho
    obtain ⟨B, hB, hs, hg⟩ := h 0 (by lia)
    refine .go ht hB (by rw [hs, runA_nil]; simp only; lia) hg ?_
    rw [hs, runA_nil]
    simp only [nx] at this
    rw [show S[k]? = some B from hB] at this
    exact this

theorem least {p : Nat → Prop} {N : Nat} (h : ∃ i, i ≤ N ∧ ¬ p i) : ∃ i, i ≤ N ∧ ¬ p i ∧ ∀ j, j < i → p j := by
  obtain ⟨i, hi, hp⟩ := h
  induction i using Nat.strongRecOn with
  | ind i ih =>
    by_cases q : ∃ j, j < i ∧ ¬ p j
    · obtain ⟨j, hj, hpj⟩ := q
      exact ih j hj (by lia) hpj
    · exact ⟨i, hi, hp, fun j hj => Classical.byContradiction fun hc => q ⟨j, hj, hc⟩⟩

theorem laps_out {S : List Blk} (hg : GoalsOk S) : ∀ (c : Nat) (R : Int → Int) (tr : List TE) (k n : Nat), tr.length < 30 → 30 - tr.length ≤ c → k < S.length → c * (S.length + 1) ≤ n → Out S R tr k (laps S n R tr k) := by
  intro c
  induction c with
  | zero => intro R tr k n h1 h2; lia
  | succ c ih =>
    intro R tr k n h1 h2 hk hn
    by_cases hd : SDiv S R k
    · rw [laps_div h1 hd]; exact .loop h1 hd
    · have hex : ∃ i, i ≤ S.length ∧ ¬ sil S (nxs S R i k) := Classical.byContradiction fun hc => hd (sdiv_of_long fun i hi => Classical.byContradiction fun q => hc ⟨i, hi, q⟩)
      obtain ⟨i, hi, hns, hall⟩ := least hex
      have hki : nxs S R i k < S.length := by
        cases i with
        | zero => exact hk
        | succ i =>
          rw [nxs_succ]
          exact hg.lt _ _ (nx_goal (hall i (by lia)))
      have hn2 : (c + 1) * (S.length + 1) = c * (S.length + 1) + (S.length + 1) := Nat.succ_mul _ _
      obtain ⟨n', rfl⟩ : ∃ n', n = n' + 1 + i := ⟨n - 1 - i, by lia⟩
      rw [laps_go h1 hall]
      refine out_go h1 hall ?_
      generalize nxs S R i k = j at hns hki
      have hB : S[j]? = some S[j] := by simp [hki]
      generalize S[j] = B at hB
      by_cases h30 : 30 ≤ (runA B.steps R tr).2.length
      · have e : laps S (n' + 1) R tr j = ⟨(runA B.steps R tr).2.take 30, none⟩ := by simp only [laps, hB, if_pos h30]
        rw [e]; exact .full h1 hB h30
      · by_cases hgv : ∃ a, B.en.e = .give a
        · obtain ⟨a, ha⟩ := hgv
          have e : laps S (n' + 1) R tr j = ⟨(runA B.steps R tr).2, some (valR (runA B.steps R tr).1 a)⟩ := by simp only [laps, hB, if_neg h30, ha]
          rw [e]; exact .give h1 hB h30 ha
        · have hg' : ∀ a, B.en.e ≠ .give a := fun a e => hgv ⟨a, e⟩
          rw [laps_step hB h30 hg']
          refine .go h1 hB h30 hg' (ih _ _ _ _ (by lia) ?_ ?_ (by lia))
          · have hst : B.steps ≠ [] := fun e => hns ⟨B, hB, e, hg'⟩
            have := List.length_pos_iff.mpr hst
            rw [runA_len]; lia
          · exact hg.lt j _ (by rw [gl_of hB]; exact nextE_mem hg')

theorem Out.det {S : List Blk} {R : Int → Int} {tr : List TE} {k : Nat} {w w' : WR} (h : Out S R tr k w) : Out S R tr k w' → w = w' := by
  induction h with
  | full h1 hB h30 =>
    intro h
    cases h with
    | full _ hB' _ => rw [hB] at hB'; cases hB'; rfl
    | give _ hB' h30' _ => rw [hB] at hB'; cases hB'; exact absurd h30 h30'
    | go _ hB' h30' _ _ => rw [hB] at hB'; cases hB'; exact absurd h30 h30'
    | loop _ hd =>
      obtain ⟨B', hB', hs, _⟩ := hd.sil
      rw [hB] at hB'; cases hB'
      rw [hs, runA_nil] at h30; simp only at h30; lia
  | give h1 hB h30 ha =>
    intro h
    cases h with
    | full _ hB' h30' => rw [hB] at hB'; cases hB'; exact absurd h30' h30
    | give _ hB' _ ha' => rw [hB] at hB'; cases hB'; rw [ha] at ha'; cases ha'; rfl
    | go _ hB' _ hg _ => rw [hB] at hB'; cases hB'; exact absurd ha (hg _)
    | loop _ hd =>
      obtain ⟨B', hB', _, hg⟩ := hd.sil
      rw [hB] at hB'; cases hB'
      exact absurd ha (hg _)
  | go h1 hB h30 hg _ ih =>
    intro h
    cases h with
    | full _ hB' h30' => rw [hB] at hB'; cases hB'; exact absurd h30' h30
    | give _ hB' _ ha' => rw [hB] at hB'; cases hB'; exact absurd ha' (hg _)
    | go _ hB' _ _ h' => rw [hB] at hB'; cases hB'; exact ih h'
    | loop _ hd =>
      have hnx := hd.nx
      obtain ⟨B', hB', hs, _⟩ := hd.sil
      rw [hB] at hB'; cases hB'
      refine ih ?_
      simp only [nx, hB] at hnx
      rw [hs, runA_nil]
      exact .loop h1 hnx
  | loop h1 hd =>
    intro h
    generalize hw : (⟨_, none⟩ : WR) = w0
    have key : ∀ {R tr k w'}, Out S R tr k w' → SDiv S R k → w' = ⟨tr, none⟩ := by
      intro R tr k w' h
      induction h with
      | full h1 hB h30 =>
        intro hd
        obtain ⟨B', hB', hs, _⟩ := hd.sil
        rw [hB] at hB'; cases hB'
        rw [hs, runA_nil] at h30; simp only at h30; lia
      | give h1 hB h30 ha =>
        intro hd
        obtain ⟨B', hB', _, hg⟩ := hd.sil
        rw [hB] at hB'; cases hB'
        exact absurd ha (hg _)
      | go h1 hB h30 hg _ ih =>
        intro hd
        have hnx := hd.nx
        obtain ⟨B', hB', hs, _⟩ := hd.sil
        rw [hB] at hB'; cases hB'
        simp only [nx, hB] at hnx
        rw [hs, runA_nil] at ih
        exact ih hnx
      | loop h1 _ => intro _; rfl
    rw [← hw]; exact (key h hd).symm

theorem walk_out {S : List Blk} (w : WF S) (p0 p1 : Int) : Out S (R0 p0 p1) [] 0 (walkP S p0 p1) :=
  laps_out w.goals 31 _ _ _ _ (by simp) (by simp) w.pos (Nat.le_refl _)

end Mine

namespace Mine
set_option tactic.hygienic false
set_option genSizeOfSpec false
open PySem
set_option maxRecDepth 100000
set_option linter.unusedSimpArgs false
set_option linter.unusedVariables false

-- threads
theorem PathL.head {jd : List (Nat × Nat)} {n g : Nat} {xs : List Nat} (h : PathL jd n xs g) : ∃ r, xs = n :: r := by
  induction h with
  | one => exact ⟨[], rfl⟩
  | snoc _ _ _ ih => obtain ⟨r, rfl⟩ := ih; exact ⟨r ++ [_], rfl⟩
theorem PathL.last {jd : List (Nat × Nat)} {n g : Nat} {xs : List Nat} (h : PathL jd n xs g) : ∃ r, xs = r ++ [g] := by
  cases h with
  | one => exact ⟨[], rfl⟩
  | snoc _ _ _ => exact ⟨_, rfl⟩
theorem PathL.next {jd : List (Nat × Nat)} {n g : Nat} {zs : List Nat} (h : PathL jd n zs g) : ∀ {xs : List Nat} {x y : Nat} {r : List Nat}, zs = xs ++ x :: y :: r → jd.lookup x = some y := by
  induction h with
  | one =>
    intro xs x y r e
    have := congrArg List.length e
    simp at this; lia
  | @snoc zs g h hp hl hn ih =>
    intro xs x y r e
    rcases List.eq_nil_or_concat r with rfl | ⟨r', z, rfl⟩
    · have e2 : zs ++ [h] = (xs ++ [x]) ++ [y] := by simpa using e
      obtain ⟨e3, e4⟩ := List.append_inj' e2 rfl
      cases e4
      obtain ⟨r2, e5⟩ := hp.last
      rw [e5] at e3
      obtain ⟨_, e6⟩ := List.append_inj' e3 rfl
      cases e6; exact hl
    · simp only [List.concat_eq_append] at e
      have e2 : zs ++ [h] = (xs ++ x :: y :: r') ++ [z] := by simpa using e
      obtain ⟨e3, e4⟩ := List.append_inj' e2 rfl
      exact ih e3
theorem PathL.cmp {jd : List (Nat × Nat)} {n g g' : Nat} {xs ys : List Nat} (h : PathL jd n xs g) (h' : PathL jd n ys g') : (∃ r, ys = xs ++ r) ∨ ∃ r, xs = ys ++ r := by
  induction h with
  | one => obtain ⟨r, rfl⟩ := h'.head; exact .inl ⟨r, rfl⟩
  | @snoc xs g h hp hl hn ih =>
    rcases ih with ⟨r, rfl⟩ | ⟨r, rfl⟩
    · cases r with
      | nil => exact .inr ⟨[h], by simp⟩
      | cons y r =>
        obtain ⟨r2, e5⟩ := hp.last
        have := h'.next (xs := r2) (x := g) (y := y) (r := r) (by rw [e5]; simp)
        rw [hl] at this; cases this
        exact .inl ⟨r, by simp⟩
    · exact .inr ⟨r ++ [h], by simp⟩
theorem LastG.uniq {jd : List (Nat × Nat)} {n g g' : Nat} (h : LastG jd n g) (h' : LastG jd n g') : g = g' := by
  have key : ∀ {g g' : Nat} {xs : List Nat} {r : List Nat}, PathL jd n xs g → (jd.lookup g = none ∨ ∃ h ∈ xs, jd.lookup g = some h) → PathL jd n (xs ++ r) g' → g = g' := by
    intro g g' xs r hp hs hp'
    obtain ⟨r2, e5⟩ := hp.last
    cases r with
    | nil =>
      rw [List.append_nil] at hp'
      obtain ⟨r3, e6⟩ := hp'.last
      rw [e5] at e6
      obtain ⟨_, e7⟩ := List.append_inj' e6 rfl
      cases e7; rfl
    | cons y r =>
      have hy := hp'.next (xs := r2) (x := g) (y := y) (r := r) (by rw [e5]; simp)
      rcases hs with hs | ⟨z, hz, hs⟩
      · rw [hs] at hy; cases hy
      · rw [hs] at hy; cases hy
        have := hp'.nodup
        exact absurd rfl ((List.nodup_append.mp this).2.2 _ hz _ (.head _))
  obtain ⟨xs, hp, hs⟩ := h
  obtain ⟨ys, hp', hs'⟩ := h'
  rcases hp.cmp hp' with ⟨r, rfl⟩ | ⟨r, rfl⟩
  · exact key hp hs hp'
  · exact (key hp' hs' hp).symm
theorem PathL.from {jd : List (Nat × Nat)} {n g : Nat} {xs : List Nat} (h : PathL jd n xs g) : ∀ {x : Nat}, x ∈ xs → ∃ ys, PathL jd x ys g ∧ ∀ y ∈ ys, y ∈ xs := by
  induction h with
  | one => intro x hx; simp at hx; subst hx; exact ⟨[x], .one, fun y hy => hy⟩
  | @snoc xs g h hp hl hn ih =>
    intro x hx
    rcases List.mem_append.mp hx with hx | hx
    · obtain ⟨ys, h1, h2⟩ := ih hx
      refine ⟨ys ++ [h], .snoc h1 hl fun q => hn (h2 h q), fun y hy => ?_⟩
      rcases List.mem_append.mp hy with hy | hy
      · exact List.mem_append_left _ (h2 y hy)
      · exact List.mem_append_right _ hy
    · simp at hx; subst hx
      exact ⟨[x], .one, fun y hy => by simp at hy; subst hy; simp⟩
theorem LastG.cyc {jd : List (Nat × Nat)} {n x h : Nat} (hl : LastG jd n x) (hx : jd.lookup x = some h) : LastG jd h x := by
  obtain ⟨xs, hp, hs⟩ := hl
  rcases hs with hs | ⟨z, hz, hs⟩
  · rw [hx] at hs; cases hs
  · rw [hx] at hs; cases hs
    obtain ⟨ys, h1, h2⟩ := hp.from hz
    obtain ⟨r, rfl⟩ := h1.head
    exact ⟨_, h1, .inr ⟨h, .head _, hx⟩⟩
theorem ThreadsOk.last {jd fd : List (Nat × Nat)} (h : ThreadsOk jd fd) (g : Nat) : LastG jd g (lg fd g) := by
  have := h g
  unfold lg
  cases e : fd.lookup g with
  | none => rw [e] at this; exact ⟨[g], .one, .inl this⟩
  | some x => rw [e] at this; exact this.2

inductive PP (jd : List (Nat × Nat)) : Nat → Nat → Prop
  | refl {a} : PP jd a a
  | step {a b c} : jd.lookup a = some b → PP jd b c → PP jd a c
theorem PP.snoc {jd : List (Nat × Nat)} {a b c : Nat} (h : PP jd a b) (hb : jd.lookup b = some c) : PP jd a c := by
  induction h with
  | refl => exact .step hb .refl
  | step h1 _ ih => exact .step h1 (ih hb)
theorem PathL.pp {jd : List (Nat × Nat)} {n g : Nat} {xs : List Nat} (h : PathL jd n xs g) : PP jd n g := by
  induction h with
  | one => exact .refl
  | snoc _ hl _ ih => exact ih.snoc hl
theorem ThreadsOk.pp {jd fd : List (Nat × Nat)} (h : ThreadsOk jd fd) (g : Nat) : PP jd g (lg fd g) := by
  obtain ⟨xs, hp, _⟩ := h.last g
  exact hp.pp

-- ends
theorem nextE_led {R : Int → Int} {ld : List (Nat × Nat)} {e : En} (h : ∀ a, e ≠ .give a) : nextE R (ledE ld e) = lg ld (nextE R e) := by
  cases e with
  | jump g => rfl
  | give a => exact absurd rfl (h a)
  | branch a t o => by_cases q : valR R a = 0 <;> simp [nextE, ledE, q]
  | table a low lot o =>
    simp only [nextE, ledE, List.getElem?_map]
    cases lot[((valR R a - low) % 4294967296).toNat]? <;> rfl
theorem count_all {l : List Nat} {o : Nat} (h : l.count o = l.length) : ∀ x ∈ l, x = o := fun x hx => by
  have := List.count_eq_length.mp h x hx
  exact this.symm
theorem nextE_settled {R : Int → Int} {st : List Act} {e : En} (hk : ∀ a ∈ e.args, ∀ v, known st a = some v → valR R a = v) : nextE R (settledE st e) = nextE R e := by
  unfold settledE
  cases hs : settledN st e with
  | none => rfl
  | some n =>
    cases e with
    | jump g => cases hs
    | give a => cases hs
    | branch a t o =>
      simp only [settledN] at hs
      show n = _
      split at hs
      · rename_i q; cases hs; simp [nextE, ← q]
      · cases hv : known st a with
        | none => rw [hv] at hs; cases hs
        | some v =>
          rw [hv] at hs
          have := hk a (by simp [En.args]) v hv
          cases hs
          simp only [nextE, this]
    | table a low lot o =>
      simp only [settledN] at hs
      show n = _
      split at hs
      · rename_i q; cases hs
        simp only [nextE]
        cases e2 : lot[((valR R a - low) % 4294967296).toNat]? with
        | none => rfl
        | some x => exact (count_all q x (List.mem_of_getElem? e2)).symm
      · cases hv : known st a with
        | none => rw [hv] at hs; cases hs
        | some v =>
          rw [hv] at hs
          have := hk a (by simp [En.args]) v hv
          cases hs
          simp only [nextE, this]
theorem known_rev {R : Int → Int} {tr : List TE} {r : Int} (h0 : 0 ≤ r) : ∀ {rs : List Act} {i : Int}, (∀ s ∈ rs, ActWf s) → knownRev rs r = some i → (runA rs.reverse R tr).1 r = i
  | [], i, _, h => by cases h
  | s :: rs, i, hw, h => by
    rw [List.reverse_cons, runA_append]
    have ih := fun i h => known_rev (R := R) (tr := tr) h0 (rs := rs) (i := i) (fun s hs => hw s (.tail _ hs)) h
    generalize runA rs.reverse R tr = q at ih ⊢
    obtain ⟨R1, tr1⟩ := q
    simp only [runA, doR] at ih ⊢
    simp only [knownRev] at h
    have ws := hw s (.head _)
    split at h
    · rename_i hd
      rw [hd, if_pos h0]
      simp only [upd, if_true]
      unfold actK at h
      split at h
      · rename_i hop
        cases ha : s.args with
        | nil => rw [ha] at h; cases h
        | cons x xs =>
          rw [ha] at h
          simp only at h
          split at h
          · rename_i hk
            cases h
            have hx := (ws.args x (by rw [ha]; simp)).k hk
            have e1 : doV s ((x :: xs).map (valR R1)) tr1.length = valR R1 x := by
              unfold doV
              rcases hop with hop | hop <;> simp [hop, ofString_inj]
            rw [e1]
            simp only [valR, hk, if_true]
            exact (Int.emod_eq_of_lt hx.1 hx.2).symm
          · cases h
      · cases h
    · rename_i hd
      have e2 : ∀ v, upd R1 s.dst v r = R1 r := fun v => by simp [upd, Ne.symm hd]
      split
      · rw [e2]; exact ih i h
      · exact ih i h
theorem known_val {R : Int → Int} {tr : List TE} {st : List Act} {a : Arg} {v : Int} (hw : ∀ s ∈ st, ActWf s) (ha : ArgWf a) (h : known st a = some v) : valR (runA st R tr).1 a = v := by
  unfold known at h
  split at h
  · rename_i hk
    cases h
    have := ha.k hk
    simp only [valR, hk, if_true]
    exact (Int.emod_eq_of_lt this.1 this.2).symm
  · rename_i hk
    have hk : a.k = false := by simpa using hk
    have := known_rev (R := R) (tr := tr) (ha.r hk).1 (rs := st.reverse) (fun s hs => hw s (List.mem_reverse.mp hs)) h
    rw [List.reverse_reverse] at this
    simp only [valR, hk]
    exact this
theorem ledE_args {ld : List (Nat × Nat)} {e : En} : (ledE ld e).args = e.args := by cases e <;> rfl
theorem endsE_give {fd : List (Nat × Nat)} {B : Blk} {a : Arg} : endsE fd B = .give a ↔ B.en.e = .give a := by
  unfold endsE settledE
  constructor
  · intro h
    split at h
    · cases h
    · cases e : B.en.e <;> rw [e] at h <;> simp [ledE] at h
      rw [h]
  · intro h
    rw [h]; rfl
theorem endsE_next {fd : List (Nat × Nat)} {B : Blk} {R : Int → Int} {tr : List TE} (hw : ∀ s ∈ B.steps, ActWf s) (ha : ∀ x ∈ B.en.e.args, ArgWf x) (hg : ∀ a, B.en.e ≠ .give a) :
    nextE (runA B.steps R tr).1 (endsE fd B) = lg fd (nextE (runA B.steps R tr).1 B.en.e) := by
  unfold endsE
  rw [nextE_settled, nextE_led hg]
  intro a hm v hv
  rw [ledE_args] at hm
  exact known_val hw (ha a hm) hv

theorem pp_div {S : List Blk} (w : WF S) {R : Int → Int} {a b : Nat} (h : PP (plainJ S) a b) (hd : SDiv S R a) : SDiv S R b := by
  induction h with
  | refl => exact hd
  | step h1 _ ih =>
    obtain ⟨B, hB, he, _⟩ := plainJ_goal w h1
    have := hd.nx
    simp only [nx, hB, he, nextE] at this
    exact ih this
theorem ends_div {S T : List Blk} {fd : List (Nat × Nat)} {b : Bool} (w : WOk S) (hE : EndsRel fd S T b) (hf : ThreadsOk (plainJ S) fd) {R : Int → Int} {k : Nat} (h : SDiv S R k) : SDiv T R k := by
  refine ⟨SDiv S R, h, fun j hj => ?_⟩
  obtain ⟨B, hB, hs, hg⟩ := hj.sil
  obtain ⟨B', hB', _, hs', he⟩ := hE.2.1 j B hB
  refine ⟨⟨B', hB', hs'.trans hs, fun a q => ?_⟩, ?_⟩
  · rw [he] at q
    exact hg a (endsE_give.mp q)
  · have hn := hj.nx
    simp only [nx, hB] at hn
    have e := endsE_next (fd := fd) (R := R) (tr := []) (w.acts j B hB) (w.eargs j B hB) hg
    rw [hs, runA_nil] at e
    simp only [nx, hB', he, e]
    exact pp_div w.wf (hf.pp _) hn
theorem ends_out {S T : List Blk} {fd : List (Nat × Nat)} {b : Bool} (w : WOk S) (hE : EndsRel fd S T b) (hf : ThreadsOk (plainJ S) fd) {R : Int → Int} {tr : List TE} {k : Nat} {o : WR} (h : Out S R tr k o) :
    ∀ j, PP (plainJ S) k j → Out T R tr j o := by
  have triv : ∀ {k j : Nat} {B : Blk}, S[k]? = some B → (B.steps ≠ [] ∨ ∃ a, B.en.e = .give a) → PP (plainJ S) k j → j = k := by
    intro k j B hB hn hp
    cases hp with
    | refl => rfl
    | step h1 _ =>
      obtain ⟨B', hB', he, hs, _⟩ := plainJ_goal w.wf h1
      rw [hB] at hB'; cases hB'
      rcases hn with hn | ⟨a, ha⟩
      · exact absurd hs hn
      · rw [he] at ha; cases ha
  induction h with
  | full h1 hB h30 =>
    intro j hp
    have hj := triv hB (.inl fun e => by rw [e, runA_nil] at h30; simp only at h30; lia) hp
    subst hj
    obtain ⟨B', hB', _, hs', he⟩ := hE.2.1 _ _ hB
    have := Out.full (S := T) (R := _) h1 hB' (by rw [hs']; exact h30)
    rw [hs'] at this; exact this
  | give h1 hB h30 ha =>
    intro j hp
    have hj := triv hB (.inr ⟨_, ha⟩) hp
    subst hj
    obtain ⟨B', hB', _, hs', he⟩ := hE.2.1 _ _ hB
    have := Out.give (S := T) (R := _) h1 hB' (by rw [hs']; exact h30) (he.trans (endsE_give.mpr ha))
    rw [hs'] at this; exact this
  | @go R tr k B o h1 hB h30 hg _ ih =>
    intro j hp
    cases hp with
    | refl =>
      obtain ⟨B', hB', _, hs', he⟩ := hE.2.1 _ _ hB
      refine Out.go (S := T) h1 hB' (by rw [hs']; exact h30) (fun a q => hg a (endsE_give.mp (he ▸ q))) ?_
      rw [hs', he, endsE_next (w.acts _ B hB) (w.eargs _ B hB) hg]
      exact ih _ (hf.pp _)
    | step h1' hp' =>
      obtain ⟨B', hB', he, hs, _⟩ := plainJ_goal w.wf h1'
      rw [hB] at hB'; cases hB'
      rw [hs, runA_nil, he] at ih
      exact ih j hp'
  | loop h1 hd =>
    intro j hp
    exact .loop h1 (ends_div w hE hf (pp_div w.wf hp hd))

-- joins
theorem joinAt_get {T : List Blk} {i k : Nat} {B C : Blk} (hB : T[i]? = some B) : (joinAt T i B C)[k]? = if k = i then some ⟨B.num, B.steps ++ C.steps, C.en⟩ else T[k]? := by
  rw [joinAt, List.getElem?_set]
  by_cases q : k = i
  · subst q
    rw [if_pos rfl, if_pos (List.getElem?_eq_some_iff.mp hB).1, if_pos rfl]
  · rw [if_neg (Ne.symm q), if_neg q]
theorem join_div {T : List Blk} {i g : Nat} {B C : Blk} (hB : T[i]? = some B) (he : B.en.e = .jump g) (hC : T[g]? = some C) (hgi : g ≠ i) {R : Int → Int} {k : Nat} (h : SDiv T R k) : SDiv (joinAt T i B C) R k := by
  refine ⟨SDiv T R, h, fun j hj => ?_⟩
  by_cases q : j = i
  · subst q
    obtain ⟨B1, hB1, hs1, hg1⟩ := hj.sil
    rw [hB] at hB1; cases hB1
    have hn := hj.nx
    simp only [nx, hB, he, nextE] at hn
    obtain ⟨C1, hC1, hs2, hg2⟩ := hn.sil
    rw [hC] at hC1; cases hC1
    have hn2 := hn.nx
    simp only [nx, hC] at hn2
    have hJ : (joinAt T j B C)[j]? = some ⟨B.num, B.steps ++ C.steps, C.en⟩ := by rw [joinAt_get hB, if_pos rfl]
    refine ⟨⟨_, hJ, by simp [hs1, hs2], hg2⟩, ?_⟩
    simp only [nx, hJ]; exact hn2
  · obtain ⟨B1, hB1, hs1, hg1⟩ := hj.sil
    have hJ : (joinAt T i B C)[j]? = some B1 := by rw [joinAt_get hB, if_neg q]; exact hB1
    have hn := hj.nx
    simp only [nx, hB1] at hn
    refine ⟨⟨_, hJ, hs1, hg1⟩, ?_⟩
    simp only [nx, hJ]; exact hn
theorem join_out {T : List Blk} {i g : Nat} {B C : Blk} (hB : T[i]? = some B) (he : B.en.e = .jump g) (hC : T[g]? = some C) (hgi : g ≠ i) {R : Int → Int} {tr : List TE} {k : Nat} {o : WR} (h : Out T R tr k o) : Out (joinAt T i B C) R tr k o := by
  have hJi : (joinAt T i B C)[i]? = some ⟨B.num, B.steps ++ C.steps, C.en⟩ := by rw [joinAt_get hB, if_pos rfl]
  have hJg : (joinAt T i B C)[g]? = some C := by rw [joinAt_get hB, if_neg hgi]; exact hC
  have hJ : ∀ {k : Nat} {D : Blk}, k ≠ i → T[k]? = some D → (joinAt T i B C)[k]? = some D := fun q hD => by rw [joinAt_get hB, if_neg q]; exact hD
  induction h with
  | @full R tr k D h1 hD h30 =>
    by_cases q : k = i
    · subst q
      rw [hB] at hD; cases hD
      obtain ⟨us, e1, _⟩ := runA_pre (xs := C.steps) (R := (runA B.steps R tr).1) (tr := (runA B.steps R tr).2)
      have := Out.full (S := joinAt T k B C) (R := R) h1 hJi (by simp only [runA_append, e1, List.length_append]; lia)
      simp only [runA_append, e1] at this
      rw [List.take_append_of_le_length h30] at this
      exact this
    · exact .full h1 (hJ q hD) h30
  | @give R tr k D a h1 hD h30 ha =>
    by_cases q : k = i
    · subst q
      rw [hB] at hD; cases hD
      rw [he] at ha; cases ha
    · exact .give h1 (hJ q hD) h30 ha
  | @go R tr k D o h1 hD h30 hg _ ih =>
    by_cases q : k = i
    · subst q
      rw [hB] at hD; cases hD
      simp only [he, nextE] at ih
      generalize hr : runA B.steps R tr = res at ih h30
      obtain ⟨R1, tr1⟩ := res
      simp only at ih h30
      have er : runA (B.steps ++ C.steps) R tr = runA C.steps R1 tr1 := by rw [runA_append, hr]
      cases ih with
      | full _ hC' h30' =>
        rw [hJg] at hC'; cases hC'
        have := Out.full (S := joinAt T k B C) (R := R) h1 hJi (by simp only [er]; exact h30')
        simp only [er] at this; exact this
      | give _ hC' h30' ha =>
        rw [hJg] at hC'; cases hC'
        have := Out.give (S := joinAt T k B C) (R := R) h1 hJi (by simp only [er]; exact h30') ha
        simp only [er] at this; exact this
      | go _ hC' h30' hg' h' =>
        rw [hJg] at hC'; cases hC'
        refine Out.go (S := joinAt T k B C) (R := R) h1 hJi (by simp only [er]; exact h30') hg' ?_
        simp only [er]; exact h'
      | loop h1' hd =>
        obtain ⟨C1, hC1, hs1, hg1⟩ := hd.sil
        rw [hJg] at hC1; cases hC1
        have hn := hd.nx
        simp only [nx, hJg] at hn
        refine Out.go (S := joinAt T k B C) (R := R) h1 hJi (by simp only [er]; rw [hs1, runA_nil]; exact h30) hg1 ?_
        simp only [er]
        rw [hs1, runA_nil]
        exact .loop h1' hn
    · exact .go h1 (hJ q hD) h30 hg ih
  | loop h1 hd => exact .loop h1 (join_div hB he hC hgi hd)
theorem joins_out {S T : List Blk} (h : Joins S T) {R : Int → Int} {tr : List TE} {k : Nat} {o : WR} (ho : Out S R tr k o) : Out T R tr k o := by
  induction h with
  | refl => exact ho
  | step _ hB he hC hgi ih => exact join_out hB he hC hgi ih

-- keep
theorem keep_div {T T' : List Blk} {kept : List Nat} {ld : List (Nat × Nat)} (hld : LeadOk kept ld) (hk : ∀ (i k : Nat) (B : Blk), kept[i]? = some k → T[k]? = some B → ∃ id, T'[i]? = some ⟨i, B.steps, ⟨id, B.en.line, ledE ld B.en.e⟩⟩)
    (hcl : ∀ k ∈ kept, ∀ g ∈ gl T k, g ∈ kept) {R : Int → Int} {i k : Nat} (hi : kept[i]? = some k) (h : SDiv T R k) : SDiv T' R i := by
  refine ⟨fun i => ∃ k, kept[i]? = some k ∧ SDiv T R k, ⟨k, hi, h⟩, fun j ⟨k, hj, hd⟩ => ?_⟩
  obtain ⟨B, hB, hs, hg⟩ := hd.sil
  obtain ⟨id, hT'⟩ := hk j k B hj hB
  have hng : ∀ a, ledE ld B.en.e ≠ .give a := fun a q => by
    cases e : B.en.e <;> rw [e] at q <;> simp [ledE] at q
    exact hg _ e
  refine ⟨⟨_, hT', hs, hng⟩, ?_⟩
  have hn := hd.nx
  simp only [nx, hB] at hn
  simp only [nx, hT', nextE_led hg]
  have hm := hcl k (List.mem_of_getElem? hj) (nextE R B.en.e) (by rw [gl_of hB]; exact nextE_mem hg)
  obtain ⟨l, hl, e⟩ := List.mem_iff_getElem.mp hm
  have hl2 : kept[l]? = some (nextE R B.en.e) := by rw [List.getElem?_eq_getElem hl, e]
  refine ⟨nextE R B.en.e, ?_, hn⟩
  have := hld.1 l _ hl2
  simp only [lg, this, Option.getD_some]
  exact hl2
theorem keep_out {T T' : List Blk} {kept : List Nat} {ld : List (Nat × Nat)} (hld : LeadOk kept ld) (hk : ∀ (i k : Nat) (B : Blk), kept[i]? = some k → T[k]? = some B → ∃ id, T'[i]? = some ⟨i, B.steps, ⟨id, B.en.line, ledE ld B.en.e⟩⟩)
    (hcl : ∀ k ∈ kept, ∀ g ∈ gl T k, g ∈ kept) {R : Int → Int} {tr : List TE} {k : Nat} {o : WR} (h : Out T R tr k o) : ∀ i, kept[i]? = some k → Out T' R tr i o := by
  induction h with
  | @full R tr k B h1 hB h30 =>
    intro i hi
    obtain ⟨id, hT'⟩ := hk _ _ _ hi hB
    have := Out.full (S := T') (R := R) h1 hT' h30
    exact this
  | @give R tr k B a h1 hB h30 ha =>
    intro i hi
    obtain ⟨id, hT'⟩ := hk _ _ _ hi hB
    have := Out.give (S := T') (R := R) (a := a) h1 hT' h30 (by rw [ha]; rfl)
    exact this
  | @go R tr k B o h1 hB h30 hg _ ih =>
    intro i hi
    obtain ⟨id, hT'⟩ := hk _ _ _ hi hB
    have hng : ∀ a, ledE ld B.en.e ≠ .give a := fun a q => by
      cases e : B.en.e <;> rw [e] at q <;> simp [ledE] at q
      exact hg _ e
    refine .go h1 hT' h30 hng ?_
    simp only [nextE_led hg]
    have hm := hcl k (List.mem_of_getElem? hi) (nextE (runA B.steps R tr).1 B.en.e) (by rw [gl_of hB]; exact nextE_mem hg)
    obtain ⟨l, hl, e⟩ := List.mem_iff_getElem.mp hm
    have hl2 : kept[l]? = some (nextE (runA B.steps R tr).1 B.en.e) := by rw [List.getElem?_eq_getElem hl, e]
    have := hld.1 l _ hl2
    simp only [lg, this, Option.getD_some]
    exact ih l hl2
  | loop h1 hd =>
    intro i hi
    exact .loop h1 (keep_div hld hk hcl hi hd)

end Mine

namespace Mine
set_option tactic.hygienic false
set_option genSizeOfSpec false
open PySem
set_option maxRecDepth 100000
set_option linter.unusedSimpArgs false
set_option linter.unusedVariables false

structure WA (S : List Blk) : Prop where
  acts : ∀ (i : Nat) (B : Blk), S[i]? = some B → ∀ a ∈ B.steps, ActWf a
  eargs : ∀ (i : Nat) (B : Blk), S[i]? = some B → ∀ x ∈ B.en.e.args, ArgWf x
  first : ∃ (B : Blk) (r : List Act) (a b c : Act), S[0]? = some B ∧ B.steps = a :: b :: c :: r ∧ (a.op = Str.ofString "const" ∧ a.dst = 2 ∧ a.args = [⟨true, 2⟩]) ∧ (b.op = Str.ofString "const" ∧ b.dst = 3 ∧ b.args = [⟨true, 3⟩]) ∧ (c.op = Str.ofString "const" ∧ c.dst = 4 ∧ c.args = [⟨true, 4⟩])
theorem WOk.wa {S : List Blk} (w : WOk S) : WA S := ⟨w.acts, w.eargs, w.first⟩
theorem endsE_args {fd : List (Nat × Nat)} {B : Blk} : ∀ x ∈ (endsE fd B).args, x ∈ B.en.e.args := by
  intro x hx
  unfold endsE settledE at hx
  split at hx
  · simp [En.args] at hx
  · rwa [ledE_args] at hx
theorem EndsRel.wa {fd : List (Nat × Nat)} {S T : List Blk} {b : Bool} (h : EndsRel fd S T b) (w : WA S) : WA T where
  acts i B' hB' := by obtain ⟨B, h1, _, h3, _⟩ := h.inv hB'; rw [h3]; exact w.acts i B h1
  eargs i B' hB' x hx := by obtain ⟨B, h1, _, _, h4⟩ := h.inv hB'; rw [h4] at hx; exact w.eargs i B h1 x (endsE_args x hx)
  first := by
    obtain ⟨B, r, a, b, c, h1, h2, h3⟩ := w.first
    obtain ⟨B', h4, _, h5, _⟩ := h.2.1 0 B h1
    exact ⟨B', r, a, b, c, h4, h5.trans h2, h3⟩
theorem Joins.wa {S T : List Blk} (h : Joins S T) (w : WA S) : WA T := by
  induction h with
  | refl => exact w
  | @step T i g B C _ hB he hC hgi ih =>
    refine ⟨fun j D hD => ?_, fun j D hD => ?_, ?_⟩
    · rw [joinAt_get hB] at hD
      split at hD
      · cases hD
        intro a ha
        rcases List.mem_append.mp ha with ha | ha
        · exact ih.acts i B hB a ha
        · exact ih.acts g C hC a ha
      · exact ih.acts j D hD
    · rw [joinAt_get hB] at hD
      split at hD
      · cases hD; exact ih.eargs g C hC
      · exact ih.eargs j D hD
    · obtain ⟨D, r, a, b, c, h1, h2, h3⟩ := ih.first
      by_cases q : 0 = i
      · subst q
        rw [hB] at h1; cases h1
        exact ⟨_, r ++ C.steps, a, b, c, by rw [joinAt_get hB, if_pos rfl], by simp [h2], h3⟩
      · exact ⟨D, r, a, b, c, by rw [joinAt_get hB, if_neg q]; exact h1, h2, h3⟩
theorem keep_inv {T T' : List Blk} {kept : List Nat} {ld : List (Nat × Nat)} (hlen : T'.length = kept.length) (hk : ∀ (i k : Nat) (B : Blk), kept[i]? = some k → T[k]? = some B → ∃ id, T'[i]? = some ⟨i, B.steps, ⟨id, B.en.line, ledE ld B.en.e⟩⟩)
    (hlt : ∀ k ∈ kept, k < T.length) {i : Nat} {B' : Blk} (hB' : T'[i]? = some B') : ∃ k B, kept[i]? = some k ∧ T[k]? = some B ∧ B'.steps = B.steps ∧ B'.en.e = ledE ld B.en.e := by
  have hi := (List.getElem?_eq_some_iff.mp hB').1
  rw [hlen] at hi
  have hki : kept[i]? = some kept[i] := by simp [hi]
  have hm := List.getElem_mem hi
  generalize kept[i] = k at hki hm
  have hkT := hlt k hm
  have hTk : T[k]? = some T[k] := by simp [hkT]
  obtain ⟨id, e⟩ := hk i k _ hki hTk
  rw [hB'] at e; cases e
  exact ⟨k, _, hki, hTk, rfl, rfl⟩
theorem keep_wa {T T' : List Blk} {kept : List Nat} {ld : List (Nat × Nat)} (hlen : T'.length = kept.length) (hk : ∀ (i k : Nat) (B : Blk), kept[i]? = some k → T[k]? = some B → ∃ id, T'[i]? = some ⟨i, B.steps, ⟨id, B.en.line, ledE ld B.en.e⟩⟩)
    (hlt : ∀ k ∈ kept, k < T.length) (h0 : kept[0]? = some 0) (w : WA T) : WA T' where
  acts i B' hB' := by obtain ⟨k, B, h1, h2, h3, _⟩ := keep_inv hlen hk hlt hB'; rw [h3]; exact w.acts k B h2
  eargs i B' hB' x hx := by obtain ⟨k, B, h1, h2, _, h4⟩ := keep_inv hlen hk hlt hB'; rw [h4, ledE_args] at hx; exact w.eargs k B h2 x hx
  first := by
    obtain ⟨B, r, a, b, c, h1, h2, h3⟩ := w.first
    obtain ⟨id, e⟩ := hk 0 0 B h0 h1
    exact ⟨_, r, a, b, c, e, h2, h3⟩
theorem sorted_zero {l : List Nat} (h : l.Pairwise (· ≤ ·)) (h0 : 0 ∈ l) : l[0]? = some 0 := by
  cases l with
  | nil => simp at h0
  | cons x r =>
    rcases List.mem_cons.mp h0 with e | e
    · subst e; rfl
    · have := (List.pairwise_cons.mp h).1 0 e
      have : x = 0 := by lia
      subst this; rfl

theorem OnceRel.keep {S S' : List Blk} {b : Bool} (h : OnceRel S S' b) (w : WOk S) : WOk S' ∧ ∀ p0 p1, walkP S' p0 p1 = walkP S p0 p1 := by
  have wf' := h.wf w.wf
  obtain ⟨fd, T, b1, row, T2, G, hf, hE, hr, ⟨⟨L, ji⟩, hs⟩, hk⟩ := h
  have waT := hE.wa w.wa
  have waT2 := ji.js.wa waT
  have o2 : ∀ p0 p1, Out T2 (R0 p0 p1) [] 0 (walkP S p0 p1) := fun p0 p1 => joins_out ji.js (ends_out w hE hf (walk_out w.wf p0 p1) 0 .refl)
  rcases hk with ⟨hG, hl, rfl, rfl⟩ | ⟨hG, rfl, kept, hp, hp2, hk⟩
  · exact ⟨⟨wf', waT2.acts, waT2.eargs, waT2.first⟩, fun p0 p1 => (walk_out wf' p0 p1).det (o2 p0 p1)⟩
  · obtain ⟨ld, hld, hlen, hkk⟩ := hk
    have hpL := hp.trans (live_perm ji hr.nd)
    have hlt : ∀ k ∈ kept, k < T2.length := fun k hk => by
      rw [ji.len]; exact hr.lt k ((ji.mem k).mp (hpL.mem_iff.mp hk)).1
    have h0 : kept[0]? = some 0 := sorted_zero hp2 (hpL.mem_iff.mpr ((ji.mem 0).mpr ⟨hr.zero, fun q => (ji.sub 0 q).2.1 rfl⟩))
    have wa' := keep_wa hlen hkk hlt h0 waT2
    exact ⟨⟨wf', wa'.acts, wa'.eargs, wa'.first⟩, fun p0 p1 => (walk_out wf' p0 p1).det (keep_out hld hkk (fun k hk g hg => hpL.mem_iff.mpr (ji.live (hpL.mem_iff.mp hk) hg)) (o2 p0 p1) 0 h0)⟩

-- the measure
noncomputable def isBr (B : Blk) : Bool := match B.en.e with
  | .branch .. => true
  | .table .. => true
  | _ => false
noncomputable def Named (S : List Blk) : Prop := ∃ i, ∃ g ∈ gl S i, (plainJ S).lookup g ≠ none
open Classical in
noncomputable def flag (S : List Blk) : Nat := if Named S then 1 else 0
noncomputable def mu (S : List Blk) : Nat := S.length * 1000 + S.countP isBr * 2 + flag S
theorem flag_le (S : List Blk) : flag S ≤ 1 := by unfold flag; split <;> lia
theorem countP_pw {p : Blk → Bool} : ∀ {S T : List Blk}, T.length = S.length → (∀ (i : Nat) (B B' : Blk), S[i]? = some B → T[i]? = some B' → p B' = true → p B = true) →
    T.countP p ≤ S.countP p ∧ (T.countP p = S.countP p → ∀ (i : Nat) (B B' : Blk), S[i]? = some B → T[i]? = some B' → p B = true → p B' = true)
  | [], [], _, _ => ⟨Nat.le_refl _, fun zz i B B' h => by simp at h⟩
  | [], _ :: _, h, _ => by simp at h
  | _ :: _, [], h, _ => by simp at h
  | B :: S, B' :: T, h, hp => by
    obtain ⟨i1, i2⟩ := countP_pw (p := p) (S := S) (T := T) (by simpa using h) fun i C C' h1 h2 => hp (i + 1) C C' (by simpa using h1) (by simpa using h2)
    have h0 := hp 0 B B' rfl rfl
    simp only [List.countP_cons]
    by_cases q : p B = true
    · by_cases q' : p B' = true
      · simp only [q, q', if_true]
        refine ⟨by lia, fun e i C C' h1 h2 => ?_⟩
        cases i with
        | zero => simp at h1 h2; subst h1; subst h2; exact fun zz => q'
        | succ i => exact i2 (by lia) i C C' (by simpa using h1) (by simpa using h2)
      · simp only [q, q', if_true]
        simp only [Bool.false_eq_true, if_false]
        exact ⟨by lia, fun e => by lia⟩
    · have q' : ¬ p B' = true := fun e => q (h0 e)
      simp only [q, q', Bool.false_eq_true, if_false]
      refine ⟨by lia, fun e i C C' h1 h2 => ?_⟩
      cases i with
      | zero => simp at h1 h2; subst h1; subst h2; exact fun e => absurd e q
      | succ i => exact i2 (by lia) i C C' (by simpa using h1) (by simpa using h2)

theorem settledN_br {st : List Act} {e : En} {n : Nat} (h : settledN st e = some n) : (∃ a t o, e = .branch a t o) ∨ ∃ a l lt o, e = .table a l lt o := by
  cases e with
  | jump g => cases h
  | give a => cases h
  | branch a t o => exact .inl ⟨a, t, o, rfl⟩
  | table a l lt o => exact .inr ⟨a, l, lt, o, rfl⟩
theorem endsE_br {fd : List (Nat × Nat)} {B B' : Blk} (he : B'.en.e = endsE fd B) (h : isBr B' = true) : isBr B = true := by
  unfold isBr at h ⊢
  rw [he] at h
  unfold endsE settledE at h
  cases hs : settledN B.steps (ledE fd B.en.e) with
  | some n => rw [hs] at h; simp at h
  | none =>
    rw [hs] at h
    cases e : B.en.e <;> rw [e] at h <;> simp [ledE] at h <;> rfl
theorem endsE_same {fd : List (Nat × Nat)} {B B' : Blk} (he : B'.en.e = endsE fd B) (h : isBr B = true → isBr B' = true) : endsE fd B = ledE fd B.en.e := by
  cases hs : settledN B.steps (ledE fd B.en.e) with
  | none => simp only [endsE, settledE, hs]
  | some n =>
    have hb : isBr B = true := by
      unfold isBr
      rcases settledN_br hs with ⟨a, t, o, e⟩ | ⟨a, l, lt, o, e⟩ <;> (cases e2 : B.en.e <;> rw [e2] at e <;> simp [ledE] at e <;> rfl)
    have := h hb
    unfold isBr at this
    rw [he] at this
    simp only [endsE, settledE, hs] at this
    cases this
theorem lg_none {jd fd : List (Nat × Nat)} (h : ThreadsOk jd fd) {g : Nat} (hg : jd.lookup g = none) : lg fd g = g := (h.last g).uniq ⟨[g], .one, .inl hg⟩

theorem OnceRel.less {S S' : List Blk} (w : WF S) (h : OnceRel S S' true) : mu S' < mu S := by
  have wf' := h.wf w
  obtain ⟨fd, T, b1, row, T2, G, hf, hE, hr, ⟨⟨L, ji⟩, hs⟩, hk⟩ := h
  rcases hk with ⟨hG, hl, rfl, hb⟩ | ⟨hG, _, kept, hp, hp2, hk⟩
  · have eT := ji.id hG
    subst eT
    subst hb
    have hlen := hE.1
    obtain ⟨c1, c2⟩ := countP_pw (p := isBr) hlen fun i B B' h1 h2 hb => by
      obtain ⟨B2, h3, _, _, h4⟩ := hE.2.1 i B h1
      rw [h2] at h3; cases h3
      exact endsE_br h4 hb
    unfold mu
    rw [hlen]
    have f1 := flag_le S'
    by_cases hc : S'.countP isBr = S.countP isBr
    · have c2 := c2 hc
      have same : ∀ (i : Nat) (B : Blk), S[i]? = some B → endsE fd B = ledE fd B.en.e := fun i B hB => by
        obtain ⟨B', h3, _, _, h4⟩ := hE.2.1 i B hB
        exact endsE_same h4 (c2 i B B' hB h3)
      have fS : flag S = 1 := by
        unfold flag
        rw [if_pos]
        obtain ⟨i, B, hB, hne⟩ := hE.2.2.mp rfl
        rw [same i B hB] at hne
        refine Classical.byContradiction fun hn => hne (ledE_id fun g hg => ?_)
        refine Classical.byContradiction fun hne2 => hn ⟨i, g, by rw [gl_of hB]; exact hg, ?_⟩
        have := hf g
        cases e : fd.lookup g with
        | none => exact absurd e hne2
        | some x => rw [e] at this; intro q; rw [q] at this; cases this.1
      have fT : flag S' = 0 := by
        unfold flag
        rw [if_neg]
        rintro ⟨i, y, hy, hpl⟩
        obtain ⟨h', hh⟩ := Option.ne_none_iff_exists'.mp hpl
        obtain ⟨C', hC', he', hs', hne, hyl, hhl⟩ := plainJ_goal wf' hh
        obtain ⟨C, hC, _, hsC, heC⟩ := hE.inv hC'
        rw [same y C hC] at heC
        have hyg : ∃ g, lg fd g = y := by
          unfold gl at hy
          cases hB : S'[i]? with
          | none => rw [hB] at hy; simp at hy
          | some B' =>
            rw [hB] at hy
            obtain ⟨B, h1, _, _, h4⟩ := hE.inv hB
            simp only [h4, same i B h1, ledE_goals] at hy
            obtain ⟨g, _, e⟩ := List.mem_map.mp hy
            exact ⟨g, e⟩
        obtain ⟨g, hg⟩ := hyg
        rw [he'] at heC
        cases eC : C.en.e with
        | branch a t o => rw [eC] at heC; cases heC
        | table a l lt o => rw [eC] at heC; cases heC
        | give a => rw [eC] at heC; cases heC
        | jump h0 =>
          rw [eC] at heC
          have e0 : h' = lg fd h0 := by simpa [ledE] using heC
          have hst : C.steps = [] := by rw [← hsC]; exact hs'
          by_cases q : h0 = y
          · subst q
            have : (plainJ S).lookup h0 = none := by
              rw [plainJ_lookup w, hC]
              simp [plainOf, eC, hst, w.num _ _ hC]
            exact hne (e0.trans (lg_none hf this))
          · have hl0 : (plainJ S).lookup y = some h0 := by
              rw [plainJ_lookup w, hC]
              simp [plainOf, eC, hst, w.num _ _ hC, q]
            have l1 := hf.last g
            rw [hg] at l1
            exact hne (e0.trans ((hf.last h0).uniq (l1.cyc hl0)))
      rw [hc, fS, fT]; lia
    · lia
  · have hlen : S'.length = kept.length := hk.choose_spec.2.1
    have hrl := nodup_lt_length _ _ hr.nd hr.lt
    rw [hE.1] at hrl
    have hkl : kept.length < S.length := by
      rw [hp.length_eq]
      rcases hG with hG | hG
      · obtain ⟨g, hg⟩ := List.exists_mem_of_ne_nil G hG
        have hgr := (ji.sub g hg).1
        have : (row.filter (· ∉ G)).length < row.length := by
          refine Nat.lt_of_le_of_ne (List.length_filter_le ..) fun e => ?_
          have := List.length_filter_eq_length_iff.mp e g hgr
          simp at this
          exact this hg
        lia
      · exact Nat.lt_of_le_of_lt (List.length_filter_le ..) hG
    have f1 := flag_le S'
    have c1 : S'.countP isBr ≤ S'.length := List.countP_le_length
    have := wf'.len
    unfold mu
    lia

-- the end of the pass
structure Fix (S : List Blk) : Prop where
  wf : WF S
  row : ∃ row, RowOk S row ∧ row.length = S.length ∧ ∀ x ∈ row, Stuck S row x
  st : ∀ (i : Nat) (B : Blk), S[i]? = some B → settledN B.steps B.en.e = none
  pl : ∀ i, ∀ g ∈ gl S i, (plainJ S).lookup g = none

theorem EndsRel.still {fd : List (Nat × Nat)} {S T : List Blk} (h : EndsRel fd S T false) {i : Nat} {B : Blk} (hB : S[i]? = some B) : endsE fd B = B.en.e := by
  refine Classical.byContradiction fun q => ?_
  have := h.2.2.mpr ⟨i, B, hB, q⟩
  cases this
theorem endsE_still {fd : List (Nat × Nat)} {B : Blk} (h : endsE fd B = B.en.e) : settledN B.steps B.en.e = none ∧ ledE fd B.en.e = B.en.e := by
  cases hs : settledN B.steps (ledE fd B.en.e) with
  | none =>
    simp only [endsE, settledE, hs] at h
    rw [h] at hs; exact ⟨hs, h⟩
  | some n =>
    exfalso
    simp only [endsE, settledE, hs] at h
    rw [← h] at hs
    cases hs
theorem EndsRel.shown {fd : List (Nat × Nat)} {S T : List Blk} (h : EndsRel fd S T false) : shownV T = shownV S := by
  unfold shownV
  congr 1
  refine List.ext_getElem? fun i => ?_
  rw [List.getElem?_map, List.getElem?_map]
  cases hB : S[i]? with
  | none =>
    have : T[i]? = none := by rw [List.getElem?_eq_none_iff] at hB ⊢; rw [h.1]; exact hB
    rw [this]
  | some B =>
    obtain ⟨B', h1, h2, h3, h4⟩ := h.2.1 i B hB
    rw [h1]
    simp only [Option.map_some, rowV, h2, h3, h4, h.still hB]
theorem lg_fix {jd fd : List (Nat × Nat)} (h : ThreadsOk jd fd) {g y : Nat} (hg : lg fd g = g) (hy : jd.lookup g = some y) : y = g := by
  obtain ⟨xs, hp, hs⟩ := h.last g
  rw [hg] at hp hs
  have hx : xs = [g] := by
    cases hp with
    | one => rfl
    | snoc hp' _ hn => obtain ⟨r, rfl⟩ := hp'.head; exact absurd (List.mem_cons_self) hn
  rcases hs with hs | ⟨z, hz, hs⟩
  · rw [hy] at hs; cases hs
  · rw [hy] at hs; cases hs
    rw [hx] at hz; simpa using hz

theorem OnceRel.fix {S S' : List Blk} (w : WF S) (h : OnceRel S S' false) : Fix S' ∧ shownV S' = shownV S := by
  obtain ⟨fd, T, b1, row, T2, G, hf, hE, hr, ⟨⟨L, ji⟩, hs⟩, hk⟩ := h
  rcases hk with ⟨hG, hl, rfl, hb⟩ | ⟨_, hb, _⟩
  · have eT := ji.id hG
    subst eT
    subst hb
    have wT := hE.wf w hf
    have hrl := nodup_lt_length _ _ hr.nd hr.lt
    have hlen := hE.1
    refine ⟨⟨wT, ⟨row, hr, by lia, hs hG⟩, fun i B' hB' => ?_, fun i g hg => ?_⟩, hE.shown⟩
    · obtain ⟨B, h1, _, h3, h4⟩ := hE.inv hB'
      rw [h3, h4, hE.still h1]
      exact (endsE_still (hE.still h1)).1
    · have hgg : lg fd g = g := by
        unfold gl at hg
        cases hB : S'[i]? with
        | none => rw [hB] at hg; simp at hg
        | some B' =>
          rw [hB] at hg
          obtain ⟨B, h1, _, _, h4⟩ := hE.inv hB
          simp only at hg
          rw [h4, hE.still h1] at hg
          have e := congrArg En.goals (endsE_still (hE.still h1)).2
          rw [ledE_goals] at e
          obtain ⟨j, hj, e2⟩ := List.mem_iff_getElem.mp hg
          have e3 := congrArg (fun l => l[j]?) e
          simp only [List.getElem?_map, List.getElem?_eq_getElem hj, Option.map_some, e2] at e3
          exact Option.some.inj e3
      refine Classical.byContradiction fun q => ?_
      obtain ⟨y, hy⟩ := Option.ne_none_iff_exists'.mp q
      obtain ⟨C', hC', he', hs', hne, _⟩ := plainJ_goal wT hy
      obtain ⟨C, hC, _, hsC, heC⟩ := hE.inv hC'
      rw [hE.still hC, he'] at heC
      rw [hs'] at hsC
      have hl0 : (plainJ S).lookup g = some y := by
        rw [plainJ_lookup w, hC]
        simp [plainOf, ← heC, ← hsC, w.num _ _ hC, hne]
      exact hne (lg_fix hf hgg hl0)
  · cases hb

theorem Rch.row {S T : List Blk} {row : List Nat} (hg : ∀ i, gl T i = gl S i) (hr : RowOk T row) {i : Nat} (h : Rch S i) : i ∈ row := by
  induction h with
  | zero => exact hr.zero
  | step _ hgl ih => exact hr.closed _ ih _ (by rw [hg]; exact hgl)
theorem full_row {N : Nat} {row : List Nat} (nd : row.Nodup) (lt : ∀ x ∈ row, x < N) (hl : row.length = N) {i : Nat} (hi : i < N) : i ∈ row := by
  refine Classical.byContradiction fun q => ?_
  have := nodup_lt_length N (i :: row) (List.nodup_cons.mpr ⟨q, nd⟩) fun x hx => by
    rcases List.mem_cons.mp hx with rfl | hx
    · exact hi
    · exact lt x hx
  simp at this; lia
theorem cntE_congr {S T : List Blk} {row row' : List Nat} (hg : ∀ i, gl T i = gl S i) (hp : row'.Perm row) {g : Nat} : cntE T row' g = cntE S row g := by
  unfold cntE
  have : gl T = gl S := funext hg
  rw [this]
  exact (hp.flatMap_right _).count_eq g
theorem rows_perm {S T : List Blk} {row row' : List Nat} (hg : ∀ i, gl T i = gl S i) (hr : RowOk S row) (hr' : RowOk T row') : row'.Perm row := by
  refine (List.perm_ext_iff_of_nodup hr'.nd hr.nd).mpr fun x => ⟨fun h => ?_, fun h => ?_⟩
  · exact Rch.row (fun i => (hg i).symm) hr (hr'.rch x h)
  · exact Rch.row hg hr' (hr.rch x h)

theorem Fix.once {S S' : List Blk} {b : Bool} (h : Fix S) (ho : OnceRel S S' b) : b = false := by
  obtain ⟨fd, T, b1, row', T2, G, hf, hE, hr', ⟨⟨L, ji⟩, hs⟩, hk⟩ := ho
  obtain ⟨row, hr, hrl, hst⟩ := h.row
  have still : ∀ (i : Nat) (B : Blk), S[i]? = some B → endsE fd B = B.en.e := fun i B hB => by
    have e : ledE fd B.en.e = B.en.e := ledE_id fun g hg => by
      have h1 := h.pl i g (by rw [gl_of hB]; exact hg)
      have := hf g
      cases e : fd.lookup g with
      | none => rfl
      | some x => rw [e] at this; rw [h1] at this; cases this.1
    simp only [endsE, settledE, e, h.st i B hB]
  have hb1 : b1 = false := by
    cases hb : b1 with
    | false => rfl
    | true =>
      obtain ⟨i, B, hB, hne⟩ := hE.2.2.mp hb
      exact absurd (still i B hB) hne
  have hgl : ∀ i, gl T i = gl S i := fun i => by
    unfold gl
    cases hB : S[i]? with
    | none =>
      have : T[i]? = none := by rw [List.getElem?_eq_none_iff] at hB ⊢; rw [hE.1]; exact hB
      rw [this]
    | some B =>
      obtain ⟨B', h1, _, _, h4⟩ := hE.2.1 i B hB
      simp only [h1, h4, still i B hB]
  have hp := rows_perm hgl hr hr'
  have hG : G = [] := by
    refine Classical.byContradiction fun q => ?_
    obtain ⟨x, hx, hns⟩ := ji.ns q
    refine hns fun B' g hB' hj => ?_
    obtain ⟨B, h1, _, _, h4⟩ := hE.inv hB'
    rw [h4, still x B h1] at hj
    have := hst x (hp.mem_iff.mp hx) B g h1 hj
    rw [cntE_congr hgl hp]
    exact this
  rcases hk with ⟨_, _, _, rfl⟩ | ⟨hor, _⟩
  · exact hb1
  · have := hp.length_eq
    rcases hor with a | a
    · exact absurd hG a
    · lia

theorem Fix.straight {S : List Blk} (h : Fix S) : Straight S where
  wf := h.wf
  all := by
    obtain ⟨row, hr, hrl, _⟩ := h.row
    intro row' hr' i hi
    exact Rch.row (fun zz => rfl) hr' (hr.rch i (full_row hr.nd hr.lt hrl hi))
  br i B a t o hB he := by
    have := h.st i B hB
    rw [he] at this
    simp only [settledN] at this
    split at this
    · cases this
    · rename_i q
      refine ⟨?_, q⟩
      cases hk : a.k with
      | false => rfl
      | true => simp [known, hk] at this
  tb i B a low lot o hB he := by
    have := h.st i B hB
    rw [he] at this
    simp only [settledN] at this
    split at this
    · cases this
    · rename_i q
      refine ⟨?_, ?_, ?_⟩
      · cases hk : a.k with
        | false => rfl
        | true => simp [known, hk] at this
      · rintro rfl; simp at q
      · refine Classical.byContradiction fun hc => q (List.count_eq_length.mpr fun x hx => ?_)
        exact Classical.byContradiction fun hne => hc ⟨x, hx, fun e => hne e.symm⟩
  jp := by
    obtain ⟨row, hr, hrl, hst⟩ := h.row
    intro row' hr' i B g hB he
    have hi := (List.getElem?_eq_some_iff.mp hB).1
    have hp := rows_perm (fun zz => rfl) hr hr'
    rw [cntE_congr (fun zz => rfl) hp]
    exact hst i (full_row hr.nd hr.lt hrl hi) B g hB he
  pl i g hg B hB := by
    rintro ⟨hs, y, he, hne⟩
    have := h.pl i g hg
    rw [plainJ_lookup h.wf, hB] at this
    simp [plainOf, he, hs, h.wf.num _ _ hB, hne] at this

theorem StrRel.all {S S' : List Blk} {b : Bool} (h : StrRel S S' b) : WOk S → WOk S' ∧ (∀ p0 p1, walkP S' p0 p1 = walkP S p0 p1) ∧ Fix S' ∧ (b = false → shownV S' = shownV S) ∧ (Fix S → b = false) := by
  induction h with
  | stop ho =>
    intro w
    have k := ho.keep w
    have f := ho.fix w.wf
    exact ⟨k.1, k.2, f.1, fun zz => f.2, fun zz => rfl⟩
  | go ho _ ih =>
    intro w
    have k := ho.keep w
    obtain ⟨h1, h2, h3, _⟩ := ih k.1
    refine ⟨h1, fun p0 p1 => (h2 p0 p1).trans (k.2 p0 p1), h3, fun e => ?_, fun f => Fix.once f ho⟩
    cases e

end Mine

namespace Mine
set_option tactic.hygienic false
set_option genSizeOfSpec false
open PySem
set_option maxRecDepth 100000
set_option linter.unusedSimpArgs false
set_option linter.unusedVariables false
variable {σ : AH}

/-- A value that is plain data, of depth at most n. -/
noncomputable def Dt (v : V) (n : Nat) : Prop := ∃ d, v.data = some d ∧ PyData.canLay0 d = true ∧ PyData.depth d ≤ n
theorem Dt.mono {v : V} {n m : Nat} (h : Dt v n) (hm : n ≤ m) : Dt v m := by obtain ⟨d, a, b, c⟩ := h; exact ⟨d, a, b, by lia⟩
theorem Dts {n : Nat} : ∀ {vs : List V}, (∀ v ∈ vs, Dt v n) → ∃ ds, V.datas vs = some ds ∧ PyData.canLayAll0 ds = true ∧ PyData.depthAll ds ≤ n
  | [], _ => ⟨[], rfl, by simp [PyData.canLayAll0], by simp [PyData.depthAll]⟩
  | v :: vs, h => by
    obtain ⟨d, a, b, c⟩ := h v (.head _)
    obtain ⟨ds, a', b', c'⟩ := Dts (vs := vs) fun w hw => h w (.tail _ hw)
    exact ⟨d :: ds, by simp [V.datas, a, a'], by simp [PyData.canLayAll0, b, b'], by simp only [PyData.depthAll]; lia⟩
theorem Dt.tup {vs : List V} {n : Nat} (h : ∀ v ∈ vs, Dt v n) : Dt (.tup vs) (n + 1) := by
  obtain ⟨ds, a, b, c⟩ := Dts h
  exact ⟨.tuple ds, by simp [V.data, a], by simp only [PyData.canLay0]; exact b, by simp only [PyData.depth]; lia⟩
theorem Dt.fl {vs : List V} {n : Nat} (h : ∀ v ∈ vs, Dt v n) : Dt (.fl vs) (n + 1) := by
  obtain ⟨ds, a, b, c⟩ := Dts h
  exact ⟨.list ds, by simp [V.data, a], by simp only [PyData.canLay0]; exact b, by simp only [PyData.depth]; lia⟩
theorem Dt.int {i : Int} {n : Nat} : Dt (.int i) n := ⟨.int i, by simp [V.data], by simp [PyData.canLay0], by simp [PyData.depth]⟩
theorem Dt.bool {i : Bool} {n : Nat} : Dt (.bool i) n := ⟨.bool i, by simp [V.data], by simp [PyData.canLay0], by simp [PyData.depth]⟩
theorem Dt.str {s : Str} {n : Nat} (h : okS s = true) : Dt (.str s) n := ⟨.str s, by simp [V.data], lay_of h, by simp [PyData.depth]⟩
theorem Dt.arg {a : Arg} : Dt a.enc 1 := by
  obtain ⟨k, v⟩ := a
  cases k
  · exact .tup fun v hv => by
      simp at hv
      rcases hv with rfl | rfl
      · exact .str oks_r
      · exact .int
  · exact .tup fun v hv => by
      simp at hv
      rcases hv with rfl | rfl
      · exact .str oks_k
      · exact .int
theorem Dt.args {as : List Arg} : Dt (.fl (as.map Arg.enc)) 2 := .fl fun v hv => by obtain ⟨a, _, rfl⟩ := List.mem_map.mp hv; exact .arg
theorem Dt.nats {as : List Nat} {n : Nat} : Dt (.fl (as.map nV)) (n + 1) := .fl fun v hv => by obtain ⟨a, _, rfl⟩ := List.mem_map.mp hv; exact .int
theorem Dt.more {e : En} : Dt e.more 2 := by
  cases e with
  | jump g => exact .int
  | give a => exact .int
  | branch a t o => exact (Dt.tup (n := 0) fun v hv => by simp at hv; rcases hv with rfl | rfl <;> exact .int).mono (by lia)
  | table a low lot o => exact .tup fun v hv => by simp at hv; rcases hv with rfl | rfl | rfl; exact .int; exact .nats; exact .int
theorem En.op_ok (e : En) : okS e.op = true := by
  cases e
  · exact oks_jump
  · exact oks_branch
  · exact oks_table
  · exact oks_give
noncomputable def MoreOk (v : V) : Prop := (∃ i, v = .int i) ∨ ∃ s, v = .str s ∧ okS s = true
theorem MoreOk.dt {v : V} {n : Nat} (h : MoreOk v) : Dt v n := by
  rcases h with ⟨i, rfl⟩ | ⟨s, rfl, h⟩
  · exact .int
  · exact .str h
theorem Dt.act {a : Act} (w : ActWf a) : Dt (actV a) 3 := .tup fun v hv => by
  simp at hv
  rcases hv with rfl | rfl | rfl | rfl | rfl
  · exact .str w.ok.op
  · exact .int
  · exact .args
  · exact (show MoreOk a.more from w.more).dt
  · exact .bool
theorem Dt.en {e : En} : Dt (enV e) 3 := .tup fun v hv => by
  simp at hv
  rcases hv with rfl | rfl | rfl | rfl | rfl
  · exact .str e.op_ok
  · exact .int
  · exact .args
  · exact .more
  · exact .bool
theorem Dt.shown {S : List Blk} (w : ∀ (i : Nat) (B : Blk), S[i]? = some B → ∀ a ∈ B.steps, ActWf a) : Dt (shownV S) 6 := .fl fun v hv => by
  obtain ⟨B, hB, rfl⟩ := List.mem_map.mp hv
  obtain ⟨i, hi, e⟩ := List.mem_iff_getElem.mp hB
  have hw := w i B (by rw [← e]; exact List.getElem?_eq_getElem hi)
  refine .tup fun v hv => ?_
  simp at hv
  rcases hv with rfl | rfl
  · exact .int
  · refine .fl fun v hv => ?_
    rcases List.mem_append.mp hv with hv | hv
    · obtain ⟨a, ha, rfl⟩ := List.mem_map.mp hv
      exact .act (hw a ha)
    · simp at hv; subst hv; exact .en
structure TEOk (e : TE) : Prop where
  op : okS e.op = true
  more : MoreOk e.more
theorem Dt.te {e : TE} (h : TEOk e) : Dt e.enc 2 := .tup fun v hv => by
  simp at hv
  rcases hv with rfl | rfl | rfl | rfl
  · exact .str h.op
  · exact h.more.dt
  · refine .tup fun v hv => ?_
    obtain ⟨i, _, rfl⟩ := List.mem_map.mp hv
    exact .int
  · exact .bool
theorem runA_te : ∀ {xs : List Act} {R : Int → Int} {tr : List TE}, (∀ a ∈ xs, ActWf a) → (∀ e ∈ tr, TEOk e) → ∀ e ∈ (runA xs R tr).2, TEOk e
  | [], R, tr, _, h => h
  | a :: xs, R, tr, hw, h => runA_te (xs := xs) (fun b hb => hw b (.tail _ hb)) fun e he => by
    rcases List.mem_append.mp he with he | he
    · exact h e he
    · simp at he; subst he
      have w := hw a (.head _)
      exact ⟨w.ok.op, w.more⟩
theorem laps_te {S : List Blk} (w : ∀ (i : Nat) (B : Blk), S[i]? = some B → ∀ a ∈ B.steps, ActWf a) : ∀ {n : Nat} {R : Int → Int} {tr : List TE} {k : Nat}, (∀ e ∈ tr, TEOk e) → ∀ e ∈ (laps S n R tr k).tr, TEOk e
  | 0, R, tr, k, h => h
  | n + 1, R, tr, k, h => by
    unfold laps
    cases hB : S[k]? with
    | none => exact h
    | some B =>
      have h2 := runA_te (R := R) (w k B hB) h
      dsimp only
      split
      · exact fun e he => h2 e (List.mem_of_mem_take he)
      · split
        · exact h2
        · exact laps_te w h2
theorem Dt.walk {S : List Blk} (w : ∀ (i : Nat) (B : Blk), S[i]? = some B → ∀ a ∈ B.steps, ActWf a) {p0 p1 : Int} : Dt (walkP S p0 p1).enc 4 := .tup fun v hv => by
  simp at hv
  rcases hv with rfl | rfl
  · refine .fl fun v hv => ?_
    obtain ⟨e, he, rfl⟩ := List.mem_map.mp hv
    exact .te (laps_te w (by simp) e he)
  · unfold onV
    split
    · exact .str (by decide +kernel)
    · exact .int
theorem eqp_same {vs : List V} {k : Bool → Prop} {n : Nat} (h : Dt (.fl vs) n) (hn : n ≤ 64) (hk : k true) : eqP σ (.fl vs) (.fl vs) k := by
  obtain ⟨d, a, b, c⟩ := h
  refine cm_eq_go (a := d) (b := d) a a (shaped_of b (by lia)) (shaped_of b (by lia)) ?_
  rw [PySem.SeqAt.eqv_refl d b]; exact hk
theorem FunAt.fr {τ : AH} {f : Addr} {bs : List Addr} {S : List Blk} {wl nm : Addr} {P : Nat} (h : FunAt σ f bs S) (hw : WellAt σ wl nm P) (k : FrW σ τ wl nm) : FunAt τ f bs S := by
  obtain ⟨ns, p, e1, e2, _⟩ := hw.ex
  have ne : ∀ a c fs, σ a = some (.inst c fs) → a ≠ wl ∧ a ≠ nm := fun a c fs e => ⟨(by rintro rfl; rw [e1] at e; cases e), (by rintro rfl; rw [e2] at e; cases e)⟩
  obtain ⟨fs, a1, a2, a3⟩ := h.fo
  have n0 := ne _ _ _ a1
  refine ⟨⟨fs, k _ _ n0.1 n0.2 a1, a2, a3⟩, h.len, fun i b B hb hB => ?_, h.nd, h.nf⟩
  have e := h.at' i b B hb hB
  have n1 := ne _ _ _ e
  exact k _ _ n1.1 n1.2 e

end Mine

namespace Mine
set_option tactic.hygienic false
set_option genSizeOfSpec false
open PySem
set_option maxRecDepth 100000
set_option linter.unusedVariables false

variable {d : Nat} {σ : AH} {cl : Calls}
theorem comp_eq {T : EvT} {sc : Scope} {m : Lo} {x : Str} {elt : Expr} {KL : QL} (f : V → V) {vs acc ws : List V} (hf : ∀ v ∈ vs, ∀ (K : QV), K (f v) σ → T.ev sc elt (setL x v m) σ K) (he : acc ++ vs.map f = ws) (h : KL ws σ) : compL T sc m x elt [] vs acc σ KL :=
  comp_by f vs acc hf (he ▸ h)
noncomputable def RetT : QS := fun fl zz zz => fl = .ret (.bool true)
noncomputable def walkOf (S : List Blk) : V → V
  | .tup [.int a, .int b] => (walkP S a b).enc
  | v => v
noncomputable def pairsV (p0 p1 p2 p3 : Int) : V := .fl [.tup [.int p0, .int p1], .tup [.int p2, .int p3]]
inductive LwI (f : Addr) (p0 p1 p2 p3 : Int) (due : V) (τ : AH) (m : Lo) : Prop
  | mk (S : List Blk) (bs : List Addr) (hF : FunAt τ f bs S) (hw : WOk S) (hW : due = .fl [(walkP S p0 p1).enc, (walkP S p2 p3).enc]) (hx : Fix S) (hm : m = [(st "drawn", .ref f), (st "pairs", pairsV p0 p1 p2 p3), (st "due", due)])
theorem walks {n : Nat} {f : Addr} {bs : List Addr} {S : List Blk} {p0 p1 p2 p3 : Int} {sc : Scope} {x : Str} {elt : Expr} {m : Lo} {Q : QL} (hF : FunAt σ f bs S) (hw : WOk S)
    (hstep : ∀ a b K, calls G0 F0 (d + 8) 278 [.ref f, .tup [.int a, .int b]] σ K → (evT G0 cl n).ev sc elt (setL x (.tup [.int a, .int b]) m) σ K)
    (hq : Q [(walkP S p0 p1).enc, (walkP S p2 p3).enc] σ) : compL (evT G0 cl n) sc m x elt [] [.tup [.int p0, .int p1], .tup [.int p2, .int p3]] [] σ Q := by
  refine comp_by (walkOf S) _ _ (fun v hv K hK => ?_) hq
  have hv' : v = .tup [.int p0, .int p1] ∨ v = .tup [.int p2, .int p3] := by simpa using hv
  rcases hv' with rfl | rfl <;> exact hstep _ _ _ (walk_c (d := d + 5) hF hw hK)
theorem law_c {ns : List Int} (hl : ns.length ≤ 63) : blkP (exT G0 (calls G0 F0 (d + 8)) 20 sc309.1) bd309.1 [(Str.ofString "script", .fl (ns.map V.int))] σ RetT := by
  obtain ⟨cl, hcl⟩ : ∃ cl, cl = calls G0 F0 (d + 8) := ⟨_, rfl⟩
  rw [← hcl]
  have hQ : QLe RetT RetT := fun zz zz zz zz zz h => h
  refine cut hcl hQ 7 (fun τ m => ∃ f p0 p1 p2 p3 due, LwI f p0 p1 p2 p3 due τ m) ?_ fun τ m hI => ?_
  · refine ⟨rfl, by decide, by decide, newL ?_⟩
    have ht : (ns.map V.int).take 24 = (ns.take 24).map V.int := List.map_take.symm
    have hm : ∀ {vs}, vs = (ns.take 24).map V.int → [] ++ vs.map (fun v => match v with | V.int i => V.int (i % 2147483647) | v => v) = ((ns.take 24).map fun i => i % 2147483647).map V.int := fun {vs} e => by
      rw [e, List.nil_append, List.map_map, List.map_map]; rfl
    refine comp_eq _ (fun v hv K hK => ?_) (hm ht) ?_
    · obtain ⟨i, _, rfl⟩ := List.mem_map.mp (ht ▸ hv)
      exact ⟨by decide, hK⟩
    have hr : ∀ n ∈ (ns.take 24).map (fun i => i % 2147483647), 0 ≤ n ∧ n < 2147483647 := fun n hn => by
      obtain ⟨i, _, rfl⟩ := List.mem_map.mp hn
      exact ⟨Int.emod_nonneg _ (by decide), Int.emod_lt_of_pos _ (by decide)⟩
    have hml : ((ns.take 24).map fun i => i % 2147483647).length ≤ 24 := by simp; lia
    generalize ((ns.take 24).map fun i => i % 2147483647) = ws at hr hml ⊢
    refine newO fun nm hnm => newO fun wl hwl => ?_
    have hne : wl ≠ nm := by rintro rfl; rw [put_same] at hwl; cases hwl
    have hw : WellAt (put (put σ nm (.list (ws.map V.int))) wl (.list [.ref nm, .int 0])) wl nm 0 := ⟨hne, ws, 0, put_same, by rw [put_ne (Ne.symm hne), put_same], hr, by lia, by lia, by lia⟩
    generalize put (put σ nm (.list (ws.map V.int))) wl (.list [.ref nm, .int 0]) = σ1 at hw ⊢
    refine glo g_law_func (use hcl (law_func_c (d := d + 2) hw (by lia) fun σ2 f bs S hF hS hw2 zz => ?_))
    refine glo g_law_draw (use hcl (draw_c (d := d + 7) (size := 3) hw2 (by lia) (by lia) (by lia) fun σ3 v0 hv0 hw3 f3 => ?_))
    replace hF := hF.fr hw2 f3
    refine glo g_law_draw (use hcl (draw_c (d := d + 7) (size := 4) hw3 (by lia) (by lia) (by lia) fun σ4 v1 hv1 hw4 f4 => ?_))
    replace hF := hF.fr hw3 f4
    refine glo g_law_draw (use hcl (draw_c (d := d + 7) (size := 2) hw4 (by lia) (by lia) (by lia) fun σ5 v2 hv2 hw5 f5 => ?_))
    replace hF := hF.fr hw4 f5
    refine glo g_law_draw (use hcl (draw_c (d := d + 7) (size := 2) hw5 (by lia) (by lia) (by lia) fun σ6 v3 hv3 hw6 f6 => ?_))
    replace hF := hF.fr hw5 f6
    have hwS := hS.wok
    generalize (v0 : Int) = p0
    generalize (v1 : Int) = p1
    generalize (4294967295 - (v2 : Int)) = p2
    generalize (v3 : Int) = p3
    refine newL ⟨rfl, walks hF hwS (fun a b K k => glo g_law_walk (use hcl k)) (newL ?_)⟩
    refine glo g_law_shown (use hcl (shown_c (d := d + 7) hF hwS.wf ?_))
    refine glo g_straighten (use hcl (straighten_c (d := d) mu (fun S S' w h => h.less w) hF hwS.wf fun σ7 S' bs' b hF' hwf' hstr => ?_))
    obtain ⟨hw', hwalk, hfix, hsame, _⟩ := hstr.all hwS
    have fin : ∀ {m due}, due = V.fl [(walkP S p0 p1).enc, (walkP S p2 p3).enc] → LeF [(st "drawn", .ref f), (st "pairs", pairsV p0 p1 p2 p3), (st "due", due)] m → ∃ m1, LeF m1 m ∧ ∃ f p0 p1 p2 p3 due, LwI f p0 p1 p2 p3 due σ7 m1 := fun {m due} e h =>
      ⟨_, h, f, p0, p1, p2, p3, due, S', bs', hF', hw', by rw [e, hwalk, hwalk], hfix, rfl⟩
    cases b with
    | true =>
      refine glo g_isinstance (glo g_bool (no (no (no (fin rfl ?_)))))
      exact SubF.le rfl ⟨rfl, rfl, rfl, trivial⟩
    | false =>
      refine glo g_isinstance (glo g_bool (no (yes (glo g_law_shown (use hcl (shown_c (d := d + 7) hF' hw'.wf ?_))))))
      rw [hsame rfl]
      refine eqp_same (.shown hwS.acts) (by lia) (no (fin rfl ?_))
      exact SubF.le rfl ⟨rfl, rfl, rfl, trivial⟩
  · obtain ⟨f, p0, p1, p2, p3, due, S, bs, hF, hw, rfl, hx, rfl⟩ := hI
    refine ⟨rfl, walks hF hw (fun a b K k => glo g_law_walk (use hcl k)) (newL ?_)⟩
    have hd : ∀ v ∈ [(walkP S p0 p1).enc, (walkP S p2 p3).enc], Dt v 4 := fun v hv => by
      have hv' : v = (walkP S p0 p1).enc ∨ v = (walkP S p2 p3).enc := by simpa using hv
      rcases hv' with rfl | rfl <;> exact .walk hw.acts
    refine eqp_same (.fl hd) (by lia) (no (glo g_law_is_straight (use hcl (is_straight_c (d := d + 5) hF hx.straight (no ?_)))))
    refine glo g_law_shown (use hcl (shown_c (d := d + 7) hF hw.wf ?_))
    refine glo g_straighten (use hcl (straighten_c (d := d) mu (fun S S' w h => h.less w) hF hw.wf fun σ8 S2 bs2 b2 hF2 hwf2 hstr2 => ?_))
    obtain ⟨hw2, _, _, hsame2, hb2⟩ := hstr2.all hw
    have hb2 := hb2 hx
    subst hb2
    refine glo g_isinstance (glo g_bool (yes (yes (glo g_law_shown (use hcl (shown_c (d := d + 7) hF2 hw2.wf ?_))))))
    rw [hsame2 rfl]
    exact .inl (eqp_same (.shown hw.acts) (by lia) rfl)
end Mine

namespace Mine
set_option tactic.hygienic false
set_option genSizeOfSpec false
open PySem PySem.W PyProof.Rows
set_option maxRecDepth 100000

noncomputable abbrev PM := Addr → Option Obj
noncomputable def Zle (Z Z' : PM) : Prop := ∀ a o, Z a = some o → Z' a = some o
theorem Zle.refl (Z : PM) : Zle Z Z := fun zz zz h => h
theorem Zle.trans {Z Z' Z'' : PM} (a : Zle Z Z') (b : Zle Z' Z'') : Zle Z Z'' := fun x o h => b x o (a x o h)

inductive Tag where | prot | froz | locals | cell (x : Str) | obj | dic (a : Addr) | other

noncomputable def clss : List Addr := [31, 52, 73]

inductive RVt (Z : PM) (u : Value) (R : List Value → Prop) : Prop
  | mk (a : Addr) (o : Obj) (us : Array Value) (ep : Nat) (e : u = .ref a) (z : Z a = some o) (c : o.cls = .type "tuple") (d : o.data = .seq us ep) (n : us.size ≤ lineOf) (r : R us.toList)
inductive RVl (Z : PM) (u : Value) (R : List Value → Prop) : Prop
  | mk (a : Addr) (o : Obj) (us : Array Value) (ep : Nat) (e : u = .ref a) (z : Z a = some o) (c : o.cls = .type "list") (d : o.dict = .none ∧ o.data = .seq us ep) (n : us.size ≤ lineOf) (r : R us.toList)
inductive RVi (Z : PM) (u : Value) (a c : Addr) (xs : List Str) (R : List DictEntry → Prop) : Prop
  | mk (e : u = .ref a) (cc : c ∈ clss) (ok : ∀ x ∈ xs, okName x = true) (d : Addr) (es : List DictEntry) (ep : Nat) (z : Z a = some (instObj c d)) (z' : Z d = some (dictOf es ep)) (r : R es)
inductive RVc (us : List Value) (R : Value → Prop) (Rs : List Value → Prop) : Prop
  | mk (u : Value) (us' : List Value) (e : us = u :: us') (r : R u) (rs : Rs us')
inductive RFc (es : List DictEntry) (x : Str) (R : Value → Prop) (Rs : List DictEntry → Prop) : Prop
  | mk (e : DictEntry) (es' : List DictEntry) (q : es = e :: es') (k : ∃ t, e.key = .str x t) (r : R e.val) (rs : Rs es')
inductive RDc (us : List (Int × Value)) (k : Int) (R : Value → Prop) (Rs : List (Int × Value) → Prop) : Prop
  | mk (u : Value) (us' : List (Int × Value)) (e : us = (k, u) :: us') (r : R u) (rs : Rs us')
mutual
noncomputable def RV (Z : PM) (u : Value) : V → Prop
  | .none => u = .none
  | .bool b => u = .bool b
  | .int i => ∃ t, u = .int i t
  | .str s => ∃ t, u = .str s t
  | .ref a => u = .ref a
  | .ty n => u = .type n
  | .bi n => u = .builtin n ∧ handedIn (.builtin n) = true
  | .tup vs => RVt Z u fun us => RVs Z us vs
  | .fl vs => RVl Z u fun us => RVs Z us vs
  | .fi a c fs => RVi Z u a c (fs.map (·.1)) fun es => RF Z es fs
noncomputable def RVs (Z : PM) : List Value → List V → Prop
  | us, [] => us = []
  | us, v :: vs => RVc us (fun u => RV Z u v) fun us => RVs Z us vs
noncomputable def RF (Z : PM) : List DictEntry → List (Str × V) → Prop
  | es, [] => es = []
  | es, xv :: fs => RFc es xv.1 (fun u => RV Z u xv.2) fun es => RF Z es fs
end

noncomputable def RD (Z : PM) : List (Int × Value) → List (Int × V) → Prop
  | us, [] => us = []
  | us, kv :: kvs => RDc us kv.1 (fun u => RV Z u kv.2) fun us => RD Z us kvs

mutual
theorem RV.mono {Z Z' : PM} (h : Zle Z Z') {u : Value} : ∀ {v : V}, RV Z u v → RV Z' u v
  | .none, x => x
  | .bool _, x => x
  | .int _, x => x
  | .str _, x => x
  | .ref _, x => x
  | .ty _, x => x
  | .bi _, x => x
  | .tup vs, x => by
    obtain ⟨a, o, us, ep, e, z, c, d, n, r⟩ := x
    exact ⟨a, o, us, ep, e, h _ _ z, c, d, n, RVs.mono h r⟩
  | .fl vs, x => by
    obtain ⟨a, o, us, ep, e, z, c, d, n, r⟩ := x
    exact ⟨a, o, us, ep, e, h _ _ z, c, d, n, RVs.mono h r⟩
  | .fi a c fs, x => by
    obtain ⟨e, cc, ok, d, es, ep, z, z', r⟩ := x
    exact ⟨e, cc, ok, d, es, ep, h _ _ z, h _ _ z', RF.mono h r⟩
theorem RVs.mono {Z Z' : PM} (h : Zle Z Z') : ∀ {us : List Value} {vs : List V}, RVs Z us vs → RVs Z' us vs
  | _, [], x => x
  | _, v :: vs, x => by
    obtain ⟨u, us', e, r, rs⟩ := x
    exact ⟨u, us', e, RV.mono h r, RVs.mono h rs⟩
theorem RF.mono {Z Z' : PM} (h : Zle Z Z') : ∀ {es : List DictEntry} {fs : List (Str × V)}, RF Z es fs → RF Z' es fs
  | _, [], x => x
  | _, v :: vs, x => by
    obtain ⟨e, es', q, t, r, rs⟩ := x
    exact ⟨e, es', q, t, RV.mono h r, RF.mono h rs⟩
end
theorem RD.mono {Z Z' : PM} (h : Zle Z Z') : ∀ {us : List (Int × Value)} {kvs : List (Int × V)}, RD Z us kvs → RD Z' us kvs
  | _, [], x => x
  | _, (k, v) :: vs, x => by
    obtain ⟨u, us', e, r, rs⟩ := x
    exact ⟨u, us', e, r.mono h, rs.mono h⟩

theorem RVs.length {Z : PM} : ∀ {us : List Value} {vs : List V}, RVs Z us vs → us.length = vs.length
  | _, [], rfl => rfl
  | _, v :: vs, x => by
    obtain ⟨u, us', rfl, r, rs⟩ := x
    exact congrArg Nat.succ rs.length
theorem RVs.get {Z : PM} : ∀ {us : List Value} {vs : List V}, RVs Z us vs → ∀ {i : Nat} {v : V}, vs[i]? = some v → ∃ u, us[i]? = some u ∧ RV Z u v
  | _, [], x, i, v, h => nomatch h
  | _, v :: vs, x, i, v', h => by
    obtain ⟨u, us', rfl, r, rs⟩ := x
    cases i with
    | zero => cases h; exact ⟨u, rfl, r⟩
    | succ i => exact rs.get (i := i) h
theorem RVs.append {Z : PM} : ∀ {us us' : List Value} {vs vs' : List V}, RVs Z us vs → RVs Z us' vs' → RVs Z (us ++ us') (vs ++ vs')
  | _, us', [], vs', x, y => by cases (show _ = [] from x); exact y
  | _, us', v :: vs, vs', x, y => by
    obtain ⟨u, us₁, rfl, r, rs⟩ := x
    exact ⟨u, us₁ ++ us', rfl, r, rs.append y⟩
theorem RVs.cons {Z : PM} {u : Value} {v : V} {us : List Value} {vs : List V} (x : RV Z u v) (y : RVs Z us vs) : RVs Z (u :: us) (v :: vs) := ⟨u, us, rfl, x, y⟩
theorem RVs.nil {Z : PM} : RVs Z [] [] := rfl
theorem RVs.take {Z : PM} : ∀ {us : List Value} {vs : List V} (k : Nat), RVs Z us vs → RVs Z (us.take k) (vs.take k)
  | _, [], k, x => by cases (show _ = [] from x); rw [List.take_nil, List.take_nil]; exact .nil
  | _, v :: vs, k, x => by
    obtain ⟨u, us', rfl, r, rs⟩ := x
    cases k with
    | zero => rfl
    | succ k => exact .cons r (rs.take k)
theorem RVs.reverse {Z : PM} : ∀ {us : List Value} {vs : List V}, RVs Z us vs → RVs Z us.reverse vs.reverse
  | _, [], x => by cases (show _ = [] from x); exact .nil
  | _, v :: vs, x => by
    obtain ⟨u, us', rfl, r, rs⟩ := x
    simp only [List.reverse_cons]
    exact rs.reverse.append (.cons r .nil)
theorem RVs.set {Z : PM} {u : Value} {v : V} (h : RV Z u v) : ∀ {us : List Value} {vs : List V} (k : Nat), RVs Z us vs → RVs Z (us.set k u) (vs.set k v)
  | _, [], k, x => by cases (show _ = [] from x); exact .nil
  | _, w :: vs, k, x => by
    obtain ⟨u, us', rfl, r, rs⟩ := x
    cases k with
    | zero => exact .cons h rs
    | succ k => exact .cons r (rs.set h k)

end Mine

namespace Mine
set_option tactic.hygienic false
set_option genSizeOfSpec false
set_option genInjectivity false
open PySem PySem.W PyProof.Rows
set_option maxRecDepth 100000

structure Base where
  prog : Program
  w : World
  K : Frag
  h0 : Heap
  os : OsState
  mg : Str → Option Value
  mb : Str → Option Value
  G : Str → Option V

/-- What is asked of the base: the globals, the builtins, the classes. -/
structure BaseOk (B : Base) : Prop where
  kin : B.K.In B.h0
  g : B.h0.Ns mainGlobals B.mg
  b : B.h0.Ns builtinsNs B.mb
  lim : B.h0.NoLimit
  glob : ∀ x v, B.G x = some v → (∃ u, (∀ Z, RV Z u v) ∧ (B.mg x = some u ∨ (B.mg x = none ∧ B.mb x = some u)))
  cls : ∀ c ∈ clss, hasDictIn B.K c = true ∧ plainOver B.K c = true ∧ findIn B.K (.ref c) "__setattr__" = some (some (.builtin "object.__setattr__"))
    ∧ ∀ x, okName x = true → plainGet B.K c x = true ∧ findIn B.K (.ref c) x = some none ∧ takerIn B.K c x = some none

structure Fx where
  A : Around
  env : Env
  wr : Bool

structure Xok (B : Base) (X : Fx) (room : Nat) : Prop where
  hL : B.h0.objs.size ≤ X.env.locals
  hh : X.A.handled = none
  hk : X.env.scope.kind = .function
  hg : X.env.globals = mainGlobals
  hb : X.env.builtins = builtinsNs
  hc : ∀ x, (X.env.kindOf x = some .cell ∨ X.env.kindOf x = some .free) → ∃ c, X.env.cells.lookup x = some c
  hcode : kdsCode B.K X.env.code = true
  hu : X.A.units + 100 * room + 200 < cLine
  hd : X.A.depth + 10 * room + 100 < recursionLimit

noncomputable def BaseIn (B : Base) (P : PM) : Prop := ∀ a o, B.h0.get? a = some o → P a = some o

variable (B : Base)

inductive ROl (Z : PM) (h : Heap) (a : Addr) (vs : List V) : Prop
  | mk (us : Array Value) (pl : h.PlainList a us) (hs : us.size ≤ lineOf) (r : RVs Z us.toList vs)
inductive ROi (Z : PM) (h : Heap) (own : Addr → Tag) (a c : Addr) (fs : List (Str × V)) : Prop
  | mk (hc : c ∈ clss) (ok : ∀ x ∈ fs.map (·.1), okName x = true) (d : Addr) (es : List DictEntry) (ep : Nat) (e : h.get? a = some (instObj c d)) (e' : h.get? d = some (dictOf es ep)) (ow : own d = .dic a) (r : RF Z es fs)
inductive ROd (Z : PM) (h : Heap) (a : Addr) (kvs : List (Int × V)) : Prop
  | mk (ns : (a == sysModules) = false ∧ kvs.length ≤ lineOf) (us : List (Int × Value)) (hd : h.DictOf (intKind B.prog B.w) a us) (rd : RD Z us kvs)
noncomputable def RO (Z : PM) (h : Heap) (own : Addr → Tag) (a : Addr) : O → Prop
  | .list vs => ROl Z h a vs
  | .dict kvs => ROd B Z h a kvs
  | .set xs => (xs.Nodup ∧ xs.length ≤ 2000) ∧ h.SetOf (intKind B.prog B.w) a (fun k => decide (k ∈ xs)) xs.length
  | .inst c fs => ROi Z h own a c fs

inductive LoOk (X : Fx) (Z : PM) (own : Addr → Tag) (m : Lo) (h : Heap) : Prop
  | mk (t : own X.env.locals = .locals) (mm : Str → Option Value) (hn : h.Ns X.env.locals mm) (r : ∀ x v, getL x m = some v → X.env.kindOf x = some .local → ∃ u, mm x = some u ∧ RV Z u v)
inductive CeOk (X : Fx) (P Z : PM) (own : Addr → Tag) (m : Lo) (h : Heap) (x : Str) (c : Addr) : Prop
  | mk (t : (X.wr = true ∧ own c = .cell x) ∨ (X.wr = false ∧ own c = .prot ∧ ∃ o, P c = some o)) (u0 : Option Value) (hc : h.IsCell c u0) (r : ∀ v, getL x m = some v → X.env.kindOf x ≠ some .local → ∃ u, u0 = some u ∧ RV Z u v)
theorem LoOk.ns {X : Fx} {Z : PM} {own : Addr → Tag} {m : Lo} {h : Heap} : LoOk X Z own m h → own X.env.locals = .locals | ⟨t, _, _, _⟩ => t
theorem CeOk.ns {X : Fx} {P Z : PM} {own : Addr → Tag} {m : Lo} {h : Heap} {x : Str} {c : Addr} : CeOk X P Z own m h x c → (X.wr = true ∧ own c = .cell x) ∨ (X.wr = false ∧ own c = .prot ∧ ∃ o, P c = some o) | ⟨t, _, _, _⟩ => t
theorem CeOk.not {X : Fx} {P Z : PM} {own : Addr → Tag} {m : Lo} {h : Heap} {x : Str} {c : Addr} (k : CeOk X P Z own m h x c) {t : Tag} (h1 : ∀ x, t ≠ .cell x) (h2 : t ≠ .prot) : own c ≠ t := by
  rintro rfl
  rcases k.ns with q | q
  · exact h1 _ q.2
  · exact h2 q.2.1
structure Mw (X : Fx) (P Z : PM) (own : Addr → Tag) (m : Lo) (σ : AH) (s : Shared) : Prop where
  kp : ∀ a o, P a = some o → s.heap.get? a = some o ∧ own a = .prot
  kz : ∀ a o, Z a = some o → s.heap.get? a = some o ∧ own a = .froz
  lo : LoOk X Z own m s.heap
  ce : ∀ x c, X.env.cells.lookup x = some c → CeOk X P Z own m s.heap x c
  ob : ∀ a o, σ a = some o → own a = .obj ∧ RO B Z s.heap own a o
  gn : s.gens = #[]
  os : s.os = B.os

noncomputable def Mt (X : Fx) (P Z : PM) (m : Lo) (σ : AH) (s : Shared) : Prop := ∃ own, Mw B X P Z own m σ s

inductive PoV (X : Fx) (P Z : PM) (m : Lo) (Q : QV) (u : Value) (s' : Shared) : Prop
  | mk (Z' : PM) (v : V) (σ' : AH) (a : Zle Z Z') (b : Mt B X P Z' m σ' s') (c : RV Z' u v) (d : Q v σ')
inductive PoB (X : Fx) (P Z : PM) (m : Lo) (Q : QB) (b : Bool) (s' : Shared) : Prop
  | mk (Z' : PM) (σ' : AH) (a : Zle Z Z') (c : Mt B X P Z' m σ' s') (d : Q b σ')
inductive RFl (Z : PM) : Flow → Fl → Prop
  | next : RFl Z .next .next
  | brk : RFl Z .brk .brk
  | cont : RFl Z .cont .cont
  | ret {u v} : RV Z u v → RFl Z (.ret u) (.ret v)
inductive PoF (X : Fx) (P Z : PM) (Q : QS) (f : Flow) (s' : Shared) : Prop
  | mk (Z' : PM) (fl : Fl) (m' : Lo) (σ' : AH) (a : Zle Z Z') (b : Mt B X P Z' m' σ' s') (c : RFl Z' f fl) (d : Q fl m' σ')
noncomputable def Ev (X : Fx) (t : Sem Value) (m : Lo) (σ : AH) (Q : QV) : Prop :=
  ∀ P Z s, BaseIn B P → Mt B X P Z m σ s → wpAny (model B.prog B.w) X.A t (PoV B X P Z m Q) (fun zz zz => False) s

noncomputable def EvB (X : Fx) (t : Sem Bool) (m : Lo) (σ : AH) (Q : QB) : Prop :=
  ∀ P Z s, BaseIn B P → Mt B X P Z m σ s → wpAny (model B.prog B.w) X.A t (PoB B X P Z m Q) (fun zz zz => False) s

noncomputable def Ex (X : Fx) (t : Sem Flow) (m : Lo) (σ : AH) (Q : QS) : Prop :=
  ∀ P Z s, BaseIn B P → Mt B X P Z m σ s → wpAny (model B.prog B.w) X.A t (PoF B X P Z Q) (fun zz zz => False) s

variable {B} {X : Fx} {P Z : PM} {own : Addr → Tag} {m : Lo} {σ : AH} {s : Shared}

/-- An object of the abstract heap is there. -/
theorem RO.alive {h : Heap} {a : Addr} {o : O} (x : RO B Z h own a o) : ∃ ob, h.get? a = some ob := by
  cases o with
  | list vs => obtain ⟨us, ⟨n, e⟩, _⟩ := x; exact ⟨_, e⟩
  | dict kvs => obtain ⟨_, us, ⟨o, es, ep, e, _⟩, _⟩ := x; exact ⟨_, e⟩
  | set xs => obtain ⟨_, o, es, ep, t, e, _⟩ := x; exact ⟨_, e⟩
  | inst c fs => obtain ⟨_, _, d, es, ep, e, _⟩ := x; exact ⟨_, e⟩

theorem dictOf_at {h h' : Heap} {prog : Program} {w : World} {a : Addr} {us : List (Int × Value)} (x : h.DictOf (intKind prog w) a us) (k : ∀ ob, h.get? a = some ob → h'.get? a = some ob) : h'.DictOf (intKind prog w) a us :=
  let ⟨o, es, ep, e, r⟩ := x; ⟨o, es, ep, k _ e, r⟩
theorem setOf_at {h h' : Heap} {prog : Program} {w : World} {a : Addr} {S : Int → Bool} {n : Nat} (x : h.SetOf (intKind prog w) a S n) (k : ∀ ob, h.get? a = some ob → h'.get? a = some ob) : h'.SetOf (intKind prog w) a S n :=
  let ⟨o, es, ep, t, e, r⟩ := x; ⟨o, es, ep, t, k _ e, r⟩
theorem ns_at {h h' : Heap} {a : Addr} {mm : Str → Option Value} (x : h.Ns a mm) (k : ∀ ob, h.get? a = some ob → h'.get? a = some ob) : h'.Ns a mm :=
  let ⟨o, es, ep, e, r⟩ := x; ⟨o, es, ep, k _ e, r⟩
theorem cell_at {h h' : Heap} {a : Addr} {u : Option Value} (x : h.IsCell a u) (k : ∀ ob, h.get? a = some ob → h'.get? a = some ob) : h'.IsCell a u :=
  let ⟨o, e, r⟩ := x; ⟨o, k _ e, r⟩
/-- An object stays what it is where nothing of it changes. -/
theorem RO.keep {h h' : Heap} {own' : Addr → Tag} {Z' : PM} {a : Addr} {o : O} (x : RO B Z h own a o) (hz : Zle Z Z')
    (k : ∀ b ob, h.get? b = some ob → (b = a ∨ own b = .dic a) → h'.get? b = some ob ∧ own' b = own b) : RO B Z' h' own' a o := by
  have ka : ∀ ob, h.get? a = some ob → h'.get? a = some ob := fun ob e => (k _ _ e (.inl rfl)).1
  cases o with
  | list vs => obtain ⟨us, ⟨n, e⟩, hs, r⟩ := x; exact ⟨us, ⟨n, ka _ e⟩, hs, r.mono hz⟩
  | dict kvs => obtain ⟨ns, us, hd, rd⟩ := x; exact ⟨ns, us, dictOf_at hd ka, rd.mono hz⟩
  | set xs => exact ⟨x.1, setOf_at x.2 ka⟩
  | inst c fs =>
    obtain ⟨hc, ok, d, es, ep, e, e', ow, r⟩ := x
    have q := k _ _ e' (.inr ow)
    exact ⟨hc, ok, d, es, ep, ka _ e, q.1, q.2.trans ow, r.mono hz⟩

/-- The heap has grown, nothing old has changed. -/
theorem Mw.grow {s' : Shared} (M : Mw B X P Z own m σ s) (k : ∀ b o, s.heap.get? b = some o → s'.heap.get? b = some o) (hg : s'.gens = s.gens) (ho : s'.os = s.os) : Mw B X P Z own m σ s' where
  kp a o e := (M.kp a o e).imp (k _ _) id
  kz a o e := (M.kz a o e).imp (k _ _) id
  lo := by
    obtain ⟨a, mm, hn, r⟩ := M.lo
    exact ⟨a, mm, hn.keeps k, r⟩
  ce x c e := by
    obtain ⟨a, u0, hc, r⟩ := M.ce x c e
    exact ⟨a, u0, hc.keeps k, r⟩
  ob a o e := (M.ob a o e).imp id fun q => q.keep (.refl Z) fun b ob e zz => ⟨k _ _ e, rfl⟩
  gn := hg.trans M.gn
  os := ho.trans M.os

theorem Mt.grow {s' : Shared} (M : Mt B X P Z m σ s) (k : ∀ b o, s.heap.get? b = some o → s'.heap.get? b = some o) (hg : s'.gens = s.gens := by rfl) (ho : s'.os = s.os := by rfl) : Mt B X P Z m σ s' :=
  let ⟨own, M⟩ := M; ⟨own, M.grow k hg ho⟩
theorem Mt.tok {s' : Shared} (M : Mt B X P Z m σ s) (k : s'.heap = s.heap) (hg : s'.gens = s.gens := by rfl) (ho : s'.os = s.os := by rfl) : Mt B X P Z m σ s' :=
  M.grow (fun b o e => k ▸ e) hg ho

/-- New tags for what was not there change nothing. -/
theorem Mw.retag {own' : Addr → Tag} (M : Mw B X P Z own m σ s) (k : ∀ b o, s.heap.get? b = some o → own' b = own b) : Mw B X P Z own' m σ s where
  kp a o e := have q := M.kp a o e; ⟨q.1, (k _ _ q.1).trans q.2⟩
  kz a o e := have q := M.kz a o e; ⟨q.1, (k _ _ q.1).trans q.2⟩
  lo := by
    obtain ⟨a, mm, hn, r⟩ := M.lo
    obtain ⟨ob, es, ep, ho, q⟩ := id hn
    exact ⟨(k _ _ ho).trans a, mm, hn, r⟩
  ce x c e := by
    obtain ⟨a, u0, hc, r⟩ := M.ce x c e
    obtain ⟨ob, ho, q⟩ := id hc
    exact ⟨a.imp (fun q => ⟨q.1, (k _ _ ho).trans q.2⟩) (fun q => ⟨q.1, (k _ _ ho).trans q.2.1, q.2.2⟩), u0, hc, r⟩
  ob a o e := by
    have q := M.ob a o e
    obtain ⟨ob, ho⟩ := q.2.alive
    exact ⟨(k _ _ ho).trans q.1, q.2.keep (.refl Z) fun b ob e zz => ⟨e, k _ _ e⟩⟩
  gn := M.gn
  os := M.os

/-- What is neither owned nor the dictionary of an object of a class stays; the locals and the owned are said anew. -/
theorem Mw.chgl {s' : Shared} {σ' : AH} (M : Mw B X P Z own m σ s)
    (kk : ∀ b ob, own b ≠ .obj → (∀ c, own b ≠ .dic c) → own b ≠ .other → own b ≠ .locals → s.heap.get? b = some ob → s'.heap.get? b = some ob)
    (lo : LoOk X Z own m s'.heap) (hob : ∀ a o, σ' a = some o → own a = .obj ∧ RO B Z s'.heap own a o) (hg : s'.gens = s.gens) (ho : s'.os = s.os) : Mw B X P Z own m σ' s' where
  kp b ob e := have q := M.kp b ob e; ⟨kk b ob (by rw [q.2]; nofun) (by rw [q.2]; nofun) (by rw [q.2]; nofun) (by rw [q.2]; nofun) q.1, q.2⟩
  kz b ob e := have q := M.kz b ob e; ⟨kk b ob (by rw [q.2]; nofun) (by rw [q.2]; nofun) (by rw [q.2]; nofun) (by rw [q.2]; nofun) q.1, q.2⟩
  lo := lo
  ce x c e := have q := M.ce x c e; let ⟨t, u0, hc, r⟩ := q; ⟨t, u0, cell_at hc fun ob e => kk _ _ (q.not nofun nofun) (fun zz => q.not nofun nofun) (q.not nofun nofun) (q.not nofun nofun) e, r⟩
  ob := hob
  gn := hg.trans M.gn
  os := ho.trans M.os
theorem Mw.chgd {s' : Shared} {σ' : AH} (M : Mw B X P Z own m σ s)
    (kk : ∀ b ob, own b ≠ .obj → (∀ c, own b ≠ .dic c) → own b ≠ .other → s.heap.get? b = some ob → s'.heap.get? b = some ob)
    (hob : ∀ a o, σ' a = some o → own a = .obj ∧ RO B Z s'.heap own a o) (hg : s'.gens = s.gens) (ho : s'.os = s.os) : Mw B X P Z own m σ' s' :=
  M.chgl (fun b ob h1 h2 h3 zz e => kk b ob h1 h2 h3 e) (let ⟨t, mm, hn, r⟩ := M.lo; ⟨t, mm, ns_at hn fun ob e => kk _ _ (by rw [t]; nofun) (by rw [t]; nofun) (by rw [t]; nofun) e, r⟩) hob hg ho
/-- One owned object is written. -/
theorem Mw.upd {s' : Shared} {a : Addr} {o o' : O} (M : Mw B X P Z own m σ s) (ha : σ a = some o)
    (k : ∀ b ob, b ≠ a → own b ≠ .dic a → s.heap.get? b = some ob → s'.heap.get? b = some ob) (hr : RO B Z s'.heap own a o')
    (hg : s'.gens = s.gens) (ho : s'.os = s.os) : Mw B X P Z own m (put σ a o') s' := by
  have ta := (M.ob a o ha).1
  refine M.chgd (fun b ob h1 h2 zz e => k b ob (fun q => h1 (q ▸ ta)) (h2 a) e) (fun b ob e => ?_) hg ho
  unfold put at e
  split at e
  · rename_i q; cases e; subst q; exact ⟨ta, hr⟩
  · rename_i q
    have z := M.ob b ob e
    refine ⟨z.1, z.2.keep (.refl Z) fun c oc ec hc => ⟨k c oc ?_ ?_ ec, rfl⟩⟩
    · rintro rfl
      exact hc.elim (fun hc => q hc.symm) fun hc => nomatch ta.symm.trans hc
    · intro q'
      rcases hc with hc | hc
      · subst hc; exact nomatch z.1.symm.trans q'
      · rw [q'] at hc; cases hc; exact q rfl

theorem Mt.upd {s' : Shared} {a : Addr} {o o' : O} (M : Mw B X P Z own m σ s) (ha : σ a = some o)
    (k : ∀ b ob, b ≠ a → own b ≠ .dic a → s.heap.get? b = some ob → s'.heap.get? b = some ob) (hr : RO B Z s'.heap own a o')
    (hg : s'.gens = s.gens := by rfl) (ho : s'.os = s.os := by rfl) : Mt B X P Z m (put σ a o') s' := ⟨own, M.upd ha k hr hg ho⟩

theorem fresh_none {h : Heap} {n : Addr} (hn : h.objs.size ≤ n) : h.get? n = none := by
  cases e : h.get? n with
  | none => rfl
  | some o => exact absurd (Heap.lt_size e) (Nat.not_lt.mpr hn)

theorem Mw.sig_none (M : Mw B X P Z own m σ s) {n : Addr} (hn : s.heap.get? n = none) : σ n = none := by
  cases e : σ n with
  | none => rfl
  | some o => obtain ⟨ob, q⟩ := (M.ob n o e).2.alive; rw [hn] at q; cases q
theorem Mw.z_none (M : Mw B X P Z own m σ s) {n : Addr} (hn : s.heap.get? n = none) : Z n = none := by
  cases e : Z n with
  | none => rfl
  | some o => have q := (M.kz n o e).1; rw [hn] at q; cases q

/-- A new object is owned. -/
theorem Mw.alloc {s' : Shared} {n : Addr} {o : O} {own' : Addr → Tag} (M : Mw B X P Z own m σ s) (hn : s.heap.get? n = none)
    (k : ∀ b ob, s.heap.get? b = some ob → s'.heap.get? b = some ob ∧ own' b = own b) (hr : RO B Z s'.heap own' n o) (ht : own' n = .obj)
    (hg : s'.gens = s.gens) (ho : s'.os = s.os) : σ n = none ∧ Mw B X P Z own' m (put σ n o) s' := by
  have M1 := (M.retag fun b ob e => (k b ob e).2).grow (fun b ob e => (k b ob e).1) hg ho
  refine ⟨M.sig_none hn, M1.kp, M1.kz, M1.lo, M1.ce, fun b ob e => ?_, M1.gn, M1.os⟩
  unfold put at e
  split at e
  · rename_i q; cases e; subst q; exact ⟨ht, hr⟩
  · exact M1.ob b ob e

/-- A new object is frozen. -/
noncomputable def zput (Z : PM) (n : Addr) (o : Obj) : PM := fun a => if a = n then some o else Z a
theorem Mw.frz {n : Addr} {o : Obj} (M : Mw B X P Z own m σ s) (hz : Z n = none) (hn : s.heap.get? n = some o) (ht : own n = .froz) :
    Zle Z (zput Z n o) ∧ Mw B X P (zput Z n o) own m σ s := by
  have hle : Zle Z (zput Z n o) := fun a ob e => by
    unfold zput; split
    · rename_i q; rw [q, hz] at e; cases e
    · exact e
  refine ⟨hle, M.kp, fun a ob e => ?_, ?_, fun x c e => ?_, fun a ob e => ?_, M.gn, M.os⟩
  · unfold zput at e; split at e
    · rename_i q; cases e; subst q; exact ⟨hn, ht⟩
    · exact M.kz a ob e
  · obtain ⟨t, mm, hm, r⟩ := M.lo
    exact ⟨t, mm, hm, fun x v a b => let ⟨u, p, q⟩ := r x v a b; ⟨u, p, q.mono hle⟩⟩
  · obtain ⟨t, u0, hm, r⟩ := M.ce x c e
    exact ⟨t, u0, hm, fun v a b => let ⟨u, p, q⟩ := r v a b; ⟨u, p, q.mono hle⟩⟩
  · have q := M.ob a ob e
    exact ⟨q.1, q.2.keep hle fun b ob e zz => ⟨e, rfl⟩⟩

/-- Forget owned objects. -/
theorem Mw.drop {τ : AH} (M : Mw B X P Z own m σ s) (h : le τ σ) : Mw B X P Z own m τ s :=
  ⟨M.kp, M.kz, M.lo, M.ce, fun a o e => M.ob a o (h a o e), M.gn, M.os⟩

end Mine

namespace Mine
set_option tactic.hygienic false
set_option genSizeOfSpec false
open PySem PySem.W PyProof.Rows PySem.Calls
set_option maxRecDepth 100000

variable {B : Base} {X : Fx} {P Z : PM} {own : Addr → Tag} {m : Lo} {σ : AH} {s : Shared} {sc : Scope}

theorem PoV.up {Z' : PM} {Q : QV} {u : Value} {s' : Shared} (h : PoV B X P Z' m Q u s') (hz : Zle Z Z') : PoV B X P Z m Q u s' :=
  let ⟨Z'', v, σ', a, b, c, d⟩ := h; ⟨Z'', v, σ', hz.trans a, b, c, d⟩
theorem PoB.up {Z' : PM} {Q : QB} {u : Bool} {s' : Shared} (h : PoB B X P Z' m Q u s') (hz : Zle Z Z') : PoB B X P Z m Q u s' :=
  let ⟨Z'', σ', a, b, d⟩ := h; ⟨Z'', σ', hz.trans a, b, d⟩
theorem PoF.up {Z' : PM} {Q : QS} {u : Flow} {s' : Shared} (h : PoF B X P Z' Q u s') (hz : Zle Z Z') : PoF B X P Z Q u s' :=
  let ⟨Z'', v, m', σ', a, b, c, d⟩ := h; ⟨Z'', v, m', σ', hz.trans a, b, c, d⟩

theorem Ev.use {t : Sem Value} {Q : QV} {R : Value → Shared → Prop} (h : Ev B X t m σ Q) (hb : BaseIn B P) (M : Mt B X P Z m σ s)
    (k : ∀ u s' Z' v σ', Zle Z Z' → Mt B X P Z' m σ' s' → RV Z' u v → Q v σ' → R u s') : wpAny (model B.prog B.w) X.A t R (fun zz zz => False) s :=
  wpAny_mono (h P Z s hb M) (fun u s' ⟨Z', v, σ', a, b, c, d⟩ => k u s' Z' v σ' a b c d) fun zz zz x => x
theorem EvB.use {t : Sem Bool} {Q : QB} {R : Bool → Shared → Prop} (h : EvB B X t m σ Q) (hb : BaseIn B P) (M : Mt B X P Z m σ s)
    (k : ∀ u s' Z' σ', Zle Z Z' → Mt B X P Z' m σ' s' → Q u σ' → R u s') : wpAny (model B.prog B.w) X.A t R (fun zz zz => False) s :=
  wpAny_mono (h P Z s hb M) (fun u s' ⟨Z', σ', a, b, d⟩ => k u s' Z' σ' a b d) fun zz zz x => x
theorem Ex.use {t : Sem Flow} {Q : QS} {R : Flow → Shared → Prop} (h : Ex B X t m σ Q) (hb : BaseIn B P) (M : Mt B X P Z m σ s)
    (k : ∀ u s' Z' fl m' σ', Zle Z Z' → Mt B X P Z' m' σ' s' → RFl Z' u fl → Q fl m' σ' → R u s') : wpAny (model B.prog B.w) X.A t R (fun zz zz => False) s :=
  wpAny_mono (h P Z s hb M) (fun u s' ⟨Z', v, m', σ', a, b, c, d⟩ => k u s' Z' v m' σ' a b c d) fun zz zz x => x
theorem Ev.mono {t : Sem Value} {Q Q' : QV} (h : Ev B X t m σ Q) (k : ∀ v σ, Q v σ → Q' v σ) : Ev B X t m σ Q' :=
  fun zz zz zz hb M => h.use hb M fun zz zz Z' v σ' a b c d => ⟨Z', v, σ', a, b, c, k _ _ d⟩

structure ScOk (X : Fx) (sc : Scope) : Prop where
  kind : ∀ x k, sc.names.lookup x = some k → X.env.kindOf x = some (if k = .free then .cell else k)
  sub : ∀ x k, X.env.kindOf x = some k → k = .free → False

theorem PoV.here {Q : QV} {u : Value} {v : V} (M : Mt B X P Z m σ s) (r : RV Z u v) (q : Q v σ) : PoV B X P Z m Q u s := ⟨Z, v, σ, .refl Z, M, r, q⟩

theorem ev_const {c : Const} {k : Nat} {pos : Pos} {Q : QV} (h : match c with | .none => Q .none σ | .bool b => Q (.bool b) σ | .int i => Q (.int i) σ | .str s => Q (.str s) σ | _ => False) :
    Ev B X (eval (.Constant c k pos) X.env) m σ Q := by
  intro P Z s hb M
  cases c with
  | none => exact wpAny_pure (PoV.here (v := .none) M rfl h)
  | bool b => exact wpAny_pure (PoV.here (v := .bool b) M rfl h)
  | int i => exact wpAny_Constant_int (PoV.here (v := .int i) (M.tok rfl) ⟨_, rfl⟩ h)
  | str x => exact Constant_str (PoV.here (v := .str x) (M.tok rfl) ⟨_, rfl⟩ h)
  | _ => exact h.elim

theorem optQ.out {α : Type} {o : Option α} {Q : α → Prop} (h : optQ o Q) : ∃ v, o = some v ∧ Q v := by
  cases o with
  | some v => exact ⟨v, rfl, h⟩
  | none => exact h.elim
theorem chk.out {b : Bool} {C : Prop} (h : chk b C) : b = true ∧ C := by
  cases b with
  | true => exact ⟨rfl, h⟩
  | false => exact h.elim
theorem sel.out {b : Bool} {C D : Prop} (h : sel b C D) : (b = true ∧ C) ∨ D := by
  cases b with
  | true => exact .inl ⟨rfl, h⟩
  | false => exact .inr h
theorem rd.out {a : Addr} {k : O → Prop} (h : rd σ a k) : ∃ o, σ a = some o ∧ k o := h.get.out
theorem intP.out {v : V} {k : Int → Prop} (h : intP v k) : ∃ i, v = .int i ∧ k i := by
  cases v with
  | int i => exact ⟨i, rfl, h⟩
  | _ => exact h.elim
theorem refP.out {v : V} {k : Addr → Prop} (h : refP v k) : ∃ a, v = .ref a ∧ k a := by
  cases v with
  | ref a => exact ⟨a, rfl, h⟩
  | _ => exact h.elim
theorem flP.out {v : V} {k : List V → Prop} (h : flP v k) : ∃ vs, v = .fl vs ∧ k vs := by
  cases v with
  | fl vs => exact ⟨vs, rfl, h⟩
  | _ => exact h.elim
theorem ltQ.out {a b : Nat} {C : Prop} (h : ltQ a b C) : a < b ∧ C := ⟨Nat.le_of_ble_eq_true (chk.out h).1, (chk.out h).2⟩
theorem leQ.out {a b : Nat} {C : Prop} (h : leQ a b C) : a ≤ b ∧ C := ⟨Nat.le_of_ble_eq_true (chk.out h).1, (chk.out h).2⟩
theorem and_out {a b : Bool} (h : (a && b) = true) : a = true ∧ b = true := by
  cases a with
  | true => exact ⟨rfl, h⟩
  | false => exact nomatch h
/-- The integer at hand. -/
theorem RV.int {i : Int} {u : Value} (r : RV Z u (.int i)) : ∃ t, u = .int i t := r

inductive NameV (G : Str → Option V) (sc : Scope) (m : Lo) (x : Str) (v : V) : Prop
  | glo (hl : sc.names.lookup x = some .globalImplicit) (hv : G x = some v)
  | loc (hl : sc.names.lookup x = some .local) (hv : getL x m = some v)
  | cel (k : NameKind) (hl : sc.names.lookup x = some k) (hk : k = .cell ∨ k = .free) (hv : getL x m = some v)
theorem nameP.out {G : Str → Option V} {x : Str} {Q : V → Prop} (h : nameP G sc m x Q) : isS x "__debug__" = false ∧ ∃ v, NameV G sc m x v ∧ Q v := by
  obtain ⟨hd, h⟩ := chk.out h
  refine ⟨by simpa using hd, ?_⟩
  cases hl : sc.names.lookup x with
  | none => rw [hl] at h; exact h.elim
  | some k =>
    rw [hl] at h
    cases k with
    | globalImplicit => obtain ⟨v, hv, q⟩ := h.get.out; exact ⟨v, .glo hl hv, q⟩
    | «local» => obtain ⟨v, hv, q⟩ := h.out; exact ⟨v, .loc hl hv, q⟩
    | cell => obtain ⟨v, hv, q⟩ := h.out; exact ⟨v, .cel _ hl (.inl rfl) hv, q⟩
    | free => obtain ⟨v, hv, q⟩ := h.out; exact ⟨v, .cel _ hl (.inr rfl) hv, q⟩
    | _ => exact h.elim

theorem name_val {x : Str} {pos : Pos} {v : V} {R : Value → Shared → Prop} (hB : BaseOk B) {room} (hX : Xok B X room) (hS : ScOk X sc) (hb : BaseIn B P) (M : Mt B X P Z m σ s)
    (hd : isS x "__debug__" = false) (h : NameV B.G sc m x v) (k : ∀ u, RV Z u v → R u s) : wpAny (model B.prog B.w) X.A (eval (.Name x pos) X.env) R (fun zz zz => False) s := by
  obtain ⟨own, M⟩ := M
  have hd : (x == Str.ofString "__debug__") = false := beq_eq_false_iff_ne.mpr (of_decide_eq_false hd)
  cases h with
  | glo hl hv =>
    have hk : X.env.kindOf x = some .globalImplicit := (hS.kind _ _ hl).trans (congrArg some (if_neg nofun))
    obtain ⟨u, r, hu⟩ := hB.glob _ _ hv
    have kp : ∀ b o, B.h0.get? b = some o → s.heap.get? b = some o := fun b o e => (M.kp b o (hb b o e)).1
    have g1 : s.heap.Ns X.env.globals B.mg := by rw [hX.hg]; exact hB.g.keeps kp
    have g2 : s.heap.Ns X.env.builtins B.mb := by rw [hX.hb]; exact hB.b.keeps kp
    rcases hu with hu | ⟨hn, hu⟩
    · exact Name_function_global hX.hk hk (loadGlobal_global g1 hu (k u (r Z))) hd
    · exact Name_function_global hX.hk hk (loadGlobal_builtin g1 hn g2 hu (k u (r Z))) hd
  | loc hl hv =>
    have hk : X.env.kindOf x = some .local := (hS.kind _ _ hl).trans (congrArg some (if_neg nofun))
    obtain ⟨_, mm, hn, r⟩ := M.lo
    obtain ⟨u, hu, ru⟩ := r x v hv hk
    exact wpAny_Name (wpAny_loadName_local hX.hk hk hn hu (k u ru)) hd
  | cel kd hl hkd hv =>
    have hk : X.env.kindOf x = some .cell := (hS.kind _ _ hl).trans (congrArg some (by rcases hkd with rfl | rfl <;> rfl))
    obtain ⟨c, hc⟩ := hX.hc x (.inl hk)
    obtain ⟨_, u0, hcell, r⟩ := M.ce x c hc
    obtain ⟨u, rfl, ru⟩ := r v hv (by rw [hk]; nofun)
    exact wpAny_Name (wpAny_loadName_cell hX.hk hk hc hcell (k u ru)) hd
theorem name_sound {x : Str} {pos : Pos} {Q : V → Prop} {R : Value → Shared → Prop} (hB : BaseOk B) {room} (hX : Xok B X room) (hS : ScOk X sc) (hb : BaseIn B P) (M : Mt B X P Z m σ s)
    (h : nameP B.G sc m x Q) (k : ∀ u v, RV Z u v → Q v → R u s) : wpAny (model B.prog B.w) X.A (eval (.Name x pos) X.env) R (fun zz zz => False) s := by
  obtain ⟨hd, v, h, q⟩ := h.out
  exact name_val hB hX hS hb M hd h fun u r => k u v r q

theorem ev_name {x : Str} {pos : Pos} {Q : QV} (hB : BaseOk B) {room} (hX : Xok B X room) (hS : ScOk X sc) (h : nameP B.G sc m x (kV σ Q)) :
    Ev B X (eval (.Name x pos) X.env) m σ Q := fun zz zz zz hb M =>
  name_sound hB hX hS hb M h fun zz zz r q => PoV.here M r q

/-- What the kit's rules for frames and made objects want, over everything that is there. -/
noncomputable def allBut (L : Addr) (h : Heap) : List (Addr × Obj) := (List.range h.objs.size).filterMap fun a => if a = L then none else (h.get? a).map fun o => (a, o)
theorem mem_allBut {L : Addr} {h : Heap} {a : Addr} {o : Obj} : (a, o) ∈ allBut L h ↔ a ≠ L ∧ h.get? a = some o := by
  refine List.mem_filterMap.trans ⟨fun ⟨b, hb, e⟩ => ?_, fun ⟨q, e⟩ => ⟨a, List.mem_range.mpr (Heap.lt_size e), by rw [if_neg q, e]; rfl⟩⟩
  by_cases q : b = L
  · rw [if_pos q] at e; cases e
  · rw [if_neg q] at e
    obtain ⟨o', h1, h2⟩ := Option.map_eq_some_iff.mp e
    cases h2; exact ⟨q, h1⟩
theorem nothing (b : Addr) : (({} : Heap).get? b) = none := rfl
/-- What the kit's rules say of a frame, with what is there. -/
inductive FrN (B : Base) (X : Fx) (Z : PM) (m : Lo) (s : Shared) (extra : List (Addr × Obj)) (h' : Heap) : Prop
  | mk (mm : Str → Option Value) (F : Fr {} X.env.locals h' mm) (N : News {} X.env.locals h' (extra ++ allBut X.env.locals s.heap)) (r : ∀ x v, getL x m = some v → X.env.kindOf x = some .local → ∃ u, mm x = some u ∧ RV Z u v)
theorem Mw.fr (M : Mw B X P Z own m σ s) : FrN B X Z m s [] s.heap := by
  obtain ⟨_, mm, hn, r⟩ := M.lo
  refine ⟨mm, ⟨hn, fun b o e => (nomatch (nothing b).symm.trans e), Nat.zero_le _⟩, fun p hp => ?_, r⟩
  obtain ⟨a, b⟩ := mem_allBut.mp (show (p.1, p.2) ∈ _ from hp)
  exact ⟨b, a, rfl⟩
theorem FrN.keep {extra : List (Addr × Obj)} {h' : Heap} (F : FrN B X Z m s extra h') {b : Addr} {o : Obj} (q : b ≠ X.env.locals) (e : s.heap.get? b = some o) : h'.get? b = some o :=
  let ⟨_, _, N, _⟩ := F; (N (b, o) (List.mem_append_right _ (mem_allBut.mpr ⟨q, e⟩))).1
theorem FrN.new {extra : List (Addr × Obj)} {h' : Heap} (F : FrN B X Z m s extra h') {p : Addr × Obj} (hp : p ∈ extra) : h'.get? p.1 = some p.2 :=
  let ⟨_, _, N, _⟩ := F; (N p (List.mem_append_left _ hp)).1
theorem Mw.back {s' : Shared} {extra : List (Addr × Obj)} (M : Mw B X P Z own m σ s) (F : FrN B X Z m s extra s'.heap) (hg : s'.gens = s.gens) (ho : s'.os = s.os) : Mw B X P Z own m σ s' := by
  have tl := M.lo.ns
  refine M.chgl (fun b o zz zz zz h e => F.keep (fun q => h (q ▸ tl)) e) (let ⟨mm, F, _, r⟩ := F; ⟨tl, mm, F.ns, r⟩) (fun a o e => ?_) hg ho
  have q := M.ob a o e
  refine ⟨q.1, q.2.keep (.refl Z) fun b ob e hc => ⟨F.keep ?_ e, rfl⟩⟩
  rintro rfl
  rcases hc with hc | hc
  · subst hc; exact nomatch tl.symm.trans q.1
  · exact nomatch tl.symm.trans hc

end Mine

namespace Mine
set_option tactic.hygienic false
set_option genSizeOfSpec false
open PySem PySem.W PyProof.Rows PySem.Calls
set_option maxRecDepth 100000
variable {B : Base} {X : Fx} {P Z : PM} {own : Addr → Tag} {m : Lo} {σ : AH} {s : Shared} {sc : Scope}

theorem look_ref {a : Addr} : look σ (.ref a) = (match σ a with | some (.list vs) => .fl vs | _ => .ref a) := rfl
theorem lkP.look {v : V} {k : V → Prop} (h : lkP σ v k) : k (look σ v) := by
  cases v with
  | ref a =>
    obtain ⟨o, e, h⟩ := h.out
    rw [look_ref, e]
    cases o <;> exact h
  | _ => exact h
inductive LL (h : Heap) (Z : PM) (u : Value) (vs : List V) : Prop
  | mk (a : Addr) (us : Array Value) (e : u = .ref a) (hl : h.IsList a us) (hs : us.size ≤ lineOf) (rs : RVs Z us.toList vs)
theorem Mw.fl {vs : List V} {u : Value} (M : Mw B X P Z own m σ s) (r : RV Z u (.fl vs)) : LL s.heap Z u vs := by
  obtain ⟨a, o, us, ep, rfl, hz, hc, ⟨_, hd⟩, hs, rs⟩ := r
  exact ⟨a, us, rfl, ⟨o, (M.kz _ _ hz).1, hc, ep, hd⟩, hs, rs⟩
theorem look_list {v : V} {vs : List V} {u : Value} (M : Mw B X P Z own m σ s) (h : look σ v = .fl vs) (r : RV Z u v) : LL s.heap Z u vs := by
  cases v with
  | ref a =>
    rw [look_ref] at h
    cases e : σ a with
    | none => rw [e] at h; exact nomatch h
    | some o =>
      rw [e] at h
      cases o with
      | list ws =>
        cases h
        obtain ⟨_, us, pl, hs, rs⟩ := M.ob _ _ e
        exact ⟨a, us, r, pl.isList, hs, rs⟩
      | _ => exact nomatch h
  | _ => exact M.fl ((show _ = V.fl vs from h) ▸ r)
inductive LT (h : Heap) (Z : PM) (u : Value) (vs : List V) : Prop
  | mk (a : Addr) (us : Array Value) (e : u = .ref a) (hl : h.IsTuple a us) (hs : us.size ≤ lineOf) (rs : RVs Z us.toList vs)
theorem Mw.tup {vs : List V} {u : Value} (M : Mw B X P Z own m σ s) (r : RV Z u (.tup vs)) : LT s.heap Z u vs := by
  obtain ⟨a, o, us, ep, rfl, hz, hc, hd, hs, rs⟩ := r
  exact ⟨a, us, rfl, ⟨o, (M.kz _ _ hz).1, hc, ep, hd⟩, hs, rs⟩

mutual
theorem reads_of {h : Heap} (kz : ∀ a o, Z a = some o → h.get? a = some o) : ∀ {v : V} {u : Value} {d : PyData}, V.data v = some d → RV Z u v → ∃ as, Reads h u d as
  | .none, _, _, e, r => by cases (show some PyData.none = _ from e); cases (show _ = Value.none from r); exact ⟨_, .none⟩
  | .bool b, _, _, e, r => by cases (show some (PyData.bool b) = _ from e); cases (show _ = Value.bool b from r); exact ⟨_, .bool b⟩
  | .int b, _, _, e, r => by cases (show some (PyData.int b) = _ from e); obtain ⟨t, rfl⟩ := r; exact ⟨_, .int b t⟩
  | .str b, _, _, e, r => by cases (show some (PyData.str b) = _ from e); obtain ⟨t, rfl⟩ := r; exact ⟨_, .str b t⟩
  | .tup vs, _, _, e, r => by
    obtain ⟨ds, e1, rfl⟩ := Option.map_eq_some_iff.mp (show (V.datas vs).map PyData.tuple = _ from e)
    obtain ⟨a, o, us, ep, rfl, hz, hc, hd, hs, rs⟩ := r
    obtain ⟨as, q⟩ := readsAll_of kz e1 rs
    exact ⟨_, .tuple (kz _ _ hz) hc hd q⟩
  | .fl vs, _, _, e, r => by
    obtain ⟨ds, e1, rfl⟩ := Option.map_eq_some_iff.mp (show (V.datas vs).map PyData.list = _ from e)
    obtain ⟨a, o, us, ep, rfl, hz, hc, ⟨hdn, hd⟩, hs, rs⟩ := r
    obtain ⟨as, q⟩ := readsAll_of kz e1 rs
    exact ⟨_, .list (kz _ _ hz) hc hd q⟩
  | .ref a, _, _, e, _ => nomatch (show none = some _ from e)
  | .ty a, _, _, e, _ => nomatch (show none = some _ from e)
  | .bi a, _, _, e, _ => nomatch (show none = some _ from e)
  | .fi _ _ _, _, _, e, _ => nomatch (show none = some _ from e)
theorem readsAll_of {h : Heap} (kz : ∀ a o, Z a = some o → h.get? a = some o) : ∀ {vs : List V} {us : List Value} {ds : List PyData}, V.datas vs = some ds → RVs Z us vs → ∃ as, ReadsAll h us ds as
  | [], _, _, e, r => by cases (show some ([] : List PyData) = _ from e); cases (show _ = [] from r); exact ⟨_, .nil⟩
  | v :: vs, _, ds, e, r => by
    obtain ⟨u, us', rfl, r, rs⟩ := r
    have e : (match V.data v, V.datas vs with | some d, some ds => some (d :: ds) | _, _ => none) = some ds := e
    cases e1 : V.data v with
    | none => rw [e1] at e; exact nomatch e
    | some d =>
      cases e2 : V.datas vs with
      | none => rw [e1, e2] at e; exact nomatch e
      | some ds' =>
        rw [e1, e2] at e
        cases e
        obtain ⟨as, q⟩ := reads_of kz e1 r
        obtain ⟨bs, q'⟩ := readsAll_of kz e2 rs
        exact ⟨_, .cons q q'⟩
end

theorem look_reads {v : V} {u : Value} {d : PyData} (M : Mw B X P Z own m σ s) (h : (look σ v).data = some d) (r : RV Z u v) : ∃ as, Reads s.heap u d as := by
  have kz := fun a o e => (M.kz a o e).1
  cases v with
  | ref a =>
    rw [look_ref] at h
    cases e : σ a with
    | none => rw [e] at h; exact nomatch (show none = some d from h)
    | some o =>
      rw [e] at h
      cases o with
      | list ws =>
        obtain ⟨_, us, ⟨n, pl⟩, hs, rs⟩ := M.ob _ _ e
        cases (show u = .ref a from r)
        obtain ⟨ds, h1, rfl⟩ := Option.map_eq_some_iff.mp (show (V.datas ws).map PyData.list = _ from h)
        obtain ⟨as, q⟩ := readsAll_of kz h1 rs
        exact ⟨_, .list pl rfl rfl q⟩
      | _ => exact nomatch (show none = some d from h)
  | _ => exact reads_of kz h r

theorem int_fmod {i j : Int} (h : j > 0) : i.fmod j = i % j := Int.fmod_eq_emod_of_nonneg i (Int.le_of_lt h)
theorem int_fdiv {i j : Int} (h : j > 0) : i.fdiv j = i / j := Int.fdiv_eq_ediv_of_nonneg i (Int.le_of_lt h)

theorem Mw.own_put {n : Addr} {o : O} (M : Mw B X P Z own m σ s) (hr : RO B Z s.heap own n o) (ht : own n = .obj) : Mw B X P Z own m (put σ n o) s :=
  ⟨M.kp, M.kz, M.lo, M.ce, fun b ob e => by
    unfold put at e
    split at e
    · rename_i q; cases e; subst q; exact ⟨ht, hr⟩
    · exact M.ob b ob e, M.gn, M.os⟩

noncomputable def tput (own : Addr → Tag) (n : Addr) (t : Tag) : Addr → Tag := fun a => if a = n then t else own a
theorem tput_self {n : Addr} {t : Tag} : tput own n t n = t := if_pos rfl
theorem tput_old {n b : Addr} {o : Obj} {t : Tag} (hn : s.heap.get? n = none) (e : s.heap.get? b = some o) : tput own n t b = own b := if_neg (by rintro rfl; rw [hn] at e; cases e)
theorem Mw.tag {n : Addr} (M : Mw B X P Z own m σ s) (hn : s.heap.get? n = none) (t : Tag) : Mw B X P Z (tput own n t) m σ s := M.retag fun zz zz e => tput_old hn e
theorem zput_self {n : Addr} {o : Obj} : zput Z n o n = some o := if_pos rfl

/-- A new list, frozen or owned as the prover likes: the tag is chosen ahead. -/
inductive NewP (B : Base) (X : Fx) (P Z : PM) (m : Lo) (σ : AH) (s : Shared) (us : Array Value) (n : Addr) (Q : QV) : Prop
  | mk (own' : Addr → Tag) (M : Mw B X P Z own' m σ s) (k : ∀ s' c, Mw B X P Z own' m σ s' → s'.heap.get? n = some { cls := .type "list", data := .seq us c } → PoV B X P Z m Q (.ref n) s')
theorem newList_prep {us : Array Value} {vs : List V} {Q : QV} {n : Addr} (M : Mw B X P Z own m σ s) (hn : s.heap.get? n = none)
    (hl : us.size ≤ lineOf) (r : RVs Z us.toList vs) (q : newListP vs σ Q) : NewP B X P Z m σ s us n Q := by
  cases q with
  | fl q =>
    refine ⟨_, M.tag hn .froz, fun s' c M' ho => ?_⟩
    obtain ⟨hz, M2⟩ := M'.frz (M.z_none hn) ho tput_self
    exact ⟨_, .fl vs, σ, hz, ⟨_, M2⟩, ⟨_, _, us, c, rfl, zput_self, rfl, ⟨rfl, rfl⟩, hl, r.mono hz⟩, q⟩
  | own q =>
    exact ⟨_, M.tag hn .obj, fun s' c M' ho => ⟨Z, .ref n, _, .refl Z, ⟨_, M'.own_put (n := n) (o := .list vs) ⟨us, ⟨c, ho⟩, hl, r⟩ tput_self⟩, rfl, q _ (M.sig_none hn)⟩⟩

theorem newList_sound {us : Array Value} {vs : List V} {Q : QV} (M : Mw B X P Z own m σ s) {s' : Shared} {c : Nat}
    (ho : s'.heap.get? s.heap.objs.size = some { cls := .type "list", data := .seq us c }) (k : ∀ b o, s.heap.get? b = some o → s'.heap.get? b = some o) (hg : s'.gens = s.gens) (hos : s'.os = s.os)
    (hl : us.size ≤ lineOf) (r : RVs Z us.toList vs) (q : newListP vs σ Q) : PoV B X P Z m Q (.ref s.heap.objs.size) s' := by
  obtain ⟨own', M', kk⟩ := newList_prep M (fresh_none (Nat.le_refl _)) hl r q
  exact kk s' c (M'.grow k hg hos) ho

theorem lineOf_eq : lineOf = sizeLine := rfl

theorem bits_small {i : Int} (h : i.natAbs < 4294967296) : Builtin.Int.intBits i ≤ 64 :=
  PySem.intBits_le_iff.mpr (Nat.lt_trans h (by decide))
theorem PoV.intH {u : Value} {i : Int} {t : Tok} {n : Nat} {Q : QV} (M : Mt B X P Z m σ s) (e : u = .int i t) (q : Q (.int i) σ) : PoV B X P Z m Q u { s with toks := n } := ⟨Z, .int i, σ, .refl Z, M.tok rfl, ⟨t, e⟩, q⟩

theorem lists_sound {v w : V} {u u' : Value} {Q : QV} (M : Mw B X P Z own m σ s) (r : RV Z u v) (r' : RV Z u' w) (h : lkP σ v fun v => lkP σ w fun w => flP v fun vs => flP w fun ws => leQ (vs.length + ws.length) lineOf (newListP (vs ++ ws) σ Q)) :
    wpAny (model B.prog B.w) X.A (binaryOp .Add u u') (PoV B X P Z m Q) (fun zz zz => False) s := by
  obtain ⟨vs, e, h⟩ := h.look.look.out
  obtain ⟨ws, e', h⟩ := h.out
  obtain ⟨hle, h⟩ := leQ.out h
  obtain ⟨a, us, rfl, hl, hs, rs⟩ := look_list M e r
  obtain ⟨b, us', rfl, hl', hs', rs'⟩ := look_list M e' r'
  have l1 : us.toList.length + us'.toList.length ≤ lineOf := by rw [rs.length, rs'.length]; exact hle
  obtain ⟨own', M1, c⟩ := newList_prep (us := (us.toList ++ us'.toList).toArray) M (n := s.heap.objs.size) (fresh_none (Nat.le_refl _)) (by rw [List.size_toArray, List.length_append]; exact l1) (rs.append rs') h
  obtain ⟨mm, F, N, rr⟩ := M1.fr
  refine add_lists (vs := us.toList) (ws := us'.toList) F N hl hl' (fun h' F' N' => ?_) l1
  have FF : FrN B X Z m s [(s.heap.objs.size, _)] h' := ⟨mm, F', N', rr⟩
  exact c { s with heap := h' } _ (M1.back FF rfl rfl) (FF.new (.head _))

theorem rep_foldl {y : Value} : ∀ (k : Nat) (acc : Array Value), List.foldl (fun x1 x2 => x1 ++ x2) acc (List.replicate k #[y]) = acc ++ (List.replicate k y).toArray
  | 0, acc => (Array.append_empty (xs := acc)).symm
  | k + 1, acc => by
    rw [List.replicate_succ, List.foldl_cons, rep_foldl k, List.replicate_succ, Array.append_assoc]
    exact congrArg (acc ++ ·) (Array.toList_inj.mp (Array.toList_append ..))
theorem rep_rvs {y : Value} {x : V} (r : RV Z y x) : ∀ k : Nat, RVs Z (List.replicate k y) (List.replicate k x)
  | 0 => .nil
  | k + 1 => .cons r (rep_rvs r k)
theorem rep_sound {a : Addr} {j : Int} {t : Tok} {x : V} {Q : QV} (M : Mw B X P Z own m σ s) (e : σ a = some (.list [x])) (h0 : 0 ≤ j) (h1 : j ≤ lineOf) (q : newListP (List.replicate j.toNat x) σ Q) :
    wpAny (model B.prog B.w) X.A (binaryOp .Mult (.ref a) (.int j t)) (PoV B X P Z m Q) (fun zz zz => False) s := by
  obtain ⟨_, us, ⟨n, pl⟩, hs, rs⟩ := M.ob _ _ e
  obtain ⟨y, us', eu, rx, e2⟩ := rs
  cases (show us' = [] from e2)
  have eu' : us = #[y] := Array.toList_inj.mp eu
  subst eu'
  obtain ⟨own', M1, c⟩ := newList_prep (us := (List.replicate j.toNat y).toArray) M (n := s.heap.objs.size) (fresh_none (Nat.le_refl _)) (by rw [List.size_toArray, List.length_replicate]; lia) (rep_rvs rx _) q
  obtain ⟨mm, F, N, rr⟩ := M1.fr
  have hlo : lineOf = 16777216 := rfl
  refine mul_list F N pl (by lia) (by lia) (by simp; lia) (fun h' F' N' => ?_)
  have FF : FrN B X Z m s [(s.heap.objs.size, _)] h' := ⟨mm, F', N', rr⟩
  refine c { s with heap := h' } 0 (M1.back FF rfl rfl) ((FF.new (.head _)).trans ?_)
  show some _ = some _
  rw [rep_foldl]; simp

theorem bin_sound {op : Operator} {v w : V} {u u' : Value} {Q : QV} (M : Mt B X P Z m σ s) (r : RV Z u v) (r' : RV Z u' w) (h : binP op v w σ Q) :
    wpAny (model B.prog B.w) X.A (binaryOp op u u') (PoV B X P Z m Q) (fun zz zz => False) s := by
  obtain ⟨own, Mw⟩ := M
  have M : Mt B X P Z m σ s := ⟨own, Mw⟩
  cases op with
  | Add =>
    cases w with
    | int j =>
      obtain ⟨i, rfl, h⟩ := intP.out h
      obtain ⟨t, rfl⟩ := r.int; obtain ⟨t', rfl⟩ := r'.int
      exact add_int (.intH M rfl h)
    | str y =>
      cases v with
      | str x =>
        obtain ⟨t, rfl⟩ := r; obtain ⟨t', rfl⟩ := r'
        obtain ⟨h0, h⟩ := leQ.out h
        exact PyProof.Rows.add_str (fun t' tk => PoV.here (v := .str _) (M.tok rfl) ⟨_, rfl⟩ h) (Nat.le_trans h0 (by decide))
      | _ => exact h.elim
    | _ => exact lists_sound Mw r r' h
  | Sub =>
    obtain ⟨i, rfl, h⟩ := intP.out h
    obtain ⟨j, rfl, h⟩ := intP.out h
    obtain ⟨t, rfl⟩ := r.int; obtain ⟨t', rfl⟩ := r'.int
    exact sub_int (.intH M rfl h)
  | Mult =>
    obtain ⟨j, rfl, h1⟩ := intP.out h
    clear h
    obtain ⟨t', rfl⟩ := r'.int
    cases v with
    | int i =>
      obtain ⟨t, rfl⟩ := r.int
      exact mul_int (.intH M rfl h1.2) (.of_left (bits_small h1.1.1))
    | ref a =>
      cases (show u = .ref a from r)
      obtain ⟨o, e, h1⟩ := rd.out h1
      cases o with
      | list vs =>
        cases vs with
        | nil => exact h1.elim
        | cons x vs =>
          cases vs with
          | nil => exact rep_sound Mw e h1.1.1 h1.1.2 h1.2
          | cons y vs => exact h1.elim
      | _ => exact h1.elim
    | _ => exact h1.elim
  | Mod =>
    obtain ⟨i, rfl, h⟩ := intP.out h
    obtain ⟨j, rfl, h⟩ := intP.out h
    obtain ⟨t, rfl⟩ := r.int; obtain ⟨t', rfl⟩ := r'.int
    exact mod_int (Int.ne_of_gt h.1) (.intH M (by rw [int_fmod h.1]) h.2)
  | FloorDiv =>
    obtain ⟨i, rfl, h⟩ := intP.out h
    obtain ⟨j, rfl, h⟩ := intP.out h
    obtain ⟨t, rfl⟩ := r.int; obtain ⟨t', rfl⟩ := r'.int
    exact floordiv_int (Int.ne_of_gt h.1.1) (.intH M (by rw [int_fdiv h.1.1]) h.2) (.inl (PyProof.noPylong_small h.1.2))
  | _ => exact h.elim

end Mine

namespace Mine
set_option tactic.hygienic false
set_option genSizeOfSpec false
open PySem PySem.W PyProof.Rows PySem.Calls
set_option maxRecDepth 100000
variable {B : Base} {X : Fx} {P Z : PM} {own : Addr → Tag} {m : Lo} {σ : AH} {s : Shared} {sc : Scope}

theorem RD.get {k : Int} : ∀ {us : List (Int × Value)} {kvs : List (Int × V)}, RD Z us kvs →
    (∃ v u, getD k kvs = some v ∧ valueAt us k = some u ∧ RV Z u v) ∨ (getD k kvs = none ∧ valueAt us k = none)
  | _, [], x => by cases (show _ = [] from x); exact .inr ⟨rfl, rfl⟩
  | _, (j, v) :: vs, x => by
    obtain ⟨u, us', rfl, r, rs⟩ := x
    unfold getD
    by_cases h : k = j
    · subst h
      rw [if_pos rfl]
      exact .inl ⟨v, u, rfl, congrArg (Option.map Prod.snd) (List.find?_cons_of_pos (decide_eq_true rfl)), r⟩
    · have e : valueAt ((j, u) :: us') k = valueAt us' k := congrArg (Option.map Prod.snd) (List.find?_cons_of_neg fun e => h (of_decide_eq_true e).symm)
      rw [if_neg h, e]
      exact rs.get
theorem RD.isSome {k : Int} {us : List (Int × Value)} {kvs : List (Int × V)} (x : RD Z us kvs) : (valueAt us k).isSome = (getD k kvs).isSome := by
  rcases x.get (k := k) with ⟨v, u, a, b, _⟩ | ⟨a, b⟩ <;> rw [a, b] <;> rfl
theorem RD.length : ∀ {us : List (Int × Value)} {kvs : List (Int × V)}, RD Z us kvs → us.length = kvs.length
  | _, [], rfl => rfl
  | _, (j, v) :: vs, x => by
    obtain ⟨u, us', rfl, r, rs⟩ := x
    exact congrArg Nat.succ rs.length

theorem ik (B : Base) (k : Int) (t : Tok) : (intKind B.prog B.w).is k (.int k t) = true := intKind_is _ _ _ _

theorem depth_str (x : Str) : PyData.depth (.str x) = 0 := by simp only [PyData.depth]

theorem RF.get {x : Str} : ∀ {es : List DictEntry} {fs : List (Str × V)}, RF Z es fs → ∀ {v : V}, getL x fs = some v → ∃ e, es.find? (·.key.isStr x) = some e ∧ RV Z e.val v
  | _, [], _, v, h => nomatch h
  | _, (y, w) :: fs, rf, v, h => by
    obtain ⟨e', es', rfl, ⟨t, hk⟩, r, rs⟩ := rf
    unfold getL at h
    by_cases q : x = y
    · subst q
      rw [if_pos rfl] at h
      cases h
      exact ⟨e', List.find?_cons_of_pos (by rw [hk]; exact beq_self_eq_true x), r⟩
    · rw [if_neg q] at h
      obtain ⟨e, he, re⟩ := rs.get h
      exact ⟨e, (List.find?_cons_of_neg (by rw [hk]; exact fun z => q (beq_iff_eq.mp z).symm)).trans he, re⟩

theorem fi_same {x y c c' : Addr} {fs gs : List (Str × V)} {u u' : Value} (M : Mw B X P Z own m σ s) (r : RV Z u (.fi x c fs)) (r' : RV Z u' (.fi y c' gs)) (e : x = y) : sameFs fs gs := by
  subst e
  obtain ⟨rfl, _, _, d, es, ep, z, z1, rf⟩ := r
  obtain ⟨rfl, _, _, d', es', ep', z', z1', rf'⟩ := r'
  cases z.symm.trans z'
  have : es = es' := by
    have := congrArg (fun o : Option Obj => o.map (·.data)) (z1.symm.trans z1')
    simp at this
    exact this.1
  subst this
  intro k v w a b hv hw hd he
  obtain ⟨e1, h1, r1⟩ := rf.get hv
  obtain ⟨e2, h2, r2⟩ := rf'.get hw
  cases h1.symm.trans h2
  have kz := fun a o e => (M.kz a o e).1
  obtain ⟨as, q1⟩ := reads_of kz hd r1
  obtain ⟨bs, q2⟩ := reads_of kz he r2
  exact (PyProof.Rows.reads_det (fun zz zz e zz => e) q1 q2).1.symm

theorem int_shaped (i : Int) : PySem.SeqAt.shaped (.int i) = true := shaped_of (by simp [PyData.canLay0]) (by simp [PyData.depth])
theorem str_shaped {x : Str} (h : okS x = true) : PySem.SeqAt.shaped (.str x) = true := shaped_of (lay_of h) (by rw [depth_str]; decide)
theorem eqp_sound {v w : V} {u u' : Value} {Q : Bool → Prop} {R : Value → Shared → Prop} (hu : X.A.units + 200 < cLine) (M : Mw B X P Z own m σ s) (r : RV Z u v) (r' : RV Z u' w) (h : eqP σ v w Q)
    (k : ∀ b t, Q b → R (.bool b) { s with toks := t }) : wpAny (model B.prog B.w) X.A (compareOp .Eq u u') R (fun zz zz => False) s := by
  unfold eqP at h
  obtain ⟨d, e, h1, h2, s1, s2, q⟩ := h
  obtain ⟨as, ra⟩ := look_reads M h1 r
  obtain ⟨bs, rb⟩ := look_reads M h2 r'
  exact eq_dataH ra rb s1 s2 (by lia) (k _ _ q)
theorem nep_sound {v w : V} {u u' : Value} {Q : Bool → Prop} {R : Value → Shared → Prop} (hu : X.A.units + 200 < cLine) (M : Mw B X P Z own m σ s) (r : RV Z u v) (r' : RV Z u' w) (h : eqP σ v w fun b => Q !b)
    (k : ∀ b t, Q b → R (.bool b) { s with toks := t }) : wpAny (model B.prog B.w) X.A (compareOp .NotEq u u') R (fun zz zz => False) s := by
  unfold eqP at h
  obtain ⟨d, e, h1, h2, s1, s2, q⟩ := h
  obtain ⟨as, ra⟩ := look_reads M h1 r
  obtain ⟨bs, rb⟩ := look_reads M h2 r'
  exact ne_dataH ra rb s1 s2 (by lia) (k _ _ q)
theorem eqq_sound {v w : V} {u u' : Value} {Q : Bool → Prop} {R : Value → Shared → Prop} (hu : X.A.units + 200 < cLine) (M : Mw B X P Z own m σ s) (r : RV Z u v) (r' : RV Z u' w) (h : eqQ σ v w Q)
    (k : ∀ b t, Q b → R (.bool b) { s with toks := t }) : wpAny (model B.prog B.w) X.A (compareOp .Eq u u') R (fun zz zz => False) s := by
  have gen : ∀ v, RV Z u v → (eqP σ v w Q ∨ lenP σ v w (Q false)) → wpAny (model B.prog B.w) X.A (compareOp .Eq u u') R (fun zz zz => False) s := fun v r h => by
    rcases h with h | ⟨vs, ws, h1, h2, hne, q⟩
    · exact eqp_sound hu M r r' h k
    · obtain ⟨a, us, rfl, hl, hs, rs⟩ := look_list M h1 r
      obtain ⟨b, us', rfl, hl', hs', rs'⟩ := look_list M h2 r'
      have e1 := rs.length
      have e2 := rs'.length
      rw [Array.length_toList] at e1 e2
      exact PySem.SeqAt.RcAt.lists_lengths hl hl' (by simp; lia) (by lia) B.prog B.w _ _ (k _ s.toks q)
  cases v with
  | int i =>
    cases w with
    | int j =>
      refine eqp_sound (Q := Q) hu M r r' ?_ k
      unfold eqP
      exact ⟨.int i, .int j, rfl, rfl, int_shaped i, int_shaped j, (show PyData.eqv (.int i) (.int j) = decide (i = j) by simp [PyData.eqv, Bool.beq_eq_decide_eq]) ▸ h⟩
    | _ => exact gen _ r (.inl h)
  | str x =>
    cases w with
    | str y =>
      obtain ⟨hx, h⟩ := chk.out h
      obtain ⟨hy, h⟩ := chk.out h
      refine eqp_sound (Q := Q) hu M r r' ?_ k
      unfold eqP
      exact ⟨.str x, .str y, rfl, rfl, str_shaped hx, str_shaped hy, (show PyData.eqv (.str x) (.str y) = decide (x = y) by simp [PyData.eqv, str_beq]) ▸ h⟩
    | _ => exact gen _ r (.inl h)
  | _ => exact gen _ r h
theorem neq_sound {v w : V} {u u' : Value} {Q : Bool → Prop} {R : Value → Shared → Prop} (hu : X.A.units + 200 < cLine) (M : Mw B X P Z own m σ s) (r : RV Z u v) (r' : RV Z u' w) (h : neQ σ v w Q)
    (k : ∀ b t, Q b → R (.bool b) { s with toks := t }) : wpAny (model B.prog B.w) X.A (compareOp .NotEq u u') R (fun zz zz => False) s := by
  cases v with
  | int i =>
    cases w with
    | int j =>
      refine nep_sound (Q := Q) hu M r r' ?_ k
      unfold eqP
      exact ⟨.int i, .int j, rfl, rfl, int_shaped i, int_shaped j, (show PyData.eqv (.int i) (.int j) = decide (i = j) by simp [PyData.eqv, Bool.beq_eq_decide_eq]) ▸ h⟩
    | _ => exact nep_sound hu M r r' h k
  | _ => exact nep_sound hu M r r' h k
/-- Identity, by what it answers. -/
theorem is_sound {v w : V} {u u' : Value} {Q : Bool → Prop} (M : Mw B X P Z own m σ s) (r : RV Z u v) (r' : RV Z u' w) (h : isP v w Q) {C : Prop}
    (h1 : u = .none → u' = .none → Q true → C) (h2 : ∀ i t, u = .int i t → u' = .none → Q false → C)
    (h3 : ∀ x, u = .ref x → u' = .ref x → Q true → C) (h4 : ∀ x y o o', u = .ref x → u' = .ref y → x ≠ y → s.heap.get? x = some o → s.heap.get? y = some o' → o.cls ≠ .type "tuple" → Q false → C) : C := by
  cases v with
  | none =>
    cases w with
    | none => exact h1 r r' h
    | _ => exact h.elim
  | int i =>
    cases w with
    | none => obtain ⟨t, e⟩ := r; exact h2 i t e r' h
    | _ => exact h.elim
  | fi x c fs =>
    cases w with
    | fi y c' gs =>
      by_cases e : x = y
      · have sm := fi_same M r r' e
        obtain ⟨e1, _⟩ := r
        obtain ⟨e2, _⟩ := r'
        exact h3 x e1 (e ▸ e2) (h true fun zz => sm)
      · obtain ⟨e1, _, _, d, es, ep, z, _⟩ := r
        obtain ⟨e2, _, _, d', es', ep', z', _⟩ := r'
        exact h4 x y _ _ e1 e2 e (M.kz _ _ z).1 (M.kz _ _ z').1 (by simp) (h false nofun)
    | _ => exact h.elim
  | _ => exact h.elim
/-- Membership, by where it is looked up. -/
theorem in_sound {v w : V} {u u' : Value} {Q : Bool → Prop} (M : Mw B X P Z own m σ s) (r : RV Z u v) (r' : RV Z u' w) (h : inP σ v w Q) {C : Prop}
    (h1 : ∀ i t a us, u = .int i t → u' = .ref a → (a == sysModules) = false → s.heap.DictOf (intKind B.prog B.w) a us → Q (valueAt us i).isSome → C)
    (h2 : ∀ i t a (xs : List Int), u = .int i t → u' = .ref a → s.heap.SetOf (intKind B.prog B.w) a (fun k => decide (k ∈ xs)) xs.length → Q (decide (i ∈ xs)) → C)
    (h3 : ∀ x ds as bs, Reads s.heap u (.str x) as → Reads s.heap u' (.tuple ds) bs → PyData.canLayAll0 ds = true → PyData.canLay0 (.str x) = true → Q (ds.any fun y => PyData.eqv y (.str x)) → C) : C := by
  unfold inP at h
  cases v with
  | int i =>
    obtain ⟨t, e1⟩ := r.int
    obtain ⟨a, rfl, q⟩ := refP.out h
    obtain ⟨o, e, q⟩ := q.out
    cases o with
    | dict kvs =>
      obtain ⟨_, ⟨ns, _⟩, us, hd, rd⟩ := M.ob _ _ e
      exact h1 i t a us e1 r' ns hd (rd.isSome ▸ q)
    | set xs =>
      obtain ⟨_, _, hS⟩ := M.ob _ _ e
      exact h2 i t a xs e1 r' hS q
    | _ => exact q.elim
  | str x =>
    cases w with
    | tup vs =>
      obtain ⟨ds, a, b, c, q⟩ := h
      have kz := fun a o e => (M.kz a o e).1
      obtain ⟨as, ra⟩ := reads_of kz (d := .str x) rfl r
      obtain ⟨bs, rb⟩ := reads_of (v := .tup vs) kz (d := .tuple ds) (show (V.datas vs).map PyData.tuple = some (.tuple ds) by rw [a]; rfl) r'
      exact h3 x ds as bs ra rb b c q
    | _ => exact h.elim
  | _ => exact h.elim

theorem cmp_sound {op : CmpOp} {v w : V} {u u' : Value} {Q : Bool → Prop} {R : Value → Shared → Prop} (hu : X.A.units + 200 < cLine) (M : Mw B X P Z own m σ s) (r : RV Z u v) (r' : RV Z u' w) (h : cmpP op v w σ Q)
    (k : ∀ b t, Q b → R (.bool b) { s with toks := t }) : wpAny (model B.prog B.w) X.A (compareOp op u u') R (fun zz zz => False) s := by
  cases op with
  | Eq => exact eqq_sound hu M r r' h k
  | NotEq => exact neq_sound hu M r r' h k
  | Lt =>
    obtain ⟨i, rfl, h⟩ := intP.out h
    obtain ⟨j, rfl, h⟩ := intP.out h
    obtain ⟨t, rfl⟩ := r.int; obtain ⟨t', rfl⟩ := r'.int
    exact lt_int (k _ _ h)
  | LtE =>
    obtain ⟨i, rfl, h⟩ := intP.out h
    obtain ⟨j, rfl, h⟩ := intP.out h
    obtain ⟨t, rfl⟩ := r.int; obtain ⟨t', rfl⟩ := r'.int
    exact PyProof.Rows.le_int (k _ _ h)
  | Gt =>
    obtain ⟨i, rfl, h⟩ := intP.out h
    obtain ⟨j, rfl, h⟩ := intP.out h
    obtain ⟨t, rfl⟩ := r.int; obtain ⟨t', rfl⟩ := r'.int
    exact gt_int (k _ _ h)
  | GtE =>
    obtain ⟨i, rfl, h⟩ := intP.out h
    obtain ⟨j, rfl, h⟩ := intP.out h
    obtain ⟨t, rfl⟩ := r.int; obtain ⟨t', rfl⟩ := r'.int
    exact PyProof.Rows.ge_int (k _ _ h)
  | Is =>
    refine is_sound M r r' h (fun e e' q => ?_) (fun i t e e' q => ?_) (fun x e e' q => ?_) fun x y o o' e e' ne g g' nt q => ?_ <;> subst e e'
    · exact wpAny_is_self rfl (k _ _ q)
    · exact wpAny_is_other rfl nofun (k _ _ q)
    · exact wpAny_is_ref_self (k _ s.toks q)
    · exact wpAny_is_ref_other ne g g' nt (k _ _ q)
  | IsNot =>
    refine is_sound (Q := fun b => Q !b) M r r' h (fun e e' q => ?_) (fun i t e e' q => ?_) (fun x e e' q => ?_) fun x y o o' e e' ne g g' nt q => ?_ <;> subst e e'
    · exact wpAny_isNot_self rfl (k _ _ q)
    · exact wpAny_isNot_other rfl nofun (k _ _ q)
    · exact wpAny_isNot_ref_self (k _ s.toks q)
    · exact wpAny_isNot_ref_other ne g g' nt (k _ _ q)
  | In =>
    refine in_sound M r r' h (fun i t a us e e' ns hd q => ?_) (fun i t a xs e e' hS q => ?_) fun x ds as bs ra rb b c q => PySem.SeqAt.in_tuple_reads rb ra b c (by rw [depth_str]; lia) (k _ _ q) <;> subst e e'
    · exact wpAny_in_of (ik B i t) ns hd.mapOf (k _ _ q)
    · exact wpAny_inSet_of (ik B i t) rfl hS (k _ _ q)
  | NotIn =>
    refine in_sound (Q := fun b => Q !b) M r r' h (fun i t a us e e' ns hd q => ?_) (fun i t a xs e e' hS q => ?_) fun x ds as bs ra rb b c q => PySem.SeqAt.notIn_tuple_reads rb ra b c (by rw [depth_str]; lia) (k _ _ q) <;> subst e e'
    · exact wpAny_notIn_of (ik B i t) ns hd.mapOf (k _ _ q)
    · exact wpAny_notInSet_of (ik B i t) rfl hS (k _ _ q)

theorem noBool_set : typeLookup (.type "set") "__bool__" = pure none := by rw [typeLookup_type, builtinLookup_eq_fast]; kernel_rfl
theorem truthy_setOf {prog : Program} {w : World} {A : Around} {E : Value → Shared → Prop} {a : Addr} {S : Int → Bool} {n : Nat} {Q : Bool → Shared → Prop} (hS : s.heap.SetOf (intKind prog w) a S n) (hn : n ≤ 3000)
    (h : Q (decide (n ≠ 0)) { s with toks := s.toks + 1 + 1 }) : wpAny (model prog w) A (truthy (.ref a)) Q E s := by
  have hT : s.TypeIs (.ref a) "set" := hS.typeIs
  obtain ⟨o, es, ep, t, ho, hex, hd, hel, hmem, hb, hf, hsz⟩ := hS
  have e2 : ((es.size : Int) != 0) = decide (n ≠ 0) := by rw [hsz]; by_cases q : n = 0 <;> simp [q]
  have key : wpAny (model prog w) A (runValue (.builtin "len" ⟨[.ref a], []⟩)) (fun r s' => r = .int es.size (s.toks + 1) ∧ Q (decide (n ≠ 0)) s') E s := by
    refine wpAny_runValue (codeAny_builtin entry_len ?_)
    rw [Around.under_plainId plain_len _]
    exact wpAny_mono (wpAny_len_body_set (Q := fun r s' => r = .int es.size (s.toks + 1) ∧ Q (decide (n ≠ 0)) s') ho hex hd hf (by lia) ⟨rfl, h⟩)
      (fun fin s' h' => by obtain ⟨r, rfl, hq⟩ := h'; exact hq) fun zz zz e => e
  unfold truthy
  refine wpAny_bind (wpAny_callSpecial?_none (name := Str.ofString "__bool__") hT noBool_set ?_)
  refine wpAny_bind (wpAny_specialOf (name := Str.ofString "__len__") hT F.slot_set_len.lookup ?_)
  exact wpAny_bind (wpAny_mono key (fun r s' h' => by obtain ⟨rfl, hq⟩ := h'; exact wpAny_pure (e2 ▸ hq)) fun zz zz e => e)

theorem empty_len {α β : Type} {us : List α} {vs : List β} (h : us.length = vs.length) : us.isEmpty = vs.isEmpty := by
  cases us <;> cases vs <;> first | rfl | cases h
theorem empty_size {α β : Type} {us : Array α} {vs : List β} (h : us.toList.length = vs.length) : us.isEmpty = vs.isEmpty :=
  Array.isEmpty_toList.symm.trans (empty_len h)
theorem empty_nat {α : Type} : ∀ {xs : List α}, decide (xs.length ≠ 0) = !xs.isEmpty
  | [] => rfl
  | _ :: _ => rfl
theorem truth_sound {v : V} {u : Value} {Q : Bool → Prop} {R : Bool → Shared → Prop} (M : Mw B X P Z own m σ s) (r : RV Z u v) (h : truP σ v Q)
    (k : ∀ b t, Q b → R b { s with toks := t }) : wpAny (model B.prog B.w) X.A (truthy u) R (fun zz zz => False) s := by
  have hlo : lineOf = 16777216 := rfl
  have list : ∀ {a us vs}, s.heap.IsList a us → us.size ≤ lineOf → RVs Z us.toList vs → Q (!vs.isEmpty) → wpAny (model B.prog B.w) X.A (truthy (.ref a)) R (fun zz zz => False) s := fun {a us vs} hl hs rs q =>
    wpAny_truthy_list hl (by lia) (k _ _ (empty_size rs.length ▸ q))
  cases v with
  | none => cases (show u = .none from r); exact truthy_none (k _ _ h)
  | bool b => cases (show u = .bool b from r); exact wpAny_truthy_bool (k _ _ h)
  | fl vs =>
    obtain ⟨a, us, rfl, hl, hs, rs⟩ := M.fl r
    exact list hl hs rs h
  | ref a =>
    cases (show u = .ref a from r)
    obtain ⟨o, e, h⟩ := rd.out h
    cases o with
    | list vs =>
      obtain ⟨_, us, pl, hs, rs⟩ := M.ob _ _ e
      exact list pl.isList hs rs h
    | dict kvs =>
      obtain ⟨_, ⟨ns, hz⟩, us, hd, rd⟩ := M.ob _ _ e
      exact wpAny_truthy_dict ns hd (by rw [rd.length]; lia) (k _ _ (empty_len rd.length ▸ h))
    | set xs =>
      obtain ⟨_, ⟨_, hl⟩, hS⟩ := M.ob _ _ e
      exact truthy_setOf hS (by lia) (k _ _ (empty_nat (xs := xs) ▸ h))
    | _ => exact h.elim
  | _ => exact h.elim

end Mine

namespace Mine
set_option tactic.hygienic false
set_option genSizeOfSpec false
open PySem PySem.W PyProof.Rows PySem.Calls
set_option maxRecDepth 100000
variable {B : Base} {X : Fx} {P Z : PM} {own : Addr → Tag} {m : Lo} {σ : AH} {s : Shared} {sc : Scope}

theorem tail_builtin {prog : Program} {w : World} {A : Around} {E : Value → Shared → Prop} {value slice : Expr} {o i : Value} {T id : String} {ops : List Value} {Q : Value → Shared → Prop} (hT : s.TypeIs o T)
    (hl : typeLookup (.type T) "__getitem__" = pure (some (.builtin id))) (h : wpAny (model prog w) A (getItem o i) Q E s)
    (hs : subscripted slice false o i = operate ops (getItem o i)) : wpAny (model prog w) A (subscriptTail value slice o i) Q E s := by
  unfold subscriptTail
  refine wpAny_bind ?_
  rw [getitemInPython_of_ne hT.not_modules]
  refine wpAny_bind (wpAny_specialOf hT hl ?_)
  have fin : wpAny (model prog w) A (subscripted slice false o i) (fun r s₃ => wpAny (model prog w) A (letTemporaryGo value o r >>= fun zz => pure r) Q E s₃) E s := by
    rw [hs]
    exact wpAny_operating (wpAny_mono h (fun r s₃ h₃ => wpAny_bind (wpAny_letTemporaryGo (wpAny_pure h₃))) fun zz zz x => x)
  first
    | exact wpAny_pure (wpAny_bind fin)
    | exact wpAny_bind (wpAny_pure (wpAny_bind fin))
    | exact wpAny_bind fin

theorem rvs_idx {us : Array Value} {vs : List V} {i : Int} {x : V} (rs : RVs Z us.toList vs) (h : idx vs i = some x) {C : Prop}
    (h1 : ∀ u, 0 ≤ i → us[i.toNat]? = some u → RV Z u x → i < us.size → C) (h2 : ∀ u, i < 0 → -(us.size : Int) ≤ i → us[(i + us.size).toNat]? = some u → RV Z u x → C) : C := by
  have e := rs.length
  rw [Array.length_toList] at e
  unfold idx at h
  by_cases h0 : 0 ≤ i
  · rw [if_pos h0] at h
    obtain ⟨u, q, r⟩ := rs.get h
    rw [Array.getElem?_toList] at q
    have := (Array.getElem?_eq_some_iff.mp q).1
    exact h1 u h0 q r (by lia)
  · rw [if_neg h0] at h
    by_cases h1 : 0 ≤ (vs.length : Int) + i
    · rw [if_pos h1, ← e, Int.add_comm] at h
      obtain ⟨u, q, r⟩ := rs.get h
      rw [Array.getElem?_toList] at q
      exact h2 u (by lia) (by lia) q r
    · rw [if_neg h1] at h; exact nomatch h

theorem seqIdx_nn {i : Int} {n : Nat} (h : 0 ≤ i) (h' : i < n) : seqIndex? i n = some i.toNat := by
  unfold seqIndex?
  simp only [show ¬ i < 0 by lia, if_false]
  simp; lia
theorem seqIdx_neg {i : Int} {n : Nat} (h : i < 0) (h' : -(n : Int) ≤ i) : seqIndex? i n = some (i + n).toNat := by
  unfold seqIndex?
  simp only [h, if_true]
  simp; lia

/-- The item, and where it is looked up. -/
inductive ItemR (B : Base) (X : Fx) (R : Value → Shared → Prop) (s : Shared) (u u' : Value) : Prop
  | mk (T id : String) (a : Addr) (i : Int) (t : Tok) (hl : typeLookup (.type T) "__getitem__" = pure (some (.builtin id))) (hT : s.TypeIs u T) (ea : u = .ref a) (ei : u' = .int i t) (g : wpAny (model B.prog B.w) X.A (getItem u u') R (fun zz zz => False) s)
theorem list_item {vs : List V} {a : Addr} {us : Array Value} {i : Int} {t : Tok} {Q : V → Prop} {R : Value → Shared → Prop} (hl : s.heap.IsList a us) (hs : us.size ≤ lineOf) (rs : RVs Z us.toList vs) (h : idxR (idx vs i) Q)
    (k : ∀ u x, RV Z u x → Q x → R u s) : ItemR B X R s (.ref a) (.int i t) := by
  have hlo : lineOf = 16777216 := rfl
  obtain ⟨x, hx, q⟩ := h.get.out
  refine ⟨"list", _, a, i, t, list_getitem_lookup, hl.typeIs, rfl, rfl, rvs_idx rs hx (fun u h0 hu ru hlt => ?_) fun u h0 h1 hu ru => ?_⟩
  · exact wpAny_getItem_list hl h0 (by lia) hu (k _ _ ru q)
  · exact wpAny_getItem_list_neg hl h0 (by lia) (by lia) hu (k _ _ ru q)
theorem item_sound {v w : V} {u u' : Value} {Q : QV} {R : Value → Shared → Prop} (M : Mw B X P Z own m σ s) (r : RV Z u v) (r' : RV Z u' w) (h : itemP v w σ Q)
    (k : ∀ u x t, RV Z u x → Q x σ → R u { s with toks := t }) : ItemR B X R s u u' := by
  have hlo : lineOf = 16777216 := rfl
  cases w with
  | int i =>
    obtain ⟨t, rfl⟩ := r'.int
    cases v with
    | fl vs =>
      obtain ⟨a, us, rfl, hl, hs, rs⟩ := M.fl r
      exact list_item hl hs rs h fun u x ru q => k u x _ ru q
    | tup vs =>
      obtain ⟨x, hx, q⟩ := optQ.out h
      obtain ⟨a, us, rfl, hl, hs, rs⟩ := M.tup r
      have ht : IsTup s.heap a us := hl
      refine ⟨"tuple", _, a, i, t, PyProof.Rows.slot_tuple_getitem.lookup, ht.typeIs, rfl, rfl, rvs_idx rs hx (fun u h0 hu ru hlt => ?_) fun u h0 h1 hu ru => ?_⟩
      · exact getItem_tuple (j := i.toNat) ht (by lia) (by lia) (seqIdx_nn h0 hlt) hu (k _ _ _ ru q)
      · exact getItem_tuple (j := (i + us.size).toNat) ht (by lia) (by lia) (seqIdx_neg h0 h1) hu (k _ _ _ ru q)
    | ref a =>
      cases (show u = .ref a from r)
      obtain ⟨o, e, h⟩ := rd.out h
      cases o with
      | list vs =>
        obtain ⟨_, us, pl, hs, rs⟩ := M.ob _ _ e
        exact list_item pl.isList hs rs h fun u x ru q => k u x _ ru q
      | dict kvs =>
        obtain ⟨x, hx, q⟩ := h.get.out
        obtain ⟨_, ⟨ns, _⟩, us, hd, rd⟩ := M.ob _ _ e
        rcases rd.get (k := i) with ⟨v, u, e1, e2, ru⟩ | ⟨e1, _⟩
        · cases hx.symm.trans e1
          exact ⟨"dict", _, a, i, t, slot_dict_getitem.lookup, hd.typeIs, rfl, rfl, wpAny_getItem_of (ik B i t) hd.mapOf e2 (k _ _ _ ru q)⟩
        · exact nomatch e1.symm.trans hx
      | _ => exact h.elim
    | _ => exact h.elim
  | _ => exact h.elim

noncomputable def notSlice : Expr → Bool
  | .Slice .. => false
  | _ => true
theorem sub_int {e : Expr} {o : Value} {i : Int} {t : Tok} (he : notSlice e = true) : subscripted e false o (.int i t) = operate [o, .int i t] (getItem o (.int i t)) := by
  cases e with
  | Slice a b c d => exact nomatch he
  | _ => rfl

theorem ev_item {o i : Expr} {pos : Pos} {Q : QV} (hi : notSlice i = true)
    (h : Ev B X (eval o X.env) m σ fun v σ => Ev B X (eval i X.env) m σ fun w σ => itemP v w σ Q) : Ev B X (eval (.Subscript o i pos) X.env) m σ Q := by
  intro P Z s hb M
  refine Subscript_ (h.use hb M fun u s1 Z1 v σ1 z1 M1 r1 q1 => q1.use hb M1 fun u' s2 Z2 w σ2 z2 M2 r2 q2 => ?_)
  obtain ⟨own, M2'⟩ := M2
  obtain ⟨T, id, a, j, t, hl, hT, -, rfl, g⟩ := item_sound (R := PoV B X P Z m Q) M2' (r1.mono z2) r2 q2 fun u x t ru q => (PoV.here (s := { s2 with toks := t }) (Mt.tok ⟨own, M2'⟩ rfl) ru q).up (z1.trans z2)
  exact tail_builtin hT hl g (sub_int hi)

theorem RF.keys : ∀ {es : List DictEntry} {fs : List (Str × V)}, RF Z es fs → ∀ e ∈ es, ∃ x t, e.key = .str x t
  | _, [], x, e, he => by cases (show _ = [] from x); cases he
  | _, xv :: fs, x, e, he => by
    obtain ⟨e', es', rfl, ⟨t, hk⟩, r, rs⟩ := x
    cases he with
    | head => exact ⟨_, _, hk⟩
    | tail _ he => exact rs.keys e he

theorem noRefKey {es : List DictEntry} (h : ∀ e ∈ es, ∃ x t, e.key = .str x t) : es.any (·.refKey) = false := by
  rw [List.any_eq_false]
  intro e he
  obtain ⟨x, t, hk⟩ := h e he
  simp [DictEntry.refKey, hk]

theorem handed_of {v : V} {u : Value} (r : RV Z u v) : handedIn u = true := by
  cases v with
  | none => cases (show u = .none from r); rfl
  | bool b => cases (show u = .bool b from r); rfl
  | int i => obtain ⟨t, rfl⟩ := r; rfl
  | str x => obtain ⟨t, rfl⟩ := r; rfl
  | ref a => cases (show u = .ref a from r); rfl
  | ty n => cases (show u = .type n from r); rfl
  | bi n => obtain ⟨rfl, h⟩ := r; exact h
  | tup vs => obtain ⟨a, o, us, ep, rfl, _⟩ := r; rfl
  | fl vs => obtain ⟨a, o, us, ep, rfl, _⟩ := r; rfl
  | fi a c fs => obtain ⟨rfl, _⟩ := r; rfl

theorem Mw.base (M : Mw B X P Z own m σ s) (hb : BaseIn B P) : ∀ b o, B.h0.get? b = some o → s.heap.get? b = some o := fun b o e => (M.kp b o (hb b o e)).1
theorem Mw.kin (hB : BaseOk B) (M : Mw B X P Z own m σ s) (hb : BaseIn B P) : B.K.In s.heap := hB.kin.keeps (M.base hb)

/-- An object of a class, frozen or owned. -/
inductive InstR (B : Base) (X : Fx) (Z : PM) (σ : AH) (s : Shared) (x : Str) (Q : QV) (u : Value) : Prop
  | mk (a c d : Addr) (es : List DictEntry) (ep : Nat) (w : V) (u' : Value) (ea : u = .ref a) (hc : c ∈ clss) (ok : okName x = true) (z : s.heap.get? a = some (instObj c d)) (z' : s.heap.get? d = some (dictOf es ep)) (ru : RV Z u' w) (q : Q w σ)
    (g : PySem.W.getL x es = some (some u'))
theorem getL_mem {x : Str} {w : V} : ∀ {fs : Lo}, Mine.getL x fs = some w → x ∈ fs.map (·.1)
  | (y, z) :: r, h => by
    unfold Mine.getL at h
    by_cases q : x = y
    · subst q; exact .head _
    · rw [if_neg q] at h; exact .tail _ (getL_mem h)
theorem RF.getL {x : Str} {es : List DictEntry} {fs : Lo} {w : V} (rf : RF Z es fs) (hw : Mine.getL x fs = some w) : ∃ u', RV Z u' w ∧ PySem.W.getL x es = some (some u') := by
  obtain ⟨e, he, re⟩ := rf.get hw
  exact ⟨_, re, by unfold PySem.W.getL; rw [he]⟩
theorem inst_at {v : V} {x : Str} {u : Value} {Q : QV} (M : Mw B X P Z own m σ s) (r : RV Z u v) (h : attrP v x σ Q) : InstR B X Z σ s x Q u := by
  cases v with
  | fi a c fs =>
    obtain ⟨w, hw, q⟩ := optQ.out h
    obtain ⟨rfl, hc, ok, d, es, ep, z, z', rf⟩ := r
    obtain ⟨u', ru, g⟩ := rf.getL hw
    exact ⟨a, c, d, es, ep, w, u', rfl, hc, ok x (getL_mem hw), (M.kz _ _ z).1, (M.kz _ _ z').1, ru, q, g⟩
  | ref a =>
    obtain ⟨o, e, h⟩ := rd.out h
    cases o with
    | inst c fs =>
      obtain ⟨w, hw, q⟩ := h.get.out
      obtain ⟨_, hc, ok, d, es, ep, z, z', _, rf⟩ := M.ob _ _ e
      obtain ⟨u', ru, g⟩ := rf.getL hw
      exact ⟨a, c, d, es, ep, w, u', r, hc, ok x (getL_mem hw), z, z', ru, q, g⟩
    | _ => exact h.elim
  | _ => exact h.elim

theorem instAt {h : Heap} {a c d : Addr} {es : List DictEntry} {ep : Nat} (z : h.get? a = some (instObj c d)) (z' : h.get? d = some (dictOf es ep)) :
    InstAt h a (instObj c d) c (some (dictOf es ep)) := ⟨z, rfl, rfl, z'⟩

theorem attr_sound {v : V} {x : Str} {u : Value} {Q : QV} {R : Value → Shared → Prop} {expr : Bool} (hB : BaseOk B) (hb : BaseIn B P) (M : Mw B X P Z own m σ s) (r : RV Z u v) (h : attrP v x σ Q)
    (k : ∀ u w t, RV Z u w → Q w σ → R u { s with toks := t }) : wpAny (model B.prog B.w) X.A (getAttr u x expr) R (fun zz zz => False) s := by
  obtain ⟨a, c, d, es, ep, w, u', rfl, hc, ok, z, z', ru, q, g⟩ := inst_at M r h
  obtain ⟨hd, _, _, hx⟩ := hB.cls c hc
  obtain ⟨hg, hf, _⟩ := hx x ok
  exact get_value (M.kin hB hb) (instAt z z') (plainGet_of hg).1 (findObj_own hd hf rfl g) (handed_of ru) (k _ _ _ ru q)

theorem base_notSuper {o : Expr} {attr : Str} {env : Env} (h : notSuper o = true) : attributeBase o attr env (eval o env) = eval o env := by
  cases o with
  | Call f args kw p =>
    cases f with
    | Name x q =>
      cases args with
      | nil =>
        cases kw with
        | nil => exact nomatch h
        | cons _ _ => rfl
      | cons _ _ => rfl
    | _ => rfl
  | _ => rfl

theorem ev_attr {o : Expr} {x : Str} {pos : Pos} {Q : QV} (hB : BaseOk B) (hn : notSuper o = true) (h : Ev B X (eval o X.env) m σ fun v σ => attrP v x σ Q) : Ev B X (eval (.Attribute o x pos) X.env) m σ Q := by
  intro P Z s hb M
  refine Attribute_any_ (h.use hb M fun u s1 Z1 v σ1 z1 M1 r1 q1 => ?_) ?_
  · obtain ⟨own, M1⟩ := M1
    exact attr_sound hB hb M1 r1 q1 fun u w t ru q => (PoV.here (s := { s1 with toks := t }) (Mt.tok ⟨own, M1⟩ rfl) ru q).up z1
  · rw [arm_eval_Attribute, base_notSuper hn]

end Mine

namespace Mine
set_option tactic.hygienic false
set_option genSizeOfSpec false
open PySem PySem.W PyProof.Rows PySem.Calls
set_option maxRecDepth 100000
variable {B : Base} {X X' : Fx} {P P' Z : PM} {own own1 : Addr → Tag} {m m' : Lo} {σ : AH} {s : Shared} {sc : Scope} {T : EvT}

/-- Another frame, another set of what is guarded. -/
theorem Mw.swap (M : Mw B X' P' Z own m' σ s) (hP : ∀ a o, P a = some o → s.heap.get? a = some o ∧ own1 a = .prot)
    (ht : ∀ a, (own a = .froz ∨ own a = .obj ∨ ∃ c, own a = .dic c) → own1 a = own a) (hlo : LoOk X Z own1 m s.heap) (hce : ∀ x c, X.env.cells.lookup x = some c → CeOk X P Z own1 m s.heap x c) :
    Mw B X P Z own1 m σ s where
  kp := hP
  kz a o e := ⟨(M.kz a o e).1, (ht a (.inl (M.kz a o e).2)).trans (M.kz a o e).2⟩
  lo := hlo
  ce := hce
  ob a o e := by
    have q := M.ob a o e
    refine ⟨(ht a (.inr (.inl q.1))).trans q.1, q.2.keep (.refl Z) fun b ob eb hc => ⟨eb, ht b ?_⟩⟩
    rcases hc with rfl | hc
    · exact .inr (.inl q.1)
    · exact .inr (.inr ⟨_, hc⟩)
  gn := M.gn
  os := M.os

/-- Guard a new object for a while. -/
theorem Mw.guard {n : Addr} {o : Obj} (M : Mw B X P Z own m σ s) (hn : s.heap.get? n = none) {s' : Shared} (ho : s'.heap.get? n = some o) (k : ∀ b o, s.heap.get? b = some o → s'.heap.get? b = some o) (hg : s'.gens = s.gens) (hos : s'.os = s.os) :
    Mw B X (zput P n o) Z (tput own n .prot) m σ s' := by
  have M1 := (M.tag hn .prot).grow k hg hos
  refine ⟨fun a ob e => ?_, M1.kz, M1.lo, fun x c e => ?_, M1.ob, M1.gn, M1.os⟩
  · unfold zput at e
    split at e
    · rename_i q; cases e; subst q; exact ⟨ho, tput_self⟩
    · exact M1.kp a ob e
  · obtain ⟨a, u0, hc, r⟩ := M1.ce x c e
    refine ⟨a.imp id fun q => ⟨q.1, q.2.1, ?_⟩, u0, hc, r⟩
    obtain ⟨o', e'⟩ := q.2.2
    unfold zput
    split
    · exact ⟨o, rfl⟩
    · exact ⟨o', e'⟩

theorem Mw.unguard {n : Addr} {o : Obj} {t : Tag} (M : Mw B X (zput P n o) Z own m σ s) (hp : P n = none) (hc : X.wr = false → ∀ x c, X.env.cells.lookup x = some c → ∃ o, P c = some o) : Mw B X P Z (tput own n t) m σ s := by
  have hn : own n = .prot := (M.kp n o zput_self).2
  have tn : ∀ b, own b ≠ .prot → tput own n t b = own b := fun b h => if_neg (by rintro rfl; exact h hn)
  refine M.swap (fun a ob e => ?_) (fun a h => tn a ?_) ?_ fun x c e => ?_
  · have na : a ≠ n := by rintro rfl; rw [hp] at e; cases e
    have q := M.kp a ob ((if_neg na).trans e)
    exact ⟨q.1, (if_neg na).trans q.2⟩
  · rcases h with h | h | ⟨c, h⟩ <;> rw [h] <;> nofun
  · obtain ⟨a, mm, hn, r⟩ := M.lo
    exact ⟨(tn _ (by rw [a]; nofun)).trans a, mm, hn, r⟩
  · obtain ⟨a, u0, hu, r⟩ := M.ce x c e
    refine ⟨?_, u0, hu, r⟩
    rcases a with a | ⟨a, b, o', c'⟩
    · exact .inl ⟨a.1, (tn _ (by rw [a.2]; nofun)).trans a.2⟩
    · obtain ⟨o2, e2⟩ := hc a x c e
      have cn : c ≠ n := by rintro rfl; rw [hp] at e2; cases e2
      exact .inr ⟨a, (if_neg cn).trans b, o2, e2⟩

theorem Mw.cellsIn (M : Mw B X P Z own m σ s) : X.wr = false → ∀ x c, X.env.cells.lookup x = some c → ∃ o, P c = some o := fun w x c e => by
  rcases (M.ce x c e).ns with ⟨a, _⟩ | ⟨_, _, h⟩
  · rw [w] at a; cases a
  · exact h
theorem Mw.p_none (M : Mw B X P Z own m σ s) {n : Addr} (hn : s.heap.get? n = none) : P n = none := by
  cases e : P n with
  | none => rfl
  | some o => exact nomatch hn.symm.trans (M.kp n o e).1

/-- What the evaluator says of expressions is so in the machine. -/
structure Snd (B : Base) (T : EvT) (X : Fx) (sc : Scope) : Prop where
  ev : ∀ e m σ Q, T.ev sc e m σ Q → Ev B X (eval e X.env) m σ Q
  ts : ∀ e m σ Q, T.ts sc e m σ Q → EvB B X (isTrue e X.env (eval e X.env)) m σ Q
  st : ∀ e p m σ Q, ¬ T.ev sc (.Starred e p) m σ Q
theorem Snd.go (S : Snd B T X sc) {e : Expr} {Q : QV} {R : Value → Shared → Prop} (h : T.ev sc e m σ Q) (hb : BaseIn B P) (M : Mt B X P Z m σ s)
    (k : ∀ u s' Z' v σ', Zle Z Z' → Mt B X P Z' m σ' s' → RV Z' u v → Q v σ' → R u s') : wpAny (model B.prog B.w) X.A (eval e X.env) R (fun zz zz => False) s := (S.ev _ _ _ _ h).use hb M k

theorem starEach_cons {e : Expr} {es : List Expr} {env : Env} (h : notStar e = true) : starEach (e :: es) env = (false, eval e env) :: starEach es env := by
  cases e <;> first | rfl | exact nomatch h
theorem Snd.noStar (S : Snd B T X sc) {e : Expr} {Q : QV} (h : T.ev sc e m σ Q) : notStar e = true := by
  cases e <;> first | rfl | exact absurd h (S.st _ _ _ _ _)

inductive PoL (B : Base) (X : Fx) (P Z : PM) (m : Lo) (n : Nat) (Q : QL) (us : List Value) (s' : Shared) : Prop
  | mk (hl : us.length = n) (Z' : PM) (vs : List V) (σ' : AH) (a : Zle Z Z') (b : Mt B X P Z' m σ' s') (c : RVs Z' us vs) (d : Q vs σ')

theorem evs_sound (S : Snd B T X sc) {pos : Pos} (hb : BaseIn B P) : ∀ (es : List Expr) {Z : PM} {σ : AH} {s : Shared} {Q : QL}, Mt B X P Z m σ s → evsP T sc m es σ Q →
    wpAny (model B.prog B.w) X.A (spliced (backTo pos (starEach es X.env))) (PoL B X P Z m es.length Q) (fun zz zz => False) s
  | [], Z, σ, s, Q, M, h => spliced_nil ⟨rfl, Z, [], σ, .refl Z, M, rfl, h⟩
  | e :: es, Z, σ, s, Q, M, h => by
    have h : T.ev sc e m σ fun v σ => evsP T sc m es σ (kCons v Q) := h
    rw [starEach_cons (S.noStar h)]
    refine spliced_cons (S.go h hb M fun u s1 Z1 v σ1 z1 M1 r1 q1 => wpAny_mono (evs_sound S hb es M1 q1) (fun us s2 ⟨hl, Z2, vs, σ2, z2, M2, r2, q2⟩ => ?_) fun zz zz x => x)
    exact ⟨congrArg Nat.succ hl, Z2, v :: vs, σ2, z1.trans z2, M2, .cons (r1.mono z2) r2, q2⟩
theorem len100 {α : Type} {us : List α} {es : List Expr} (h : Nat.ble es.length 100 = true) (e : us.length = es.length) : us.toArray.size ≤ lineOf := by
  rw [List.size_toArray, e]; exact Nat.le_trans (Nat.le_of_ble_eq_true h) (by decide)

theorem ev_list {es : List Expr} {pos : Pos} {Q : QV} (S : Snd B T X sc) (h : chk (Nat.ble es.length 100) (evsP T sc m es σ (kNew Q))) : Ev B X (eval (.List es pos) X.env) m σ Q := by
  intro P Z s hb M
  obtain ⟨hl, h⟩ := chk.out h
  rw [arm_eval_List]
  refine wpAny_bind (wpAny_standAt (wpAny_bind (wpAny_mono (evs_sound S hb es M h) (fun us s1 ⟨hn, Z1, vs, σ1, z1, ⟨own, M1⟩, r1, q1⟩ => ?_) fun zz zz x => x)))
  exact wpAny_newList ((newList_sound (us := us.toArray) (s' := { s1 with heap := s1.heap.push { cls := .type "list", data := .seq us.toArray } }) M1 (Heap.get?_push_size _ rfl) (fun b o e => Heap.get?_push_of_some _ e) rfl rfl (len100 hl hn) r1 q1).up z1) (len100 hl hn)

theorem newTup_sound {us : List Value} {vs : List V} {Q : QV} (M : Mw B X P Z own m σ s) (hl : us.toArray.size ≤ lineOf) (r : RVs Z us vs) (q : Q (.tup vs) σ) :
    PoV B X P Z m Q (.ref s.heap.objs.size) { s with heap := s.heap.push { cls := .type "tuple", data := .seq us.toArray } } := by
  have hn : s.heap.get? s.heap.objs.size = none := fresh_none (Nat.le_refl _)
  have M1 := (M.tag hn .froz).grow (s' := { s with heap := s.heap.push { cls := .type "tuple", data := .seq us.toArray } }) (fun b o e => Heap.get?_push_of_some _ e) rfl rfl
  obtain ⟨hz, M2⟩ := M1.frz (M.z_none hn) (Heap.get?_push_size _ rfl) tput_self
  exact ⟨_, .tup vs, σ, hz, ⟨_, M2⟩, ⟨_, { cls := .type "tuple", data := .seq us.toArray }, us.toArray, 0, rfl, zput_self, rfl, rfl, hl, r.mono hz⟩, q⟩

theorem ev_tuple {es : List Expr} {k : Nat} {pos : Pos} {Q : QV} (S : Snd B T X sc) (h : chk (Nat.ble es.length 100) (evsP T sc m es σ (kTup Q))) : Ev B X (eval (.Tuple es k pos) X.env) m σ Q := by
  intro P Z s hb M
  obtain ⟨hl, h⟩ := chk.out h
  rw [arm_eval_Tuple]
  refine wpAny_bind (wpAny_standAt (wpAny_bind (wpAny_mono (evs_sound S hb es M h) (fun us s1 ⟨hn, Z1, vs, σ1, z1, ⟨own, M1⟩, r1, q1⟩ => ?_) fun zz zz x => x)))
  exact wpAny_newTuple ((newTup_sound M1 (len100 hl hn) r1 q1).up z1) (len100 hl hn)

theorem ev_binop {l r : Expr} {op : Operator} {pos : Pos} {Q : QV} (S : Snd B T X sc) (h : T.ev sc l m σ (kBin1 T sc m op r Q)) : Ev B X (eval (.BinOp l op r pos) X.env) m σ Q := fun P Z s hb M =>
  wpAny_BinOp (S.go h hb M fun u s1 Z1 v σ1 z1 M1 r1 q1 => S.go q1 hb M1 fun u' s2 Z2 w σ2 z2 M2 r2 q2 => wpAny_mono (bin_sound M2 (r1.mono z2) r2 q2) (fun u s' h => h.up (z1.trans z2)) fun zz zz x => x)

theorem Snd.here (S : Snd B T X sc) {e : Expr} {Q : QV} {Z' : PM} (h : T.ev sc e m σ Q) (hb : BaseIn B P) (z : Zle Z Z') (M : Mt B X P Z' m σ s) : wpAny (model B.prog B.w) X.A (eval e X.env) (PoV B X P Z m Q) (fun zz zz => False) s :=
  wpAny_mono (S.ev _ _ _ _ h P Z' s hb M) (fun zz zz h => h.up z) fun zz zz x => x
theorem Snd.hereT (S : Snd B T X sc) {e : Expr} {Q : QB} {Z' : PM} (h : T.ts sc e m σ Q) (hb : BaseIn B P) (z : Zle Z Z') (M : Mt B X P Z' m σ s) : wpAny (model B.prog B.w) X.A (isTrue e X.env (eval e X.env)) (PoB B X P Z m Q) (fun zz zz => False) s :=
  wpAny_mono (S.ts _ _ _ _ h P Z' s hb M) (fun zz zz h => h.up z) fun zz zz x => x
theorem cnd.out {b : Bool} {C D : Prop} (h : cnd b C D) : (b = true ∧ C) ∨ (b = false ∧ D) := by
  cases h with
  | t e h => exact .inl ⟨e, h⟩
  | f e h => exact .inr ⟨e, h⟩
theorem ev_ifexp {t a b : Expr} {pos : Pos} {Q : QV} (S : Snd B T X sc) (h : T.ts sc t m σ (kIfE T sc m a b Q)) : Ev B X (eval (.IfExp t a b pos) X.env) m σ Q := by
  intro P Z s hb M
  rw [arm_eval_IfExp]
  refine wpAny_bind ((S.ts _ _ _ _ h).use hb M fun c s1 Z1 σ1 z1 M1 q1 => ?_)
  rcases cnd.out q1 with ⟨rfl, q⟩ | ⟨rfl, q⟩ <;> exact S.here q hb z1 M1

theorem ev_not {x : Expr} {pos : Pos} {Q : QV} (S : Snd B T X sc) (h : T.ev sc x m σ fun v σ => truP σ v fun b => Q (.bool !b) σ) : Ev B X (eval (.UnaryOp .Not x pos) X.env) m σ Q := fun P Z s hb M =>
  UnaryOp_ (S.go h hb M fun u s1 Z1 v σ1 z1 ⟨own, M1⟩ r1 q1 => not_of (truth_sound M1 r1 q1 fun b t q => ⟨Z1, .bool !b, σ1, z1, Mt.tok ⟨own, M1⟩ rfl, rfl, q⟩))

theorem ev_neg {x : Expr} {pos : Pos} {Q : QV} (S : Snd B T X sc) (h : T.ev sc x m σ fun v σ => intP v fun i => Q (.int (-i)) σ) : Ev B X (eval (.UnaryOp .USub x pos) X.env) m σ Q := by
  intro P Z s hb M
  refine UnaryOp_ (S.go h hb M fun u s1 Z1 v σ1 z1 M1 r1 q1 => ?_)
  obtain ⟨i, rfl, q⟩ := intP.out q1
  obtain ⟨t, rfl⟩ := r1.int
  exact PyProof.Rows.neg_int ⟨Z1, .int _, σ1, z1, M1.tok rfl, ⟨_, rfl⟩, q⟩

theorem bool_sound (S : Snd B T X sc) {op : BoolOp} {pos : Pos} (hb : BaseIn B P) : ∀ (es : List Expr) {Z Z0 : PM} {σ : AH} {s : Shared} {Q : QV}, Zle Z0 Z → Mt B X P Z m σ s → boolP T sc m op es σ Q →
    wpAny (model B.prog B.w) X.A (boolOp pos op (evalEach es X.env)) (PoV B X P Z0 m Q) (fun zz zz => False) s
  | [], _, _, _, _, _, _, _, h => h.elim
  | [e], Z, Z0, σ, s, Q, z, M, h => S.here h hb z M
  | e :: e2 :: es, Z, Z0, σ, s, Q, z, M, h => by
    show wpAny _ _ (do
      let v ← eval e X.env
      standAt pos
      let t ← holding [v] (truthy v)
      match op, t with
      | .And, false | .Or, true => pure v
      | _, _ => boolOp pos op (evalEach (e2 :: es) X.env)) _ _ _
    refine wpAny_bind (S.go (e := e) h hb M fun u s1 Z1 v σ1 z1 ⟨own, M1⟩ r1 q1 => wpAny_bind (wpAny_standAt (wpAny_bind (wpAny_holding (truth_sound M1 r1 q1 fun b t q => ?_)))))
    have Mt' : Mt B X P Z1 m σ1 { s1 with toks := t } := Mt.tok ⟨own, M1⟩ rfl
    have rest := fun q => bool_sound S (op := op) (pos := pos) hb (e2 :: es) (Q := Q) (z.trans z1) Mt' q
    cases op <;> rcases cnd.out q with ⟨rfl, q2⟩ | ⟨rfl, q2⟩
    · exact rest q2
    · exact wpAny_pure ⟨Z1, v, σ1, z.trans z1, Mt', r1, q2⟩
    · exact wpAny_pure ⟨Z1, v, σ1, z.trans z1, Mt', r1, q2⟩
    · exact rest q2

theorem all_sound (S : Snd B T X sc) {op : BoolOp} (hb : BaseIn B P) : ∀ (es : List Expr) {Z Z0 : PM} {σ : AH} {s : Shared} {Q : QB}, Zle Z0 Z → Mt B X P Z m σ s → allP T sc m op es σ Q →
    wpAny (model B.prog B.w) X.A (allTrue op es X.env) (PoB B X P Z0 m Q) (fun zz zz => False) s
  | [], Z, Z0, σ, s, Q, z, M, h => wpAny_pure ⟨Z, σ, z, M, h⟩
  | [e], Z, Z0, σ, s, Q, z, M, h => by
    show wpAny _ _ (do
      match op, ← isTrue e X.env (eval e X.env) with
      | .And, false => pure false
      | .Or, true => pure true
      | _, _ => allTrue op [] X.env) _ _ _
    refine wpAny_bind ((S.ts _ _ _ _ h).use hb M fun b s1 Z1 σ1 z1 M1 q => ?_)
    cases op <;> cases b <;> exact wpAny_pure ⟨Z1, σ1, z.trans z1, M1, q⟩
  | e :: e2 :: es, Z, Z0, σ, s, Q, z, M, h => by
    show wpAny _ _ (do
      match op, ← isTrue e X.env (eval e X.env) with
      | .And, false => pure false
      | .Or, true => pure true
      | _, _ => allTrue op (e2 :: es) X.env) _ _ _
    refine wpAny_bind ((S.ts _ _ _ _ h).use hb M fun b s1 Z1 σ1 z1 M1 q => ?_)
    have rest := fun q => all_sound S (op := op) hb (e2 :: es) (Q := Q) (z.trans z1) M1 q
    cases op <;> rcases cnd.out q with ⟨rfl, q2⟩ | ⟨rfl, q2⟩
    · exact rest q2
    · exact wpAny_pure ⟨Z1, σ1, z.trans z1, M1, q2⟩
    · exact wpAny_pure ⟨Z1, σ1, z.trans z1, M1, q2⟩
    · exact rest q2

end Mine

namespace Mine
set_option tactic.hygienic false
set_option genSizeOfSpec false
open PySem PySem.W PyProof.Rows PySem.Calls
set_option maxRecDepth 100000
variable {B : Base} {X X' : Fx} {P P' Z : PM} {own own1 : Addr → Tag} {m m' : Lo} {σ : AH} {s : Shared} {sc : Scope} {T : EvT}

theorem Mt.toks {t : Nat} (M : Mw B X P Z own m σ s) : Mt B X P Z m σ { s with toks := t } := ⟨own, M.grow (fun zz zz e => e) rfl rfl⟩
noncomputable def IsB (Q : QB) : QV := fun v σ => ∃ b, v = .bool b ∧ Q b σ
/-- The evaluation of a chain of comparisons, for its value and for its truth. -/
theorem chain_sound (S : Snd B T X sc) (hu : X.A.units + 200 < cLine) {pos : Pos} (hb : BaseIn B P) : ∀ (ops : List CmpOp) (es : List Expr) {Z Z0 : PM} {σ : AH} {s : Shared} {Q : QB} {v : V} {u : Value}, Zle Z0 Z → Mt B X P Z m σ s → RV Z u v → chainP T sc m v ops es σ Q →
    wpAny (model B.prog B.w) X.A (compareChain pos u ops (markedEach ops es (evalEach es X.env))) (PoV B X P Z0 m (IsB Q)) (fun zz zz => False) s ∧
    wpAny (model B.prog B.w) X.A (testChain pos u ops (markedEach ops es (evalEach es X.env))) (PoB B X P Z0 m Q) (fun zz zz => False) s
  | [op], [e], Z, Z0, σ, s, Q, v, u, z, M, r, h => by
    obtain ⟨hm, h⟩ := chk.out h
    have e1 : markedEach [op] [e] (evalEach [e] X.env) = [eval e X.env] :=
      congrArg (fun x => [x]) (markedBehindIn_of_false (by simpa using hm))
    rw [e1]
    refine ⟨?_, ?_⟩
    · show wpAny _ _ (do
        let rv ← holding [u] (eval e X.env)
        standAt pos
        operate [u, rv] (compareOp op u rv)) _ _ _
      exact wpAny_bind (wpAny_holding (S.go h hb M fun u' s1 Z1 w σ1 z1 ⟨own, M1⟩ r1 q1 => wpAny_bind (wpAny_standAt (wpAny_operating
        (cmp_sound hu M1 (r.mono z1) r1 q1 fun b t q => ⟨Z1, .bool b, σ1, z.trans z1, .toks M1, rfl, b, rfl, q⟩)))))
    · show wpAny _ _ (do
        let rv ← holding [u] (eval e X.env)
        standAt pos
        let c ← operate [u, rv] (compareOp op u rv)
        holding [c] (truthy c)) _ _ _
      exact wpAny_bind (wpAny_holding (S.go h hb M fun u' s1 Z1 w σ1 z1 ⟨own, M1⟩ r1 q1 => wpAny_bind (wpAny_standAt (wpAny_bind (wpAny_operating
        (cmp_sound hu M1 (r.mono z1) r1 q1 fun b t q => wpAny_holding (wpAny_truthy_bool ⟨Z1, σ1, z.trans z1, .toks M1, q⟩)))))))
  | op :: op2 :: ops, e :: e2 :: es, Z, Z0, σ, s, Q, v, u, z, M, r, h => by
    have h : T.ev sc e m σ fun w σ => cmpP op v w σ fun b => cnd b (chainP T sc m w (op2 :: ops) (e2 :: es) σ Q) (Q false σ) := h
    have e1 : markedEach (op :: op2 :: ops) (e :: e2 :: es) (evalEach (e :: e2 :: es) X.env) = eval e X.env :: markedEach (op2 :: ops) (e2 :: es) (evalEach (e2 :: es) X.env) := rfl
    rw [e1]
    refine ⟨?_, ?_⟩
    · show wpAny _ _ (do
        let rv ← holding [u] (eval e X.env)
        standAt pos
        let c ← holding [u, rv] (compareOp op u rv)
        release [u, rv] [c]
        if ← holding [c, rv] (truthy c) then compareChain pos rv (op2 :: ops) (markedEach (op2 :: ops) (e2 :: es) (evalEach (e2 :: es) X.env)) else pure c) _ _ _
      refine wpAny_bind (wpAny_holding (S.go h hb M fun u' s1 Z1 w σ1 z1 ⟨own, M1⟩ r1 q1 => wpAny_bind (wpAny_standAt (wpAny_bind (wpAny_holding
        (cmp_sound hu M1 (r.mono z1) r1 q1 fun b t q => wpAny_bind (wpAny_release' (wpAny_bind (wpAny_holding (wpAny_truthy_bool ?_)))))))))) 
      rcases cnd.out q with ⟨rfl, q2⟩ | ⟨rfl, q2⟩
      · exact (chain_sound S hu hb (op2 :: ops) (e2 :: es) (z.trans z1) (.toks M1) r1 q2).1
      · exact wpAny_pure ⟨Z1, .bool false, σ1, z.trans z1, .toks M1, rfl, false, rfl, q2⟩
    · show wpAny _ _ (do
        let rv ← holding [u] (eval e X.env)
        standAt pos
        let c ← holding [u, rv] (compareOp op u rv)
        release [u, rv] [c]
        if ← holding [c, rv] (truthy c) then testChain pos rv (op2 :: ops) (markedEach (op2 :: ops) (e2 :: es) (evalEach (e2 :: es) X.env)) else pure false) _ _ _
      refine wpAny_bind (wpAny_holding (S.go h hb M fun u' s1 Z1 w σ1 z1 ⟨own, M1⟩ r1 q1 => wpAny_bind (wpAny_standAt (wpAny_bind (wpAny_holding
        (cmp_sound hu M1 (r.mono z1) r1 q1 fun b t q => wpAny_bind (wpAny_release' (wpAny_bind (wpAny_holding (wpAny_truthy_bool ?_))))))))))
      rcases cnd.out q with ⟨rfl, q2⟩ | ⟨rfl, q2⟩
      · exact (chain_sound S hu hb (op2 :: ops) (e2 :: es) (z.trans z1) (.toks M1) r1 q2).2
      · exact wpAny_pure ⟨Z1, σ1, z.trans z1, .toks M1, q2⟩
  | [], _, _, _, _, _, _, _, _, _, _, _, h => h.elim
  | [_], [], _, _, _, _, _, _, _, _, _, _, h => h.elim
  | [_], _ :: _ :: _, _, _, _, _, _, _, _, _, _, _, h => h.elim
  | _ :: _ :: _, [], _, _, _, _, _, _, _, _, _, _, h => h.elim
  | _ :: _ :: _, [_], _, _, _, _, _, _, _, _, _, _, h => h.elim

theorem ev_compare {l : Expr} {ops : List CmpOp} {es : List Expr} {pos : Pos} {Q : QV} (S : Snd B T X sc) (hu : X.A.units + 200 < cLine)
    (h : T.ev sc l m σ (kCh T sc m ops es (kBl Q))) : Ev B X (eval (.Compare l ops es pos) X.env) m σ Q := by
  intro P Z s hb M
  show wpAny _ _ (do compareChain pos (← eval l X.env) ops (markedEach ops es (evalEach es X.env))) _ _ _
  refine wpAny_bind (S.go h hb M fun u s1 Z1 v σ1 z1 M1 r1 q1 => wpAny_mono (chain_sound S hu hb ops es z1 M1 r1 q1).1 (fun u' s2 ⟨Z2, v2, σ2, z2, M2, r2, q2⟩ => ?_) fun zz zz x => x)
  obtain ⟨b, rfl, q2⟩ := q2
  exact ⟨Z2, _, σ2, z2, M2, r2, q2⟩

theorem ts_sound {e : Expr} {Q : QB} (S : Snd B T X sc) (hu : X.A.units + 200 < cLine) (h : tsStep T sc e m σ Q) : EvB B X (isTrue e X.env (eval e X.env)) m σ Q := by
  intro P Z s hb M
  have plain : (∀ env whole, isTrue e env whole = (do let v ← whole; standAt e.pos; holding [v] (truthy v))) → (T.ev sc e m σ (kTr Q)) → wpAny (model B.prog B.w) X.A (isTrue e X.env (eval e X.env)) (PoB B X P Z m Q) (fun zz zz => False) s := fun he h =>
    isTrue_plain (S.go h hb M fun u s1 Z1 v σ1 z1 ⟨own, M1⟩ r1 q1 => truth_sound M1 r1 q1 fun b t q => ⟨Z1, σ1, z1, .toks M1, q⟩) (he _ _)
  cases e with
  | BoolOp op es p => exact all_sound S hb _ (.refl Z) M h
  | IfExp t a b p =>
    refine isTrue_IfExp ((S.ts _ _ _ _ h).use hb M fun c s1 Z1 σ1 z1 M1 q1 => ?_)
    rcases cnd.out q1 with ⟨rfl, q⟩ | ⟨rfl, q⟩ <;> exact S.hereT q hb z1 M1
  | Compare l ops es p =>
    show wpAny _ _ (do testChain p (← eval l X.env) ops (markedEach ops es (evalEach es X.env))) _ _ _
    exact wpAny_bind (S.go h hb M fun u s1 Z1 v σ1 z1 M1 r1 q1 => (chain_sound S hu hb ops es z1 M1 r1 q1).2)
  | UnaryOp op x p =>
    cases op with
    | Not => exact isTrue_not ((S.ts _ _ _ _ h).use hb M fun b s1 Z1 σ1 z1 M1 q1 => ⟨Z1, σ1, z1, M1, q1⟩)
    | _ => exact plain (fun zz zz => rfl) h
  | _ => exact plain (fun zz zz => rfl) h

end Mine

namespace Mine
set_option tactic.hygienic false
set_option genSizeOfSpec false
open PySem PySem.W PyProof.Rows PySem.Calls
set_option maxRecDepth 100000
variable {B : Base} {X X' : Fx} {P P' Z : PM} {own own1 : Addr → Tag} {m m' : Lo} {σ : AH} {s : Shared} {sc : Scope} {T : EvT}

theorem slice_sound {value slice : Expr} {l : Addr} {us : Array Value} {vl vu vk : Value} {lo hi st : Option Int} {vs' : List V} {ops : List Value} {Q : QV} (M : Mw B X P Z own m σ s) (hl : s.heap.IsList l us) (hs : us.size ≤ lineOf)
    (pl : IsPart vl lo) (pu : IsPart vu hi) (pk : IsPart vk st) (h0 : st ≠ some 0) (r : RVs Z (slicePick us lo hi st).toList vs') (q : newListP vs' σ Q)
    (hsub : subscripted slice false (.ref l) (.ref s.heap.objs.size) = operate ops (getItem (.ref l) (.ref s.heap.objs.size))) :
    wpAny (model B.prog B.w) X.A (subscriptTail value slice (.ref l) (.ref s.heap.objs.size)) (PoV B X P Z m Q) (fun zz zz => False) { s with heap := s.heap.push { cls := .type "slice", data := .fields #[vl, vu, vk] } } := by
  have M1 := M.grow (s' := { s with heap := s.heap.push { cls := .type "slice", data := .fields #[vl, vu, vk] } }) (fun b o e => Heap.get?_push_of_some _ e) rfl rfl
  have hl' := hl.push (h := s.heap) { cls := .type "slice", data := .fields #[vl, vu, vk] }
  refine tail_builtin (Heap.IsList.typeIs (s := { s with heap := s.heap.push { cls := .type "slice", data := .fields #[vl, vu, vk] } }) hl') list_getitem_lookup
    (wpAny_getItem_list_slice hl' (Heap.IsSliceOf.new ..) pl pu pk h0 ?_ hs) hsub
  exact newList_sound M1 (Heap.get?_push_size _ rfl) (fun b o e => Heap.get?_push_of_some _ e) rfl rfl (Nat.le_trans (slicePick_size_le us lo hi st) hs) r q

theorem flLook {v : V} {k : List V → Prop} {u : Value} (M : Mw B X P Z own m σ s) (r : RV Z u v) (h : lkP σ v fun v => flP v k) : ∃ vs, LL s.heap Z u vs ∧ k vs := by
  obtain ⟨vs, e, q⟩ := h.look.out
  exact ⟨vs, look_list M e r, q⟩
theorem ev_rev {o : Expr} {k : Nat} {p1 p2 p3 pos : Pos} {Q : QV} (h : Ev B X (eval o X.env) m σ fun v σ => lkP σ v fun v => flP v fun vs => newListP vs.reverse σ Q) :
    Ev B X (eval (.Subscript o (.Slice none none (some (.UnaryOp .USub (.Constant (.int 1) k p1) p2)) p3) pos) X.env) m σ Q := by
  intro P Z s hb M
  refine Subscript_ (h.use hb M fun u s1 Z1 v σ1 z1 ⟨own, M1⟩ r1 q1 => wpAny_Slice ?_)
  rw [evalPart_none, evalPart_some]
  refine wpAny_pure (wpAny_pure (UnaryOp_ (wpAny_Constant_int (PyProof.Rows.neg_int ?_))))
  obtain ⟨vs, ⟨a, us, rfl, hl, hs, rs⟩, q⟩ := flLook M1 r1 q1
  refine wpAny_mono (slice_sound (s := { s1 with toks := s1.toks + 1 + 1 }) (ops := [.ref a, .ref s1.heap.objs.size]) (M1.grow (fun b o e => e) rfl rfl) hl hs .none .none (.int (-1) _) (by simp) (vs' := vs.reverse) ?_ q rfl) (fun u s' h => h.up z1) fun zz zz x => x
  rw [krv_pick]; exact rs.reverse

theorem ev_upto {o : Expr} {i : Int} {k : Nat} {p1 p3 pos : Pos} {Q : QV} (h : Ev B X (eval o X.env) m σ fun v σ => lkP σ v fun v => flP v fun vs => 0 ≤ i ∧ i < 1000 ∧ newListP (vs.take i.toNat) σ Q) :
    Ev B X (eval (.Subscript o (.Slice none (some (.Constant (.int i) k p1)) none p3) pos) X.env) m σ Q := by
  intro P Z s hb M
  refine Subscript_ (h.use hb M fun u s1 Z1 v σ1 z1 ⟨own, M1⟩ r1 q1 => wpAny_Slice ?_)
  rw [evalPart_none, evalPart_some]
  refine wpAny_pure (wpAny_Constant_int (wpAny_pure ?_))
  obtain ⟨vs, ⟨a, us, rfl, hl, hs, rs⟩, h0, _, q⟩ := flLook M1 r1 q1
  refine wpAny_mono (slice_sound (s := { s1 with toks := s1.toks + 1 }) (ops := [.ref s1.heap.objs.size, .ref a]) (M1.grow (fun b o e => e) rfl rfl) hl hs .none (.int i _) .none (by simp) (vs' := vs.take i.toNat) ?_ q rfl) (fun u s' h => h.up z1) fun zz zz x => x
  have : i = ((i.toNat : Nat) : Int) := by lia
  rw [this, slicePick_upto']
  exact rs.take _

theorem Mw.above (hB : BaseOk B) (hb : BaseIn B P) (M : Mw B X P Z own m σ s) : (s.heap.objs.size == sysModules) = false := by
  have h : 3 < s.heap.objs.size := (hB.g.keeps (M.base hb)).lt
  rw [beq_eq_false_iff_ne]
  intro e
  rw [e] at h
  exact absurd h (by decide)
theorem guard_base {o : Obj} (hb : BaseIn B P) (M : Mw B X P Z own m σ s) : BaseIn B (zput P s.heap.objs.size o) := fun a o e => by
  unfold zput; split
  · rename_i q; exact nomatch (q ▸ fresh_none (Nat.le_refl _) : s.heap.get? a = none).symm.trans (M.base hb _ _ e)
  · exact hb a o e
theorem Mw.notOb {n : Addr} {t : Tag} (M : Mw B X P Z own m σ s) (ht : own n = t) (h : t ≠ .obj) : σ n = none := by
  cases e : σ n with
  | none => rfl
  | some o => exact absurd (ht.symm.trans (M.ob n o e).1) h
/-- The guarded object is finished and owned. -/
theorem close_sound {n : Addr} {o : Obj} {o' : O} {Q : QV} {Z0 : PM} {h' : Heap} {t : Nat} (M : Mw B X (zput P n o) Z own m σ s) (hp : P n = none) (hc : X.wr = false → ∀ x c, X.env.cells.lookup x = some c → ∃ o, P c = some o)
    (hz : Zle Z0 Z) (hs : Heap.SameBut n s.heap h') (hr : ∀ own, RO B Z h' own n o') (q : ∀ n, σ n = .none → Q (.ref n) (put σ n o')) : PoV B X P Z0 m Q (.ref n) { s with heap := h', toks := t } := by
  have tn : own n = .prot := (M.kp n _ zput_self).2
  have sn : σ n = none := M.notOb tn nofun
  have M1 : Mw B X P Z (tput own n .obj) m σ s := M.unguard hp hc
  have kk : ∀ b ob, b ≠ n → s.heap.get? b = some ob → h'.get? b = some ob := fun b ob q e => (hs.2 b q).trans e
  have M2 : Mw B X P Z (tput own n .obj) m σ { s with heap := h', toks := t } := M1.chgd (fun b ob h1 zz zz e => kk b ob (by rintro rfl; exact h1 tput_self) e) (fun b ob e => by
    have z := M1.ob b ob e
    refine ⟨z.1, z.2.keep (.refl Z) fun c oc ec hc => ⟨kk c oc ?_ ec, rfl⟩⟩
    rintro rfl
    rcases hc with rfl | hc
    · rw [sn] at e; cases e
    · exact nomatch tput_self.symm.trans hc) rfl rfl
  exact ⟨Z, .ref n, _, hz, ⟨_, M2.own_put (hr _) tput_self⟩, rfl, q n sn⟩

inductive RPs (Z : PM) : List (Value × Value) → List V → Prop
  | nil : RPs Z [] []
  | cons {u u' v v' us ws} (r : RV Z u v) (r' : RV Z u' v') (rs : RPs Z us ws) : RPs Z ((u, u') :: us) (v :: v' :: ws)
inductive PoP (B : Base) (X : Fx) (P Z : PM) (m : Lo) (n : Nat) (Q : QL) (us : List (Value × Value)) (s' : Shared) : Prop
  | mk (hl : us.length = n) (Z' : PM) (ws : List V) (σ' : AH) (a : Zle Z Z') (b : Mt B X P Z' m σ' s') (c : RPs Z' us ws) (d : Q ws σ')
theorem pairs_sound (S : Snd B T X sc) (hb : BaseIn B P) {pos : Pos} : ∀ (ks : List (Option Expr)) (vs : List Expr) {es : List Expr}, dcOf ks vs = some es →
    ∃ pairs : List (Sem Value × Sem Value), ((evalEachOpt ks X.env).zip ((evalEach vs X.env).map fun v => do let x ← v; standAt pos; pure x) = pairs.map fun p => (some p.1, p.2)) ∧ pairs.length = ks.length ∧
      ∀ {Z Z0 : PM} {σ : AH} {s : Shared} {Q : QL}, Zle Z0 Z → Mt B X P Z m σ s → evsP T sc m es σ Q → wpAny (model B.prog B.w) X.A (evalPairs pairs) (PoP B X P Z0 m ks.length Q) (fun zz zz => False) s
  | [], [], es, h => by
    cases h
    exact ⟨[], rfl, rfl, fun {Z Z0 σ s Q} z M h => wpAny_pure ⟨rfl, Z, [], σ, z, M, .nil, h⟩⟩
  | [], _ :: _, es, h => nomatch h
  | none :: _, _, es, h => by cases ‹List Expr› <;> exact nomatch h
  | some _ :: _, [], es, h => nomatch h
  | some k :: ks, v :: vs, es, h => by
    obtain ⟨es', h1, rfl⟩ := Option.map_eq_some_iff.mp (show (dcOf ks vs).map (fun es => k :: v :: es) = some es from h)
    obtain ⟨pairs, e1, e2, go⟩ := pairs_sound S hb (pos := pos) ks vs h1
    refine ⟨(eval k X.env, do let x ← eval v X.env; standAt pos; pure x) :: pairs, congrArg (List.cons _) e1, congrArg Nat.succ e2, fun {Z Z0 σ s Q} z M h => ?_⟩
    have h : T.ev sc k m σ fun a σ => T.ev sc v m σ fun b σ => evsP T sc m es' σ (kCons b (kCons a Q)) := h
    refine evalPairs_cons (S.go h hb M fun u1 s1 Z1 a σ1 z1 M1 r1 q1 => wpAny_bind (S.go q1 hb M1 fun u2 s2 Z2 b σ2 z2 M2 r2 q2 => wpAny_bind (wpAny_standAt (wpAny_pure (wpAny_mono (go (.refl Z2) M2 q2) (fun us s3 ⟨hl, Z3, ws, σ3, z3, M3, r3, q3⟩ => ?_) fun zz zz x => x)))))
    exact ⟨congrArg Nat.succ hl, Z3, a :: b :: ws, σ3, z.trans (z1.trans (z2.trans z3)), M3, .cons (r1.mono (z2.trans z3)) (r2.mono z3) r3, q3⟩
theorem carries_of : ∀ {us : List (Value × Value)} {ws : List V} {kvs : List (Int × V)}, RPs Z us ws → pairsOf ws = some kvs → ∃ xs, Carries (intKind B.prog B.w) us xs ∧ RD Z xs kvs ∧ xs.map (·.1) = kvs.map (·.1)
  | _, _, _, .nil, h => by cases h; exact ⟨[], trivial, rfl, rfl⟩
  | _, _, kvs, .cons (v := v) (ws := ws) r r' rs, h => by
    cases v with
    | int k =>
      obtain ⟨kvs', h1, rfl⟩ := Option.map_eq_some_iff.mp (show (pairsOf ws).map ((k, _) :: ·) = some kvs from h)
      obtain ⟨t, rfl⟩ := r.int
      obtain ⟨xs, a, b, c⟩ := carries_of rs h1
      exact ⟨(k, _) :: xs, ⟨ik B k t, rfl, a⟩, ⟨_, _, rfl, r', b⟩, congrArg (List.cons k) c⟩
    | _ => exact nomatch h

theorem ev_dict {ks : List (Option Expr)} {vs : List Expr} {pos : Pos} {Q : QV} (hB : BaseOk B) (S : Snd B T X sc)
    (h : chk (Nat.blt ks.length 10) (optQ (dcOf ks vs) fun es => evsP T sc m es σ fun ws σ => optQ (pairsOf ws) fun kvs => (kvs.map (·.1)).Nodup ∧ ∀ n, σ n = .none → Q (.ref n) (put σ n (.dict kvs)))) : Ev B X (eval (.Dict ks vs pos) X.env) m σ Q := by
  intro P Z s hb ⟨own, M⟩
  obtain ⟨hl, h⟩ := chk.out h
  have hl : ks.length < 10 := Nat.le_of_ble_eq_true hl
  obtain ⟨es, hes, h⟩ := h.out
  have hn : s.heap.get? s.heap.objs.size = none := fresh_none (Nat.le_refl _)
  by_cases h0 : ks = []
  · subst h0
    cases vs with
    | cons _ _ => exact nomatch hes
    | nil =>
      cases hes
      refine wpAny_Dict_empty ?_
      obtain ⟨hs, M1⟩ := M.alloc (s' := { s with heap := s.heap.push { cls := .type "dict", data := .dict #[] } }) (own' := tput own s.heap.objs.size .obj) (o := .dict []) hn
        (fun b ob e => ⟨Heap.get?_push_of_some _ e, tput_old hn e⟩) ⟨⟨M.above hB hb, Nat.zero_le _⟩, [], Heap.DictOf.new _, rfl⟩ tput_self rfl rfl
      exact ⟨Z, .ref _, _, .refl Z, ⟨_, M1⟩, rfl, h.2 _ hs⟩
  · obtain ⟨pairs, e1, e2, go⟩ := pairs_sound S (guard_base (o := emptyDict) hb M) (pos := pos) ks vs hes
    have M1 := M.guard (s' := { s with heap := s.heap.push { cls := .type "dict", data := .dict #[] } }) hn (Heap.get?_push_size _ rfl) (fun b o e => Heap.get?_push_of_some _ e) rfl rfl
    refine wpAny_Dict_pairs (knd := intKind B.prog B.w) (pairs := pairs) e1 (fun q => h0 (List.eq_nil_of_length_eq_zero (e2.symm.trans (congrArg List.length q)))) (by lia)
      (wpAny_mono (go (.refl Z) ⟨_, M1⟩ h) (fun us s1 ⟨hu, Z1, ws, σ1, z1, ⟨own1, M2⟩, rp, q⟩ => ?_) fun zz zz x => x)
    obtain ⟨kvs, hk, nd, q⟩ := q.out
    obtain ⟨xs, ca, rd, ek⟩ := carries_of (B := B) (Z := Z1) rp hk
    refine ⟨xs, ca, ?_, fun h' hd hs => ?_⟩
    · exact ⟨_, #[], 0, (M2.kp _ emptyDict zput_self).1, ⟨rfl, rfl, rfl⟩, rfl, (fun e he => by simp at he), .nil, by simp⟩
    · rw [merged_nil_of_nodup xs (ek ▸ nd)] at hd
      have lk : kvs.length ≤ lineOf := by
        rw [← rd.length, ca.length, hu]
        exact Nat.le_of_lt (Nat.lt_trans hl (by decide))
      exact close_sound (o' := .dict kvs) M2 (M.p_none hn) M.cellsIn z1 hs (fun zz => ⟨⟨M.above hB hb, lk⟩, xs, hd, rd⟩) q

theorem ev_set1 {e : Expr} {pos : Pos} {Q : QV} {room} (hB : BaseOk B) (hX : Xok B X room) (S : Snd B T X sc)
    (h : T.ev sc e m σ fun v σ => intP v fun i => ∀ n, σ n = .none → Q (.ref n) (put σ n (.set [i]))) : Ev B X (eval (.Set [e] 0 pos) X.env) m σ Q := by
  intro P Z s hb ⟨own, M⟩
  have hn : s.heap.get? s.heap.objs.size = none := fresh_none (Nat.le_refl _)
  rw [arm_eval_Set]
  refine wpAny_bind (wpAny_standAt ?_)
  refine wpAny_bind (kds_main (M.kin hB hb) hX.hcode fun b => ?_)
  rw [starEach_cons (S.noStar h)]
  have hr : displayRoad 0 [e] = .oneByOne := rfl
  rw [hr]
  refine kds_core (ts := [do let v ← eval e X.env; standAt pos; pure v]) rfl rfl (show 1 ≤ 30 by decide) rfl fun led => ?_
  have M1 := M.guard (s' := { s with heap := s.heap.push { cls := .type "set", dict := none, data := .set #[] 0 (.fresh 0 0 led) } }) hn (Heap.get?_push_size _ rfl) (fun b o e => Heap.get?_push_of_some _ e) rfl rfl
  refine wpAny_evalAll_cons (wpAny_bind (S.go h (guard_base hb M) ⟨_, M1⟩ fun u1 s1 Z1 v σ1 z1 ⟨own1, M1⟩ r1 q1 => wpAny_bind (wpAny_standAt (wpAny_pure (wpAny_evalAll_nil ?_)))))
  obtain ⟨i, rfl, q⟩ := intP.out q1
  obtain ⟨t, rfl⟩ := r1.int
  have z := M1.kp s.heap.objs.size { cls := .type "set", dict := none, data := .set #[] 0 (.fresh 0 0 led) } zput_self
  have hS : s1.heap.SetOf (intKind B.prog B.w) s.heap.objs.size (fun zz => false) 0 := ⟨_, #[], 0, _, z.1, ⟨rfl, rfl, rfl⟩, rfl, fun e he => by simp at he, fun k => by simp, by decide, by rfl, rfl⟩
  refine kds_fill_cons ?_
  unfold setAdd
  refine wpAny_holding (wpAny_bind ((intKind B.prog B.w).pyHash (ik B i t) ?_))
  refine wpAny_setAddHashed_of (s := { s1 with toks := s1.toks + 1 }) (ik B i t) rfl hS (by decide) fun h' hsb hS' => kds_fill_nil rfl ?_
  have eS : (fun k' => (fun zz => false) k' || decide (k' = i)) = fun k' => decide (k' ∈ [i]) := by funext k'; simp
  rw [eS] at hS'
  exact close_sound (s := s1) (o' := .set [i]) M1 (M.p_none hn) M.cellsIn z1 hsb (fun zz => ⟨⟨by simp, by simp⟩, hS'⟩) q

end Mine

namespace Mine
set_option tactic.hygienic false
set_option genSizeOfSpec false
open PySem PySem.W PyProof.Rows PySem.Calls
set_option maxRecDepth 100000
variable {B : Base} {X X' : Fx} {P P' Z : PM} {own own1 : Addr → Tag} {m m' : Lo} {σ : AH} {s : Shared} {sc : Scope} {T : EvT} {call : Calls}

theorem stars_of : ∀ {es : List Expr} {env : Env} {pos : Pos}, es.all notStar = true → ((backTo pos (starEach es env)).any (·.1)) = false ∧ ((backTo pos (starEach es env)).all (fun x => !x.1)) = true ∧ (backTo pos (starEach es env)).length = es.length
  | [], _, _, _ => ⟨rfl, rfl, rfl⟩
  | e :: es, env, pos, h => by
    obtain ⟨h1, h2⟩ := and_out h
    rw [starEach_cons h1]
    have ih := stars_of (es := es) (env := env) (pos := pos) h2
    exact ⟨ih.1, ih.2.1, congrArg Nat.succ ih.2.2⟩

theorem args_sound {f : Value} {es : List Expr} {pos : Pos} {env : Env} {M : Model} {A : Around} {E : Value → Shared → Prop} {Q : Args → Shared → Prop} (hs : es.all notStar = true)
    (h : wpAny M A (spliced (backTo pos (starEach es env))) (fun vs s' => Q ⟨vs, []⟩ s') E s) : wpAny M A (evalArgs f true (backTo pos (starEach es env)) []) Q E s := by
  cases es with
  | nil =>
    unfold evalArgs
    show wpAny M A (spliced [] >>= _) Q E s
    refine wpAny_bind (wpAny_mono h (fun vs s' h' => ?_) fun zz zz x => x)
    exact wpAny_bind (wpAny_pure (wpAny_holding (wpAny_bind (wpAny_pure (wpAny_bind (wpAny_pure (wpAny_pure h')))))))
  | cons e es =>
    rw [starEach_cons (and_out hs).1] at h ⊢
    exact evalArgs_plain h

theorem RVs.one {us : List Value} {v : V} (r : RVs Z us [v]) : ∃ u, us = [u] ∧ RV Z u v := by
  obtain ⟨u, us', rfl, r, e⟩ := r
  cases (show us' = [] from e)
  exact ⟨u, rfl, r⟩
theorem RVs.two {us : List Value} {v w : V} (r : RVs Z us [v, w]) : ∃ u u', us = [u, u'] ∧ RV Z u v ∧ RV Z u' w := by
  obtain ⟨u, us', rfl, r, e⟩ := r
  obtain ⟨u', rfl, r'⟩ := RVs.one e
  exact ⟨u, u', rfl, r, r'⟩

theorem ints_of : ∀ {us : List Value} {vs : List V} {is : List Int}, RVs Z us vs → intsOf vs = some is → IntsAre us is
  | _, [], _, r, h => by cases h; cases (show _ = [] from r); exact .nil
  | _, v :: vs, is, r, h => by
    obtain ⟨u, us', rfl, r, rs⟩ := r
    cases v with
    | int i =>
      obtain ⟨is', h1, rfl⟩ := Option.map_eq_some_iff.mp (show (intsOf vs).map (i :: ·) = some is from h)
      obtain ⟨t, rfl⟩ := r.int
      exact .cons _ _ (ints_of rs h1)
    | _ => exact nomatch h

theorem putSet (xs : List Int) (i : Int) : (fun k' => decide (k' ∈ xs) || decide (k' = i)) = fun k' => decide (k' ∈ (if i ∈ xs then xs else xs ++ [i])) := by
  funext k'
  by_cases h : i ∈ xs
  · rw [if_pos h]
    by_cases q : k' = i
    · subst q; simp [h]
    · simp [q]
  · rw [if_neg h]; simp

theorem append_sound {a : Addr} {xs : List V} {w : V} {us : List Value} {Q : QV} (M : Mw B X P Z own m σ s) (e : σ a = some (.list xs)) (rs : RVs Z us [w]) (hl : xs.length < lineOf) (q : Q .none (put σ a (.list (xs ++ [w])))) :
    wpAny (model B.prog B.w) X.A (PySem.call (.builtin "list.append") (.ref a :: us)) (PoV B X P Z m Q) (fun zz zz => False) s := by
  obtain ⟨ta, us1, pl, hs, rx⟩ := M.ob _ _ e
  obtain ⟨u1, rfl, r1⟩ := rs.one
  have e1 := rx.length
  rw [Array.length_toList] at e1
  refine wpAny_list_append_plain pl (fun h' pl' hsb => ?_) (by rw [← lineOf_eq]; lia)
  refine ⟨Z, .none, _, .refl Z, Mt.upd (s' := { s with heap := h' }) M e (fun b ob hb zz eb => (hsb.2 b hb).trans eb) (o' := .list (xs ++ [w])) ⟨us1.push u1, pl', by rw [Array.size_push, e1]; exact hl, ?_⟩, rfl, q⟩
  rw [Array.toList_push]
  exact rx.append (.cons r1 .nil)

theorem pop_sound {a : Addr} {xs : List V} {Q : QV} (M : Mw B X P Z own m σ s) (e : σ a = some (.list xs)) {y : V} (hy : xs.getLast? = some y) (q : Q y (put σ a (.list xs.dropLast))) :
    wpAny (model B.prog B.w) X.A (PySem.call (.builtin "list.pop") [.ref a]) (PoV B X P Z m Q) (fun zz zz => False) s := by
  obtain ⟨ta, us1, ⟨n, pl⟩, hs, rx⟩ := M.ob _ _ e
  have e1 := rx.length
  obtain ⟨ys, rfl⟩ : ∃ ys, xs = ys ++ [y] := List.getLast?_eq_some_iff.mp hy
  obtain ⟨u1, hu1, r1⟩ := rx.get (i := ys.length) (v := y) List.getElem?_concat_length
  rw [List.length_append, List.length_singleton] at e1
  have e3 : us1.size - 1 = ys.length := by rw [← Array.length_toList, e1]; rfl
  have e4 : us1.toList = us1.toList.take ys.length ++ [u1] := by
    obtain ⟨hlt, hu1⟩ := List.getElem?_eq_some_iff.mp hu1
    have := List.take_append_getElem (l := us1.toList) (i := ys.length) hlt
    rw [hu1] at this
    rw [this, List.take_of_length_le (Nat.le_of_eq e1)]
  refine call_meets F.slot_list_pop ⟨_, pl, rfl⟩ F.entry_list_pop (F.args_list_pop_1 _) (MeetsSeq.list_pop_last a us1 n u1 (by rw [e3, ← Array.getElem?_toList]; exact hu1) hs) ⟨pl, ?_⟩
  have hl : (us1.toList.take ys.length).length = ys.length := by rw [List.length_take, e1]; lia
  have e5 : (us1.eraseIdxIfInBounds (us1.size - 1)).toList = us1.toList.take ys.length := by
    rw [e3]
    unfold Array.eraseIdxIfInBounds
    rw [dif_pos (by rw [← Array.length_toList, e1]; exact Nat.lt_succ_self _), Array.toList_eraseIdx, e4, List.eraseIdx_append_of_length_le (Nat.le_of_eq hl)]
    simp [hl]
  have rt : RVs Z (us1.toList.take ys.length) ys := by have := rx.take ys.length; rwa [List.take_left] at this
  refine ⟨Z, y, _, .refl Z, Mt.upd (s' := { s with heap := s.heap.update a _ }) M e (fun b ob hb zz eb => (Heap.get?_update_other _ _ (Ne.symm hb)).trans eb) (o' := .list ys) ⟨us1.eraseIdxIfInBounds (us1.size - 1), ⟨_, Heap.get?_update_self (Obj.mapSeq fun xs => xs.eraseIdxIfInBounds (us1.size - 1)) pl (by simp [Obj.mapSeq, Obj.isFreed])⟩, ?_, e5 ▸ rt⟩, r1, (List.dropLast_concat (l₁ := ys) (b := y)) ▸ q⟩
  rw [← Array.length_toList, e5, hl, ← Nat.add_sub_cancel (n := ys.length) (m := 1), ← e1, Array.length_toList]; lia

theorem setadd_sound {a : Addr} {xs : List Int} {i : Int} {t : Tok} {Q : QV} (M : Mw B X P Z own m σ s) (e : σ a = some (.set xs)) (hl : xs.length < 1000) (q : Q .none (put σ a (.set (if i ∈ xs then xs else xs ++ [i])))) :
    wpAny (model B.prog B.w) X.A (PySem.call (.builtin "set.add") [.ref a, .int i t]) (PoV B X P Z m Q) (fun zz zz => False) s := by
  obtain ⟨ta, ⟨nd, _⟩, hS⟩ := M.ob _ _ e
  have hb : scanBound = 4096 := rfl
  refine call_set_add (ik B i t) rfl hS (by lia) fun h' hsb hS' => ?_
  rw [putSet] at hS'
  have hr : RO B Z h' own a (.set (if i ∈ xs then xs else xs ++ [i])) := by
    by_cases hi : i ∈ xs
    · simp only [if_pos hi, decide_eq_true hi, if_true] at hS' ⊢
      exact ⟨⟨nd, by lia⟩, hS'⟩
    · simp only [if_neg hi, decide_eq_false hi, Bool.false_eq_true, if_false] at hS' ⊢
      refine ⟨⟨List.nodup_append.mpr ⟨nd, by simp, fun a ha b hb => by simp at hb; subst hb; rintro rfl; exact hi ha⟩, by simp; lia⟩, ?_⟩
      rw [List.length_append]; exact hS'
  exact ⟨Z, .none, _, .refl Z, Mt.upd (s' := { s with heap := h', toks := s.toks + 1 }) M e (fun b ob hb zz eb => (hsb.2 b hb).trans eb) hr, rfl, q⟩

noncomputable def mid (x : Str) : String := if x = Str.ofString "append" then "list.append" else if x = Str.ofString "pop" then "list.pop" else if x = Str.ofString "add" then "set.add" else if x = Str.ofString "get" then "dict.get" else "list.count"
theorem isS_out {x : Str} {n : String} (h : isS x n = true) : x = Str.ofString n := of_decide_eq_true h
/-- What a method does, its operands at hand. -/
theorem meth_sound {v : V} {x : Str} {vs : List V} {u : Value} {us : List Value} {Q : QV} (M : Mw B X P Z own m σ s) (r : RV Z u v) (rs : RVs Z us vs) (h : methP v x vs σ Q) :
    wpAny (model B.prog B.w) X.A (PySem.call (.builtin (mid x)) (u :: us)) (PoV B X P Z m Q) (fun zz zz => False) s := by
  cases v with
  | ref a =>
    cases (show u = .ref a from r)
    obtain ⟨o, e, h1⟩ := rd.out h
    clear h r
    cases o with
    | list xs =>
      cases vs with
      | nil =>
        obtain ⟨hx, h1⟩ := chk.out h1
        cases isS_out hx
        cases (show us = [] from rs)
        obtain ⟨y, hy, q⟩ := h1.get.out
        exact pop_sound M e hy q
      | cons w vs =>
        cases vs with
        | nil =>
          obtain ⟨hx, h1⟩ := chk.out h1
          cases isS_out hx
          obtain ⟨hl, q⟩ := ltQ.out h1
          exact append_sound M e rs hl q
        | cons _ _ => exact h1.elim
    | set xs =>
      cases vs with
      | nil => exact h1.elim
      | cons w vs =>
        cases w with
        | int i =>
          cases vs with
          | nil =>
            obtain ⟨hx, h1⟩ := chk.out h1
            cases isS_out hx
            obtain ⟨hl, q⟩ := ltQ.out h1
            obtain ⟨u1, rfl, t, rfl⟩ := rs.one
            exact setadd_sound M e hl q
          | cons _ _ => exact h1.elim
        | _ => exact h1.elim
    | dict kvs =>
      cases vs with
      | nil => exact h1.elim
      | cons w vs =>
        cases w with
        | int k =>
          cases vs with
          | nil => exact h1.elim
          | cons d vs =>
            cases vs with
            | cons _ _ => exact h1.elim
            | nil =>
              obtain ⟨hx, h1⟩ := chk.out h1
              cases isS_out hx
              have q := h1.get
              obtain ⟨ta, ⟨ns, _⟩, us1, hd, rd⟩ := M.ob _ _ e
              obtain ⟨u1, u2, rfl, ⟨t, rfl⟩, r2⟩ := rs.two
              refine call_meetsIn F.slot_dict_get hd.typeIs F.entry_dict_get (F.args_dict_get_3 _ _ _) (meets_dict_get_default (intKind B.prog B.w) a (ik B k t) ns u2) ⟨_, hd.mapOf, Z, _, _, .refl Z, Mt.tok ⟨own, M⟩ rfl, ?_, q⟩
              rcases rd.get (k := k) with ⟨v0, u0, e1, e2, r0⟩ | ⟨e1, e2⟩ <;> rw [e1, e2]
              · exact r0
              · exact r2
        | _ => exact h1.elim
    | inst c fs => exact h1.elim
  | fl xs =>
    cases vs with
    | nil => exact h.elim
    | cons w vs =>
      cases w with
      | int i =>
        cases vs with
        | cons _ _ => exact h.elim
        | nil =>
          obtain ⟨hx, h⟩ := chk.out h
          cases isS_out hx
          obtain ⟨is, hi, q⟩ := h.get.out
          obtain ⟨a, us1, rfl, hl, hs, rx⟩ := M.fl r
          obtain ⟨u1, rfl, t, rfl⟩ := rs.one
          exact count_list_ints (vs := us1.toList) hl (ints_of rx hi) ⟨Z, .int _, _, .refl Z, Mt.tok ⟨own, M⟩ rfl, ⟨_, rfl⟩, q⟩
      | _ => exact h.elim
  | _ => exact h.elim

theorem methOk_sound {v : V} {x : Str} {u : Value} {k : Prop} {R : Value → Shared → Prop} {pos : Pos} {trees} (M : Mw B X P Z own m σ s) (r : RV Z u v) (h : methOk v x σ k)
    (hk : k → wpAny (model B.prog B.w) X.A (callWith pos (.builtin (mid x)) [u] trees []) R (fun zz zz => False) s) : MethodOn B.prog B.w X.A x pos u trees R (fun zz zz => False) s := by
  cases v with
  | ref a =>
    cases (show u = .ref a from r)
    obtain ⟨o, e, h1⟩ := rd.out h
    clear h r
    cases o with
    | list xs =>
      obtain ⟨hx, h1⟩ := chk.out h1
      obtain ⟨_, us, ⟨n, pl⟩, _⟩ := M.ob _ _ e
      have hk := hk h1
      rcases Bool.or_eq_true_iff.mp hx with hx | hx <;> cases isS_out hx
      · exact ⟨"list", "list.append", F.plainAttrs_list, F.slot_list_append, F.type_list_append, ⟨_, pl, rfl⟩, fun b e => by cases e; exact ⟨_, pl, rfl⟩, hk⟩
      · exact ⟨"list", "list.pop", F.plainAttrs_list, F.slot_list_pop, F.type_list_pop, ⟨_, pl, rfl⟩, fun b e => by cases e; exact ⟨_, pl, rfl⟩, hk⟩
    | set xs =>
      obtain ⟨hx, h1⟩ := chk.out h1
      obtain ⟨_, _, hS⟩ := M.ob _ _ e
      have hk := hk h1
      cases isS_out hx
      exact ⟨"set", "set.add", F.plainAttrs_set, F.slot_set_add, F.type_set_add, hS.typeIs, hS.noDict, hk⟩
    | dict xs =>
      obtain ⟨hx, h1⟩ := chk.out h1
      obtain ⟨_, _, us, hd, _⟩ := M.ob _ _ e
      have hk := hk h1
      cases isS_out hx
      exact ⟨"dict", "dict.get", F.plainAttrs_dict, F.slot_dict_get, F.type_dict_get, hd.typeIs, hd.mapOf.noDict, hk⟩
    | inst c fs => exact h1.elim
  | fl vs =>
    obtain ⟨hx, h1⟩ := chk.out h
    have hk := hk h1
    cases isS_out hx
    obtain ⟨a, o, us, ep, rfl, hz, hc, ⟨hdn, hd⟩, _⟩ := r
    have ho := (M.kz _ _ hz).1
    exact ⟨"list", "list.count", F.plainAttrs_list, F.slot_list_count, F.type_list_count, ⟨_, ho, hc⟩, fun b e => by cases e; exact ⟨_, ho, hdn⟩, hk⟩
  | _ => exact h.elim

theorem callWith_any {f : Value} {first : List Value} {es : List Expr} {pos : Pos} {env : Env} {M : Model} {A : Around} {E : Value → Shared → Prop} {R : Value → Shared → Prop} {Pr : Heap → Prop} (hs : es.all notStar = true)
    (hk : ∀ h, Pr h → ∃ k, (k = Keeper.frame ∨ k = Keeper.machine ∨ k = Keeper.boundFrame) ∧ Looks M h (keeperOf f) k)
    (h : wpAny M A (spliced (backTo pos (starEach es env))) (fun vs s' => Pr s'.heap ∧ wpAny M A (PySem.call f (first ++ vs) []) R E s') E s) :
    wpAny M A (callWith pos f first (backTo pos (starEach es env)) []) R E s :=
  callWith_of (P := Pr) (by rw [(stars_of hs).1]; rfl) hk (args_sound hs h)

theorem ev_method {o : Expr} {x : Str} {ap pos : Pos} {args : List Expr} {Q : QV} (S : Snd B T X sc) (hl : ap.endLine = pos.line) (hn : notSuper o = true) (h20 : args.length < 20) (hs : args.all notStar = true)
    (h : T.ev sc o m σ (kMeth T sc m x args Q)) : Ev B X (eval (.Call (.Attribute o x ap) args [] pos) X.env) m σ Q := by
  intro P Z s hb M
  have st := stars_of (env := X.env) (pos := pos) hs
  refine wpAny_Call_method_late (base_notSuper hn) ?_ (by simpa using hl) rfl (S.go h hb M fun u s1 Z1 v σ1 z1 ⟨own, M1⟩ r1 q1 => ?_)
  · rw [st.2.1]
    rw [show backToKw pos (keywordEach [] X.env) = [] from rfl]
    simp
    lia
  · refine methOk_sound M1 r1 q1 fun q2 => callWith_any (Pr := fun zz => True) hs (fun h zz => ⟨.machine, .inr (.inl rfl), Looks.of_pure rfl⟩) (wpAny_mono (evs_sound S hb args ⟨own, M1⟩ q2) (fun us s2 ⟨_, Z2, vs, σ2, z2, ⟨own2, M2⟩, r2, q2⟩ => ⟨trivial, ?_⟩) fun zz zz x => x)
    exact wpAny_mono (meth_sound M2 (r1.mono z2) r2 q2) (fun zz zz h => h.up (z1.trans z2)) fun zz zz x => x

end Mine

namespace Mine
set_option tactic.hygienic false
set_option genSizeOfSpec false
open PySem PySem.W PyProof.Rows PySem.Calls
set_option maxRecDepth 100000
variable {B : Base} {X X' : Fx} {P P' Z : PM} {own own1 : Addr → Tag} {m m' : Lo} {σ : AH} {s : Shared} {sc : Scope} {T : EvT} {G : Str → Option V} {call : Calls}

theorem sortI_perm (is : List Int) : (sortI is).Perm is := List.mergeSort_perm is _
theorem sortI_sorted (is : List Int) : (sortI is).Pairwise (· ≤ ·) :=
  (List.pairwise_mergeSort (le := fun a b : Int => decide (a ≤ b)) (fun a b c h1 h2 => decide_eq_true (Int.le_trans (of_decide_eq_true h1) (of_decide_eq_true h2))) (fun a b => by simp; lia) is).imp of_decide_eq_true
theorem sortI_uniq {a is : List Int} (p : a.Perm is) (s : a.Pairwise (· ≤ ·)) : a = sortI is := lks_uniq (p.trans (sortI_perm is).symm) s (sortI_sorted is)

theorem rvs_ints : ∀ {us : List Value} {is : List Int}, IntsAre us is → RVs Z us (is.map .int)
  | _, _, .nil => rfl
  | _, _, .cons n t r => .cons (v := .int n) ⟨t, rfl⟩ (rvs_ints r)

/-- A frozen list, from what the kit's rules say of a new list. -/
theorem frozen_ints {us : List Value} {is : List Int} {n : Addr} {o : Obj} {e : Nat} {Q : QV} {extra : List (Addr × Obj)} {h' : Heap} {t : Nat} (M : Mw B X P Z own m σ s) (hn : s.heap.get? n = none)
    (F : FrN B X Z m s extra h') (hx : (n, o) ∈ extra) (hc : o.cls = .type "list") (hdn : o.dict = none) (hd : o.data = .seq us.toArray e) (hl : us.length ≤ lineOf) (hi : IntsAre us is) (q : Q (.fl (is.map .int)) σ) : PoV B X P Z m Q (.ref n) { s with heap := h', toks := t } := by
  have M' := (M.tag hn .froz).back (s' := { s with heap := h', toks := t }) F rfl rfl
  obtain ⟨hz, M2⟩ := M'.frz (M.z_none hn) (F.new hx) tput_self
  exact ⟨_, .fl _, σ, hz, ⟨_, M2⟩, ⟨_, o, us.toArray, e, rfl, zput_self, hc, ⟨hdn, hd⟩, hl, rvs_ints hi⟩, q⟩

theorem bools_of : ∀ {us : List Value} {vs : List V} {bs : List Bool}, RVs Z us vs → boolsOf vs = some bs → us = bs.map .bool
  | _, [], _, r, h => by cases h; cases (show _ = [] from r); rfl
  | _, v :: vs, bs, r, h => by
    obtain ⟨u, us', rfl, r, rs⟩ := r
    cases v with
    | bool b =>
      obtain ⟨bs', h1, rfl⟩ := Option.map_eq_some_iff.mp (show (boolsOf vs).map (b :: ·) = some bs from h)
      cases (show u = .bool b from r)
      exact congrArg (List.cons (Value.bool b)) (bools_of rs h1)
    | _ => exact nomatch h

theorem RD.keys : ∀ {us : List (Int × Value)} {kvs : List (Int × V)}, RD Z us kvs → us.map (·.1) = kvs.map (·.1)
  | _, [], rfl => rfl
  | _, (j, v) :: vs, x => by
    obtain ⟨u, us', rfl, r, rs⟩ := x
    exact congrArg (List.cons j) rs.keys

theorem any_get : ∀ bs : List Bool, ((List.range bs.length).any fun i => bs.getD i false) = bs.any id := fun bs => by
  rw [Bool.eq_iff_iff]
  simp only [List.any_eq_true, List.mem_range]
  constructor
  · rintro ⟨i, hi, hb⟩
    exact ⟨bs[i], List.getElem_mem hi, by simpa [List.getD, hi] using hb⟩
  · rintro ⟨b, hb, hb'⟩
    obtain ⟨i, hi, rfl⟩ := List.mem_iff_getElem.mp hb
    exact ⟨i, hi, by simpa [List.getD, hi] using hb'⟩
theorem any_sound {a : Addr} {us1 : Array Value} {bs : List Bool} {Q : QV} (hh : X.A.handled = none) (M : Mw B X P Z own m σ s) (hl : s.heap.IsList a us1) (e1 : us1.toList = bs.map Value.bool) (q : Q (.bool (bs.any id)) σ) :
    wpAny (model B.prog B.w) X.A (PySem.call (.builtin "any") [.ref a]) (PoV B X P Z m Q) (fun zz zz => False) s := by
  have hn : s.heap.get? s.heap.objs.size = none := fresh_none (Nat.le_refl _)
  have e2 : us1 = (bs.map Value.bool).toArray := Array.toList_inj.mp e1
  have hne : a ≠ s.heap.objs.size := by obtain ⟨o, ho, _⟩ := hl; exact Nat.ne_of_lt (Heap.lt_size ho)
  refine call_any_walk (wpAny_pyIter_list hl ⟨_, _, _, _, _, _, fun i => bs.getD i false, rfl, Walks.list (A := X.A.in1) hh s.heap.objs.size a hne us1, ⟨⟨_, Heap.get?_push_size _ rfl, rfl, rfl⟩, hl.push _⟩, ?_, fun h' tk hk => ?_⟩)
  · intro i v s1 R E hv q1
    rw [e2, List.getElem?_toArray, List.getElem?_map] at hv
    obtain ⟨b, hb1, rfl⟩ := Option.map_eq_some_iff.mp hv
    have : bs.getD i false = b := by rw [List.getD_eq_getElem?_getD, hb1]; rfl
    exact wpAny_truthy_bool (this ▸ q1)
  · have kk : ∀ b o, s.heap.get? b = some o → h'.get? b = some o := fun b o e =>
      hk b o (by simp; rintro rfl; rw [hn] at e; cases e) (Heap.get?_push_of_some _ e)
    have e3 : us1.size = bs.length := by rw [e2, List.size_toArray, List.length_map]
    refine ⟨Z, .bool _, _, .refl Z, Mt.grow (s' := { s with heap := h', toks := tk }) ⟨own, M⟩ kk, rfl, ?_⟩
    rw [e3, any_get]; exact q
theorem keys_ints : ∀ {vs : List Value} {ks : List (Int × Value)}, vs.length = ks.length → (∀ (j : Nat) (v : Value), vs[j]? = some v → ∃ k x, ks[j]? = some (k, x) ∧ (intKind B.prog B.w).is k v = true) → IntsAre vs (ks.map (·.1))
  | [], [], _, _ => .nil
  | [], _ :: _, h, _ => nomatch h
  | _ :: _, [], h, _ => nomatch h
  | v :: vs, kx :: ks, hl, hv => by
    obtain ⟨k, x, e, hk⟩ := hv 0 v rfl
    cases (Option.some.inj e)
    obtain ⟨t, rfl⟩ := Value.isInt_shape hk
    exact .cons _ _ (keys_ints (Nat.succ.inj hl) fun j v h => hv (j + 1) v h)
theorem sortl_sound {xs : List V} {is : List Int} {u : Value} {Q : QV} (M : Mw B X P Z own m σ s) (r : RV Z u (.fl xs)) (hi : intsOf xs = some is) (hl64 : xs.length < 64) (q : Q (.fl ((sortI is).map .int)) σ) :
    wpAny (model B.prog B.w) X.A (PySem.call (.builtin "sorted") [u]) (PoV B X P Z m Q) (fun zz zz => False) s := by
  have hn1 : s.heap.get? (s.heap.objs.size + 1) = none := fresh_none (Nat.le_succ _)
  obtain ⟨a, us1, rfl, hl, hs, rx⟩ := M.fl r
  have hI := ints_of rx hi
  have e1 := rx.length
  obtain ⟨mm, F, N, rr⟩ := M.fr
  refine sorted_N F N (vs := us1.toList) hl hI (by lia) fun h' vs' ns' e F' N' hI' hp hs' => ?_
  have FF : FrN B X Z m s [(s.heap.objs.size + 1, seqObj "list" vs'.toArray e)] h' := ⟨mm, F', N', rr⟩
  have lk : vs'.length ≤ lineOf := by
    have h1 := hI'.length; have h2 := hp.length_eq; have h3 := hI.length
    have hlo : lineOf = 16777216 := rfl
    lia
  exact frozen_ints (t := s.toks) M hn1 FF (.head _) rfl rfl rfl lk hI' (by rw [sortI_uniq hp hs']; exact q)
theorem sortd_sound {a : Addr} {kvs : List (Int × V)} {Q : QV} (hh : X.A.handled = none) (M : Mw B X P Z own m σ s) (e : σ a = some (.dict kvs)) (hl64 : kvs.length < 64) (q : Q (.fl ((sortI (kvs.map (·.1))).map .int)) σ) :
    wpAny (model B.prog B.w) X.A (PySem.call (.builtin "sorted") [.ref a]) (PoV B X P Z m Q) (fun zz zz => False) s := by
  obtain ⟨_, ⟨ns, _⟩, us1, hd, rd⟩ := M.ob _ _ e
  obtain ⟨mm, F, N, rr⟩ := M.fr
  obtain ⟨ep, hat⟩ := hd.dictAt
  have el := rd.length
  refine kdu_sorted (kdl_dict (knd := intKind B.prog B.w) (kvs := us1) (ep := ep) ns) hh F N hat (by rw [← lineOf_eq]; have hlo : lineOf = 16777216 := rfl; lia) fun D h' tk vs F' N' l1 hl hv => ?_
  have hD : s.heap.get? D = none := by
    cases eD : s.heap.get? D with
    | none => rfl
    | some oD => exact absurd (l1 (D, oD) (mem_allBut.mpr ⟨(N' _ (.head _)).2.1, eD⟩)) (Nat.lt_irrefl _)
  have hI : IntsAre vs (us1.map (·.1)) := keys_ints (B := B) hl fun j v h => let ⟨k, x, a, b⟩ := hv j v h; ⟨k, x, a, b⟩
  refine ksk_lsort (vs := vs) (A := X.A.in1) F' N' (fun o => .head fun p hp => Nat.ne_of_lt (l1 p hp)) (by simp) hI (by simp; lia) fun vs' ns' c h'' F'' N'' hI' hle hp hs' zz => ?_
  have FF : FrN B X Z m s [(D, listOf (List.toArray vs') c)] h'' := ⟨mm, F'', N'', rr⟩
  rw [rd.keys] at hp
  have lk : vs'.length ≤ lineOf := by
    have h1 := hI'.length; have h2 := hp.length_eq
    rw [List.length_map] at h2
    have hlo : lineOf = 16777216 := rfl
    lia
  exact frozen_ints (s := s) (t := tk) (us := vs') M hD FF (.head _) rfl rfl rfl lk hI' (by rw [sortI_uniq hp hs']; exact q)

theorem bi1_sound {b : String} {v : V} {u : Value} {Q : QV} (hh : X.A.handled = none) (M : Mw B X P Z own m σ s) (r1 : RV Z u v) (h : biP (.bi b) [v] σ Q) :
    wpAny (model B.prog B.w) X.A (PySem.call (.builtin b) [u]) (PoV B X P Z m Q) (fun zz zz => False) s := by
  rcases sel.out h with ⟨e, h⟩ | h
  · cases of_decide_eq_true e
    obtain ⟨vs, ⟨a, us1, rfl, hl, hs, rx⟩, q⟩ := flLook M r1 h
    have e1 := rx.length
    rw [Array.length_toList] at e1
    exact call_len_list hl (by have hlo : lineOf = 16777216 := rfl; lia) ⟨Z, .int vs.length, _, .refl Z, Mt.tok ⟨own, M⟩ rfl, ⟨s.toks + 1, by rw [e1]⟩, q⟩
  rcases sel.out h with ⟨e, h⟩ | h
  · cases of_decide_eq_true e
    obtain ⟨xs, rfl, h⟩ := flP.out h
    obtain ⟨bs, hbs, q⟩ := h.get.out
    obtain ⟨a, us1, rfl, hl, hs, rx⟩ := M.fl r1
    exact any_sound hh M hl (bools_of rx hbs) q
  obtain ⟨e, h⟩ := chk.out h
  cases of_decide_eq_true e
  cases v with
  | fl xs =>
    obtain ⟨is, hi, h⟩ := h.get.out
    obtain ⟨hl, q⟩ := ltQ.out h
    exact sortl_sound M r1 hi hl q
  | ref a =>
    cases (show u = .ref a from r1)
    obtain ⟨o, e, h1⟩ := rd.out h
    cases o with
    | dict kvs => obtain ⟨hl, q⟩ := ltQ.out h1; exact sortd_sound hh M e hl q
    | _ => exact h1.elim
  | _ => exact h.elim
theorem ty1_sound {t : String} {v : V} {u : Value} {Q : QV} (M : Mw B X P Z own m σ s) (r1 : RV Z u v) (h : biP (.ty t) [v] σ Q) :
    wpAny (model B.prog B.w) X.A (PySem.call (.type t) [u]) (PoV B X P Z m Q) (fun zz zz => False) s := by
  have hn : s.heap.get? s.heap.objs.size = none := fresh_none (Nat.le_refl _)
  rcases sel.out h with ⟨e, h⟩ | h
  · cases of_decide_eq_true e
    obtain ⟨xs, rfl, h⟩ := flP.out h
    obtain ⟨_, q⟩ := leQ.out h
    obtain ⟨a, us1, rfl, ⟨o, ho, hc, n, hd⟩, hs, rx⟩ := M.fl r1
    obtain ⟨own', M1, cc⟩ := newList_prep M hn hs rx q
    exact call_list_seq (hsz := hs) a (.inl rfl) ho hc hd fun h' c' hk hD => cc { s with heap := h' } c' (M1.grow hk rfl rfl) hD
  rcases sel.out h with ⟨e, h⟩ | h
  · cases of_decide_eq_true e
    obtain ⟨xs, rfl, h⟩ := flP.out h
    obtain ⟨_, q⟩ := leQ.out h
    obtain ⟨a, us1, rfl, hl1, hs, rx⟩ := M.fl r1
    exact call_tuple_list (hsz := hs) hl1 fun h' hk => newTup_sound (us := us1.toList) (s := { s with heap := h' }) (M.grow hk rfl rfl) hs rx q
  obtain ⟨e, h⟩ := chk.out h
  cases of_decide_eq_true e
  obtain ⟨i, rfl, h0, h1, q⟩ := intP.out h
  obtain ⟨t, rfl⟩ := r1.int
  refine PySem.P.str_of_int ?_ ⟨Z, .str _, _, .refl Z, Mt.tok ⟨own, M⟩ rfl, ⟨_, rfl⟩, q⟩
  have hz : i.natAbs.log2 ≤ i.natAbs := Nat.log2_le_self _
  lia
theorem set0_sound {Q : QV} (M : Mw B X P Z own m σ s) (h : ∀ n, σ n = .none → Q (.ref n) (put σ n (.set []))) : wpAny (model B.prog B.w) X.A (PySem.call (.type "set") []) (PoV B X P Z m Q) (fun zz zz => False) s := by
  have hn : s.heap.get? s.heap.objs.size = none := fresh_none (Nat.le_refl _)
  refine call_set_0 fun led => ?_
  have M1 := (M.tag hn .obj).grow (s' := { s with heap := s.heap.push { cls := .type "set", dict := none, data := .set #[] 0 (.fresh 0 0 led) } }) (fun b o e => Heap.get?_push_of_some _ e) rfl rfl
  have hS : (s.heap.push { cls := .type "set", dict := none, data := .set #[] 0 (.fresh 0 0 led) }).SetOf (intKind B.prog B.w) s.heap.objs.size (fun k => decide (k ∈ ([] : List Int))) 0 :=
    ⟨_, #[], 0, _, Heap.get?_push_size _ rfl, ⟨rfl, rfl, rfl⟩, rfl, fun e he => by simp at he, fun k => by simp, by decide, by rfl, rfl⟩
  exact ⟨Z, .ref _, _, .refl Z, ⟨_, M1.own_put (n := s.heap.objs.size) (o := .set []) ⟨⟨List.nodup_nil, Nat.zero_le _⟩, hS⟩ tput_self⟩, rfl, h _ (M.sig_none hn)⟩

theorem bi_sound {f : V} {vs : List V} {u : Value} {us : List Value} {Q : QV} (hh : X.A.handled = none) (M : Mw B X P Z own m σ s) (r : RV Z u f) (rs : RVs Z us vs) (h : biP f vs σ Q) :
    (∃ x, u = .builtin x ∨ u = .type x) ∧ wpAny (model B.prog B.w) X.A (PySem.call u us) (PoV B X P Z m Q) (fun zz zz => False) s := by
  cases f with
  | bi b =>
    obtain ⟨rfl, _⟩ := r
    refine ⟨⟨_, .inl rfl⟩, ?_⟩
    cases vs with
    | nil => exact h.elim
    | cons v vs =>
      cases vs with
      | nil =>
        obtain ⟨u1, rfl, r1⟩ := rs.one
        exact bi1_sound hh M r1 h
      | cons w vs =>
        cases vs with
        | cons _ _ => cases w <;> exact h.elim
        | nil =>
          cases w with
          | ty t =>
            obtain ⟨u1, u2, rfl, r1, r2⟩ := rs.two
            cases (show u2 = .type t from r2)
            obtain ⟨e, h⟩ := chk.out h
            obtain ⟨e1, e2⟩ := and_out e
            cases of_decide_eq_true e1
            cases of_decide_eq_true e2
            cases v with
            | bool b =>
              cases (show u1 = .bool b from r1)
              exact call_isinstance_yes rfl rfl (by rw [isSubtype_type]; kernel_rfl) ⟨Z, .bool true, _, .refl Z, ⟨own, M⟩, rfl, h⟩
            | _ => exact h.elim
          | _ => exact h.elim
  | ty t =>
    cases (show u = .type t from r)
    refine ⟨⟨_, .inr rfl⟩, ?_⟩
    cases vs with
    | nil =>
      cases (show us = [] from rs)
      obtain ⟨e, h⟩ := chk.out h
      cases of_decide_eq_true e
      exact set0_sound M h
    | cons v vs =>
      cases vs with
      | nil =>
        obtain ⟨u1, rfl, r1⟩ := rs.one
        exact ty1_sound M r1 h
      | cons _ _ => exact h.elim
  | _ => exact h.elim

structure CallsOk (B : Base) (call : Calls) (X : Fx) : Prop where
  run : ∀ a vs σ Q, call a vs σ Q → ∀ P Z s us m, BaseIn B P → Mt B X P Z m σ s → RVs Z us vs → wpAny (model B.prog B.w) X.A (PySem.call (.ref a) us []) (PoV B X P Z m Q) (fun zz zz => False) s
  keep : ∀ a vs σ Q, call a vs σ Q → keepIn B.K (.ref a) = true

theorem callP_sound {fv : V} {vs : List V} {u : Value} {us : List Value} {Q : QV} {room} (hB : BaseOk B) (hX : Xok B X room) (C : CallsOk B call X) (hb : BaseIn B P) (M : Mt B X P Z m σ s) (r : RV Z u fv) (rs : RVs Z us vs) (h : callP call fv vs σ Q) :
    (∃ k, (k = Keeper.frame ∨ k = Keeper.machine ∨ k = Keeper.boundFrame) ∧ Looks (model B.prog B.w) s.heap (keeperOf u) k) ∧ wpAny (model B.prog B.w) X.A (PySem.call u us []) (PoV B X P Z m Q) (fun zz zz => False) s := by
  obtain ⟨own, M⟩ := M
  have bi : biP fv vs σ Q → (∃ k, (k = Keeper.frame ∨ k = Keeper.machine ∨ k = Keeper.boundFrame) ∧ Looks (model B.prog B.w) s.heap (keeperOf u) k) ∧ wpAny (model B.prog B.w) X.A (PySem.call u us []) (PoV B X P Z m Q) (fun zz zz => False) s := fun h => by
    obtain ⟨⟨x, e⟩, g⟩ := bi_sound hX.hh M r rs h
    refine ⟨⟨.machine, .inr (.inl rfl), ?_⟩, g⟩
    rcases e with rfl | rfl <;> exact Looks.of_pure rfl
  cases fv with
  | ref a =>
    cases (show u = .ref a from r)
    exact ⟨keeps_K (C.keep _ _ _ _ h) _ (M.kin hB hb), C.run _ _ _ _ h P Z s us m hb ⟨own, M⟩ rs⟩
  | ty t => exact bi h
  | bi b => exact bi h
  | _ => exact h.elim

theorem ev_call {f : Str} {p pos : Pos} {args : List Expr} {Q : QV} {room} (hB : BaseOk B) (hX : Xok B X room) (S : Snd B T X sc) (C : CallsOk B call X) (hs : args.all notStar = true)
    (h : T.ev sc (.Name f p) m σ (kCall call T sc m args Q)) : Ev B X (eval (.Call (.Name f p) args [] pos) X.env) m σ Q := by
  intro P Z s hb M
  show wpAny _ _ (do callWith pos (← eval (.Name f p) X.env) [] (backTo pos (starEach args X.env)) (backToKw pos (keywordEach [] X.env))) _ _ _
  refine wpAny_bind (S.go h hb M fun u s1 Z1 fv σ1 z1 M1 r1 q1 => ?_)
  show wpAny _ _ (callWith pos u [] (backTo pos (starEach args X.env)) []) _ _ _
  refine callWith_any (Pr := fun h => ∃ k, (k = Keeper.frame ∨ k = Keeper.machine ∨ k = Keeper.boundFrame) ∧ Looks (model B.prog B.w) h (keeperOf u) k) hs (fun h x => x)
    (wpAny_mono (evs_sound S hb args M1 q1) (fun us s2 ⟨_, Z2, vs, σ2, z2, M2, r2, q2⟩ => ?_) fun zz zz x => x)
  exact (callP_sound hB hX C hb M2 (r1.mono z2) r2 q2).imp id fun g => wpAny_mono g (fun zz zz h => h.up (z1.trans z2)) fun zz zz x => x

end Mine

namespace Mine
set_option tactic.hygienic false
set_option genSizeOfSpec false
open PySem PySem.W PyProof.Rows PySem.Calls
set_option maxRecDepth 100000
variable {B : Base} {X X' : Fx} {P P' Z : PM} {own own1 : Addr → Tag} {m m' : Lo} {σ : AH} {s : Shared} {sc : Scope} {T : EvT} {G : Str → Option V} {call : Calls}

/-- Objects of no role change. -/
theorem Mw.chg {s' : Shared} {wr : List Addr} (M : Mw B X P Z own m σ s) (ho : ∀ b ∈ wr, own b = .other)
    (k : ∀ b o, b ∉ wr → s.heap.get? b = some o → s'.heap.get? b = some o) (hg : s'.gens = s.gens) (hos : s'.os = s.os) : Mw B X P Z own m σ s' := by
  have kk : ∀ b ob, own b ≠ .other → s.heap.get? b = some ob → s'.heap.get? b = some ob := fun b ob h e => k b ob (fun q => h (ho b q)) e
  refine M.chgd (fun b ob zz zz h e => kk b ob h e) (fun b ob e => ?_) hg hos
  have z := M.ob b ob e
  refine ⟨z.1, z.2.keep (.refl Z) fun c oc ec hc => ⟨kk c oc ?_ ec, rfl⟩⟩
  rcases hc with rfl | hc
  · rw [z.1]; nofun
  · rw [hc]; nofun

noncomputable def gput (P : PM) (gs : List Addr) (h : Heap) : PM := fun a => if a ∈ gs then h.get? a else P a
noncomputable def tputs (own : Addr → Tag) (gs : List Addr) (t : Tag) : Addr → Tag := fun a => if a ∈ gs then t else own a

/-- Guard objects of no role for a while. -/
theorem Mw.guards {gs : List Addr} (M : Mw B X P Z own m σ s) (ho : ∀ b ∈ gs, own b = .other) : Mw B X (gput P gs s.heap) Z (tputs own gs .prot) m σ s := by
  have tn : ∀ b, own b ≠ .other → tputs own gs .prot b = own b := fun b h => by unfold tputs; rw [if_neg]; exact fun q => h (ho b q)
  refine M.swap (fun a ob e => ?_) (fun a h => tn a ?_) ?_ fun x c e => ?_
  · unfold gput at e
    unfold tputs
    split at e
    · rename_i q; rw [if_pos q]; exact ⟨e, rfl⟩
    · rename_i q; rw [if_neg q]; exact M.kp a ob e
  · rcases h with h | h | ⟨c, h⟩ <;> rw [h] <;> nofun
  · obtain ⟨a, mm, hn, r⟩ := M.lo
    exact ⟨(tn _ (by rw [a]; nofun)).trans a, mm, hn, r⟩
  · obtain ⟨a, u0, hu, r⟩ := M.ce x c e
    refine ⟨a.imp (fun q => ⟨q.1, (tn _ (by rw [q.2]; nofun)).trans q.2⟩) (fun q => ⟨q.1, (tn _ (by rw [q.2.1]; nofun)).trans q.2.1, ?_⟩), u0, hu, r⟩
    obtain ⟨o, e'⟩ := q.2.2
    have : c ∉ gs := fun h => by rw [ho c h] at q; cases q.2.1
    exact ⟨o, by unfold gput; rw [if_neg this]; exact e'⟩

theorem Mw.unguards {gs : List Addr} {h0 : Heap} (M : Mw B X (gput P gs h0) Z own m σ s) (hp : ∀ b ∈ gs, P b = none) (ha : ∀ b ∈ gs, ∃ o, h0.get? b = some o)
    (hc : X.wr = false → ∀ x c, X.env.cells.lookup x = some c → ∃ o, P c = some o) :
    Mw B X P Z (tputs own gs .other) m σ s ∧ (∀ b ∈ gs, tputs own gs .other b = .other) ∧ ∀ b o, b ∈ gs → h0.get? b = some o → s.heap.get? b = some o := by
  have hg : ∀ b, b ∈ gs → own b = .prot := fun b q => by
    obtain ⟨o, e⟩ := ha b q
    exact (M.kp b o (by unfold gput; rw [if_pos q]; exact e)).2
  have tn : ∀ b, own b ≠ .prot → tputs own gs .other b = own b := fun b h => by unfold tputs; rw [if_neg]; exact fun q => h (hg b q)
  refine ⟨M.swap (fun a ob e => ?_) (fun a h => tn a ?_) ?_ fun x c e => ?_, fun b q => by unfold tputs; rw [if_pos q], fun b o q e => (M.kp b o (by unfold gput; rw [if_pos q]; exact e)).1⟩
  · have na : a ∉ gs := fun q => by rw [hp a q] at e; cases e
    have q := M.kp a ob (by unfold gput; rw [if_neg na]; exact e)
    exact ⟨q.1, by unfold tputs; rw [if_neg na]; exact q.2⟩
  · rcases h with h | h | ⟨c, h⟩ <;> rw [h] <;> nofun
  · obtain ⟨a, mm, hn, r⟩ := M.lo
    exact ⟨(tn _ (by rw [a]; nofun)).trans a, mm, hn, r⟩
  · obtain ⟨a, u0, hu, r⟩ := M.ce x c e
    refine ⟨?_, u0, hu, r⟩
    rcases a with a | ⟨a, b, _⟩
    · exact .inl ⟨a.1, (tn _ (by rw [a.2]; nofun)).trans a.2⟩
    · obtain ⟨o2, e2⟩ := hc a x c e
      have cn : c ∉ gs := fun q => by rw [hp c q] at e2; cases e2
      exact .inr ⟨a, by unfold tputs; rw [if_neg cn]; exact b, o2, e2⟩

theorem Mw.p_other (M : Mw B X P Z own m σ s) {n : Addr} (hn : own n = .other) : P n = none := by
  cases e : P n with
  | none => rfl
  | some o => have q := (M.kp n o e).2; rw [hn] at q; cases q

theorem baseIn_gput {gs : List Addr} {h : Heap} (hb : BaseIn B P) (hp : ∀ b ∈ gs, P b = none) : BaseIn B (gput P gs h) := fun a o e => by
  have e' := hb a o e
  unfold gput
  rw [if_neg fun q => by rw [hp a q] at e'; cases e']
  exact e'

/-- An iterator over known items. -/
structure It (B : Base) (Z0 : PM) (tup : Bool) (vs : List V) (I : Addr) (wr : List Addr) (St : Nat → Heap → Prop) : Prop where
  keep : ∀ i h h', St i h → (∀ b ∈ wr, ∀ o, h.get? b = some o → h'.get? b = some o) → (∀ b o, Z0 b = some o → h.get? b = some o ∧ h'.get? b = some o) → St i h'
  alive : ∀ i h, St i h → ∀ b ∈ wr, ∃ o, h.get? b = some o
  item : ∀ i v, vs[i]? = some v → ∀ (X : Fx) (P Z : PM) own m σ (s : Shared) (target : Expr) (R : Value → Shared → Prop), X.A.handled = none → tgt target = some tup → Zle Z0 Z → Mw B X P Z own m σ s →
    (∀ b ∈ wr, own b = .other) → St i s.heap →
    (∀ u s' Z' own', Zle Z Z' → Mw B X P Z' own' m σ s' → (∀ b o, s.heap.get? b = some o → own' b = own b ∧ (b ∉ wr → s'.heap.get? b = some o)) → RV Z' u v → St (i + 1) s'.heap → R u s') →
    wpAny (model B.prog B.w) X.A (pyNext (.ref I)) (fun r s1 => ∃ u, r = some u ∧ wpAny (model B.prog B.w) X.A (letOwnedTupleGo target (.ref I) u) (fun zz s2 => R u s2) (fun zz zz => False) s1) (fun zz zz => False) s
  done : ∀ (X : Fx) (P Z : PM) own m σ (s : Shared) (R : Option Value → Shared → Prop), X.A.handled = none → Zle Z0 Z → Mw B X P Z own m σ s → (∀ b ∈ wr, own b = .other) → St vs.length s.heap →
    (∀ s', Mw B X P Z own m σ s' → (∀ b o, b ∉ wr → s.heap.get? b = some o → s'.heap.get? b = some o) → R none s') → wpAny (model B.prog B.w) X.A (pyNext (.ref I)) R (fun zz zz => False) s
  self : ∀ (A : Around) (s : Shared) (R : Value → Shared → Prop) E, A.handled = none → St 0 s.heap → R (.ref I) s → wpAny (model B.prog B.w) A (pyIter (.ref I)) R E s

theorem go_plain {t : Expr} {it v : Value} (h : tgt t = some false) : letOwnedTupleGo t it v = pure () := by
  cases t with
  | Name x p => rfl
  | _ => exact nomatch h

theorem It.of_walks {Z0 : PM} {vs : List V} {I : Addr} {fp wr : List Addr} {n : Nat} {Pv : Nat → Value → Prop} {St : Nat → Heap → Prop} (W : ∀ A : Around, A.handled = none → Walks B.prog B.w A I fp wr n Pv St)
    (hfp : ∀ b ∈ fp, b ∈ wr ∨ ∃ o, Z0 b = some o) (hn : vs.length = n) (hv : ∀ i u, i < n → Pv i u → ∃ v, vs[i]? = some v ∧ RV Z0 u v) (alive : ∀ i h, St i h → ∀ b ∈ wr, ∃ o, h.get? b = some o) : It B Z0 false vs I wr St where
  keep i h h' st k1 k2 := (W {} rfl).frame i h h' st fun b hb o e => by
    rcases hfp b hb with q | ⟨o', q⟩
    · exact k1 b q o e
    · have := k2 b o' q
      rw [this.1] at e; cases e; exact this.2
  alive := alive
  item i v hi X P Z own m σ s target R hh ht hz M ho st k := by
    have hlt : i < n := by rw [← hn]; exact (List.getElem?_eq_some_iff.mp hi).1
    refine (W X.A hh).item i s _ _ hlt st fun u h' tk hP st' hk => ⟨u, rfl, ?_⟩
    obtain ⟨v', hv', r⟩ := hv i u hlt hP
    rw [hi] at hv'; cases hv'
    rw [go_plain ht]
    exact wpAny_pure (k u _ Z own (.refl Z) (M.chg (s' := { s with heap := h', toks := tk }) ho hk rfl rfl) (fun b o e => ⟨rfl, fun hb => hk b o hb e⟩) (r.mono hz) st')
  done X P Z own m σ s R hh hz M ho st k := by
    rw [hn] at st
    exact (W X.A hh).done s _ _ st fun h' tk hk => k _ (M.chg (s' := { s with heap := h', toks := tk }) ho hk rfl rfl) hk
  self A s R E hh st hq := (W A hh).self 0 s R E st hq

theorem rvs_at {Z0 : PM} {vs : List V} {us : Array Value} (r : RVs Z0 us.toList vs) {i : Nat} {u : Value} (hu : us[i]? = some u) : ∃ v, vs[i]? = some v ∧ RV Z0 u v := by
  have hlt : i < vs.length := by rw [← r.length, Array.length_toList]; exact (Array.getElem?_eq_some_iff.mp hu).1
  obtain ⟨u', hu', ru⟩ := r.get (List.getElem?_eq_getElem hlt)
  rw [Array.getElem?_toList, hu] at hu'
  cases hu'
  exact ⟨_, List.getElem?_eq_getElem hlt, ru⟩
theorem fp_two {Z0 : PM} {I a : Addr} {o : Obj} (hz : Z0 a = some o) : ∀ b ∈ [I, a], b ∈ [I] ∨ ∃ o, Z0 b = some o := fun b hb => by
  rcases List.mem_cons.mp hb with rfl | hb
  · exact .inl (.head _)
  · cases List.mem_singleton.mp hb; exact .inr ⟨_, hz⟩
theorem It.of_list {Z0 : PM} {vs : List V} {I a : Addr} {us : Array Value} {o : Obj} (hz : Z0 a = some o) (hne : a ≠ I) (r : RVs Z0 us.toList vs) :
    It B Z0 false vs I [I] (fun i h => h.IsListIter I a i ∧ h.IsList a us) :=
  It.of_walks (fun A hh => Walks.list hh I a hne us) (fp_two hz) (by rw [← r.length, Array.length_toList]) (fun i u zz hu => rvs_at r hu) fun i h st b hb => by
    cases List.mem_singleton.mp hb
    obtain ⟨⟨o, ho, _⟩, _⟩ := st; exact ⟨o, ho⟩

theorem It.of_tuple {Z0 : PM} {vs : List V} {I a : Addr} {us : Array Value} {o : Obj} (hz : Z0 a = some o) (hne : a ≠ I) (r : RVs Z0 us.toList vs) :
    It B Z0 false vs I [I] (fun i h => h.IsTupleIter I a i ∧ h.IsTuple a us) :=
  It.of_walks (fun A hh => Walks.tuple hh I a hne us) (fp_two hz) (by rw [← r.length, Array.length_toList]) (fun i u zz hu => rvs_at r hu) fun i h st b hb => by
    cases List.mem_singleton.mp hb
    obtain ⟨⟨o, ho, _⟩, _⟩ := st; exact ⟨o, ho⟩

theorem It.of_range {Z0 : PM} {I : Addr} {n : Nat} : It B Z0 false ((List.range n).map fun (i : Nat) => V.int (i : Int)) I [I] (fun i h => IsRangeIter h I (0 + (i : Nat) * 1) ((n : Int) - (i : Nat)) 1) :=
  It.of_walks (fun A hh => Walks.range hh I 0 1 n) (fun b hb => .inl hb) (by simp) (fun i u hi hu => by
      obtain ⟨t, rfl⟩ := hu
      exact ⟨.int i, by simp [hi], t, by simp⟩) fun i h st b hb => by
      cases List.mem_singleton.mp hb; exact ⟨_, st⟩

theorem enumV_get : ∀ (vs : List V) (k i : Nat), (enumV k vs)[i]? = (vs[i]?).map fun v => .tup [.int (k + i : Nat), v]
  | [], _, _ => rfl
  | v :: vs, k, 0 => rfl
  | v :: vs, k, i + 1 => by
    show (enumV (k + 1) vs)[i]? = (vs[i]?).map fun v => .tup [.int (k + (i + 1) : Nat), v]
    rw [enumV_get vs (k + 1) i, Nat.add_right_comm, Nat.add_assoc]
theorem enumV_length : ∀ (vs : List V) (k : Nat), (enumV k vs).length = vs.length
  | [], _ => rfl
  | v :: vs, k => congrArg Nat.succ (enumV_length vs (k + 1))

theorem It.of_enum {Z0 : PM} {vs : List V} {e it a : Addr} {us : Array Value} {o : Obj} (hz : Z0 a = some o) (hei : e ≠ it) (hae : a ≠ e) (hai : a ≠ it) (r : RVs Z0 us.toList vs) :
    It B Z0 true (enumV 0 vs) e [e, it] (fun i h => (∃ old, IsEnum h e it i old) ∧ h.IsListIter it a i ∧ h.IsList a us) where
  keep i h h' st k1 k2 := (WalksT.enumerate (prog := B.prog) (w := B.w) (A := {}) rfl e it a hei hae hai us).frame i h h' st fun b hb o' eb => by
    simp only [List.mem_cons, List.not_mem_nil, or_false] at hb
    rcases hb with rfl | rfl | rfl
    · exact k1 b (by simp) o' eb
    · exact k1 b (by simp) o' eb
    · have := k2 b o hz
      rw [this.1] at eb; cases eb; exact this.2
  alive i h st b hb := by
    obtain ⟨⟨old, he⟩, ⟨o1, ho1, _⟩, _⟩ := st
    simp only [List.mem_cons, List.not_mem_nil, or_false] at hb
    rcases hb with rfl | rfl
    · exact ⟨_, he⟩
    · exact ⟨_, ho1⟩
  item i v hi X P Z own m σ s target R hh ht hzz M ho st k := by
    have W := WalksT.enumerate (prog := B.prog) (w := B.w) (A := X.A) hh e it a hei hae hai us
    have hlt : i < us.size := by
      have := (List.getElem?_eq_some_iff.mp hi).1
      rw [enumV_length, ← r.length, Array.length_toList] at this; exact this
    rw [enumV_get] at hi
    obtain ⟨x, hx, rfl⟩ := Option.map_eq_some_iff.mp hi
    obtain ⟨u, hu, ru⟩ := r.get hx
    rw [Array.getElem?_toList] at hu
    refine W.item i s _ _ hlt st fun T vals h' tk hP hT hTup hMid hk => ⟨_, rfl, ?_⟩
    obtain ⟨t, y, hy, rfl⟩ := hP
    rw [hu] at hy; cases hy
    have hn : s.heap.get? T = none := fresh_none hT
    have tg : ∀ b o, s.heap.get? b = some o → tput own T .froz b = own b := fun b o eb => tput_old hn eb
    have wa : ∀ b ∈ [e, it], ∃ o, s.heap.get? b = some o := fun b hb => by
      obtain ⟨⟨old, he⟩, ⟨o1, ho1, _⟩, _⟩ := st
      simp only [List.mem_cons, List.not_mem_nil, or_false] at hb
      rcases hb with rfl | rfl
      · exact ⟨_, he⟩
      · exact ⟨_, ho1⟩
    have ho' : ∀ b ∈ [e, it], tput own T .froz b = .other := fun b hb => by
      obtain ⟨o1, e1⟩ := wa b hb
      rw [tg b o1 e1]; exact ho b hb
    have M1 := (M.retag tg).chg (s' := { s with heap := h', toks := tk }) ho' hk rfl rfl
    obtain ⟨oT, hoT, hcT, nT, hdT⟩ := hTup
    obtain ⟨hz2, M2⟩ := M1.frz (M.z_none hn) hoT tput_self
    obtain ⟨elts, kk, pos, rfl⟩ : ∃ a b c, target = .Tuple a b c := by
      cases target <;> first | exact ⟨_, _, _, rfl⟩ | exact nomatch ht
    refine W.go elts kk pos i T { s with heap := h', toks := tk } _ _ hMid fun h'' st' hk' => ?_
    have M3 := M2.chg (s' := { s with heap := h'', toks := tk }) ho' hk' rfl rfl
    have nT' : T ∉ [e, it] := fun q => by obtain ⟨o1, e1⟩ := wa T q; rw [hn] at e1; cases e1
    refine k (.ref T) _ _ _ hz2 M3 (fun b o eb => ⟨tg b o eb, fun hb => hk' b o hb (hk b o hb eb)⟩) ?_ st'
    exact ⟨T, oT, _, nT, rfl, zput_self, hcT, hdT, (show 2 ≤ lineOf by decide), _, _, rfl, ⟨t, by simp⟩, u, [], rfl, (ru.mono hzz).mono hz2, rfl⟩
  done X P Z own m σ s R hh hzz M ho st k := by
    rw [enumV_length, ← r.length, Array.length_toList] at st
    exact (WalksT.enumerate (prog := B.prog) (w := B.w) (A := X.A) hh e it a hei hae hai us).done s _ _ st fun h' tk hk => k _ (M.chg (s' := { s with heap := h', toks := tk }) ho hk rfl rfl) hk
  self A s R E hh st hq := (WalksT.enumerate (prog := B.prog) (w := B.w) (A := A) hh e it a hei hae hai us).self 0 s R E st hq

end Mine

namespace Mine
set_option tactic.hygienic false
set_option genSizeOfSpec false
open PySem PySem.W PyProof.Rows PySem.Calls
set_option maxRecDepth 100000
variable {B : Base} {X X' : Fx} {P P' Z : PM} {own own1 : Addr → Tag} {m m' : Lo} {σ : AH} {s : Shared} {sc : Scope} {T : EvT} {G : Str → Option V} {call : Calls}

inductive PoI (B : Base) (X : Fx) (P Z : PM) (tup : Bool) (m : Lo) (Q : QL) (it : Value) (s2 : Shared) : Prop
  | mk (Z' : PM) (vs : List V) (σ' : AH) (I : Addr) (wr : List Addr) (St : Nat → Heap → Prop) (own : Addr → Tag) (e : it = .ref I) (hz : Zle Z Z') (M : Mw B X P Z' own m σ' s2) (ho : ∀ b ∈ wr, own b = .other) (hI : It B Z' tup vs I wr St) (st : St 0 s2.heap) (hl : vs.length ≤ lineOf) (q : Q vs σ')

theorem PoI.up {Z' : PM} {tup} {Q : QL} {it : Value} {s' : Shared} (h : PoI B X P Z' tup m Q it s') (hz : Zle Z Z') : PoI B X P Z tup m Q it s' :=
  let ⟨Z'', vs, σ', I, wr, St, own, a, b, c, d, e, f, g, h⟩ := h; ⟨Z'', vs, σ', I, wr, St, own, a, hz.trans b, c, d, e, f, g, h⟩

theorem Mw.newOther {n : Addr} (M : Mw B X P Z own m σ s) (hn : s.heap.get? n = none) {s' : Shared} (k : ∀ b o, s.heap.get? b = some o → s'.heap.get? b = some o) (hg : s'.gens = s.gens := by rfl) (hos : s'.os = s.os := by rfl) :
    Mw B X P Z (tput own n .other) m σ s' := (M.tag hn .other).grow k hg hos
theorem one_other {n : Addr} : ∀ b ∈ [n], tput own n .other b = .other := fun b hb => by cases List.mem_singleton.mp hb; exact tput_self

theorem items_sound {v : V} {u : Value} {Q : QL} (M : Mw B X P Z own m σ s) (r : RV Z u v) (h : kIts Q v σ) :
    wpAny (model B.prog B.w) X.A (pyIter u) (PoI B X P Z false m Q) (fun zz zz => False) s := by
  have hn : s.heap.get? s.heap.objs.size = none := fresh_none (Nat.le_refl _)
  cases v with
  | fl vs =>
    obtain ⟨a, o, us, ep, rfl, hz, hc, ⟨hdn, hd⟩, hs, rs⟩ := r
    have ho := (M.kz _ _ hz).1
    have hl : s.heap.IsList a us := ⟨o, ho, hc, ep, hd⟩
    exact wpAny_pyIter_list hl ⟨Z, vs, σ, _, [s.heap.objs.size], _, _, rfl, .refl Z, M.newOther hn (fun b o e => Heap.get?_push_of_some _ e), one_other, It.of_list hz (Nat.ne_of_lt (Heap.lt_size ho)) rs,
      ⟨⟨_, Heap.get?_push_size _ rfl, rfl, rfl⟩, hl.push _⟩, by rw [← rs.length, Array.length_toList]; exact hs, h⟩
  | tup vs =>
    obtain ⟨a, o, us, ep, rfl, hz, hc, hd, hs, rs⟩ := r
    have ho := (M.kz _ _ hz).1
    have hl : s.heap.IsTuple a us := ⟨o, ho, hc, ep, hd⟩
    exact wpAny_pyIter_tuple hl ⟨Z, vs, σ, _, [s.heap.objs.size], _, _, rfl, .refl Z, M.newOther hn (fun b o e => Heap.get?_push_of_some _ e), one_other, It.of_tuple hz (Nat.ne_of_lt (Heap.lt_size ho)) rs,
      ⟨⟨_, Heap.get?_push_size _ rfl, rfl, rfl⟩, ⟨o, Heap.get?_push_of_some _ ho, hc, ep, hd⟩⟩, by rw [← rs.length, Array.length_toList]; exact hs, h⟩
  | _ => exact h.elim

theorem type_call {f : Str} {p pos : Pos} {e₁ : Expr} {R : Value → Shared → Prop} {Q : QV} {t : String} {room} (hB : BaseOk B) (hX : Xok B X room) (hS : ScOk X sc) (S : Snd B T X sc) (hb : BaseIn B P) (M : Mt B X P Z m σ s)
    (hd : isS f "__debug__" = false) (hf : NameV B.G sc m f (.ty t)) (hs : notStar e₁ = true) (h : T.ev sc e₁ m σ Q)
    (k : ∀ u s' Z' v σ', Zle Z Z' → Mt B X P Z' m σ' s' → RV Z' u v → Q v σ' → wpAny (model B.prog B.w) X.A (PySem.call (.type t) [u] []) R (fun zz zz => False) s') :
    wpAny (model B.prog B.w) X.A (eval (.Call (.Name f p) [e₁] [] pos) X.env) R (fun zz zz => False) s := by
  show wpAny _ _ (do callWith pos (← eval (.Name f p) X.env) [] (backTo pos (starEach [e₁] X.env)) (backToKw pos (keywordEach [] X.env))) _ _ _
  refine wpAny_bind (name_val hB hX hS hb M hd hf fun u r => ?_)
  cases (show u = .type t from r)
  show wpAny _ _ (callWith pos (.type t) [] (backTo pos (starEach [e₁] X.env)) []) _ _ _
  refine callWith_any (Pr := fun zz => True) (show (notStar e₁ && true) = true by rw [hs]; rfl) (fun h zz => ⟨.machine, .inr (.inl rfl), Looks.of_pure rfl⟩) ?_
  rw [starEach_cons hs]
  exact spliced_cons (S.go h hb M fun u s1 Z1 v σ1 z1 M1 r1 q1 => spliced_nil ⟨trivial, k u s1 Z1 v σ1 z1 M1 r1 q1⟩)

theorem nn {α : Type} {a : α} {C : Prop} (h : none = some a) : C := nomatch h
theorem folded_of {e : Expr} {env : Env} {x : Value} (h : notSet e = true) : foldedSetIterable e env x = pure x := by
  cases e with
  | Set a b c => exact nomatch h
  | _ => rfl
theorem nameOf_out {e : Expr} {x : Str} (h : nameOf e = some x) : ∃ p, e = .Name x p := by
  cases e with
  | Name y p => cases h; exact ⟨p, rfl⟩
  | _ => exact nn h
theorem rng_out {e : Expr} {f : Str} {e₁ : Expr} (h : rngOf e = some (f, e₁)) : ∃ p pos, e = .Call (.Name f p) [e₁] [] pos := by
  cases e with
  | Call g args kw pos =>
    match args, kw, h with
    | [a], [], h =>
      have h : (match nameOf g with | some x => some (x, a) | none => none) = some (f, e₁) := h
      cases hn : nameOf g with
      | none => rw [hn] at h; exact nn h
      | some x =>
        rw [hn] at h
        cases h
        obtain ⟨p, rfl⟩ := nameOf_out hn
        exact ⟨p, pos, rfl⟩
    | [], _, h => exact nn h
    | _ :: _ :: _, _, h => exact nn h
    | [_], _ :: _, h => exact nn h
  | _ => exact nn h
noncomputable def ItOk (B : Base) (X : Fx) (P Z : PM) (tup : Bool) (m : Lo) (Q : QL) (e : Expr) (s : Shared) : Prop :=
  wpAny (model B.prog B.w) X.A (eval e X.env) (fun xv s1 => wpAny (model B.prog B.w) X.A (pyIter xv) (PoI B X P Z tup m Q) (fun zz zz => False) s1) (fun zz zz => False) s
theorem range_sound {v : V} {u : Value} {Q : QL} {Z0 : PM} (hz : Zle Z0 Z) (M : Mw B X P Z own m σ s) (r : RV Z u v) (h : intP v fun k => 0 ≤ k ∧ k ≤ lineOf ∧ Q ((List.range k.toNat).map fun (i : Nat) => V.int (i : Int)) σ) :
    wpAny (model B.prog B.w) X.A (PySem.call (.type "range") [u] []) (fun xv s1 => wpAny (model B.prog B.w) X.A (pyIter xv) (PoI B X P Z0 false m Q) (fun zz zz => False) s1) (fun zz zz => False) s := by
  obtain ⟨k, rfl, h0, h1, q⟩ := intP.out h
  obtain ⟨t, rfl⟩ := r.int
  have hlo : lineOf = 16777216 := rfl
  refine call_range_1 (wpAny_pyIter_range (IsRange.new _ 0 k 1 _ _ _) (small_one (by lia) (by lia) (by lia) (by lia)) ?_)
  dsimp only
  generalize hH : s.heap.push { cls := .type "range", data := .fields #[.int 0 s.toks, .int k t, .int 1 (s.toks + 1)] } = H
  have M2 : Mw B X P Z own m σ { s with heap := H, toks := s.toks + 1 + 1 } := M.grow (fun b o e => hH ▸ Heap.get?_push_of_some _ e) rfl rfl
  have rs : Builtin.Range.rangeSize 0 k 1 = k := by rw [rangeSize_one]; split <;> lia
  rw [rs]
  refine ⟨Z, _, σ, H.objs.size, [H.objs.size], _, tput own H.objs.size .other, rfl, hz, M2.newOther (fresh_none (Nat.le_refl _)) (fun b o e => Heap.get?_push_of_some _ e), one_other, It.of_range (n := k.toNat), ?_, by rw [List.length_map, List.length_range]; lia, q⟩
  have e1 : ((0 : Int) + ((0 : Nat) : Int) * 1) = 0 := rfl
  have e2 : ((k.toNat : Nat) : Int) - ((0 : Nat) : Int) = k := by lia
  rw [e1, e2]
  exact Heap.get?_push_size _ rfl
theorem enum_sound {v : V} {u : Value} {Q : QL} {Z0 : PM} (hz : Zle Z0 Z) (M : Mw B X P Z own m σ s) (r : RV Z u v) (h : flP v fun vs => Q (enumV 0 vs) σ) :
    wpAny (model B.prog B.w) X.A (PySem.call (.type "enumerate") [u] []) (fun xv s1 => wpAny (model B.prog B.w) X.A (pyIter xv) (PoI B X P Z0 true m Q) (fun zz zz => False) s1) (fun zz zz => False) s := by
  obtain ⟨vs, rfl, q⟩ := flP.out h
  obtain ⟨a, o, us, ep, rfl, hza, hc, ⟨hdn, hd⟩, hs, rs⟩ := r
  have ho := (M.kz _ _ hza).1
  have hl : s.heap.IsList a us := ⟨o, ho, hc, ep, hd⟩
  have hlt := Heap.lt_size ho
  have hn0 : s.heap.get? s.heap.objs.size = none := fresh_none (Nat.le_refl _)
  have hn1 : s.heap.get? (s.heap.objs.size + 1) = none := fresh_none (Nat.le_succ _)
  refine call_enumerate_list hl fun h' he hit hsz hk => wpAny_pyIter_enum he ?_
  refine ⟨Z, _, σ, _, [s.heap.objs.size + 1, s.heap.objs.size], _, _, rfl, hz, (M.newOther hn0 (s' := s) fun b o e => e).newOther hn1 hk, fun b hb => ?_, It.of_enum hza (Nat.succ_ne_self _) (Nat.ne_of_lt (Nat.lt_succ_of_lt hlt)) (Nat.ne_of_lt hlt) rs, ⟨⟨_, he⟩, hit, ⟨o, hk _ _ ho, hc, ep, hd⟩⟩, by rw [enumV_length, ← rs.length, Array.length_toList]; exact hs, q⟩
  rcases List.mem_cons.mp hb with rfl | hb
  · exact tput_self
  · cases List.mem_singleton.mp hb
    exact (if_neg (Nat.ne_of_lt (Nat.lt_succ_self _))).trans tput_self

theorem iter_sound {tup : Bool} {e : Expr} {Q : QL} {room} (hB : BaseOk B) (hX : Xok B X room) (hS : ScOk X sc) (S : Snd B T X sc) (hb : BaseIn B P) (M : Mt B X P Z m σ s) (h : iterP B.G T sc tup e m σ Q) :
    (∀ x, foldedSetIterable e X.env x = pure x) ∧ ItOk B X P Z tup m Q e s := by
  have plain : iterO T sc tup e m σ Q → (∀ x, foldedSetIterable e X.env x = pure x) ∧ ItOk B X P Z tup m Q e s := fun h => by
    obtain ⟨ht, h1⟩ := chk.out h
    obtain ⟨hns, h2⟩ := chk.out h1
    clear h h1
    refine ⟨fun x => folded_of hns, ?_⟩
    · cases tup with
      | true => exact nomatch (show false = true from ht)
      | false => exact S.go h2 hb M fun u s1 Z1 v σ1 z1 ⟨own, M1⟩ r1 q1 => wpAny_mono (items_sound (Q := Q) M1 r1 q1) (fun zz zz h => h.up z1) fun zz zz x => x
  unfold iterP at h
  cases hr : rngOf e with
  | none => rw [hr] at h; exact plain h
  | some fe =>
    rw [hr] at h
    obtain ⟨f, e₁⟩ := fe
    obtain ⟨hd, fv, hv, h⟩ := nameP.out h
    cases fv with
    | ty t =>
      obtain ⟨p, pos, rfl⟩ := rng_out hr
      refine ⟨fun zz => rfl, ?_⟩
      obtain ⟨hst, h1⟩ := chk.out h
      clear h
      rcases sel.out h1 with ⟨e, h2⟩ | h2 <;> clear h1
      · cases of_decide_eq_true e
        obtain ⟨ht, h4⟩ := chk.out h2
        cases tup with
        | true => exact nomatch (show false = true from ht)
        | false => exact type_call hB hX hS S hb M hd hv hst h4 fun u s1 Z1 v σ1 z1 ⟨own, M1⟩ r1 q1 => range_sound z1 M1 r1 q1
      · obtain ⟨e, h3⟩ := chk.out h2
        clear h2
        cases of_decide_eq_true e
        obtain ⟨ht, h4⟩ := chk.out h3
        cases tup with
        | false => exact nomatch (show false = true from ht)
        | true => exact type_call hB hX hS S hb M hd hv hst h4 fun u s1 Z1 v σ1 z1 ⟨own, M1⟩ r1 q1 => enum_sound z1 M1 r1 q1
    | _ => exact plain h

end Mine

namespace Mine
set_option tactic.hygienic false
set_option genSizeOfSpec false
open PySem PySem.W PyProof.Rows PySem.Calls
set_option maxRecDepth 100000
variable {B : Base} {X X' : Fx} {P P' Z : PM} {own own1 : Addr → Tag} {m m' : Lo} {σ : AH} {s : Shared} {sc : Scope} {T : EvT} {G : Str → Option V} {call : Calls}

theorem getL_setL {x y : Str} {v : V} {m : Lo} : getL y (setL x v m) = if y = x then some v else getL y m := by
  by_cases h : y = x
  · subst h; rw [if_pos rfl]; exact getL_hit
  · rw [if_neg h]; exact getL_ne h

noncomputable def closC (env : Env) (sc' : Scope) : List (Str × Addr) := ((sc'.names.filter (·.2 == .free)).map fun n => (n.1, (env.cells.lookup n.1).getD 0)).reverse

theorem closure_eq {env : Env} {sc' : Scope} (h : ∀ n ∈ sc'.names, n.2 = .free → ∃ c, env.cells.lookup n.1 = some c) : closureFor sc' env = pure (closC env sc') := by
  have go : ∀ (l : List (Str × NameKind)) (acc : List (Str × Addr)), (∀ n ∈ l, n.2 = .free → ∃ c, env.cells.lookup n.1 = some c) →
      (forIn l acc fun n r => (do
        let (name, kind) := n
        if kind == .free then do let c ← cellOf env name; pure (ForInStep.yield ((name, c) :: r)) else pure (ForInStep.yield r) : Sem _)) =
      pure (((l.filter (·.2 == .free)).map fun n => (n.1, (env.cells.lookup n.1).getD 0)).reverse ++ acc) := by
    intro l
    induction l with
    | nil => intro acc _; rfl
    | cons n l ih =>
      intro acc h
      obtain ⟨n, k⟩ := n
      rw [List.forIn_cons]
      by_cases hk : k = .free
      · subst hk
        obtain ⟨c, hc⟩ := h (n, .free) (.head _) rfl
        have e1 : cellOf env n = pure c := by unfold cellOf; rw [hc]
        simp only [beq_self_eq_true, if_true, e1, pure_bind]
        rw [ih _ fun x hx => h x (.tail _ hx)]
        simp [hc]
      · have e1 : (k == NameKind.free) = false := by simpa using hk
        simp only [e1, Bool.false_eq_true, if_false, pure_bind]
        rw [ih _ fun x hx => h x (.tail _ hx)]
        simp [e1]
  unfold closureFor
  have := go sc'.names [] h
  simp only [List.append_nil] at this
  show (forIn sc'.names [] _ >>= fun r => pure r) = _
  rw [show (forIn sc'.names ([] : List (Str × Addr)) _ : Sem _) = _ from this]
  rfl

theorem lookup_closC {env : Env} {y : Str} {c : Addr} {sc' : Scope} (h : (closC env sc').lookup y = some c) (h' : ∀ n ∈ sc'.names, n.2 = .free → ∃ c, env.cells.lookup n.1 = some c) :
    env.cells.lookup y = some c ∧ ∃ n ∈ sc'.names, n.1 = y ∧ n.2 = .free := by
  have hm : (y, c) ∈ closC env sc' := mem_of_lookup h
  unfold closC at hm
  simp only [List.mem_reverse, List.mem_map, List.mem_filter, beq_iff_eq] at hm
  obtain ⟨⟨n, k⟩, ⟨hn, hk⟩, e⟩ := hm
  cases e
  simp only at hk
  obtain ⟨c, hc⟩ := h' _ hn hk
  exact ⟨by simp only at hc ⊢; rw [hc]; rfl, _, hn, rfl, hk⟩

theorem lookup_closC_some {env : Env} {y : Str} {sc' : Scope} (hy : ∃ n ∈ sc'.names, n.1 = y ∧ n.2 = .free) : ∃ c, (closC env sc').lookup y = some c := by
  obtain ⟨⟨n, k⟩, hn, rfl, hk⟩ := hy
  simp only at hk; subst hk
  cases e : (closC env sc').lookup n with
  | some c => exact ⟨c, rfl⟩
  | none =>
    exfalso
    rw [List.lookup_eq_none_iff] at e
    have := e (n, (env.cells.lookup n).getD 0) (by
      unfold closC
      simp only [List.mem_reverse, List.mem_map, List.mem_filter, beq_iff_eq]
      exact ⟨(n, .free), ⟨hn, rfl⟩, rfl⟩)
    simp at this

theorem lookup_relabel {env : Env} (hk : env.scope.kind = .function) {y : Str} : ∀ {names : List (Str × NameKind)}, (∀ n ∈ names, n.2 = .free → env.kindOf n.1 = some .cell) →
    (names.map fun (n, k) => if (k == NameKind.free && env.scope.kind == .function && env.kindOf n == some .cell) then (n, NameKind.cell) else (n, k)).lookup y =
    (names.lookup y).map fun k => if k = .free then .cell else k
  | [], _ => by simp
  | (n, k) :: r, h => by
    have ih := lookup_relabel hk (y := y) fun x hx => h x (List.mem_cons_of_mem _ hx)
    have h1 := h (n, k) (.head _)
    simp only [List.map_cons, List.lookup_cons]
    by_cases q : k = .free
    · subst q
      have h1 := h1 rfl
      simp only at h1
      simp only [beq_self_eq_true, hk, h1, Bool.and_self, if_true, List.lookup_cons]
      split
      · simp
      · rw [hk] at ih; exact ih
    · have e1 : (k == NameKind.free) = false := by simpa using q
      simp only [e1, Bool.false_and, Bool.false_eq_true, if_false, List.lookup_cons]
      split
      · simp [q]
      · exact ih

/-- The frame of a comprehension. -/
noncomputable def compX (X : Fx) (sc' : Scope) (C : Addr) : Fx := { A := X.A, env := compEnvC sc' (closC X.env sc') C X.env, wr := false }

structure CompOk (X : Fx) (x : Str) (sc' : Scope) : Prop where
  kind : sc'.kind = .function
  nocell : ∀ n ∈ sc'.names, n.2 ≠ .cell
  loc : ∀ n ∈ sc'.names, n.2 = .local → n.1 = x ∨ n.1 = Str.ofString ".0"
  lk : ∀ n ∈ sc'.names, n.2 = .local → sc'.names.lookup n.1 = some .local
  free : ∀ n ∈ sc'.names, n.2 = .free → X.env.kindOf n.1 = some .cell
  lx : sc'.names.lookup x = some .local

theorem compOk_of {x : Str} {sc' : Scope} (hS : ScOk X sc) (h : freesOk x sc' sc = true) (hx : sc'.names.lookup x = some .local) : CompOk X x sc' := by
  unfold freesOk at h
  simp only [Bool.and_eq_true, beq_iff_eq, List.all_eq_true] at h
  obtain ⟨hk, h⟩ := h
  refine ⟨hk, fun n hn e => ?_, fun n hn e => ?_, fun n hn e => ?_, fun n hn e => ?_, hx⟩
  · have := h n hn; obtain ⟨n, k⟩ := n; simp only at e; subst e; simp at this
  · have := h n hn; obtain ⟨n, k⟩ := n; simp only at e; subst e; simp at this; exact this.1
  · have := h n hn; obtain ⟨n, k⟩ := n; simp only at e; subst e; simp at this; exact this.2
  · have := h n hn; obtain ⟨n, k⟩ := n; simp only at e; subst e
    simp at this
    have z := hS.kind _ _ this
    simpa using z

theorem CompOk.cells {x : Str} {sc' : Scope} {room} (hC : CompOk X x sc') (hX : Xok B X room) : ∀ n ∈ sc'.names, n.2 = .free → ∃ c, X.env.cells.lookup n.1 = some c := fun n hn e => hX.hc _ (.inl (hC.free n hn e))

theorem CompOk.kindOf {x : Str} {sc' : Scope} {room} {C : Addr} (hC : CompOk X x sc') (hX : Xok B X room) (y : Str) : (compX X sc' C).env.kindOf y = (sc'.names.lookup y).map fun k => if k = .free then .cell else k :=
  lookup_relabel hX.hk hC.free

theorem comp_xok {x : Str} {sc' : Scope} {room} {C : Addr} (hC : CompOk X x sc') (hX : Xok B X room) (hCL : X.env.locals ≤ C) : Xok B (compX X sc' C) room where
  hL := Nat.le_trans hX.hL hCL
  hh := hX.hh
  hk := hC.kind
  hg := hX.hg
  hb := hX.hb
  hc y h := by
    rw [hC.kindOf hX] at h
    have : ∃ n ∈ sc'.names, n.1 = y ∧ n.2 = .free := by
      cases e : sc'.names.lookup y with
      | none => rw [e] at h; simp at h
      | some k =>
        have hm := mem_of_lookup e
        refine ⟨_, hm, rfl, ?_⟩
        rw [e] at h
        simp only [Option.map_some, Option.some.injEq] at h
        by_cases q : k = .free
        · exact q
        · simp only [q, if_false, or_false] at h
          exact absurd h (hC.nocell _ hm)
    exact lookup_closC_some this
  hcode := hX.hcode
  hu := hX.hu
  hd := hX.hd

theorem comp_scok {x : Str} {sc' : Scope} {room} {C : Addr} (hC : CompOk X x sc') (hX : Xok B X room) : ScOk (compX X sc' C) sc' where
  kind y k h := by rw [hC.kindOf hX, h]; rfl
  sub y k h e := by
    subst e
    rw [hC.kindOf hX] at h
    cases e : sc'.names.lookup y with
    | none => rw [e] at h; cases h
    | some k =>
      rw [e] at h
      simp only [Option.map_some, Option.some.injEq] at h
      split at h
      · cases h
      · rename_i q; exact q h

/-- What the element of a comprehension must not touch. -/
noncomputable def cellsOf (env : Env) : List Addr := env.cells.filterMap fun n => env.cells.lookup n.1
noncomputable def compG (X : Fx) (D : Addr) (wr : List Addr) : List Addr := X.env.locals :: D :: (wr ++ cellsOf X.env)

theorem mem_cells {env : Env} {y : Str} {c : Addr} (h : env.cells.lookup y = some c) : c ∈ cellsOf env := List.mem_filterMap.mpr ⟨(y, c), mem_of_lookup h, h⟩
theorem of_cells {env : Env} {c : Addr} (h : c ∈ cellsOf env) : ∃ y, env.cells.lookup y = some c := by
  obtain ⟨n, _, e⟩ := List.mem_filterMap.mp h; exact ⟨_, e⟩

theorem Mw.compTags {D : Addr} {wr : List Addr} (M : Mw B X P Z own m σ s) (hoD : own D = .other) (how : ∀ b ∈ wr, own b = .other) : ∀ b ∈ compG X D wr, own b ≠ .froz ∧ own b ≠ .obj ∧ ∀ c, own b ≠ .dic c := fun b hb => by
  unfold compG at hb
  simp only [List.mem_cons, List.mem_append] at hb
  rcases hb with rfl | rfl | hb | hb
  · rw [M.lo.ns]; exact ⟨nofun, nofun, nofun⟩
  · rw [hoD]; exact ⟨nofun, nofun, nofun⟩
  · rw [how b hb]; exact ⟨nofun, nofun, nofun⟩
  · obtain ⟨y, hy⟩ := of_cells hb
    rcases (M.ce y b hy).ns with ⟨_, h⟩ | ⟨_, h, _⟩ <;> rw [h] <;> exact ⟨nofun, nofun, nofun⟩

/-- Into the frame of the comprehension. -/
theorem comp_in {x : Str} {sc' : Scope} {room} {C D : Addr} {wr : List Addr} {v : V} {u : Value} {mm : Str → Option Value} (hC : CompOk X x sc') (hX : Xok B X room) (M : Mw B X P Z own m σ s) (hoC : own C = .other) (hoD : own D = .other) (how : ∀ b ∈ wr, own b = .other)
    (hCg : C ∉ compG X D wr) (hn : s.heap.Ns C mm) (hu : mm x = some u) (r : RV Z u v) (hdot : getL (Str.ofString ".0") m = none) :
    Mw B (compX X sc' C) (gput P (compG X D wr) s.heap) Z (tput (tputs own (compG X D wr) .prot) C .locals) (setL x v m) σ s := by
  have tg := M.compTags hoD how
  have kC := fun y => hC.kindOf hX (C := C) y
  refine M.swap (fun a o e => ?_) (fun a h => ?_) ⟨by simp [tput, compX, compEnvC], mm, hn, fun y w hw hk => ?_⟩ fun y c e => ?_
  · unfold gput at e
    split at e
    · rename_i q
      have : a ≠ C := fun z => hCg (z ▸ q)
      exact ⟨e, by simp [tput, tputs, q, this]⟩
    · rename_i q
      have z := M.kp a o e
      have : a ≠ C := by rintro rfl; rw [hoC] at z; cases z.2
      exact ⟨z.1, by simp [tput, tputs, q, this, z.2]⟩
  · have n1 : a ∉ compG X D wr := fun q => by
      have z := tg a q
      rcases h with h | h | ⟨c, h⟩
      · exact z.1 h
      · exact z.2.1 h
      · exact z.2.2 c h
    have n2 : a ≠ C := by
      rintro rfl; rw [hoC] at h; simp at h
    simp [tput, tputs, n1, n2]
  · rw [kC] at hk
    have hy : y = x ∨ y = Str.ofString ".0" := by
      cases e : sc'.names.lookup y with
      | none => rw [e] at hk; cases hk
      | some k =>
        rw [e] at hk
        simp only [Option.map_some, Option.some.injEq] at hk
        have hm := mem_of_lookup e
        split at hk
        · cases hk
        · subst hk; exact hC.loc _ hm rfl
    rw [getL_setL] at hw
    by_cases q : y = x
    · subst q
      simp only [if_true, Option.some.injEq] at hw
      subst hw
      exact ⟨u, hu, r⟩
    · rw [if_neg q] at hw
      rcases hy with hy | rfl
      · exact absurd hy q
      · rw [hdot] at hw; cases hw
  · obtain ⟨e', n, hnm, hny, hnk⟩ := lookup_closC (env := X.env) e (hC.cells hX)
    have hkc := hC.free n hnm hnk
    rw [hny] at hkc
    obtain ⟨t, u0, hc, rr⟩ := M.ce y c e'
    have cg : c ∈ compG X D wr := by unfold compG; simp [mem_cells e']
    have cC : c ≠ C := fun z => hCg (z ▸ cg)
    obtain ⟨ob, hob, _⟩ := id hc
    refine ⟨.inr ⟨rfl, by simp [tput, tputs, cg, cC], ob, by simp [gput, cg, hob]⟩, u0, hc, fun w hw hk => ?_⟩
    refine rr w ?_ (by rw [hkc]; simp)
    rw [getL_setL] at hw
    by_cases q : y = x
    · subst q
      rw [kC, hC.lx] at hk
      simp at hk
    · simpa [q] using hw

/-- And back. -/
inductive CompO (B : Base) (X : Fx) (P Z' : PM) (m : Lo) (σ' : AH) (s s' : Shared) (C D : Addr) (wr : List Addr) : Prop
  | mk (own2 : Addr → Tag) (M : Mw B X P Z' own2 m σ' s') (k : ∀ b o, b ∈ compG X D wr → s.heap.get? b = some o → s'.heap.get? b = some o) (oC : C ∉ compG X D wr → own2 C = .other) (oD : own2 D = .other) (ow : ∀ b ∈ wr, own2 b = .other)
theorem comp_out {sc' : Scope} {C D : Addr} {wr : List Addr} {Z' : PM} {own' : Addr → Tag} {m1 : Lo} {σ' : AH} {s' : Shared} (M : Mw B X P Z own m σ s) (hz : Zle Z Z') (hoD : own D = .other) (how : ∀ b ∈ wr, own b = .other) (hal : ∀ b ∈ D :: wr, ∃ o, s.heap.get? b = some o)
    (M' : Mw B (compX X sc' C) (gput P (compG X D wr) s.heap) Z' own' m1 σ' s') :
    CompO B X P Z' m σ' s s' C D wr := by
  let own2 := fun a => if a ∈ compG X D wr then own a else if a = C then .other else own' a
  have al : ∀ b ∈ compG X D wr, ∃ o, s.heap.get? b = some o := fun b hb => by
    unfold compG at hb
    simp only [List.mem_cons, List.mem_append] at hb
    rcases hb with rfl | rfl | hb | hb
    · obtain ⟨_, mm, ⟨ob, es, ep, ho, _⟩, _⟩ := M.lo; exact ⟨ob, ho⟩
    · exact hal _ (.head _)
    · exact hal _ (.tail _ hb)
    · obtain ⟨y, hy⟩ := of_cells hb
      obtain ⟨_, u0, ⟨ob, ho, _⟩, _⟩ := M.ce y b hy; exact ⟨ob, ho⟩
  have pr : ∀ b o, b ∈ compG X D wr → s.heap.get? b = some o → s'.heap.get? b = some o ∧ own' b = .prot := fun b o hb e => M'.kp b o (by simp [gput, hb, e])
  have hl : own' C = .locals := M'.lo.ns
  refine ⟨own2, M'.swap (fun a o e => ?_) (fun a h => ?_) ?_ fun y c e => ?_, fun b o hb e => (pr b o hb e).1, fun h => by simp [own2, h], by simp [own2, compG, hoD], fun b hb => ?_⟩
  · have z := M.kp a o e
    by_cases q : a ∈ compG X D wr
    · exact ⟨(pr a o q z.1).1, by simp [own2, q, z.2]⟩
    · have z' := M'.kp a o (by simp [gput, q, e])
      have : a ≠ C := by rintro rfl; rw [hl] at z'; cases z'.2
      exact ⟨z'.1, by simp [own2, q, this, z'.2]⟩
  · have n1 : a ∉ compG X D wr := fun q => by
      obtain ⟨o, e⟩ := al a q
      rw [(pr a o q e).2] at h; simp at h
    have n2 : a ≠ C := by rintro rfl; rw [hl] at h; simp at h
    simp [own2, n1, n2]
  · obtain ⟨t, mm, hn, rr⟩ := M.lo
    exact ⟨(if_pos (.head _)).trans t, mm, ns_at hn fun ob ho => (pr _ _ (.head _) ho).1, fun y w a b => let ⟨u, p, q⟩ := rr y w a b; ⟨u, p, q.mono hz⟩⟩
  · obtain ⟨t, u0, hc, rr⟩ := M.ce y c e
    have cg : c ∈ compG X D wr := by unfold compG; simp [mem_cells e]
    have co : own2 c = own c := if_pos cg
    exact ⟨co.symm ▸ t, u0, cell_at hc fun ob ho => (pr _ _ cg ho).1, fun w a b => let ⟨u, p, q⟩ := rr w a b; ⟨u, p, q.mono hz⟩⟩
  · have : b ∈ compG X D wr := by simp [compG, hb]
    simp only [own2, this, if_true]; exact how b hb

/-- A list of no role finds its role. -/
theorem Mw.reOther {D : Addr} (M : Mw B X P Z own m σ s) (hoD : own D = .other) (t : Tag) : Mw B X P Z (tput own D t) m σ s := by
  have tn : ∀ b, own b ≠ .other → tput own D t b = own b := fun b h => if_neg (by rintro rfl; exact h hoD)
  refine M.swap (fun a o e => ?_) (fun a h => tn a (by rcases h with h | h | ⟨c, h⟩ <;> rw [h] <;> nofun)) ?_ fun y c e => ?_
  · have z := M.kp a o e
    exact ⟨z.1, (tn a (by rw [z.2]; nofun)).trans z.2⟩
  · obtain ⟨a, mm, hn, r⟩ := M.lo
    exact ⟨(tn _ (by rw [a]; nofun)).trans a, mm, hn, r⟩
  · obtain ⟨a, u0, hc, r⟩ := M.ce y c e
    exact ⟨a.imp (fun q => ⟨q.1, (tn _ (by rw [q.2]; nofun)).trans q.2⟩) (fun q => ⟨q.1, (tn _ (by rw [q.2.1]; nofun)).trans q.2.1, q.2.2⟩), u0, hc, r⟩
inductive PromO (B : Base) (X : Fx) (P Z : PM) (own : Addr → Tag) (m : Lo) (s : Shared) (D : Addr) (Q : QV) : Prop
  | mk (Z' : PM) (v : V) (σ' : AH) (own' : Addr → Tag) (hz : Zle Z Z') (M : Mw B X P Z' own' m σ' s) (r : RV Z' (.ref D) v) (q : Q v σ') (k : ∀ b, b ≠ D → own' b = own b)
theorem promote {D : Addr} {us : Array Value} {vs : List V} {Q : QV} {c : Nat} (M : Mw B X P Z own m σ s) (hoD : own D = .other) (ho : s.heap.get? D = some { cls := .type "list", data := .seq us c }) (hl : us.size ≤ lineOf) (r : RVs Z us.toList vs) (q : newListP vs σ Q) :
    PromO B X P Z own m s D Q := by
  cases q with
  | fl q =>
    have zn : Z D = none := by
      cases e : Z D with
      | none => rfl
      | some o => exact nomatch hoD.symm.trans (M.kz D o e).2
    obtain ⟨hz, M2⟩ := (M.reOther hoD .froz).frz zn ho tput_self
    exact ⟨_, .fl vs, σ, _, hz, M2, ⟨D, { cls := .type "list", data := .seq us c }, us, c, rfl, zput_self, rfl, ⟨rfl, rfl⟩, hl, r.mono hz⟩, q, fun b hb => if_neg hb⟩
  | own q =>
    exact ⟨Z, .ref D, _, _, .refl Z, (M.reOther hoD .obj).own_put (n := D) (o := .list vs) ⟨us, ⟨c, ho⟩, hl, r⟩ tput_self, rfl, q D (M.notOb hoD nofun), fun b hb => if_neg hb⟩

end Mine

namespace Mine
set_option tactic.hygienic false
set_option genSizeOfSpec false
open PySem PySem.W PyProof.Rows PySem.Calls
set_option maxRecDepth 100000
variable {B : Base} {X X' : Fx} {P P' Z : PM} {own own1 : Addr → Tag} {m m' : Lo} {σ : AH} {s : Shared} {sc : Scope} {T : EvT} {G : Str → Option V}

noncomputable abbrev noE : Value → Shared → Prop := fun zz zz => False

noncomputable def turnP (prog : Program) (w : World) (A : Around) (elt : Expr) (ifs : List Expr) (acc : Value) (env : Env) (I : Nat → Shared → Prop) (n : Nat) (s₃ : Shared) : Prop :=
  wpAny (model prog w) A (forIn ifs true fun c r => if r = true then do let ok ← isTrue c env (eval c env); pure (ForInStep.yield ok) else pure (ForInStep.yield r)) (fun ok s₄ =>
            if ok = true then wpAny (model prog w) A (eval elt env) (fun x s₅ =>
              wpAny (model prog w) A (call (.builtin "list.append") [acc, x]) (fun zz s₆ => ∃ m, m < n ∧ I m s₆) noE s₅) noE s₄
            else ∃ m, m < n ∧ I m s₄) noE s₃

theorem comp_rule {R : Result → Shared → Prop} {prog : Program} {w : World} {A : Around} {elt target iter : Expr} {ifs : List Expr} {scope : Scope} {pos : Pos} {it acc : Value} {env : Env} (I : Nat → Shared → Prop)
    (turn : ∀ n s, I n s → wpAny (model prog w) A (pyNext it) (fun r s₁ => match r with
      | none => R (.ok .next) s₁
      | some v => wpAny (model prog w) A (letOwnedTupleGo target it v) (fun zz s₂ => wpAny (model prog w) A (assign target env v) (fun zz s₃ => turnP prog w A elt ifs acc env I n s₃) noE s₂) noE s₁) noE s)
    (n : Nat) (h : I n s) : codeAny (model prog w) A (.compLoop (.ListComp elt [⟨target, iter, ifs, 0⟩] scope pos) 0 it acc env) R s := by
  refine codeAny_loop rfl I (fun n s hI => ?_) n h
  show wpAny _ A ((compTurn (.ListComp elt [⟨target, iter, ifs, 0⟩] scope pos) 0 it acc env).onRaise (fun x => do noteFrame x env; theTreesLotGoes x)) _ _ s
  refine wpAny_noted ?_
  rw [compTurn_list]
  refine wpAny_bind (wpAny_standAt (wpAny_bind (wpAny_mono (turn n s hI) (fun r s₁ h₁ => ?_) fun zz zz h' => False.elim h')))
  cases r with
  | none => exact wpAny_pure h₁
  | some v =>
    refine wpAny_bind (wpAny_mono h₁ (fun zz s₂ h₂ => wpAny_bind (wpAny_mono h₂ (fun zz s₃ h₃ => wpAny_bind (wpAny_mono h₃ (fun ok s₄ h₄ => ?_) fun zz zz h' => False.elim h')) fun zz zz h' => False.elim h')) fun zz zz h' => False.elim h')
    cases ok with
    | false => exact wpAny_pure ⟨rfl, h₄⟩
    | true =>
      exact wpAny_bind (wpAny_bind (wpAny_mono h₄ (fun x s₅ h₅ => wpAny_bind (wpAny_mono h₅ (fun zz s₆ h₆ => wpAny_pure (wpAny_pure ⟨rfl, h₆⟩)) fun zz zz h' => False.elim h')) fun zz zz h' => False.elim h'))

theorem tests_rest {env : Env} {A : Around} {R : Bool → Shared → Prop} (h : R false s) : ∀ es : List Expr, wpAny (model B.prog B.w) A (forIn es false fun c r => if r = true then do let ok ← isTrue c env (eval c env); pure (ForInStep.yield ok) else pure (ForInStep.yield r)) R noE s
  | [] => wpAny_pure h
  | e :: es => by
    rw [List.forIn_cons]
    exact wpAny_bind (wpAny_pure (tests_rest h es))
theorem tests_sound (S : Snd B T X sc) (hb : BaseIn B P) : ∀ (es : List Expr) {Z Z0 : PM} {σ : AH} {s : Shared} {Q : QB}, Zle Z0 Z → Mt B X P Z m σ s → allP T sc m .And es σ Q →
    wpAny (model B.prog B.w) X.A (forIn es true fun c r => if r = true then do let ok ← isTrue c X.env (eval c X.env); pure (ForInStep.yield ok) else pure (ForInStep.yield r)) (PoB B X P Z0 m Q) noE s
  | [], Z, Z0, σ, s, Q, z, M, h => wpAny_pure ⟨Z, σ, z, M, h⟩
  | [e], Z, Z0, σ, s, Q, z, M, h => by
    rw [List.forIn_cons]
    exact wpAny_bind (wpAny_bind ((S.ts _ _ _ _ h).use hb M fun b s1 Z1 σ1 z1 M1 q1 => wpAny_pure (wpAny_pure ⟨Z1, σ1, z.trans z1, M1, q1⟩)))
  | e :: e2 :: es, Z, Z0, σ, s, Q, z, M, h => by
    have h : T.ts sc e m σ fun b σ => cnd b (allP T sc m .And (e2 :: es) σ Q) (Q false σ) := h
    rw [List.forIn_cons]
    refine wpAny_bind (wpAny_bind ((S.ts _ _ _ _ h).use hb M fun b s1 Z1 σ1 z1 M1 q1 => wpAny_pure ?_))
    rcases cnd.out q1 with ⟨rfl, q⟩ | ⟨rfl, q⟩
    · exact tests_sound S hb (e2 :: es) (z.trans z1) M1 q
    · exact tests_rest ⟨Z1, σ1, z.trans z1, M1, q⟩ (e2 :: es)

theorem baseIn_gputS {gs : List Addr} (hb : BaseIn B P) (M : Mw B X P Z own m σ s) : BaseIn B (gput P gs s.heap) := fun a o e => by
  unfold gput
  split
  · exact M.base hb _ _ e
  · exact hb a o e

inductive CInv (B : Base) (X : Fx) (P Z : PM) (T : EvT) (sc' : Scope) (m : Lo) (x : Str) (elt : Expr) (ifs : List Expr) (vs : List V) (Q : QL) (C D : Addr) (wr : List Addr) (St : Nat → Heap → Prop) (n : Nat) (s' : Shared) : Prop
  | mk (i : Nat) (Z' : PM) (σ' : AH) (own : Addr → Tag) (us : Array Value) (acc : List V) (mm : Str → Option Value) (hi : i ≤ vs.length) (hn : n = vs.length + 1 - i) (hz : Zle Z Z') (M : Mw B X P Z' own m σ' s') (oC : own C = .other) (oD : own D = .other) (ow : ∀ b ∈ wr, own b = .other)
    (hns : s'.heap.Ns C mm) (hD : s'.heap.PlainList D us) (hus : us.size ≤ i) (rs : RVs Z' us.toList acc) (st : St i s'.heap) (h : compL T sc' m x elt ifs (vs.drop i) acc σ' Q)
inductive CBack (B : Base) (X : Fx) (P Z : PM) (m : Lo) (σ : AH) (C D : Addr) (wr : List Addr) (St : Nat → Heap → Prop) (i : Nat) (s : Shared) (o : Obj) : Prop
  | mk (own : Addr → Tag) (mm : Str → Option Value) (M : Mw B X P Z own m σ s) (oC : own C = .other) (oD : own D = .other) (ow : ∀ b ∈ wr, own b = .other) (hn : s.heap.Ns C mm) (hD : s.heap.get? D = some o) (st : St i s.heap)
theorem comp_loop {x : Str} {px pos : Pos} {sc' : Scope} {elt iter : Expr} {ifs : List Expr} {I C D : Addr} {wr : List Addr} {St : Nat → Heap → Prop} {vs : List V} {Z0 : PM} {Q : QL} {RR : Result → Shared → Prop} {room}
    {mm : Str → Option Value} (hC : CompOk X x sc') (hX : Xok B X room) (S' : Snd B T (compX X sc' C) sc') (hb : BaseIn B P) (hI : It B Z0 false vs I wr St) (hlen : vs.length ≤ lineOf) (hCg : C ∉ compG X D wr) (hDw : D ∉ wr)
    (M : Mw B X P Z own m σ s) (hz0 : Zle Z0 Z) (hoC : own C = .other) (hoD : own D = .other) (how : ∀ b ∈ wr, own b = .other) (hn : s.heap.Ns C mm) (hD : s.heap.PlainList D #[]) (st : St 0 s.heap) (h : compL T sc' m x elt ifs vs [] σ Q) (hdot : getL (Str.ofString ".0") m = none)
    (hR : ∀ s' Z' σ' own' us acc mm, Zle Z Z' → Mw B X P Z' own' m σ' s' → own' C = .other → own' D = .other → s'.heap.Ns C mm → s'.heap.PlainList D us → us.size ≤ lineOf → RVs Z' us.toList acc → Q acc σ' → RR (.ok .next) s') :
    codeAny (model B.prog B.w) X.A (.compLoop (.ListComp elt [⟨.Name x px, iter, ifs, 0⟩] sc' pos) 0 (.ref I) (.ref D) (compX X sc' C).env) RR s := by
  have hCD : C ≠ D := fun e => hCg (e ▸ .tail _ (.head _))
  have hCw : C ∉ wr := fun e => hCg (.tail _ (.tail _ (List.mem_append_left _ e)))
  have hh := hX.hh
  refine comp_rule (CInv B X P Z T sc' m x elt ifs vs Q C D wr St) (fun n s1 hI1 => ?_) (vs.length + 1) ⟨0, Z, σ, own, #[], [], mm, Nat.zero_le _, rfl, .refl Z, M, hoC, hoD, how, hn, hD, Nat.le_refl _, rfl, st, h⟩
  obtain ⟨i, Z1, σ1, own1, us, acc, mm1, hi, rfl, hz1, M1, oC, oD, ow, hn1, hD1, hus, rs1, st1, h1⟩ := hI1
  clear h st hD hn M
  have hz01 := hz0.trans hz1
  by_cases hlt : i < vs.length
  · have hv : vs[i]? = some vs[i] := List.getElem?_eq_getElem hlt
    rw [List.drop_eq_getElem_cons hlt, compL_cons] at h1
    generalize vs[i] = v at hv h1
    refine wpAny_mono (hI.item i v hv X P Z1 own1 m σ1 s1 (.Name x px) (fun u s2 => wpAny (model B.prog B.w) X.A (assign (.Name x px) (compX X sc' C).env u) (fun zz s3 => turnP B.prog B.w X.A elt ifs (.ref D) (compX X sc' C).env (CInv B X P Z T sc' m x elt ifs vs Q C D wr St) (vs.length + 1 - i) s3) noE s2) hh rfl hz01 M1 ow st1 fun u s2 Z2 own2 hz2 M2 k2 r2 st2 => ?_)
      (fun r s2 ⟨u, e, h2⟩ => by subst e; exact h2) fun zz zz x => x
    have hz02 := hz01.trans hz2
    have hz12 := hz1.trans hz2
    obtain ⟨nD, hoD1⟩ := hD1
    have hD2 : s2.heap.get? D = some { cls := .type "list", data := .seq us nD } := (k2 D _ hoD1).2 hDw
    obtain ⟨hn2, oC2⟩ : s2.heap.Ns C mm1 ∧ own2 C = .other := ⟨ns_at hn1 fun ob e => (k2 C ob e).2 hCw, by obtain ⟨oc, es, ep, hoc, _⟩ := hn1; exact (k2 C oc hoc).1.trans oC⟩
    have oD2 : own2 D = .other := (k2 D _ hoD1).1.trans oD
    have ow2 : ∀ b ∈ wr, own2 b = .other := fun b hb => by
      obtain ⟨o, e⟩ := hI.alive _ _ st1 b hb
      exact (k2 b o e).1.trans (ow b hb)
    have kx : (compX X sc' C).env.kindOf x = some .local := by rw [hC.kindOf hX, hC.lx]; rfl
    refine wpAny_assign_Name (wpAny_storeName_local kx (by exact hn2) (fun h3 hn3 hs3 => ?_) (by have : (compX X sc' C).env.scope.kind = .function := hC.kind; rw [this]; rfl))
    generalize hs3e : ({ s2 with heap := h3, toks := s2.toks + 1 } : Shared) = s3
    have e3 : ∀ b o, b ≠ C → s2.heap.get? b = some o → s3.heap.get? b = some o := fun b o q e => by rw [← hs3e]; exact (hs3.2 b q).trans e
    have M3 : Mw B X P Z2 own2 m σ1 s3 := M2.chg (wr := [C]) (fun b hb => by cases List.mem_singleton.mp hb; exact oC2) (fun b o hb e => e3 b o (fun q => hb (q ▸ .head _)) e) (by rw [← hs3e]) (by rw [← hs3e])
    have hn3' : s3.heap.Ns C (fun y => if y = x then some u else mm1 y) := by rw [← hs3e]; exact hn3
    have hD3 := e3 D _ (Ne.symm hCD) hD2
    have keep3 : ∀ {j Z' s' s''} {own' own''} {σ' σ''}, Zle Z0 Z' → Mw B X P Z' own' m σ' s' → Mw B X P Z' own'' m σ'' s'' → St j s'.heap → (∀ b ∈ wr, ∀ o, s'.heap.get? b = some o → s''.heap.get? b = some o) → St j s''.heap := fun {j Z' s' s'' own' own'' σ' σ''} z A B st k =>
      hI.keep _ _ _ st k fun b o e => ⟨(A.kz b o (z _ _ e)).1, (B.kz b o (z _ _ e)).1⟩
    have st3 : St (i + 1) s3.heap := keep3 hz02 M2 M3 st2 fun b hb o e => e3 b o (fun z => hCw (z ▸ hb)) e
    have M4 := comp_in (v := v) (u := u) hC hX M3 oC2 oD2 ow2 hCg hn3' (if_pos rfl) r2 hdot
    have hb4 := baseIn_gputS (gs := compG X D wr) hb M3
    have back : ∀ {Z5 σ5 own5 s5}, Zle Z2 Z5 → Mw B (compX X sc' C) (gput P (compG X D wr) s3.heap) Z5 own5 (setL x v m) σ5 s5 → CBack B X P Z5 m σ5 C D wr St (i + 1) s5 { cls := .type "list", data := .seq us nD } := fun {Z5 σ5 own5 s5} hz5 M5 => by
      obtain ⟨own6, M6, k6, oC6, oD6, ow6⟩ := comp_out M3 hz5 oD2 ow2 (fun b hb => by
        rcases List.mem_cons.mp hb with rfl | hb
        · exact ⟨_, hD3⟩
        · exact hI.alive _ _ st3 b hb) M5
      obtain ⟨_, mm6, hn6, _⟩ := M5.lo
      exact ⟨_, mm6, M6, oC6 hCg, oD6, ow6, hn6, k6 D _ (.tail _ (.head _)) hD3, hI.keep _ _ _ st3 (fun b hb o e => k6 b o (.tail _ (.tail _ (List.mem_append_left _ hb))) e) fun b o e =>
        ⟨(M3.kz b o (hz02 _ _ e)).1, (M6.kz b o (hz5 _ _ (hz02 _ _ e))).1⟩⟩
    refine wpAny_mono (tests_sound S' hb4 ifs (.refl Z2) ⟨_, M4⟩ h1) (fun ok s5 ⟨Z5, σ5, hz5, ⟨own5, M5⟩, h5⟩ => ?_) fun zz zz x => x
    have dec : vs.length + 1 - (i + 1) < vs.length + 1 - i := by lia
    rcases cnd.out h5 with ⟨rfl, h6⟩ | ⟨rfl, h6⟩
    · refine S'.go h6 hb4 ⟨_, M5⟩ fun y s6 Z6 w σ6 hz6 ⟨own6, M6⟩ r6 q6 => ?_
      obtain ⟨own7, mm7, M7, oC7, oD7, ow7, hn7, hD7, st7⟩ := back (hz5.trans hz6) M6
      refine wpAny_list_append_plain ⟨nD, hD7⟩ (fun h8 pl8 hs8 => ?_) (Nat.le_trans hus (Nat.le_trans hi hlen))
      have k8 : ∀ b o, b ≠ D → s6.heap.get? b = some o → h8.get? b = some o := fun b o q e => (hs8.2 b q).trans e
      have M8 : Mw B X P Z6 own7 m σ6 { s6 with heap := h8 } := M7.chg (wr := [D]) (fun b hb => by cases List.mem_singleton.mp hb; exact oD7) (fun b o hb e => k8 b o (fun q => hb (q ▸ .head _)) e) rfl rfl
      refine ⟨vs.length + 1 - (i + 1), dec, i + 1, Z6, σ6, own7, us.push y, acc ++ [w], mm7, hlt, rfl, hz12.trans (hz5.trans hz6), M8, oC7, oD7, ow7, ns_at hn7 fun ob e => k8 C ob hCD e, pl8, by rw [Array.size_push]; exact Nat.succ_le_succ hus, ?_, keep3 (hz02.trans (hz5.trans hz6)) M7 M8 st7 fun b hb o e => k8 b o (fun z => hDw (z ▸ hb)) e, q6⟩
      rw [Array.toList_push]
      exact (rs1.mono (hz2.trans (hz5.trans hz6))).append (.cons r6 .nil)
    · obtain ⟨own6, mm6, M6, oC6, oD6, ow6, hn6, hD6, st6⟩ := back hz5 M5
      exact ⟨vs.length + 1 - (i + 1), dec, i + 1, Z5, σ5, own6, us, acc, mm6, hlt, rfl, hz12.trans hz5, M6, oC6, oD6, ow6, hn6, ⟨nD, hD6⟩, Nat.le_succ_of_le hus, rs1.mono (hz2.trans hz5), st6, h6⟩
  · obtain rfl : i = vs.length := Nat.le_antisymm hi (Nat.not_lt.mp hlt)
    rw [List.drop_length, compL_nil] at h1
    refine wpAny_mono (hI.done X P Z1 own1 m σ1 s1 (fun r s2 => r = none ∧ RR (.ok .next) s2) hh hz01 M1 ow st1 fun s2 M2 k2 => ⟨rfl, ?_⟩) (fun r s2 ⟨e, h2⟩ => by subst e; exact h2) fun zz zz x => x
    obtain ⟨nD, hoD1⟩ := hD1
    exact hR s2 Z1 σ1 own1 us acc mm1 hz1 M2 oC oD (ns_at hn1 fun ob e => k2 C ob hCw e) ⟨nD, k2 D _ hDw hoD1⟩ (Nat.le_trans hus hlen) rs1 h1

end Mine

namespace Mine
set_option tactic.hygienic false
set_option genSizeOfSpec false
open PySem PySem.W PyProof.Rows PySem.Calls
set_option maxRecDepth 100000
variable {B : Base} {X X' : Fx} {P P' Z : PM} {own own1 : Addr → Tag} {m m' : Lo} {σ : AH} {s : Shared} {sc : Scope} {T : EvT} {G : Str → Option V}

theorem comp_sound {x : Str} {px pos pos' : Pos} {sc' : Scope} {elt iter : Expr} {ifs : List Expr} {use : Option (Value → Sem Unit)} {Q : QV} {Q0 : Value → Shared → Prop} {room}
    (hB : BaseOk B) (hX : Xok B X room) (hS : ScOk X sc) (S : Snd B T X sc) (hC : CompOk X x sc') (S' : ∀ C, X.env.locals ≤ C → Snd B T (compX X sc' C) sc') (hb : BaseIn B P) (M : Mt B X P Z m σ s) (hdot : getL (Str.ofString ".0") m = none)
    (h : iterP B.G T sc false iter m σ (kComp T sc' m x elt ifs Q))
    (hk : ∀ s' Z' v σ' own' D C mm, Zle Z Z' → Mw B X P Z' own' m σ' s' → own' C = .other → s'.heap.Ns C mm → RV Z' (.ref D) v → Q v σ' → compPost (model B.prog B.w) X.A noE use Q0 (.ref D) C (.ok .next) s') :
    wpAny (model B.prog B.w) X.A (comprehension (.ListComp elt [⟨.Name x px, iter, ifs, 0⟩] sc' pos) sc' X.env pos' (newList []) false (eval iter X.env) use) Q0 noE s := by
  obtain ⟨hfs, hit⟩ := iter_sound hB hX hS S hb M h
  have hcl := closure_eq (hC.cells hX)
  refine wpAny_comprehension_free (use := use) rfl hfs hcl hC.kind hC.lk (wpAny_mono hit (fun xv s₁ h₁ => wpAny_mono h₁ (fun it s₂ h₂ => ?_) fun zz zz e => e) fun zz zz e => e)
  obtain ⟨Z1, vs, σ1, I, wr, St, own, rfl, hz1, M, how, hI, st, hlen, q⟩ := h₂
  refine wpAny_newObj_type (wpAny_newFunctionEnv hC.nocell (by intro y hy; simp at hy) (fun h₁ hns₁ hsb₁ => ?_) hC.kind)
  dsimp only at hns₁ hsb₁ ⊢
  generalize hH2 : s₂.heap.push { cls := .type "list", dict := none, data := .seq ([] : List Value).toArray } = H2 at hns₁ hsb₁ ⊢
  have hCe : H2.objs.size = s₂.heap.objs.size + 1 := by rw [← hH2, Heap.size_push]
  have hDC : s₂.heap.objs.size ≠ H2.objs.size := by rw [hCe]; exact Nat.ne_of_lt (Nat.lt_succ_self _)
  have below : ∀ b, b < s₂.heap.objs.size → b ≠ H2.objs.size ∧ b ≠ s₂.heap.objs.size := fun b hb => ⟨by rw [hCe]; exact Nat.ne_of_lt (Nat.lt_succ_of_lt hb), Nat.ne_of_lt hb⟩
  have old : ∀ b o, s₂.heap.get? b = some o → h₁.get? b = some o := fun b o e => hsb₁.extBut b o (below b (Heap.lt_size e)).1 (Heap.get?_push_of_some _ (hH2 ▸ Heap.get?_push_of_some _ e))
  have hacc : h₁.PlainList s₂.heap.objs.size #[] := ⟨_, hsb₁.extBut _ _ hDC (Heap.get?_push_of_some _ (hH2 ▸ Heap.get?_push_size _ rfl))⟩
  have hn0 : s₂.heap.get? s₂.heap.objs.size = none := fresh_none (Nat.le_refl _)
  have hn1 : s₂.heap.get? H2.objs.size = none := fresh_none (by rw [hCe]; exact Nat.le_succ _)
  have M1 : Mw B X P Z1 (tput (tput own s₂.heap.objs.size .other) H2.objs.size .other) m σ1 { s₂ with heap := h₁, toks := s₂.toks + ([] : List (Str × Value)).length } :=
    (M.newOther hn0 (s' := s₂) fun b o e => e).newOther hn1 old
  have alw : ∀ b ∈ wr, ∃ o, s₂.heap.get? b = some o := fun b hb => hI.alive _ _ st b hb
  have lt : ∀ b o, s₂.heap.get? b = some o → b ≠ H2.objs.size ∧ b ≠ s₂.heap.objs.size := fun b o e => below b (Heap.lt_size e)
  have hCg : H2.objs.size ∉ compG X s₂.heap.objs.size wr := fun hm => by
    unfold compG at hm
    simp only [List.mem_cons, List.mem_append] at hm
    rcases hm with e | e | hm | hm
    · obtain ⟨_, mm, ⟨ob, es, ep, ho, _⟩, _⟩ := M.lo; exact (lt _ _ ho).1 e.symm
    · exact hDC e.symm
    · obtain ⟨o, e⟩ := alw _ hm; exact (lt _ _ e).1 rfl
    · obtain ⟨y, hy⟩ := of_cells hm
      obtain ⟨_, u0, ⟨ob, ho, _⟩, _⟩ := M.ce y _ hy; exact (lt _ _ ho).1 rfl
  have hDw : s₂.heap.objs.size ∉ wr := fun hm => by obtain ⟨o, e⟩ := alw _ hm; exact (lt _ _ e).2 rfl
  have loop : ∀ s₃ : Shared, s₃ = { s₂ with heap := h₁, toks := s₂.toks + ([] : List (Str × Value)).length } →
      codeAny (model B.prog B.w) X.A (.compLoop (.ListComp elt [⟨.Name x px, iter, ifs, 0⟩] sc' pos) 0 (.ref I) (.ref s₂.heap.objs.size) (compX X sc' H2.objs.size).env)
        (compPost (model B.prog B.w) X.A noE use Q0 (.ref s₂.heap.objs.size) H2.objs.size) s₃ := by
    rintro s₃ rfl
    refine comp_loop hC hX (S' _ (by obtain ⟨_, mm, ⟨ob, es, ep, ho, _⟩, _⟩ := M.lo; exact Nat.le_trans (Nat.le_of_lt (Heap.lt_size ho)) (by rw [hCe]; exact Nat.le_succ _))) hb hI hlen hCg hDw M1 (.refl Z1) tput_self ((if_neg hDC).trans tput_self) (fun b hb => ?_) hns₁ hacc ?_ q hdot fun s' Z' σ' own' us acc mm hz' M' oC oD hn' ⟨c, hD'⟩ hs' rs' q' => ?_
    · obtain ⟨o, e⟩ := alw b hb
      unfold tput
      rw [if_neg (lt b o e).1, if_neg (lt b o e).2]; exact how b hb
    · exact hI.keep _ _ _ st (fun b zz o e => old b o e) fun b o e => ⟨(M.kz b o e).1, old _ _ (M.kz b o e).1⟩
    · obtain ⟨Z2, v, σ2, own2, hz2, M2, r2, q2, k2⟩ := promote M' oD hD' hs' rs' q'
      exact hk s' Z2 v σ2 own2 _ _ mm (hz1.trans (hz'.trans hz2)) M2 ((k2 _ (Ne.symm hDC)).trans oC) hn' r2 q2
  exact codeAny_compStart_list (loop _ rfl) (hI.self _ _ _ _ hX.hh (hI.keep _ _ _ st (fun b zz o e => old b o e) fun b o e => ⟨(M.kz b o e).1, old _ _ (M.kz b o e).1⟩) (loop _ rfl))

theorem ev_comp {x : Str} {px pos : Pos} {sc' : Scope} {elt iter : Expr} {ifs : List Expr} {Q : QV} {room}
    (hB : BaseOk B) (hX : Xok B X room) (hS : ScOk X sc) (S : Snd B T X sc) (hC : CompOk X x sc') (S' : ∀ C, X.env.locals ≤ C → Snd B T (compX X sc' C) sc') (hdot : getL (Str.ofString ".0") m = none)
    (h : iterP B.G T sc false iter m σ (kComp T sc' m x elt ifs Q)) : Ev B X (eval (.ListComp elt [⟨.Name x px, iter, ifs, 0⟩] sc' pos) X.env) m σ Q := by
  intro P Z s hb M
  rw [eval_ListComp]
  refine comp_sound (use := none) hB hX hS S hC S' hb M hdot h fun s' Z' v σ' own' D C mm hz M' oC hn r q => ?_
  refine ⟨mm, hn, fun h' hs => ?_⟩
  have M2 : Mw B X P Z' own' m σ' { s' with heap := h' } := M'.chg (wr := [C]) (fun b hb => by cases List.mem_singleton.mp hb; exact oC) (fun b o hb e => (hs.2 b fun q => hb (q ▸ .head _)).trans e) rfl rfl
  exact ⟨Z', v, σ', hz, ⟨_, M2⟩, r, q⟩

end Mine

namespace Mine
set_option tactic.hygienic false
set_option genSizeOfSpec false
open PySem PySem.W PyProof.Rows PySem.Calls
set_option maxRecDepth 100000
variable {B : Base} {X X' : Fx} {P P' Z : PM} {own own1 : Addr → Tag} {m m' : Lo} {σ : AH} {s : Shared} {sc : Scope} {T : EvT} {G : Str → Option V} {cal : Calls}

theorem Xok.room200 {room} (hX : Xok B X room) : X.A.units + 200 < cLine := by have := hX.hu; lia

theorem Snd.evv (S : Snd B T X sc) {e : Expr} {Q : QV} (h : T.ev sc e m σ Q) : Ev B X (eval e X.env) m σ Q := S.ev _ _ _ _ h
theorem isLocal_out {sc : Scope} {x : Str} (h : isLocal sc x = true) : sc.names.lookup x = some .local := by
  unfold isLocal at h
  split at h
  · assumption
  · exact nomatch h
theorem genOf_out {gens : List Comprehension} {g : Gen} (h : genOf gens = some g) : ∃ p, gens = [⟨.Name g.x p, g.iter, g.ifs, 0⟩] := by
  match gens, h with
  | [], h => exact nn h
  | _ :: _ :: _, h => exact nn h
  | [⟨t, it, ifs, a⟩], h =>
    have h : (match nameOf t with | some x => (match (generalizing := false) a with | 0 => some (Gen.mk x it ifs) | _ => none) | none => none) = some g := h
    cases hn : nameOf t with
    | none => rw [hn] at h; exact nn h
    | some x =>
      rw [hn] at h
      obtain ⟨p, rfl⟩ := nameOf_out hn
      have h : (match (generalizing := false) a with | 0 => some (Gen.mk x it ifs) | _ => none) = some g := h
      split at h
      · cases h; exact ⟨p, rfl⟩
      · exact nn h
theorem intOf_out {e : Expr} {k : Int} (h : intOf e = some k) : ∃ n p, e = .Constant (.int k) n p := by
  cases e with
  | Constant c n p =>
    cases c with
    | int i => cases h; exact ⟨n, p, rfl⟩
    | _ => exact nn h
  | _ => exact nn h
theorem ff {C : Prop} (h : false = true) : C := nomatch h
theorem isOne_out {e : Expr} (h : isOne e = true) : ∃ n p, e = .Constant (.int 1) n p := by
  have h : (match intOf e with | some k => decide (k = 1) | none => false) = true := h
  cases he : intOf e with
  | none => rw [he] at h; exact ff h
  | some k =>
    rw [he] at h
    cases of_decide_eq_true h
    exact intOf_out he
theorem isM1_out {e : Expr} (h : isM1 e = true) : ∃ n p q, e = .UnaryOp .USub (.Constant (.int 1) n p) q := by
  cases e with
  | UnaryOp op x q =>
    cases op with
    | USub => obtain ⟨n, p, rfl⟩ := isOne_out h; exact ⟨n, p, q, rfl⟩
    | _ => exact ff h
  | _ => exact ff h
theorem slice_ev {o : Expr} {lo hi st : Option Expr} {p pos : Pos} {Q : QV} (S : Snd B T X sc) (h : evStep B.G cal T sc (.Subscript o (.Slice lo hi st p) pos) m σ Q) : Ev B X (eval (.Subscript o (.Slice lo hi st p) pos) X.env) m σ Q := by
  have h : (match sliceK lo hi st with
    | .rev => T.ev sc o m σ fun v σ => lkP σ v fun v => flP v fun vs => newListP vs.reverse σ Q
    | .upto k => T.ev sc o m σ fun v σ => lkP σ v fun v => flP v fun vs => 0 ≤ k ∧ k < 1000 ∧ newListP (vs.take k.toNat) σ Q
    | .bad => False
    | .item => T.ev sc o m σ (kSub T sc m (.Slice lo hi st p) Q)) := h
  cases lo with
  | some _ => exact h.elim
  | none =>
    cases hi with
    | some e =>
      have e1 : sliceK none (some e) st = (match (generalizing := false) intOf e with | some k => (match (generalizing := false) st with | none => .upto k | some _ => .bad) | none => .bad) := rfl
      cases he : intOf e with
      | none => rw [e1, he] at h; exact h.elim
      | some k =>
        rw [e1, he] at h
        obtain ⟨n, q, rfl⟩ := intOf_out he
        cases st with
        | none => exact ev_upto (S.evv h)
        | some _ => exact h.elim
    | none =>
      cases st with
      | none => exact h.elim
      | some e =>
        have e1 : sliceK none none (some e) = (match (generalizing := false) isM1 e with | true => .rev | false => .bad) := rfl
        cases he : isM1 e with
        | false => rw [e1, he] at h; exact h.elim
        | true =>
          rw [e1, he] at h
          obtain ⟨n, q, q', rfl⟩ := isM1_out he
          exact ev_rev (S.evv h)
theorem call_ev {f : Expr} {args : List Expr} {kw : List Keyword} {pos : Pos} {Q : QV} {room} (hB : BaseOk B) (hX : Xok B X room) (S : Snd B T X sc) (C : CallsOk B cal X) (h : evStep B.G cal T sc (.Call f args kw pos) m σ Q) : Ev B X (eval (.Call f args kw pos) X.env) m σ Q := by
  obtain ⟨hc, h1⟩ := chk.out h
  obtain ⟨hc1, hs⟩ := and_out hc
  obtain ⟨hk, h20⟩ := and_out hc1
  clear h hc hc1
  cases kw with
  | cons _ _ => exact ff hk
  | nil =>
    cases f with
    | Attribute o x ap =>
      obtain ⟨hc, h2⟩ := chk.out h1
      obtain ⟨hl, hn⟩ := and_out hc
      exact ev_method S (beq_iff_eq.mp hl) hn (Nat.le_of_ble_eq_true h20) hs h2
    | Name x p => exact ev_call hB hX S C hs h1
    | _ => exact (show False from h1).elim
theorem evStep_sound {e : Expr} {Q : QV} {room} (hB : BaseOk B) (hX : Xok B X room) (hS : ScOk X sc) (S : Snd B T X sc) (hT : ∀ X' sc', X'.A = X.A → Xok B X' room → ScOk X' sc' → Snd B T X' sc') (C : CallsOk B cal X)
    (h : evStep B.G cal T sc e m σ Q) : Ev B X (eval e X.env) m σ Q := by
  cases e with
  | Constant c k p => exact ev_const h
  | Name x p => exact ev_name hB hX hS h
  | BoolOp op es pos =>
    intro P Z s hb M
    show wpAny _ _ (boolOp pos op (evalEach es X.env)) _ _ _
    exact bool_sound S hb es (.refl Z) M h
  | BinOp l op r p => exact ev_binop S h
  | UnaryOp op x p =>
    cases op with
    | Not => exact ev_not S h
    | USub => exact ev_neg S h
    | _ => exact (show False from h).elim
  | IfExp t a b p => exact ev_ifexp S h
  | Compare l ops es p => exact ev_compare S hX.room200 h
  | List es p => exact ev_list S h
  | Tuple es k p => exact ev_tuple S h
  | Dict ks vs p => exact ev_dict hB S h
  | Set es k p =>
    cases es with
    | nil => exact (show False from h).elim
    | cons e es =>
      cases es with
      | nil =>
        obtain ⟨hk, h⟩ := chk.out h
        cases Nat.eq_of_beq_eq_true hk
        exact ev_set1 hB hX S h
      | cons _ _ => exact (show False from h).elim
  | ListComp elt gens sc' p =>
    obtain ⟨g, hg, h⟩ := optQ.out h
    obtain ⟨hc, h4, h3⟩ := chk.out h
    obtain ⟨q, rfl⟩ := genOf_out hg
    obtain ⟨h1, h2⟩ := and_out hc
    have hC := compOk_of hS h2 (isLocal_out h1)
    exact ev_comp hB hX hS S hC (fun c hc => hT _ _ rfl (comp_xok hC hX hc) (comp_scok hC hX)) h4 h3
  | Attribute o x p =>
    obtain ⟨hn, h⟩ := chk.out h
    exact ev_attr hB hn (S.evv h)
  | Subscript o i p =>
    have item : notSlice i = true → T.ev sc o m σ (kSub T sc m i Q) → Ev B X (eval (.Subscript o i p) X.env) m σ Q := fun hi h =>
      ev_item hi ((S.evv h).mono fun v σ h => S.evv h)
    clear hT C hB hX hS
    cases i with
    | Slice lo hi st p => exact slice_ev S h
    | _ => exact item rfl h
  | Call f args kw p => exact call_ev hB hX S C h
  | _ => exact (show False from h).elim

theorem evT_sound {A : Around} {room : Nat} (hB : BaseOk B) (C : ∀ X, X.A = A → Xok B X room → CallsOk B cal X) : ∀ (n : Nat) (X : Fx) (sc : Scope), X.A = A → Xok B X room → ScOk X sc → Snd B (evT B.G cal n) X sc
  | 0, X, sc, _, _, _ => ⟨fun e m σ Q h => (h : False).elim, fun e m σ Q h => (h : False).elim, fun e p m σ Q h => (h : False).elim⟩
  | n + 1, X, sc, hA, hX, hS => by
    have S := evT_sound hB C n X sc hA hX hS
    have hT : ∀ X' sc', X'.A = X.A → Xok B X' room → ScOk X' sc' → Snd B (evT B.G cal n) X' sc' := fun X' sc' e hX' hS' => evT_sound hB C n X' sc' (e.trans hA) hX' hS'
    exact ⟨fun e m σ Q h => evStep_sound hB hX hS S hT (C X hA hX) h, fun e m σ Q h => ts_sound S hX.room200 h, fun e p m σ Q h => (show False from h)⟩

end Mine

namespace Mine
set_option tactic.hygienic false
set_option genSizeOfSpec false
open PySem PySem.W PyProof.Rows PySem.Calls
set_option maxRecDepth 100000
variable {B : Base} {X X' : Fx} {P P' Z : PM} {own own1 : Addr → Tag} {m m' : Lo} {σ : AH} {s : Shared} {sc : Scope} {T : EvT} {G : Str → Option V}

inductive PoS (B : Base) (X : Fx) (P Z : PM) (Q : Lo → AH → Prop) (s' : Shared) : Prop
  | mk (Z' : PM) (m' : Lo) (σ' : AH) (hz : Zle Z Z') (M : Mt B X P Z' m' σ' s') (q : Q m' σ')
theorem PoS.up {Z' : PM} {Q : Lo → AH → Prop} {s' : Shared} (h : PoS B X P Z' Q s') (hz : Zle Z Z') : PoS B X P Z Q s' :=
  let ⟨Z'', m', σ', a, b, c⟩ := h; ⟨Z'', m', σ', hz.trans a, b, c⟩

/-- Only what the names say counts. -/
theorem Mw.same {m2 : Lo} (M : Mw B X P Z own m σ s) (h : ∀ x, getL x m2 = getL x m) : Mw B X P Z own m2 σ s where
  kp := M.kp
  kz := M.kz
  lo := by obtain ⟨a, mm, hn, r⟩ := M.lo; exact ⟨a, mm, hn, fun x v e => r x v ((h x).symm.trans e)⟩
  ce x c e := by obtain ⟨a, u0, hc, r⟩ := M.ce x c e; exact ⟨a, u0, hc, fun v e => r v ((h x).symm.trans e)⟩
  ob := M.ob
  gn := M.gn
  os := M.os

/-- What neither is owned nor the dictionary of an object of a class stays; the frame is said anew. -/
theorem Mw.chgf {s' : Shared} {m2 : Lo} (M : Mw B X P Z own m σ s) (kk : ∀ b ob, own b ≠ .locals → (∀ y, own b ≠ .cell y) → s.heap.get? b = some ob → s'.heap.get? b = some ob)
    (lo : LoOk X Z own m2 s'.heap) (ce : ∀ x c, X.env.cells.lookup x = some c → CeOk X P Z own m2 s'.heap x c) (hg : s'.gens = s.gens) (ho : s'.os = s.os) : Mw B X P Z own m2 σ s' where
  kp b ob e := have q := M.kp b ob e; ⟨kk b ob (by rw [q.2]; nofun) (by rw [q.2]; nofun) q.1, q.2⟩
  kz b ob e := have q := M.kz b ob e; ⟨kk b ob (by rw [q.2]; nofun) (by rw [q.2]; nofun) q.1, q.2⟩
  lo := lo
  ce := ce
  ob a o e := by
    have q := M.ob a o e
    refine ⟨q.1, q.2.keep (.refl Z) fun b ob eb hb => ?_⟩
    rcases hb with rfl | hb
    · exact ⟨kk b ob (by rw [q.1]; nofun) (by rw [q.1]; nofun) eb, rfl⟩
    · exact ⟨kk b ob (by rw [hb]; nofun) (by rw [hb]; nofun) eb, rfl⟩
  gn := hg.trans M.gn
  os := ho.trans M.os

theorem store_local {x : Str} {v : V} {u : Value} {R : Unit → Shared → Prop} {room} (hX : Xok B X room) (M : Mw B X P Z own m σ s) (hk : X.env.kindOf x = some .local) (r : RV Z u v)
    (k : ∀ s', Mw B X P Z own (setL x v m) σ s' → (∀ b o, b ≠ X.env.locals → s.heap.get? b = some o → s'.heap.get? b = some o) → R () s') : wpAny (model B.prog B.w) X.A (storeName X.env x u) R noE s := by
  obtain ⟨tl, mm, hn, rr⟩ := M.lo
  refine wpAny_storeName_local hk hn (fun h' hn' hs' => k _ ?_ fun b o hb e => (hs'.2 b hb).trans e) (by rw [hX.hk]; rfl)
  have kk : ∀ b o, own b ≠ .locals → s.heap.get? b = some o → h'.get? b = some o := fun b o hb e => (hs'.2 b (fun q => hb (q ▸ tl))).trans e
  refine M.chgf (fun b o hb zz e => kk b o hb e) ⟨tl, _, hn', fun y w hw hky => ?_⟩ (fun y c e => ?_) rfl rfl
  · rw [getL_setL] at hw
    by_cases q : y = x
    · rw [if_pos q] at hw
      cases hw
      exact ⟨u, if_pos q, r⟩
    · rw [if_neg q] at hw
      obtain ⟨u', hu', ru'⟩ := rr y w hw hky
      exact ⟨u', (if_neg q).trans hu', ru'⟩
  · have nc : own c ≠ .locals := (M.ce y c e).not nofun nofun
    obtain ⟨t, u0, hc, rc⟩ := M.ce y c e
    refine ⟨t, u0, cell_at hc fun ob hob => kk c ob nc hob, fun w hw hky => rc w ?_ hky⟩
    rw [getL_setL, if_neg (by rintro rfl; exact hky hk)] at hw
    exact hw

theorem store_cell {x : Str} {v : V} {u : Value} {R : Unit → Shared → Prop} {room} (hX : Xok B X room) (hw : X.wr = true) (M : Mw B X P Z own m σ s) (hk : X.env.kindOf x = some .cell) (r : RV Z u v)
    (k : ∀ s', Mw B X P Z own (setL x v m) σ s' → R () s') : wpAny (model B.prog B.w) X.A (storeName X.env x u) R noE s := by
  obtain ⟨c, hc⟩ := hX.hc x (.inl hk)
  obtain ⟨t, u0, hcell, rc⟩ := M.ce x c hc
  have tc : own c = .cell x := t.elim (·.2) fun t => nomatch hw.symm.trans t.1
  refine wpAny_storeName_cell hX.hk hk hc hcell fun h' hc' hs' => k _ ?_
  have kk : ∀ b o, own b ≠ .cell x → s.heap.get? b = some o → h'.get? b = some o := fun b o hb e => (hs'.2 b (fun q => hb (q ▸ tc))).trans e
  refine M.chgf (fun b o zz hb e => kk b o (hb x) e) ?_ (fun y c' e => ?_) rfl rfl
  · obtain ⟨tl, mm, hn, rr⟩ := M.lo
    refine ⟨tl, mm, ns_at hn fun ob ho => kk _ _ (by rw [tl]; nofun) ho, fun y w hw hky => rr y w ?_ hky⟩
    rw [getL_setL, if_neg (by rintro rfl; exact nomatch hk.symm.trans hky)] at hw
    exact hw
  · by_cases q : y = x
    · subst q
      cases hc.symm.trans e
      refine ⟨t, some u, hc', fun w hw zz => ⟨u, rfl, ?_⟩⟩
      rw [getL_setL, if_pos rfl] at hw
      cases hw; exact r
    · obtain ⟨t', u1, hc1, rc'⟩ := M.ce y c' e
      refine ⟨t', u1, cell_at hc1 fun ob hob => kk c' ob ?_ hob, fun w hw hky => rc' w ?_ hky⟩
      · rcases t' with t' | t'
        · rw [t'.2]; exact fun e => q (Tag.cell.inj e)
        · rw [t'.2.1]; nofun
      · rw [getL_setL, if_neg q] at hw; exact hw

theorem store_name {x : Str} {v : V} {u : Value} {R : Unit → Shared → Prop} {room} (hX : Xok B X room) (hS : ScOk X sc) (hw : X.wr = true) (M : Mw B X P Z own m σ s) (hk : isLoc sc x = true) (r : RV Z u v)
    (k : ∀ s', Mw B X P Z own (setL x v m) σ s' → R () s') : wpAny (model B.prog B.w) X.A (storeName X.env x u) R noE s := by
  unfold isLoc at hk
  cases hl : sc.names.lookup x with
  | none => rw [hl] at hk; exact ff hk
  | some kd =>
    rw [hl] at hk
    have hkd := hS.kind _ _ hl
    cases kd with
    | «local» => exact store_local hX M hkd r fun s' M' zz => k s' M'
    | cell => exact store_cell hX hw M hkd r k
    | _ => exact ff hk

theorem RF.putL {x : Str} {v : V} {u : Value} {hsh : Int} {t : Tok} (r : RV Z u v) : ∀ {es : List DictEntry} {fs : Lo}, RF Z es fs → RF Z (PySem.W.putL x hsh (.str x t) u es) (setL x v fs)
  | _, [], rf => by
    cases (show _ = [] from rf)
    exact ⟨_, _, rfl, ⟨t, rfl⟩, r, rfl⟩
  | _, (y, w) :: fs, rf => by
    obtain ⟨e, es', rfl, ⟨t', hk⟩, rw', rs⟩ := rf
    have hs : e.key.isStr x = decide (y = x) := by rw [hk]; rfl
    unfold PySem.W.putL setL
    rw [hs]
    by_cases q : y = x
    · subst q
      rw [if_pos (decide_eq_true rfl), if_pos rfl]
      exact ⟨_, _, rfl, ⟨t', hk⟩, r, rs⟩
    · rw [if_neg (by simpa using q), if_neg (fun e => q e.symm)]
      exact ⟨_, _, rfl, ⟨t', hk⟩, rw', rs.putL r⟩
theorem RF.length : ∀ {es : List DictEntry} {fs : Lo}, RF Z es fs → es.length = fs.length
  | _, [], rf => by cases (show _ = [] from rf); rfl
  | _, (y, w) :: fs, rf => by
    obtain ⟨e, es', rfl, _, _, rs⟩ := rf
    exact congrArg Nat.succ rs.length
theorem setL_length {x : Str} {v : V} : ∀ {fs : Lo}, (setL x v fs).length ≤ fs.length + 1
  | [] => Nat.le_refl _
  | (y, w) :: fs => by
    unfold setL
    by_cases q : x = y
    · rw [if_pos q]; exact Nat.le_succ _
    · rw [if_neg q]; exact Nat.succ_le_succ setL_length
theorem setL_names {x : Str} {v : V} : ∀ {fs : Lo}, ∀ y ∈ (setL x v fs).map (·.1), y = x ∨ y ∈ fs.map (·.1)
  | [], y, h => .inl (List.mem_singleton.mp h)
  | (z, w) :: fs, y, h => by
    unfold setL at h
    by_cases q : x = z
    · rw [if_pos q] at h; exact .inr h
    · rw [if_neg q] at h
      rcases List.mem_cons.mp h with h | h
      · exact .inr (h ▸ .head _)
      · exact (setL_names y h).imp id (.tail _)

noncomputable def allBut2 (L D : Addr) (h0 h : Heap) : List (Addr × Obj) := (allBut L h).filter fun p => decide (p.1 ≠ D) && (h0.get? p.1).isNone
theorem mem_allBut2 {L D : Addr} {h0 h : Heap} {a : Addr} {o : Obj} : (a, o) ∈ allBut2 L D h0 h ↔ (a ≠ L ∧ h.get? a = some o) ∧ a ≠ D ∧ h0.get? a = none := by
  unfold allBut2
  rw [List.mem_filter, mem_allBut, Bool.and_eq_true, decide_eq_true_eq, Option.isNone_iff_eq_none]

theorem setattr_sound {a c : Addr} {fs : Lo} {x : Str} {v : V} {u : Value} {R : Unit → Shared → Prop} {room} (hB : BaseOk B) (hX : Xok B X room) (hb : BaseIn B P) (M : Mw B X P Z own m σ s) (ho : σ a = some (.inst c fs)) (hx : okName x = true) (hl : fs.length < 100) (r : RV Z u v)
    (k : ∀ s', Mt B X P Z m (put σ a (.inst c (setL x v fs))) s' → R () s') : wpAny (model B.prog B.w) X.A (setAttr (.ref a) x u) R noE s := by
  obtain ⟨ta, hc, ok, d, es, ep, z, z', td, rf⟩ := M.ob _ _ ho
  obtain ⟨hd, hp, hsa, hxx⟩ := hB.cls c hc
  obtain ⟨_, _, htk⟩ := hxx x hx
  obtain ⟨tl, mm, hn, rr⟩ := M.lo
  have dL : d ≠ X.env.locals := by rintro rfl; exact nomatch tl.symm.trans td
  have F : Fr B.h0 X.env.locals s.heap mm := ⟨hn, M.base hb, hX.hL⟩
  have h0n : ∀ b o, B.h0.get? b = some o → own b = .prot := fun b o e => (M.kp b o (hb b o e)).2
  have none0 : ∀ b, own b ≠ .prot → B.h0.get? b = none := fun b h => by
    cases e : B.h0.get? b with
    | none => rfl
    | some o => exact absurd (h0n b o e) h
  have N : News B.h0 X.env.locals s.heap ((d, dictOf es ep) :: allBut2 X.env.locals d B.h0 s.heap) := fun p hp => by
    rcases List.mem_cons.mp hp with rfl | hp
    · exact ⟨z', dL, none0 d (by rw [td]; nofun)⟩
    · obtain ⟨⟨h2, h3⟩, _, h4⟩ := mem_allBut2.mp (show (p.1, p.2) ∈ _ from hp)
      exact ⟨h3, h2, h4⟩
  have gl : (PySem.W.getL x es).isSome = true := by
    unfold PySem.W.getL
    split
    · rfl
    · rw [noRefKey rf.keys]; rfl
  have rf' : RF Z (PySem.W.putL x (PyData.keyHash B.w.params x) (.str x (s.toks + 1)) u es) (setL x v fs) := rf.putL r
  refine set_dict F hB.kin N (instAt z z') rfl hsa hp htk hd gl rfl (Upd.head fun p hp => ((mem_allBut2.mp (show (p.1, p.2) ∈ _ from hp)).2.1)) (by rw [rf'.length]; have := @setL_length x v fs; lia) fun h' F' N' => k _ ⟨own, ?_⟩
  have kk : ∀ b ob, b ≠ X.env.locals → own b ≠ .dic a → s.heap.get? b = some ob → h'.get? b = some ob := fun b ob hbL hbd eb => by
    cases e : B.h0.get? b with
    | some o' =>
      cases (M.base hb b o' e).symm.trans eb
      exact F'.keep b _ e
    | none => exact (N' (b, ob) (.tail _ (mem_allBut2.mpr ⟨⟨hbL, eb⟩, by rintro rfl; exact hbd td, e⟩))).1
  have aL : a ≠ X.env.locals := by rintro rfl; exact nomatch ta.symm.trans tl
  refine M.chgl (fun b ob h1 h2 h3 h4 e => kk b ob (fun q => h4 (q ▸ tl)) (h2 a) e) ⟨tl, mm, F'.ns, rr⟩ (fun b ob e => ?_) rfl rfl
  unfold put at e
  split at e
  · rename_i q
    cases e; subst q
    refine ⟨ta, hc, fun y hy => ?_, d, _, PySem.W.putN x es ep, kk _ _ aL (by rw [ta]; nofun) z, (N' _ (.head _)).1, td, rf'⟩
    rcases setL_names y hy with rfl | hy
    · exact hx
    · exact ok y hy
  · rename_i q
    have zz := M.ob b ob e
    refine ⟨zz.1, zz.2.keep (.refl Z) fun c oc ec hc => ⟨kk c oc ?_ ?_ ec, rfl⟩⟩
    · rintro rfl
      rcases hc with rfl | hc
      · exact nomatch zz.1.symm.trans tl
      · exact nomatch tl.symm.trans hc
    · intro q'
      rcases hc with rfl | hc
      · exact nomatch zz.1.symm.trans q'
      · exact q (Tag.dic.inj (hc.symm.trans q'))

theorem putD_keep {k : Int} {u : Value} {v : V} (r : RV Z u v) : ∀ {us : List (Int × Value)} {kvs : List (Int × V)}, RD Z us kvs → (us.map (·.1)).Nodup → RD Z (PySem.stored us k u) (putD k v kvs)
  | _, [], rd, _ => by cases (show _ = [] from rd); exact ⟨u, [], rfl, r, rfl⟩
  | _, (j, w) :: kvs, rd, nd => by
    obtain ⟨u', us', rfl, r', rs⟩ := rd
    rw [List.map_cons, List.nodup_cons] at nd
    have ih := putD_keep r rs nd.2 (k := k)
    unfold putD
    unfold PySem.stored at ih ⊢
    rw [List.any_cons]
    by_cases q : k = j
    · subst q
      rw [if_pos rfl, decide_eq_true rfl, Bool.true_or, if_pos rfl, List.map_cons, if_pos rfl]
      refine ⟨u, _, rfl, r, ?_⟩
      have e : us'.map (fun kv => if kv.1 = k then (kv.1, u) else kv) = us' := (List.map_congr_left fun kv hkv => if_neg fun (e : kv.1 = k) => nd.1 (List.mem_map.mpr ⟨kv, hkv, e⟩)).trans (List.map_id _)
      rw [e]; exact rs
    · have q' : ¬ j = k := fun e => q e.symm
      rw [if_neg q, decide_eq_false q', Bool.false_or]
      split
      · rename_i h
        rw [if_pos h] at ih
        rw [List.map_cons, if_neg q']
        exact ⟨u', _, rfl, r', ih⟩
      · rename_i h
        rw [if_neg h] at ih
        exact ⟨u', _, rfl, r', ih⟩
theorem putD_length {k : Int} {v : V} : ∀ {kvs : List (Int × V)}, (putD k v kvs).length ≤ kvs.length + 1
  | [] => Nat.le_refl _
  | (j, w) :: r => by
    unfold putD
    by_cases q : k = j
    · rw [if_pos q]; exact Nat.le_succ _
    · rw [if_neg q]; exact Nat.succ_le_succ putD_length

theorem setitem_dict {a : Addr} {kvs : List (Int × V)} {i : Int} {t : Tok} {u : Value} {v : V} {R : Unit → Shared → Prop} (M : Mw B X P Z own m σ s) (ho : σ a = some (.dict kvs)) (hl : kvs.length < lineOf) (r : RV Z u v)
    (k : ∀ s', Mt B X P Z m (put σ a (.dict (putD i v kvs))) s' → R () s') : wpAny (model B.prog B.w) X.A (setItem (.ref a) (.int i t) u) R noE s := by
  obtain ⟨ta, ⟨ns, _⟩, us, hd, rd⟩ := M.ob _ _ ho
  have nd : (us.map (·.1)).Nodup := by obtain ⟨_, _, _, _, _, _, _, _, h⟩ := hd; exact h
  exact wpAny_setItem_pairs (ik B i t) hd (fun h' hd' hs' => k _ (Mt.upd M ho (fun b ob hb zz e => (hs'.2 b hb).trans e) ⟨⟨ns, Nat.le_trans putD_length hl⟩, _, hd', putD_keep r rd nd⟩)) (by rw [← lineOf_eq, rd.length]; lia)

theorem setitem_list {a : Addr} {vs : List V} {i : Int} {t : Tok} {u : Value} {v : V} {R : Unit → Shared → Prop} (M : Mw B X P Z own m σ s) (ho : σ a = some (.list vs)) (h0 : 0 ≤ i) (h1 : i < vs.length) (r : RV Z u v)
    (k : ∀ s', Mt B X P Z m (put σ a (.list (vs.set i.toNat v))) s' → R () s') : wpAny (model B.prog B.w) X.A (setItem (.ref a) (.int i t) u) R noE s := by
  obtain ⟨ta, us, ⟨n, pl⟩, hs, rs⟩ := M.ob _ _ ho
  have le := rs.length
  rw [Array.length_toList] at le
  have hlo : lineOf = 16777216 := rfl
  refine ki_setAt (n := n) pl h0 (by lia) (by lia) (k _ ?_)
  have q := PySem.IsL.update pl (·.setIfInBounds i.toNat u)
  refine Mt.upd (s' := { s with heap := s.heap.update a (Obj.mapSeq (·.setIfInBounds i.toNat u)) }) M ho (fun b ob hb zz e => ((Heap.SameBut.update ..).2 b hb).trans e) ⟨us.setIfInBounds i.toNat u, ⟨_, q⟩, by rw [Array.size_setIfInBounds]; exact hs, ?_⟩
  rw [Array.toList_setIfInBounds]
  exact rs.set r _
theorem sub_bad {lo hi st : Option Expr} {C : SubK → Prop} (h : ∀ k, k ≠ .item → C k) : C (sliceK lo hi st) := by
  refine h _ ?_
  unfold sliceK
  cases lo with
  | some _ => nofun
  | none =>
    cases hi with
    | some e =>
      dsimp only
      cases intOf e with
      | none => nofun
      | some k => cases st <;> nofun
    | none =>
      cases st with
      | none => nofun
      | some e => dsimp only; cases isM1 e <;> nofun
theorem subK_item {i : Expr} (h : subK i = .item) : notSlice i = true := by
  cases i with
  | Slice lo hi st p => exact absurd h (sub_bad (C := fun k => k ≠ .item) fun k hk => hk)
  | _ => rfl
theorem store_sound {t : Expr} {v : V} {u : Value} {Q : Lo → AH → Prop} {room} (hB : BaseOk B) (hX : Xok B X room) (hS : ScOk X sc) (S : Snd B T X sc) (hw : X.wr = true) (hb : BaseIn B P) (M : Mt B X P Z m σ s) (r : RV Z u v) (h : storeP T sc t v m σ Q) :
    wpAny (model B.prog B.w) X.A (assign t X.env u) (fun zz s' => PoS B X P Z Q s') noE s := by
  cases t with
  | Name x p =>
    obtain ⟨own, M⟩ := M
    obtain ⟨hk, q⟩ := chk.out h
    exact wpAny_assign_Name (store_name hX hS hw M hk r fun s' M' => ⟨Z, _, σ, .refl Z, ⟨_, M'⟩, q⟩)
  | Attribute o x p =>
    rw [PySem.assign_Attribute]
    refine wpAny_bind (wpAny_holding (S.go h hb M fun u1 s1 Z1 w σ1 z1 ⟨own1, M1⟩ r1 q1 => wpAny_bind (wpAny_standAt (wpAny_bind (wpAny_holding ?_)))))
    obtain ⟨a, rfl, q2⟩ := refP.out q1
    cases (show u1 = .ref a from r1)
    obtain ⟨ob, e, q2⟩ := q2.out
    cases ob with
    | inst c fs =>
      obtain ⟨h1, q2⟩ := chk.out q2
      obtain ⟨h2, q2⟩ := ltQ.out q2
      exact setattr_sound hB hX hb M1 e h1 h2 (r.mono z1) fun s' M' => wpAny_release' ⟨Z1, _, _, z1, M', q2⟩
    | _ => exact q2.elim
  | Subscript o i p =>
    have h : (match subK i with
      | .item => T.ev sc o m σ fun w σ => T.ev sc i m σ fun k σ => refP w fun a => intP k fun k => rd σ a fun o => match o with
        | .dict kvs => ltQ kvs.length lineOf (Q m (put σ a (.dict (putD k v kvs))))
        | .list vs => 0 ≤ k ∧ k < vs.length ∧ Q m (put σ a (.list (vs.set k.toNat v)))
        | _ => False
      | _ => False) := h
    have hi : subK i = .item := by
      cases hk : subK i with
      | item => rfl
      | _ => rw [hk] at h; exact h.elim
    rw [hi] at h
    rw [assign_Subscript]
    refine wpAny_bind (wpAny_holding (S.go h hb M fun u1 s1 Z1 w σ1 z1 M1 r1 q1 => wpAny_bind (wpAny_holding (S.go q1 hb M1 fun u2 s2 Z2 w2 σ2 z2 ⟨own2, M2⟩ r2 q2 => wpAny_bind (wpAny_standAt (wpAny_bind (wpAny_holding ?_)))))))
    obtain ⟨a, rfl, q3⟩ := refP.out q2
    obtain ⟨k, rfl, q4⟩ := intP.out q3
    cases (show u1 = .ref a from r1)
    obtain ⟨t2, rfl⟩ := r2.int
    have r := r.mono (z1.trans z2)
    obtain ⟨ob, e, q5⟩ := q4.out
    cases ob with
    | dict kvs =>
      obtain ⟨h2, q6⟩ := ltQ.out q5
      exact setitem_dict M2 e h2 r fun s' M' => wpAny_release' ⟨Z2, _, _, z1.trans z2, M', q6⟩
    | list vs => exact setitem_list M2 e q5.1 q5.2.1 r fun s' M' => wpAny_release' ⟨Z2, _, _, z1.trans z2, M', q5.2.2⟩
    | _ => exact q5.elim
  | _ => exact (show False from h).elim

end Mine

namespace Mine
set_option tactic.hygienic false
set_option genSizeOfSpec false
open PySem PySem.W PyProof.Rows PySem.Calls
set_option maxRecDepth 100000
variable {B : Base} {X X' : Fx} {P P' Z : PM} {own own1 : Addr → Tag} {m m' : Lo} {σ : AH} {s : Shared} {sc : Scope} {T : EvT} {G : Str → Option V} {cal : Calls}

noncomputable def setAll (zs : List (Str × V)) (m : Lo) : Lo := zs.foldl (fun m p => setL p.1 p.2 m) m

theorem setAll_out {y : Str} : ∀ {zs : List (Str × V)} {m : Lo}, y ∉ zs.map (·.1) → getL y (setAll zs m) = getL y m
  | [], _, _ => rfl
  | (x, v) :: zs, m, h => by
    show getL y (setAll zs (setL x v m)) = _
    rw [setAll_out fun q => h (.tail _ q), getL_ne fun q => h (List.mem_map.mpr ⟨(x, v), .head _, q.symm⟩)]
theorem setAll_in {y : Str} {w : V} : ∀ {zs : List (Str × V)} {m : Lo}, (zs.map (·.1)).Nodup → (y, w) ∈ zs → getL y (setAll zs m) = some w
  | (x, v) :: zs, m, nd, h => by
    rw [List.map_cons, List.nodup_cons] at nd
    show getL y (setAll zs (setL x v m)) = _
    cases h with
    | head => rw [setAll_out nd.1]; exact getL_hit
    | tail _ h => exact setAll_in nd.2 h
theorem setAll_rev {zs : List (Str × V)} (nd : (zs.map (·.1)).Nodup) (y : Str) (m : Lo) : getL y (setAll zs.reverse m) = getL y (setAll zs m) := by
  by_cases h : y ∈ zs.map (·.1)
  · obtain ⟨⟨y, w⟩, hm, rfl⟩ := List.mem_map.mp h
    rw [setAll_in nd hm, setAll_in (by rw [List.map_reverse]; exact List.pairwise_reverse.mpr (nd.imp fun h => Ne.symm h)) (List.mem_reverse.mpr hm)]
  · rw [setAll_out h, setAll_out (by rw [List.map_reverse, List.mem_reverse]; exact h)]

/-- Names are bound to values, one by one. -/
inductive NamesR (sc : Scope) : List Expr → List V → Lo → Lo → List Str → Prop
  | nil (m : Lo) : NamesR sc [] [] m m []
  | cons (x : Str) (p : Pos) {ts : List Expr} {v : V} {vs : List V} {m m' : Lo} {xs : List Str} (hk : isLoc sc x = true) (h : NamesR sc ts vs (setL x v m) m' xs) : NamesR sc (.Name x p :: ts) (v :: vs) m m' (x :: xs)
theorem namesP_out : ∀ {ts : List Expr} {vs : List V} {m m' : Lo}, namesP sc ts vs m = some m' → ∃ xs, NamesR sc ts vs m m' xs
  | [], [], m, m', h => by cases h; exact ⟨_, .nil _⟩
  | [], _ :: _, m, m', h => nn h
  | _ :: _, [], m, m', h => nn h
  | t :: ts, v :: vs, m, m', h => by
    have h : (match nameOf t with | some x => (match isLoc sc x with | true => namesP sc ts vs (setL x v m) | false => none) | none => none) = some m' := h
    cases hn : nameOf t with
    | none => rw [hn] at h; exact nn h
    | some x =>
      rw [hn] at h
      obtain ⟨p, rfl⟩ := nameOf_out hn
      have h : (match isLoc sc x with | true => namesP sc ts vs (setL x v m) | false => none) = some m' := h
      cases hk : isLoc sc x with
      | false => rw [hk] at h; exact nn h
      | true =>
        rw [hk] at h
        obtain ⟨xs, r⟩ := namesP_out h
        exact ⟨_, .cons x p hk r⟩
theorem NamesR.len {ts : List Expr} {vs : List V} {m m' : Lo} {xs : List Str} (h : NamesR sc ts vs m m' xs) : xs.length = ts.length ∧ ts.length = vs.length := by
  induction h with
  | nil => exact ⟨rfl, rfl⟩
  | cons x p hk h ih => exact ⟨congrArg Nat.succ ih.1, congrArg Nat.succ ih.2⟩
theorem NamesR.all {ts : List Expr} {vs : List V} {m m' : Lo} {xs : List Str} (h : NamesR sc ts vs m m' xs) : m' = setAll (xs.zip vs) m := by
  induction h with
  | nil => rfl
  | cons x p hk h ih => exact ih
theorem NamesR.loc {ts : List Expr} {vs : List V} {m m' : Lo} {xs : List Str} (h : NamesR sc ts vs m m' xs) : ∀ x ∈ xs, isLoc sc x = true := by
  induction h with
  | nil => exact fun x hx => nomatch hx
  | cons x p hk h ih =>
    intro y hy
    cases hy with
    | head => exact hk
    | tail _ hy => exact ih y hy
theorem NamesR.each {ts : List Expr} {vs : List V} {m m' : Lo} {xs : List Str} (h : NamesR sc ts vs m m' xs) (env : Env) : (assignEach ts env).length = ts.length ∧ (assignEach ts env).findIdx? (·.1) = none := by
  induction h with
  | nil => exact ⟨rfl, rfl⟩
  | cons x p hk h ih =>
    refine ⟨congrArg Nat.succ ih.1, ?_⟩
    show List.findIdx? (·.1) ((false, assign (.Name x p) env) :: assignEach _ env) = none
    rw [List.findIdx?_cons, ih.2]; rfl

theorem bind_all {room} (hX : Xok B X room) (hS : ScOk X sc) (hw : X.wr = true) : ∀ (xs : List Str) {us : List Value} {vs : List V} {m : Lo} {s : Shared} {own} {R : Unit → Shared → Prop}, Mw B X P Z own m σ s → RVs Z us vs →
    (∀ x ∈ xs, isLoc sc x = true) → xs.length = vs.length → (∀ s', Mw B X P Z own (setAll (xs.zip vs) m) σ s' → R () s') →
    wpAny (model B.prog B.w) X.A (assignInOrder (xs.map fun n => bindName X.env n) us) R noE s
  | [], us, [], m, s, own, R, M, r, hk, hl, k => PyProof.Rows.assignInOrder_nil (k _ M)
  | [], us, v :: vs, m, s, own, R, M, r, hk, hl, k => nomatch hl
  | x :: xs, us, [], m, s, own, R, M, r, hk, hl, k => nomatch hl
  | x :: xs, us, v :: vs, m, s, own, R, M, r, hk, hl, k => by
    obtain ⟨u, us', rfl, r1, rs⟩ := r
    exact PyProof.Rows.assignInOrder_cons (wpAny_bindName (store_name hX hS hw M (hk x (.head _)) r1 fun s' M' =>
      bind_all hX hS hw xs M' rs (fun y hy => hk y (.tail _ hy)) (Nat.succ.inj hl) k))

theorem assign_all {room} (hX : Xok B X room) (hS : ScOk X sc) (hw : X.wr = true) {ts : List Expr} {vs : List V} {m m' : Lo} {xs : List Str} (h : NamesR sc ts vs m m' xs) : ∀ {us : List Value} {s : Shared} {R : Unit → Shared → Prop}, Mw B X P Z own m σ s → RVs Z us vs →
    (∀ s', Mw B X P Z own m' σ s' → R () s') → wpAny (model B.prog B.w) X.A (assignInOrder ((assignEach ts X.env).map (·.2)) us) R noE s := by
  induction h with
  | nil => exact fun M r k => PyProof.Rows.assignInOrder_nil (k _ M)
  | cons x p hk h ih =>
    intro us s R M r k
    obtain ⟨u, us', rfl, r1, rs⟩ := r
    exact PyProof.Rows.assignInOrder_cons (PySem.wpAny_assign_Name (store_name hX hS hw M hk r1 fun s' M' => ih M' rs k))

theorem look_tup {v : V} {vs : List V} {u : Value} (M : Mw B X P Z own m σ s) (h : look σ v = .tup vs) (r : RV Z u v) : LT s.heap Z u vs := by
  cases v with
  | ref a =>
    rw [look_ref] at h
    cases e : σ a with
    | none => rw [e] at h; exact nomatch h
    | some o => rw [e] at h; cases o <;> exact nomatch h
  | tup ws => cases h; exact M.tup r
  | _ => exact nomatch h
/-- Unpacking: the items, nothing else changed. -/
theorem unpack_sound {v : V} {u : Value} {vs : List V} {n : Nat} {R : List Value → Shared → Prop} (hh : X.A.handled = none) (M : Mw B X P Z own m σ s) (r : RV Z u v) (h : look σ v = .tup vs ∨ look σ v = .fl vs) (hn : n = vs.length)
    (k : ∀ us s', Mw B X P Z own m σ s' → RVs Z us vs → R us s') : wpAny (model B.prog B.w) X.A (unpackItems u n none) R noE s := by
  have gr : ∀ h', Heap.ExtBut s.heap.objs.size s.heap h' → Mw B X P Z own m σ { s with heap := h' } := fun h' he => M.grow (fun b o e => he b o (Nat.ne_of_lt (Heap.lt_size e)) e) rfl rfl
  rcases h with h | h
  · obtain ⟨a, us, rfl, hl, hs, rs⟩ := look_tup M h r
    have e : n = us.size := by rw [hn, ← rs.length, Array.length_toList]
    subst e
    exact unpackItems_tuple hh hl fun h' he => k _ _ (gr h' he) rs
  · obtain ⟨a, us, rfl, hl, hs, rs⟩ := look_list M h r
    have e : n = us.size := by rw [hn, ← rs.length, Array.length_toList]
    subst e
    exact kun_itemsOf hh hl fun h' he => k _ _ (gr h' he) rs

inductive UnpR (σ : AH) (sc : Scope) (ts : List Expr) (m : Lo) (v : V) (N : Lo → Prop) : Prop
  | mk (vs : List V) (m' : Lo) (xs : List Str) (hl : look σ v = .tup vs ∨ look σ v = .fl vs) (r : NamesR sc ts vs m m' xs) (q : N m')
theorem unp_out {ts : List Expr} {v : V} {N : Lo → Prop} (h : lkP σ v (unpP sc ts m N)) : UnpR σ sc ts m v N := by
  have h := h.look
  have go : ∀ vs, optQ (namesP sc ts vs m) N → (look σ v = .tup vs ∨ look σ v = .fl vs) → UnpR σ sc ts m v N := fun vs h e => by
    obtain ⟨m', a, b⟩ := h.out
    obtain ⟨xs, r⟩ := namesP_out a
    exact ⟨vs, m', xs, e, r, b⟩
  cases e : look σ v with
  | tup vs => rw [e] at h; exact go vs h (.inl e)
  | fl vs => rw [e] at h; exact go vs h (.inr e)
  | _ => rw [e] at h; exact h.elim

theorem target_sound {t : Expr} {v : V} {u : Value} {Q : Lo → AH → Prop} {room} (hB : BaseOk B) (hX : Xok B X room) (hS : ScOk X sc) (S : Snd B T X sc) (hw : X.wr = true) (hb : BaseIn B P) (M : Mt B X P Z m σ s) (r : RV Z u v) (h : targetP T sc t v m σ Q) :
    wpAny (model B.prog B.w) X.A (assign t X.env u) (fun zz s' => PoS B X P Z Q s') noE s := by
  cases t with
  | Tuple ts k pos =>
    obtain ⟨vs, m', xs, hl, hn, q⟩ := unp_out h
    obtain ⟨own, M⟩ := M
    have e5 := hn.each X.env
    rw [assign_Tuple]
    refine wpAny_bind (wpAny_standAt ?_)
    unfold unpack
    rw [e5.2]
    refine wpAny_bind (wpAny_holding (unpack_sound hX.hh M r hl (e5.1.trans hn.len.2) fun us s' M' rs => ?_))
    exact assign_all hX hS hw hn M' rs fun s' M' => ⟨Z, _, _, .refl Z, ⟨_, M'⟩, q⟩
  | Name x p => exact store_sound (t := .Name x p) hB hX hS S hw hb M r h
  | Attribute o x p => exact store_sound (t := .Attribute o x p) hB hX hS S hw hb M r h
  | Subscript o i p => exact store_sound (t := .Subscript o i p) hB hX hS S hw hb M r h
  | _ => exact (show False from h).elim

theorem eraseDups_len : ∀ (n : Nat) (l : List Str), l.length ≤ n → l.eraseDups.length ≤ l.length
  | _, [], _ => Nat.le_refl _
  | 0, _ :: _, h => nomatch h
  | n + 1, b :: l, h => by
    rw [List.eraseDups_cons, List.length_cons, List.length_cons]
    have h1 : (l.filter fun c => !c == b).length ≤ l.length := List.length_filter_le _ _
    have := eraseDups_len n (l.filter fun c => !c == b) (Nat.le_trans h1 (Nat.le_of_succ_le_succ h))
    lia
theorem nodup_of_eraseDups : ∀ (l : List Str), l.eraseDups.length = l.length → l.Nodup
  | [], _ => List.nodup_nil
  | a :: l, e => by
    rw [List.eraseDups_cons, List.length_cons, List.length_cons] at e
    have h1 : (l.filter fun c => !c == a).length ≤ l.length := List.length_filter_le _ _
    have h2 := eraseDups_len _ (l.filter fun c => !c == a) (Nat.le_refl _)
    have h3 := List.length_filter_eq_length_iff.mp (show (l.filter fun c => !c == a).length = l.length by lia)
    rw [List.filter_eq_self.mpr h3] at e
    refine List.nodup_cons.mpr ⟨fun hm => ?_, nodup_of_eraseDups l (Nat.succ.inj e)⟩
    have := h3 a hm
    rw [beq_self_eq_true] at this
    exact nomatch this

noncomputable def lineNames (env : Env) (line : Nat) (ts : List Expr) : List Str := ts.filterMap fun
    | .Name id pos => if env.kindOf id == some .local && pos.line == line then some id else none
    | _ => none

theorem lineNames_all {env : Env} {line : Nat} {ts : List Expr} {vs : List V} {m m' : Lo} {xs : List Str} (h : NamesR sc ts vs m m' xs) : (lineNames env line ts).length ≤ ts.length ∧
    ((lineNames env line ts).length = ts.length → lineNames env line ts = xs ∧ ∀ x ∈ xs, env.kindOf x = some .local) := by
  induction h with
  | nil => exact ⟨Nat.le_refl _, fun zz => ⟨rfl, fun x hx => nomatch hx⟩⟩
  | @cons x p ts v vs m m' xs hk h ih =>
    obtain ⟨a, b⟩ := ih
    by_cases q : (env.kindOf x == some .local && p.line == line) = true
    · have e : lineNames env line (.Name x p :: ts) = x :: lineNames env line ts := by
        unfold lineNames; rw [List.filterMap_cons]; simp only [q, if_true]
      rw [e]
      refine ⟨Nat.succ_le_succ a, fun h => ?_⟩
      obtain ⟨c, d⟩ := b (Nat.succ.inj h)
      refine ⟨congrArg (List.cons x) c, fun y hy => ?_⟩
      cases hy with
      | head => exact beq_iff_eq.mp (and_out q).1
      | tail _ hy => exact d y hy
    · have e : lineNames env line (.Name x p :: ts) = lineNames env line ts := by
        unfold lineNames; rw [List.filterMap_cons]; simp only [q, Bool.false_eq_true, if_false]
      rw [e]
      exact ⟨Nat.le_succ_of_le a, fun h => absurd h (Nat.ne_of_lt (Nat.lt_succ_of_le a))⟩

noncomputable def SwOk (env : Env) (xs : List Str) (X : Sem (Option (List Str))) : Prop := X = pure none ∨ (X = pure (some xs) ∧ xs.Nodup ∧ ∀ x ∈ xs, env.kindOf x = some .local)
theorem SwOk.step {env : Env} {xs : List Str} {c : Prop} [d : Decidable c] {b : Sem (Option (List Str))} (h2 : ¬ c → SwOk env xs b) : SwOk env xs (@ite _ c d (pure none) b) := match d with
  | .isTrue _ => .inl rfl
  | .isFalse q => h2 q
theorem swapped_tup {ts : List Expr} {k : Nat} {tp : Pos} {es : List Expr} {k2 : Nat} {p2 : Pos} {env : Env} {vs : List V} {m m' : Lo} {xs : List Str} (h : okTup (.Tuple es k2 p2) = true) (hn : NamesR sc ts vs m m' xs) :
    SwOk env xs (swappedStores [.Tuple ts k tp] (.Tuple es k2 p2) env) := by
  obtain ⟨_, b⟩ := lineNames_all (env := env) (line := (Option.map (fun (x : Expr) => x.pos.line) ts.head?).getD 0) hn
  refine .step fun zz => .step fun zz => .step fun q => .step fun zz => ?_
  have q := Bool.or_eq_false_iff.mp (Bool.eq_false_iff.mpr q)
  obtain ⟨c, d⟩ := b (bne_eq_false_iff_eq.mp q.1)
  refine .inr ⟨?_, c ▸ nodup_of_eraseDups _ (bne_eq_false_iff_eq.mp q.2), d⟩
  exact (if_neg (ne_true_of_eq_false ((Bool.not_eq_true' _).mp h))).trans (congrArg (fun z => pure (some z)) c)
noncomputable def isTup : Expr → Bool
  | .Tuple .. => true
  | _ => false
theorem swapped_not {ts : List Expr} {k : Nat} {tp : Pos} {value : Expr} {env : Env} (h : isTup value = false) : swappedStores [.Tuple ts k tp] value env = pure none := by
  cases value with
  | Tuple => exact nomatch h
  | _ => rfl
theorem isTup_out {e : Expr} (h : isTup e = true) : ∃ es k p, e = .Tuple es k p := by
  cases e with
  | Tuple es k p => exact ⟨es, k, p, rfl⟩
  | _ => exact ff h
theorem swapped_cases {ts : List Expr} {k : Nat} {tp : Pos} {value : Expr} {env : Env} {vs : List V} {m m' : Lo} {xs : List Str} (h : okTup value = true) (hn : NamesR sc ts vs m m' xs) :
    swappedStores [.Tuple ts k tp] value env = pure none ∨ (swappedStores [.Tuple ts k tp] value env = pure (some xs) ∧ xs.Nodup ∧ ∀ x ∈ xs, env.kindOf x = some .local) := by
  cases hv : isTup value with
  | false => exact .inl (swapped_not hv)
  | true =>
    obtain ⟨es, k, p, rfl⟩ := isTup_out hv
    exact swapped_tup h hn

end Mine

namespace Mine
set_option tactic.hygienic false
set_option genSizeOfSpec false
open PySem PySem.W PyProof.Rows PySem.Calls
set_option maxRecDepth 100000
variable {B : Base} {X X' : Fx} {P P' Z : PM} {own own1 : Addr → Tag} {m m' : Lo} {σ : AH} {s : Shared} {sc : Scope} {T : EvT} {G : Str → Option V} {cal : Calls}

theorem blk_sound {Xf : Stmt → Lo → AH → QS → Prop} (hx : ∀ st m σ Q, Xf st m σ Q → Ex B X (exec st X.env) m σ Q) : ∀ (ss : List Stmt) {m : Lo} {σ : AH} {Q : QS}, blkP Xf ss m σ Q → Ex B X (execs ss X.env) m σ Q
  | [], m, σ, Q, h => fun P Z s hb M => wpAny_execs_nil ⟨Z, .next, m, σ, .refl Z, M, .next, h⟩
  | st :: ss, m, σ, Q, h => fun P Z s hb M => by
    have h : Xf st m σ (seqK (blkP Xf ss) Q) := h
    refine wpAny_execs_cons ((hx _ _ _ _ h).use hb M fun f s1 Z1 fl m1 σ1 z1 M1 r1 q1 => ?_)
    cases r1 with
    | next => exact wpAny_mono (blk_sound hx ss q1 P Z1 s1 hb M1) (fun zz zz h => h.up z1) fun zz zz x => x
    | brk => exact ⟨Z1, .brk, m1, σ1, z1, M1, .brk, q1⟩
    | cont => exact ⟨Z1, .cont, m1, σ1, z1, M1, .cont, q1⟩
    | ret r => exact ⟨Z1, .ret _, m1, σ1, z1, M1, .ret r, q1⟩

theorem PoS.next {Q : QS} {s' : Shared} (h : PoS B X P Z (kNext Q) s') : PoF B X P Z Q .next s' :=
  let ⟨Z', m', σ', a, b, c⟩ := h; ⟨Z', .next, m', σ', a, b, .next, c⟩

theorem zip_rev {α β : Type} : ∀ {l : List α} {k : List β}, l.length = k.length → l.reverse.zip k.reverse = (l.zip k).reverse
  | [], [], _ => rfl
  | a :: l, b :: k, h => by
    have h' : l.length = k.length := Nat.succ.inj h
    rw [List.reverse_cons, List.reverse_cons, List.zip_cons_cons, List.reverse_cons, List.zip_append (by rw [List.length_reverse, List.length_reverse]; exact h'), zip_rev h']; rfl

theorem target_one {t e : Expr} {v : V} {Q : Lo → AH → Prop} {env : Env} (ht : isTup t = false) (h : targetP T sc t v m σ Q) : swappedStores [t] e env = pure none ∧ (assignEach [t] env).map (·.2) = [assign t env] := by
  cases t with
  | Tuple => exact nomatch ht
  | Name => exact ⟨rfl, rfl⟩
  | Attribute => exact ⟨rfl, rfl⟩
  | Subscript => exact ⟨rfl, rfl⟩
  | _ => exact (show False from h).elim
theorem ex_plain_assign {t e : Expr} {pos : Pos} {Q : QS} {room} (hB : BaseOk B) (hX : Xok B X room) (hS : ScOk X sc) (S : Snd B T X sc) (hw : X.wr = true)
    (hs : swapsWith e (some t) pos.line X.env = pure false) (hn : okTup e = true) (h : T.ev sc e m σ (kAsg T sc t m Q)) : Ex B X (exec (.Assign [t] e pos) X.env) m σ Q := by
  intro P Z s hb M
  rw [exec_Assign_arm]
  refine wpAny_bind (wpAny_standAt ?_)
  rw [show swapsWithSole [t] e pos.line X.env = pure false from hs]
  refine wpAny_bind (wpAny_pure ?_)
  rw [if_neg (by decide)]
  refine wpAny_bind (S.go h hb M fun u s1 Z1 v σ1 z1 M1 r1 q1 => ?_)
  have one : swappedStores [t] e X.env = pure none → (assignEach [t] X.env).map (·.2) = [assign t X.env] → wpAny (model B.prog B.w) X.A (swappedStores [t] e X.env >>= fun r => assignStores X.env u r ((assignEach [t] X.env).map (·.2))) (PoF B X P Z Q) noE s1 := fun e1 e2 => by
    rw [e1, e2]
    refine wpAny_bind (wpAny_pure ?_)
    show wpAny _ _ (do assignAll u [assign t X.env]; pure Flow.next) _ _ _
    exact wpAny_bind (wpAny_mono (target_sound hB hX hS S hw hb M1 r1 q1) (fun zz s2 h2 => wpAny_pure (h2.up z1).next) fun zz zz x => x)
  cases ht : isTup t with
  | true =>
    obtain ⟨ts, k, p, rfl⟩ := isTup_out ht
    obtain ⟨vs, m', xs, hl, hnm, q⟩ := unp_out q1
    rcases swapped_cases (env := X.env) (k := k) (tp := p) hn hnm with hsw | ⟨hsw, nd, hloc⟩
    · exact one hsw rfl
    · rw [hsw]
      refine wpAny_bind (wpAny_pure ?_)
      show wpAny _ _ (do rule "assign.swapped-stores"; let items ← unpackItems u xs.length none; assignInOrder (xs.reverse.map fun n => bindName X.env n) items.reverse; pure Flow.next) _ _ _
      obtain ⟨own1, M1⟩ := M1
      have el := hnm.len.1.trans hnm.len.2
      refine wpAny_bind (wpAny_rule (wpAny_bind (unpack_sound hX.hh M1 r1 hl el fun us s2 M2 rs => wpAny_bind (bind_all hX hS hw _ M2 rs.reverse (fun x hx => hnm.loc x (List.mem_reverse.mp hx)) (by rw [List.length_reverse, List.length_reverse]; exact el) fun s3 M3 => wpAny_pure ?_))))
      refine ⟨Z1, .next, m', σ1, z1, ⟨_, M3.same fun y => ?_⟩, .next, q⟩
      rw [hnm.all, zip_rev el]
      exact (setAll_rev (by rw [List.map_fst_zip (Nat.le_of_eq el)]; exact nd) y m).symm
  | false =>
    have h1 := target_one (e := e) (env := X.env) ht q1
    exact one h1.1 h1.2

theorem ex_comp_assign {y x : Str} {py px pos pos' : Pos} {sc' : Scope} {elt iter : Expr} {ifs : List Expr} {Q : QS} {Q' : QV} {room}
    (hB : BaseOk B) (hX : Xok B X room) (hS : ScOk X sc) (S : Snd B T X sc) (hC : CompOk X x sc') (S' : ∀ C, X.env.locals ≤ C → Snd B T (compX X sc' C) sc')
    (hy : X.env.kindOf y = some .local) (hdot : getL (Str.ofString ".0") m = none) (hs : swapsWith (.ListComp elt [⟨.Name x px, iter, ifs, 0⟩] sc' pos) (some (.Name y py)) pos'.line X.env = pure true)
    (h : iterP B.G T sc false iter m σ (kComp T sc' m x elt ifs Q')) (hQ : ∀ v σ, Q' v σ → Q .next (setL y v m) σ) :
    Ex B X (exec (.Assign [.Name y py] (.ListComp elt [⟨.Name x px, iter, ifs, 0⟩] sc' pos) pos') X.env) m σ Q := by
  intro P Z s hb M
  rw [exec_Assign_Name_used _ _ _ _ hs]
  refine wpAny_bind (wpAny_standAt (wpAny_bind ?_))
  show wpAny _ _ (do let _ ← comprehension (.ListComp elt [⟨.Name x px, iter, ifs, 0⟩] sc' pos) sc' X.env _ (newList []) false (eval iter X.env) (some (assign (.Name y py) X.env))) _ _ s
  refine wpAny_bind (wpAny_mono (comp_sound (use := some (assign (.Name y py) X.env)) (Q0 := fun zz s' => PoF B X P Z Q .next s') hB hX hS S hC S' hb M hdot h fun s' Z' v σ' own' D C mm hz M' oC hn r q => ?_) (fun zz s' hq => wpAny_pure (wpAny_pure hq)) fun zz zz e => e)
  refine PySem.wpAny_assign_Name (store_local hX M' hy r fun s2 M2 k2 => ?_)
  have nL : C ≠ X.env.locals := by rintro rfl; exact nomatch oC.symm.trans M'.lo.ns
  refine ⟨mm, ns_at hn fun ob ho => k2 C ob nL ho, fun h' hs => ?_⟩
  have M3 : Mw B X P Z' own' (setL y v m) σ' { s2 with heap := h' } := M2.chg (wr := [C]) (fun b hb => by cases List.mem_singleton.mp hb; exact oC) (fun b o hb e => (hs.2 b fun q => hb (q ▸ .head _)).trans e) rfl rfl
  exact ⟨Z', .next, _, σ', hz, ⟨_, M3⟩, .next, hQ _ _ q⟩

noncomputable def isComp : Expr → Bool
  | .ListComp .. => true
  | .SetComp .. => true
  | .DictComp .. => true
  | _ => false
theorem swaps_not {e : Expr} {t : Expr} {l : Nat} {env : Env} (h : isComp e = false) : swapsWith e (some t) l env = pure false := by
  cases e with
  | ListComp => exact nomatch h
  | SetComp => exact nomatch h
  | DictComp => exact nomatch h
  | _ => rfl
theorem isComp_out {e : Expr} {Q : QV} (h : isComp e = true) (k : evStep B.G cal T sc e m σ Q) : ∃ a b c d, e = .ListComp a b c d := by
  cases e with
  | ListComp a b c d => exact ⟨a, b, c, d, rfl⟩
  | SetComp => exact (show False from k).elim
  | DictComp => exact (show False from k).elim
  | _ => exact ff h
theorem swaps_name {y : Str} {py p : Pos} {l : Nat} {env : Env} {a : Expr} {b : List Comprehension} {c : Scope} : swapsWith (.ListComp a b c p) (some (.Name y py)) l env = pure false ∨ (swapsWith (.ListComp a b c p) (some (.Name y py)) l env = pure true ∧ env.kindOf y = some .local) := by
  have hs : swapsWith (.ListComp a b c p) (some (.Name y py)) l env = pure (env.blockKind == ScopeKind.function && env.kindOf y == some NameKind.local && py.line == p.line && !(c.names.any fun (n, k) => n == y && (k == NameKind.local || k == NameKind.cell))) := rfl
  cases h : (env.blockKind == ScopeKind.function && env.kindOf y == some NameKind.local && py.line == p.line && !(c.names.any fun (n, k) => n == y && (k == NameKind.local || k == NameKind.cell))) with
  | false => rw [h] at hs; exact .inl hs
  | true =>
    rw [h] at hs
    exact .inr ⟨hs, beq_iff_eq.mp (and_out (and_out (and_out h).1).1).2⟩
theorem swaps_comp {t : Expr} {l : Nat} {env : Env} {a : Expr} {b : List Comprehension} {c : Scope} {p : Pos} (h : nameOf t = none) : swapsWith (.ListComp a b c p) (some t) l env = pure false := by
  cases t with
  | Name => exact nomatch h
  | _ => rfl

theorem ex_assign {A : Around} {n : Nat} {t e : Expr} {pos : Pos} {Q : QS} {room} (hB : BaseOk B) (C : ∀ X, X.A = A → Xok B X room → CallsOk B cal X) (hA : X.A = A) (hX : Xok B X room) (hS : ScOk X sc) (hw : X.wr = true) (hok : okTup e = true)
    (h : (evT B.G cal (n + 1)).ev sc e m σ (kAsg (evT B.G cal (n + 1)) sc t m Q)) : Ex B X (exec (.Assign [t] e pos) X.env) m σ Q := by
  have S := evT_sound hB C (n + 1) X sc hA hX hS
  cases he : isComp e with
  | false => exact ex_plain_assign hB hX hS S hw (swaps_not he) hok h
  | true =>
    obtain ⟨elt, gens, sc', p, rfl⟩ := isComp_out he h
    cases ht : nameOf t with
    | none => exact ex_plain_assign hB hX hS S hw (swaps_comp ht) hok h
    | some y =>
      obtain ⟨py, rfl⟩ := nameOf_out ht
      rcases swaps_name (y := y) (py := py) (p := p) (l := pos.line) (env := X.env) (a := elt) (b := gens) (c := sc') with hs | ⟨hs, hy⟩
      · exact ex_plain_assign hB hX hS S hw hs hok h
      · obtain ⟨g, hg, h⟩ := optQ.out h
        obtain ⟨hc, h4, h3⟩ := chk.out h
        obtain ⟨q, rfl⟩ := genOf_out hg
        obtain ⟨h1, h2⟩ := and_out hc
        have hC := compOk_of hS h2 (isLocal_out h1)
        exact ex_comp_assign hB hX hS (evT_sound hB C n X sc hA hX hS) hC (fun c hc => evT_sound hB C n _ _ hA (comp_xok hC hX hc) (comp_scok hC hX)) hy h4 hs h3 fun v σ h => (chk.out h).2

end Mine

namespace Mine
set_option tactic.hygienic false
set_option genSizeOfSpec false
open PySem PySem.W PyProof.Rows PySem.Calls
set_option maxRecDepth 100000
variable {B : Base} {X X' : Fx} {P P' Z : PM} {own own1 : Addr → Tag} {m m' : Lo} {σ : AH} {s : Shared} {sc : Scope} {T : EvT} {G : Str → Option V} {cal : Calls}

noncomputable def bodyP (prog : Program) (w : World) (A : Around) (E : Value → Shared → Prop) (R : Result → Shared → Prop) (I : Nat → Shared → Prop) (n : Nat) (t : Expr) (body : List Stmt) (env : Env) (u : Value) (s2 : Shared) : Prop :=
  wpAny (model prog w) A (assign t env u) (fun zz s₂ => wpAny (model prog w) A (execs body env) (fun f s₃ => match f with
            | .next | .cont => ∃ m, m < n ∧ I m s₃
            | .brk => R (.ok .next) s₃
            | .ret v => R (.ok (.ret v)) s₃) E s₂) E s2
inductive FInv (B : Base) (X : Fx) (P Z : PM) (T : EvT) (Xf : Stmt → Lo → AH → QS → Prop) (sc : Scope) (t : Expr) (body : List Stmt) (vs : List V) (Q : QS) (wr : List Addr) (St : Nat → Heap → Prop) (n : Nat) (s' : Shared) : Prop
  | mk (i : Nat) (Z' : PM) (m' : Lo) (σ' : AH) (own : Addr → Tag) (hi : i ≤ vs.length) (hn : n = vs.length + 1 - i) (hz : Zle Z Z') (M : Mw B X P Z' own m' σ' s') (ow : ∀ b ∈ wr, own b = .other) (st : St i s'.heap) (h : forP T Xf sc t body (vs.drop i) m' σ' Q)
inductive FBack (B : Base) (X : Fx) (P Z : PM) (m : Lo) (σ : AH) (wr : List Addr) (St : Nat → Heap → Prop) (i : Nat) (s : Shared) : Prop
  | mk (own : Addr → Tag) (M : Mw B X P Z own m σ s) (ow : ∀ b ∈ wr, own b = .other) (st : St i s.heap)

theorem for_loop {Xf : Stmt → Lo → AH → QS → Prop} {t : Expr} {body : List Stmt} {tup : Bool} {I : Addr} {wr : List Addr} {St : Nat → Heap → Prop} {vs : List V} {Z0 : PM} {Q : QS} {RR : Result → Shared → Prop} {room}
    (hB : BaseOk B) (hX : Xok B X room) (hS : ScOk X sc) (S : Snd B T X sc) (hw : X.wr = true) (hx : ∀ st m σ Q, Xf st m σ Q → Ex B X (exec st X.env) m σ Q) (hb : BaseIn B P) (hI : It B Z0 tup vs I wr St) (ht : tgt t = some tup)
    (M : Mw B X P Z own m σ s) (hz0 : Zle Z0 Z) (how : ∀ b ∈ wr, own b = .other) (st : St 0 s.heap) (h : forP T Xf sc t body vs m σ Q)
    (hR : ∀ f s', PoF B X P Z Q f s' → RR (.ok f) s') : codeAny (model B.prog B.w) X.A (.forLoop t (.ref I) body [] X.env) RR s := by
  have hh := hX.hh
  refine codeAny_forLoop_any (FInv B X P Z T Xf sc t body vs Q wr St) (fun n s1 hI1 => ?_) (vs.length + 1) ⟨0, Z, m, σ, own, Nat.zero_le _, rfl, .refl Z, M, how, st, h⟩
  clear M how st h
  obtain ⟨i, Z1, m1, σ1, own1, hi, rfl, hz1, M1, ow, st1, h1⟩ := hI1
  have hz01 := hz0.trans hz1
  by_cases hlt : i < vs.length
  · have hv : vs[i]? = some vs[i] := List.getElem?_eq_getElem hlt
    rw [List.drop_eq_getElem_cons hlt, forP_cons] at h1
    generalize vs[i] = v at hv h1
    refine wpAny_mono (hI.item i v hv X P Z1 own1 m1 σ1 s1 t (fun u s2 => bodyP B.prog B.w X.A noE RR (FInv B X P Z T Xf sc t body vs Q wr St) (vs.length + 1 - i) t body X.env u s2) hh ht hz01 M1 ow st1 fun u s2 Z2 own2 hz2 M2 k2 r2 st2 => ?_)
      (fun r s2 ⟨u, e, h2⟩ => by subst e; exact wpAny_mono h2 (fun zz s3 h3 => wpAny_mono h3 (fun zz s4 h4 => wpAny_mono h4 (fun zz zz h => h) fun zz zz x => False.elim x) fun zz zz x => False.elim x) fun zz zz x => False.elim x) fun zz zz x => False.elim x
    have hz02 := hz01.trans hz2
    have ow2 : ∀ b ∈ wr, own2 b = .other := fun b hb => by
      obtain ⟨o, e⟩ := hI.alive _ _ st1 b hb
      exact (k2 b o e).1.trans (ow b hb)
    have hp : ∀ b ∈ wr, P b = none := fun b hb => M2.p_other (ow2 b hb)
    have back : ∀ {Z5 m5 σ5 s5}, Zle Z2 Z5 → Mt B X (gput P wr s2.heap) Z5 m5 σ5 s5 → FBack B X P Z5 m5 σ5 wr St (i + 1) s5 := fun {Z5 m5 σ5 s5} hz5 ⟨own5, M5⟩ => by
      obtain ⟨M6, o6, k6⟩ := M5.unguards hp (fun b hb => hI.alive _ _ st2 b hb) (fun q => nomatch hw.symm.trans q)
      exact ⟨_, M6, o6, hI.keep _ _ _ st2 (fun b hb o e => k6 b o hb e) fun b o e => ⟨(M2.kz b o (hz02 _ _ e)).1, (M6.kz b o (hz5 _ _ (hz02 _ _ e))).1⟩⟩
    have hb3 := baseIn_gput (gs := wr) (h := s2.heap) hb hp
    refine wpAny_mono (target_sound hB hX hS S hw hb3 ⟨_, M2.guards ow2⟩ r2 h1) (fun _ s3 ⟨Z3, m3, σ3, hz3, M4, h3⟩ => ?_) fun zz zz x => x
    refine (blk_sound hx body h3).use hb3 M4 fun f s5 Z5 fl m5 σ5 hz5 M5 r5 q5 => ?_
    obtain ⟨own6, M6, ow6, st6⟩ := back (hz3.trans hz5) M5
    have hzz := hz1.trans (hz2.trans (hz3.trans hz5))
    have dec : vs.length + 1 - (i + 1) < vs.length + 1 - i := by lia
    cases r5 with
    | next => exact ⟨_, dec, i + 1, Z5, m5, σ5, own6, hlt, rfl, hzz, M6, ow6, st6, q5⟩
    | cont => exact ⟨_, dec, i + 1, Z5, m5, σ5, own6, hlt, rfl, hzz, M6, ow6, st6, q5⟩
    | brk => exact hR _ _ ⟨Z5, .next, m5, σ5, hzz, ⟨_, M6⟩, .next, q5⟩
    | ret r => exact hR _ _ ⟨Z5, .ret _, m5, σ5, hzz, ⟨_, M6⟩, .ret r, q5⟩
  · obtain rfl : i = vs.length := Nat.le_antisymm hi (Nat.not_lt.mp hlt)
    rw [List.drop_length, forP_nil] at h1
    exact wpAny_mono (hI.done X P Z1 own1 m1 σ1 s1 (fun r s2 => r = none ∧ RR (.ok .next) s2) hh hz01 M1 ow st1 fun s2 M2 k2 => ⟨rfl, hR _ _ ⟨Z1, .next, m1, σ1, hz1, ⟨_, M2⟩, .next, h1⟩⟩) (fun r s2 ⟨e, h2⟩ => by subst e; exact wpAny_execs_nil h2) fun zz zz x => False.elim x

theorem ex_for {Xf : Stmt → Lo → AH → QS → Prop} {t iter : Expr} {body : List Stmt} {pos : Pos} {tup : Bool} {Q : QS} {room}
    (hB : BaseOk B) (hX : Xok B X room) (hS : ScOk X sc) (S : Snd B T X sc) (hw : X.wr = true) (hx : ∀ st m σ Q, Xf st m σ Q → Ex B X (exec st X.env) m σ Q) (ht : tgt t = some tup)
    (h : iterP B.G T sc tup iter m σ (kFor T Xf sc t body m Q)) : Ex B X (exec (.For t iter body [] pos) X.env) m σ Q := by
  intro P Z s hb M
  obtain ⟨hfs, hit⟩ := iter_sound hB hX hS S hb M h
  refine wpAny_For (wpAny_mono hit (fun xv s₁ h₁ => wpAny_mono h₁ (fun it s₂ ⟨Z1, vs, σ1, I, wr, St, own, e, hz1, M, how, hI, st, hlen, q⟩ => ?_) fun zz zz e => e) fun zz zz e => e) hfs
  subst e
  exact for_loop hB hX hS S hw hx hb hI ht M (.refl Z1) how st q fun f s' h => h.up hz1

theorem ex_while {Xf : Stmt → Lo → AH → QS → Prop} {t : Expr} {body : List Stmt} {pos : Pos} {Q : QS} (S : Snd B T X sc) (hx : ∀ st m σ Q, Xf st m σ Q → Ex B X (exec st X.env) m σ Q)
    (h : whileP T Xf sc t body m σ Q) : Ex B X (exec (.While t body [] pos) X.env) m σ Q := by
  intro P0 Z0 s0 hb0 M0
  refine wpAny_While ?_
  unfold whileP at h
  have key := h (fun m σ => ∀ P Z s (RR : Result → Shared → Prop), BaseIn B P → Mt B X P Z m σ s → (∀ f s', PoF B X P Z Q f s' → RR (.ok f) s') → codeAny (model B.prog B.w) X.A (.whileLoop t body [] X.env) RR s) fun m σ hm P Z s RR hb M hR => ?_
  · exact key P0 Z0 s0 _ hb0 M0 fun f s' h => h
  · refine codeAny_of_tree ?_
    show wpAny _ X.A ((whileTurn t body [] X.env).onRaise (fun x => do noteFrame x X.env; theTreesLotGoes x)) _ _ s
    refine wpAny_noted ?_
    unfold whileTurn
    refine wpAny_bind (wpAny_mono (S.ts _ _ _ _ hm P Z s hb M) (fun b s1 ⟨Z1, σ1, hz1, M1, h1⟩ => ?_) fun zz zz x => False.elim x)
    rcases cnd.out h1 with ⟨rfl, h2⟩ | ⟨rfl, h2⟩
    · refine wpAny_bind (wpAny_mono (blk_sound hx body h2 P Z1 s1 hb M1) (fun f s2 ⟨Z2, fl, m2, σ2, hz2, ⟨own2, M2⟩, r2, q2⟩ => ?_) fun zz zz x => False.elim x)
      have hz12 := hz1.trans hz2
      have again : (∃ τ, le τ σ2 ∧ ∀ P Z s (RR : Result → Shared → Prop), BaseIn B P → Mt B X P Z m2 τ s → (∀ f s', PoF B X P Z Q f s' → RR (.ok f) s') → codeAny (model B.prog B.w) X.A (.whileLoop t body [] X.env) RR s) → codeAny (model B.prog B.w) X.A (.whileLoop t body [] X.env) RR s2 := fun ⟨τ, hτ, k⟩ =>
        k P Z2 s2 RR hb ⟨own2, M2.drop hτ⟩ fun f s' h => hR f s' (h.up hz12)
      cases r2 with
      | next => exact wpAny_pure ⟨rfl, again q2⟩
      | cont => exact wpAny_pure ⟨rfl, again q2⟩
      | brk => exact wpAny_pure (hR _ _ ⟨Z2, .next, m2, σ2, hz12, ⟨own2, M2⟩, .next, q2⟩)
      | ret r => exact wpAny_pure (hR _ _ ⟨Z2, .ret _, m2, σ2, hz12, ⟨own2, M2⟩, .ret r, q2⟩)
    · exact wpAny_bind (wpAny_execs_nil (wpAny_pure (hR _ _ ⟨Z1, .next, m, σ1, hz1, M1, .next, h2⟩)))

theorem item_get {v w : V} {u u' : Value} {Q : QV} {R : Value → Shared → Prop} (M : Mw B X P Z own m σ s) (r : RV Z u v) (r' : RV Z u' w) (h : itemP v w σ Q)
    (k : ∀ u x t, RV Z u x → Q x σ → R u { s with toks := t }) : wpAny (model B.prog B.w) X.A (getItem u u') R noE s := by
  obtain ⟨_, _, _, _, _, _, _, _, _, g⟩ := item_sound M r r' h k
  exact g
theorem not_comp {e : Expr} {env : Env} {l : Nat} (h : notComp e = true) : swapsWith e none l env = pure false := by
  cases e with
  | ListComp => exact nomatch h
  | SetComp => exact nomatch h
  | DictComp => exact nomatch h
  | _ => rfl
theorem subOf_out {t : Expr} {oi : Expr × Expr} (h : subOf t = some oi) : ∃ p, t = .Subscript oi.1 oi.2 p ∧ notSlice oi.2 = true := by
  cases t with
  | Subscript o i p =>
    have h : (match subK i with | .item => some (o, i) | _ => none) = some oi := h
    cases hk : subK i with
    | item => rw [hk] at h; cases h; exact ⟨p, rfl, subK_item hk⟩
    | _ => rw [hk] at h; exact nn h
  | _ => exact nn h
theorem aug_store {i : Expr} (hi : notSlice i = true) (ov iv new : Value) : augStore i ov iv new = (do holding [new, ov, iv] (setItem ov iv new); release [new, ov, iv] []; pure .next) := by
  cases i with
  | Slice => exact nomatch hi
  | _ => rfl
theorem aug_sound {t e : Expr} {op : Operator} {pos : Pos} {Q : QS} {Xf : Scope → Stmt → Lo → AH → QS → Prop} (S : Snd B T X sc) (h : exStep B.G T Xf sc (.AugAssign t op e pos) m σ Q) : Ex B X (exec (.AugAssign t op e pos) X.env) m σ Q := by
  obtain ⟨ho, h1⟩ := chk.out h
  obtain ⟨⟨o, i⟩, hs, h2⟩ := optQ.out h1
  clear h h1
  obtain ⟨tp, rfl, hi⟩ := subOf_out hs
  have ho : op = .Add := by cases op <;> first | rfl | exact ff ho
  subst ho
  intro P Z s hb M
  refine wpAny_AugAssign_SubscriptAny (S.go h2 hb M fun u1 s1 Z1 w σ1 z1 M1 r1 q1 => S.go q1 hb M1 fun u2 s2 Z2 k σ2 z2 ⟨own2, M2⟩ r2 q2 => item_get M2 (r1.mono z2) r2 q2 fun u3 x t r3 q3 => S.go q3 hb (.toks M2) fun u4 s4 Z4 y σ4 z4 ⟨own4, M4⟩ r4 q4 => ?_) (aug_store hi)
  obtain ⟨x, rfl, q5⟩ := intP.out q4
  obtain ⟨y, rfl, q6⟩ := intP.out q5
  obtain ⟨a, rfl, q7⟩ := refP.out q6
  obtain ⟨k, rfl, q8⟩ := intP.out q7
  obtain ⟨ob, e', q9⟩ := rd.out q8
  cases (show u1 = .ref a from r1)
  obtain ⟨t2, rfl⟩ := r2.int
  obtain ⟨t3, rfl⟩ := r3.int
  obtain ⟨t4, rfl⟩ := r4.int
  refine PyProof.Rows.iadd_int ?_
  cases ob with
  | list vs =>
    exact setitem_list (M4.grow (s' := { s4 with toks := s4.toks + 1 }) (fun b o e => e) rfl rfl) e' q9.1 q9.2.1 (v := .int _) ⟨_, rfl⟩ fun s' M' => ⟨Z4, .next, m, _, z1.trans (z2.trans z4), M', .next, q9.2.2⟩
  | _ => exact q9.elim

theorem exStep_sound {A : Around} {n : Nat} {Xf : Scope → Stmt → Lo → AH → QS → Prop} {st : Stmt} {Q : QS} {room} (hB : BaseOk B) (C : ∀ X, X.A = A → Xok B X room → CallsOk B cal X) (hA : X.A = A) (hX : Xok B X room) (hS : ScOk X sc) (hw : X.wr = true)
    (hx : ∀ st m σ Q, Xf sc st m σ Q → Ex B X (exec st X.env) m σ Q) (h : exStep B.G (evT B.G cal (n + 1)) Xf sc st m σ Q) : Ex B X (exec st X.env) m σ Q := by
  have S := evT_sound hB C (n + 1) X sc hA hX hS
  cases st with
  | Expr e pos =>
    obtain ⟨hn, h⟩ := chk.out h
    intro P Z s hb M
    exact wpAny_Expr_any (S.go h hb M fun u s1 Z1 v σ1 z1 M1 r1 q1 => ⟨Z1, .next, m, σ1, z1, M1, .next, q1⟩) (by unfold interactive; rw [hX.hk]; rfl) (not_comp hn)
  | Break p => exact fun P Z s hb M => wpAny_bind (wpAny_standAt (wpAny_pure ⟨Z, .brk, m, σ, .refl Z, M, .brk, h⟩))
  | Continue p => exact fun P Z s hb M => wpAny_bind (wpAny_standAt (wpAny_pure ⟨Z, .cont, m, σ, .refl Z, M, .cont, h⟩))
  | Return e p =>
    intro P Z s hb M
    obtain ⟨e, rfl, h⟩ := optQ.out h
    rw [exec_Return_some]
    exact wpAny_bind (wpAny_standAt (wpAny_bind (S.go h hb M fun u s1 Z1 v σ1 z1 M1 r1 q1 => wpAny_pure ⟨Z1, .ret v, m, σ1, z1, M1, .ret r1, q1⟩)))
  | Assign ts e p =>
    obtain ⟨t, ht, h1⟩ := optQ.out h
    obtain ⟨hok, h2⟩ := chk.out h1
    have ht : ts = [t] := by
      match ts, ht with
      | [t], ht => cases ht; rfl
      | [], ht => exact nn ht
      | _ :: _ :: _, ht => exact nn ht
    subst ht
    exact ex_assign hB C hA hX hS hw hok h2
  | AugAssign t op e p => exact aug_sound S h
  | If t a b p =>
    intro P Z s hb M
    refine wpAny_If (wpAny_mono (S.ts _ _ _ _ h P Z s hb M) (fun c s1 ⟨Z1, σ1, z1, M1, h1⟩ => ?_) fun zz zz x => x)
    rcases cnd.out h1 with ⟨rfl, h2⟩ | ⟨rfl, h2⟩ <;> exact wpAny_mono (blk_sound hx _ h2 P Z1 s1 hb M1) (fun zz zz h => h.up z1) fun zz zz x => x
  | While t body els p =>
    obtain ⟨he, h⟩ := chk.out h
    cases els with
    | nil => exact ex_while S hx h
    | cons _ _ => exact ff he
  | For t iter body els p =>
    obtain ⟨he, h1⟩ := chk.out h
    obtain ⟨tup, ht, h2⟩ := optQ.out h1
    cases els with
    | nil => exact ex_for hB hX hS S hw hx ht h2
    | cons _ _ => exact ff he
  | _ => exact (show False from h).elim

theorem exT_sound {A : Around} {room} (hB : BaseOk B) (C : ∀ X, X.A = A → Xok B X room → CallsOk B cal X) (hA : X.A = A) (hX : Xok B X room) (hS : ScOk X sc) (hw : X.wr = true) : ∀ (n : Nat) (st : Stmt) (m : Lo) (σ : AH) (Q : QS), exT B.G cal n sc st m σ Q → Ex B X (exec st X.env) m σ Q
  | 0, st, m, σ, Q, h => (show False from h).elim
  | n + 1, st, m, σ, Q, h => exStep_sound hB C hA hX hS hw (fun st m σ Q h => exT_sound hB C hA hX hS hw n st m σ Q h) h

end Mine

namespace Mine
set_option tactic.hygienic false
set_option genSizeOfSpec false
open PySem PySem.W PyProof.Rows PySem.Calls
set_option maxRecDepth 100000
variable {B : Base} {X X' : Fx} {P P' Z : PM} {own own1 : Addr → Tag} {m m' : Lo} {σ : AH} {s : Shared} {sc : Scope} {T : EvT} {G : Str → Option V} {cal : Calls}

mutual
theorem RV.sub {a : Addr} {w : V} (h : RV Z (.ref a) w) : ∀ {v : V} {u : Value}, RV Z u v → RV Z u (V.sub a w v)
  | .none, _, x => x
  | .bool _, _, x => x
  | .int _, _, x => x
  | .str _, _, x => x
  | .ty _, _, x => x
  | .bi _, _, x => x
  | .fl _, _, x => x
  | .fi _ _ _, _, x => x
  | .ref b, u, x => by
    cases (show u = .ref b from x)
    show RV Z (.ref b) (if b = a then w else .ref b)
    by_cases q : b = a
    · subst q; rw [if_pos rfl]; exact h
    · rw [if_neg q]; exact rfl
  | .tup vs, _, x => by
    obtain ⟨b, o, us, ep, e, z, c, d, n, r⟩ := x
    exact ⟨b, o, us, ep, e, z, c, d, n, RVs.sub h r⟩
theorem RVs.sub {a : Addr} {w : V} (h : RV Z (.ref a) w) : ∀ {vs : List V} {us : List Value}, RVs Z us vs → RVs Z us (V.subs a w vs)
  | [], _, x => x
  | v :: vs, _, x => by
    obtain ⟨u, us', e, r, rs⟩ := x
    exact ⟨u, us', e, RV.sub h r, RVs.sub h rs⟩
end

theorem RF.setL {x : Str} {a : Addr} {w : V} (h : RV Z (.ref a) w) : ∀ {es : List DictEntry} {fs : Lo}, RF Z es fs → Mine.getL x fs = some (.ref a) → RF Z es (Mine.setL x w fs)
  | _, [], _, e => nn e
  | _, (y, v) :: fs, rf, e => by
    obtain ⟨en, es', rfl, k, r, rs⟩ := rf
    unfold Mine.getL at e
    unfold Mine.setL
    by_cases q : x = y
    · rw [if_pos q] at e ⊢
      cases e
      exact ⟨en, es', rfl, k, (show en.val = .ref a from r) ▸ h, rs⟩
    · rw [if_neg q] at e ⊢
      exact ⟨en, es', rfl, k, r, rs.setL h e⟩
theorem setL_same {x : Str} {v w : V} : ∀ {fs : Lo}, getL x fs = some v → (setL x w fs).map (·.1) = fs.map (·.1)
  | [], e => nn e
  | (y, z) :: fs, e => by
    unfold getL at e
    unfold setL
    by_cases q : x = y
    · rw [if_pos q]; rfl
    · rw [if_neg q] at e ⊢; exact congrArg (List.cons y) (setL_same e)

theorem Mw.notFroz {a : Addr} {t : Tag} (M : Mw B X P Z own m σ s) (ht : own a = t) (h : t ≠ .froz) : Z a = none := by
  cases e : Z a with
  | none => rfl
  | some o => exact absurd (ht.symm.trans (M.kz a o e).2) h
/-- What is owned is frozen: what is changed are the tags and what is frozen. -/
theorem Mw.freeze {a : Addr} {Z' : PM} {own' : Addr → Tag} (M : Mw B X P Z own m σ s) (hz : Zle Z Z') (to : ∀ b, own b ≠ .obj → (∀ c, own b ≠ .dic c) → own' b = own b) (kz : ∀ b o, Z' b = some o → Z b = some o ∨ (s.heap.get? b = some o ∧ own' b = .froz))
    (ko : ∀ b o, b ≠ a → σ b = some o → own' b = .obj ∧ ∀ c, own c = .dic b → own' c = own c) : Mw B X P Z' own' m (del σ a) s where
  kp b o e := have q := M.kp b o e; ⟨q.1, (to b (by rw [q.2]; nofun) (by rw [q.2]; nofun)).trans q.2⟩
  kz b o e := by
    rcases kz b o e with e | e
    · have q := M.kz b o e; exact ⟨q.1, (to b (by rw [q.2]; nofun) (by rw [q.2]; nofun)).trans q.2⟩
    · exact e
  lo := let ⟨t, mm, hm, r⟩ := M.lo; ⟨(to _ (by rw [t]; nofun) (by rw [t]; nofun)).trans t, mm, hm, fun x v a b => let ⟨u, p, q⟩ := r x v a b; ⟨u, p, q.mono hz⟩⟩
  ce x c e := let ⟨t, u0, hm, r⟩ := M.ce x c e; ⟨t.imp (fun q => ⟨q.1, (to _ (by rw [q.2]; nofun) (by rw [q.2]; nofun)).trans q.2⟩) (fun q => ⟨q.1, (to _ (by rw [q.2.1]; nofun) (by rw [q.2.1]; nofun)).trans q.2.1, q.2.2⟩), u0, hm, fun v a b => let ⟨u, p, q⟩ := r v a b; ⟨u, p, q.mono hz⟩⟩
  ob b o e := by
    unfold del at e
    split at e
    · exact nomatch e
    · rename_i q
      have z := M.ob b o e
      have k := ko b o q e
      refine ⟨k.1, z.2.keep hz fun c oc ec hc => ⟨ec, ?_⟩⟩
      rcases hc with rfl | hc
      · exact k.1.trans z.1.symm
      · exact k.2 c hc
  gn := M.gn
  os := M.os

inductive FrzO (B : Base) (X : Fx) (P Z : PM) (m : Lo) (σ' : AH) (s : Shared) (u : Value) (v : V) : Prop
  | mk (Z' : PM) (own' : Addr → Tag) (hz : Zle Z Z') (M : Mw B X P Z' own' m σ' s) (r : RV Z' u v)
/-- An owned list is frozen. -/
theorem Mw.freezeL {a : Addr} {vs : List V} (M : Mw B X P Z own m σ s) (h : σ a = some (.list vs)) : FrzO B X P Z m (del σ a) s (.ref a) (.fl vs) := by
  obtain ⟨ta, us, ⟨n, pl⟩, hs, rs⟩ := M.ob _ _ h
  have zn : Z a = none := M.notFroz ta nofun
  have hz : Zle Z (zput Z a (listOf us n)) := fun b o e => by
    unfold zput; split
    · rename_i q; rw [q, zn] at e; exact nomatch e
    · exact e
  refine ⟨zput Z a (listOf us n), tput own a .froz, hz, M.freeze hz (fun b hb zz => if_neg (by rintro rfl; exact hb ta)) (fun b o e => ?_) (fun b o q e => ⟨(if_neg q).trans (M.ob b o e).1, fun c hc => if_neg (by rintro rfl; exact nomatch ta.symm.trans hc)⟩),
    ⟨a, listOf us n, us, n, rfl, zput_self, rfl, ⟨rfl, rfl⟩, hs, rs.mono hz⟩⟩
  unfold zput at e
  split at e
  · rename_i q; cases e; subst q; exact .inr ⟨pl, tput_self⟩
  · exact .inl e

/-- An owned object of a class is frozen. -/
theorem Mw.freezeI {a c : Addr} {fs : Lo} (M : Mw B X P Z own m σ s) (h : σ a = some (.inst c fs)) : FrzO B X P Z m (del σ a) s (.ref a) (.fi a c fs) := by
  obtain ⟨ta, hc, ok, d, es, ep, ea, ed, td, rf⟩ := M.ob _ _ h
  have za : Z a = none := M.notFroz ta nofun
  have zd : Z d = none := M.notFroz td nofun
  have ad : d ≠ a := by rintro rfl; exact nomatch ta.symm.trans td
  have hz : Zle Z (zput (zput Z d (dictOf es ep)) a (instObj c d)) := fun b o e => by
    show (if b = a then _ else if b = d then _ else Z b) = _
    rw [if_neg (by rintro rfl; exact nomatch za.symm.trans e), if_neg (by rintro rfl; exact nomatch zd.symm.trans e)]; exact e
  have tn : ∀ b, b ≠ a → b ≠ d → tput (tput own d .froz) a .froz b = own b := fun b h1 h2 => (if_neg h1).trans (if_neg h2)
  have td' : tput (tput own d .froz) a .froz d = .froz := (if_neg ad).trans tput_self
  refine ⟨_, tput (tput own d .froz) a .froz, hz, M.freeze hz (fun b hb hb' => tn b (by rintro rfl; exact hb ta) (by rintro rfl; exact hb' _ td)) (fun b o e => ?_) (fun b o q e => ⟨(tn b q ?_).trans (M.ob b o e).1, fun c hc => tn c ?_ ?_⟩),
    ⟨rfl, hc, ok, d, es, ep, zput_self, (if_neg ad).trans zput_self, rf.mono hz⟩⟩
  · have e : (if b = a then some (instObj c d) else if b = d then some (dictOf es ep) else Z b) = some o := e
    split at e
    · rename_i q; cases e; subst q; exact .inr ⟨ea, tput_self⟩
    · split at e
      · rename_i q; cases e; subst q; exact .inr ⟨ed, td'⟩
      · exact .inl e
  · rintro rfl; exact nomatch (M.ob _ o e).1.symm.trans td
  · rintro rfl; exact nomatch ta.symm.trans hc
  · rintro rfl; exact q (Tag.dic.inj (td.symm.trans hc)).symm

theorem del_put {a b : Addr} {o : O} (h : a ≠ b) : del (put σ b o) a = put (del σ a) b o := by
  funext c
  show (if c = a then none else if c = b then some o else σ c) = (if c = b then some o else if c = a then none else σ c)
  by_cases q : c = a
  · subst q; rw [if_pos rfl, if_neg h, if_pos rfl]
  · rw [if_neg q, if_neg q]

theorem wk_sound {v v' : V} {σ σ' : AH} (w : Wk v σ v' σ') : ∀ {Z own u}, Mw B X P Z own m σ s → RV Z u v → FrzO B X P Z m σ' s u v' := by
  induction w with
  | refl v σ => exact fun M r => ⟨_, _, .refl _, M, r⟩
  | drop h => exact fun M r => ⟨_, _, .refl _, M.drop h, r⟩
  | list h =>
    intro Z own u M r
    obtain ⟨Z', own', hz, M', r'⟩ := M.freezeL h
    exact ⟨Z', own', hz, M', RV.sub r' (r.mono hz)⟩
  | inst h =>
    intro Z own u M r
    obtain ⟨Z', own', hz, M', r'⟩ := M.freezeI h
    exact ⟨Z', own', hz, M', RV.sub r' (r.mono hz)⟩
  | @field v σ b c fs x a vs hb hx ha hne =>
    intro Z own u M r
    obtain ⟨Z', own', hz, M', r'⟩ := M.freezeL ha
    refine ⟨Z', own', hz, ?_, r.mono hz⟩
    rw [del_put hne]
    obtain ⟨tb, hc, ok, d, es, ep, ea, ed, td, rf⟩ := M'.ob b (.inst c fs) ((if_neg (Ne.symm hne)).trans hb)
    exact M'.own_put (n := b) (o := .inst c (setL x (.fl vs) fs)) ⟨hc, by rw [setL_same hx]; exact ok, d, es, ep, ea, ed, td, RF.setL r' rf hx⟩ tb
  | trans _ _ ih1 ih2 =>
    intro Z own u M r
    obtain ⟨Z1, own1, h1, M1, r1⟩ := ih1 M r
    obtain ⟨Z2, own2, h2, M2, r2⟩ := ih2 M1 r1
    exact ⟨Z2, own2, h1.trans h2, M2, r2⟩

theorem ret_sound {v : V} {u : Value} {Q : QV} (M : Mw B X P Z own m σ s) (r : RV Z u v) (h : retP v σ Q) : PoV B X P Z m Q u s := by
  unfold retP at h
  obtain ⟨v', σ', w, q⟩ := h
  obtain ⟨Z', own', hz, M', r'⟩ := wk_sound w M r
  exact ⟨Z', v', σ', hz, ⟨_, M'⟩, r', q⟩

end Mine

namespace Mine
set_option tactic.hygienic false
set_option genSizeOfSpec false
open PySem PySem.W PyProof.Rows PySem.Calls
set_option maxRecDepth 100000
variable {B : Base} {X X' : Fx} {P P' Z : PM} {own own1 : Addr → Tag} {m m' : Lo} {σ : AH} {s : Shared} {sc : Scope} {T : EvT} {G : Str → Option V} {cal : Calls}

noncomputable def isDat : Tag → Bool
  | .obj => true
  | .froz => true
  | .dic _ => true
  | _ => false

noncomputable def calleeP (own : Addr → Tag) (h : Heap) : PM := fun b => if isDat (own b) = true then none else h.get? b
noncomputable def calleeOwn (own : Addr → Tag) (h : Heap) (L : Addr) (cs : List (Str × Addr)) : Addr → Tag := fun b =>
  if (h.get? b).isSome = true then (if isDat (own b) = true then own b else .prot) else if b = L then .locals else match cs.find? (fun p => decide (p.2 = b)) with | some p => .cell p.1 | none => .other

theorem find_apart {x : Str} {c : Addr} : ∀ {cs : List (Str × Addr)}, cs.Pairwise (fun x y => x.2 ≠ y.2) → (x, c) ∈ cs → cs.find? (fun p => decide (p.2 = c)) = some (x, c)
  | p :: cs, pw, h => by
    rw [List.pairwise_cons] at pw
    cases h with
    | head => exact List.find?_cons_of_pos (decide_eq_true rfl)
    | tail _ h => exact (List.find?_cons_of_neg (p := fun p : Str × Addr => decide (p.2 = c)) fun e => pw.1 _ h (of_decide_eq_true e)).trans (find_apart pw.2 h)

theorem cellsFrom_mem {x : Str} : ∀ (names : List (Str × NameKind)) (k : Nat) (acc : List (Str × Addr)), ((x, NameKind.cell) ∈ names ∨ ∃ c, (x, c) ∈ acc) → ∃ c, (x, c) ∈ cellsFrom k names acc
  | [], _, acc, h => h.elim (fun h => nomatch h) id
  | (n, k') :: r, k, acc, h => by
    unfold cellsFrom
    split
    · rename_i hk
      refine cellsFrom_mem r _ _ ?_
      rcases h with h | ⟨c, h⟩
      · cases h with
        | head => exact .inr ⟨k, .head _⟩
        | tail _ h => exact .inl h
      · exact .inr ⟨c, .tail _ h⟩
    · rename_i hk
      refine cellsFrom_mem r _ _ (h.imp (fun h => ?_) id)
      cases h with
      | head => exact absurd rfl hk
      | tail _ h => exact h
theorem cellsFrom_lookup {x : Str} {names : List (Str × NameKind)} {k : Nat} (h : names.lookup x = some .cell) : ∃ c, (cellsFrom k names []).lookup x = some c := by
  obtain ⟨c, hc⟩ := cellsFrom_mem names k [] (.inl (mem_of_lookup h))
  cases e : (cellsFrom k names []).lookup x with
  | some c => exact ⟨c, rfl⟩
  | none =>
    have := List.lookup_eq_none_iff.mp e _ hc
    simp at this

theorem bindL_out {kd : Str → Option NameKind} {y : Str} : ∀ {bs : List (Str × Value)} {mm : Str → Option Value}, y ∉ bs.map (·.1) → bindL kd bs mm y = mm y
  | [], _, _ => rfl
  | (n, v) :: r, mm, h => by
    unfold bindL
    rw [bindL_out fun q => h (.tail _ q)]
    split
    · exact if_neg fun (e : y = n) => h (by rw [e]; exact .head _)
    · rfl
theorem bindC_out {kd : Str → Option NameKind} {y : Str} : ∀ {bs : List (Str × Value)} {mm : Str → Option Value}, y ∉ bs.map (·.1) → bindC kd bs mm y = mm y
  | [], _, _ => rfl
  | (n, v) :: r, mm, h => by
    unfold bindC
    rw [bindC_out fun q => h (.tail _ q)]
    split
    · rfl
    · exact if_neg fun (e : y = n) => h (by rw [e]; exact .head _)

inductive BindR (Z : PM) (kd : Str → Option NameKind) (bs : List (Str × Value)) (mm mc : Str → Option Value) (y : Str) (v : V) : Prop
  | mk (u : Value) (r : RV Z u v) (a : kd y = some .local → bindL kd bs mm y = some u) (b : kd y ≠ some .local → bindC kd bs mc y = some u)
theorem bind_in {kd : Str → Option NameKind} {y : Str} : ∀ {ps : List Str} {us : List Value} {vs : List V} {mm mc : Str → Option Value} {v : V}, ps.Nodup → ps.length = vs.length → RVs Z us vs → getL y (ps.zip vs) = some v → BindR Z kd (ps.zip us) mm mc y v
  | [], us, vs, mm, mc, v, _, _, _, h => nn h
  | p :: ps, us, [], mm, mc, v, _, hl, _, _ => nomatch hl
  | p :: ps, us, w :: vs, mm, mc, v, nd, hl, r, h => by
    obtain ⟨u, us', rfl, r, rs⟩ := r
    rw [List.nodup_cons] at nd
    have hl' : ps.length = vs.length := Nat.succ.inj hl
    rw [List.zip_cons_cons] at h ⊢
    unfold getL at h
    by_cases q : y = p
    · subst q
      rw [if_pos rfl] at h
      cases h
      have out : y ∉ (ps.zip us').map (·.1) := by rw [List.map_fst_zip (Nat.le_of_eq (hl'.trans rs.length.symm))]; exact nd.1
      refine ⟨u, r, fun hk => ?_, fun hk => ?_⟩
      · unfold bindL; rw [bindL_out out, if_pos hk, if_pos rfl]
      · unfold bindC; rw [bindC_out out, if_neg hk, if_pos rfl]
    · rw [if_neg q] at h
      obtain ⟨u', r', a, b⟩ := bind_in (kd := kd) (mm := if kd p = some .local then fun z => if z = p then some u else mm z else mm) (mc := if kd p = some .local then mc else fun z => if z = p then some u else mc z) nd.2 hl' rs h
      exact ⟨u', r', a, b⟩

/-- What is asked of a function's object. -/
inductive FnEx (B : Base) (a : Addr) (ps : List Str) (sc : Scope) (body : List Stmt) : Prop
  | mk (name qual : Str) (params : Arguments) (dV kV doc pm cdv ct oc : Value) (od an : Option Addr) (osl : Array (Option Value)) (ho : B.K.lookup a = some ⟨oc, od, .func (fnOf name qual params body sc dV kV doc pm an cdv ct), osl⟩) (hcd : codeIn B.K cdv qual = true) (hkd : kdsCode B.K cdv = true)
    (hbind : ∀ vals, vals.length = ps.length → bindArgs (fnOf name qual params body sc dV kV doc pm an cdv ct) ⟨vals, []⟩ = pure (ps.zip vals))
structure FnOk (B : Base) (a : Addr) (ps : List Str) (sc : Scope) (body : List Stmt) : Prop where
  ex : FnEx B a ps sc body
  kind : sc.kind = .function
  co : sc.isCoroutine = false
  gen : sc.isGenerator = false
  par : ∀ p ∈ ps, sc.names.lookup p = some .local ∨ sc.names.lookup p = some .cell
  nd : ps.Nodup
  nofree : ∀ x, sc.names.lookup x ≠ some .free

/-- The frame of a call. -/
inductive FrameOk (B : Base) (sc : Scope) (L : Addr) (env : Env) (cdv : Value) : Prop
  | mk (eL : env.locals = L) (eS : env.scope = sc) (eC : env.cells = cellsFrom (L + 1) sc.names []) (eG : env.globals = mainGlobals) (eB : env.builtins = builtinsNs) (ecode : env.code = cdv)
theorem frame_ok {A : Around} {env : Env} {L : Addr} {cdv : Value} {room : Nat} (F : FrameOk B sc L env cdv) (hkd : kdsCode B.K cdv = true) (hk : sc.kind = .function) (hnf : ∀ x, sc.names.lookup x ≠ some .free) (hh : A.handled = none)
    (hu : A.units + 100 * (room + 1) + 200 < cLine) (hd : A.depth + 10 * (room + 1) + 100 < recursionLimit) (hL : B.h0.objs.size ≤ L) :
    Xok B { A := A.deeper env, env := env, wr := true } room ∧ ScOk { A := A.deeper env, env := env, wr := true } sc := by
  obtain ⟨eL, eS, eC, eG, eB, ecode⟩ := F
  have eK : ∀ y, env.kindOf y = sc.names.lookup y := fun y => by unfold Env.kindOf; rw [eS]
  refine ⟨{
    hL := by show B.h0.objs.size ≤ env.locals; rw [eL]; exact hL
    hh := hh
    hk := by show env.scope.kind = _; rw [eS]; exact hk
    hg := eG
    hb := eB
    hc := fun y hy => by
      have hy : env.kindOf y = some .cell ∨ env.kindOf y = some .free := hy
      rw [eK] at hy
      rcases hy with hy | hy
      · show ∃ c, env.cells.lookup y = some c
        rw [eC]; exact cellsFrom_lookup hy
      · exact absurd hy (hnf _)
    hcode := by show kdsCode B.K env.code = true; rw [ecode]; exact hkd
    hu := by show (A.deeper env).units + 100 * room + 200 < cLine; rw [units_deeper]; lia
    hd := by show (A.deeper env).depth + 10 * room + 100 < recursionLimit; rw [depth_deeper]; lia }, fun y k e => ?_, fun y k e q => ?_⟩
  · show env.kindOf y = _
    rw [eK, e, if_neg fun (q : k = .free) => hnf y (q ▸ e)]
  · have e : env.kindOf y = some k := e
    rw [eK] at e; exact hnf y (q ▸ e)
theorem fn_run {A : Around} {a : Addr} {ps : List Str} {body : List Stmt} {us : List Value} {vs : List V} {n room : Nat} {R : Result → Shared → Prop} (hB : BaseOk B) (hF : FnOk B a ps sc body)
    (hh : A.handled = none) (hu : A.units + 100 * (room + 1) + 200 < cLine) (hd : A.depth + 10 * (room + 1) + 100 < recursionLimit) (hL0 : B.h0.objs.size ≤ X.env.locals)
    (C : ∀ X, Xok B X room → CallsOk B cal X) (hb : BaseIn B P) (M : Mw B X P Z own m σ s) (rs : RVs Z us vs) {Q : QV}
    (hl : ps.length = vs.length) (h : blkP (exT B.G cal n sc) body (ps.zip vs) σ (kFn Q)) (hR : ∀ u s', PoV B X P Z m Q u s' → R (.ok (.ret u)) s') : codeAny (model B.prog B.w) A (.call (.ref a) ⟨us, []⟩) R s := by
  obtain ⟨name, qual, params, dV, kV, doc, pm, cdv, ct, oc, od, an, osl, ho, hcd, hkd, hbind⟩ := hF.ex
  have X0 := M.kin hB hb
  have hlu : us.length = ps.length := by rw [rs.length, hl]
  have hLlt : X.env.locals < s.heap.objs.size := by obtain ⟨_, mm, ⟨ob, es, ep, ho, _⟩, _⟩ := M.lo; exact Heap.lt_size ho
  refine codeAny_call_cells (fd := fnOf name qual params body sc dV kV doc pm an cdv ct) (body := body) (binds := ps.zip us) (by lia) (X0 _ _ ho) rfl (hB.lim.keeps (M.base hb)) (codeRec_of X0 hcd) rfl (hbind us hlu) rfl (fun x hx => ?_) (fun s1 x => ?_) hF.co hF.gen hF.kind
  · have hx1 : x.1 ∈ ps := by
      have := List.mem_map_of_mem (f := fun p : Str × Value => p.1) hx
      rwa [List.map_fst_zip (Nat.le_of_eq hlu.symm)] at this
    refine (hF.par _ hx1).imp id fun e => ⟨e, ?_⟩
    obtain ⟨c, hc⟩ := cellsFrom_lookup (k := s.heap.objs.size + 1) e
    show ((cellsFrom (s.heap.objs.size + 1) sc.names []).lookup x.1).isSome = true
    rw [hc]; rfl
  · have FO : FrameOk B sc s.heap.objs.size (callEnvC (fnOf name qual params body sc dV kV doc pm an cdv ct) s.heap.objs.size a) cdv := ⟨rfl, rfl, rfl, rfl, rfl, rfl⟩
    generalize callEnvC (fnOf name qual params body sc dV kV doc pm an cdv ct) s.heap.objs.size a = env at x FO ⊢
    obtain ⟨hX, hS⟩ := frame_ok (room := room) FO hkd hF.kind hF.nofree hh hu hd (Nat.le_of_lt (Nat.lt_of_le_of_lt hL0 hLlt))
    obtain ⟨eL, _, _, _, _, _⟩ := FO
    clear ho hcd hkd hbind hu hd hh hL0 hLlt
    have hnL : s.heap.get? s.heap.objs.size = none := fresh_none (Nat.le_refl _)
    have alive_own : ∀ b o, s.heap.get? b = some o → calleeOwn own s.heap s.heap.objs.size env.cells b = if isDat (own b) = true then own b else .prot := fun b o e => by unfold calleeOwn; rw [e]; rfl
    obtain ⟨⟨hs1, tk1, es1⟩, hns1, hk1, _⟩ := x.toInCall
    have cellFresh : ∀ y c, env.cells.lookup y = some c → calleeOwn own s.heap s.heap.objs.size env.cells c = .cell y := fun y c e => by
      have hm := mem_of_lookup e
      have hlt := x.above _ _ hm
      rw [eL] at hlt
      unfold calleeOwn
      rw [fresh_none (Nat.le_of_lt hlt), if_neg nofun, if_neg (Nat.ne_of_gt hlt), find_apart x.apart hm]
    have bin : ∀ {y v}, getL y (ps.zip vs) = some v → BindR Z env.kindOf (ps.zip us) (fun zz => none) (fun zz => none) y v := fun e => bind_in hF.nd hl rs e
    have M1 : Mw B { A := A.deeper env, env := env, wr := true } (calleeP own s.heap) Z (calleeOwn own s.heap s.heap.objs.size env.cells) (ps.zip vs) σ s1 := {
      kp := fun b o e => by
        unfold calleeP at e
        split at e
        · exact nomatch e
        · rename_i q
          exact ⟨hk1 _ _ e, by rw [alive_own b o e, if_neg q]⟩
      kz := fun b o e => by
        have q := M.kz b o e
        exact ⟨hk1 _ _ q.1, by rw [alive_own b o q.1, q.2]; rfl⟩
      lo := ⟨by
        show calleeOwn own s.heap s.heap.objs.size env.cells env.locals = _
        unfold calleeOwn; rw [eL, hnL, if_neg nofun, if_pos rfl], _, hns1, fun y v e hk => let ⟨u, r, a, _⟩ := bin e; ⟨u, a hk, r⟩⟩
      ce := fun y c e => ⟨.inl ⟨rfl, cellFresh y c e⟩, _, x.cell y c e, fun v e' hk => let ⟨u, r, _, b⟩ := bin e'; ⟨u, b hk, r⟩⟩
      ob := fun b o e => by
        have q := M.ob b o e
        obtain ⟨ob, hob⟩ := q.2.alive
        refine ⟨by rw [alive_own b ob hob, q.1]; rfl, q.2.keep (.refl Z) fun c oc ec hc => ⟨hk1 _ _ ec, ?_⟩⟩
        rw [alive_own c oc ec]
        rcases hc with rfl | hc
        · rw [q.1]; rfl
        · rw [hc]; rfl
      gn := by rw [es1]; exact M.gn
      os := by rw [es1]; exact M.os }
    have hb1 : BaseIn B (calleeP own s.heap) := fun b o e => by
      have q := M.kp b o (hb b o e)
      unfold calleeP; rw [q.2]; exact q.1
    have ex := blk_sound (X := { A := A.deeper env, env := env, wr := true }) (fun st m σ Q h => exT_sound hB (fun Y zz hY => C Y hY) rfl hX hS rfl n st m σ Q h) body h
    refine wpAny_mono (ex _ Z s1 hb1 ⟨_, M1⟩) (fun f s2 ⟨Z2, fl, m2, σ2, hz2, ⟨own1, M2⟩, r2, q2⟩ => ?_) fun zz zz x => False.elim x
    clear M1 hb1 ex
    have kp2 : ∀ b o, isDat (own b) = false → s.heap.get? b = some o → s2.heap.get? b = some o ∧ own1 b = .prot := fun b o hd e => M2.kp b o (by unfold calleeP; rw [hd]; exact e)
    obtain ⟨own2, o2, o3⟩ : ∃ own2 : Addr → Tag, (∀ b o, isDat (own b) = false → s.heap.get? b = some o → own2 b = own b) ∧ ∀ b, isDat (own1 b) = true → own2 b = own1 b :=
      ⟨fun b => if (s.heap.get? b).isSome = true ∧ isDat (own b) = false then own b else own1 b, fun b o hd e => if_pos ⟨by rw [e]; rfl, hd⟩, fun b hdat => if_neg fun ⟨h1, h2⟩ => by
        obtain ⟨o, e⟩ := Option.isSome_iff_exists.mp h1
        rw [(kp2 b o h2 e).2] at hdat; exact nomatch hdat⟩
    have MM : Mw B X P Z2 own2 m σ2 s2 := by
      refine M2.swap (fun b o e => ?_) (fun b hbd => o3 b (by rcases hbd with h | h | ⟨c, h⟩ <;> rw [h] <;> rfl)) ?_ fun y c e => ?_
      · have q := M.kp b o e
        have hd : isDat (own b) = false := by rw [q.2]; rfl
        exact ⟨(kp2 b o hd q.1).1, (o2 b o hd q.1).trans q.2⟩
      · obtain ⟨t, mm, hn, rr⟩ := M.lo
        have hd : isDat (own X.env.locals) = false := by rw [t]; rfl
        exact ⟨by obtain ⟨ob, es, ep, ho, _⟩ := hn; exact (o2 _ ob hd ho).trans t, mm, ns_at hn fun ob ho => (kp2 _ ob hd ho).1, fun y v a b => let ⟨u, p, q⟩ := rr y v a b; ⟨u, p, q.mono hz2⟩⟩
      · obtain ⟨t, u0, hc, rr⟩ := M.ce y c e
        have hd : isDat (own c) = false := by rcases t with t | t; rw [t.2]; rfl; rw [t.2.1]; rfl
        have oc : own2 c = own c := by obtain ⟨ob, ho, _⟩ := hc; exact o2 _ ob hd ho
        exact ⟨oc.symm ▸ t, u0, cell_at hc fun ob ho => (kp2 _ ob hd ho).1, fun v a b => let ⟨u, p, q⟩ := rr v a b; ⟨u, p, q.mono hz2⟩⟩
    have fin : ∀ {u v}, RV Z2 u v → retP v σ2 Q → R (.ok (.ret u)) s2 := fun r q => hR _ _ ((ret_sound MM r q).up hz2)
    cases r2 with
    | ret r => exact fin r q2
    | next => exact fin (v := .none) rfl q2
    | brk => exact fin (v := .none) rfl q2
    | cont => exact fin (v := .none) rfl q2

structure ClsOk (B : Base) (a init : Addr) : Prop where
  makes : makesIn B.K a = true
  find : findIn B.K (.ref a) "__init__" = some (some (.ref init))
  typ : typeIn B.K (.ref init) = some (.type "function")
  mem : a ∈ clss

structure FnsOk (B : Base) (F : Addr → Option Fn) : Prop where
  fn : ∀ a ps sc body, F a = some (.fn ps sc body) → FnOk B a ps sc body
  cls : ∀ a init, F a = some (.cls init) → ClsOk B a init
  keep : ∀ a f, F a = some f → keepIn B.K (.ref a) = true
  init : ∀ a init, F a = some (.cls init) → ∃ ps sc body, F init = some (.fn ps sc body)

theorem make_sound {F : Addr → Option Fn} {d : Nat} {a init : Addr} {us : List Value} {vs : List V} {Q : QV} {R : Result → Shared → Prop} (hB : BaseOk B) (hF : FnsOk B F) (hX : Xok B X (d + 1)) (ih : ∀ d', d' < d + 1 → ∀ Y : Fx, Xok B Y d' → CallsOk B (calls B.G F d') Y) (hb : BaseIn B P) (M : Mw B X P Z own m σ s) (rs : RVs Z us vs) (hfa : F a = some (.cls init))
    (h : ∀ n, σ n = none → calls B.G F d init (.ref n :: vs) (put σ n (.inst a [])) fun v σ => v = .none ∧ retP (.ref n) σ Q) (hR : ∀ u s', PoV B X P Z m Q u s' → R (.ok (.ret u)) s') : codeAny (model B.prog B.w) X.A (.call (.ref a) ⟨us, []⟩) R s := by
  obtain ⟨hm, hi, hty, hmem⟩ := hF.cls _ _ hfa
  obtain ⟨ps, sc, body, hfi⟩ := hF.init _ _ hfa
  have X0 := M.kin hB hb
  obtain ⟨hp, g, dr, t, os⟩ := s
  refine make_core (makes_of X0 hm) (looks_findIn X0 hi) (fun self => bind_fn X0 self hty) (.inl rfl) ?_
  have hn0 : hp.get? hp.objs.size = none := fresh_none (Nat.le_refl _)
  have hn1 : hp.get? (hp.objs.size + 1) = none := fresh_none (Nat.le_succ _)
  have e0 : ((hp.push emptyDict).push (instObj a hp.objs.size)).get? hp.objs.size = some (dictOf [] 0) := Heap.get?_push_of_some _ (Heap.get?_push_size _ rfl)
  have e1 : ((hp.push emptyDict).push (instObj a hp.objs.size)).get? (hp.objs.size + 1) = some (instObj a hp.objs.size) := by
    have := Heap.get?_push_size (hp.push emptyDict) (o := instObj a hp.objs.size) rfl
    rwa [Heap.size_push] at this
  obtain ⟨sn, M1⟩ := M.alloc (n := hp.objs.size + 1) (o := .inst a []) (s' := ⟨(hp.push emptyDict).push (instObj a hp.objs.size), g, dr, t, os⟩) (own' := tput (tput own hp.objs.size (.dic (hp.objs.size + 1))) (hp.objs.size + 1) .obj) hn1
    (fun b ob e => ⟨Heap.get?_push_of_some _ (Heap.get?_push_of_some _ e), (if_neg (by rintro rfl; exact nomatch hn1.symm.trans e)).trans (if_neg (by rintro rfl; exact nomatch hn0.symm.trans e))⟩)
    ⟨hmem, (fun x hx => nomatch hx), hp.objs.size, [], 0, e1, e0, (if_neg (Nat.ne_of_lt (Nat.lt_succ_self _))).trans tput_self, rfl⟩ tput_self rfl rfl
  have h := h _ sn
  cases d with
  | zero => exact (show False from h).elim
  | succ d =>
    unfold calls at h
    rw [hfi] at h
    obtain ⟨hl, h⟩ := h
    have hu := hX.hu
    have hd := hX.hd
    refine fn_run (room := d) (A := X.A.under (.builtin "type.__call__" ⟨.ref a :: us, []⟩)) hB (hF.fn _ _ _ _ hfi) hX.hh (by rw [units_under_make]; lia) (by rw [depth_under_make]; lia) hX.hL (fun Y hY => ih d (by lia) Y hY) hb M1 (vs := .ref (hp.objs.size + 1) :: vs) (RVs.cons rfl rs) hl h fun u s' ⟨Z2, v2, σ2, hz2, ⟨own2, M2⟩, r2, e2, q2⟩ => ?_
    subst e2
    exact ⟨r2, hR _ _ ((ret_sound M2 (v := .ref (hp.objs.size + 1)) rfl q2).up hz2)⟩
theorem calls_sound {F : Addr → Option Fn} (hB : BaseOk B) (hF : FnsOk B F) : ∀ (d : Nat) (X : Fx), Xok B X d → CallsOk B (calls B.G F d) X := by
  intro d
  induction d using Nat.strongRecOn with
  | ind d ih =>
    intro X hX
    cases d with
    | zero => exact ⟨fun a vs σ Q h => (show False from h).elim, fun a vs σ Q h => (show False from h).elim⟩
    | succ d =>
      refine ⟨fun a vs σ Q h P Z s us m hb ⟨own, M⟩ rs => ?_, fun a vs σ Q h => ?_⟩
      · refine wpAny_call ?_
        unfold calls at h
        cases hfa : F a with
        | none => rw [hfa] at h; exact h.elim
        | some f =>
          rw [hfa] at h
          cases f with
          | fn ps sc body => exact fn_run (room := d) hB (hF.fn _ _ _ _ hfa) hX.hh hX.hu hX.hd hX.hL (fun Y hY => ih d (Nat.lt_succ_self _) Y hY) hb M rs h.1 h.2 fun u s' h => h
          | cls init => exact make_sound hB hF hX ih hb M rs hfa h fun u s' h => h
      · unfold calls at h
        cases hfa : F a with
        | none => rw [hfa] at h; exact h.elim
        | some f => exact hF.keep _ _ hfa

end Mine

namespace Mine
set_option tactic.hygienic false
set_option genSizeOfSpec false
set_option genInjectivity false
open PySem PySem.W PyProof.Rows
set_option maxRecDepth 1000000
set_option maxHeartbeats 0

/-- What stands in the heap, but the lists. -/
noncomputable def isL : Value → Bool
  | .type n => n == "list"
  | _ => false
noncomputable def fragF (h : Heap) (a : Addr) : Option (Addr × Obj) := match h.get? a with
  | some o => if isL o.cls = true then none else some (a, o)
  | none => none
/-- Where the facts lie: the globals; each function and its code; each class and its dictionary. -/
noncomputable def kAddrs : List Nat := 3 :: (fnTab.flatMap fun r => [r.a - 1, r.a]) ++ clTab.flatMap fun p => [p.1 - 1, p.1]
noncomputable def fragOf (h : Heap) : Frag := kAddrs.filterMap (fragF h)

structure FView where
  params : Arguments
  body : FuncBody
  scope : Scope
  globals : Addr
  closure : List (Str × Addr)
  dV : Value
  kV : Value
  bl : Addr
noncomputable def viewOf (K : Frag) (a : Addr) : Option FView := match K.lookup a with
  | some o => (match o.data with
    | .func fd => some ⟨fd.params, fd.body, fd.scope, fd.globals, fd.closure, fd.defaults, fd.kwdefaults, fd.builtins⟩
    | _ => none)
  | none => none
noncomputable def viewFR (r : FR) : Option FView := some ⟨r.params, .stmts r.body, r.sc, mainGlobals, [], .none, .none, builtinsNs⟩

noncomputable def isRefV (a : Addr) : Value → Bool
  | .ref b => Nat.beq b a
  | _ => false
noncomputable def isIntV (i : Int) : Value → Bool
  | .int j _ => decide (i = j)
  | _ => false
noncomputable def isSome2 (f : Value → Bool) : Option (Option Value) → Bool
  | some (some v) => f v
  | _ => false
noncomputable def isSN : Option (Option Value) → Bool
  | some none => true
  | _ => false
noncomputable def isBiV (n : String) : Value → Bool
  | .builtin m => decide (m = n)
  | _ => false
noncomputable def isTyV (n : String) : Value → Bool
  | .type m => decide (m = n)
  | _ => false
noncomputable def fnFlag (K : Frag) (a : Addr) : Bool := match K.lookup a with
  | some o => (match o.data with
    | .func fd => codeIn K fd.code fd.qualname && kdsCode K fd.code && keepIn K (.ref a)
    | _ => false)
  | none => false
noncomputable def clsChk (K : Frag) (c : Addr) : Bool := okNames.all fun y => plainGet K c (Str.ofString y) && isSN (findIn K (.ref c) (Str.ofString y)) && isSN (takerIn K c (Str.ofString y))
noncomputable def clsFlag (K : Frag) (p : Addr × Addr) : Bool := makesIn K p.1 && isSome2 (isRefV p.2) (findIn K (.ref p.1) "__init__") && (typeIn K (.ref p.2)).any (isTyV "function") && keepIn K (.ref p.1) &&
  (hasDictIn K p.1 && plainOver K p.1 && isSome2 (isBiV "object.__setattr__") (findIn K (.ref p.1) "__setattr__") && clsChk K p.1)
noncomputable def gFlag (K : Frag) (p : Str × V) : Bool := match p.2 with
  | .ref a => isSome2 (isRefV a) (nsIn K mainGlobals p.1)
  | .int i => isSome2 (isIntV i) (nsIn K mainGlobals p.1)
  | .ty _ => isSN (nsIn K mainGlobals p.1)
  | .bi _ => isSN (nsIn K mainGlobals p.1)
  | _ => false
noncomputable def flags (K : Frag) : Bool := fnTab.all (fun r => fnFlag K r.a) && clTab.all (clsFlag K) && gTab.all (gFlag K)
noncomputable def viewsOf (K : Frag) : List (Option FView) × Bool := (fnTab.map fun r => viewOf K r.a, flags K)
noncomputable def viewsFR : List (Option FView) × Bool := (fnTab.map viewFR, true)

noncomputable def viewP : Program := { PySem.Challenge.pw_nm0018_01 with main := { PySem.Challenge.pw_nm0018_01.main with body := [stmtN 42] } }
noncomputable def nm (s : String) : Str := Str.ofString s
noncomputable def looseP : List Str := [nm "Step", nm "Block", nm "Func", nm "followers", nm "ROUND", nm "postorder", nm "order", nm "in_place_of", nm "led_end", nm "same_end", nm "known_value", nm "settled_branch", nm "settled_table", nm "settled_end", nm "plain_jumps", nm "last_goal", nm "threads", nm "straighten_ends", nm "edges_into", nm "join_blocks", nm "keep_blocks", nm "straighten_once", nm "straighten", nm "_law_draw", nm "_law_place", nm "_law_step", nm "_law_call", nm "_law_test", nm "_law_end", nm "_law_blocks", nm "_law_func", nm "_law_value", nm "_law_do", nm "_law_next", nm "_law_walk", nm "_law_shown", nm "_law_goals", nm "_law_reached", nm "_law_is_straight"]
end Mine

namespace Mine
set_option tactic.hygienic false
set_option genSizeOfSpec false
open PySem PySem.W PyProof.Rows
set_option maxRecDepth 1000000
set_option maxHeartbeats 0

/-! The heaps between the classes (printed by a program of mine from the model's own run). -/
noncomputable def oA11 (p : Params) : Obj :=
{ cls := Value.type "tuple", data := Data.seq #[] }
noncomputable def oA12 (p : Params) : Obj :=
{ cls := Value.none, data := Data.fields #[] }
noncomputable def oA13 (p : Params) : Obj :=
{ cls := Value.type "code",
  data :=
    Data.fields
      #[Value.str (Str.ofString "<module>") 182, Value.str (Str.ofString "<module>") 183,
        Value.str (Str.ofString "/claim/cut.py") 184, Value.int 1 0, Value.int 0 0, Value.int 0 0, Value.int 0 0,
        Value.int 0 0, Value.ref 11, Value.bool false, Value.int 181 0, Value.ref 12, Value.none, Value.none,
        Value.none, Value.none, Value.int 185 0, Value.int 1 0, Value.str (Str.ofString "/claim/cut.py") 186] }
noncomputable def oA14 (p : Params) : Obj :=
{ cls := Value.type "frame",
  slots :=
    #[some (Value.ref 13), some (Value.ref 3), some (Value.ref 3), none, some (Value.str (Str.ofString "__main__") 164),
      none, some (Value.ref 0)] }
noncomputable def hA (p : Params) : Heap := ⟨⟨[boot_o_0 p, boot_o_1 p, boot_o_2 p, boot_o_3 p, boot_o_4 p, boot_o_5 p, boot_o_6 p, boot_o_7 p, boot_o_8 p, boot_o_9 p, boot_o_10 p, oA11 p, oA12 p, oA13 p, oA14 p]⟩, {}⟩
noncomputable def oD3 (p : Params) : Obj :=
{ cls := Value.type "dict",
  data :=
    Data.dict
      #[{ hash := PyData.keyHash p (Str.ofString "__name__"), key := Value.str (Str.ofString "__name__") 165,
          val := Value.str (Str.ofString "corecc.code") 187 },
        { hash := PyData.keyHash p (Str.ofString "__doc__"), key := Value.str (Str.ofString "__doc__") 166,
          val := Value.none },
        { hash := PyData.keyHash p (Str.ofString "__package__"), key := Value.str (Str.ofString "__package__") 167,
          val := Value.none },
        { hash := PyData.keyHash p (Str.ofString "__loader__"), key := Value.str (Str.ofString "__loader__") 168,
          val := Value.builtin "__main__.__loader__#opaque" },
        { hash := PyData.keyHash p (Str.ofString "__spec__"), key := Value.str (Str.ofString "__spec__") 169,
          val := Value.none },
        { hash := PyData.keyHash p (Str.ofString "__annotations__"),
          key := Value.str (Str.ofString "__annotations__") 170, val := Value.ref 6 },
        { hash := PyData.keyHash p (Str.ofString "__builtins__"), key := Value.str (Str.ofString "__builtins__") 171,
          val := Value.ref 4 },
        { hash := PyData.keyHash p (Str.ofString "__file__"), key := Value.str (Str.ofString "__file__") 173,
          val := Value.str (Str.ofString "/claim/cut.py") 172 },
        { hash := PyData.keyHash p (Str.ofString "__cached__"), key := Value.str (Str.ofString "__cached__") 174,
          val := Value.none },
        { hash := PyData.keyHash p (Str.ofString "Step"), key := Value.str (Str.ofString "Step") 225,
          val := Value.ref 31 },
        { hash := PyData.keyHash p (Str.ofString "Block"), key := Value.str (Str.ofString "Block") 256,
          val := Value.ref 52 },
        { hash := PyData.keyHash p (Str.ofString "Func"), key := Value.str (Str.ofString "Func") 291,
          val := Value.ref 73 }]
      12 }
noncomputable def oD12 (p : Params) : Obj :=
{ cls := Value.none,
  data :=
    Data.fields
      #[Value.int 2 0, Value.int 0 0, Value.ref 20, Value.int 11 0, Value.int 0 0, Value.ref 41, Value.int 17 0,
        Value.int 0 0, Value.ref 62] }
noncomputable def oD15 (p : Params) : Obj :=
{ cls := Value.type "tuple", data := Data.seq #[] }
noncomputable def oD16 (p : Params) : Obj :=
{ cls := Value.type "builtin_function_or_method",
  data := Data.fields #[Value.builtin "type.__prepare__", Value.type "type"] }
noncomputable def oD17 (p : Params) : Obj :=
{ cls := Value.type "dict",
  data :=
    Data.dict
      #[{ hash := PyData.keyHash p (Str.ofString "__module__"), key := Value.str (Str.ofString "__module__") 196,
          val := Value.str (Str.ofString "corecc.code") 187 },
        { hash := PyData.keyHash p (Str.ofString "__qualname__"), key := Value.str (Str.ofString "__qualname__") 198,
          val := Value.str (Str.ofString "Step") 197 },
        { hash := PyData.keyHash p (Str.ofString "__firstlineno__"),
          key := Value.str (Str.ofString "__firstlineno__") 200, val := Value.int 2 199 },
        { hash := PyData.keyHash p (Str.ofString "__init__"), key := Value.str (Str.ofString "__init__") 211,
          val := Value.ref 28 },
        { hash := PyData.keyHash p (Str.ofString "__static_attributes__"),
          key := Value.str (Str.ofString "__static_attributes__") 218, val := Value.ref 29 }]
      5 }
noncomputable def oD18 (p : Params) : Obj :=
{ cls := Value.type "tuple", data := Data.seq #[] }
noncomputable def oD19 (p : Params) : Obj :=
{ cls := Value.none, data := Data.fields #[Value.int 4 0, Value.int 4 0, Value.ref 27] }
noncomputable def oD20 (p : Params) : Obj :=
{ cls := Value.type "code",
  data :=
    Data.fields
      #[Value.str (Str.ofString "Step") 191, Value.str (Str.ofString "Step") 192,
        Value.str (Str.ofString "/claim/cut.py") 193, Value.int 2 0, Value.int 0 0, Value.int 0 0, Value.int 0 0,
        Value.int 0 0, Value.ref 18, Value.bool false, Value.int 181 0, Value.ref 19, Value.none, Value.none,
        Value.none, Value.none, Value.int 194 0, Value.int 2 0, Value.str (Str.ofString "/claim/cut.py") 195] }
noncomputable def oD21 (p : Params) : Obj :=
{ cls := Value.type "frame",
  slots :=
    #[some (Value.ref 20), some (Value.ref 3), some (Value.ref 17), none,
      some (Value.str (Str.ofString "corecc.code") 187), none, some (Value.ref 0)] }
noncomputable def oD22 (p : Params) : Obj :=
{ cls := Value.type "tuple", data := Data.seq #[] }
noncomputable def oD23 (p : Params) : Obj :=
{ cls := Value.none, data := Data.fields #[] }
noncomputable def oD24 (p : Params) : Obj :=
{ cls := Value.type "tuple",
  data :=
    Data.seq
      #[Value.str (Str.ofString "self") 204, Value.str (Str.ofString "op") 205, Value.str (Str.ofString "dst") 206,
        Value.str (Str.ofString "args") 207, Value.str (Str.ofString "more") 208] }
noncomputable def oD25 (p : Params) : Obj :=
{ cls := Value.type "tuple", data := Data.seq #[] }
noncomputable def oD26 (p : Params) : Obj :=
⟨Value.none, none, Data.func ⟨Str.ofString "__init__", Str.ofString "Step.__init__", (paramsOf (initOf (stmtN 1))), (FuncBody.stmts bd28.1), sc28.1, 0, [], Value.none, Value.none, Value.none, Value.none, none, Value.none, Value.none, 0⟩, #[]⟩
noncomputable def oD27 (p : Params) : Obj :=
{ cls := Value.type "code",
  data :=
    Data.fields
      #[Value.str (Str.ofString "__init__") 201, Value.str (Str.ofString "Step.__init__") 202,
        Value.str (Str.ofString "/claim/cut.py") 203, Value.int 4 0, Value.int 5 0, Value.int 0 0, Value.int 0 0,
        Value.int 3 0, Value.ref 22, Value.bool true, Value.int 181 0, Value.ref 23, Value.none, Value.ref 24,
        Value.ref 25, Value.ref 26, Value.int 209 0, Value.int 4 0, Value.str (Str.ofString "/claim/cut.py") 210] }
noncomputable def oD28 (p : Params) : Obj :=
⟨Value.type "function", none, Data.func ⟨Str.ofString "__init__", Str.ofString "Step.__init__", (paramsOf (initOf (stmtN 1))), (FuncBody.stmts bd28.1), sc28.1, 3, [], Value.none, Value.none, Value.none, Value.str (Str.ofString "corecc.code") 187, none, Value.ref 27, Value.none, 0⟩, #[]⟩
noncomputable def oD29 (p : Params) : Obj :=
{ cls := Value.type "tuple",
  data :=
    Data.seq
      #[Value.str (Str.ofString "args") 212, Value.str (Str.ofString "dst") 213,
        Value.str (Str.ofString "is_volatile") 214, Value.str (Str.ofString "line") 215,
        Value.str (Str.ofString "more") 216, Value.str (Str.ofString "op") 217] }
noncomputable def oD30 (p : Params) : Obj :=
{ cls := Value.type "dict",
  data :=
    Data.dict
      #[{ hash := PyData.keyHash p (Str.ofString "__module__"), key := Value.str (Str.ofString "__module__") 196,
          val := Value.str (Str.ofString "corecc.code") 187 },
        { hash := PyData.keyHash p (Str.ofString "__firstlineno__"),
          key := Value.str (Str.ofString "__firstlineno__") 200, val := Value.int 2 199 },
        { hash := PyData.keyHash p (Str.ofString "__init__"), key := Value.str (Str.ofString "__init__") 211,
          val := Value.ref 28 },
        { hash := PyData.keyHash p (Str.ofString "__static_attributes__"),
          key := Value.str (Str.ofString "__static_attributes__") 218, val := Value.ref 29 },
        { hash := PyData.keyHash p (Str.ofString "__dict__"), key := Value.str (Str.ofString "__dict__") 220,
          val := Value.ref 32 },
        { hash := PyData.keyHash p (Str.ofString "__weakref__"), key := Value.str (Str.ofString "__weakref__") 222,
          val := Value.ref 33 },
        { hash := PyData.keyHash p (Str.ofString "__doc__"), key := Value.str (Str.ofString "__doc__") 223,
          val := Value.none }]
      4 }
noncomputable def oD31 (p : Params) : Obj :=
{ cls := Value.type "type",
  data :=
    Data.cls
      { name := Str.ofString "Step", bases := [Value.type "object"], mro := [Value.ref 31, Value.type "object"],
        ns := 30, qualname := Str.ofString "Step" },
  slots :=
    #[none, none, some (Value.str (Str.ofString "Step") 189), some (Value.str (Str.ofString "Step") 197),
      some (Value.builtin "object.__new__"), some (Value.bool true)] }
noncomputable def oD32 (p : Params) : Obj :=
{ cls := Value.type "getset_descriptor",
  data :=
    Data.fields
      #[Value.str (Str.ofString "__dict__") 219, Value.ref 31, Value.builtin "function.__dict__",
        Value.builtin "function.__dict__#set"] }
noncomputable def oD33 (p : Params) : Obj :=
{ cls := Value.type "getset_descriptor",
  data :=
    Data.fields
      #[Value.str (Str.ofString "__weakref__") 221, Value.ref 31, Value.builtin "ExceptionGroup.__weakref__",
        Value.none] }
noncomputable def oD34 (p : Params) : Obj :=
{ cls := Value.type "super", data := Data.fields #[Value.ref 31, Value.ref 31, Value.ref 31] }
noncomputable def oD35 (p : Params) : Obj :=
{ cls := Value.type "builtin_function_or_method",
  data := Data.fields #[Value.builtin "object.__init_subclass__", Value.ref 31] }
noncomputable def oD36 (p : Params) : Obj :=
{ cls := Value.type "tuple", data := Data.seq #[] }
noncomputable def oD37 (p : Params) : Obj :=
{ cls := Value.type "builtin_function_or_method",
  data := Data.fields #[Value.builtin "type.__prepare__", Value.type "type"] }
noncomputable def oD38 (p : Params) : Obj :=
{ cls := Value.type "dict",
  data :=
    Data.dict
      #[{ hash := PyData.keyHash p (Str.ofString "__module__"), key := Value.str (Str.ofString "__module__") 233,
          val := Value.str (Str.ofString "corecc.code") 187 },
        { hash := PyData.keyHash p (Str.ofString "__qualname__"), key := Value.str (Str.ofString "__qualname__") 235,
          val := Value.str (Str.ofString "Block") 234 },
        { hash := PyData.keyHash p (Str.ofString "__firstlineno__"),
          key := Value.str (Str.ofString "__firstlineno__") 237, val := Value.int 11 236 },
        { hash := PyData.keyHash p (Str.ofString "__init__"), key := Value.str (Str.ofString "__init__") 245,
          val := Value.ref 49 },
        { hash := PyData.keyHash p (Str.ofString "__static_attributes__"),
          key := Value.str (Str.ofString "__static_attributes__") 249, val := Value.ref 50 }]
      5 }
noncomputable def oD39 (p : Params) : Obj :=
{ cls := Value.type "tuple", data := Data.seq #[] }
noncomputable def oD40 (p : Params) : Obj :=
{ cls := Value.none, data := Data.fields #[Value.int 13 0, Value.int 4 0, Value.ref 48] }
noncomputable def oD41 (p : Params) : Obj :=
{ cls := Value.type "code",
  data :=
    Data.fields
      #[Value.str (Str.ofString "Block") 228, Value.str (Str.ofString "Block") 229,
        Value.str (Str.ofString "/claim/cut.py") 230, Value.int 11 0, Value.int 0 0, Value.int 0 0, Value.int 0 0,
        Value.int 0 0, Value.ref 39, Value.bool false, Value.int 181 0, Value.ref 40, Value.none, Value.none,
        Value.none, Value.none, Value.int 231 0, Value.int 11 0, Value.str (Str.ofString "/claim/cut.py") 232] }
noncomputable def oD42 (p : Params) : Obj :=
{ cls := Value.type "frame",
  slots :=
    #[some (Value.ref 41), some (Value.ref 3), some (Value.ref 38), none,
      some (Value.str (Str.ofString "corecc.code") 187), none, some (Value.ref 0)] }
noncomputable def oD43 (p : Params) : Obj :=
{ cls := Value.type "tuple", data := Data.seq #[] }
noncomputable def oD44 (p : Params) : Obj :=
{ cls := Value.none, data := Data.fields #[] }
noncomputable def oD45 (p : Params) : Obj :=
{ cls := Value.type "tuple",
  data := Data.seq #[Value.str (Str.ofString "self") 241, Value.str (Str.ofString "number") 242] }
noncomputable def oD46 (p : Params) : Obj :=
{ cls := Value.type "tuple", data := Data.seq #[] }
noncomputable def oD47 (p : Params) : Obj :=
⟨Value.none, none, Data.func ⟨Str.ofString "__init__", Str.ofString "Block.__init__", (paramsOf (initOf (stmtN 2))), (FuncBody.stmts bd49.1), sc49.1, 0, [], Value.none, Value.none, Value.none, Value.none, none, Value.none, Value.none, 0⟩, #[]⟩
noncomputable def oD48 (p : Params) : Obj :=
{ cls := Value.type "code",
  data :=
    Data.fields
      #[Value.str (Str.ofString "__init__") 238, Value.str (Str.ofString "Block.__init__") 239,
        Value.str (Str.ofString "/claim/cut.py") 240, Value.int 13 0, Value.int 2 0, Value.int 0 0, Value.int 0 0,
        Value.int 3 0, Value.ref 43, Value.bool true, Value.int 181 0, Value.ref 44, Value.none, Value.ref 45,
        Value.ref 46, Value.ref 47, Value.int 243 0, Value.int 13 0, Value.str (Str.ofString "/claim/cut.py") 244] }
noncomputable def oD49 (p : Params) : Obj :=
⟨Value.type "function", none, Data.func ⟨Str.ofString "__init__", Str.ofString "Block.__init__", (paramsOf (initOf (stmtN 2))), (FuncBody.stmts bd49.1), sc49.1, 3, [], Value.none, Value.none, Value.none, Value.str (Str.ofString "corecc.code") 187, none, Value.ref 48, Value.none, 0⟩, #[]⟩
noncomputable def oD50 (p : Params) : Obj :=
{ cls := Value.type "tuple",
  data :=
    Data.seq
      #[Value.str (Str.ofString "end") 246, Value.str (Str.ofString "number") 247,
        Value.str (Str.ofString "steps") 248] }
noncomputable def oD51 (p : Params) : Obj :=
{ cls := Value.type "dict",
  data :=
    Data.dict
      #[{ hash := PyData.keyHash p (Str.ofString "__module__"), key := Value.str (Str.ofString "__module__") 233,
          val := Value.str (Str.ofString "corecc.code") 187 },
        { hash := PyData.keyHash p (Str.ofString "__firstlineno__"),
          key := Value.str (Str.ofString "__firstlineno__") 237, val := Value.int 11 236 },
        { hash := PyData.keyHash p (Str.ofString "__init__"), key := Value.str (Str.ofString "__init__") 245,
          val := Value.ref 49 },
        { hash := PyData.keyHash p (Str.ofString "__static_attributes__"),
          key := Value.str (Str.ofString "__static_attributes__") 249, val := Value.ref 50 },
        { hash := PyData.keyHash p (Str.ofString "__dict__"), key := Value.str (Str.ofString "__dict__") 251,
          val := Value.ref 53 },
        { hash := PyData.keyHash p (Str.ofString "__weakref__"), key := Value.str (Str.ofString "__weakref__") 253,
          val := Value.ref 54 },
        { hash := PyData.keyHash p (Str.ofString "__doc__"), key := Value.str (Str.ofString "__doc__") 254,
          val := Value.none }]
      4 }
noncomputable def oD52 (p : Params) : Obj :=
{ cls := Value.type "type",
  data :=
    Data.cls
      { name := Str.ofString "Block", bases := [Value.type "object"], mro := [Value.ref 52, Value.type "object"],
        ns := 51, qualname := Str.ofString "Block" },
  slots :=
    #[none, none, some (Value.str (Str.ofString "Block") 226), some (Value.str (Str.ofString "Block") 234),
      some (Value.builtin "object.__new__"), some (Value.bool true)] }
noncomputable def oD53 (p : Params) : Obj :=
{ cls := Value.type "getset_descriptor",
  data :=
    Data.fields
      #[Value.str (Str.ofString "__dict__") 250, Value.ref 52, Value.builtin "function.__dict__",
        Value.builtin "function.__dict__#set"] }
noncomputable def oD54 (p : Params) : Obj :=
{ cls := Value.type "getset_descriptor",
  data :=
    Data.fields
      #[Value.str (Str.ofString "__weakref__") 252, Value.ref 52, Value.builtin "ExceptionGroup.__weakref__",
        Value.none] }
noncomputable def oD55 (p : Params) : Obj :=
{ cls := Value.type "super", data := Data.fields #[Value.ref 52, Value.ref 52, Value.ref 52] }
noncomputable def oD56 (p : Params) : Obj :=
{ cls := Value.type "builtin_function_or_method",
  data := Data.fields #[Value.builtin "object.__init_subclass__", Value.ref 52] }
noncomputable def oD57 (p : Params) : Obj :=
{ cls := Value.type "tuple", data := Data.seq #[] }
noncomputable def oD58 (p : Params) : Obj :=
{ cls := Value.type "builtin_function_or_method",
  data := Data.fields #[Value.builtin "type.__prepare__", Value.type "type"] }
noncomputable def oD59 (p : Params) : Obj :=
{ cls := Value.type "dict",
  data :=
    Data.dict
      #[{ hash := PyData.keyHash p (Str.ofString "__module__"), key := Value.str (Str.ofString "__module__") 264,
          val := Value.str (Str.ofString "corecc.code") 187 },
        { hash := PyData.keyHash p (Str.ofString "__qualname__"), key := Value.str (Str.ofString "__qualname__") 266,
          val := Value.str (Str.ofString "Func") 265 },
        { hash := PyData.keyHash p (Str.ofString "__firstlineno__"),
          key := Value.str (Str.ofString "__firstlineno__") 268, val := Value.int 17 267 },
        { hash := PyData.keyHash p (Str.ofString "__init__"), key := Value.str (Str.ofString "__init__") 276,
          val := Value.ref 70 },
        { hash := PyData.keyHash p (Str.ofString "__static_attributes__"),
          key := Value.str (Str.ofString "__static_attributes__") 284, val := Value.ref 71 }]
      5 }
noncomputable def oD60 (p : Params) : Obj :=
{ cls := Value.type "tuple", data := Data.seq #[] }
noncomputable def oD61 (p : Params) : Obj :=
{ cls := Value.none, data := Data.fields #[Value.int 19 0, Value.int 4 0, Value.ref 69] }
noncomputable def oD62 (p : Params) : Obj :=
{ cls := Value.type "code",
  data :=
    Data.fields
      #[Value.str (Str.ofString "Func") 259, Value.str (Str.ofString "Func") 260,
        Value.str (Str.ofString "/claim/cut.py") 261, Value.int 17 0, Value.int 0 0, Value.int 0 0, Value.int 0 0,
        Value.int 0 0, Value.ref 60, Value.bool false, Value.int 181 0, Value.ref 61, Value.none, Value.none,
        Value.none, Value.none, Value.int 262 0, Value.int 17 0, Value.str (Str.ofString "/claim/cut.py") 263] }
noncomputable def oD63 (p : Params) : Obj :=
{ cls := Value.type "frame",
  slots :=
    #[some (Value.ref 62), some (Value.ref 3), some (Value.ref 59), none,
      some (Value.str (Str.ofString "corecc.code") 187), none, some (Value.ref 0)] }
noncomputable def oD64 (p : Params) : Obj :=
{ cls := Value.type "tuple", data := Data.seq #[] }
noncomputable def oD65 (p : Params) : Obj :=
{ cls := Value.none, data := Data.fields #[] }
noncomputable def oD66 (p : Params) : Obj :=
{ cls := Value.type "tuple",
  data := Data.seq #[Value.str (Str.ofString "self") 272, Value.str (Str.ofString "name") 273] }
noncomputable def oD67 (p : Params) : Obj :=
{ cls := Value.type "tuple", data := Data.seq #[] }
noncomputable def oD68 (p : Params) : Obj :=
⟨Value.none, none, Data.func ⟨Str.ofString "__init__", Str.ofString "Func.__init__", (paramsOf (initOf (stmtN 3))), (FuncBody.stmts bd70.1), sc70.1, 0, [], Value.none, Value.none, Value.none, Value.none, none, Value.none, Value.none, 0⟩, #[]⟩
noncomputable def oD69 (p : Params) : Obj :=
{ cls := Value.type "code",
  data :=
    Data.fields
      #[Value.str (Str.ofString "__init__") 269, Value.str (Str.ofString "Func.__init__") 270,
        Value.str (Str.ofString "/claim/cut.py") 271, Value.int 19 0, Value.int 2 0, Value.int 0 0, Value.int 0 0,
        Value.int 3 0, Value.ref 64, Value.bool true, Value.int 181 0, Value.ref 65, Value.none, Value.ref 66,
        Value.ref 67, Value.ref 68, Value.int 274 0, Value.int 19 0, Value.str (Str.ofString "/claim/cut.py") 275] }
noncomputable def oD70 (p : Params) : Obj :=
⟨Value.type "function", none, Data.func ⟨Str.ofString "__init__", Str.ofString "Func.__init__", (paramsOf (initOf (stmtN 3))), (FuncBody.stmts bd70.1), sc70.1, 3, [], Value.none, Value.none, Value.none, Value.str (Str.ofString "corecc.code") 187, none, Value.ref 69, Value.none, 0⟩, #[]⟩
noncomputable def oD71 (p : Params) : Obj :=
{ cls := Value.type "tuple",
  data :=
    Data.seq
      #[Value.str (Str.ofString "blocks") 277, Value.str (Str.ofString "has_value") 278,
        Value.str (Str.ofString "is_static") 279, Value.str (Str.ofString "name") 280,
        Value.str (Str.ofString "params") 281, Value.str (Str.ofString "registers") 282,
        Value.str (Str.ofString "slots") 283] }
noncomputable def oD72 (p : Params) : Obj :=
{ cls := Value.type "dict",
  data :=
    Data.dict
      #[{ hash := PyData.keyHash p (Str.ofString "__module__"), key := Value.str (Str.ofString "__module__") 264,
          val := Value.str (Str.ofString "corecc.code") 187 },
        { hash := PyData.keyHash p (Str.ofString "__firstlineno__"),
          key := Value.str (Str.ofString "__firstlineno__") 268, val := Value.int 17 267 },
        { hash := PyData.keyHash p (Str.ofString "__init__"), key := Value.str (Str.ofString "__init__") 276,
          val := Value.ref 70 },
        { hash := PyData.keyHash p (Str.ofString "__static_attributes__"),
          key := Value.str (Str.ofString "__static_attributes__") 284, val := Value.ref 71 },
        { hash := PyData.keyHash p (Str.ofString "__dict__"), key := Value.str (Str.ofString "__dict__") 286,
          val := Value.ref 74 },
        { hash := PyData.keyHash p (Str.ofString "__weakref__"), key := Value.str (Str.ofString "__weakref__") 288,
          val := Value.ref 75 },
        { hash := PyData.keyHash p (Str.ofString "__doc__"), key := Value.str (Str.ofString "__doc__") 289,
          val := Value.none }]
      4 }
noncomputable def oD73 (p : Params) : Obj :=
{ cls := Value.type "type",
  data :=
    Data.cls
      { name := Str.ofString "Func", bases := [Value.type "object"], mro := [Value.ref 73, Value.type "object"],
        ns := 72, qualname := Str.ofString "Func" },
  slots :=
    #[none, none, some (Value.str (Str.ofString "Func") 257), some (Value.str (Str.ofString "Func") 265),
      some (Value.builtin "object.__new__"), some (Value.bool true)] }
noncomputable def oD74 (p : Params) : Obj :=
{ cls := Value.type "getset_descriptor",
  data :=
    Data.fields
      #[Value.str (Str.ofString "__dict__") 285, Value.ref 73, Value.builtin "function.__dict__",
        Value.builtin "function.__dict__#set"] }
noncomputable def oD75 (p : Params) : Obj :=
{ cls := Value.type "getset_descriptor",
  data :=
    Data.fields
      #[Value.str (Str.ofString "__weakref__") 287, Value.ref 73, Value.builtin "ExceptionGroup.__weakref__",
        Value.none] }
noncomputable def oD76 (p : Params) : Obj :=
{ cls := Value.type "super", data := Data.fields #[Value.ref 73, Value.ref 73, Value.ref 73] }
noncomputable def oD77 (p : Params) : Obj :=
{ cls := Value.type "builtin_function_or_method",
  data := Data.fields #[Value.builtin "object.__init_subclass__", Value.ref 73] }
noncomputable def hD (p : Params) : Heap := ⟨⟨[boot_o_0 p, boot_o_1 p, boot_o_2 p, oD3 p, boot_o_4 p, boot_o_5 p, boot_o_6 p, boot_o_7 p, boot_o_8 p, boot_o_9 p, boot_o_10 p, oA11 p, oD12 p, oA13 p, oA14 p, oD15 p, oD16 p, oD17 p, oD18 p, oD19 p, oD20 p, oD21 p, oD22 p, oD23 p, oD24 p, oD25 p, oD26 p, oD27 p, oD28 p, oD29 p, oD30 p, oD31 p, oD32 p, oD33 p, oD34 p, oD35 p, oD36 p, oD37 p, oD38 p, oD39 p, oD40 p, oD41 p, oD42 p, oD43 p, oD44 p, oD45 p, oD46 p, oD47 p, oD48 p, oD49 p, oD50 p, oD51 p, oD52 p, oD53 p, oD54 p, oD55 p, oD56 p, oD57 p, oD58 p, oD59 p, oD60 p, oD61 p, oD62 p, oD63 p, oD64 p, oD65 p, oD66 p, oD67 p, oD68 p, oD69 p, oD70 p, oD71 p, oD72 p, oD73 p, oD74 p, oD75 p, oD76 p, oD77 p]⟩, {}⟩
noncomputable abbrev Pw : Program := PySem.Challenge.pw_nm0018_01
noncomputable def envM : Env := { scope := Pw.main.scope, locals := mainNs, globals := mainNs, cells := [], code := .ref 13, frame := some 14 }
noncomputable def cM : Code := .body (behindTheImports Pw) envM
noncomputable def annM : Option Value := some (.ref 6)
noncomputable abbrev p0 : Pos := ⟨0, 0, 0, 0⟩
noncomputable abbrev frM : Frame := topFrame p0
noncomputable abbrev sh (h : Heap) (k : Nat) (os : OsState) : Shared := ⟨h, Array.mk [], boot_drawn, k, os⟩
theorem run0 (w : World) (os : OsState) : topGo treeTable Pw w 11 annM 12 (sh (boot_heap w.params) boot_toks os) (topStub Pw) = some (sh (hA w.params) 187 os, ⟨denote treeTable cM, cM, p0, [frM]⟩) := by kernel_rfl
theorem run1 (w : World) (os : OsState) : segRun treeTable Pw w 11 annM 1 1 (sh (hA w.params) 187 os) (blockOf (behindTheImports Pw) envM cM p0 [frM]) = some (.next, sh (hA w.params) 187 os, cM, p0) := by kernel_rfl
noncomputable def g1 : List Stmt := (behindTheImports Pw).take 4
noncomputable def gR : List Stmt := (behindTheImports Pw).drop 4
theorem run2 (w : World) (os : OsState) : segRun treeTable Pw w 11 annM 1 692 (sh (hA w.params) 187 os) (piecesOf g1 envM cM p0 [frM]) = some (.next, sh (hD w.params) 292 os, cM, ⟨17, 0, 26, 30⟩) := by kernel_rfl
end Mine

namespace Mine
set_option tactic.hygienic false
set_option genSizeOfSpec false
open PySem PySem.W PyProof.Rows
set_option maxRecDepth 1000000
set_option maxHeartbeats 0
noncomputable def isEnd (h₀ : Heap) (s : Shared) : Bool := staticsOk (importedModules Pw.main.body) h₀ s.heap && namesBound Pw s.heap && gensDone s && laidKept h₀ s.heap
theorem run5 (w : World) (os : OsState) : (topRun treeTable Pw w 11 annM 2400 (sh (hD w.params) 292 os) (restOf gR envM cM ⟨17, 0, 26, 30⟩ [frM])).map (fun s => (isEnd (boot_heap w.params) s, openSeen viewP looseP (importedModules Pw.main.body) (fun zz => true) true s, viewsOf (fragOf s.heap))) =
    some (true, openGood viewP looseP, viewsFR) := by kernel_rfl
theorem open1 : ∀ w : World, (fencedOpening treeTable Pw w 3760).map (fun s => (s.heap, s.gens, s.drawn, s.toks)) = some (boot_heap w.params, Array.mk [], boot_drawn, boot_toks) :=
  boot_open (by kernel_rfl) (by kernel_rfl) (fun s => by kernel_rfl)
theorem size0 (w : World) : ((boot_heap w.params).isNs mainGlobals, (boot_heap w.params).objs.size, (boot_heap w.params).nsMap mainGlobals "__annotations__") = (true, 11, annM) := by kernel_rfl
theorem ran (w : World) (os : OsState) : ∃ s, topRun treeTable Pw w 11 annM 3760 (sh (boot_heap w.params) boot_toks os) (topStub Pw) = some s ∧ isEnd (boot_heap w.params) s = true ∧
    (openSeen viewP looseP (importedModules Pw.main.body) (fun zz => true) true s, viewsOf (fragOf s.heap)) = (openGood viewP looseP, viewsFR) := by
  obtain ⟨s, r, v⟩ := Option.map_eq_some_iff.mp (run5 w os)
  refine ⟨s, ?_, congrArg Prod.fst v, congrArg Prod.snd v⟩
  have b : topRun treeTable Pw w 11 annM (692 + 2400) (sh (hA w.params) 187 os) (restOf (behindTheImports Pw) envM cM p0 [frM]) = some s := by
    rw [← List.take_append_drop 4 (behindTheImports Pw)]
    exact piece_app (run2 w os) r
  exact topRun_mono 655 _ _ _ _ (go_top (run0 w os) (piece_block (run1 w os) b))
theorem from0 (w : World) (os : OsState) : ∃ s, topFrom treeTable Pw w 3760 (sh (boot_heap w.params) boot_toks os) = some s ∧
    (openSeen viewP looseP (importedModules Pw.main.body) (fun zz => true) true s, viewsOf (fragOf s.heap)) = (openGood viewP looseP, viewsFR) := by
  obtain ⟨s, r, a, v⟩ := ran w os
  refine ⟨s, ?_, v⟩
  have z := size0 w
  have z1 := congrArg Prod.fst z
  have z2 := congrArg (fun x => x.2.1) z
  have z3 := congrArg (fun x => x.2.2) z
  dsimp only at z1 z2 z3
  unfold topFrom
  dsimp only
  rw [z1, z2, z3, r]
  show (match isEnd (boot_heap w.params) s with | true => some s | false => none) = some s
  rw [a]
theorem left3 : LeftO Pw viewP looseP (fun zz => true) (fun s => viewsOf (fragOf s.heap)) (fun zz => viewsFR) 3760 := fun w => by
  obtain ⟨⟨h, gs, d, k, os⟩, e, e'⟩ := Option.map_eq_some_iff.mp (open1 w)
  obtain ⟨q1, q⟩ := Prod.mk.inj e'
  obtain ⟨q2, q⟩ := Prod.mk.inj q
  obtain ⟨q3, q4⟩ := Prod.mk.inj q
  change h = _ at q1
  change gs = _ at q2
  change d = _ at q3
  change k = _ at q4
  subst q1 q2 q3 q4
  obtain ⟨s, f, v⟩ := from0 w os
  unfold openEnds
  rw [e, Option.bind_some, f, Option.map_some]
  exact congrArg some v
end Mine

namespace Mine
set_option tactic.hygienic false
open PySem PySem.W PyProof.Rows
set_option maxRecDepth 1000000
set_option maxHeartbeats 0
noncomputable abbrev lawR : OpenLaw := PySem.Challenge.rw_nm0018_01
noncomputable abbrev Pl : Program := lawR.row.toRowW.prog
theorem lk1 : (sreFenced Pl.main && ((moduleNames Pl.main.body).isEmpty || lookedIntoSs (moduleNames Pl.main.body) Pl.main.body)) = true := by kernel_rfl
theorem lk2 : namesResolve Pl = true := by kernel_rfl
theorem lk3 : Pl.boundNames.all (fun n => !worldNames.contains n) = true := by kernel_rfl
theorem lk4 : noRoadLSs { strict := !(importedModules Pl.main.body).all cThrough.contains, foot := none, bare := (["vars", "dir", "locals"] : List Str).filter (readsOut Pl Pl.main.body) } Pl.main.body = true := by kernel_rfl
theorem lk5 : (namesMeet Pl Pl.main.body fun zz n => attrL n) = true := by kernel_rfl
theorem lk : looksOpen Pl = true := look_both (look_both (look_both (look_both lk1 lk2) lk3) lk4) lk5
theorem lk_part : lawR.row.partSaid = true := by
  unfold OpenRow.partSaid
  rw [lk]
  kernel_rfl
theorem lk_row : lawR.row.wellSaid = true := by
  unfold OpenRow.wellSaid
  rw [lk_part]
  kernel_rfl
theorem well : lawR.wellSaid = true := by
  unfold OpenLaw.wellSaid
  rw [lk_row]
  kernel_rfl
end Mine

namespace Mine
set_option tactic.hygienic false
set_option genSizeOfSpec false
open PySem PySem.W PyProof.Rows PySem.Calls
set_option maxRecDepth 100000

inductive TopK (h : Heap) : Prop
  | mk (K : Frag) (kin : K.In h) (nol : ∀ p ∈ K, isL p.2.cls = false) (e : viewsOf K = viewsFR)
theorem fragF_out {h : Heap} {a : Addr} {p : Addr × Obj} (e : fragF h a = some p) : h.get? p.1 = some p.2 ∧ isL p.2.cls = false := by
  unfold fragF at e
  cases hg : h.get? a with
  | none => rw [hg] at e; exact nn e
  | some o =>
    rw [hg] at e
    have e : (if isL o.cls = true then none else some (a, o)) = some p := e
    by_cases hl : isL o.cls = true
    · rw [if_pos hl] at e; exact nn e
    · rw [if_neg hl] at e; cases e; exact ⟨hg, Bool.eq_false_iff.mpr hl⟩
theorem mem_lookup {β : Type} {a : Addr} {b : β} : ∀ {l : List (Addr × β)}, l.lookup a = some b → (a, b) ∈ l
  | (c, o) :: l, h => by
    rw [List.lookup_cons] at h
    split at h
    · rename_i q
      cases h
      rw [beq_iff_eq.mp q]; exact .head _
    · exact .tail _ (mem_lookup h)
theorem mem_lookupS {β : Type} {a : Str} {b : β} : ∀ {l : List (Str × β)}, l.lookup a = some b → (a, b) ∈ l
  | (c, o) :: l, h => by
    rw [List.lookup_cons] at h
    split at h
    · rename_i q
      cases h
      rw [beq_iff_eq.mp q]; exact .head _
    · exact .tail _ (mem_lookupS h)
theorem top_of {s : Shared} (e : viewsOf (fragOf s.heap) = viewsFR) : TopK s.heap := by
  have m : ∀ p ∈ fragOf s.heap, s.heap.get? p.1 = some p.2 ∧ isL p.2.cls = false := fun p hp => by
    obtain ⟨a, _, e⟩ := List.mem_filterMap.mp hp
    exact fragF_out e
  exact ⟨fragOf s.heap, fun a o h => (m _ (mem_lookup h)).1, fun p hp => (m p hp).2, e⟩
theorem TopK.keeps {h h' : Heap} (t : TopK h) (k : ∀ b o, h.get? b = some o → h'.get? b = some o) : TopK h' :=
  let ⟨K, kin, nol, e⟩ := t; ⟨K, kin.keeps k, nol, e⟩

/-- The functions' own looks. -/
noncomputable def fnLook (r : FR) : Bool := (match r.sc.kind with | .function => true | _ => false) && !r.sc.isCoroutine && !r.sc.isGenerator && r.ps.all (isLoc r.sc) && decide r.ps.Nodup && r.sc.names.all (fun p => match p.2 with | .free => false | _ => true)
theorem fn_looks : fnTab.all fnLook = true := by kernel_rfl
noncomputable def BindOk (r : FR) : Prop := ∀ (name qual : Str) (doc pm cdv ct : Value) (an : Option Addr) (vals : List Value), vals.length = r.ps.length → bindArgs (fnOf name qual r.params r.body r.sc .none .none doc pm an cdv ct) ⟨vals, []⟩ = pure (r.ps.zip vals)
theorem cons_of {n : Nat} {vals : List Value} (h : vals.length = n + 1) : ∃ a r, vals = a :: r ∧ r.length = n := by
  cases vals with
  | nil => exact nomatch h
  | cons a r => exact ⟨a, r, rfl, Nat.succ.inj h⟩
theorem one_of {vals : List Value} (h : vals.length = 1) : ∃ a, vals = [a] := List.length_eq_one_iff.mp h
theorem two_of {vals : List Value} (h : vals.length = 2) : ∃ a b, vals = [a, b] := by
  obtain ⟨a, r, rfl, h1⟩ := cons_of h
  obtain ⟨b, rfl⟩ := one_of h1
  exact ⟨a, b, rfl⟩
theorem three_of {vals : List Value} (h : vals.length = 3) : ∃ a b c, vals = [a, b, c] := by
  obtain ⟨a, r, rfl, h1⟩ := cons_of h
  obtain ⟨b, c, rfl⟩ := two_of h1
  exact ⟨a, b, c, rfl⟩
theorem five_of {vals : List Value} (h : vals.length = 5) : ∃ a b c d e, vals = [a, b, c, d, e] := by
  obtain ⟨a, r, rfl, h1⟩ := cons_of h
  obtain ⟨b, r, rfl, h2⟩ := cons_of h1
  obtain ⟨c, d, e, rfl⟩ := three_of h2
  exact ⟨a, b, c, d, e, rfl⟩
theorem bind_ok : ∀ r ∈ fnTab, BindOk r := by
  unfold fnTab
  repeat' (first | (refine List.forall_mem_cons.mpr ⟨?_, ?_⟩) | (exact List.forall_mem_nil _) | fail)
  all_goals
    intro name qual doc pm cdv ct an vals h
    first
      | (obtain ⟨a, rfl⟩ := one_of h; rfl)
      | (obtain ⟨a, b, rfl⟩ := two_of h; rfl)
      | (obtain ⟨a, b, c, rfl⟩ := three_of h; rfl)
      | (obtain ⟨a, b, c, d, e, rfl⟩ := five_of h; rfl)
theorem andb {a b : Bool} (h : (a && b) = true) : a = true ∧ b = true := and_out h
inductive ViewR (K : Frag) (a : Addr) (v : FView) : Prop
  | mk (oc : Value) (od : Option Addr) (osl : Array (Option Value)) (name qual : Str) (doc pm cdv ct : Value) (an : Option Addr) (hl : K.lookup a = some ⟨oc, od, .func ⟨name, qual, v.params, v.body, v.scope, v.globals, v.closure, v.dV, v.kV, doc, pm, an, cdv, ct, v.bl⟩, osl⟩) (hc : codeIn K cdv qual = true) (hk : kdsCode K cdv = true) (hp : keepIn K (.ref a) = true)
theorem view_out {K : Frag} {a : Addr} {v : FView} (h : viewOf K a = some v) (hf : fnFlag K a = true) : ViewR K a v := by
  unfold viewOf at h
  unfold fnFlag at hf
  cases hl : K.lookup a with
  | none => rw [hl] at h; exact nn h
  | some o =>
    rw [hl] at h hf
    obtain ⟨oc, od, dat, osl⟩ := o
    cases dat with
    | func fd =>
      cases h
      obtain ⟨h1, h2⟩ := andb hf
      obtain ⟨h0, h1⟩ := andb h1
      exact ⟨oc, od, osl, fd.name, fd.qualname, fd.doc, fd.pyModule, fd.code, fd.closureTuple, fd.annotations, hl, h0, h1, h2⟩
    | _ => exact nn h
theorem F0_fn {a : Addr} {ps : List Str} {sc : Scope} {body : List Stmt} (h : F0 a = some (.fn ps sc body)) : ∃ r ∈ fnTab, r.a = a ∧ r.ps = ps ∧ r.sc = sc ∧ r.body = body := by
  unfold F0 at h
  cases hf : fnTab.find? (fun r => Nat.beq r.a a) with
  | some r => rw [hf] at h; cases h; exact ⟨r, List.mem_of_find?_eq_some hf, Nat.eq_of_beq_eq_true (List.find?_some (p := fun r : FR => Nat.beq r.a a) hf), rfl, rfl, rfl⟩
  | none =>
    rw [hf] at h
    obtain ⟨i, _, e⟩ := Option.map_eq_some_iff.mp (show (clTab.lookup a).map Fn.cls = _ from h)
    cases e
theorem F0_cls {a init : Addr} (h : F0 a = some (.cls init)) : (a, init) ∈ clTab := by
  unfold F0 at h
  cases hf : fnTab.find? (fun r => Nat.beq r.a a) with
  | some r => rw [hf] at h; cases h
  | none =>
    rw [hf] at h
    obtain ⟨i, h1, e⟩ := Option.map_eq_some_iff.mp (show (clTab.lookup a).map Fn.cls = _ from h)
    cases e
    exact mem_lookup h1
theorem isSome2_out {f : Value → Bool} {o : Option (Option Value)} (h : isSome2 f o = true) : ∃ v, o = some (some v) ∧ f v = true := by
  cases o with
  | none => exact ff h
  | some o =>
    cases o with
    | none => exact ff h
    | some v => exact ⟨v, rfl, h⟩
theorem isRefV_out {a : Addr} {v : Value} (h : isRefV a v = true) : v = .ref a := by
  cases v with
  | ref b => cases Nat.eq_of_beq_eq_true h; rfl
  | _ => exact ff h
theorem isBiV_out {n : String} {v : Value} (h : isBiV n v = true) : v = .builtin n := by
  cases v with
  | builtin b => cases of_decide_eq_true h; rfl
  | _ => exact ff h
theorem isTyV_out {n : String} {v : Value} (h : isTyV n v = true) : v = .type n := by
  cases v with
  | type b => cases of_decide_eq_true h; rfl
  | _ => exact ff h
theorem isIntV_out {i : Int} {v : Value} (h : isIntV i v = true) : ∃ t, v = .int i t := by
  cases v with
  | int j t => cases of_decide_eq_true h; exact ⟨t, rfl⟩
  | _ => exact ff h
theorem isSN_out {o : Option (Option Value)} (h : isSN o = true) : o = some none := by
  cases o with
  | none => exact ff h
  | some o =>
    cases o with
    | none => rfl
    | some v => exact ff h
theorem all_mem {α : Type} {f : α → Bool} {l : List α} (h : l.all f = true) {x : α} (hx : x ∈ l) : f x = true := List.all_eq_true.mp h x hx
structure KOk (K : Frag) : Prop where
  view : ∀ r ∈ fnTab, viewOf K r.a = viewFR r
  fn : ∀ r ∈ fnTab, fnFlag K r.a = true
  cls : ∀ p ∈ clTab, clsFlag K p = true
  glob : ∀ p ∈ gTab, gFlag K p = true
theorem kOk {K : Frag} (e : viewsOf K = viewsFR) : KOk K := by
  obtain ⟨e1, e2⟩ := Prod.mk.inj e
  obtain ⟨h1, h2⟩ := andb e2
  obtain ⟨h0, h1⟩ := andb h1
  exact ⟨List.map_inj_left.mp e1, fun r hr => all_mem h0 hr, fun r hr => all_mem h1 hr, fun r hr => all_mem h2 hr⟩
theorem fn_at {K : Frag} (k : KOk K) {a : Addr} {ps : List Str} {sc : Scope} {body : List Stmt} (h : F0 a = some (.fn ps sc body)) {B : Base} (hK : B.K = K) : FnOk B a ps sc body ∧ keepIn B.K (.ref a) = true := by
  obtain ⟨r, hr, rfl, rfl, rfl, rfl⟩ := F0_fn h
  obtain ⟨oc, od, osl, name, qual, doc, pm, cdv, ct, an, hl, hc, hk, hp⟩ := view_out (k.view r hr) (k.fn r hr)
  obtain ⟨l5, l6⟩ := andb (all_mem fn_looks hr)
  obtain ⟨l4, l5⟩ := andb l5
  obtain ⟨l3, l4⟩ := andb l4
  obtain ⟨l2, l3⟩ := andb l3
  obtain ⟨l1, l2⟩ := andb l2
  subst hK
  refine ⟨⟨⟨name, qual, r.params, .none, .none, doc, pm, cdv, ct, oc, od, an, osl, hl, hc, hk, fun vals hv => bind_ok r hr name qual doc pm cdv ct an vals hv⟩, ?_, by simpa using l2, by simpa using l3, fun p hp => ?_, of_decide_eq_true l5, fun x hx => ?_⟩, hp⟩
  · cases hk : r.sc.kind with
    | function => rfl
    | _ => rw [hk] at l1; exact ff l1
  · have := all_mem l4 hp
    unfold isLoc at this
    cases hl : r.sc.names.lookup p with
    | none => rw [hl] at this; exact ff this
    | some kd =>
      rw [hl] at this
      cases kd with
      | «local» => exact .inl rfl
      | cell => exact .inr rfl
      | _ => exact ff this
  · exact ff (all_mem l6 (mem_lookupS hx))
theorem cls_mem : clTab.all (fun p => decide (p.1 ∈ clss) && (fnTab.find? fun r => Nat.beq r.a p.2).isSome) = true := by kernel_rfl
theorem cls_at {K : Frag} (k : KOk K) {c i : Addr} (h : (c, i) ∈ clTab) {B : Base} (hK : B.K = K) : ClsOk B c i ∧ keepIn B.K (.ref c) = true ∧ (hasDictIn B.K c = true ∧ plainOver B.K c = true ∧ findIn B.K (.ref c) "__setattr__" = some (some (.builtin "object.__setattr__")) ∧ clsChk B.K c = true) := by
  subst hK
  obtain ⟨h1, h2⟩ := andb (k.cls _ h)
  obtain ⟨a1, a4⟩ := andb h1
  obtain ⟨a1, a3⟩ := andb a1
  obtain ⟨a1, a2⟩ := andb a1
  obtain ⟨b1, b4⟩ := andb h2
  obtain ⟨b1, b3⟩ := andb b1
  obtain ⟨b1, b2⟩ := andb b1
  obtain ⟨v, e1, e2⟩ := isSome2_out a2
  obtain ⟨v', e3, e4⟩ := isSome2_out b3
  cases isRefV_out e2
  cases isBiV_out e4
  refine ⟨⟨a1, e1, ?_, of_decide_eq_true (andb (all_mem cls_mem h)).1⟩, a4, b1, b2, e3, b4⟩
  cases ht : typeIn B.K (.ref i) with
  | none => rw [ht] at a3; exact ff a3
  | some t => rw [ht] at a3; cases isTyV_out a3; rfl
theorem cls_chk {K : Frag} {c : Addr} (h : clsChk K c = true) {x : Str} (hx : okName x = true) : plainGet K c x = true ∧ findIn K (.ref c) x = some none ∧ takerIn K c x = some none := by
  obtain ⟨y, hy, e⟩ := List.any_eq_true.mp hx
  cases beq_iff_eq.mp e
  obtain ⟨h1, h2⟩ := andb (all_mem h hy)
  obtain ⟨h0, h1⟩ := andb h1
  exact ⟨h0, isSN_out h1, isSN_out h2⟩
theorem fns_ok {B : Base} (k : KOk B.K) : FnsOk B F0 where
  fn a ps sc body h := (fn_at k h rfl).1
  cls a init h := (cls_at k (F0_cls h) rfl).1
  keep a f h := by
    cases f with
    | fn ps sc body => exact (fn_at k h rfl).2
    | cls i => exact (cls_at k (F0_cls h) rfl).2.1
  init a init h := by
    obtain ⟨r, hr⟩ := Option.isSome_iff_exists.mp (andb (all_mem cls_mem (F0_cls h))).2
    exact ⟨_, _, _, by unfold F0; rw [hr]⟩
noncomputable def bootFlag (p : Str × V) : Bool := match p.2 with
  | .ty n => (bootBuiltins p.1).any (isTyV n) && decide (p.1 ≠ "__name__")
  | .bi n => (bootBuiltins p.1).any (isBiV n) && decide (p.1 ≠ "__name__") && handedIn (.builtin n)
  | _ => true
theorem boots : gTab.all bootFlag = true := by kernel_rfl
theorem any_out {f : Value → Bool} {o : Option Value} (h : o.any f = true) : ∃ v, o = some v ∧ f v = true := by
  cases o with
  | none => exact ff h
  | some v => exact ⟨v, rfl, h⟩
theorem base_ok {prog : Program} {w : World} {K : Frag} {h0 : Heap} {os : OsState} {mg mb : Str → Option Value} (KX : K.In h0) (k : KOk K) (g : h0.Ns mainGlobals mg) (b : h0.Ns builtinsNs mb) (lim : h0.NoLimit) (hb : ∀ x : Str, x ≠ "__name__" → mb x = bootBuiltins x) : BaseOk ⟨prog, w, K, h0, os, mg, mb, G0⟩ where
  kin := KX
  g := g
  b := b
  lim := lim
  glob x v h := by
    have hm : (x, v) ∈ gTab := mem_lookupS (by have h : G0 x = some v := h; unfold G0 at h; exact h)
    have f := k.glob _ hm
    have fb := all_mem boots hm
    cases v with
    | ref a =>
      obtain ⟨u, e1, e2⟩ := isSome2_out f
      cases isRefV_out e2
      exact ⟨.ref a, fun Z => rfl, .inl (mg_of KX g e1)⟩
    | int i =>
      obtain ⟨u, e1, e2⟩ := isSome2_out f
      obtain ⟨t, rfl⟩ := isIntV_out e2
      exact ⟨.int i t, fun Z => ⟨t, rfl⟩, .inl (mg_of KX g e1)⟩
    | ty n =>
      obtain ⟨f1, f2⟩ := andb fb
      obtain ⟨u, e1, e2⟩ := any_out f1
      cases isTyV_out e2
      exact ⟨.type n, fun Z => rfl, .inr ⟨mg_none_of KX g (isSN_out f), (hb _ (of_decide_eq_true f2)).trans e1⟩⟩
    | bi n =>
      obtain ⟨f1, f3⟩ := andb fb
      obtain ⟨f1, f2⟩ := andb f1
      obtain ⟨u, e1, e2⟩ := any_out f1
      cases isBiV_out e2
      exact ⟨.builtin n, fun Z => ⟨rfl, f3⟩, .inr ⟨mg_none_of KX g (isSN_out f), (hb _ (of_decide_eq_true f2)).trans e1⟩⟩
    | _ => exact ff f
  cls c hc := by
    have : ∃ i, (c, i) ∈ clTab := by
      rcases List.mem_cons.mp hc with rfl | hc
      · exact ⟨28, .head _⟩
      · rcases List.mem_cons.mp hc with rfl | hc
        · exact ⟨49, .tail _ (.head _)⟩
        · cases List.mem_singleton.mp hc; exact ⟨70, .tail _ (.tail _ (.head _))⟩
    obtain ⟨i, hi⟩ := this
    obtain ⟨_, _, h1, h2, h3, h4⟩ := cls_at k (B := ⟨prog, w, K, h0, os, mg, mb, G0⟩) hi rfl
    exact ⟨h1, h2, h3, fun x hx => cls_chk h4 hx⟩
end Mine

namespace Mine
set_option tactic.hygienic false
set_option genSizeOfSpec false
open PySem PySem.W PyProof.Rows PySem.Calls
set_option maxRecDepth 100000
variable {B : Base}

theorem script_only {is : List Int} {y : Str} {v : V} (e : getL y [(Str.ofString "script", V.fl (is.map V.int))] = some v) : y = Str.ofString "script" ∧ v = .fl (is.map V.int) := by
  unfold getL at e
  by_cases q : y = Str.ofString "script"
  · rw [if_pos q] at e; cases e; exact ⟨q, rfl⟩
  · rw [if_neg q] at e; exact nn e
theorem top_fn {A : Around} {a : Addr} {o : Obj} {us : List Value} {ep : Nat} {is : List Int} {s : Shared} {R : Result → Shared → Prop} (hB : BaseOk B) (hFs : FnsOk B F0) (hG : B.G = G0)
    (hh : A.handled = none) (hu : A.units + 1500 < cLine) (hd : A.depth + 400 < recursionLimit)
    (hs : ∀ b o, B.h0.get? b = some o → s.heap.get? b = some o) (hsz : B.h0.objs.size ≤ s.heap.objs.size)
    (ha : s.heap.get? a = some o) (hna : B.h0.get? a = none) (hc : o.cls = .type "list") (hod : o.dict = .none) (hdat : o.data = .seq us.toArray ep) (hul : us.length ≤ 63)
    (hI : RVs (fun zz => none) us (is.map V.int)) (hg : s.gens = #[]) (hos : s.os = B.os)
    (hR : ∀ s', (∀ b o, B.h0.get? b = some o → s'.heap.get? b = some o) → s'.heap.get? a = some o → s'.gens = #[] → s'.os = B.os → R (.ok (.ret (.bool true))) s') :
    codeAny (model B.prog B.w) A (.call (.ref 309) ⟨[.ref a], []⟩) R s := by
  have hF := hFs.fn _ _ _ _ f_law
  obtain ⟨name, qual, params, dV, kV, doc, pm, cdv, ct, oc, od, an, osl, ho, hcd, hkd, hbind⟩ := hF.ex
  have X0 : B.K.In s.heap := hB.kin.keeps hs
  have hlim : s.heap.NoLimit := hB.lim.keeps hs
  refine codeAny_call_cells (fd := fnOf name qual params bd309.1 sc309.1 dV kV doc pm an cdv ct) (body := bd309.1) (binds := [Str.ofString "script"].zip [.ref a]) (by lia) (X0 _ _ ho) rfl hlim (codeRec_of X0 hcd) rfl (hbind [.ref a] rfl) rfl (fun x hx => ?_) (fun s1 x => ?_) hF.co hF.gen hF.kind
  · cases List.mem_singleton.mp hx
    exact .inl rfl
  · have FO : FrameOk B sc309.1 s.heap.objs.size (callEnvC (fnOf name qual params bd309.1 sc309.1 dV kV doc pm an cdv ct) s.heap.objs.size 309) cdv := ⟨rfl, rfl, rfl, rfl, rfl, rfl⟩
    generalize callEnvC (fnOf name qual params bd309.1 sc309.1 dV kV doc pm an cdv ct) s.heap.objs.size 309 = env at x FO ⊢
    obtain ⟨hX, hS⟩ := frame_ok (A := A) (room := 10) FO hkd hF.kind hF.nofree hh (by lia) (by lia) hsz
    have eK : ∀ y, env.kindOf y = sc309.1.names.lookup y := fun y => by obtain ⟨_, eS, _, _, _, _⟩ := FO; unfold Env.kindOf; rw [eS]
    obtain ⟨eL, _, _, _, _, _⟩ := FO
    clear ho hcd hkd hbind hu hd hh X0 hlim
    obtain ⟨⟨hs1, tk1, es1⟩, hns1, hk1, _⟩ := x.toInCall
    have halt : a < s.heap.objs.size := Heap.lt_size ha
    obtain ⟨own, oa, ob0, oL, oc'⟩ : ∃ own : Addr → Tag, own a = .froz ∧ (∀ b o, b ≠ a → B.h0.get? b = some o → own b = .prot) ∧ own s.heap.objs.size = .locals ∧ (∀ y c, env.cells.lookup y = some c → own c = .cell y) := by
      have h0n : ∀ b, s.heap.objs.size ≤ b → B.h0.get? b = none := fun b hb => fresh_none (Nat.le_trans hsz hb)
      refine ⟨fun b => if b = a then .froz else if (B.h0.get? b).isSome = true then .prot else if b = s.heap.objs.size then .locals else match env.cells.find? (fun p => decide (p.2 = b)) with | some p => .cell p.1 | none => .other, if_pos rfl, fun b o q e => ?_, ?_, fun y c e => ?_⟩
      · show (if b = a then _ else _) = _
        rw [if_neg q, e]; rfl
      · show (if _ then _ else _) = _
        rw [if_neg (Nat.ne_of_gt halt), h0n _ (Nat.le_refl _), if_neg nofun, if_pos rfl]
      · have hm := mem_of_lookup e
        have hlt := x.above _ _ hm
        rw [eL] at hlt
        show (if _ then _ else _) = _
        rw [if_neg (Nat.ne_of_gt (Nat.lt_trans halt hlt)), h0n c (Nat.le_of_lt hlt), if_neg nofun, if_neg (Nat.ne_of_gt hlt), find_apart x.apart hm]
    have M1 : Mw B { A := A.deeper env, env := env, wr := true } B.h0.get? (zput (fun zz => none) a o) own [(Str.ofString "script", .fl (is.map V.int))] (fun zz => none) s1 := {
      kp := fun b ob e => ⟨hk1 _ _ (hs b ob e), ob0 b ob (by rintro rfl; exact nn (hna.symm.trans e)) e⟩
      kz := fun b ob e => by
        unfold zput at e
        split at e
        · rename_i q; cases e; subst q; exact ⟨hk1 _ _ ha, oa⟩
        · exact nn e
      lo := ⟨by show own env.locals = _; rw [eL]; exact oL, _, hns1, fun y v e hk => by
        obtain ⟨rfl, rfl⟩ := script_only e
        refine ⟨.ref a, ?_, a, o, us.toArray, ep, rfl, zput_self, hc, ⟨hod, hdat⟩, Nat.le_trans hul (by decide), RVs.mono (fun zz zz e => nn e) hI⟩
        show bindL env.kindOf [(Str.ofString "script", Value.ref a)] (fun zz => none) (Str.ofString "script") = _
        unfold bindL
        rw [if_pos hk]
        exact (show (if Str.ofString "script" = Str.ofString "script" then some (Value.ref a) else none) = _ from if_pos rfl)⟩
      ce := fun y c e => ⟨.inl ⟨rfl, oc' y c e⟩, _, x.cell y c e, fun v e' hk => by
        obtain ⟨rfl, _⟩ := script_only e'
        exact absurd ((eK _).trans rfl) hk⟩
      ob := fun b ob e => nn e
      gn := by rw [es1]; exact hg
      os := by rw [es1]; exact hos }
    have hl : is.length ≤ 63 := by have := hI.length; rw [List.length_map] at this; lia
    have ex := blk_sound (X := { A := A.deeper env, env := env, wr := true }) (fun st m σ Q h => exT_sound hB (fun Y zz hY => calls_sound hB hFs 10 Y hY) rfl hX hS rfl 20 st m σ Q h) bd309.1
      (by rw [hG]; exact law_c (d := 2) (σ := fun zz => none) hl)
    refine wpAny_mono (ex _ _ s1 (fun zz zz e => e) ⟨_, M1⟩) (fun f s2 ⟨Z2, fl, m2, σ2, hz2, ⟨own1, M2⟩, r2, q2⟩ => ?_) fun zz zz x => False.elim x
    cases (show fl = .ret (.bool true) from q2)
    cases r2 with
    | ret r =>
      cases (show _ = Value.bool true from r)
      exact hR s2 (fun b ob e => (M2.kp b ob e).1) (M2.kz a o (hz2 _ _ zput_self)).1 M2.gn M2.os

noncomputable def erase (h : Heap) (a : Addr) : Heap := { h with objs := h.objs.setIfInBounds a ⟨.none, none, .freed, #[]⟩ }
theorem erase_get {h : Heap} {a b : Addr} : (erase h a).get? b = if b = a then none else h.get? b := by
  unfold erase Heap.get?
  simp only [Array.getElem?_setIfInBounds]
  by_cases q : b = a
  · subst q
    rw [if_pos rfl, if_pos rfl]
    by_cases l : b < h.objs.size
    · rw [if_pos l]
    · rw [if_neg l]
  · rw [if_neg (Ne.symm q), if_neg q]
theorem erase_size {h : Heap} {a : Addr} : (erase h a).objs.size = h.objs.size := Array.size_setIfInBounds
theorem well_list {P : Params} {h : Heap} {v : Value} {d : WData} (w : Well P h v d) : ∀ xs, d = .list xs → ∃ a vs, v = .ref a ∧ h.get? a = some { cls := .type "list", data := .seq (List.toArray vs) } := by
  cases w <;> intro xs e <;> cases e
  exact ⟨_, _, rfl, ‹_›⟩
theorem erase_ns {h : Heap} {a N : Addr} {m : Str → Option Value} {o : Obj} {vs : Array Value} {ep : Nat} (hn : h.Ns N m) (ha : h.get? a = some o) (hd : o.data = .seq vs ep) : (erase h a).Ns N m := by
  obtain ⟨o', es, ep', e, q, r⟩ := hn
  refine ⟨o', es, ep', ?_, q, r⟩
  rw [erase_get, if_neg]
  · exact e
  · rintro rfl
    cases ha.symm.trans e
    cases hd.symm.trans q
theorem erase_in {K : Frag} {h : Heap} {a : Addr} {o : Obj} (nol : ∀ p ∈ K, isL p.2.cls = false) (KX : K.In h) (ha : h.get? a = some o) (hc : o.cls = .type "list") : K.In (erase h a) := fun b ob e => by
  rw [erase_get, if_neg]
  · exact KX b ob e
  · rintro rfl
    cases ha.symm.trans (KX b ob e)
    have := nol _ (mem_lookup e)
    rw [hc] at this
    exact nomatch this
theorem ints_rv {us : List Value} {is : List Int} (h : IntsAre us is) : RVs (fun zz => none) us (is.map V.int) := by
  induction h with
  | nil => exact .nil
  | cons n t _ ih => exact .cons ⟨t, rfl⟩ ih
end Mine
end
open PySem PySem.W PyProof.Rows
open Mine
set_option maxRecDepth 100000 in
set_option maxHeartbeats 8000000 in
theorem PySem.Challenge.cw_nm0018_01_holds : PySem.Challenge.rw_nm0018_01.Holds := by
  w_on
  refine holds_law well fun said => ?_
  refine holds_open (q := viewP) (loose := looseP) (Xt := fun zz => true) (XP := fun zz zz => True) (Yf := fun s => viewsOf (fragOf s.heap)) (Ya := fun zz => viewsFR) (YP := fun zz h => TopK h) (N := 3760) left3 (fun w s e => top_of e) (fun w h h' t k => t.keeps k) (fun zz zz => trivial) (fun zz zz zz zz zz => trivial) (by rfl) (by rfl) (by rfl) (fun zz zz => recFacts_of (by rfl)) (by rfl) (by assumption) (by decide +kernel) ⟨rfl, rfl, rfl, rfl, rfl, by decide +kernel⟩ ?hw ?hc
  case hw => w_witness2
  case hc =>
    intro w s₀ s₁ mg mb G Y fa o pm cd doc dV kV ho hd hcd hD hmg hg args vals as hpre hlay hrd hwl hlo
    obtain ⟨K, KX, nol, e⟩ := Y
    have k := kOk e
    refine Ground.open G ?_
    intro T B D TE TW
    wrow_args hpre hlay hrd hwl hlo
    rename_i is hs hlay0 hL1 hr1 hl2 as1 as2 a us as3 hL ra w1 r0 hI hr hc1 hc2
    clear hs hlay0 hL1 hr1 hl2 ra r0 hr hc2 hcd hD hd TE TW D B
    have efa : fa = 309 := by
      obtain ⟨u, e1, e2⟩ := isSome2_out (k.glob (Str.ofString "law", .ref 309) (mem_lookupS (by kernel_rfl)))
      cases isRefV_out e2
      cases hmg.symm.trans (mg_of KX T.g e1)
      rfl
    subst efa
    clear hmg ho
    obtain ⟨oS, haS, hcS, nS, hdS⟩ := hL
    have hodS : oS.dict = none := by
      obtain ⟨a', vs, e1, e2⟩ := well_list w1 _ rfl
      cases e1
      cases haS.symm.trans e2
      rfl
    have hlen : us.length ≤ 63 := by
      have := hI.length
      lia
    refine enter_call ?_
    refine codeAny_mono ?_ (fun zz zz g => GoodW.toG g)
    have gets : ∀ b ob, (erase s₁.heap a).get? b = some ob → s₁.heap.get? b = some ob := fun b ob e => by
      rw [erase_get] at e
      split at e
      · cases e
      · exact e
    refine top_fn (B := ⟨_, w, K, erase s₁.heap a, s₁.os, mg, mb, G0⟩) (base_ok (erase_in nol KX haS hcS) k (erase_ns T.g haS hdS) (erase_ns T.b haS hdS) ?_ T.builtins) (fns_ok k) rfl rfl (by decide +kernel) (by decide +kernel) gets (Nat.le_of_eq erase_size) haS (by rw [erase_get, if_pos rfl]) hcS hodS hdS hlen (ints_rv hI) hg rfl (fun s' h1 h2 h3 h4 => ?_)
    · obtain ⟨mc, h1, h2⟩ := T.nolimit
      exact ⟨mc, erase_ns h1 haS hdS, h2⟩
    · refine ⟨.inl ⟨.bool true, .bool true, [], rfl, fun cls => ?_, .bool true, ?_, fun zz => ⟨.nil, fun zz h => nomatch h⟩⟩, fun b ob e => ?_, h4, h3⟩
      · rfl
      · wrow_post
      · by_cases q : b = a
        · subst q
          cases haS.symm.trans e; exact h2
        · exact h1 b ob (by rw [erase_get, if_neg q]; exact e)
