import PyProof.Rows.All
import Wide.All
import OpenK.AllK
import Wide.FinOn
import HandS.ForExc
import HandS.Comp
import HandS.Dict
import HandS.Iter
import HandS.Text
import HandS.StrMore
import HandS.Deep
import HandS.TupAny
import HandS.Flow
import HandS.Wide
import HandS.WideBits
import HandS.CallSlots
import HandS.Defaults
import HandS.Style
import HandS.IsInst
import HandS.Small
import HandS.EndBits
import HandS.Words
import PySem.Challenge.RW_truepart_k08_tokens_of_texts
set_option Elab.async false
set_option linter.all false
set_option maxRecDepth 100000
set_option maxHeartbeats 1000000
set_option maxHeartbeats 2000000
set_option maxHeartbeats 4000000
/-! PyI: a small evaluator over plain data, and (further down) its tie to the model's runs. -/
namespace PI
open PySem

/-- plain data; obj n: the n-th instance of the store; exc: a caught exception; typ, cls: types as values -/
inductive D where
  | non | bl (b : Bool) | int (i : Int) | str (s : List Nat)
  | tup (xs : List D) | lst (xs : List D) | dct (kvs : List (D × D))
  | obj (n : Nat) | exc (c : String) (fs : List (String × D)) | typ (n : String) | cls (c : String)
  deriving Inhabited
/-- what a container holds -/
inductive Ct where
  | lst (xs : List D) | dct (kvs : List (D × D))
  deriving Inhabited
def Ct.toD : Ct → D
  | .lst xs => .lst xs
  | .dct kvs => .dct kvs
/-- a result: a value; a container of our own, held by nobody else; a container that a slot holds, looked at -/
inductive Rv where
  | val (d : D) | own (c : Ct) | bor (c : Ct)
  deriving Inhabited
def Rv.vw : Rv → D
  | .val d => d
  | .own c => c.toD
  | .bor c => c.toD
def Rv.fz : Rv → Option D
  | .val d => some d
  | .own c => some c.toD
  | .bor _ => none
/-- the slots -/
abbrev Sl := List (Option Rv)
structure Inst where
  cls : String
  fs : List (String × Rv)
  deriving Inhabited
/-- the store of instances -/
abbrev Ob := List Inst
structure Xn where
  cls : String
  fs : List (String × D)
  deriving Inhabited
inductive Res (α : Type) where
  | ok (a : α) (o : Ob) | exn (x : Xn) (o : Ob) | stuck
def Res.bind {α β : Type} : Res α → (α → Ob → Res β) → Res β
  | .ok a o, f => f a o
  | .exn x o, _ => .exn x o
  | .stuck, _ => .stuck
@[simp] theorem Res.bind_ok {α β : Type} (a : α) (o : Ob) (f : α → Ob → Res β) : (Res.ok a o).bind f = f a o := id rfl
@[simp] theorem Res.bind_exn {α β : Type} (x : Xn) (o : Ob) (f : α → Ob → Res β) : (Res.exn x o : Res α).bind f = .exn x o := id rfl
@[simp] theorem Res.bind_stuck {α β : Type} (f : α → Ob → Res β) : (Res.stuck : Res α).bind f = .stuck := id rfl
/-- an answer that may lack -/
def opt {α : Type} (x : Option α) (o : Ob) : Res α := match x with
  | some a => .ok a o
  | none => .stuck
@[simp] theorem opt_some {α : Type} (a : α) (o : Ob) : opt (some a) o = .ok a o := id rfl
@[simp] theorem opt_none {α : Type} (o : Ob) : opt (none : Option α) o = .stuck := id rfl

/-! ### operations on data -/
mutual
def toPy : D → PyData
  | .non => .none
  | .bl b => .bool b
  | .int i => .int i
  | .str s => .str ⟨s.toArray⟩
  | .tup xs => .tuple (toPys xs)
  | .lst xs => .list (toPys xs)
  | _ => .dict []
def toPys : List D → List PyData
  | [] => []
  | x :: xs => toPy x :: toPys xs
end
mutual
/-- == -/
def eqD : D → D → Bool
  | .non, .non => true
  | .bl a, .bl b => a == b
  | .bl a, .int j => (if a then 1 else 0) == j
  | .int i, .bl b => i == (if b then 1 else 0)
  | .int i, .int j => i == j
  | .str s, .str t => s == t
  | .tup xs, .tup ys => eqDs xs ys
  | .lst xs, .lst ys => eqDs xs ys
  | _, _ => false
def eqDs : List D → List D → Bool
  | [], [] => true
  | x :: xs, y :: ys => eqD x y && eqDs xs ys
  | _, _ => false
end
mutual
/-- what may be compared at any depth -/
def okD : Nat → D → Bool
  | _, .non => true
  | _, .bl _ => true
  | _, .int _ => true
  | _, .str s => s.all (· < 0x110000)
  | n + 1, .tup xs => okDs n xs
  | n + 1, .lst xs => okDs n xs
  | _, _ => false
def okDs : Nat → List D → Bool
  | _, [] => true
  | n, x :: xs => okD n x && okDs n xs
end
def flatD : D → Bool
  | .non => true
  | .bl _ => true
  | .int _ => true
  | .str _ => true
  | _ => false
def mulOk (i j : Int) : Prop := (Builtin.Int.intBits i : Int) + (Builtin.Int.intBits j : Int) ≤ 134217728
instance (i j : Int) : Decidable (mulOk i j) := by unfold mulOk; infer_instance
def binD : Operator → D → D → Option Rv
  | .Add, .int i, .int j => some (.val (.int (i + j)))
  | .Add, .str s, .str t => if s.length + t.length ≤ sizeLine then some (.val (.str (s ++ t))) else none
  | .Add, .tup xs, .tup ys => if xs.length + ys.length ≤ sizeLine then some (.val (.tup (xs ++ ys))) else none
  | .Add, .lst xs, .lst ys => if xs.length + ys.length ≤ sizeLine then some (.own (.lst (xs ++ ys))) else none
  | .Sub, .int i, .int j => some (.val (.int (i - j)))
  | .Mult, .int i, .int j => if mulOk i j then some (.val (.int (i * j))) else none
  | .FloorDiv, .int i, .int j => if j ≠ 0 ∧ j.natAbs.log2 < 9000 then some (.val (.int (i.fdiv j))) else none
  | .Mod, .int i, .int j => if j ≠ 0 then some (.val (.int (i.fmod j))) else none
  | .Pow, .int i, .int j => if 0 ≤ j ∧ j ≤ 1000000 ∧ i.natAbs < 2 ^ 64 then some (.val (.int (i ^ j.toNat))) else none
  | _, _, _ => none
def negD : D → Option Rv
  | .int i => some (.val (.int (-i)))
  | _ => none
/-- truth -/
def truD : D → Option Bool
  | .non => some false
  | .bl b => some b
  | .int i => some (i != 0)
  | .str s => if s.length ≤ sizeLine then some (!s.isEmpty) else none
  | .tup xs => some (!xs.isEmpty)
  | .lst xs => some (!xs.isEmpty)
  | _ => none
/-- the places at which t stands in s -/
def occurs (s t : List Nat) : Bool := !(Builtin.Str.occurrences ⟨s.toArray⟩ ⟨t.toArray⟩ 0 s.length 1).isEmpty
def scalD : D → D → Bool
  | .non, .non => true | .non, .int _ => true | .int _, .non => true | .non, .bl _ => true | .bl _, .non => true | .non, .str _ => true | .str _, .non => true
  | .int _, .int _ => true | .bl _, .bl _ => true | .str _, .str _ => true
  | .int _, .str _ => true | .str _, .int _ => true | .bl _, .str _ => true | .str _, .bl _ => true
  | _, _ => false
def inD (x y : D) : Option Bool := match y with
  | .str t => (match x with | .str s => (match s with | [c] => some (decide (c ∈ t)) | _ => some (occurs t s)) | _ => none)
  | .lst ys => if flatD x && ys.all flatD then some (ys.any fun y => eqD y x) else if okD 64 x && okDs 63 ys then some (ys.any fun y => eqD y x) else none
  | .tup ys => if flatD x && ys.all flatD then some (ys.any fun y => eqD y x) else none
  | _ => none
def isNon : D → Bool
  | .non => true
  | _ => false
def isD (x y : D) : Option Bool := match y with
  | .non => some (isNon x)
  | .bl b => (match x with | .bl a => some (decide (a = b)) | _ => none)
  | _ => none
def cmpD : CmpOp → D → D → Option Bool
  | .Eq, x, y => if scalD x y || (okD 64 x && okD 64 y) then some (eqD x y) else none
  | .NotEq, x, y => if scalD x y || (okD 64 x && okD 64 y) then some (!eqD x y) else none
  | .Lt, .int i, .int j => some (decide (i < j))
  | .LtE, .int i, .int j => some (decide (i ≤ j))
  | .Gt, .int i, .int j => some (decide (j < i))
  | .GtE, .int i, .int j => some (decide (j ≤ i))
  | .Is, x, y => isD x y
  | .IsNot, x, y => (isD x y).map not
  | .In, x, y => inD x y
  | .NotIn, x, y => (inD x y).map not
  | _, _, _ => none
/-- a key of a dict: an int or a text -/
def keyD : D → Option L2.Key
  | .int i => some (.inl i)
  | .str s => some (.inr ⟨s.toArray⟩)
  | _ => none
def getKv (kvs : List (D × D)) (k : D) : Option D := (kvs.find? fun kv => eqD kv.1 k).map (·.2)
def idxD : D → D → Option D
  | .tup xs, .int i => L2.atI xs i
  | .lst xs, .int i => L2.atI xs i
  | .str s, .int i => if s.length ≤ sizeLine then (L2.atI s i).map fun c => .str [c] else none
  | _, _ => none
def ixPart : Bool → D → Option (Option Int)
  | false, _ => some none
  | true, .int i => some (some i)
  | true, _ => none
def cut {α : Type} (xs : List α) (lo hi : Option Int) : List α := (xs.drop (HT.sIx xs.length 0 lo)).take (HT.sIx xs.length xs.length hi - HT.sIx xs.length 0 lo)
def slcD : D → Option Int → Option Int → Option Rv
  | .str s, lo, hi => if s.length ≤ sizeLine then some (.val (.str (cut s lo hi))) else none
  | .tup xs, lo, hi => some (.val (.tup (cut xs lo hi)))
  | .lst xs, lo, hi => some (.own (.lst (cut xs lo hi)))
  | _, _, _ => none
def S (s : List Nat) : Str := ⟨s.toArray⟩
/-- the class of a value, for isinstance against a built-in class -/
def isiD : D → String → Option Bool
  | .bl _, "int" => some true
  | .bl _, "bool" => some true
  | .int _, "int" => some true
  | .int _, "bool" => some false
  | .str _, "str" => some true
  | .tup _, "tuple" => some true
  | .lst _, "list" => some true
  | .lst _, "tuple" => some false
  | .tup _, "list" => some false
  | _, _ => none
/-- built-in functions and types -/
def bltD : String → List D → Option Rv
  | "len", [.str s] => if s.length ≤ sizeLine then some (.val (.int s.length)) else none
  | "len", [.tup xs] => some (.val (.int xs.length))
  | "len", [.lst xs] => some (.val (.int xs.length))
  | "abs", [.int i] => some (.val (.int (if i < 0 then -i else i)))
  | "int", [.int i] => some (.val (.int i))
  | "int", [.str s] => if s.length ≤ 640 then (intText? (S s)).map fun n => .val (.int n) else none
  | "str", [.int i] => if i.natAbs.log2 < 1920 then some (.val (.str (toString i : Str).cps.toList)) else none
  | "list", [.lst xs] => some (.own (.lst xs))
  | "list", [.tup xs] => some (.own (.lst xs))
  | "tuple", [.lst xs] => some (.val (.tup xs))
  | "tuple", [.tup xs] => some (.val (.tup xs))
  | "isinstance", [x, .typ T] => (isiD x T).map fun b => .val (.bl b)
  | _, _ => none
def txts : List D → Option (List (List Nat))
  | [] => some []
  | .str s :: xs => (txts xs).map (s :: ·)
  | _ => none
/-- methods of built-in types -/
def mthD : String → D → List D → Option Rv
  | "find", .str s, [.str t] => some (.val (.int (Txt.find (S s) (S t))))
  | "find", .str s, [.str t, .int i] => some (.val (.int (Txt.find3 (S s) (S t) i)))
  | "rfind", .str s, [.str t] => some (.val (.int (Txt.rfind (S s) (S t))))
  | "count", .str s, [.str t] => some (.val (.int (Txt.count (S s) (S t))))
  | "split", .str s, [.str t] => if t.isEmpty = false ∧ s.length + 2 ≤ sizeLine then some (.own (.lst ((Txt.split (S s) (S t)).map fun z => .str z.cps.toList))) else none
  | "join", .str s, [.lst xs] => (txts xs).bind fun ys => if (ys.map List.length).sum + ys.length * s.length ≤ 16777216 then some (.val (.str (Txt.join (S s) (ys.map S)).cps.toList)) else none
  | "join", .str s, [.tup xs] => (txts xs).bind fun ys => if (ys.map List.length).sum + ys.length * s.length ≤ 16777216 then some (.val (.str (Txt.join (S s) (ys.map S)).cps.toList)) else none
  | _, _, _ => none

/-- the receiver is of the method's type -/
def rcvD : String → D → Bool
  | "find", .str _ => true
  | "rfind", .str _ => true
  | "count", .str _ => true
  | "split", .str _ => true
  | "join", .str _ => true
  | _, _ => false

/-! ### the trees -/
inductive Tg where
  | one (i : Nat) | many (is : List Nat)
inductive Ex where
  | cst (d : D)
  | var (i : Nat)
  | bin (op : Operator) (a b : Ex)
  | neg (a : Ex)
  | not (a : Ex)
  | cmp (op : CmpOp) (a b : Ex)
  | chn (p q : CmpOp) (a b c : Ex)
  | and (a b : Ex)
  | or (a b : Ex)
  | ife (c a b : Ex)
  | tup (es : List Ex)
  | lst (es : List Ex)
  | idx (a i : Ex)
  | slc (a : Ex) (l h : Bool) (lo hi : Ex)
  | call (f : String) (es : List Ex)
  | blt (f : String) (es : List Ex)
  | mth (m : String) (o : Ex) (es : List Ex)
  | omt (m : String) (o : Ex) (es : List Ex)
  | att (o : Ex) (f : String)
  | new (C : String) (es : List Ex)
  | rng (es : List Ex)
  | comp (elt : Ex) (t : Tg) (it : Ex) (cond : Ex) (own : List Nat)
inductive Stm where
  | asg (t : Tg) (keep : Bool) (e : Ex)
  | sti (i : Nat) (k e : Ex)
  | stf (o : Ex) (f : String) (e : Ex)
  | mut (i : Nat) (m : String) (es : List Ex)
  | pop (t : Tg) (i : Nat) (es : List Ex)
  | exp (e : Ex)
  | ret (e : Ex)
  | iff (c : Ex) (a b : List Stm)
  | whl (c : Ex) (b : List Stm)
  | for (t : Tg) (it : Ex) (b : List Stm)
  | rai (C : String) (es : List Ex)
  | brk | cnt | pas | nev
  | frz (i : Nat)

/-! ### evaluation -/
/-- what lies below: calls, makes, exceptions' fields -/
structure Prm where
  call : String → List D → Ob → Res Rv
  new : String → List D → Ob → Res Rv
  exf : String → List D → Option Xn
def setT : Tg → D → Sl → Option Sl
  | .one i, d, σ => some (σ.set i (some (.val d)))
  | .many is, .tup xs, σ => if xs.length = is.length then some ((is.zip xs).foldl (fun s p => s.set p.1 (some (.val p.2))) σ) else none
  | _, _, _ => none
def tgIn : Tg → List Nat → Bool
  | .one i, l => l.contains i
  | .many is, l => is.all l.contains
def wipeE (σ : Sl) : List Nat → Sl
  | [] => σ
  | v :: vs => (wipeE σ vs).set v none
def rngD : List D → Option (List D)
  | [.int j] => if -(2 ^ 62) ≤ j ∧ j < 2 ^ 62 then some ((List.range j.toNat).map fun k => .int ((0 : Int) + (k : Nat))) else none
  | [.int i, .int j] => if -(2 ^ 62) ≤ i ∧ i < 2 ^ 62 ∧ -(2 ^ 62) ≤ j ∧ j < 2 ^ 62 then some ((List.range (j - i).toNat).map fun k => .int (i + (k : Nat))) else none
  | _ => none
def itD : D → Option (List D)
  | .lst xs => some xs
  | .tup xs => some xs
  | _ => none
/-- the turns of a comprehension -/
def compD (t : Tg) (own : List Nat) (σ : Sl) (cond : Sl → Ob → Res Rv) (elt : Sl → Ob → Res Rv) : List D → List D → Ob → Res (List D)
  | [], acc, o => .ok acc o
  | x :: xs, acc, o => match setT t x (wipeE σ own) with
    | none => .stuck
    | some σ' => (cond σ' o).bind fun c o => (opt (truD c.vw) o).bind fun b o =>
        if b then (elt σ' o).bind fun r o => (opt r.fz o).bind fun d o => if acc.length < sizeLine then compD t own σ cond elt xs (acc ++ [d]) o else .stuck
        else compD t own σ cond elt xs acc o
def slot (σ : Sl) (i : Nat) : Option Rv := match σ[i]? with
  | some (some (.own c)) => some (.bor c)
  | some (some r) => some r
  | _ => none
def fldR (o : Ob) (f : String) : D → Option Rv
  | .obj n => match o[n]? with
    | some I => (match I.fs.lookup f with | some (.val d) => some (.val d) | _ => none)
    | none => none
  | .exc _ fs => (fs.lookup f).map .val
  | _ => none
def clsOf (o : Ob) : D → Option String
  | .obj n => (o[n]?).map (·.cls)
  | _ => none
/-- nothing raised goes through (a comprehension) -/
def still {α : Type} : Res α → Res α
  | .exn _ _ => .stuck
  | r => r
def allFz : List Rv → Option (List D)
  | [] => some []
  | r :: rs => r.fz.bind fun d => (allFz rs).map (d :: ·)
mutual
def ev (P : Prm) (σ : Sl) : Ex → Ob → Res Rv
  | .cst d, o => .ok (.val d) o
  | .var i, o => opt (slot σ i) o
  | .bin op a b, o => (ev P σ a o).bind fun x o => (ev P σ b o).bind fun y o => opt (binD op x.vw y.vw) o
  | .neg a, o => (ev P σ a o).bind fun x o => opt (negD x.vw) o
  | .not a, o => (ev P σ a o).bind fun x o => (opt (truD x.vw) o).bind fun b o => .ok (.val (.bl (!b))) o
  | .cmp op a b, o => (ev P σ a o).bind fun x o => (ev P σ b o).bind fun y o => (opt (cmpD op x.vw y.vw) o).bind fun c o => .ok (.val (.bl c)) o
  | .chn p q a b c, o => (ev P σ a o).bind fun x o => (ev P σ b o).bind fun y o => (opt (cmpD p x.vw y.vw) o).bind fun k o =>
      if k then (ev P σ c o).bind fun z o => (opt (cmpD q y.vw z.vw) o).bind fun m o => .ok (.val (.bl m)) o else .ok (.val (.bl false)) o
  | .and a b, o => (ev P σ a o).bind fun x o => (opt (truD x.vw) o).bind fun k o => if k then ev P σ b o else .ok x o
  | .or a b, o => (ev P σ a o).bind fun x o => (opt (truD x.vw) o).bind fun k o => if k then .ok x o else ev P σ b o
  | .ife c a b, o => (ev P σ c o).bind fun x o => (opt (truD x.vw) o).bind fun k o => if k then ev P σ a o else ev P σ b o
  | .tup es, o => (evs P σ es o).bind fun rs o => (opt (allFz rs) o).bind fun ds o => if ds.length ≤ sizeLine then .ok (.val (.tup ds)) o else .stuck
  | .lst es, o => (evs P σ es o).bind fun rs o => (opt (allFz rs) o).bind fun ds o => if ds.length ≤ sizeLine then .ok (.own (.lst ds)) o else .stuck
  | .idx a i, o => (ev P σ a o).bind fun x o => (ev P σ i o).bind fun y o => (opt (idxD x.vw y.vw) o).bind fun d o => .ok (.val d) o
  | .slc a l h lo hi, o => (ev P σ a o).bind fun x o => (ev P σ lo o).bind fun y o => (opt (ixPart l y.vw) o).bind fun l o => (ev P σ hi o).bind fun z o =>
      (opt (ixPart h z.vw) o).bind fun h o => opt (slcD x.vw l h) o
  | .call f es, o => (evs P σ es o).bind fun rs o => (opt (allFz rs) o).bind fun ds o => P.call f ds o
  | .blt f es, o => (evs P σ es o).bind fun rs o => opt (bltD f (rs.map Rv.vw)) o
  | .mth m a es, o => (ev P σ a o).bind fun x o => if rcvD m x.vw = true then (evs P σ es o).bind fun rs o => opt (mthD m x.vw (rs.map Rv.vw)) o else .stuck
  | .omt m a es, o => (ev P σ a o).bind fun x o => (opt x.fz o).bind fun d o => (opt (clsOf o d) o).bind fun C o =>
      (evs P σ es o).bind fun rs o => (opt (allFz rs) o).bind fun ds o => P.call (C ++ "." ++ m) (d :: ds) o
  | .att a f, o => (ev P σ a o).bind fun x o => opt (fldR o f x.vw) o
  | .new C es, o => (evs P σ es o).bind fun rs o => (opt (allFz rs) o).bind fun ds o => P.new C ds o
  | .rng es, o => .stuck
  | .comp elt t it cond own, o => (match it with
      | .rng es => (evs P σ es o).bind fun rs o => opt (rngD (rs.map Rv.vw)) o
      | it => (ev P σ it o).bind fun x o => opt (itD x.vw) o).bind fun xs o =>
        still ((compD t own σ (fun σ' o => ev P σ' cond o) (fun σ' o => ev P σ' elt o) xs [] o).bind fun ds o => .ok (.own (.lst ds)) o)
def evs (P : Prm) (σ : Sl) : List Ex → Ob → Res (List Rv)
  | [], o => .ok [] o
  | e :: es, o => (ev P σ e o).bind fun r o => (evs P σ es o).bind fun rs o => .ok (r :: rs) o
end
/-! ### statements -/
inductive Out where
  | nx (σ : Sl) (o : Ob) | rt (r : Rv) (o : Ob) | bk (σ : Sl) (o : Ob) | ct (σ : Sl) (o : Ob) | ex (x : Xn) (σ : Sl) (o : Ob) | stuck
/-- an expression's result, in a statement -/
def Res.then {α : Type} (r : Res α) (σ : Sl) (f : α → Ob → Out) : Out := match r with
  | .ok a o => f a o
  | .exn x o => .ex x σ o
  | .stuck => .stuck
@[simp] theorem Res.then_ok {α : Type} (a : α) (o : Ob) (σ : Sl) (f : α → Ob → Out) : (Res.ok a o).then σ f = f a o := id rfl
@[simp] theorem Res.then_exn {α : Type} (x : Xn) (o : Ob) (σ : Sl) (f : α → Ob → Out) : (Res.exn x o : Res α).then σ f = .ex x σ o := id rfl
@[simp] theorem Res.then_stuck {α : Type} (σ : Sl) (f : α → Ob → Out) : (Res.stuck : Res α).then σ f = .stuck := id rfl
def orStuck (x : Option Out) : Out := match x with
  | some y => y
  | none => .stuck
@[simp] theorem orStuck_some (y : Out) : orStuck (some y) = y := id rfl
@[simp] theorem orStuck_none : orStuck none = .stuck := id rfl
/-- a loop that ends -/
inductive Iter {α β : Type} (step : α → Sum α β) : Nat → α → β → Prop
  | done {a : α} {b : β} (h : step a = .inr b) : Iter step 0 a b
  | more {n : Nat} {a a' : α} {b : β} (h : step a = .inl a') (t : Iter step n a' b) : Iter step (n + 1) a b
theorem Iter.inj {α β : Type} {step : α → Sum α β} {n : Nat} {a : α} {b : β} (h : Iter step n a b) : ∀ {m : Nat} {c : β}, Iter step m a c → b = c := by
  induction h with
  | done h =>
    intro m c h2
    cases h2 with
    | done h' => rw [h] at h'; exact Sum.inr.inj h'
    | more h' _ => rw [h] at h'; cases h'
  | more h _ ih =>
    intro m c h2
    cases h2 with
    | done h' => rw [h] at h'; cases h'
    | more h' t => rw [h] at h'; cases h'; exact ih t
open Classical in
noncomputable def loopD {α β : Type} (step : α → Sum α β) (a : α) : Option β := if h : ∃ b n, Iter step n a b then some h.choose else none
theorem loopD_iff {α β : Type} {step : α → Sum α β} {a : α} {b : β} : loopD step a = some b ↔ ∃ n, Iter step n a b := by
  unfold loopD
  constructor
  · intro h
    by_cases hx : ∃ b n, Iter step n a b
    · rw [dif_pos hx] at h
      cases h
      exact hx.choose_spec
    · rw [dif_neg hx] at h
      cases h
  · rintro ⟨n, h⟩
    have hx : ∃ b n, Iter step n a b := ⟨b, n, h⟩
    rw [dif_pos hx]
    obtain ⟨m, h2⟩ := hx.choose_spec
    rw [Iter.inj h2 h]
theorem loopD_unfold {α β : Type} (step : α → Sum α β) (a : α) : loopD step a = match step a with
    | .inl a' => loopD step a'
    | .inr b => some b := by
  cases e : step a with
  | inr b => exact loopD_iff.mpr ⟨0, .done e⟩
  | inl a' =>
    show loopD step a = loopD step a'
    cases h : loopD step a' with
    | some b =>
      obtain ⟨n, t⟩ := loopD_iff.mp h
      exact loopD_iff.mpr ⟨n + 1, .more e t⟩
    | none =>
      cases h2 : loopD step a with
      | none => rfl
      | some b =>
        obtain ⟨n, t⟩ := loopD_iff.mp h2
        cases t with
        | done h' => rw [e] at h'; cases h'
        | more h' t =>
          rw [e] at h'
          cases h'
          rw [loopD_iff.mpr ⟨_, t⟩] at h
          cases h
/-- one turn of a while -/
def turnW (cond : Sl → Ob → Res Rv) (body : Sl → Ob → Out) : Sl × Ob → Sum (Sl × Ob) Out := fun a => match cond a.1 a.2 with
  | .exn x o => .inr (.ex x a.1 o)
  | .stuck => .inr .stuck
  | .ok r o => match truD r.vw with
    | none => .inr .stuck
    | some false => .inr (.nx a.1 o)
    | some true => match body a.1 o with
      | .nx σ o => .inl (σ, o)
      | .ct σ o => .inl (σ, o)
      | .bk σ o => .inr (.nx σ o)
      | r => .inr r
noncomputable def whlD (cond : Sl → Ob → Res Rv) (body : Sl → Ob → Out) (σ : Sl) (o : Ob) : Out := orStuck (loopD (turnW cond body) (σ, o))
theorem whlD_eq (cond : Sl → Ob → Res Rv) (body : Sl → Ob → Out) (σ : Sl) (o : Ob) : whlD cond body σ o = (cond σ o).then σ fun r o => match truD r.vw with
    | none => .stuck
    | some false => .nx σ o
    | some true => match body σ o with
      | .nx σ o => whlD cond body σ o
      | .ct σ o => whlD cond body σ o
      | .bk σ o => .nx σ o
      | r => r := by
  unfold whlD
  rw [loopD_unfold]
  unfold turnW
  dsimp only
  cases cond σ o with
  | exn x o => rfl
  | stuck => rfl
  | ok r o =>
    dsimp only [Res.then]
    cases truD r.vw with
    | none => rfl
    | some k =>
      cases k with
      | false => rfl
      | true =>
        dsimp only
        cases body σ o <;> rfl
/-- a for over what has been told -/
def forD (t : Tg) (body : Sl → Ob → Out) : List D → Sl → Ob → Out
  | [], σ, o => .nx σ o
  | x :: xs, σ, o => match setT t x σ with
    | none => .stuck
    | some σ' => match body σ' o with
      | .nx σ o => forD t body xs σ o
      | .ct σ o => forD t body xs σ o
      | .bk σ o => .nx σ o
      | r => r
/-- a result into its target -/
def setR (t : Tg) (keep : Bool) (r : Rv) (σ : Sl) : Option Sl := match t, keep, r with
  | .one i, true, .own c => some (σ.set i (some (.own c)))
  | t, _, r => r.fz.bind fun d => setT t d σ
def putF (f : String) (r : Rv) : List (String × Rv) → List (String × Rv)
  | [] => [(f, r)]
  | p :: fs => if p.1 = f then (f, r) :: fs else p :: putF f r fs
def putFld (f : String) (r : Rv) (o : Ob) (n : Nat) : Option Ob := (o[n]?).map fun I => o.set n { I with fs := putF f r I.fs }
/-- x[k] = d, x of our own -/
def stiC : Ct → D → D → Option Ct
  | .lst xs, .int k, d => (L2.ixN xs.length k).map fun j => .lst (xs.set j d)
  | _, _, _ => none
/-- x.m(ds) that changes x of our own -/
def mutC : String → Ct → List D → Option Ct
  | "append", .lst xs, [d] => if xs.length < sizeLine then some (.lst (xs ++ [d])) else none
  | _, _, _ => none
/-- x.pop(ds): what comes, what stays -/
def popC : Ct → List D → Option (D × Ct)
  | .lst xs, [] => match xs.getLast? with
    | some d => some (d, .lst xs.dropLast)
    | none => none
  | _, _ => none
def ownAt (σ : Sl) (i : Nat) : Option Ct := match σ[i]? with
  | some (some (.own c)) => some c
  | _ => none
mutual
noncomputable def exec (P : Prm) : Stm → Sl → Ob → Out
  | .asg t keep e, σ, o => (ev P σ e o).then σ fun r o => match setR t keep r σ with
    | some σ' => .nx σ' o
    | none => .stuck
  | .sti i k e, σ, o => (ev P σ e o).then σ fun r o => match r.fz, ownAt σ i with
    | some d, some c => (ev P σ k o).then σ fun q o => (match stiC c q.vw d with
      | some c' => .nx (σ.set i (some (.own c'))) o
      | none => .stuck)
    | _, _ => .stuck
  | .stf a f e, σ, o => (ev P σ e o).then σ fun r o => (ev P σ a o).then σ fun q o => match r.fz, q.vw with
    | some d, .obj n => match putFld f (.val d) o n with
      | some o' => .nx σ o'
      | none => .stuck
    | _, _ => .stuck
  | .mut i m es, σ, o => match ownAt σ i with
    | none => .stuck
    | some c => (evs P σ es o).then σ fun rs o => match allFz rs with
      | some ds => (match mutC m c ds with
        | some c' => .nx (σ.set i (some (.own c'))) o
        | none => .stuck)
      | none => .stuck
  | .pop t i es, σ, o => match ownAt σ i with
    | none => .stuck
    | some c => (evs P σ es o).then σ fun rs o => match allFz rs with
      | some ds => (match popC c ds with
        | some (d, c') => (match setT t d (σ.set i (some (.own c'))) with
          | some σ' => .nx σ' o
          | none => .stuck)
        | none => .stuck)
      | none => .stuck
  | .exp e, σ, o => (ev P σ e o).then σ fun _ o => .nx σ o
  | .ret (.var i), σ, o => match σ[i]? with
    | some (some (.bor _)) => .stuck
    | some (some r) => .rt r o
    | _ => .stuck
  | .ret e, σ, o => (ev P σ e o).then σ fun r o => match r with
    | .bor _ => .stuck
    | r => .rt r o
  | .iff c a b, σ, o => (ev P σ c o).then σ fun r o => match truD r.vw with
    | none => .stuck
    | some true => execs P a σ o
    | some false => execs P b σ o
  | .whl c b, σ, o => whlD (fun σ o => ev P σ c o) (fun σ o => execs P b σ o) σ o
  | .for t it b, σ, o => (match it with
      | .rng es => (evs P σ es o).bind fun rs o => opt (rngD (rs.map Rv.vw)) o
      | it => (ev P σ it o).bind fun x o => (opt x.fz o).bind fun d o => opt (itD d) o).then σ fun xs o => forD t (fun σ o => execs P b σ o) xs σ o
  | .rai C es, σ, o => (evs P σ es o).then σ fun rs o => match allFz rs with
    | some ds => (match P.exf C ds with
      | some x => .ex x σ o
      | none => .stuck)
    | none => .stuck
  | .brk, σ, o => .bk σ o
  | .cnt, σ, o => .ct σ o
  | .pas, σ, o => .nx σ o
  | .nev, _, _ => .stuck
  | .frz i, σ, o => match σ[i]? with
    | some (some (.own c)) => .nx (σ.set i (some (.val c.toD))) o
    | some (some (.val _)) => .nx σ o
    | _ => .stuck
noncomputable def execs (P : Prm) : List Stm → Sl → Ob → Out
  | [], σ, o => .nx σ o
  | s :: ss, σ, o => match exec P s σ o with
    | .nx σ o => execs P ss σ o
    | r => r
end
/-! ### defs -/
structure Fn where
  npar : Nat
  nsl : Nat
  dfl : List D
  body : List Stm
/-- the slots at a def's entry -/
def entry (fd : Fn) (ds : List D) : Sl := ds.map (fun d => some (.val d)) ++ List.replicate (fd.nsl - fd.npar) none
/-- the arguments with the defaults that lack -/
def filled (fd : Fn) (ds : List D) : Option (List D) :=
  if ds.length ≤ fd.npar ∧ fd.npar ≤ ds.length + fd.dfl.length then some (ds ++ fd.dfl.drop (fd.dfl.length - (fd.npar - ds.length))) else none
structure Tab where
  fn : String → Option Fn
  /-- the fields that an exception's own __init__ stores, of its arguments -/
  exf : String → List D → Option Xn
def endOf : Out → Res Rv
  | .nx _ o => .ok (.val .non) o
  | .rt r o => .ok r o
  | .ex x _ o => .exn x o
  | _ => .stuck
mutual
noncomputable def callF (T : Tab) : Nat → String → List D → Ob → Res Rv
  | 0, _, _, _ => .stuck
  | n + 1, f, ds, o => match T.fn f with
    | none => .stuck
    | some fd => match filled fd ds with
      | none => .stuck
      | some es => endOf (execs { call := callF T n, new := newF T n, exf := T.exf } fd.body (entry fd es) o)
noncomputable def newF (T : Tab) : Nat → String → List D → Ob → Res Rv
  | 0, _, _, _ => .stuck
  | n + 1, C, ds, o => (callF T n (C ++ ".__init__") (.obj o.length :: ds) (o ++ [⟨C, []⟩])).bind fun r o' => match r.vw with
    | .non => .ok (.val (.obj o.length)) o'
    | _ => .stuck
end
noncomputable def prm (T : Tab) (n : Nat) : Prm := { call := callF T n, new := newF T n, exf := T.exf }
end PI

namespace PI
open PySem L2

/-- instances' addresses, what may change, what is frozen, what stands -/
structure Wd where
  ι : List Addr
  μ : List Addr
  F : Hp
  H : Hp
section
variable (K : PySem.W.Frag) (cl : String → Option Addr)
mutual
inductive RepD (ι : List Addr) (F : Hp) : V → D → Prop
  | non : RepD ι F .non .non
  | bl (b : Bool) : RepD ι F (.bl b) (.bl b)
  | int (i : Int) : RepD ι F (.int i) (.int i)
  | str (s : List Nat) : RepD ι F (.str (S s)) (.str s)
  | tup {a : Addr} {vs : List V} {xs : List D} : SqT K F a vs → RepL ι F vs xs → RepD ι F (.ref a) (.tup xs)
  | lst {a : Addr} {vs : List V} {xs : List D} : SqL K F a vs → RepL ι F vs xs → RepD ι F (.ref a) (.lst xs)
  | obj {a : Addr} {n : Nat} : ι[n]? = some a → RepD ι F (.ref a) (.obj n)
  | typ (n : String) : RepD ι F (.ty n) (.typ n)
  | cls {c : String} {a : Addr} : cl c = some a → RepD ι F (.ref a) (.cls c)
inductive RepL (ι : List Addr) (F : Hp) : List V → List D → Prop
  | nil : RepL ι F [] []
  | cons {v : V} {vs : List V} {d : D} {ds : List D} : RepD ι F v d → RepL ι F vs ds → RepL ι F (v :: vs) (d :: ds)
end
end
section
variable {K : PySem.W.Frag} {cl : String → Option Addr} {ι ι' : List Addr} {F F' : Hp}
def Sub (F F' : Hp) : Prop := ∀ a x, F a = some x → F' a = some x
theorem Sub.refl (F : Hp) : Sub F F := fun _ _ h => h
theorem Sub.trans {F F1 F2 : Hp} (a : Sub F F1) (b : Sub F1 F2) : Sub F F2 := fun c x h => b c x (a c x h)
theorem Sub.new {F : Hp} {p : Addr} {o : HO} (h : F p = none) : Sub F (upd F p o) := fun a u e => by
  rw [upd_ne (ne_of_none e h)]
  exact e
theorem Sub.rd {a : Addr} {u : HO} (e : Sub F F') (h : Rd F a u) : Rd F' a u := by
  rcases h with h | ⟨o, h⟩
  · exact .inl (e a _ h)
  · exact .inr ⟨o, e a _ h⟩
theorem Sub.sl {a : Addr} {xs : List V} (e : Sub F F') (h : SqL K F a xs) : SqL K F' a xs := by
  rcases h with h | h
  · exact .inl (e.rd h)
  · exact .inr h
theorem Sub.st {a : Addr} {xs : List V} (e : Sub F F') (h : SqT K F a xs) : SqT K F' a xs := by
  rcases h with h | h
  · exact .inl (e.rd h)
  · exact .inr h
def Pre (ι ι' : List Addr) : Prop := ∀ (n : Nat) (a : Addr), ι[n]? = some a → ι'[n]? = some a
theorem Pre.refl (ι : List Addr) : Pre ι ι := fun _ _ h => h
theorem Pre.trans {a b c : List Addr} (x : Pre a b) (y : Pre b c) : Pre a c := fun n z h => y n z (x n z h)
mutual
theorem RepD.mono (p : Pre ι ι') (e : Sub F F') {v : V} : ∀ (d : D), RepD K cl ι F v d → RepD K cl ι' F' v d
  | .non, h => by cases h; exact .non
  | .bl _, h => by cases h; exact .bl _
  | .int _, h => by cases h; exact .int _
  | .str _, h => by cases h; exact .str _
  | .tup xs, h => by cases h with | tup a b => exact .tup (e.st a) (RepL.mono p e xs b)
  | .lst xs, h => by cases h with | lst a b => exact .lst (e.sl a) (RepL.mono p e xs b)
  | .dct _, h => by cases h
  | .obj _, h => by cases h with | obj a => exact .obj (p _ _ a)
  | .exc _ _, h => by cases h
  | .typ _, h => by cases h; exact .typ _
  | .cls _, h => by cases h with | cls a => exact .cls a
theorem RepL.mono (p : Pre ι ι') (e : Sub F F') {vs : List V} : ∀ (ds : List D), RepL K cl ι F vs ds → RepL K cl ι' F' vs ds
  | [], h => by cases h; exact .nil
  | d :: ds, h => by cases h with | cons a b => exact .cons (RepD.mono p e d a) (RepL.mono p e ds b)
end
theorem RepL.length {vs : List V} {ds : List D} (h : RepL K cl ι F vs ds) : vs.length = ds.length := by
  induction ds generalizing vs with
  | nil => cases h; rfl
  | cons d ds ih => cases h with | cons _ b => exact congrArg (· + 1) (ih b)
theorem RepL.get {vs : List V} {ds : List D} (h : RepL K cl ι F vs ds) {i : Nat} {d : D} (e : ds[i]? = some d) : ∃ v, vs[i]? = some v ∧ RepD K cl ι F v d := by
  induction ds generalizing vs i with
  | nil => cases e
  | cons d' ds ih =>
    cases h with
    | cons a b =>
      cases i with
      | zero => cases e; exact ⟨_, rfl, a⟩
      | succ i => exact ih b e
theorem RepL.getV {vs : List V} {ds : List D} (h : RepL K cl ι F vs ds) {i : Nat} {v : V} (e : vs[i]? = some v) : ∃ d, ds[i]? = some d ∧ RepD K cl ι F v d := by
  induction ds generalizing vs i with
  | nil => cases h; cases e
  | cons d' ds ih =>
    cases h with
    | cons a b =>
      cases i with
      | zero => cases e; exact ⟨_, rfl, a⟩
      | succ i => exact ih b e
theorem RepL.app {vs ws : List V} {ds es : List D} (h : RepL K cl ι F vs ds) (h2 : RepL K cl ι F ws es) : RepL K cl ι F (vs ++ ws) (ds ++ es) := by
  induction ds generalizing vs with
  | nil => cases h; exact h2
  | cons d ds ih => cases h with | cons a b => exact .cons a (ih b)
theorem RepL.take {vs : List V} {ds : List D} (h : RepL K cl ι F vs ds) (n : Nat) : RepL K cl ι F (vs.take n) (ds.take n) := by
  induction ds generalizing vs n with
  | nil => cases h; simp; exact .nil
  | cons d ds ih =>
    cases h with
    | cons a b =>
      cases n with
      | zero => exact .nil
      | succ n => exact .cons a (ih b n)
theorem RepL.drop {vs : List V} {ds : List D} (h : RepL K cl ι F vs ds) (n : Nat) : RepL K cl ι F (vs.drop n) (ds.drop n) := by
  induction ds generalizing vs n with
  | nil => cases h; simp; exact .nil
  | cons d ds ih =>
    cases h with
    | cons a b =>
      cases n with
      | zero => exact .cons a b
      | succ n => exact ih b n
theorem RepL.set {vs : List V} {ds : List D} (h : RepL K cl ι F vs ds) {v : V} {d : D} (r : RepD K cl ι F v d) (n : Nat) : RepL K cl ι F (vs.set n v) (ds.set n d) := by
  induction ds generalizing vs n with
  | nil => cases h; exact .nil
  | cons d ds ih =>
    cases h with
    | cons a b =>
      cases n with
      | zero => exact .cons r b
      | succ n => exact .cons a (ih b n)
theorem RepL.cut {vs : List V} {ds : List D} (h : RepL K cl ι F vs ds) (lo hi : Option Int) : RepL K cl ι F (cutV vs lo hi) (PI.cut ds lo hi) := by
  unfold cutV PI.cut
  rw [h.length]
  exact (h.drop _).take _
theorem RepL.dropLast {vs : List V} {ds : List D} (h : RepL K cl ι F vs ds) : RepL K cl ι F vs.dropLast ds.dropLast := by
  rw [List.dropLast_eq_take, List.dropLast_eq_take, h.length]
  exact h.take _
theorem RepL.atI {vs : List V} {ds : List D} (h : RepL K cl ι F vs ds) {i : Int} {d : D} (e : L2.atI ds i = some d) : ∃ v, L2.atI vs i = some v ∧ RepD K cl ι F v d := by
  unfold L2.atI at e ⊢
  rw [h.length]
  cases hj : ixN ds.length i with
  | none => rw [hj] at e; cases e
  | some j =>
    rw [hj] at e
    exact h.get e

/-! ### containers, views, results -/
def CtAt (K : PySem.W.Frag) (cl : String → Option Addr) (u : Wd) (a : Addr) : Ct → Prop
  | .lst xs => ∃ vs, u.H a = some (.lst vs) ∧ RepL K cl u.ι u.F vs xs
  | .dct _ => False
/-- from u to w the frozen stands, what may not change stands, the new is new -/
structure Grow (u w : Wd) : Prop where
  pre : Pre u.ι w.ι
  sF : Sub u.F w.F
  keep : ∀ a x, u.H a = some x → a ∉ u.μ → w.H a = some x
  new : ∀ a, w.F a ≠ none → u.F a ≠ none ∨ u.H a = none
  mu : ∀ a, a ∈ w.μ → a ∈ u.μ ∨ u.H a = none
  ms : ∀ a, a ∈ u.μ → a ∈ w.μ
  fre : ∀ a, w.H a = none → u.H a = none
theorem Grow.refl (u : Wd) : Grow u u := ⟨Pre.refl _, Sub.refl _, fun _ _ h _ => h, fun _ h => .inl h, fun _ h => .inl h, fun _ h => h, fun _ h => h⟩
theorem Grow.trans {u w z : Wd} (a : Grow u w) (b : Grow w z) : Grow u z where
  pre := a.pre.trans b.pre
  sF := a.sF.trans b.sF
  keep := fun c x h n => b.keep c x (a.keep c x h n) fun m => (a.mu c m).elim n fun z => by rw [h] at z; cases z
  new := fun c h => (b.new c h).elim (a.new c) fun z => .inr (a.fre c z)
  mu := fun c h => (b.mu c h).elim (a.mu c) fun z => .inr (a.fre c z)
  ms := fun c h => b.ms c (a.ms c h)
  fre := fun c h => a.fre c (b.fre c h)
theorem Grow.nmu {u w : Wd} (g : Grow u w) {a : Addr} {x : HO} (h : u.H a = some x) (n : a ∉ u.μ) : a ∉ w.μ := fun m =>
  (g.mu a m).elim n fun z => by rw [h] at z; cases z
theorem Grow.nF {u w : Wd} (g : Grow u w) {a : Addr} {x : HO} (h : u.H a = some x) (n : u.F a = none) : w.F a = none := by
  cases e : w.F a with
  | none => rfl
  | some y =>
    rcases g.new a (by rw [e]; simp) with z | z
    · exact absurd n z
    · rw [h] at z; cases z
/-- a value, or a container that nobody changes meanwhile -/
def VwD (K : PySem.W.Frag) (cl : String → Option Addr) (u : Wd) (v : V) (d : D) : Prop :=
  RepD K cl u.ι u.F v d ∨ ∃ (a : Addr) (c : Ct), v = .ref a ∧ d = c.toD ∧ a ∉ u.μ ∧ CtAt K cl u a c
theorem CtAt.mono {u w : Wd} (g : Grow u w) {a : Addr} {c : Ct} (n : a ∉ u.μ) (h : CtAt K cl u a c) : CtAt K cl w a c := by
  cases c with
  | lst xs =>
    obtain ⟨vs, h1, h2⟩ := h
    exact ⟨vs, g.keep _ _ h1 n, RepL.mono g.pre g.sF xs h2⟩
  | dct _ => exact h
theorem CtAt.thr {u : Wd} {a : Addr} {c : Ct} (h : CtAt K cl u a c) : ∃ x, u.H a = some x := by
  cases c with
  | lst xs =>
    obtain ⟨vs, h1, h2⟩ := h
    exact ⟨_, h1⟩
  | dct _ => exact h.elim
theorem VwD.mono {u w : Wd} (g : Grow u w) {v : V} {d : D} (h : VwD K cl u v d) : VwD K cl w v d := by
  rcases h with h | ⟨a, c, e1, e2, n, h⟩
  · exact .inl (RepD.mono g.pre g.sF d h)
  · obtain ⟨x, hx⟩ := h.thr
    exact .inr ⟨a, c, e1, e2, g.nmu hx n, h.mono g n⟩
/-- a result, b: the state ahead of what gave it; env, σ: the slots -/
def RepR (K : PySem.W.Frag) (cl : String → Option Addr) (b u : Wd) (env : Sl) (σ : St) (v : V) : Rv → Prop
  | .val d => RepD K cl u.ι u.F v d
  | .own c => ∃ a : Addr, v = V.ref a ∧ u.F a = none ∧ a ∉ u.μ ∧ b.H a = none ∧ CtAt K cl u a c
  | .bor c => ∃ (a : Addr) (i : Nat), v = V.ref a ∧ σ[i]? = some (some (V.ref a)) ∧ env[i]? = some (some (Rv.own c)) ∧ a ∉ u.μ ∧ CtAt K cl u a c
theorem RepR.vw {b u : Wd} {env : Sl} {σ : St} {v : V} {r : Rv} (h : RepR K cl b u env σ v r) : VwD K cl u v r.vw := by
  cases r with
  | val d => exact .inl h
  | own c =>
    obtain ⟨a, e, _, n, _, h⟩ := h
    exact .inr ⟨a, c, e, rfl, n, h⟩
  | bor c =>
    obtain ⟨a, i, e, _, _, n, h⟩ := h
    exact .inr ⟨a, c, e, rfl, n, h⟩

/-! ### the slots and the store -/
def FldOk (K : PySem.W.Frag) (cl : String → Option Addr) (u : Wd) (fs : List (Str × V)) (gs : List (String × Rv)) : Prop :=
  fs.length ≤ gs.length ∧ ∀ f : String, match gs.lookup f with
    | some (.val d) => ∃ v, fs.lookup (f : Str) = some v ∧ RepD K cl u.ι u.F v d
    | some _ => False
    | none => fs.lookup (f : Str) = none
structure BaseOk (K : PySem.W.Frag) (cl : String → Option Addr) (u : Wd) (o : Ob) : Prop where
  sub : Sub u.F u.H
  len : o.length = u.ι.length
  ins : ∀ (n : Nat) (a : Addr) (I : Inst), u.ι[n]? = some a → o[n]? = some I → a ∈ u.μ ∧ u.F a = none ∧ ∃ (C dx : Addr) (fs : List (Str × V)), cl I.cls = some C ∧ u.H a = some (.ins C dx fs) ∧ FldOk K cl u fs I.fs
  mh : ∀ (a : Addr), a ∈ u.μ → ∃ y, u.H a = some y
  dis : ∀ (n m : Nat) (a : Addr), u.ι[n]? = some a → u.ι[m]? = some a → n = m
def SlOk (K : PySem.W.Frag) (cl : String → Option Addr) (B u : Wd) (σ : St) (i : Nat) : Option Rv → Prop
  | none => True
  | some (.val d) => ∃ v : V, σ[i]? = some (some v) ∧ RepD K cl u.ι u.F v d
  | some (.own c) => ∃ a : Addr, σ[i]? = some (some (V.ref a)) ∧ u.F a = none ∧ a ∉ u.μ ∧ B.H a = none ∧ CtAt K cl u a c
  | some (.bor _) => False
structure Rel (K : PySem.W.Frag) (cl : String → Option Addr) (B u : Wd) (env : Sl) (o : Ob) (σ : St) : Prop extends BaseOk K cl u o where
  sln : σ.length = env.length
  sl : ∀ (i : Nat) (r : Option Rv), env[i]? = some r → SlOk K cl B u σ i r
  apart : ∀ (i j : Nat) (c c' : Ct) (a : Addr), env[i]? = some (some (Rv.own c)) → env[j]? = some (some (Rv.own c')) → σ[i]? = some (some (V.ref a)) → σ[j]? = some (some (V.ref a)) → i = j
  grow : Grow B u
theorem SlOk.mono {B u w : Wd} {σ : St} {i : Nat} {r : Option Rv} (g : Grow u w) (h : SlOk K cl B u σ i r) : SlOk K cl B w σ i r := by
  match r, h with
  | none, _ => trivial
  | some (.val d), ⟨v, e, h⟩ => exact ⟨v, e, RepD.mono g.pre g.sF d h⟩
  | some (.own c), ⟨a, e, nF, n, bn, h⟩ =>
    obtain ⟨x, hx⟩ := h.thr
    exact ⟨a, e, g.nF hx nF, g.nmu hx n, bn, h.mono g n⟩
/-- the slots stand in a later world -/
theorem Rel.later {B u w : Wd} {env : Sl} {o o' : Ob} {σ : St} (r : Rel K cl B u env o σ) (g : Grow u w) (b : BaseOk K cl w o') : Rel K cl B w env o' σ :=
  { toBaseOk := b, sln := r.sln, sl := fun i x e => (r.sl i x e).mono g, apart := r.apart, grow := r.grow.trans g }

/-! ### new objects -/
/-- a new frozen object -/
def Wd.frz (u : Wd) (p : Addr) (x : HO) : Wd := { u with F := upd u.F p x, H := upd u.H p x }
/-- a new object of our own -/
def Wd.put (u : Wd) (p : Addr) (x : HO) : Wd := { u with H := upd u.H p x }
theorem BaseOk.fnone {u : Wd} {o : Ob} (b : BaseOk K cl u o) {p : Addr} (h : u.H p = none) : u.F p = none := by
  cases e : u.F p with
  | none => rfl
  | some x => rw [b.sub _ _ e] at h; cases h
theorem Grow.of_frz {u : Wd} {p : Addr} {x : HO} (h : u.H p = none) (hF : u.F p = none) : Grow u (u.frz p x) where
  pre := Pre.refl _
  sF := Sub.new hF
  keep := fun a y e _ => by show upd u.H p x a = _; rw [upd_ne (ne_of_none e h)]; exact e
  new := fun a e => by
    by_cases ha : a = p
    · subst ha; exact .inr h
    · have e' : upd u.F p x a ≠ none := e
      rw [upd_ne ha] at e'
      exact .inl e'
  mu := fun _ e => .inl e
  ms := fun _ e => e
  fre := fun a e => by
    by_cases ha : a = p
    · subst ha; exact h
    · have e' : upd u.H p x a = none := e
      rw [upd_ne ha] at e'
      exact e'
theorem Grow.of_put {u : Wd} {p : Addr} {x : HO} (h : u.H p = none) : Grow u (u.put p x) where
  pre := Pre.refl _
  sF := Sub.refl _
  keep := fun a y e _ => by show upd u.H p x a = _; rw [upd_ne (ne_of_none e h)]; exact e
  new := fun a e => .inl e
  mu := fun _ e => .inl e
  ms := fun _ e => e
  fre := fun a e => by
    by_cases ha : a = p
    · subst ha; exact h
    · have e' : upd u.H p x a = none := e
      rw [upd_ne ha] at e'
      exact e'
theorem FldOk.mono {u w : Wd} {fs : List (Str × V)} {gs : List (String × Rv)} (p : Pre u.ι w.ι) (s : Sub u.F w.F) (h : FldOk K cl u fs gs) : FldOk K cl w fs gs := by
  refine ⟨h.1, fun f => ?_⟩
  have q := h.2 f
  cases e : gs.lookup f with
  | none => rw [e] at q; exact q
  | some r =>
    rw [e] at q
    cases r with
    | val d => obtain ⟨v, e1, r⟩ := q; exact ⟨v, e1, RepD.mono p s d r⟩
    | own _ => exact q
    | bor _ => exact q
theorem BaseOk.frz {u : Wd} {o : Ob} (b : BaseOk K cl u o) {p : Addr} {x : HO} (h : u.H p = none) : BaseOk K cl (u.frz p x) o where
  sub := fun a y e => by
    show upd u.H p x a = _
    have e : upd u.F p x a = some y := e
    by_cases ha : a = p
    · subst ha; rw [upd_same] at e ⊢; exact e
    · rw [upd_ne ha] at e ⊢; exact b.sub a y e
  len := b.len
  ins := fun n a I e1 e2 => by
    obtain ⟨h1, h2, C, dx, fs, h3, h4, h5⟩ := b.ins n a I e1 e2
    have ne : a ≠ p := ne_of_none h4 h
    refine ⟨h1, ?_, C, dx, fs, h3, ?_, FldOk.mono (u := u) (Pre.refl _) (Sub.new (b.fnone h)) h5⟩
    · show upd u.F p x a = none; rw [upd_ne ne]; exact h2
    · show upd u.H p x a = _; rw [upd_ne ne]; exact h4
  mh := fun a ha => by
    obtain ⟨y, e⟩ := b.mh a ha
    exact ⟨y, by show upd u.H p x a = _; rw [upd_ne (ne_of_none e h)]; exact e⟩
  dis := b.dis
theorem BaseOk.put {u : Wd} {o : Ob} (b : BaseOk K cl u o) {p : Addr} {x : HO} (h : u.H p = none) : BaseOk K cl (u.put p x) o where
  sub := fun a y e => by
    have e' := b.sub a y e
    show upd u.H p x a = _
    rw [upd_ne (ne_of_none e' h)]; exact e'
  len := b.len
  ins := fun n a I e1 e2 => by
    obtain ⟨h1, h2, C, dx, fs, h3, h4, h5⟩ := b.ins n a I e1 e2
    have ne : a ≠ p := ne_of_none h4 h
    refine ⟨h1, h2, C, dx, fs, h3, ?_, h5⟩
    show upd u.H p x a = _; rw [upd_ne ne]; exact h4
  mh := fun a ha => by
    obtain ⟨y, e⟩ := b.mh a ha
    exact ⟨y, by show upd u.H p x a = _; rw [upd_ne (ne_of_none e h)]; exact e⟩
  dis := b.dis
/-- what was our own is frozen -/
def Wd.ice (u : Wd) (a : Addr) (x : HO) : Wd := { u with F := upd u.F a x }
theorem Grow.ice {b u : Wd} {a : Addr} {x : HO} (g : Grow b u) (hn : b.H a = none) (hF : u.F a = none) : Grow b (u.ice a x) where
  pre := g.pre
  sF := g.sF.trans (Sub.new hF)
  keep := g.keep
  new := fun c e => by
    by_cases hc : c = a
    · subst hc; exact .inr hn
    · have e' : upd u.F a x c ≠ none := e
      rw [upd_ne hc] at e'
      exact g.new c e'
  mu := g.mu
  ms := g.ms
  fre := g.fre
theorem BaseOk.ice {u : Wd} {o : Ob} (b : BaseOk K cl u o) {a : Addr} {x : HO} (h : u.H a = some x) (hF : u.F a = none) (hm : a ∉ u.μ) : BaseOk K cl (u.ice a x) o where
  sub := fun c y e => by
    have e : upd u.F a x c = some y := e
    by_cases hc : c = a
    · subst hc; rw [upd_same] at e; cases e; exact h
    · rw [upd_ne hc] at e; exact b.sub c y e
  len := b.len
  ins := fun n c I e1 e2 => by
    obtain ⟨h1, h2, C, dx, fs, h3, h4, h5⟩ := b.ins n c I e1 e2
    have ne : c ≠ a := fun z => hm (z ▸ h1)
    refine ⟨h1, ?_, C, dx, fs, h3, h4, FldOk.mono (u := u) (Pre.refl _) (Sub.new hF) h5⟩
    show upd u.F a x c = none; rw [upd_ne ne]; exact h2
  mh := b.mh
  dis := b.dis
/-- the frozen container is a value -/
theorem CtAt.frozen {u : Wd} {a : Addr} {c : Ct} (hF : u.F a = none) (h : CtAt K cl u a c) : ∃ x, u.H a = some x ∧ RepD K cl u.ι (upd u.F a x) (.ref a) c.toD := by
  cases c with
  | lst xs =>
    obtain ⟨vs, h1, h2⟩ := h
    exact ⟨_, h1, .lst (.inl (.inl upd_same)) (RepL.mono (Pre.refl _) (Sub.new hF) xs h2)⟩
  | dct _ => exact h.elim
/-- a result is made a value: where it is our own, it is frozen -/
theorem RepR.fz {B b u : Wd} {env : Sl} {o : Ob} {σ : St} {v : V} {r : Rv} {d : D} (R0 : Rel K cl B b env o σ) {o' : Ob} (R : Rel K cl B u env o' σ) (g : Grow b u) (h : RepR K cl b u env σ v r) (hz : r.fz = some d) :
    ∃ u', u'.H = u.H ∧ Grow b u' ∧ Rel K cl B u' env o' σ ∧ RepD K cl u'.ι u'.F v d ∧ (Pre u.ι u'.ι ∧ Sub u.F u'.F) := by
  cases r with
  | val d' =>
    cases hz
    exact ⟨u, rfl, g, R, h, Pre.refl _, Sub.refl _⟩
  | own c =>
    have hz' : c.toD = d := Option.some.inj hz
    obtain ⟨a, e, nF, n, bn, hc⟩ := h
    subst e
    subst hz'
    obtain ⟨x, hx, rp⟩ := hc.frozen nF
    refine ⟨u.ice a x, rfl, g.ice bn nF, ?_, rp, Pre.refl _, Sub.new nF⟩
    have b' := R.toBaseOk.ice hx nF n
    refine { toBaseOk := b', sln := R.sln, sl := fun i q e => ?_, apart := R.apart, grow := R.grow.ice (R0.grow.fre a bn) nF }
    have q0 := R.sl i q e
    match q, q0 with
    | none, _ => trivial
    | some (.val d), ⟨v, e, h⟩ => exact ⟨v, e, RepD.mono (Pre.refl _) (Sub.new nF) d h⟩
    | some (.own c2), ⟨a2, e2, nF2, n2, bn2, h2⟩ =>
      have ne : a2 ≠ a := fun z => by
        subst z
        obtain ⟨a3, e3, _, _, _, h3⟩ := R0.sl i _ e
        rw [e2] at e3
        cases e3
        obtain ⟨y, hy⟩ := h3.thr
        rw [bn] at hy
        cases hy
      refine ⟨a2, e2, ?_, n2, bn2, ?_⟩
      · show upd u.F a x a2 = none; rw [upd_ne ne]; exact nF2
      · cases c2 with
        | lst ys =>
          obtain ⟨vs, h4, h5⟩ := h2
          exact ⟨vs, h4, RepL.mono (Pre.refl _) (Sub.new nF) ys h5⟩
        | dct _ => exact h2.elim
  | bor c => cases hz
end
end PI

namespace PI
open PySem PySem.Spec PyProof.Rows L2 HT
section
variable {K : PySem.W.Frag} {cl : String → Option Addr} {u : Wd} {v w : V}
theorem VwD.non (h : VwD K cl u v .non) : v = .non := by
  rcases h with h | ⟨a, c, _, e, _⟩
  · cases h; rfl
  · cases c <;> cases e
theorem VwD.bl {b : Bool} (h : VwD K cl u v (.bl b)) : v = .bl b := by
  rcases h with h | ⟨a, c, _, e, _⟩
  · cases h; rfl
  · cases c <;> cases e
theorem VwD.int {i : Int} (h : VwD K cl u v (.int i)) : v = .int i := by
  rcases h with h | ⟨a, c, _, e, _⟩
  · cases h; rfl
  · cases c <;> cases e
theorem VwD.str {s : List Nat} (h : VwD K cl u v (.str s)) : v = .str (S s) := by
  rcases h with h | ⟨a, c, _, e, _⟩
  · cases h; rfl
  · cases c <;> cases e
theorem VwD.typ {n : String} (h : VwD K cl u v (.typ n)) : v = .ty n := by
  rcases h with h | ⟨a, c, _, e, _⟩
  · cases h; rfl
  · cases c <;> cases e
theorem VwD.cls {n : String} (h : VwD K cl u v (.cls n)) : ∃ a, v = .ref a ∧ cl n = some a := by
  rcases h with h | ⟨a, c, _, e, _⟩
  · cases h with | cls h => exact ⟨_, rfl, h⟩
  · cases c <;> cases e
theorem VwD.obj {n : Nat} (h : VwD K cl u v (.obj n)) : ∃ a, v = .ref a ∧ u.ι[n]? = some a := by
  rcases h with h | ⟨a, c, _, e, _⟩
  · cases h with | obj h => exact ⟨_, rfl, h⟩
  · cases c <;> cases e
theorem VwD.tup {xs : List D} (h : VwD K cl u v (.tup xs)) : ∃ a vs, v = .ref a ∧ SqT K u.F a vs ∧ RepL K cl u.ι u.F vs xs := by
  rcases h with h | ⟨a, c, _, e, _⟩
  · cases h with | tup h1 h2 => exact ⟨_, _, rfl, h1, h2⟩
  · cases c <;> cases e
theorem VwD.lst {xs : List D} (s : Sub u.F u.H) (h : VwD K cl u v (.lst xs)) : ∃ a vs, v = .ref a ∧ SqL K u.H a vs ∧ RepL K cl u.ι u.F vs xs := by
  rcases h with h | ⟨a, c, e1, e, _, hc⟩
  · cases h with | lst h1 h2 => exact ⟨_, _, rfl, s.sl h1, h2⟩
  · cases c with
    | lst ys =>
      cases e
      obtain ⟨vs, h1, h2⟩ := hc
      exact ⟨a, vs, e1, .inl (.inl h1), h2⟩
    | dct _ => cases e
theorem VwD.of {d : D} (h : RepD K cl u.ι u.F v d) : VwD K cl u v d := .inl h

/-! ### == at any depth -/
mutual
theorem toPy_eqv : ∀ x y : D, PyData.eqv (toPy x) (toPy y) = eqD x y
  | .non, y => by cases y <;> simp [toPy, PyData.eqv, eqD]
  | .bl _, y => by cases y <;> simp [toPy, PyData.eqv, eqD]
  | .int _, y => by cases y <;> simp [toPy, PyData.eqv, eqD]
  | .str s, y => by
    cases y <;> simp [toPy, PyData.eqv, eqD]
    rename_i t
    rw [Bool.eq_iff_iff]
    simp
  | .tup xs, y => by cases y <;> simp [toPy, PyData.eqv, eqD, toPys_eqv xs]
  | .lst xs, y => by cases y <;> simp [toPy, PyData.eqv, eqD, toPys_eqv xs]
  | .dct _, y => by cases y <;> simp [toPy, PyData.eqv, eqD]
  | .obj _, y => by cases y <;> simp [toPy, PyData.eqv, eqD]
  | .exc _ _, y => by cases y <;> simp [toPy, PyData.eqv, eqD]
  | .typ _, y => by cases y <;> simp [toPy, PyData.eqv, eqD]
  | .cls _, y => by cases y <;> simp [toPy, PyData.eqv, eqD]
theorem toPys_eqv : ∀ xs ys : List D, PyData.eqvAll (toPys xs) (toPys ys) = eqDs xs ys
  | [], ys => by cases ys <;> simp [toPys, PyData.eqvAll, eqDs]
  | x :: xs, ys => by
    cases ys with
    | nil => simp [toPys, PyData.eqvAll, eqDs]
    | cons y ys => simp [toPys, PyData.eqvAll, eqDs, toPy_eqv x y, toPys_eqv xs ys]
end
mutual
theorem okD_lay : ∀ (n : Nat) (x : D), okD n x = true → (toPy x).canLay0 = true ∧ (toPy x).depth ≤ n
  | _, .non, _ => by simp [toPy, PyData.canLay0, PyData.depth]
  | _, .bl _, _ => by simp [toPy, PyData.canLay0, PyData.depth]
  | _, .int _, _ => by simp [toPy, PyData.canLay0, PyData.depth]
  | n, .str s, h => by
    have h' : s.all (· < 0x110000) = true := by cases n <;> simpa [okD] using h
    simpa [toPy, PyData.canLay0, PyData.depth, PyData.strOk] using h'
  | 0, .tup xs, h => by simp [okD] at h
  | n + 1, .tup xs, h => by
    have := okDs_lay n xs (by simpa [okD] using h)
    simpa [toPy, PyData.canLay0, PyData.depth] using this
  | 0, .lst xs, h => by simp [okD] at h
  | n + 1, .lst xs, h => by
    have := okDs_lay n xs (by simpa [okD] using h)
    simpa [toPy, PyData.canLay0, PyData.depth] using this
  | n, .dct _, h => by cases n <;> simp [okD] at h
  | n, .obj _, h => by cases n <;> simp [okD] at h
  | n, .exc _ _, h => by cases n <;> simp [okD] at h
  | n, .typ _, h => by cases n <;> simp [okD] at h
  | n, .cls _, h => by cases n <;> simp [okD] at h
theorem okDs_lay : ∀ (n : Nat) (xs : List D), okDs n xs = true → PyData.canLayAll0 (toPys xs) = true ∧ PyData.depthAll (toPys xs) ≤ n
  | _, [], _ => by simp [toPys, PyData.canLayAll0, PyData.depthAll]
  | n, x :: xs, h => by
    have h' : okD n x = true ∧ okDs n xs = true := by simpa [okDs] using h
    obtain ⟨a1, a2⟩ := okD_lay n x h'.1
    obtain ⟨b1, b2⟩ := okDs_lay n xs h'.2
    refine ⟨by simp [toPys, PyData.canLayAll0, a1, b1], ?_⟩
    simp only [toPys, PyData.depthAll]
    omega
end
theorem okD_shaped {x : D} (h : okD 64 x = true) : SeqAt.shaped (toPy x) = true := by
  obtain ⟨a, b⟩ := okD_lay 64 x h
  unfold SeqAt.shaped
  rw [a, decide_eq_true b]
  rfl
theorem okDs_shaped {xs : List D} (h : okDs 63 xs = true) : SeqAt.shaped (.list (toPys xs)) = true := by
  obtain ⟨a, b⟩ := okDs_lay 63 xs h
  unfold SeqAt.shaped
  have h1 : (PyData.list (toPys xs)).canLay0 = true := by simpa [PyData.canLay0] using a
  have h2 : (PyData.list (toPys xs)).depth ≤ 64 := by simp only [PyData.depth]; omega
  rw [h1, decide_eq_true h2]
  rfl
mutual
theorem RepD.dp (s : Sub u.F u.H) : ∀ (n : Nat) (x : D) {v : V}, RepD K cl u.ι u.F v x → okD n x = true → Dp K u.H v (toPy x)
  | _, .non, _, h, _ => by cases h; exact .non
  | _, .bl _, _, h, _ => by cases h; exact .bl _
  | _, .int _, _, h, _ => by cases h; exact .int _
  | _, .str _, _, h, _ => by cases h; exact .str _
  | n, .tup xs, _, h, k => by
    cases h with
    | tup h1 h2 =>
      cases n with
      | zero => simp [okD] at k
      | succ n => exact .tup (s.st h1) (RepL.dp s n xs h2 (by simpa [okD] using k))
  | n, .lst xs, _, h, k => by
    cases h with
    | lst h1 h2 =>
      cases n with
      | zero => simp [okD] at k
      | succ n => exact .lst (s.sl h1) (RepL.dp s n xs h2 (by simpa [okD] using k))
  | n, .dct _, _, _, h => by cases n <;> simp [okD] at h
  | n, .obj _, _, _, h => by cases n <;> simp [okD] at h
  | n, .exc _ _, _, _, h => by cases n <;> simp [okD] at h
  | n, .typ _, _, _, h => by cases n <;> simp [okD] at h
  | n, .cls _, _, _, h => by cases n <;> simp [okD] at h
theorem RepL.dp (s : Sub u.F u.H) : ∀ (n : Nat) (xs : List D) {vs : List V}, RepL K cl u.ι u.F vs xs → okDs n xs = true → DpAll K u.H vs (toPys xs)
  | _, [], _, h, _ => by cases h; exact .nil
  | n, x :: xs, _, h, k => by
    have k' : okD n x = true ∧ okDs n xs = true := by simpa [okDs] using k
    cases h with
    | cons a b => exact .cons (RepD.dp s n x a k'.1) (RepL.dp s n xs b k'.2)
end
theorem VwD.dp {x : D} (s : Sub u.F u.H) (h : VwD K cl u v x) (k : okD 64 x = true) : Dp K u.H v (toPy x) := by
  rcases h with h | ⟨a, c, e1, e2, _, hc⟩
  · exact h.dp s 64 x k
  · subst e1 e2
    cases c with
    | lst xs =>
      obtain ⟨vs, h1, h2⟩ := hc
      exact .lst (.inl (.inl h1)) (h2.dp s 63 xs (by simpa [Ct.toD, okD] using k))
    | dct _ => exact hc.elim
theorem S_inj {s t : List Nat} : S s = S t ↔ s = t := by
  unfold S
  constructor
  · intro h
    have := congrArg Str.cps h
    simpa using this
  · intro h; rw [h]
theorem scal_eq {x y : D} (hv : VwD K cl u v x) (hw : VwD K cl u w y) (h : scalD x y = true) : L2.scal v w = true ∧ decide (v = w) = eqD x y := by
  cases x <;> cases y <;> first
    | (exfalso; simp [scalD] at h; done)
    | (first
        | (obtain rfl := hv.non) | (obtain rfl := hv.bl) | (obtain rfl := hv.int) | (obtain rfl := hv.str)
       first
        | (obtain rfl := hw.non) | (obtain rfl := hw.bl) | (obtain rfl := hw.int) | (obtain rfl := hw.str)
       refine ⟨rfl, ?_⟩
       first
         | rfl
         | (simp only [eqD]; done)
         | (simp only [eqD]; rw [Bool.eq_iff_iff]; simp [S_inj]; done))
theorem flat_eq {x : D} (hv : VwD K cl u v x) (h : flatD x = true) : flatV v = true := by
  cases x <;> first
    | (exfalso; simp [flatD] at h; done)
    | (first
        | (obtain rfl := hv.non) | (obtain rfl := hv.bl) | (obtain rfl := hv.int) | (obtain rfl := hv.str)
       rfl)
theorem flat_eqV {x y : D} (hv : VwD K cl u v x) (hw : VwD K cl u w y) (h : flatD x = true) (h2 : flatD y = true) : eqV v w = eqD x y := by
  cases x <;> first
    | (exfalso; simp [flatD] at h; done)
    | (cases y <;> first
        | (exfalso; simp [flatD] at h2; done)
        | (first
            | (obtain rfl := hv.non) | (obtain rfl := hv.bl) | (obtain rfl := hv.int) | (obtain rfl := hv.str)
           first
            | (obtain rfl := hw.non) | (obtain rfl := hw.bl) | (obtain rfl := hw.int) | (obtain rfl := hw.str)
           first
             | rfl
             | (simp only [eqD, eqV]; done)
             | (simp only [eqD, eqV]; rw [Bool.eq_iff_iff]; simp [S_inj]; done)))
theorem flats_eq {ys : List D} : ∀ {vs : List V}, RepL K cl u.ι u.F vs ys → ys.all flatD = true → vs.all flatV = true := by
  induction ys with
  | nil => intro vs h _; cases h; rfl
  | cons y ys ih =>
    intro vs h k
    have k' : flatD y = true ∧ ys.all flatD = true := by simpa using k
    cases h with
    | cons a b => simp [flat_eq (VwD.of (u := u) a) k'.1]; simpa using ih b k'.2
theorem flats_any {x : D} {ys : List D} (hv : VwD K cl u v x) (hx : flatD x = true) : ∀ {vs : List V}, RepL K cl u.ι u.F vs ys → ys.all flatD = true → inV v vs = ys.any fun y => eqD y x := by
  unfold inV
  induction ys with
  | nil => intro vs h _; cases h; rfl
  | cons y ys ih =>
    intro vs h k
    have k' : flatD y = true ∧ ys.all flatD = true := by simpa using k
    cases h with
    | cons a b =>
      simp only [List.any_cons]
      rw [ih b k'.2, flat_eqV (VwD.of (u := u) a) hv k'.1 hx]
theorem any_toPys {x : D} : ∀ ys : List D, (toPys ys).any (fun z => PyData.eqv z (toPy x)) = ys.any fun y => eqD y x
  | [] => rfl
  | y :: ys => by simp only [toPys, List.any_cons, toPy_eqv, any_toPys ys]
end

/-! ### operations by values -/
section
variable {X : Cx} {cl : String → Option Addr} {u : Wd} {o : Ob} {v w z : V} {x y : D} {r : Rv} {env : Sl} {σ : L2.St}
/-- what holds of a two-place operation by values -/
def VOp (X : Cx) (f : Value → Value → Sem Value) (x y : V) (H : Hp) (Q : VK) : Prop :=
  ∀ (pins : List (Addr × Obj)) (s : Shared) (σ : L2.St) (v u : Value), Inv X pins σ H s → RelV x v → RelV y u → wpAny (model X.prog X.w) X.A (f v u) (EP X pins σ Q) X.xe s
theorem op_univ {f : Value → Value → Sem Value} : OpR X f (VOp X f) := fun pins s σ _ _ _ v u _ I rx ry h => h pins s σ v u I rx ry
theorem VOp.of {f : Value → Value → Sem Value} {R : R2} (h : OpR X f R) {x y : V} {H : Hp} {Q : VK} (q : R x y H Q) : VOp X f x y H Q := fun pins s σ v u I rx ry => h pins s σ H x y v u Q I rx ry q
def VUn (X : Cx) (f : Value → Sem Value) (x : V) (H : Hp) (Q : VK) : Prop :=
  ∀ (pins : List (Addr × Obj)) (s : Shared) (σ : L2.St) (v : Value), Inv X pins σ H s → RelV x v → wpAny (model X.prog X.w) X.A (f v) (EP X pins σ Q) X.xe s
theorem un_univ {f : Value → Sem Value} : UnR X f (VUn X f) := fun pins s σ _ _ v _ I rx h => h pins s σ v I rx
theorem VUn.of {f : Value → Sem Value} {R : V → Hp → VK → Prop} (h : UnR X f R) {x : V} {H : Hp} {Q : VK} (q : R x H Q) : VUn X f x H Q := fun pins s σ v I rx => h pins s σ H x v Q I rx q
def VCall (X : Cx) (f : Value) (xs : List V) (H : Hp) (Q : VK) : Prop :=
  ∀ (pins : List (Addr × Obj)) (s : Shared) (σ : L2.St) (us : List Value), Inv X pins σ H s → Vals xs us → wpAny (model X.prog X.w) X.A (call f us) (EP X pins σ Q) X.xe s
theorem call_univ {f : Value} : CallR X f (VCall X f) := fun pins s σ _ _ us _ I r h => h pins s σ us I r
theorem VCall.of {f : Value} {R : List V → Hp → VK → Prop} (h : CallR X f R) {xs : List V} {H : Hp} {Q : VK} (q : R xs H Q) : VCall X f xs H Q := fun pins s σ us I r => h pins s σ H xs us Q I r q
def VIx (X : Cx) (x y : V) (H : Hp) (Q : VK) : Prop :=
  ∀ (value slice : Expr) (pins : List (Addr × Obj)) (s : Shared) (σ : L2.St) (v u : Value), Inv X pins σ H s → RelV x v → RelV y u →
    subscripted slice false v u = operate [v, u] (getItem v u) → wpAny (model X.prog X.w) X.A (subscriptTail value slice v u) (EP X pins σ Q) X.xe s
theorem ix_univ : IxR X (VIx X) := fun value slice pins s σ _ _ _ v u _ I rx ry h => h value slice pins s σ v u I rx ry
theorem VIx.of {R : R2} (h : IxR X R) {x y : V} {H : Hp} {Q : VK} (q : R x y H Q) : VIx X x y H Q := fun value slice pins s σ v u I rx ry => h value slice pins s σ H x y v u Q I rx ry q
def VSl (X : Cx) (x : V) (lo hi : Option Int) (H : Hp) (Q : VK) : Prop :=
  ∀ (pins : List (Addr × Obj)) (s : Shared) (σ : L2.St) (v vl vu : Value) (sl : Addr), Inv X pins σ H s → RelV x v → s.heap.IsSliceOf sl vl vu .none → IsPart vl lo → IsPart vu hi →
    ∃ T id, typeLookup (.type T) "__getitem__" = pure (some (.builtin id)) ∧ s.TypeIs v T ∧ wpAny (model X.prog X.w) X.A (getItem v (.ref sl)) (EP X pins σ Q) X.xe s
theorem sl_univ : SlR X (VSl X) := fun pins s σ _ _ v vl vu _ _ sl _ I rx hs pl pu h => h pins s σ v vl vu sl I rx hs pl pu
theorem VSl.of {R : V → Option Int → Option Int → Hp → VK → Prop} (h : SlR X R) {x : V} {lo hi : Option Int} {H : Hp} {Q : VK} (q : R x lo hi H Q) : VSl X x lo hi H Q :=
  fun pins s σ v vl vu sl I rx hs pl pu => h pins s σ H x v vl vu lo hi sl Q I rx hs pl pu q
def VTru (X : Cx) (x : V) (H : Hp) (Q : Bool → Hp → Prop) : Prop :=
  ∀ (pins : List (Addr × Obj)) (s : Shared) (σ : L2.St) (v : Value), Inv X pins σ H s → RelV x v → wpAny (model X.prog X.w) X.A (truthy v) (TP X pins σ Q) X.xe s

/-- list + list, whatever they are -/
theorem op_catL : OpR X (binaryOp .Add) (fun x y H Q => ∃ l b xs zs, x = .ref l ∧ y = .ref b ∧ SqL X.K H l xs ∧ SqL X.K H b zs ∧ xs.length + zs.length ≤ sizeLine ∧ ∀ p, H p = none → Q (.ref p) (upd H p (.lst (xs ++ zs)))) := by
  intro pins s σ H x y v u Q I rx ry h
  obtain ⟨l, b, xs, zs, rfl, rfl, hH, hB, hz, q⟩ := h
  cases rx
  cases ry
  obtain ⟨its, r, ⟨⟨cls, dd, data, sl⟩, n, ho, hc, hd0, hd⟩, _⟩ := I.list hH
  obtain ⟨its2, r2, ⟨⟨cls2, dd2, data2, sl2⟩, n2, ho2, hc2, hd02, hd2⟩, _⟩ := I.list hB
  simp only at hc hd0 hd hc2 hd02 hd2
  subst hc hd0 hd hc2 hd02 hd2
  have l1 := r.length
  have l2 := r2.length
  have ea : its.toArray ++ its2.toArray = (its ++ its2).toArray := by simp
  refine concat_meets ⟨_, ho, rfl⟩ ⟨_, ho2, rfl⟩ noFill_list_add seq_list_add PySem.F.slot_list_add PySem.F.entry_list_add (PySem.F.args_list_add_2 _ _)
    (list_addW l b its.toArray its2.toArray n n2 none none sl sl2 (by simp only [List.size_toArray]; omega)) ⟨ho, ho2, ?_⟩
  rw [ea]
  exact ⟨.ref _, _, I.lnew (t' := s.toks) (r.append r2) (by rw [List.length_append]; omega), rfl, q _ I.fresh⟩
/-- // by what is not too great -/
theorem op_fdivG : OpR X (binaryOp .FloorDiv) (rI (fun _ j => j ≠ 0 ∧ j.natAbs.log2 < 9000) fun i j => .int (i.fdiv j)) := opI fun _ _ _ _ _ _ _ hc q => floordiv_int hc.1 q (.inl (PyProof.noPylong_of_log2 hc.2))

/-- the end of an operation: some later world, a value there -/
abbrev Fin (K : PySem.W.Frag) (cl : String → Option Addr) (u : Wd) (o : Ob) (r : Rv) (Q : VK) : Prop := ∀ z u', Grow u u' → BaseOk K cl u' o → RepR K cl u u' [] [] z r → Q z u'.H
theorem Fin.here {Q : VK} (b : BaseOk X.K cl u o) (q : Fin X.K cl u o r Q) (h : RepR X.K cl u u [] [] z r) : Q z u.H := q z u (Grow.refl u) b h
theorem Fin.tup {Q : VK} {vs : List V} {xs : List D} (b : BaseOk X.K cl u o) (q : Fin X.K cl u o (.val (.tup xs)) Q) (h : RepL X.K cl u.ι u.F vs xs) {p : Addr} (hp : u.H p = none) : Q (.ref p) (upd u.H p (.tup vs)) :=
  q _ (u.frz p (.tup vs)) (.of_frz hp (b.fnone hp)) (b.frz hp) (.tup (.inl (.inl upd_same)) (RepL.mono (Pre.refl _) (Sub.new (b.fnone hp)) xs h))
theorem Fin.lst {Q : VK} {vs : List V} {xs : List D} (b : BaseOk X.K cl u o) (q : Fin X.K cl u o (.own (.lst xs)) Q) (h : RepL X.K cl u.ι u.F vs xs) {p : Addr} (hp : u.H p = none) :
    Q (.ref p) (upd u.H p (.lst vs)) :=
  q _ (u.put p (.lst vs)) (.of_put hp) (b.put hp) ⟨p, rfl, b.fnone hp, (fun z => by obtain ⟨y, e⟩ := b.mh p z; rw [hp] at e; cases e), hp, vs, upd_same, h⟩
end
end PI

namespace PI
open PySem PySem.Spec PyProof.Rows L2 HT
section
variable {X : Cx} {cl : String → Option Addr} {u : Wd} {o : Ob} {v w z : V} {x y : D} {r : Rv} {Q : VK}
theorem S_app (s t : List Nat) : S s ++ S t = S (s ++ t) := by
  show Str.append (S s) (S t) = S (s ++ t)
  unfold Str.append S
  simp
theorem S_len (s : List Nat) : (S s).length = s.length := by
  unfold S Str.length
  simp
theorem S_of (z : Str) : S z.cps.toList = z := by unfold S; simp
theorem S_cps (s : List Nat) : (S s).cps.toList = s := by unfold S; simp
theorem Fin.str {t : Str} (b : BaseOk X.K cl u o) (q : Fin X.K cl u o (.val (.str t.cps.toList)) Q) : Q (.str t) u.H := by
  have h := Fin.here (z := .str (S t.cps.toList)) b q (RepD.str _)
  rw [S_of] at h
  exact h
theorem bin_ok {op : Operator} (b : BaseOk X.K cl u o) (hx : VwD X.K cl u v x) (hy : VwD X.K cl u w y) (e : binD op x y = some r) (q : Fin X.K cl u o r Q) : VOp X (binaryOp op) v w u.H Q := by
  unfold binD at e
  split at e
  · cases e; obtain rfl := hx.int; obtain rfl := hy.int
    exact .of op_add ⟨_, _, rfl, rfl, q.here b (.int _)⟩
  · split at e
    · rename_i s t hl
      cases e; obtain rfl := hx.str; obtain rfl := hy.str
      refine .of op_add_str ⟨_, _, rfl, rfl, by rw [S_len, S_len]; exact hl, ?_⟩
      rw [S_app]
      exact q.here b (.str _)
    · cases e
  · split at e
    · rename_i xs ys hl
      cases e
      obtain ⟨a, vs, rfl, h1, h2⟩ := hx.tup
      obtain ⟨a2, ws, rfl, h3, h4⟩ := hy.tup
      have l1 := h2.length
      have l2 := h4.length
      refine .of op_catA ⟨_, _, _, _, rfl, rfl, b.sub.st h1, b.sub.st h3, by omega, fun e => ?_, fun e1 e2 => ?_, fun _ _ p hp => q.tup b (h2.app h4) hp⟩
      · subst e
        have : xs = [] := by cases xs with | nil => rfl | cons _ _ => cases l1
        subst this
        exact q.here b (.tup h3 h4)
      · subst e2
        have : ys = [] := by cases ys with | nil => rfl | cons _ _ => cases l2
        subst this
        rw [List.append_nil] at q
        exact q.here b (.tup h1 h2)
    · cases e
  · split at e
    · rename_i xs ys hl
      cases e
      obtain ⟨a, vs, rfl, h1, h2⟩ := hx.lst b.sub
      obtain ⟨a2, ws, rfl, h3, h4⟩ := hy.lst b.sub
      have l1 := h2.length
      have l2 := h4.length
      exact .of op_catL ⟨_, _, _, _, rfl, rfl, h1, h3, by omega, fun p hp => q.lst b (h2.app h4) hp⟩
    · cases e
  · cases e; obtain rfl := hx.int; obtain rfl := hy.int
    exact .of op_sub ⟨_, _, rfl, rfl, q.here b (.int _)⟩
  · split at e
    · rename_i i j hl
      cases e; obtain rfl := hx.int; obtain rfl := hy.int
      exact .of op_mulX ⟨_, _, rfl, rfl, hl, q.here b (.int _)⟩
    · cases e
  · split at e
    · rename_i i j hl
      cases e; obtain rfl := hx.int; obtain rfl := hy.int
      exact .of op_fdivG ⟨_, _, rfl, rfl, hl, q.here b (.int _)⟩
    · cases e
  · split at e
    · rename_i i j hl
      cases e; obtain rfl := hx.int; obtain rfl := hy.int
      exact .of op_modN ⟨_, _, rfl, rfl, hl, q.here b (.int _)⟩
    · cases e
  · split at e
    · rename_i i j hl
      cases e; obtain rfl := hx.int; obtain rfl := hy.int
      exact .of op_pow ⟨_, _, rfl, rfl, hl, q.here b (.int _)⟩
    · cases e
  · cases e
theorem neg_ok (b : BaseOk X.K cl u o) (hx : VwD X.K cl u v x) (e : negD x = some r) (q : Fin X.K cl u o r Q) : VUn X (unaryOp .USub) v u.H Q := by
  unfold negD at e
  split at e
  · cases e; obtain rfl := hx.int
    exact .of un_neg ⟨_, rfl, q.here b (.int _)⟩
  · cases e
theorem VwD.ref_non (h : VwD X.K cl u v x) : decide (v = .non) = isNon x := by
  rcases h with h | ⟨a, c, e1, e2, _⟩
  · cases h <;> rfl
  · subst e1 e2
    cases c <;> rfl
theorem is_ok {k : Bool} (b : BaseOk X.K cl u o) (hx : VwD X.K cl u v x) (hy : VwD X.K cl u w y) (e : isD x y = some k) (q : Fin X.K cl u o (.val (.bl k)) Q) : VOp X (compareOp .Is) v w u.H Q := by
  unfold isD at e
  split at e
  · cases e
    obtain rfl := hy.non
    refine .of op_isN ⟨rfl, ?_⟩
    rw [hx.ref_non]
    exact q.here b (.bl _)
  · split at e
    · cases e
      obtain rfl := hy.bl
      obtain rfl := hx.bl
      exact .of op_isBl ⟨_, _, rfl, rfl, q.here b (.bl _)⟩
    · cases e
  · cases e
theorem isnot_ok {k : Bool} (b : BaseOk X.K cl u o) (hx : VwD X.K cl u v x) (hy : VwD X.K cl u w y) (e : isD x y = some k) (q : Fin X.K cl u o (.val (.bl (!k))) Q) : VOp X (compareOp .IsNot) v w u.H Q := by
  unfold isD at e
  split at e
  · cases e
    obtain rfl := hy.non
    refine .of op_notN ⟨rfl, ?_⟩
    rw [hx.ref_non]
    exact q.here b (.bl _)
  · split at e
    · cases e
      obtain rfl := hy.bl
      obtain rfl := hx.bl
      exact .of op_notBl ⟨_, _, rfl, rfl, q.here b (.bl _)⟩
    · cases e
  · cases e
theorem in_ok {k : Bool} (hu : X.A.units + 65 < cLine) (b : BaseOk X.K cl u o) (hx : VwD X.K cl u v x) (hy : VwD X.K cl u w y) (e : inD x y = some k) (q : Fin X.K cl u o (.val (.bl k)) Q) : VOp X (compareOp .In) v w u.H Q := by
  unfold inD at e
  split at e
  · split at e
    · obtain rfl := hx.str
      obtain rfl := hy.str
      split at e
      · cases e
        refine .of op_in_sign ⟨_, _, rfl, rfl, ?_⟩
        rw [S_cps]
        exact q.here b (.bl _)
      · cases e
        refine .of op_in_str ⟨_, _, rfl, rfl, ?_⟩
        rw [S_len]
        exact q.here b (.bl _)
    · cases e
  · rename_i ys
    obtain ⟨a, vs, rfl, h1, h2⟩ := hy.lst b.sub
    split at e
    · rename_i hf
      have hf' := Bool.and_eq_true_iff.mp hf
      cases e
      refine .of op_in_seq ⟨a, vs, rfl, .inl h1, flat_eq hx hf'.1, flats_eq h2 hf'.2, ?_⟩
      rw [if_neg Bool.false_ne_true, flats_any hx hf'.1 h2 hf'.2]
      exact q.here b (.bl _)
    · split at e
      · rename_i _ hf
        have hf' := Bool.and_eq_true_iff.mp hf
        cases e
        refine .of (op_inD hu) ⟨toPy x, toPys ys, hx.dp b.sub hf'.1, .lst h1 (h2.dp b.sub 63 ys hf'.2), okD_shaped hf'.1, okDs_shaped hf'.2, ?_⟩
        rw [any_toPys]
        exact q.here b (.bl _)
      · cases e
  · rename_i ys
    obtain ⟨a, vs, rfl, h1, h2⟩ := hy.tup
    split at e
    · rename_i hf
      have hf' := Bool.and_eq_true_iff.mp hf
      cases e
      refine .of op_in_seq ⟨a, vs, rfl, .inr (b.sub.st h1), flat_eq hx hf'.1, flats_eq h2 hf'.2, ?_⟩
      rw [if_neg Bool.false_ne_true, flats_any hx hf'.1 h2 hf'.2]
      exact q.here b (.bl _)
    · cases e
  · cases e
theorem notin_ok {k : Bool} (hu : X.A.units + 65 < cLine) (b : BaseOk X.K cl u o) (hx : VwD X.K cl u v x) (hy : VwD X.K cl u w y) (e : inD x y = some k) (q : Fin X.K cl u o (.val (.bl (!k))) Q) : VOp X (compareOp .NotIn) v w u.H Q := by
  unfold inD at e
  split at e
  · split at e
    · obtain rfl := hx.str
      obtain rfl := hy.str
      split at e
      · cases e
        refine .of op_notIn_sign ⟨_, _, rfl, rfl, ?_⟩
        rw [S_cps]
        exact q.here b (.bl _)
      · cases e
        refine .of op_notin_str ⟨_, _, rfl, rfl, ?_⟩
        rw [S_len]
        exact q.here b (.bl _)
    · cases e
  · rename_i ys
    obtain ⟨a, vs, rfl, h1, h2⟩ := hy.lst b.sub
    split at e
    · rename_i hf
      have hf' := Bool.and_eq_true_iff.mp hf
      cases e
      refine .of op_notIn_seq ⟨a, vs, rfl, .inl h1, flat_eq hx hf'.1, flats_eq h2 hf'.2, ?_⟩
      rw [if_pos rfl, flats_any hx hf'.1 h2 hf'.2]
      exact q.here b (.bl _)
    · split at e
      · rename_i _ hf
        have hf' := Bool.and_eq_true_iff.mp hf
        cases e
        refine .of (op_notInD hu) ⟨toPy x, toPys ys, hx.dp b.sub hf'.1, .lst h1 (h2.dp b.sub 63 ys hf'.2), okD_shaped hf'.1, okDs_shaped hf'.2, ?_⟩
        rw [any_toPys]
        exact q.here b (.bl _)
      · cases e
  · rename_i ys
    obtain ⟨a, vs, rfl, h1, h2⟩ := hy.tup
    split at e
    · rename_i hf
      have hf' := Bool.and_eq_true_iff.mp hf
      cases e
      refine .of op_notIn_seq ⟨a, vs, rfl, .inr (b.sub.st h1), flat_eq hx hf'.1, flats_eq h2 hf'.2, ?_⟩
      rw [if_pos rfl, flats_any hx hf'.1 h2 hf'.2]
      exact q.here b (.bl _)
    · cases e
  · cases e
theorem eq_ok (hu : X.A.units + 64 < cLine) (b : BaseOk X.K cl u o) (hx : VwD X.K cl u v x) (hy : VwD X.K cl u w y) (hk : (scalD x y || (okD 64 x && okD 64 y)) = true) (q : Fin X.K cl u o (.val (.bl (eqD x y))) Q) : VOp X (compareOp .Eq) v w u.H Q := by
  by_cases hs : scalD x y = true
  · obtain ⟨s1, s2⟩ := scal_eq hx hy hs
    refine .of op_eq ⟨s1, ?_⟩
    rw [s2]
    exact q.here b (.bl _)
  · rw [Bool.eq_false_iff.mpr hs, Bool.false_or] at hk
    have hk' := Bool.and_eq_true_iff.mp hk
    refine .of (op_eqD hu) ⟨toPy x, toPy y, hx.dp b.sub hk'.1, hy.dp b.sub hk'.2, okD_shaped hk'.1, okD_shaped hk'.2, ?_⟩
    rw [toPy_eqv]
    exact q.here b (.bl _)
theorem ne_ok (hu : X.A.units + 64 < cLine) (b : BaseOk X.K cl u o) (hx : VwD X.K cl u v x) (hy : VwD X.K cl u w y) (hk : (scalD x y || (okD 64 x && okD 64 y)) = true) (q : Fin X.K cl u o (.val (.bl (!eqD x y))) Q) : VOp X (compareOp .NotEq) v w u.H Q := by
  by_cases hs : scalD x y = true
  · obtain ⟨s1, s2⟩ := scal_eq hx hy hs
    refine .of op_ne ⟨s1, ?_⟩
    rw [s2]
    exact q.here b (.bl _)
  · rw [Bool.eq_false_iff.mpr hs, Bool.false_or] at hk
    have hk' := Bool.and_eq_true_iff.mp hk
    refine .of (op_neD hu) ⟨toPy x, toPy y, hx.dp b.sub hk'.1, hy.dp b.sub hk'.2, okD_shaped hk'.1, okD_shaped hk'.2, ?_⟩
    rw [toPy_eqv]
    exact q.here b (.bl _)
theorem cmp_ok {op : CmpOp} {k : Bool} (hu : X.A.units + 65 < cLine) (b : BaseOk X.K cl u o) (hx : VwD X.K cl u v x) (hy : VwD X.K cl u w y) (e : cmpD op x y = some k) (q : Fin X.K cl u o (.val (.bl k)) Q) : VOp X (compareOp op) v w u.H Q := by
  have hu' : X.A.units + 64 < cLine := by omega
  unfold cmpD at e
  split at e
  · split at e
    · rename_i hk
      cases e
      exact eq_ok hu' b hx hy hk q
    · cases e
  · split at e
    · rename_i hk
      cases e
      exact ne_ok hu' b hx hy hk q
    · cases e
  · cases e; obtain rfl := hx.int; obtain rfl := hy.int
    exact .of op_lt ⟨_, _, rfl, rfl, q.here b (.bl _)⟩
  · cases e; obtain rfl := hx.int; obtain rfl := hy.int
    exact .of op_le ⟨_, _, rfl, rfl, q.here b (.bl _)⟩
  · cases e; obtain rfl := hx.int; obtain rfl := hy.int
    exact .of op_gt ⟨_, _, rfl, rfl, q.here b (.bl _)⟩
  · cases e; obtain rfl := hx.int; obtain rfl := hy.int
    exact .of op_ge ⟨_, _, rfl, rfl, q.here b (.bl _)⟩
  · exact is_ok b hx hy e q
  · cases h : isD _ _ with
    | none => rw [h] at e; cases e
    | some m => rw [h] at e; cases e; exact isnot_ok b hx hy h q
  · exact in_ok hu b hx hy e q
  · cases h : inD _ _ with
    | none => rw [h] at e; cases e
    | some m => rw [h] at e; cases e; exact notin_ok hu b hx hy h q
  · cases e
/-- truth -/
theorem tru_v {K : PySem.W.Frag} {k : Bool} (s : Sub u.F u.H) (hx : VwD K cl u v x) (e : truD x = some k) : TruV K v u.H k := by
  unfold truD at e
  split at e
  · cases e; obtain rfl := hx.non; rfl
  · cases e; obtain rfl := hx.bl; rfl
  · cases e; obtain rfl := hx.int; rfl
  · split at e
    · rename_i t hl
      cases e; obtain rfl := hx.str
      refine ⟨by rw [S_len]; exact hl, ?_⟩
      rw [S_len]
      cases t with
      | nil => rfl
      | cons c t =>
        show true = _
        rw [eq_comm, bne_iff_ne]
        simp only [List.length_cons]
        omega
    · cases e
  · cases e
    obtain ⟨a, vs, rfl, h1, h2⟩ := hx.tup
    refine .inr (.inl ⟨vs, s.st h1, ?_⟩)
    have := h2.length
    rename_i xs
    cases xs <;> cases vs <;> first | rfl | (simp at this)
  · cases e
    obtain ⟨a, vs, rfl, h1, h2⟩ := hx.lst s
    refine .inl ⟨vs, h1, ?_⟩
    have := h2.length
    rename_i xs
    cases xs <;> cases vs <;> first | rfl | (simp at this)
  · cases e
/-- an item -/
theorem idx_ok {d : D} (b : BaseOk X.K cl u o) (hx : VwD X.K cl u v x) (hy : VwD X.K cl u w y) (e : idxD x y = some d) (q : Fin X.K cl u o (.val d) Q) : VIx X v w u.H Q := by
  unfold idxD at e
  split at e
  · obtain ⟨a, vs, rfl, h1, h2⟩ := hx.tup
    obtain rfl := hy.int
    obtain ⟨z, hz, rz⟩ := h2.atI e
    exact .of ix_tup ⟨_, _, _, _, rfl, rfl, b.sub.st h1, hz, q.here b rz⟩
  · obtain ⟨a, vs, rfl, h1, h2⟩ := hx.lst b.sub
    obtain rfl := hy.int
    obtain ⟨z, hz, rz⟩ := h2.atI e
    exact .of ix_list ⟨_, _, _, _, rfl, rfl, h1, hz, q.here b rz⟩
  · split at e
    · rename_i s i hl
      obtain rfl := hx.str
      obtain rfl := hy.int
      cases h : atI s i with
      | none => rw [h] at e; cases e
      | some c =>
        rw [h] at e
        cases e
        exact .of ix_str ⟨_, _, c, rfl, rfl, by rw [S_len]; exact hl, by rw [S_cps]; exact h, q.here b (.str [c])⟩
    · cases e
  · cases e
theorem cutS_S (s : List Nat) (lo hi : Option Int) : cutS (S s) lo hi = S (cut s lo hi) := by
  unfold cutS cut
  rw [S_cps, S_len]
  rfl
theorem slc_ok {lo hi : Option Int} (b : BaseOk X.K cl u o) (hx : VwD X.K cl u v x) (e : slcD x lo hi = some r) (q : Fin X.K cl u o r Q) : VSl X v lo hi u.H Q := by
  unfold slcD at e
  split at e
  · split at e
    · rename_i s _ _ hl
      cases e
      obtain rfl := hx.str
      refine .of sl_str ⟨_, rfl, by rw [S_len]; exact hl, ?_⟩
      rw [cutS_S]
      exact q.here b (.str _)
    · cases e
  · cases e
    obtain ⟨a, vs, rfl, h1, h2⟩ := hx.tup
    refine .of sl_tupA ⟨a, vs, rfl, b.sub.st h1, fun hw => ?_, fun _ p hp => q.tup b (h2.cut _ _) hp⟩
    rename_i xs
    have : cut xs lo hi = xs := by
      unfold cut
      rw [← h2.length, hw.1, hw.2, h2.length]
      simp
    rw [this] at q
    exact q.here b (.tup h1 h2)
  · cases e
    obtain ⟨a, vs, rfl, h1, h2⟩ := hx.lst b.sub
    exact .of sl_list ⟨a, vs, rfl, h1, fun p hp => q.lst b (h2.cut _ _) hp⟩
  · cases e

/-! ### built-in functions -/
inductive Vws (K : PySem.W.Frag) (cl : String → Option Addr) (u : Wd) : List V → List D → Prop
  | nil : Vws K cl u [] []
  | cons {v : V} {vs : List V} {d : D} {ds : List D} : VwD K cl u v d → Vws K cl u vs ds → Vws K cl u (v :: vs) (d :: ds)
theorem Vws.one {vs : List V} (h : Vws X.K cl u vs [x]) : ∃ v, vs = [v] ∧ VwD X.K cl u v x := by
  cases h with | cons a b => cases b; exact ⟨_, rfl, a⟩
theorem Vws.two {vs : List V} (h : Vws X.K cl u vs [x, y]) : ∃ v w, vs = [v, w] ∧ VwD X.K cl u v x ∧ VwD X.K cl u w y := by
  cases h with | cons a b => obtain ⟨w, rfl, h2⟩ := b.one; exact ⟨_, _, rfl, a, h2⟩
theorem Vws.mono {u w : Wd} (g : Grow u w) {K : PySem.W.Frag} {vs : List V} {ds : List D} (h : Vws K cl u vs ds) : Vws K cl w vs ds := by
  induction h with
  | nil => exact .nil
  | cons a _ ih => exact .cons (a.mono g) ih
theorem ty_lst {a : Addr} {vs : List V} {H : Hp} (h : SqL X.K H a vs) : TyX X.K H (.ref a) (.type "list") := by
  rcases h with (h | ⟨o, h⟩) | ⟨o, its, n, h, c, _⟩
  · exact .base (.lst h)
  · exact .base (.frz h)
  · exact .kList h c
theorem ty_tup {a : Addr} {vs : List V} {H : Hp} (h : SqT X.K H a vs) : TyX X.K H (.ref a) (.type "tuple") := by
  rcases h with (h | ⟨o, h⟩) | ⟨o, its, n, h, c, _⟩
  · exact .base (.tup h)
  · exact .fTuple h
  · exact .kTuple h c
theorem isi_ok {k : Bool} {T : String} (b : BaseOk X.K cl u o) (hx : VwD X.K cl u v x) (e : isiD x T = some k) : ∃ t, TyX X.K u.H v t ∧ PySem.W.kitOne X.K t (.type T) = some k := by
  unfold isiD at e
  split at e <;> cases e
  · obtain rfl := hx.bl; exact ⟨_, .base (.bl _), kit_ty (by decide +kernel)⟩
  · obtain rfl := hx.bl; exact ⟨_, .base (.bl _), kit_ty (by decide +kernel)⟩
  · obtain rfl := hx.int; exact ⟨_, .base (.int _), kit_ty (by decide +kernel)⟩
  · obtain rfl := hx.int; exact ⟨_, .base (.int _), kit_ty (by decide +kernel)⟩
  · obtain rfl := hx.str; exact ⟨_, .base (.str _), kit_ty (by decide +kernel)⟩
  · obtain ⟨a, vs, rfl, h1, h2⟩ := hx.tup; exact ⟨_, ty_tup (b.sub.st h1), kit_ty (by decide +kernel)⟩
  · obtain ⟨a, vs, rfl, h1, h2⟩ := hx.lst b.sub; exact ⟨_, ty_lst h1, kit_ty (by decide +kernel)⟩
  · obtain ⟨a, vs, rfl, h1, h2⟩ := hx.lst b.sub; exact ⟨_, ty_lst h1, kit_ty (by decide +kernel)⟩
  · obtain ⟨a, vs, rfl, h1, h2⟩ := hx.tup; exact ⟨_, ty_tup (b.sub.st h1), kit_ty (by decide +kernel)⟩
/-- what a built-in function's name holds -/
def bltV : String → Option Value
  | "len" => some (.builtin "len")
  | "abs" => some (.builtin "abs")
  | "isinstance" => some (.builtin "isinstance")
  | "int" => some (.type "int")
  | "str" => some (.type "str")
  | "list" => some (.type "list")
  | "tuple" => some (.type "tuple")
  | _ => none
theorem blt_ok {f : String} {fv : Value} {vs : List V} {ds : List D} (b : BaseOk X.K cl u o) (hx : Vws X.K cl u vs ds) (hf : bltV f = some fv) (e : bltD f ds = some r) (q : Fin X.K cl u o r Q) : VCall X fv vs u.H Q := by
  unfold bltD at e
  split at e
  · cases hf; obtain ⟨v, rfl, h⟩ := hx.one; obtain rfl := h.str
    split at e
    · rename_i s hl; cases e
      refine .of call_len_str ⟨_, rfl, by rw [S_len]; exact hl, ?_⟩
      rw [S_len]; exact q.here b (.int _)
    · cases e
  · cases hf; obtain ⟨v, rfl, h⟩ := hx.one; cases e
    obtain ⟨a, vs, rfl, h1, h2⟩ := h.tup
    refine .of call_len_seq ⟨_, _, rfl, .inr (b.sub.st h1), ?_⟩
    rw [h2.length]; exact q.here b (.int _)
  · cases hf; obtain ⟨v, rfl, h⟩ := hx.one; cases e
    obtain ⟨a, vs, rfl, h1, h2⟩ := h.lst b.sub
    refine .of call_len_seq ⟨_, _, rfl, .inl h1, ?_⟩
    rw [h2.length]; exact q.here b (.int _)
  · cases hf; obtain ⟨v, rfl, h⟩ := hx.one; cases e; obtain rfl := h.int
    exact .of call_abs ⟨_, rfl, q.here b (.int _)⟩
  · cases hf; obtain ⟨v, rfl, h⟩ := hx.one; cases e; obtain rfl := h.int
    exact .of call_int1 (.inl ⟨_, rfl, q.here b (.int _)⟩)
  · cases hf; obtain ⟨v, rfl, h⟩ := hx.one; obtain rfl := h.str
    split at e
    · rename_i s hl
      cases h : intText? (S s) with
      | none => rw [h] at e; cases e
      | some n =>
        rw [h] at e; cases e
        exact .of call_int_str ⟨_, n, rfl, h, by rw [S_len]; exact hl, q.here b (.int _)⟩
    · cases e
  · cases hf; obtain ⟨v, rfl, h⟩ := hx.one; obtain rfl := h.int
    split at e
    · rename_i i hl; cases e
      exact .of call_str_int ⟨_, rfl, hl, q.str b⟩
    · cases e
  · cases hf; obtain ⟨v, rfl, h⟩ := hx.one; cases e
    obtain ⟨a, vs, rfl, h1, h2⟩ := h.lst b.sub
    exact .of call_list_of ⟨_, _, rfl, .inl h1, fun p hp => q.lst b h2 hp⟩
  · cases hf; obtain ⟨v, rfl, h⟩ := hx.one; cases e
    obtain ⟨a, vs, rfl, h1, h2⟩ := h.tup
    exact .of call_list_of ⟨_, _, rfl, .inr (b.sub.st h1), fun p hp => q.lst b h2 hp⟩
  · cases hf; obtain ⟨v, rfl, h⟩ := hx.one; cases e
    obtain ⟨a, vs, rfl, h1, h2⟩ := h.lst b.sub
    exact .of call_tuple_of ⟨_, _, rfl, .inl ⟨h1, fun p hp => q.tup b h2 hp⟩⟩
  · cases hf; obtain ⟨v, rfl, h⟩ := hx.one; cases e
    obtain ⟨a, vs, rfl, h1, h2⟩ := h.tup
    exact .of call_tuple_of ⟨_, _, rfl, .inr ⟨b.sub.st h1, q.here b (.tup h1 h2)⟩⟩
  · cases hf; obtain ⟨v, w, rfl, h, hw⟩ := hx.two
    obtain rfl := hw.typ
    rename_i x T
    cases h2 : isiD x T with
    | none => rw [h2] at e; cases e
    | some k =>
      rw [h2] at e; cases e
      obtain ⟨t, ty, hk⟩ := isi_ok b h h2
      exact .of call_isi ⟨_, _, t, _, k, rfl, .ty T, ty, hk, q.here b (.bl _)⟩
  · cases e
end
end PI

namespace PI
open PySem PySem.Spec PyProof.Rows L2 HT

/-! ### what the rules ask of the syntax -/
/-- nothing with a meaning of its own where it stands -/
def okShape : Expr → Bool
  | .Starred _ _ => false
  | .Set _ _ _ => false
  | .SetComp _ _ _ _ => false
  | .DictComp _ _ _ _ _ => false
  | .Slice _ _ _ _ => false
  | _ => true
/-- its test is its value's truth -/
def okTest : Expr → Bool
  | .UnaryOp .Not _ _ => false
  | .BoolOp _ _ _ => false
  | .IfExp _ _ _ _ => false
  | .Compare _ _ _ _ => false
  | _ => true
def notLc : Expr → Bool
  | .ListComp _ _ _ _ => false
  | _ => true
def notCall0 : Expr → Bool
  | .Call (.Name _ _) [] [] _ => false
  | _ => true
theorem star_of {e : Expr} {es : List Expr} {env : Env} (h : okShape e = true) : starEach (e :: es) env = (false, eval e env) :: starEach es env := by
  cases e <;> first | rfl | (simp [okShape] at h; done)
theorem mark_of {op : CmpOp} {e : Expr} (h : okShape e = true) : behindInMarks op e = false := by
  cases e <;> first | rfl | (simp [okShape] at h; done)
theorem plainIx_of {e : Expr} (h : okShape e = true) : PlainIx e := by
  intro o i
  cases e <;> first | rfl | (simp [okShape] at h; done)
theorem fold_of {e : Expr} {env : Env} (h : okShape e = true) (x : Value) : foldedSetIterable e env x = pure x := by
  cases e <;> first | rfl | (simp [okShape] at h; done)
theorem test_of {e : Expr} {env : Env} (h : okTest e = true) (whole : Sem Value) : isTrue e env whole = (do let v ← whole; standAt e.pos; holding [v] (truthy v)) := by
  cases e <;> first
    | rfl
    | (rename_i op _ _; cases op <;> first | rfl | (simp [okTest] at h; done))
    | (simp [okTest] at h; done)
theorem swap_of {e : Expr} {t : Option Expr} {l : Nat} {env : Env} (h : okShape e = true) (h2 : notLc e = true) : swapsWith e t l env = pure false := by
  cases e <;> first | rfl | (simp [okShape] at h; done) | (simp [notLc] at h2; done)
theorem base_of {e : Expr} {f : Str} {env : Env} {whole : Sem Value} (h : notCall0 e = true) : attributeBase e f env whole = whole := by
  unfold attributeBase
  split
  · exact absurd h (by simp [notCall0])
  · rfl
theorem back_of {pos : Pos} {es : List Expr} {env : Env} (h : ∀ e ∈ es, okShape e = true) : (backTo pos (starEach es env)).any (·.1) = false := by
  induction es with
  | nil => rfl
  | cons e es ih =>
    rw [star_of (h e (List.mem_cons_self ..))]
    show (false || (backTo pos (starEach es env)).any (·.1)) = false
    rw [ih fun x hx => h x (List.mem_cons_of_mem _ hx)]
    rfl

/-! ### the trees of the text -/
inductive GK where
  | cst (d : D) | fn (f : String) (lo hi : Nat) | cls (C : String) | exc (C : String) | blt
structure CC where
  N : List Str
  sc : List (Str × NameKind)
  gl : List (Str × GK)
def visB (c : CC) (x : Str) : Bool := match c.sc.lookup x with
  | some .local => true
  | some .cell => true
  | some .free => true
  | _ => false
def dbgB (x : Str) : Bool := !(x == ("__debug__" : Str)) && !(x == ("__classdict__" : Str)) && !(x == ("__name__" : Str))
def glbB (c : CC) (x : Str) : Bool := (match c.sc.lookup x with | some .globalImplicit => true | _ => false) && dbgB x
def CC.blk (c : CC) (scope : Scope) : CC := { c with sc := scope.names }
def dumS (c : CC) : Scope := { kind := .function, names := c.sc, isGenerator := false, isCoroutine := false }
/-- a method of a built-in type that the evaluator has: the type, the function -/
def mthT : String → Option (String × String)
  | "find" => some ("str", "str.find")
  | "rfind" => some ("str", "str.rfind")
  | "count" => some ("str", "str.count")
  | "split" => some ("str", "str.split")
  | "join" => some ("str", "str.join")
  | _ => none
inductive CTs : CC → List Expr → List Nat → Prop
  | nil {c} : CTs c [] []
  | cons {c i x p es is} (hN : c.N[i]? = some x) (hl : c.sc.lookup x = some .local ∨ c.sc.lookup x = some .cell) (hs : CTs c es is) : CTs c (.Name x p :: es) (i :: is)
/-- names that are stored -/
inductive CT : CC → Expr → Tg → Prop
  | one {c i x p} (hN : c.N[i]? = some x) (hl : c.sc.lookup x = some .local ∨ c.sc.lookup x = some .cell) : CT c (.Name x p) (.one i)
  | many {c es is k p} (h : CTs c es is) (hn : is.Nodup) : CT c (.Tuple es k p) (.many is)
def isRng : Ex → Bool
  | .rng _ => true
  | _ => false
mutual
inductive CE : CC → Expr → Ex → Prop
  | int {c i k p} : CE c (.Constant (.int i) k p) (.cst (.int i))
  | bl {c b k p} : CE c (.Constant (.bool b) k p) (.cst (.bl b))
  | non {c k p} : CE c (.Constant .none k p) (.cst .non)
  | str {c x k p} : CE c (.Constant (.str x) k p) (.cst (.str x.cps.toList))
  | var {c i x p} (hN : c.N[i]? = some x) (hv : visB c x = true) (hd : dbgB x = true) : CE c (.Name x p) (.var i)
  | glb {c d x p} (hg : glbB c x = true) (hl : c.gl.lookup x = some (.cst d)) : CE c (.Name x p) (.cst d)
  | cls {c C x p} (hg : glbB c x = true) (hl : c.gl.lookup x = some (.cls C) ∨ c.gl.lookup x = some (.exc C)) : CE c (.Name x p) (.cst (.cls C))
  | typ {c x p} {T : String} (hg : glbB c x = true) (hl : c.gl.lookup x = some .blt) (hx : x = Str.ofString T) (hb : bootBuiltins x = some (.type T)) : CE c (.Name x p) (.cst (.typ T))
  | bin {c op a b a' b' p} (ha : CE c a a') (hb : CE c b b') : CE c (.BinOp a op b p) (.bin op a' b')
  | neg {c a a' p} (ha : CE c a a') : CE c (.UnaryOp .USub a p) (.neg a')
  | not {c a a' p} (ha : CE c a a') : CE c (.UnaryOp .Not a p) (.not a')
  | cmp {c op a b a' b' p} (ha : CE c a a') (hb : CE c b b') : CE c (.Compare a [op] [b] p) (.cmp op a' b')
  | chn {c op oq a b d a' b' d' p} (ha : CE c a a') (hb : CE c b b') (hd : CE c d d') : CE c (.Compare a [op, oq] [b, d] p) (.chn op oq a' b' d')
  | one {c op a a' p} (ha : CE c a a') : CE c (.BoolOp op [a] p) a'
  | and {c a b r a' b' p} (ha : CE c a a') (hb : CE c (.BoolOp .And (b :: r) p) b') : CE c (.BoolOp .And (a :: b :: r) p) (.and a' b')
  | or {c a b r a' b' p} (ha : CE c a a') (hb : CE c (.BoolOp .Or (b :: r) p) b') : CE c (.BoolOp .Or (a :: b :: r) p) (.or a' b')
  | ife {c t a b t' a' b' p} (ht : CE c t t') (ha : CE c a a') (hb : CE c b b') : CE c (.IfExp t a b p) (.ife t' a' b')
  | tup {c es es' k p} (h : CEs c es es') : CE c (.Tuple es k p) (.tup es')
  | lst {c es es' p} (h : CEs c es es') : CE c (.List es p) (.lst es')
  | idx {c a i a' i' p} (ha : CE c a a') (hi : CE c i i') : CE c (.Subscript a i p) (.idx a' i')
  | slc {c a lo hi a' l h lo' hi' p p2} (ha : CE c a a') (hl : CEo c lo l lo') (hh : CEo c hi h hi') : CE c (.Subscript a (.Slice lo hi none p2) p) (.slc a' l h lo' hi')
  | call {c f lo hi x es es' p p2} (hg : glbB c x = true) (hl : c.gl.lookup x = some (.fn f lo hi)) (h1 : lo ≤ es.length) (h2 : es.length ≤ hi) (h : CEs c es es') : CE c (.Call (.Name x p) es [] p2) (.call f es')
  | blt {c fv x e es es' p p2} {f : String} (hg : glbB c x = true) (hl : c.gl.lookup x = some .blt) (hx : x = Str.ofString f) (hf : bltV f = some fv) (hb : bootBuiltins x = some fv) (h : CEs c (e :: es) es') : CE c (.Call (.Name x p) (e :: es) [] p2) (.blt f es')
  | mth {c x o o' e es es' p p2} {m T id : String} (hx : x = Str.ofString m) (hm : mthT m = some (T, id)) (ho : CE c o o') (h0 : notCall0 o = true) (h : CEs c (e :: es) es') (hl : (p.endLine == p2.line) = true) (hf : (e :: es).length < 30) :
      CE c (.Call (.Attribute o x p) (e :: es) [] p2) (.mth m o' es')
  | comp {c elt tg iter ifs scope pos elt' t it cond own} (ht : CT (c.blk scope) tg t) (hi : CI c iter it) (hc : CIf (c.blk scope) ifs cond) (he : CE (c.blk scope) elt elt')
      (hb : blkC c.N (dumS c) scope own = true) (hw : tgIn t (own.map (·.2)) = true) : CE c (.ListComp elt [⟨tg, iter, ifs, 0⟩] scope pos) (.comp elt' t it cond (own.map (·.2)))
inductive CEs : CC → List Expr → List Ex → Prop
  | nil {c} : CEs c [] []
  | cons {c e e' es es'} (h : CE c e e') (hs : CEs c es es') : CEs c (e :: es) (e' :: es')
inductive CEo : CC → Option Expr → Bool → Ex → Prop
  | none {c} : CEo c none false (.cst .non)
  | some {c e e'} (h : CE c e e') : CEo c (some e) true e'
inductive CIf : CC → List Expr → Ex → Prop
  | nil {c} : CIf c [] (.cst (.bl true))
  | one {c e e'} (h : CE c e e') : CIf c [e] e'
/-- what is walked -/
inductive CI : CC → Expr → Ex → Prop
  | rng1 {c x a a' p p2} (hg : glbB c x = true) (hx : x = ("range" : Str)) (hl : c.gl.lookup x = some .blt) (ha : CE c a a') : CI c (.Call (.Name x p) [a] [] p2) (.rng [a'])
  | rng2 {c x a b a' b' p p2} (hg : glbB c x = true) (hx : x = ("range" : Str)) (hl : c.gl.lookup x = some .blt) (ha : CE c a a') (hb : CE c b b') : CI c (.Call (.Name x p) [a, b] [] p2) (.rng [a', b'])
  | seq {c e e'} (h : CE c e e') (hr : isRng e' = false) : CI c e e'
end
end PI

namespace PI
open PySem PySem.Spec PyProof.Rows L2 HT

/-! ### what a def promises -/
/-- an exception of the text's own, its fields in its dict -/
def XnAt (K : PySem.W.Frag) (cl : String → Option Addr) (u : Wd) (x : Xn) (c : Value) (d : Option Addr) : Prop :=
  ∃ C : Addr, cl x.cls = some C ∧ c = Value.ref C ∧ ((x.fs = [] ∧ d = none) ∨ ∃ (dx : Addr) (fs : List (Str × V)), d = some dx ∧ u.F dx = some (.xd fs) ∧ ∀ q ∈ x.fs, ∃ v : V, fs.lookup (Str.ofString q.1) = some v ∧ RepD K cl u.ι u.F v q.2)
def PostF (K : PySem.W.Frag) (cl : String → Option Addr) (b : Wd) (Q : VK) (E : XK) : Res Rv → Prop
  | .ok r o' => ∀ v u', Grow b u' → BaseOk K cl u' o' → RepR K cl b u' [] [] v r → Q v u'.H
  | .exn x o' => ∀ c d u', Grow b u' → BaseOk K cl u' o' → XnAt K cl u' x c d → E c d u'.H
  | .stuck => False
def spF (K : PySem.W.Frag) (cl : String → Option Addr) (T : Tab) (n : Nat) (f : String) : Sp := fun vs H Q E => ∃ (fd : Fn) (u : Wd) (o : Ob) (ds : List D),
  T.fn f = some fd ∧ ds.length = fd.npar ∧ u.H = H ∧ BaseOk K cl u o ∧ RepL K cl u.ι u.F vs ds ∧ PostF K cl u Q E (callF T n f ds o)
abbrev noHp : Hp := fun _ => none
/-- a def stands at a and keeps its promise -/
structure DefAt (P : Program) (w : World) (K : PySem.W.Frag) (mg : Str → Option Value) (base : Heap) (cl : String → Option Addr) (T : Tab) (n : Nat) (f : String) (fd : Fn) (a : Addr) (fdt : FuncData) (ps : List Str) : Prop where
  kp : PySem.W.keepIn K (.ref a) = true
  ok : FnOk P w K mg base (L2.CX P w) n a fdt ps (spF K cl T n f)
  len : ps.length = fd.npar
  bd : ∀ m, m ≤ fd.npar → fd.npar ≤ m + fd.dfl.length → ∃ (dvs : List V) (ds : List Value), RepL K cl [] noHp dvs (fd.dfl.drop (fd.dfl.length - (fd.npar - m))) ∧ Vals dvs ds ∧ Binds K fdt ps ds
structure GlOk (P : Program) (w : World) (K : PySem.W.Frag) (mg : Str → Option Value) (base : Heap) (cl : String → Option Addr) (T : Tab) (n : Nat) (gl : List (Str × GK)) : Prop where
  cst : ∀ x d, gl.lookup x = some (.cst d) → ∃ u v, mg x = some u ∧ RelV v u ∧ RepD K cl [] noHp v d
  blt : ∀ x, gl.lookup x = some .blt → mg x = none
  cls : ∀ x C, gl.lookup x = some (.cls C) ∨ gl.lookup x = some (.exc C) → ∃ a, mg x = some (.ref a) ∧ cl C = some a
  fn : ∀ x f lo hi, gl.lookup x = some (.fn f lo hi) → ∃ fd a fdt ps, T.fn f = some fd ∧ hi ≤ fd.npar ∧ fd.npar ≤ lo + fd.dfl.length ∧ mg x = some (.ref a) ∧ DefAt P w K mg base cl T n f fd a fdt ps
structure CtxOk (cl : String → Option Addr) (T : Tab) (n : Nat) (c : CC) (W : WX) (X : Cx) : Prop where
  N : X.N = c.N
  nd : X.N.Nodup
  kd : X.env.scope.kind = .function
  nm : ∀ x k, c.sc.lookup x = some k → ∃ k', X.env.scope.names.lookup x = some k' ∧ (k' = k ∨ (k = .free ∧ k' = .cell))
  calm : X.calm = true
  fnl : ∀ x, (c.sc.lookup x = some .local ∨ c.sc.lookup x = some .cell) → X.fn x = true ∨ X.env.scope.names.lookup x = some .local
  room : Room n X.A
  tk : Takes X W
  gl : GlOk X.prog X.w X.K X.mg X.base cl T n c.gl
section
variable {cl : String → Option Addr} {T : Tab} {n : Nat} {c : CC} {W : WX} {X : Cx} {x : Str}
theorem CtxOk.vis (k : CtxOk cl T n c W X) (h : visB c x = true) : Vis X.env.scope x := by
  unfold visB at h
  cases e : c.sc.lookup x with
  | none => rw [e] at h; cases h
  | some q =>
    rw [e] at h
    obtain ⟨q', e1, e2⟩ := k.nm x q e
    unfold Vis
    cases q with
    | «local» => rcases e2 with rfl | ⟨z, _⟩; exact .inl e1; cases z
    | cell => rcases e2 with rfl | ⟨z, _⟩; exact .inr (.inl e1); cases z
    | free => rcases e2 with rfl | ⟨_, rfl⟩; exact .inr (.inr e1); exact .inr (.inl e1)
    | globalExplicit => cases h
    | globalImplicit => cases h
theorem dbg_of (h : dbgB x = true) : (x == ("__debug__" : Str)) = false ∧ (x == ("__classdict__" : Str)) = false ∧ x ≠ "__name__" := by
  unfold dbgB at h
  simp only [Bool.and_eq_true, Bool.not_eq_true'] at h
  exact ⟨h.1.1, h.1.2, fun z => by rw [z] at h; simp at h⟩
theorem CtxOk.glo (k : CtxOk cl T n c W X) (h : glbB c x = true) : Gl X x ∧ (x == ("__debug__" : Str)) = false ∧ x ≠ "__name__" := by
  unfold glbB at h
  obtain ⟨h1, h2⟩ := Bool.and_eq_true_iff.mp h
  obtain ⟨d1, d2, d3⟩ := dbg_of h2
  refine ⟨?_, d1, d3⟩
  cases e : c.sc.lookup x with
  | none => rw [e] at h1; cases h1
  | some q =>
    rw [e] at h1
    obtain ⟨q', e1, e2⟩ := k.nm x q e
    cases q with
    | globalImplicit => rcases e2 with rfl | ⟨z, _⟩; exact e1; cases z
    | «local» => cases h1
    | cell => cases h1
    | free => cases h1
    | globalExplicit => cases h1
theorem CtxOk.loc (k : CtxOk cl T n c W X) (h : c.sc.lookup x = some .local ∨ c.sc.lookup x = some .cell) : Loc X.env.scope x := by
  rcases h with h | h
  · obtain ⟨q', e1, e2⟩ := k.nm x _ h
    rcases e2 with rfl | ⟨z, _⟩
    · exact .inl e1
    · cases z
  · obtain ⟨q', e1, e2⟩ := k.nm x _ h
    rcases e2 with rfl | ⟨z, _⟩
    · exact .inr e1
    · cases z
theorem CtxOk.hu (k : CtxOk cl T n c W X) : X.A.units + 65 < cLine := by
  have := k.room.un
  omega
end

/-! ### results -/
section
variable {K : PySem.W.Frag} {cl : String → Option Addr} {B b u u' : Wd} {env : Sl} {σ : L2.St} {W : WX} {o o' : Ob} {v : V} {r : Rv} {Q Q1 : VK}
theorem RepR.lift (g : Grow b u) (h : RepR K cl u u' env σ v r) : RepR K cl b u' env σ v r := by
  cases r with
  | val d => exact h
  | own c =>
    obtain ⟨a, e, h1, h2, h3, h4⟩ := h
    exact ⟨a, e, h1, h2, g.fre a h3, h4⟩
  | bor c => exact h
theorem RepR.to (h : RepR K cl b u [] [] v r) : RepR K cl b u env σ v r := by
  cases r with
  | val d => exact h
  | own c => exact h
  | bor c => obtain ⟨a, i, _, e, _⟩ := h; cases e
def PostE (K : PySem.W.Frag) (cl : String → Option Addr) (B b : Wd) (env : Sl) (σ : L2.St) (W : WX) (Q : VK) : Res Rv → Prop
  | .ok r o' => ∀ v u', Grow b u' → Rel K cl B u' env o' σ → RepR K cl b u' env σ v r → Q v u'.H
  | .exn x o' => ∀ c d u', Grow b u' → Rel K cl B u' env o' σ → XnAt K cl u' x c d → W c d σ u'.H
  | .stuck => False
theorem PostE.rebase {res : Res Rv} (g : Grow b u) (h : PostE K cl B b env σ W Q res) : PostE K cl B u env σ W Q res := by
  cases res with
  | ok r o' => exact fun v u' g' R rp => h v u' (g.trans g') R (rp.lift g)
  | exn x o' => exact fun c d u' g' R xa => h c d u' (g.trans g') R xa
  | stuck => exact h
theorem PostE.bind {res : Res Rv} {f : Rv → Ob → Res Rv} (h : PostE K cl B b env σ W Q (res.bind f))
    (k : ∀ r o' v u', res = .ok r o' → Grow b u' → Rel K cl B u' env o' σ → RepR K cl b u' env σ v r → PostE K cl B u' env σ W Q (f r o') → Q1 v u'.H) : PostE K cl B b env σ W Q1 res := by
  cases res with
  | ok r o' => exact fun v u' g R rp => k r o' v u' rfl g R rp (PostE.rebase g h)
  | exn x o' => exact h
  | stuck => exact h
theorem PostE.of_opt {α : Type} {x : Option α} {f : α → Ob → Res Rv} (h : PostE K cl B b env σ W Q ((opt x o).bind f)) : ∃ a, x = some a ∧ PostE K cl B b env σ W Q (f a o) := by
  cases x with
  | none => exact h.elim
  | some a => exact ⟨a, rfl, h⟩
theorem PostE.of_opt0 {x : Option Rv} (h : PostE K cl B b env σ W Q (opt x o)) : ∃ a, x = some a ∧ PostE K cl B b env σ W Q (.ok a o) := by
  cases x with
  | none => exact h.elim
  | some a => exact ⟨a, rfl, h⟩
theorem PostE.of_if {p : Prop} [Decidable p] {f : Res Rv} (h : PostE K cl B b env σ W Q (if p then f else .stuck)) : p ∧ PostE K cl B b env σ W Q f := by
  by_cases hp : p
  · rw [if_pos hp] at h; exact ⟨hp, h⟩
  · rw [if_neg hp] at h; exact h.elim
/-- the end by an operation by values -/
theorem PostE.fin (R : Rel K cl B b env o σ) (h : PostE K cl B b env σ W Q (.ok r o)) : Fin K cl b o r Q := fun z u' g bo rp => h z u' g (R.later g bo) rp.to
end

/-! ### what a piece of syntax does -/
section
variable (cl : String → Option Addr) (T : Tab) (n : Nat)
def WE (X : Cx) (e : Expr) : TE := fun σ H Q => ∀ (pins : List (Addr × Obj)) (s : Shared), Inv X pins σ H s → wpAny (model X.prog X.w) X.A (eval e X.env) (EP X pins σ Q) X.xe s
def WT (X : Cx) (e : Expr) : TT := fun σ H Q => ∀ (pins : List (Addr × Obj)) (s : Shared), Inv X pins σ H s → wpAny (model X.prog X.w) X.A (isTrue e X.env (eval e X.env)) (TP X pins σ Q) X.xe s
def WA (X : Cx) (es : List Expr) : TA := fun σ H Q => ∀ (pos : Pos) (pins : List (Addr × Obj)) (s : Shared), Inv X pins σ H s → wpAny (model X.prog X.w) X.A (spliced (backTo pos (starEach es X.env))) (AP X pins σ Q) X.xe s
theorem pe_self {X : Cx} (e : Expr) : PE X e (WE X e) := ⟨fun pins s _ _ _ I h => h pins s I⟩
theorem pt_self {X : Cx} (e : Expr) : PT X e (WT X e) := ⟨fun pins s _ _ _ I h => h pins s I⟩
theorem pa_self {X : Cx} (es : List Expr) : PA X es (WA X es) := ⟨fun pos pins s _ _ _ I h => h pos pins s I⟩
theorem WE.of {X : Cx} {e : Expr} {t : TE} (p : PE X e t) {σ : L2.St} {H : Hp} {Q : VK} (h : t σ H Q) : WE X e σ H Q := fun pins s I => p.run pins s σ H Q I h
theorem WT.of {X : Cx} {e : Expr} {t : TT} (p : PT X e t) {σ : L2.St} {H : Hp} {Q : Bool → Hp → Prop} (h : t σ H Q) : WT X e σ H Q := fun pins s I => p.run pins s σ H Q I h
theorem WA.of {X : Cx} {es : List Expr} {t : TA} (p : PA X es t) {σ : L2.St} {H : Hp} {Q : List V → Hp → Prop} (h : t σ H Q) : WA X es σ H Q := fun pos pins s I => p.run pos pins s σ H Q I h

def Snd (c : CC) (e : Expr) (ex : Ex) : Prop := ∀ (X : Cx) (W : WX), CtxOk cl T n c W X → ∀ (B u : Wd) (env : Sl) (o : Ob) (σ : L2.St), Rel X.K cl B u env o σ → ∀ Q : VK, PostE X.K cl B u env σ W Q (ev (prm T n) env ex o) → WE X e σ u.H Q
def PostT (K : PySem.W.Frag) (cl : String → Option Addr) (B b : Wd) (env : Sl) (σ : L2.St) (W : WX) (Q : Bool → Hp → Prop) : Res Rv → Prop
  | .ok r o' => ∃ k, truD r.vw = some k ∧ ∀ u', Grow b u' → Rel K cl B u' env o' σ → Q k u'.H
  | .exn x o' => ∀ c d u', Grow b u' → Rel K cl B u' env o' σ → XnAt K cl u' x c d → W c d σ u'.H
  | .stuck => False
def SndT (c : CC) (e : Expr) (ex : Ex) : Prop := ∀ (X : Cx) (W : WX), CtxOk cl T n c W X → ∀ (B u : Wd) (env : Sl) (o : Ob) (σ : L2.St), Rel X.K cl B u env o σ → ∀ Q : Bool → Hp → Prop, PostT X.K cl B u env σ W Q (ev (prm T n) env ex o) → WT X e σ u.H Q
structure Sn (c : CC) (e : Expr) (ex : Ex) : Prop where
  v : Snd cl T n c e ex
  t : SndT cl T n c e ex
  sh : okShape e = true
/-- arguments made values -/
def PostL (K : PySem.W.Frag) (cl : String → Option Addr) (B b : Wd) (env : Sl) (σ : L2.St) (W : WX) (Q : List V → Hp → Prop) : Res (List Rv) → Prop
  | .ok rs o' => ∃ ds, allFz rs = some ds ∧ ∀ vs u', Grow b u' → Rel K cl B u' env o' σ → RepL K cl u'.ι u'.F vs ds → Q vs u'.H
  | .exn x o' => ∀ c d u', Grow b u' → Rel K cl B u' env o' σ → XnAt K cl u' x c d → W c d σ u'.H
  | .stuck => False
/-- arguments looked at -/
def PostV (K : PySem.W.Frag) (cl : String → Option Addr) (B b : Wd) (env : Sl) (σ : L2.St) (W : WX) (Q : List V → Hp → Prop) : Res (List Rv) → Prop
  | .ok rs o' => ∀ vs u', Grow b u' → Rel K cl B u' env o' σ → Vws K cl u' vs (rs.map Rv.vw) → Q vs u'.H
  | .exn x o' => ∀ c d u', Grow b u' → Rel K cl B u' env o' σ → XnAt K cl u' x c d → W c d σ u'.H
  | .stuck => False
def SndL (c : CC) (es : List Expr) (exs : List Ex) : Prop := ∀ (X : Cx) (W : WX), CtxOk cl T n c W X → ∀ (B u : Wd) (env : Sl) (o : Ob) (σ : L2.St), Rel X.K cl B u env o σ → ∀ Q : List V → Hp → Prop, PostL X.K cl B u env σ W Q (evs (prm T n) env exs o) → WA X es σ u.H Q
def SndV (c : CC) (es : List Expr) (exs : List Ex) : Prop := ∀ (X : Cx) (W : WX), CtxOk cl T n c W X → ∀ (B u : Wd) (env : Sl) (o : Ob) (σ : L2.St), Rel X.K cl B u env o σ → ∀ Q : List V → Hp → Prop, PostV X.K cl B u env σ W Q (evs (prm T n) env exs o) → WA X es σ u.H Q
structure Sns (c : CC) (es : List Expr) (exs : List Ex) : Prop where
  l : SndL cl T n c es exs
  v : SndV cl T n c es exs
  sh : ∀ e ∈ es, okShape e = true
  len : es.length = exs.length
end
section
variable {cl : String → Option Addr} {T : Tab} {n : Nat} {c : CC} {e a d : Expr} {ex a' d' : Ex} {es : List Expr} {exs : List Ex}
theorem PostT.of {K : PySem.W.Frag} {B b : Wd} {env : Sl} {σ : L2.St} {W : WX} {Q : Bool → Hp → Prop} {res : Res Rv} (h : PostT K cl B b env σ W Q res) :
    PostE K cl B b env σ W (fun v H => ∃ k, TruV K v H k ∧ Q k H) res := by
  cases res with
  | ok r o' =>
    obtain ⟨k, hk, h⟩ := h
    exact fun v u' g R rp => ⟨k, tru_v R.sub rp.vw hk, h u' g R⟩
  | exn x o' => exact h
  | stuck => exact h
/-- a test by its value's truth -/
theorem Snd.test (h : Snd cl T n c e ex) (hs : okTest e = true) : SndT cl T n c e ex := fun X W k B u env o σ R Q post =>
  WT.of (pt_truth (pe_self e) (test_of hs)) (h X W k B u env o σ R (fun v H => ∃ k, TruV X.K v H k ∧ Q k H) post.of)
theorem Snd.sn (h : Snd cl T n c e ex) (hs : okTest e = true) (h2 : okShape e = true) : Sn cl T n c e ex := ⟨h, h.test hs, h2⟩
/-- a constant -/
theorem snd_c {v : V} {D : PI.D} (hp : ∀ X W, CtxOk cl T n c W X → PE X e (tC v) ∧ ∀ u : Wd, RepD X.K cl u.ι u.F v D) : Snd cl T n c e (.cst D) := fun X W k B u env o σ R Q post => by
  obtain ⟨h1, h2⟩ := hp X W k
  exact WE.of h1 (post v u (Grow.refl u) R (h2 u))
theorem sn_int {i : Int} {j : Nat} {p : Pos} : Sn cl T n c (.Constant (.int i) j p) (.cst (.int i)) := (snd_c fun X W k => ⟨pe_int, fun u => .int i⟩).sn rfl rfl
theorem sn_bl {i : Bool} {j : Nat} {p : Pos} : Sn cl T n c (.Constant (.bool i) j p) (.cst (.bl i)) := (snd_c fun X W k => ⟨pe_bl, fun u => .bl i⟩).sn rfl rfl
theorem sn_non {j : Nat} {p : Pos} : Sn cl T n c (.Constant .none j p) (.cst .non) := (snd_c fun X W k => ⟨pe_non, fun u => .non⟩).sn rfl rfl
theorem sn_str {x : Str} {j : Nat} {p : Pos} : Sn cl T n c (.Constant (.str x) j p) (.cst (.str x.cps.toList)) := (snd_c (v := .str x) fun X W k => ⟨pe_str, fun u => by
  have h := RepD.str (K := X.K) (cl := cl) (ι := u.ι) (F := u.F) x.cps.toList
  rw [S_of] at h
  exact h⟩).sn rfl rfl
theorem RepD.none_mono {K : PySem.W.Frag} {v : V} {d : D} {ι : List Addr} {F : Hp} (h : RepD K cl [] noHp v d) : RepD K cl ι F v d := RepD.mono (fun _ _ e => by cases e) (fun _ _ e => by cases e) d h
theorem RepL.none_mono {K : PySem.W.Frag} {vs : List V} {ds : List D} {ι : List Addr} {F : Hp} (h : RepL K cl [] noHp vs ds) : RepL K cl ι F vs ds := RepL.mono (fun _ _ e => by cases e) (fun _ _ e => by cases e) ds h
theorem sn_glb {x : Str} {D : PI.D} {p : Pos} (hg : glbB c x = true) (hl : c.gl.lookup x = some (.cst D)) : Sn cl T n c (.Name x p) (.cst D) := Snd.sn (fun X W k B u env o σ R Q post => by
  obtain ⟨g1, g2, g3⟩ := k.glo hg
  obtain ⟨uv, v, h1, h2, h3⟩ := k.gl.cst x D hl
  exact WE.of (pe_glob g1 h1 h2 g2) (post v u (Grow.refl u) R h3.none_mono)) rfl rfl
theorem sn_cls {x : Str} {C : String} {p : Pos} (hg : glbB c x = true) (hl : c.gl.lookup x = some (.cls C) ∨ c.gl.lookup x = some (.exc C)) : Sn cl T n c (.Name x p) (.cst (.cls C)) := Snd.sn (fun X W k B u env o σ R Q post => by
  obtain ⟨g1, g2, g3⟩ := k.glo hg
  obtain ⟨a, h1, h2⟩ := k.gl.cls x C hl
  exact WE.of (pe_glob g1 h1 (v := .ref a) rfl g2) (post (.ref a) u (Grow.refl u) R (.cls h2))) rfl rfl
theorem sn_typ {x : Str} {t : String} {p : Pos} (hg : glbB c x = true) (hl : c.gl.lookup x = some .blt) (hb : bootBuiltins x = some (.type t)) : Sn cl T n c (.Name x p) (.cst (.typ t)) := Snd.sn (fun X W k B u env o σ R Q post => by
  obtain ⟨g1, g2, g3⟩ := k.glo hg
  exact WE.of (pe_bltn g1 (k.gl.blt x hl) hb (v := .ty t) rfl g3 g2) (post (.ty t) u (Grow.refl u) R (.typ t))) rfl rfl
theorem sn_var {x : Str} {i : Nat} {p : Pos} (hN : c.N[i]? = some x) (hv : visB c x = true) (hd : dbgB x = true) : Sn cl T n c (.Name x p) (.var i) := Snd.sn (fun X W k B u env o σ R Q post => by
  obtain ⟨d1, d2, _⟩ := dbg_of hd
  have pe := pe_var (pos := p) (show X.N[i]? = some x by rw [k.N]; exact hN) (k.vis hv) d1 d2
  have post' : PostE X.K cl B u env σ W Q (opt (slot env i) o) := by simpa only [ev] using post
  obtain ⟨r, hr, post2⟩ := post'.of_opt0
  unfold slot at hr
  split at hr
  · rename_i ct he
    cases hr
    obtain ⟨a, e1, e2, e3, e4, e5⟩ := R.sl i _ he
    exact WE.of pe ⟨.ref a, e1, post2 _ u (Grow.refl u) R ⟨a, i, rfl, e1, he, e3, e5⟩⟩
  · rename_i r' hne he
    cases hr
    have q := R.sl i _ he
    cases r with
    | val d =>
      obtain ⟨v, e1, e2⟩ := q
      exact WE.of pe ⟨v, e1, post2 _ u (Grow.refl u) R e2⟩
    | own ct => exact (hne ct rfl).elim
    | bor _ => exact q.elim
  · cases hr) rfl rfl
/-- two values, then an operation -/
theorem snd_bin {f : Value → Value → Sem Value} {b : Expr} {b' : Ex} (ha : Snd cl T n c a a') (hb : Snd cl T n c b b') (hp : ∀ X, PE X e (tOp (VOp X f) (WE X a) (WE X b)))
    (g : D → D → Option Rv) (he : ∀ P env o, ev P env ex o = (ev P env a' o).bind fun x o => (ev P env b' o).bind fun y o => opt (g x.vw y.vw) o)
    (hf : ∀ X W, CtxOk cl T n c W X → ∀ (u : Wd) (o : Ob) (v w : V) (x y : D) (r : Rv) (Q : VK), BaseOk X.K cl u o → VwD X.K cl u v x → VwD X.K cl u w y → g x y = some r → Fin X.K cl u o r Q → VOp X f v w u.H Q) : Snd cl T n c e ex := fun X W k B u env o σ R Q post => by
  rw [he] at post
  refine WE.of (hp X) ?_
  refine ha X W k B u env o σ R _ (post.bind fun r1 o1 v1 u1 _ g1 R1 rp1 post1 => ?_)
  refine hb X W k B u1 env o1 σ R1 _ (post1.bind fun r2 o2 v2 u2 _ g2 R2 rp2 post2 => ?_)
  obtain ⟨r, hr, post3⟩ := post2.of_opt0
  exact hf X W k u2 o2 v1 v2 _ _ r Q R2.toBaseOk (rp1.vw.mono g2) rp2.vw hr (post3.fin R2)
theorem sn_bin {op : Operator} {b : Expr} {b' : Ex} {p : Pos} (ha : Sn cl T n c a a') (hb : Sn cl T n c b b') : Sn cl T n c (.BinOp a op b p) (.bin op a' b') :=
  (snd_bin ha.v hb.v (fun X => pe_op op_univ (pe_self a) (pe_self b)) (binD op) (fun P env o => by simp only [ev]) fun X W k u o v w x y r Q b hx hy hr q => bin_ok b hx hy hr q).sn rfl rfl
theorem sn_neg {p : Pos} (ha : Sn cl T n c a a') : Sn cl T n c (.UnaryOp .USub a p) (.neg a') := Snd.sn (fun X W k B u env o σ R Q post => by
  simp only [ev] at post
  refine WE.of (pe_un un_univ (pe_self a)) ?_
  refine ha.v X W k B u env o σ R _ (post.bind fun r1 o1 v1 u1 _ g1 R1 rp1 post1 => ?_)
  obtain ⟨r, hr, post3⟩ := post1.of_opt0
  exact neg_ok R1.toBaseOk rp1.vw hr (post3.fin R1)) rfl rfl
theorem cmp_snd {op : CmpOp} {b : Expr} {b' : Ex} {p : Pos} (ha : Sn cl T n c a a') (hb : Sn cl T n c b b') : Snd cl T n c (.Compare a [op] [b] p) (.cmp op a' b') :=
  snd_bin ha.v hb.v (fun X => pe_cmpR op_univ (pe_self a) (pe_self b) (mark_of hb.sh)) (fun x y => (cmpD op x y).map fun k => .val (.bl k))
    (fun P env o => by
      simp only [ev]
      congr 1; funext x o; congr 1; funext y o
      cases cmpD op x.vw y.vw <;> rfl)
    fun X W k u o v w x y r Q b hx hy hr q => by
      cases hc : cmpD op x y with
      | none => rw [hc] at hr; cases hr
      | some m => rw [hc] at hr; cases hr; exact cmp_ok k.hu b hx hy hc q
theorem PostT.fin {K : PySem.W.Frag} {B b : Wd} {env : Sl} {σ : L2.St} {W : WX} {Q : Bool → Hp → Prop} {o : Ob} {k : Bool} (h : PostT K cl B b env σ W Q (.ok (.val (.bl k)) o)) :
    PostE K cl B b env σ W (fun x H => ∃ j, x = .bl j ∧ Q j H) (.ok (.val (.bl k)) o) := fun v u' g R rp => by
  obtain ⟨j, hj, h⟩ := h
  cases hj
  obtain rfl := VwD.bl (u := u') rp.vw
  exact ⟨_, rfl, h u' g R⟩
theorem bind_vb {α : Type} {x : Option Bool} {o : Ob} {f : Bool → Ob → Res Rv} : (opt x o).bind f = match x with | some k => f k o | none => .stuck := by cases x <;> rfl
theorem PostE.bools {K : PySem.W.Frag} {B b : Wd} {env : Sl} {σ : L2.St} {W : WX} {Q : Bool → Hp → Prop} {res : Res Rv} (hb : ∀ r o', res = .ok r o' → ∃ k, r = .val (.bl k)) (h : PostT K cl B b env σ W Q res) :
    PostE K cl B b env σ W (fun x H => ∃ j, x = .bl j ∧ Q j H) res := by
  cases res with
  | ok r o' => obtain ⟨k, rfl⟩ := hb r o' rfl; exact h.fin
  | exn x o' => exact h
  | stuck => exact h
theorem bind_bl {α : Type} {res : Res α} {f : α → Ob → Res Rv} {P : Rv → Prop} (h : ∀ a o r o', f a o = .ok r o' → P r) : ∀ r o', res.bind f = .ok r o' → P r := by
  intro r o' e
  cases res with
  | ok a o => exact h a o r o' e
  | exn x o => cases e
  | stuck => cases e
theorem sn_cmp {op : CmpOp} {b : Expr} {b' : Ex} {p : Pos} (ha : Sn cl T n c a a') (hb : Sn cl T n c b b') : Sn cl T n c (.Compare a [op] [b] p) (.cmp op a' b') :=
  ⟨cmp_snd ha hb, fun X W k B u env o σ R Q post => WT.of (pt_cmpR op_univ (pe_self a) (pe_self b) (mark_of hb.sh)) (by
    have post2 := PostE.bools (by
      simp only [ev]
      exact bind_bl fun x o => bind_bl fun y o => bind_bl fun k o r o' e => by cases e; exact ⟨_, rfl⟩) post
    show tOp (VOp X (compareOp op)) (WE X a) (WE X b) σ u.H _
    simp only [ev] at post2
    refine ha.v X W k B u env o σ R _ (post2.bind fun r1 o1 v1 u1 _ g1 R1 rp1 post3 => ?_)
    refine hb.v X W k B u1 env o1 σ R1 _ (post3.bind fun r2 o2 v2 u2 _ g2 R2 rp2 post4 => ?_)
    obtain ⟨m, hm, post5⟩ := post4.of_opt
    exact cmp_ok k.hu R2.toBaseOk (rp1.vw.mono g2) rp2.vw hm (post5.fin R2)), rfl⟩
theorem marks_of {op oq : CmpOp} {b : Expr} (h : okShape d = true) : lastMarks [op, oq] [b, d] = false := mark_of h
theorem sn_chn {op oq : CmpOp} {b : Expr} {b' : Ex} {p : Pos} (ha : Sn cl T n c a a') (hb : Sn cl T n c b b') (hd : Sn cl T n c d d') : Sn cl T n c (.Compare a [op, oq] [b, d] p) (.chn op oq a' b' d') := by
  have main : ∀ (X : Cx) (W : WX), CtxOk cl T n c W X → ∀ (B u : Wd) (env : Sl) (o : Ob) (σ : L2.St), Rel X.K cl B u env o σ → ∀ Q : VK, PostE X.K cl B u env σ W Q (ev (prm T n) env (.chn op oq a' b' d') o) →
      tChain (VOp X (compareOp op)) (VOp X (compareOp oq)) (WE X a) (WE X b) (WE X d) σ u.H Q := fun X W k B u env o σ R Q post => by
    simp only [ev] at post
    refine ha.v X W k B u env o σ R _ (post.bind fun r1 o1 v1 u1 _ g1 R1 rp1 post3 => ?_)
    refine hb.v X W k B u1 env o1 σ R1 _ (post3.bind fun r2 o2 v2 u2 _ g2 R2 rp2 post4 => ?_)
    obtain ⟨m, hm, post5⟩ := post4.of_opt
    refine cmp_ok k.hu R2.toBaseOk (rp1.vw.mono g2) rp2.vw hm fun z u3 g3 b3 rp3 => ?_
    obtain rfl := VwD.bl (u := u3) rp3.vw
    have R3 := R2.later g3 b3
    refine ⟨m, rfl, ?_⟩
    cases m with
    | false =>
      rw [if_neg Bool.false_ne_true] at post5 ⊢
      exact post5 _ u3 g3 R3 (.bl false)
    | true =>
      rw [if_pos rfl] at post5 ⊢
      refine hd.v X W k B u3 env o2 σ R3 _ ((post5.rebase g3).bind fun r4 o4 v4 u4 _ g4 R4 rp4 post6 => ?_)
      obtain ⟨m2, hm2, post7⟩ := post6.of_opt
      exact cmp_ok k.hu R4.toBaseOk ((rp2.vw.mono g3).mono g4) rp4.vw hm2 (post7.fin R4)
  refine ⟨fun X W k B u env o σ R Q post => WE.of (pe_chain op_univ op_univ (pe_self a) (pe_self b) (pe_self d) (marks_of hd.sh)) (main X W k B u env o σ R Q post), fun X W k B u env o σ R Q post => ?_, rfl⟩
  have post2 := PostE.bools (by
    simp only [ev]
    exact bind_bl fun x o => bind_bl fun y o => bind_bl fun k o r o' e => by
      cases k with
      | false => rw [if_neg Bool.false_ne_true] at e; cases e; exact ⟨_, rfl⟩
      | true =>
        rw [if_pos rfl] at e
        exact bind_bl (P := fun r => ∃ k, r = .val (.bl k)) (fun z o => bind_bl fun k o r o' e => by cases e; exact ⟨_, rfl⟩) r o' e) post
  exact WT.of (pt_chain op_univ op_univ (pe_self a) (pe_self b) (pe_self d) (marks_of hd.sh)) (main X W k B u env o σ R _ post2)
end
end PI

namespace PI
open PySem PySem.Spec PyProof.Rows L2 HT
section
variable {cl : String → Option Addr} {T : Tab} {n : Nat} {c : CC} {e a b d : Expr} {ex a' b' d' : Ex} {es : List Expr} {exs : List Ex}
theorem sn_not {p : Pos} (ha : Sn cl T n c a a') : Sn cl T n c (.UnaryOp .Not a p) (.not a') := by
  refine ⟨fun X W k B u env o σ R Q post => ?_, fun X W k B u env o σ R Q post => ?_, rfl⟩
  · simp only [ev] at post
    refine WE.of (pe_notT (pe_self a)) ?_
    refine ha.v X W k B u env o σ R _ (post.bind fun r1 o1 v1 u1 _ g1 R1 rp1 post1 => ?_)
    obtain ⟨m, hm, post2⟩ := post1.of_opt
    exact ⟨m, tru_v R1.sub rp1.vw hm, post2 _ u1 (Grow.refl _) R1 (.bl _)⟩
  · simp only [ev] at post
    refine WT.of (pt_not (pt_self a)) ?_
    refine ha.t X W k B u env o σ R _ ?_
    cases hr : ev (prm T n) env a' o with
    | ok r o' =>
      rw [hr] at post
      cases hm : truD r.vw with
      | none => simp only [Res.bind_ok, hm, opt_none, Res.bind_stuck] at post; exact post.elim
      | some m =>
        simp only [Res.bind_ok, hm, opt_some] at post
        obtain ⟨j, hj, post⟩ := post
        cases hj
        exact ⟨m, hm, post⟩
    | exn x o' => rw [hr] at post; exact post
    | stuck => rw [hr] at post; exact post
theorem sn_one {op : BoolOp} {p : Pos} (ha : Sn cl T n c a a') : Sn cl T n c (.BoolOp op [a] p) a' := by
  refine ⟨fun X W k B u env o σ R Q post => WE.of (pe_one (pe_self a)) (ha.v X W k B u env o σ R Q post), fun X W k B u env o σ R Q post => ?_, rfl⟩
  cases op with
  | And => exact WT.of (pw_and1 (pt_self a)).pt (ha.t X W k B u env o σ R Q post)
  | Or => exact WT.of (pw_or1 (pt_self a)).pt (ha.t X W k B u env o σ R Q post)
theorem pw_self {X : Cx} {op : BoolOp} {vs : List Expr} {p : Pos} : PW X (.BoolOp op vs p) (WT X (.BoolOp op vs p)) := ⟨fun whole pins s σ H Q I h => by
  have := h pins s I
  show wpAny _ _ (isTrue (.BoolOp op vs p) X.env (eval (.BoolOp op vs p) X.env)) _ _ s
  exact this⟩
theorem PostT.bindT {K : PySem.W.Frag} {B b : Wd} {env : Sl} {σ : L2.St} {W : WX} {Q Q1 : Bool → Hp → Prop} {res : Res Rv} {f : Rv → Bool → Ob → Res Rv}
    (h : PostT K cl B b env σ W Q (res.bind fun x o => (opt (truD x.vw) o).bind (f x)))
    (k : ∀ r m o' u', res = .ok r o' → truD r.vw = some m → Grow b u' → Rel K cl B u' env o' σ → PostT K cl B u' env σ W Q (f r m o') → Q1 m u'.H) : PostT K cl B b env σ W Q1 res := by
  cases res with
  | ok r o' =>
    cases hm : truD r.vw with
    | none => simp only [Res.bind_ok, hm, opt_none, Res.bind_stuck] at h; exact h.elim
    | some m =>
      simp only [Res.bind_ok, hm, opt_some] at h
      refine ⟨m, hm, fun u' g R => k r m o' u' rfl hm g R ?_⟩
      cases hf : f r m o' with
      | ok r2 o2 =>
        rw [hf] at h
        obtain ⟨j, hj, h⟩ := h
        exact ⟨j, hj, fun w g2 => h w (g.trans g2)⟩
      | exn x o2 =>
        rw [hf] at h
        exact fun c d w g2 => h c d w (g.trans g2)
      | stuck => rw [hf] at h; exact h
  | exn x o' => exact h
  | stuck => exact h
theorem sn_and {r : List Expr} {p : Pos} (ha : Sn cl T n c a a') (hb : Sn cl T n c (.BoolOp .And (b :: r) p) b') : Sn cl T n c (.BoolOp .And (a :: b :: r) p) (.and a' b') := by
  refine ⟨fun X W k B u env o σ R Q post => ?_, fun X W k B u env o σ R Q post => ?_, rfl⟩
  · simp only [ev] at post
    refine WE.of (pe_andT (pe_self a) (pe_self _)) ?_
    refine ha.v X W k B u env o σ R _ (post.bind fun r1 o1 v1 u1 _ g1 R1 rp1 post1 => ?_)
    obtain ⟨m, hm, post2⟩ := post1.of_opt
    refine ⟨m, tru_v R1.sub rp1.vw hm, ?_⟩
    cases m with
    | true => rw [if_pos rfl] at post2 ⊢; exact hb.v X W k B u1 env o1 σ R1 _ post2
    | false => 
      rw [if_neg Bool.false_ne_true]
      cases hr : ev (prm T n) env a' o with
      | ok r2 o2 =>
        rw [hr] at post
        simp only [Res.bind_ok] at post
        obtain ⟨m3, hm3, post3⟩ := post.of_opt
        have e : r1 = r2 ∧ o1 = o2 := by
          have := ‹ev (prm T n) env a' o = .ok r1 o1›
          rw [hr] at this
          cases this
          exact ⟨rfl, rfl⟩
        obtain ⟨rfl, rfl⟩ := e
        rw [hm] at hm3
        cases hm3
        rw [if_neg Bool.false_ne_true] at post3
        exact post3 v1 u1 g1 R1 rp1
      | exn _ _ => have := ‹ev (prm T n) env a' o = .ok r1 o1›; rw [hr] at this; cases this
      | stuck => have := ‹ev (prm T n) env a' o = .ok r1 o1›; rw [hr] at this; cases this
  · simp only [ev] at post
    refine WT.of (pw_and (pt_self a) pw_self).pt ?_
    refine ha.t X W k B u env o σ R _ (PostT.bindT post fun r1 m o1 u1 _ hm g1 R1 post1 => ?_)
    cases m with
    | true => rw [if_pos rfl] at post1 ⊢; exact hb.t X W k B u1 env o1 σ R1 _ post1
    | false =>
      rw [if_neg Bool.false_ne_true] at post1 ⊢
      obtain ⟨j, hj, post2⟩ := post1
      rw [hm] at hj
      cases hj
      exact post2 u1 (Grow.refl _) R1
theorem sn_or {r : List Expr} {p : Pos} (ha : Sn cl T n c a a') (hb : Sn cl T n c (.BoolOp .Or (b :: r) p) b') : Sn cl T n c (.BoolOp .Or (a :: b :: r) p) (.or a' b') := by
  refine ⟨fun X W k B u env o σ R Q post => ?_, fun X W k B u env o σ R Q post => ?_, rfl⟩
  · simp only [ev] at post
    refine WE.of (pe_orT (pe_self a) (pe_self _)) ?_
    refine ha.v X W k B u env o σ R _ (post.bind fun r1 o1 v1 u1 _ g1 R1 rp1 post1 => ?_)
    obtain ⟨m, hm, post2⟩ := post1.of_opt
    refine ⟨m, tru_v R1.sub rp1.vw hm, ?_⟩
    cases m with
    | false => rw [if_neg Bool.false_ne_true] at post2 ⊢; exact hb.v X W k B u1 env o1 σ R1 _ post2
    | true =>
      rw [if_pos rfl]
      cases hr : ev (prm T n) env a' o with
      | ok r2 o2 =>
        rw [hr] at post
        simp only [Res.bind_ok] at post
        obtain ⟨m3, hm3, post3⟩ := post.of_opt
        have e : r1 = r2 ∧ o1 = o2 := by
          have := ‹ev (prm T n) env a' o = .ok r1 o1›
          rw [hr] at this
          cases this
          exact ⟨rfl, rfl⟩
        obtain ⟨rfl, rfl⟩ := e
        rw [hm] at hm3
        cases hm3
        rw [if_pos rfl] at post3
        exact post3 v1 u1 g1 R1 rp1
      | exn _ _ => have := ‹ev (prm T n) env a' o = .ok r1 o1›; rw [hr] at this; cases this
      | stuck => have := ‹ev (prm T n) env a' o = .ok r1 o1›; rw [hr] at this; cases this
  · simp only [ev] at post
    refine WT.of (pw_or (pt_self a) pw_self).pt ?_
    refine ha.t X W k B u env o σ R _ (PostT.bindT post fun r1 m o1 u1 _ hm g1 R1 post1 => ?_)
    cases m with
    | false => rw [if_neg Bool.false_ne_true] at post1 ⊢; exact hb.t X W k B u1 env o1 σ R1 _ post1
    | true =>
      rw [if_pos rfl] at post1 ⊢
      obtain ⟨j, hj, post2⟩ := post1
      rw [hm] at hj
      cases hj
      exact post2 u1 (Grow.refl _) R1
theorem pt_ifExp {X : Cx} {t a b : Expr} {p : Pos} {tt ta tb : TT} (ht : PT X t tt) (ha : PT X a ta) (hb : PT X b tb) : PT X (.IfExp t a b p) (fun σ H Q => tt σ H fun k H1 => if k = true then ta σ H1 Q else tb σ H1 Q) := by
  refine ⟨fun pins s σ H Q I h => ?_⟩
  show wpAny _ _ (do if ← isTrue t X.env (eval t X.env) then isTrue a X.env (eval a X.env) else isTrue b X.env (eval b X.env)) _ _ s
  refine wpAny_bind (thn (ht.run pins s σ H _ I h) fun k s1 ⟨H1, I1, q1⟩ => ?_)
  cases k with
  | true => exact ha.run pins s1 σ H1 Q I1 q1
  | false => exact hb.run pins s1 σ H1 Q I1 q1
theorem PostE.bindT {K : PySem.W.Frag} {B b : Wd} {env : Sl} {σ : L2.St} {W : WX} {Q : VK} {Q1 : Bool → Hp → Prop} {res : Res Rv} {f : Bool → Ob → Res Rv}
    (h : PostE K cl B b env σ W Q (res.bind fun x o => (opt (truD x.vw) o).bind f))
    (k : ∀ m o' u', Grow b u' → Rel K cl B u' env o' σ → PostE K cl B u' env σ W Q (f m o') → Q1 m u'.H) : PostT K cl B b env σ W Q1 res := by
  cases res with
  | ok r o' =>
    obtain ⟨m, hm, h2⟩ := PostE.of_opt h
    exact ⟨m, hm, fun u' g R => k m o' u' g R (h2.rebase g)⟩
  | exn x o' => exact h
  | stuck => exact h
theorem sn_ife {t : Expr} {t' : Ex} {p : Pos} (ht : Sn cl T n c t t') (ha : Sn cl T n c a a') (hb : Sn cl T n c b b') : Sn cl T n c (.IfExp t a b p) (.ife t' a' b') := by
  refine ⟨fun X W k B u env o σ R Q post => ?_, fun X W k B u env o σ R Q post => ?_, rfl⟩
  · simp only [ev] at post
    refine WE.of (pe_ifExp (pt_self t) (pe_self a) (pe_self b)) ?_
    refine ht.t X W k B u env o σ R _ (PostE.bindT post fun m o1 u1 g1 R1 post1 => ?_)
    cases m with
    | true => rw [if_pos rfl] at post1 ⊢; exact ha.v X W k B u1 env o1 σ R1 _ post1
    | false => rw [if_neg Bool.false_ne_true] at post1 ⊢; exact hb.v X W k B u1 env o1 σ R1 _ post1
  · simp only [ev] at post
    refine WT.of (pt_ifExp (pt_self t) (pt_self a) (pt_self b)) ?_
    refine ht.t X W k B u env o σ R _ (PostT.bindT (f := fun _ k o => if k = true then ev (prm T n) env a' o else ev (prm T n) env b' o) post fun r1 m o1 u1 _ hm g1 R1 post1 => ?_)
    cases m with
    | true => rw [if_pos rfl] at post1 ⊢; exact ha.t X W k B u1 env o1 σ R1 _ post1
    | false => rw [if_neg Bool.false_ne_true] at post1 ⊢; exact hb.t X W k B u1 env o1 σ R1 _ post1
theorem sn_idx {p : Pos} (ha : Sn cl T n c a a') (hb : Sn cl T n c b b') : Sn cl T n c (.Subscript a b p) (.idx a' b') := Snd.sn (fun X W k B u env o σ R Q post => by
  simp only [ev] at post
  refine WE.of (pe_ix ix_univ (pe_self a) (pe_self b) (plainIx_of hb.sh)) ?_
  refine ha.v X W k B u env o σ R _ (post.bind fun r1 o1 v1 u1 _ g1 R1 rp1 post1 => ?_)
  refine hb.v X W k B u1 env o1 σ R1 _ (post1.bind fun r2 o2 v2 u2 _ g2 R2 rp2 post2 => ?_)
  obtain ⟨d, hd, post3⟩ := post2.of_opt
  exact idx_ok R2.toBaseOk (rp1.vw.mono g2) rp2.vw hd (post3.fin R2)) rfl rfl

/-! ### argument lists -/
theorem PostL.rebase {K : PySem.W.Frag} {B b u : Wd} {env : Sl} {σ : L2.St} {W : WX} {Q : List V → Hp → Prop} {res : Res (List Rv)} (g : Grow b u) (h : PostL K cl B b env σ W Q res) : PostL K cl B u env σ W Q res := by
  cases res with
  | ok r o' => obtain ⟨ds, e, h⟩ := h; exact ⟨ds, e, fun v u' g' R rp => h v u' (g.trans g') R rp⟩
  | exn x o' => exact fun c d u' g' R xa => h c d u' (g.trans g') R xa
  | stuck => exact h
theorem PostV.rebase {K : PySem.W.Frag} {B b u : Wd} {env : Sl} {σ : L2.St} {W : WX} {Q : List V → Hp → Prop} {res : Res (List Rv)} (g : Grow b u) (h : PostV K cl B b env σ W Q res) : PostV K cl B u env σ W Q res := by
  cases res with
  | ok r o' => exact fun v u' g' R rp => h v u' (g.trans g') R rp
  | exn x o' => exact fun c d u' g' R xa => h c d u' (g.trans g') R xa
  | stuck => exact h
theorem sns_nil : Sns cl T n c [] [] := by
  refine ⟨fun X W k B u env o σ R Q post => ?_, fun X W k B u env o σ R Q post => ?_, fun _ h => (by cases h), rfl⟩
  · simp only [evs] at post
    obtain ⟨ds, e, h⟩ := post
    cases e
    exact WA.of pa_nil (h [] u (Grow.refl u) R .nil)
  · simp only [evs] at post
    exact WA.of pa_nil (post [] u (Grow.refl u) R .nil)
theorem sns_cons (h : Sn cl T n c e ex) (hs : Sns cl T n c es exs) : Sns cl T n c (e :: es) (ex :: exs) := by
  refine ⟨fun X W k B u env o σ R Q post => ?_, fun X W k B u env o σ R Q post => ?_, fun x hx => ?_, congrArg (· + 1) hs.len⟩
  · simp only [evs] at post
    refine WA.of (pa_cons (pe_self e) (pa_self es) (star_of h.sh)) ?_
    refine h.v X W k B u env o σ R _ ?_
    cases hr : ev (prm T n) env ex o with
    | stuck => rw [hr] at post; exact post
    | exn x o1 => rw [hr] at post; exact post
    | ok r o1 =>
      rw [hr] at post
      simp only [Res.bind_ok] at post
      intro v1 u1 g1 R1 rp1
      cases hr2 : evs (prm T n) env exs o1 with
      | stuck => rw [hr2] at post; exact post.elim
      | exn x o2 =>
        rw [hr2] at post
        refine hs.l X W k B u1 env o1 σ R1 _ ?_
        rw [hr2]
        exact fun c d u2 g2 R2 xa => post c d u2 (g1.trans g2) R2 xa
      | ok rs o2 =>
        rw [hr2] at post
        simp only [Res.bind_ok] at post
        obtain ⟨ds, hds, post⟩ := post
        unfold allFz at hds
        cases hz : r.fz with
        | none => rw [hz] at hds; cases hds
        | some d =>
          rw [hz] at hds
          cases hz2 : allFz rs with
          | none => rw [hz2] at hds; cases hds
          | some ds2 =>
            rw [hz2] at hds
            cases hds
            obtain ⟨u1', e1, g1', R1', rd, _⟩ := rp1.fz R R1 g1 hz
            rw [← e1]
            refine hs.l X W k B u1' env o1 σ R1' _ ?_
            rw [hr2]
            exact ⟨ds2, hz2, fun vs u2 g2 R2 rl => post (v1 :: vs) u2 (g1'.trans g2) R2 (.cons (RepD.mono g2.pre g2.sF d rd) rl)⟩
  · simp only [evs] at post
    refine WA.of (pa_cons (pe_self e) (pa_self es) (star_of h.sh)) ?_
    refine h.v X W k B u env o σ R _ ?_
    cases hr : ev (prm T n) env ex o with
    | stuck => rw [hr] at post; exact post
    | exn x o1 => rw [hr] at post; exact post
    | ok r o1 =>
      rw [hr] at post
      simp only [Res.bind_ok] at post
      intro v1 u1 g1 R1 rp1
      refine hs.v X W k B u1 env o1 σ R1 _ ?_
      cases hr2 : evs (prm T n) env exs o1 with
      | stuck => rw [hr2] at post; exact post.elim
      | exn x o2 =>
        rw [hr2] at post
        exact fun c d u2 g2 R2 xa => post c d u2 (g1.trans g2) R2 xa
      | ok rs o2 =>
        rw [hr2] at post
        exact fun vs u2 g2 R2 rl => post (v1 :: vs) u2 (g1.trans g2) R2 (.cons (rp1.vw.mono g2) rl)
  · rcases List.mem_cons.mp hx with rfl | hx
    · exact h.sh
    · exact hs.sh x hx
/-- arguments, then what is done with them -/
theorem PostE.args {K : PySem.W.Frag} {B b : Wd} {env : Sl} {σ : L2.St} {W : WX} {Q : VK} {Q1 : List V → Hp → Prop} {res : Res (List Rv)} {f : List D → Ob → Res Rv}
    (h : PostE K cl B b env σ W Q (res.bind fun rs o => (opt (allFz rs) o).bind f))
    (k : ∀ ds o' vs u', Grow b u' → Rel K cl B u' env o' σ → RepL K cl u'.ι u'.F vs ds → PostE K cl B u' env σ W Q (f ds o') → Q1 vs u'.H) : PostL K cl B b env σ W Q1 res := by
  cases res with
  | ok rs o' =>
    obtain ⟨ds, e, h2⟩ := PostE.of_opt h
    exact ⟨ds, e, fun vs u' g R rl => k ds o' vs u' g R rl (h2.rebase g)⟩
  | exn x o' => exact h
  | stuck => exact h
theorem allFz_len : ∀ {rs : List Rv} {ds : List D}, allFz rs = some ds → ds.length = rs.length
  | [], ds, h => by cases h; rfl
  | r :: rs, ds, h => by
    unfold allFz at h
    cases hz : r.fz with
    | none => rw [hz] at h; cases h
    | some d =>
      rw [hz] at h
      cases hz2 : allFz rs with
      | none => rw [hz2] at h; cases h
      | some ds2 =>
        rw [hz2] at h
        cases h
        exact congrArg (· + 1) (allFz_len hz2)
theorem evs_len {P : Prm} {σ : Sl} : ∀ {es : List Ex} {o o' : Ob} {rs : List Rv}, evs P σ es o = .ok rs o' → rs.length = es.length
  | [], o, o', rs, h => by simp only [evs] at h; cases h; rfl
  | e :: es, o, o', rs, h => by
    simp only [evs] at h
    cases h1 : ev P σ e o with
    | stuck => rw [h1] at h; cases h
    | exn x o1 => rw [h1] at h; cases h
    | ok r o1 =>
      rw [h1] at h
      simp only [Res.bind_ok] at h
      cases h2 : evs P σ es o1 with
      | stuck => rw [h2] at h; cases h
      | exn x o2 => rw [h2] at h; cases h
      | ok rs2 o2 =>
        rw [h2] at h
        cases h
        exact congrArg (· + 1) (evs_len h2)
theorem PostE.argsN {K : PySem.W.Frag} {B b : Wd} {env : Sl} {σ : L2.St} {W : WX} {Q : VK} {Q1 : List V → Hp → Prop} {P : Prm} {es : List Ex} {o : Ob} {f : List D → Ob → Res Rv}
    (h : PostE K cl B b env σ W Q ((evs P env es o).bind fun rs o => (opt (allFz rs) o).bind f))
    (k : ∀ ds o' vs u', ds.length = es.length → Grow b u' → Rel K cl B u' env o' σ → RepL K cl u'.ι u'.F vs ds → PostE K cl B u' env σ W Q (f ds o') → Q1 vs u'.H) : PostL K cl B b env σ W Q1 (evs P env es o) := by
  cases hr : evs P env es o with
  | ok rs o' =>
    rw [hr] at h
    obtain ⟨ds, e, h2⟩ := PostE.of_opt h
    exact ⟨ds, e, fun vs u' g R rl => k ds o' vs u' ((allFz_len e).trans (evs_len hr)) g R rl (h2.rebase g)⟩
  | exn x o' => rw [hr] at h; exact h
  | stuck => rw [hr] at h; exact h
theorem PostE.views {K : PySem.W.Frag} {B b : Wd} {env : Sl} {σ : L2.St} {W : WX} {Q : VK} {Q1 : List V → Hp → Prop} {res : Res (List Rv)} {f : List Rv → Ob → Res Rv}
    (h : PostE K cl B b env σ W Q (res.bind f))
    (k : ∀ rs o' vs u', Grow b u' → Rel K cl B u' env o' σ → Vws K cl u' vs (rs.map Rv.vw) → PostE K cl B u' env σ W Q (f rs o') → Q1 vs u'.H) : PostV K cl B b env σ W Q1 res := by
  cases res with
  | ok rs o' => exact fun vs u' g R rl => k rs o' vs u' g R rl (PostE.rebase g h)
  | exn x o' => exact h
  | stuck => exact h
theorem sn_tup {j : Nat} {p : Pos} (h : Sns cl T n c es exs) : Sn cl T n c (.Tuple es j p) (.tup exs) := Snd.sn (fun X W k B u env o σ R Q post => by
  simp only [ev] at post
  refine WE.of (pe_tup (pa_self es)) ?_
  refine h.l X W k B u env o σ R _ (post.args fun ds o1 vs u1 g1 R1 rl post1 => ?_)
  obtain ⟨hl, post2⟩ := post1.of_if
  exact ⟨by rw [rl.length]; exact hl, fun p hp => (post2.fin R1).tup R1.toBaseOk rl hp⟩) rfl rfl
theorem sn_lst {p : Pos} (h : Sns cl T n c es exs) : Sn cl T n c (.List es p) (.lst exs) := Snd.sn (fun X W k B u env o σ R Q post => by
  simp only [ev] at post
  refine WE.of (pe_lst (pa_self es)) ?_
  refine h.l X W k B u env o σ R _ (post.args fun ds o1 vs u1 g1 R1 rl post1 => ?_)
  obtain ⟨hl, post2⟩ := post1.of_if
  exact ⟨by rw [rl.length]; exact hl, fun p hp => (post2.fin R1).lst R1.toBaseOk rl hp⟩) rfl rfl
theorem PostE.imp {K : PySem.W.Frag} {B b : Wd} {env : Sl} {σ : L2.St} {W : WX} {Q Q1 : VK} {res : Res Rv} (h : PostE K cl B b env σ W Q res)
    (k : ∀ r o' v u', res = .ok r o' → Grow b u' → Rel K cl B u' env o' σ → RepR K cl b u' env σ v r → Q v u'.H → Q1 v u'.H) : PostE K cl B b env σ W Q1 res := by
  cases res with
  | ok r o' => exact fun v u' g R rp => k r o' v u' rfl g R rp (h v u' g R rp)
  | exn x o' => exact h
  | stuck => exact h
/-- a part of a slice -/
def PostO (K : PySem.W.Frag) (cl : String → Option Addr) (B b : Wd) (env : Sl) (σ : L2.St) (W : WX) (l : Bool) (Q : Option Int → Hp → Prop) : Res Rv → Prop
  | .ok r o' => ∃ p, ixPart l r.vw = some p ∧ ∀ u', Grow b u' → Rel K cl B u' env o' σ → Q p u'.H
  | .exn x o' => ∀ c d u', Grow b u' → Rel K cl B u' env o' σ → XnAt K cl u' x c d → W c d σ u'.H
  | .stuck => False
def SndO (cl : String → Option Addr) (T : Tab) (n : Nat) (c : CC) (e : Option Expr) (l : Bool) (ex : Ex) : Prop := ∀ (X : Cx) (W : WX), CtxOk cl T n c W X → ∃ t : TO, PO X e t ∧ ∀ (B u : Wd) (env : Sl) (o : Ob) (σ : L2.St), Rel X.K cl B u env o σ →
  ∀ (Q : Option Int → Hp → Prop), PostO X.K cl B u env σ W l Q (ev (prm T n) env ex o) → t σ u.H Q
theorem sno_none : SndO cl T n c none false (.cst .non) := fun X W k => ⟨_, po_none, fun B u env o σ R Q post => by
  simp only [ev] at post
  obtain ⟨p, hp, post⟩ := post
  cases hp
  exact post u (Grow.refl u) R⟩
theorem sno_some (h : Snd cl T n c e ex) : SndO cl T n c (some e) true ex := fun X W k => ⟨_, po_some (pe_self e), fun B u env o σ R Q post => by
  refine h X W k B u env o σ R _ ?_
  cases hr : ev (prm T n) env ex o with
  | stuck => rw [hr] at post; exact post
  | exn x o1 => rw [hr] at post; exact post
  | ok r o1 =>
    rw [hr] at post
    obtain ⟨p, hp, post⟩ := post
    intro v u1 g1 R1 rp1
    have hv := rp1.vw
    cases hd : r.vw <;> rw [hd] at hp hv <;> first
      | (simp [ixPart] at hp; done)
      | (obtain rfl := hv.int; cases hp; exact ⟨_, rfl, post u1 g1 R1⟩)⟩
theorem PostE.part {K : PySem.W.Frag} {B b : Wd} {env : Sl} {σ : L2.St} {W : WX} {Q : VK} {l : Bool} {Q1 : Option Int → Hp → Prop} {res : Res Rv} {f : Option Int → Ob → Res Rv}
    (h : PostE K cl B b env σ W Q (res.bind fun y o => (opt (ixPart l y.vw) o).bind f))
    (k : ∀ p o' u', Grow b u' → Rel K cl B u' env o' σ → PostE K cl B u' env σ W Q (f p o') → Q1 p u'.H) : PostO K cl B b env σ W l Q1 res := by
  cases res with
  | ok r o' =>
    obtain ⟨p, hp, h2⟩ := PostE.of_opt h
    exact ⟨p, hp, fun u' g R => k p o' u' g R (h2.rebase g)⟩
  | exn x o' => exact h
  | stuck => exact h
theorem sn_slc {lo hi : Option Expr} {l h : Bool} {lo' hi' : Ex} {p p2 : Pos} (ha : Sn cl T n c a a') (hl : SndO cl T n c lo l lo') (hh : SndO cl T n c hi h hi') : Sn cl T n c (.Subscript a (.Slice lo hi none p2) p) (.slc a' l h lo' hi') := Snd.sn (fun X W k B u env o σ R Q post => by
  simp only [ev] at post
  obtain ⟨tl, pl, sl⟩ := hl X W k
  obtain ⟨th, ph, sh⟩ := hh X W k
  refine WE.of (pe_slice sl_univ (pe_self a) pl ph) ?_
  refine ha.v X W k B u env o σ R _ (post.bind fun r1 o1 v1 u1 _ g1 R1 rp1 post1 => ?_)
  refine sl B u1 env o1 σ R1 _ (post1.part fun p o2 u2 g2 R2 post2 => ?_)
  refine sh B u2 env o2 σ R2 _ (post2.part fun q o3 u3 g3 R3 post3 => ?_)
  obtain ⟨r, hr, post4⟩ := post3.of_opt0
  exact slc_ok R3.toBaseOk ((rp1.vw.mono g2).mono g3) hr (post4.fin R3)) rfl rfl

/-! ### calls -/
theorem callF_fill {f : String} {fd : Fn} {ds es : List D} {o : Ob} (hf : T.fn f = some fd) (h : filled fd ds = some es) : callF T n f ds o = callF T n f es o := by
  cases n with
  | zero => rfl
  | succ n =>
    have hl : es.length = fd.npar := by
      unfold filled at h
      split at h
      · cases h
        rename_i h
        rw [List.length_append, List.length_drop]
        omega
      · cases h
    have h2 : filled fd es = some es := by
      unfold filled
      rw [if_pos (by omega)]
      simp [hl]
    simp only [callF, hf, h, h2]
theorem callF_ok {f : String} {ds : List D} {o : Ob} (h : callF T n f ds o ≠ .stuck) : ∃ fd es, T.fn f = some fd ∧ filled fd ds = some es := by
  cases n with
  | zero => exact absurd rfl h
  | succ n =>
    unfold callF at h
    cases hf : T.fn f with
    | none => rw [hf] at h; exact absurd rfl h
    | some fd =>
      rw [hf] at h
      cases hg : filled fd ds with
      | none => simp only [hg] at h; exact absurd rfl h
      | some es => exact ⟨fd, es, rfl, hg⟩
theorem PostE.nst {K : PySem.W.Frag} {B b : Wd} {env : Sl} {σ : L2.St} {W : WX} {Q : VK} {res : Res Rv} (h : PostE K cl B b env σ W Q res) : res ≠ .stuck := fun e => by rw [e] at h; exact h
theorem PostE.f {K : PySem.W.Frag} {B b : Wd} {env : Sl} {σ : L2.St} {W : WX} {Q : VK} {res : Res Rv} {o : Ob} (R : Rel K cl B b env o σ) (h : PostE K cl B b env σ W Q res) : PostF K cl b Q (fun c d H => W c d σ H) res := by
  cases res with
  | ok r o' => exact fun v u' g bo rp => h v u' g (R.later g bo) rp.to
  | exn x o' => exact fun c d u' g bo xa => h c d u' g (R.later g bo) xa
  | stuck => exact h
/-- the promise met -/
theorem sp_of {K : PySem.W.Frag} {B u : Wd} {env : Sl} {σ : L2.St} {W : WX} {Q : VK} {o : Ob} {f : String} {fd : Fn} {ds es : List D} {vs dvs : List V} (R : Rel K cl B u env o σ) (hf : T.fn f = some fd) (hg : filled fd ds = some es)
    (rl : RepL K cl u.ι u.F vs ds) (rd : RepL K cl [] noHp dvs (fd.dfl.drop (fd.dfl.length - (fd.npar - ds.length)))) (post : PostE K cl B u env σ W Q (callF T n f ds o)) : spF K cl T n f (vs ++ dvs) u.H Q (fun c d H => W c d σ H) := by
  have hg' := hg
  unfold filled at hg
  split at hg
  · rename_i hc
    cases hg
    refine ⟨fd, u, o, _, hf, ?_, rfl, R.toBaseOk, rl.app rd.none_mono, ?_⟩
    · rw [List.length_append, List.length_drop]
      omega
    · rw [← callF_fill hf hg']
      exact post.f R
  · cases hg
theorem filled_le {fd : Fn} {ds es : List D} (h : filled fd ds = some es) : ds.length ≤ fd.npar ∧ fd.npar ≤ ds.length + fd.dfl.length := by
  unfold filled at h
  split at h
  · assumption
  · cases h
theorem pe_call0S {X : Cx} {CX : CXT} {k : Nat} {f : Addr} {fd : FuncData} {ps : List Str} {sp : Sp} {E : L2.St → XK} {x : Str} {p pos : Pos} {dvs : List V} {ds : List Value}
    (F : FnOk X.prog X.w X.K X.mg X.base CX k f fd ps sp) (hr : Room k X.A) (hg : Gl X x) (hm : X.mg x = some (.ref f)) (hk : PySem.W.keepIn X.K (.ref f) = true) (hb : Binds X.K fd ps ds) (hd : Vals dvs ds) (hx : ∀ σ, PassesAt CX X σ (E σ))
    (hdb : (x == ("__debug__" : Str)) = false) : PE X (.Call (.Name x p) [] [] pos) (tCallSD sp dvs E tNil) := by
  refine ⟨fun pins s σ H Q I h => ?_⟩
  refine wpAny_Call_Name_kw (ld_glob I hg hm ?_ hdb)
  exact PySem.W.callWith_K0 I.kIn hk (run_fnSD (us := []) (vs := []) F hr hb hd (hx σ) I .nil h)
theorem sn_call {f : String} {lo hi : Nat} {x : Str} {p p2 : Pos} (hg : glbB c x = true) (hl : c.gl.lookup x = some (.fn f lo hi)) (h1 : lo ≤ es.length) (h2 : es.length ≤ hi) (h : Sns cl T n c es exs) : Sn cl T n c (.Call (.Name x p) es [] p2) (.call f exs) := Snd.sn (fun X W k B u env o σ R Q post => by
  obtain ⟨g1, g2, _⟩ := k.glo hg
  obtain ⟨fd, a, fdt, ps, hf, a1, a2, hm, D⟩ := k.gl.fn x f lo hi hl
  simp only [ev] at post
  have hlen := h.len
  obtain ⟨dvs, dV, d1, d2, d3⟩ := D.bd exs.length (by omega) (by omega)
  have key : WA X es σ u.H (fun vs H1 => spF X.K cl T n f (vs ++ dvs) H1 Q (fun c d H => W c d σ H)) := by
    refine h.l X W k B u env o σ R _ (post.argsN fun ds o1 vs u1 hdl g1 R1 rl post1 => ?_)
    have hnst : callF T n f ds o1 ≠ .stuck := PostE.nst post1
    obtain ⟨fd', es', hf', hfl⟩ := callF_ok hnst
    rw [hf] at hf'
    cases hf'
    exact sp_of R1 hf hfl rl (by rw [hdl]; exact d1) post1
  cases es with
  | nil =>
    refine WE.of (pe_call0S D.ok k.room g1 hm D.kp d3 d2 (E := fun σ c d H => W c d σ H) (fun σ => passAt k.tk σ) g2) ?_
    have k2 : WA X [] σ u.H (fun vs H1 => spF X.K cl T n f (vs ++ dvs) H1 Q (fun c d H => W c d σ H)) := key
    have hx : exs = [] := by cases exs with | nil => rfl | cons _ _ => simp at hlen
    subst hx
    simp only [evs, Res.bind_ok, allFz, opt_some] at post
    have hnst : callF T n f [] o ≠ .stuck := PostE.nst post
    obtain ⟨fd', es', hf', hfl⟩ := callF_ok hnst
    rw [hf] at hf'
    cases hf'
    exact sp_of R hf hfl .nil d1 post
  | cons e es => exact WE.of (pe_callSD D.ok k.room g1 hm D.kp d3 d2 (E := fun σ c d H => W c d σ H) (fun σ => passAt k.tk σ) (pa_self _) g2 (star_of (h.sh e (List.mem_cons_self ..))) (back_of fun z hz => h.sh z (List.mem_cons_of_mem _ hz))) key) rfl rfl
theorem sn_blt {f : String} {fv : Value} {x : Str} {p p2 : Pos} (hg : glbB c x = true) (hl : c.gl.lookup x = some .blt) (hf : bltV f = some fv) (hb : bootBuiltins x = some fv) (h : Sns cl T n c (e :: es) exs) : Sn cl T n c (.Call (.Name x p) (e :: es) [] p2) (.blt f exs) := Snd.sn (fun X W k B u env o σ R Q post => by
  obtain ⟨g1, g2, g3⟩ := k.glo hg
  simp only [ev] at post
  have key : WA X (e :: es) σ u.H (fun vs H1 => VCall X fv vs H1 Q) := by
    refine h.v X W k B u env o σ R _ (post.views fun rs o1 vs u1 g1 R1 rl post1 => ?_)
    obtain ⟨r, hr, post2⟩ := post1.of_opt0
    exact blt_ok R1.toBaseOk rl hf hr (post2.fin R1)
  have st := star_of (es := es) (env := X.env) (h.sh e (List.mem_cons_self ..))
  have bk := back_of (pos := p2) (es := es) (env := X.env) (fun z hz => h.sh z (List.mem_cons_of_mem _ hz))
  have hk : (∃ id, fv = .builtin id) ∨ ∃ t, fv = .type t := by
    unfold bltV at hf
    split at hf <;> cases hf <;> first | exact .inl ⟨_, rfl⟩ | exact .inr ⟨_, rfl⟩
  rcases hk with ⟨id, rfl⟩ | ⟨t, rfl⟩
  · exact WE.of (pe_callB call_univ g1 (k.gl.blt x hl) hb (pa_self _) g3 g2 st bk) key
  · exact WE.of (pe_callTy call_univ g1 (k.gl.blt x hl) hb (pa_self _) g3 g2 st bk) key) rfl rfl

/-! ### methods of built-in types -/
def VMt (X : Cx) (id : String) (x : V) (xs : List V) (H : Hp) (Q : VK) : Prop :=
  ∀ (pins : List (Addr × Obj)) (s : Shared) (σ : L2.St) (v : Value) (us : List Value), Inv X pins σ H s → RelV x v → Vals xs us → wpAny (model X.prog X.w) X.A (call (.builtin id) (v :: us)) (EP X pins σ Q) X.xe s
theorem mt_univ {X : Cx} {id : String} : MtR X id (VMt X id) := fun pins s σ _ _ _ v us _ I rx rs h => h pins s σ v us I rx rs
theorem VMt.of {X : Cx} {id : String} {r : V → List V → Hp → VK → Prop} (h : MtR X id r) {x : V} {xs : List V} {H : Hp} {Q : VK} (q : r x xs H Q) : VMt X id x xs H Q := fun pins s σ v us I rx rs => h pins s σ H x xs v us Q I rx rs q
structure MthOk (m : Str) (ty id : String) : Prop where
  pa : PlainAttrs ty
  slot : Slot ty m id
  hty : typeOf (.builtin id) = pure (.type "method_descriptor")
theorem mthT_ok {m ty id : String} (h : mthT m = some (ty, id)) : MthOk (Str.ofString m) ty id := by
  unfold mthT at h
  split at h <;> cases h
  · exact ⟨PySem.F.plainAttrs_str, PySem.F.slot_str_find, PySem.F.type_str_find⟩
  · exact ⟨PySem.F.plainAttrs_str, PySem.F.slot_str_rfind, PySem.F.type_str_rfind⟩
  · exact ⟨PySem.F.plainAttrs_str, PySem.F.slot_str_count, PySem.F.type_str_count⟩
  · exact ⟨PySem.F.plainAttrs_str, PySem.F.slot_str_split, PySem.F.type_str_split⟩
  · exact ⟨PySem.F.plainAttrs_str, PySem.F.slot_str_join, PySem.F.type_str_join⟩
theorem rcv_ok {m ty id : String} {u : Wd} {v : V} {x : D} {K : PySem.W.Frag} (hm : mthT m = some (ty, id)) (h : rcvD m x = true) (hx : VwD K cl u v x) : tyV K ty v u.H := by
  unfold rcvD at h
  split at h <;> first
    | (cases h; done)
    | (cases hm; obtain rfl := hx.str; exact rfl)
theorem txts_rep {K : PySem.W.Frag} {ι : List Addr} {F : Hp} : ∀ {xs : List D} {ys : List (List Nat)} {vs : List V}, txts xs = some ys → RepL K cl ι F vs xs → vs = ys.map fun y => V.str (S y)
  | [], ys, vs, h, r => by cases h; cases r; rfl
  | x :: xs, ys, vs, h, r => by
    cases x <;> simp only [txts] at h <;> try cases h
    rename_i s
    cases h2 : txts xs with
    | none => rw [h2] at h; cases h
    | some zs =>
      rw [h2] at h
      cases h
      cases r with
      | cons a b =>
        cases a
        rw [txts_rep h2 b]
        rfl
theorem strs_rep {K : PySem.W.Frag} {ι : List Addr} {F : Hp} : ∀ (zs : List Str), RepL K cl ι F (zs.map V.str) (zs.map fun z => D.str z.cps.toList)
  | [] => .nil
  | z :: zs => by
    have h := RepD.str (K := K) (cl := cl) (ι := ι) (F := F) z.cps.toList
    rw [S_of] at h
    exact .cons h (strs_rep zs)
theorem join_sz (s : List Nat) (ys : List (List Nat)) : ((ys.map S).map (·.length)).sum + (ys.map S).length * (S s).length = (ys.map List.length).sum + ys.length * s.length := by
  rw [List.map_map, List.length_map, S_len]
  have : List.map ((fun x => x.length) ∘ S) ys = ys.map List.length := List.map_congr_left fun y _ => S_len y
  rw [this]
theorem mth_ok {X : Cx} {m ty id : String} {u : Wd} {o : Ob} {v : V} {x : D} {vs : List V} {ds : List D} {r : Rv} {Q : VK} (b : BaseOk X.K cl u o) (hm : mthT m = some (ty, id)) (hx : VwD X.K cl u v x) (hs : Vws X.K cl u vs ds)
    (e : mthD m x ds = some r) (q : Fin X.K cl u o r Q) : VMt X id v vs u.H Q := by
  unfold mthD at e
  split at e
  · cases hm; cases e; obtain rfl := hx.str; obtain ⟨w, rfl, h⟩ := hs.one; obtain rfl := h.str
    exact .of mt_find ⟨_, _, rfl, rfl, q.here b (.int _)⟩
  · cases hm; cases e; obtain rfl := hx.str; obtain ⟨w, w2, rfl, h, h2⟩ := hs.two; obtain rfl := h.str; obtain rfl := h2.int
    exact .of mt_find3 ⟨_, _, _, rfl, rfl, q.here b (.int _)⟩
  · cases hm; cases e; obtain rfl := hx.str; obtain ⟨w, rfl, h⟩ := hs.one; obtain rfl := h.str
    exact .of mt_rfind ⟨_, _, rfl, rfl, q.here b (.int _)⟩
  · cases hm; cases e; obtain rfl := hx.str; obtain ⟨w, rfl, h⟩ := hs.one; obtain rfl := h.str
    exact .of mt_count ⟨_, _, rfl, rfl, q.here b (.int _)⟩
  · cases hm; obtain rfl := hx.str; obtain ⟨w, rfl, h⟩ := hs.one; obtain rfl := h.str
    split at e
    · rename_i hc
      cases e
      refine .of mt_split ⟨_, _, rfl, rfl, ?_, by rw [S_len]; exact hc.2, fun p hp => q.lst b (strs_rep _) hp⟩
      rw [S_len]
      rename_i t
      cases t with
      | nil => simp at hc
      | cons _ _ => rfl
    · cases e
  · cases hm; obtain rfl := hx.str; obtain ⟨w, rfl, h⟩ := hs.one; obtain ⟨a, ws, rfl, h1, h2⟩ := h.lst b.sub
    rename_i s xs
    cases ht : txts xs with
    | none => rw [ht] at e; cases e
    | some ys =>
      rw [ht] at e
      simp only [Option.bind_some] at e
      split at e
      · rename_i hc
        cases e
        have hv := txts_rep ht h2
        refine .of mt_join ⟨_, a, ys.map S, rfl, rfl, .inl ?_, ?_, q.str b⟩
        · rw [List.map_map]
          rw [hv] at h1
          exact h1
        · rw [join_sz]; exact hc
      · cases e
  · cases hm; obtain rfl := hx.str; obtain ⟨w, rfl, h⟩ := hs.one; obtain ⟨a, ws, rfl, h1, h2⟩ := h.tup
    rename_i s xs
    cases ht : txts xs with
    | none => rw [ht] at e; cases e
    | some ys =>
      rw [ht] at e
      simp only [Option.bind_some] at e
      split at e
      · rename_i hc
        cases e
        have hv := txts_rep ht h2
        refine .of mt_join ⟨_, a, ys.map S, rfl, rfl, .inr ?_, ?_, q.str b⟩
        · rw [List.map_map]
          rw [hv] at h1
          exact b.sub.st h1
        · rw [join_sz]; exact hc
      · cases e
  · cases e
theorem few_of {es : List Expr} {env : Env} {cpos : Pos} (h : ∀ x ∈ es, okShape x = true) (hf : es.length < 30) :
    ((backTo cpos (starEach es env)).all (fun x => !x.1) && (backToKw cpos (keywordEach [] env)).all (fun x => x.1.isSome)
      && decide (es.length + ([] : List Keyword).length + (if ([] : List Keyword).isEmpty then 0 else 1) < 30)) = true := by
  have h1 : (backTo cpos (starEach es env)).all (fun x => !x.1) = true := by
    induction es with
    | nil => rfl
    | cons e es ih =>
      rw [star_of (h e (List.mem_cons_self ..))]
      show (!false && (backTo cpos (starEach es env)).all (fun x => !x.1)) = true
      rw [ih (fun x hx => h x (List.mem_cons_of_mem _ hx)) (by simp only [List.length_cons] at hf; omega)]
      rfl
  rw [h1]
  simp [keywordEach, backToKw]
  exact hf
theorem sn_mth {x : Str} {o : Expr} {o' : Ex} {p p2 : Pos} {m ty id : String} (hx : x = Str.ofString m) (hm : mthT m = some (ty, id)) (ho : Sn cl T n c o o') (h0 : notCall0 o = true) (h : Sns cl T n c (e :: es) exs) (hl : (p.endLine == p2.line) = true) (hf : (e :: es).length < 30) :
    Sn cl T n c (.Call (.Attribute o x p) (e :: es) [] p2) (.mth m o' exs) := Snd.sn (fun X W k B u env ob σ R Q post => by
  subst hx
  simp only [ev] at post
  obtain ⟨pa, slot, hty⟩ := mthT_ok hm
  refine WE.of (pe_bm pa slot hty mt_univ (pe_self o) (pa_self (e :: es)) (base_of h0) (few_of h.sh hf) hl (star_of (h.sh e (List.mem_cons_self ..))) (back_of fun z hz => h.sh z (List.mem_cons_of_mem _ hz))) ?_
  refine ho.v X W k B u env ob σ R _ (post.bind fun r1 o1 v1 u1 _ g1 R1 rp1 post1 => ?_)
  obtain ⟨hr, post2⟩ := post1.of_if
  refine ⟨rcv_ok hm hr rp1.vw, ?_⟩
  refine h.v X W k B u1 env o1 σ R1 _ (post2.views fun rs o2 vs u2 g2 R2 rl post3 => ?_)
  obtain ⟨r, hr2, post4⟩ := post3.of_opt0
  exact mth_ok R2.toBaseOk hm (rp1.vw.mono g2) rl hr2 (post4.fin R2)) rfl rfl
end
end PI

namespace PI
open PySem PySem.Spec PyProof.Rows L2 HT

/-! ### stores into slots -/
section
variable {K : PySem.W.Frag} {cl : String → Option Addr} {B b u u' : Wd} {env : Sl} {σ : L2.St} {o o' : Ob} {v : V} {d : D}
theorem Rel.set (R : Rel K cl B u env o σ) (i : Nat) (r : Option Rv) (x : Option V) (hs : SlOk K cl B u (σ.set i x) i r) (hd : ∀ c, r = some (.own c) → ∀ j c', j ≠ i → env[j]? = some (some (.own c')) → ∀ a, x = some (.ref a) → σ[j]? ≠ some (some (.ref a))) :
    Rel K cl B u (env.set i r) o (σ.set i x) := by
  by_cases hi : i < env.length
  · have hi' : i < σ.length := by rw [R.sln]; exact hi
    refine { toBaseOk := R.toBaseOk, sln := by simp [R.sln], sl := fun j q e => ?_, apart := fun j k c c' a e1 e2 e3 e4 => ?_, grow := R.grow }
    · by_cases hj : j = i
      · subst hj
        rw [List.getElem?_set_self hi] at e
        cases e
        exact hs
      · rw [List.getElem?_set_ne (Ne.symm hj)] at e
        have q0 := R.sl j q e
        match q, q0 with
        | none, _ => trivial
        | some (.val d), ⟨v, e1, h⟩ => exact ⟨v, by rw [List.getElem?_set_ne (Ne.symm hj)]; exact e1, h⟩
        | some (.own c2), ⟨a2, e2, h⟩ => exact ⟨a2, by rw [List.getElem?_set_ne (Ne.symm hj)]; exact e2, h⟩
    · by_cases hj : j = i
      · subst hj
        by_cases hk : k = j
        · exact hk.symm
        · rw [List.getElem?_set_self hi] at e1
          rw [List.getElem?_set_self hi'] at e3
          rw [List.getElem?_set_ne (Ne.symm hk)] at e2 e4
          cases e1
          cases e3
          exact absurd e4 (hd c rfl k c' hk e2 a rfl)
      · by_cases hk : k = i
        · subst hk
          rw [List.getElem?_set_self hi] at e2
          rw [List.getElem?_set_self hi'] at e4
          rw [List.getElem?_set_ne (Ne.symm hj)] at e1 e3
          cases e2
          cases e4
          exact absurd e3 (hd c' rfl j c hj e1 a rfl)
        · rw [List.getElem?_set_ne (Ne.symm hj)] at e1 e3
          rw [List.getElem?_set_ne (Ne.symm hk)] at e2 e4
          exact R.apart j k c c' a e1 e2 e3 e4
  · rw [List.set_eq_of_length_le (by omega), List.set_eq_of_length_le (by rw [R.sln]; omega)]
    exact R
theorem getElem_set_self' {α : Type} {l : List α} {i : Nat} {x y : α} (h : l[i]? = some y) : (l.set i x)[i]? = some x := by
  have : i < l.length := (List.getElem?_eq_some_iff.mp h).1
  rw [List.getElem?_set_self this]
theorem Rel.setV (R : Rel K cl B u env o σ) (i : Nat) (h : RepD K cl u.ι u.F v d) : Rel K cl B u (env.set i (some (.val d))) o (σ.set i (some v)) := by
  by_cases hi : i < σ.length
  · exact R.set i _ _ ⟨v, by rw [List.getElem?_set_self hi], h⟩ fun c e => by cases e
  · rw [List.set_eq_of_length_le (by rw [← R.sln]; omega), List.set_eq_of_length_le (by omega)]
    exact R
theorem Rel.setN (R : Rel K cl B u env o σ) (i : Nat) : Rel K cl B u (env.set i none) o (σ.set i none) := R.set i _ _ trivial fun c e => by cases e
theorem Rel.wipe (R : Rel K cl B u env o σ) : ∀ vs : List Nat, Rel K cl B u (wipeE env vs) o (L2.wipe σ vs)
  | [] => R
  | v :: vs => (Rel.wipe R vs).setN v
/-- the slots of a store, in the model -/
def setS : Tg → List V → L2.St → L2.St
  | .one i, vs, σ => σ.set i (vs[0]?)
  | .many is, vs, σ => (is.zip vs).foldl (fun s p => s.set p.1 (some p.2)) σ
def gsOf : List Nat → TGs
  | [] => gNil
  | i :: is => gCons (gName i) (gsOf is)
def gOf (K : PySem.W.Frag) : Tg → TG
  | .one i => gName i
  | .many is => gTup K is.length (gsOf is)
theorem gsOf_run {Q : L2.St → Hp → Prop} {H : Hp} : ∀ {is : List Nat} {vs : List V} {σ : L2.St}, vs.length = is.length → Q ((is.zip vs).foldl (fun s p => s.set p.1 (some p.2)) σ) H → gsOf is vs σ H Q
  | [], [], σ, _, h => ⟨rfl, h⟩
  | [], _ :: _, σ, e, _ => by cases e
  | _ :: _, [], σ, e, _ => by cases e
  | i :: is, v :: vs, σ, e, h => ⟨v, vs, rfl, gsOf_run (σ := σ.set i (some v)) (by simpa using e) h⟩
theorem sets_rel : ∀ (is : List Nat) (vs : List V) (ds : List D) (en : Sl) (τ : L2.St), Rel K cl B u en o τ → RepL K cl u.ι u.F vs ds →
    Rel K cl B u ((is.zip ds).foldl (fun s p => s.set p.1 (some (.val p.2))) en) o ((is.zip vs).foldl (fun s p => s.set p.1 (some p.2)) τ)
  | [], _, _, _, _, R, _ => by simpa using R
  | i :: is, [], ds, _, _, R, h => by cases h; simpa using R
  | i :: is, v :: vs, [], _, _, R, h => by cases h
  | i :: is, v :: vs, d :: ds, en, τ, R, h => by
    cases h with
    | cons a b => exact sets_rel is vs ds _ _ (R.setV i a) b
theorem wipe_set {σ : L2.St} {i : Nat} {x : Option V} : ∀ {l : List Nat}, i ∈ l → L2.wipe (σ.set i x) l = L2.wipe σ l
  | v :: vs, h => by
    show (L2.wipe (σ.set i x) vs).set v none = (L2.wipe σ vs).set v none
    by_cases hi : i ∈ vs
    · rw [wipe_set hi]
    · have hv : i = v := (List.mem_cons.mp h).resolve_right hi
      subst hv
      have : ∀ (l : List Nat) (τ : L2.St), i ∉ l → L2.wipe (τ.set i x) l = (L2.wipe τ l).set i x := by
        intro l
        induction l with
        | nil => intro τ _; rfl
        | cons w ws ih =>
          intro τ hn
          have h1 : i ≠ w := fun e => hn (e ▸ List.mem_cons_self ..)
          have h2 : i ∉ ws := fun m => hn (List.mem_cons_of_mem _ m)
          show (L2.wipe (τ.set i x) ws).set w none = ((L2.wipe τ ws).set w none).set i x
          rw [ih τ h2, List.set_comm _ _ h1]
      rw [this vs σ hi, List.set_set]
theorem wipe_wipe {σ : L2.St} : ∀ {l : List Nat}, L2.wipe (L2.wipe σ l) l = L2.wipe σ l := by
  intro l
  have : ∀ (m l : List Nat) (τ : L2.St), (∀ x ∈ m, x ∈ l) → L2.wipe (L2.wipe τ m) l = L2.wipe τ l := by
    intro m
    induction m with
    | nil => intro l τ _; rfl
    | cons v vs ih =>
      intro l τ h
      show L2.wipe ((L2.wipe τ vs).set v none) l = L2.wipe τ l
      rw [wipe_set (h v (List.mem_cons_self ..)), ih l τ fun x hx => h x (List.mem_cons_of_mem _ hx)]
  exact this l l σ fun _ h => h
theorem wipe_sets {l : List Nat} : ∀ {is : List Nat} {vs : List V} {τ : L2.St}, (∀ i ∈ is, i ∈ l) → L2.wipe ((is.zip vs).foldl (fun s p => s.set p.1 (some p.2)) τ) l = L2.wipe τ l
  | [], _, τ, _ => by simp
  | i :: is, [], τ, _ => by simp
  | i :: is, v :: vs, τ, h => by
    show L2.wipe ((is.zip vs).foldl _ (τ.set i (some v))) l = _
    rw [wipe_sets fun j hj => h j (List.mem_cons_of_mem _ hj), wipe_set (h i (List.mem_cons_self ..))]
/-- a store into a target -/
theorem g_run {t : Tg} {env' : Sl} {Q : L2.St → Hp → Prop} (R : Rel K cl B u env o σ) (hv : RepD K cl u.ι u.F v d) (e : setT t d env = some env')
    (q : ∀ σ', Rel K cl B u env' o σ' → (∀ l : List Nat, tgIn t l = true → L2.wipe σ' l = L2.wipe σ l) → Q σ' u.H) : gOf K t v σ u.H Q := by
  cases t with
  | one i =>
    cases e
    exact q _ (R.setV i hv) fun l hl => wipe_set (by simpa [tgIn] using hl)
  | many is =>
    cases d <;> simp only [setT] at e <;> try cases e
    rename_i xs
    split at e
    · rename_i hl
      cases e
      cases hv with
      | tup h1 h2 =>
        rename_i a vs
        refine ⟨a, vs, rfl, R.sub.st h1, by rw [h2.length]; exact hl, gsOf_run (by rw [h2.length]; exact hl) (q _ (sets_rel is vs xs env σ R h2) fun l hl => wipe_sets fun i hi => ?_)⟩
        have : is.all l.contains = true := hl
        have := List.all_eq_true.mp this i hi
        simpa using this
    · cases e
end

/-! ### targets -/
section
variable {cl : String → Option Addr} {T : Tab} {n : Nat} {c : CC} {W : WX} {X : Cx}
theorem each_name {x : Str} {p : Pos} {es : List Expr} {env : Env} : assignEach (.Name x p :: es) env = (false, assign (.Name x p) env) :: assignEach es env := rfl
theorem cts_len {es : List Expr} {is : List Nat} {env : Env} (h : CTs c es is) : (assignEach es env).length = is.length ∧ (assignEach es env).findIdx? (·.1) = none := by
  induction h with
  | nil => exact ⟨rfl, rfl⟩
  | cons hN hl hs ih =>
    rw [each_name]
    obtain ⟨h1, h2⟩ := ih
    refine ⟨by simp [h1], ?_⟩
    rw [List.findIdx?_cons, h2]
    rfl
theorem pgs_of (k : CtxOk cl T n c W X) {es : List Expr} {is : List Nat} (h : CTs c es is) : PGs X es (gsOf is) := by
  induction h with
  | nil => exact pgs_nil
  | cons hN hl hs ih => exact pgs_cons (pg_name k.nd (by rw [k.N]; exact hN) (k.loc hl) (k.fnl _ hl)) ih (by rw [each_name]; rfl)
theorem pg_of (k : CtxOk cl T n c W X) {e : Expr} {t : Tg} (h : CT c e t) : PG X e (gOf X.K t) := by
  cases h with
  | one hN hl => exact pg_name k.nd (by rw [k.N]; exact hN) (k.loc hl) (k.fnl _ hl)
  | many h hn =>
    obtain ⟨h1, h2⟩ := cts_len (env := X.env) h
    exact pg_tup k.calm (pgs_of k h) h1 h2
end

/-! ### what is walked -/
/-- J goes over xs while nothing that stood is changed -/
def ItOk (K : PySem.W.Frag) (cl : String → Option Addr) (u : Wd) (J : It) (xs : List D) : Prop := ∀ w : Wd, Grow u w → Sub w.F w.H → ∀ i : Nat,
  (∀ d, xs[i]? = some d → J.go i w.H ∧ ∀ x H', J.yld i w.H x H' → H' = w.H ∧ RepD K cl w.ι w.F x d) ∧ (xs.length ≤ i → J.stop i w.H)
/-- .. whatever our own code does -/
def ItOkF (K : PySem.W.Frag) (cl : String → Option Addr) (u : Wd) (J : It) (xs : List D) : Prop := ∀ w : Wd, Pre u.ι w.ι → Sub u.F w.F → Sub w.F w.H → ∀ i : Nat,
  (∀ d, xs[i]? = some d → J.go i w.H ∧ ∀ x H', J.yld i w.H x H' → H' = w.H ∧ RepD K cl w.ι w.F x d) ∧ (xs.length ≤ i → J.stop i w.H)
section
variable {K : PySem.W.Frag} {cl : String → Option Addr} {u : Wd} {v : V} {d : D} {xs : List D}
theorem ItOkF.grow {J : It} (h : ItOkF K cl u J xs) : ItOk K cl u J xs := fun w g s => h w g.pre g.sF s
theorem it_list {a : Addr} {vs : List V} {w : Wd} (h1 : SqL K w.H a vs) (h2 : RepL K cl w.ι w.F vs xs) (i : Nat) :
    (∀ d, xs[i]? = some d → (Itl K a).go i w.H ∧ ∀ x H', (Itl K a).yld i w.H x H' → H' = w.H ∧ RepD K cl w.ι w.F x d) ∧ (xs.length ≤ i → (Itl K a).stop i w.H) := by
  refine ⟨fun d hd => ?_, fun hi => ⟨vs, h1, by rw [h2.length]; exact hi⟩⟩
  obtain ⟨v, hv, rv⟩ := h2.get hd
  refine ⟨⟨vs, v, h1, hv⟩, fun x H' hy => ?_⟩
  obtain ⟨rfl, hx⟩ := hy
  have := hx vs h1
  rw [hv] at this
  cases this
  exact ⟨rfl, rv⟩
theorem it_tup {a : Addr} {vs : List V} {w : Wd} (h1 : SqT K w.H a vs) (h2 : RepL K cl w.ι w.F vs xs) (i : Nat) :
    (∀ d, xs[i]? = some d → (Itt K a).go i w.H ∧ ∀ x H', (Itt K a).yld i w.H x H' → H' = w.H ∧ RepD K cl w.ι w.F x d) ∧ (xs.length ≤ i → (Itt K a).stop i w.H) := by
  refine ⟨fun d hd => ?_, fun hi => ⟨vs, h1, by rw [h2.length]; exact hi⟩⟩
  obtain ⟨v, hv, rv⟩ := h2.get hd
  refine ⟨⟨vs, v, h1, hv⟩, fun x H' hy => ?_⟩
  obtain ⟨rfl, hx⟩ := hy
  have := hx vs h1
  rw [hv] at this
  cases this
  exact ⟨rfl, rv⟩
theorem it_rng {lo : Int} {m : Nat} : ItOkF K cl u (Itr lo m) ((List.range m).map fun k => .int (lo + (k : Nat))) := fun w _ _ _ i => by
  refine ⟨fun d hd => ?_, fun hi => ?_⟩
  · rw [List.getElem?_map] at hd
    cases hr : (List.range m)[i]? with
    | none => rw [hr] at hd; cases hd
    | some j =>
      rw [hr] at hd
      cases hd
      obtain ⟨hi, ej⟩ := List.getElem?_eq_some_iff.mp hr
      rw [List.getElem_range] at ej
      subst ej
      refine ⟨(show i < m by simpa using hi), fun x H' hy => ?_⟩
      obtain ⟨rfl, rfl⟩ := hy
      exact ⟨rfl, .int _⟩
  · rw [List.length_map, List.length_range] at hi
    exact hi
end
section
variable {cl : String → Option Addr} {T : Tab} {n : Nat} {c : CC} {e : Expr} {ex : Ex} {es : List Expr} {exs : List Ex}
def WI (X : Cx) (tg e : Expr) : TI := fun σ H R => ∀ (pins : List (Addr × Obj)) (s : Shared), Inv X pins σ H s → wpAny (model X.prog X.w) X.A (eval e X.env) (fun v s1 => wpAny (model X.prog X.w) X.A (pyIter v) (PIE X pins σ tg R) X.xe s1) X.xe s
theorem pi_self {X : Cx} {tg e : Expr} : PI X tg e (WI X tg e) := ⟨fun pins s _ _ _ I h => h pins s I⟩
theorem WI.of {X : Cx} {tg e : Expr} {t : TI} (p : PI X tg e t) {σ : L2.St} {H : Hp} {R : It → Hp → Prop} (h : t σ H R) : WI X tg e σ H R := fun pins s I => p.run pins s σ H R I h
def PostI (K : PySem.W.Frag) (cl : String → Option Addr) (B b : Wd) (env : Sl) (σ : L2.St) (W : WX) (Ok : Wd → It → List D → Prop) (Q : It → Hp → Prop) : Res (List D) → Prop
  | .ok xs o' => ∀ J u', Grow b u' → Rel K cl B u' env o' σ → Ok u' J xs → Q J u'.H
  | .exn x o' => ∀ c d u', Grow b u' → Rel K cl B u' env o' σ → XnAt K cl u' x c d → W c d σ u'.H
  | .stuck => False
/-- a comprehension's source; a for's -/
def evI (P : Prm) (σ : Sl) (it : Ex) (o : Ob) : Res (List D) := match it with
  | .rng es => (evs P σ es o).bind fun rs o => opt (rngD (rs.map Rv.vw)) o
  | it => (ev P σ it o).bind fun x o => opt (itD x.vw) o
def evIF (P : Prm) (σ : Sl) (it : Ex) (o : Ob) : Res (List D) := match it with
  | .rng es => (evs P σ es o).bind fun rs o => opt (rngD (rs.map Rv.vw)) o
  | it => (ev P σ it o).bind fun x o => (opt x.fz o).bind fun d o => opt (itD d) o
def SndI (cl : String → Option Addr) (T : Tab) (n : Nat) (c : CC) (e : Expr) (it : Ex) : Prop := ∀ (X : Cx) (W : WX) (tg : Expr), CtxOk cl T n c W X → ∀ (B u : Wd) (env : Sl) (o : Ob) (σ : L2.St), Rel X.K cl B u env o σ → ∀ Q : It → Hp → Prop,
  PostI X.K cl B u env σ W (ItOk X.K cl) Q (evI (prm T n) env it o) → WI X tg e σ u.H Q
def SndIF (cl : String → Option Addr) (T : Tab) (n : Nat) (c : CC) (e : Expr) (it : Ex) : Prop := ∀ (X : Cx) (W : WX) (tg : Expr), CtxOk cl T n c W X → ∀ (B u : Wd) (env : Sl) (o : Ob) (σ : L2.St), Rel X.K cl B u env o σ → ∀ Q : It → Hp → Prop,
  PostI X.K cl B u env σ W (ItOkF X.K cl) Q (evIF (prm T n) env it o) → WI X tg e σ u.H Q
structure Sni (cl : String → Option Addr) (T : Tab) (n : Nat) (c : CC) (e : Expr) (it : Ex) : Prop where
  v : SndI cl T n c e it
  f : SndIF cl T n c e it
  sh : okShape e = true
theorem wi_univ {X : Cx} {tg e : Expr} {σ : L2.St} {H : Hp} {Q : It → Hp → Prop} (h : ∃ t : TI, PI X tg e t ∧ t σ H Q) : WI X tg e σ H Q := by
  obtain ⟨t, p, h⟩ := h
  exact WI.of p h
theorem rng_main {X : Cx} {W : WX} {Ok : Wd → It → List D → Prop} (hok : ∀ u J xs, ItOkF X.K cl u J xs → Ok u J xs) (k : CtxOk cl T n c W X) (h : Sns cl T n c es exs)
    {B u : Wd} {env : Sl} {o : Ob} {σ : L2.St} (R : Rel X.K cl B u env o σ) {Q : It → Hp → Prop} (post : PostI X.K cl B u env σ W Ok Q ((evs (prm T n) env exs o).bind fun rs o => opt (rngD (rs.map Rv.vw)) o)) :
    WA X es σ u.H (fun vs H1 => vs.length = exs.length ∧ ((∃ j : Int, vs = [.int j] ∧ -(2 ^ 62) ≤ j ∧ j < 2 ^ 62 ∧ Q (Itr 0 j.toNat) H1) ∨ ∃ i j : Int, vs = [.int i, .int j] ∧ (-(2 ^ 62) ≤ i ∧ i < 2 ^ 62 ∧ -(2 ^ 62) ≤ j ∧ j < 2 ^ 62) ∧ Q (Itr i (j - i).toNat) H1)) := by
  refine h.v X W k B u env o σ R _ ?_
  cases hr : evs (prm T n) env exs o with
  | stuck => rw [hr] at post; exact post
  | exn x o1 => rw [hr] at post; exact post
  | ok rs o1 =>
    rw [hr] at post
    intro vs u1 gr R1 rl
    simp only [Res.bind_ok] at post
    have hlen := evs_len hr
    unfold rngD at post
    split at post
    · rename_i j hj
      split at post
      · rename_i hc
        have h1 := congrArg List.length hj
        rw [hj] at rl
        obtain ⟨w, rfl, hw⟩ := rl.one
        obtain rfl := hw.int
        simp only [List.length_map] at h1
        exact ⟨by rw [← hlen, h1]; rfl, .inl ⟨j, rfl, hc.1, hc.2, post _ u1 gr R1 (hok _ _ _ it_rng)⟩⟩
      · exact post.elim
    · rename_i i j hj
      split at post
      · rename_i hc
        have h1 := congrArg List.length hj
        rw [hj] at rl
        obtain ⟨w, w2, rfl, hw, hw2⟩ := rl.two
        obtain rfl := hw.int
        obtain rfl := hw2.int
        simp only [List.length_map] at h1
        exact ⟨by rw [← hlen, h1]; rfl, .inr ⟨i, j, rfl, hc, post _ u1 gr R1 (hok _ _ _ it_rng)⟩⟩
      · exact post.elim
    · exact post.elim
theorem sni_rng1 {x : Str} {p p2 : Pos} {a : Expr} {a' : Ex} (hg : glbB c x = true) (hx : x = ("range" : Str)) (hl : c.gl.lookup x = some .blt) (ha : Sn cl T n c a a') : Sni cl T n c (.Call (.Name x p) [a] [] p2) (.rng [a']) := by
  subst hx
  have main : ∀ {Ok : Cx → Wd → It → List D → Prop} {ev' : Prm → Sl → Ex → Ob → Res (List D)}, (∀ X u J xs, ItOkF X.K cl u J xs → Ok X u J xs) → (∀ P σ o, ev' P σ (.rng [a']) o = (evs P σ [a'] o).bind fun rs o => opt (rngD (rs.map Rv.vw)) o) →
      ∀ (X : Cx) (W : WX) (tg : Expr), CtxOk cl T n c W X → ∀ (B u : Wd) (env : Sl) (o : Ob) (σ : L2.St), Rel X.K cl B u env o σ → ∀ Q : It → Hp → Prop,
        PostI X.K cl B u env σ W (Ok X) Q (ev' (prm T n) env (.rng [a']) o) → WI X tg (.Call (.Name ("range" : Str) p) [a] [] p2) σ u.H Q := fun {Ok ev'} hok hev X W tg k B u env o σ R Q post => by
    obtain ⟨g1, g2, g3⟩ := k.glo hg
    rw [hev] at post
    refine WI.of (pi_range1 g1 (k.gl.blt _ hl) (pa_self [a]) (star_of ha.sh)) ?_
    intro pos pins s I
    refine thn (rng_main (hok X) k (sns_cons ha sns_nil) R post pos pins s I) fun us s1 ⟨vs, H1, I1, r1, hlen, q⟩ => ⟨vs, H1, I1, r1, ?_⟩
    rcases q with q | ⟨i, j, e, _⟩
    · exact q
    · subst e
      cases hlen
  exact ⟨main (Ok := fun X => ItOk X.K cl) (ev' := evI) (fun X u J xs h => h.grow) (fun P σ o => rfl), main (Ok := fun X => ItOkF X.K cl) (ev' := evIF) (fun X u J xs h => h) (fun P σ o => rfl), rfl⟩
theorem sni_rng2 {x : Str} {p p2 : Pos} {a b : Expr} {a' b' : Ex} (hg : glbB c x = true) (hx : x = ("range" : Str)) (hl : c.gl.lookup x = some .blt) (ha : Sn cl T n c a a') (hb : Sn cl T n c b b') : Sni cl T n c (.Call (.Name x p) [a, b] [] p2) (.rng [a', b']) := by
  subst hx
  have main : ∀ {Ok : Cx → Wd → It → List D → Prop} {ev' : Prm → Sl → Ex → Ob → Res (List D)}, (∀ X u J xs, ItOkF X.K cl u J xs → Ok X u J xs) → (∀ P σ o, ev' P σ (.rng [a', b']) o = (evs P σ [a', b'] o).bind fun rs o => opt (rngD (rs.map Rv.vw)) o) →
      ∀ (X : Cx) (W : WX) (tg : Expr), CtxOk cl T n c W X → ∀ (B u : Wd) (env : Sl) (o : Ob) (σ : L2.St), Rel X.K cl B u env o σ → ∀ Q : It → Hp → Prop,
        PostI X.K cl B u env σ W (Ok X) Q (ev' (prm T n) env (.rng [a', b']) o) → WI X tg (.Call (.Name ("range" : Str) p) [a, b] [] p2) σ u.H Q := fun {Ok ev'} hok hev X W tg k B u env o σ R Q post => by
    obtain ⟨g1, g2, g3⟩ := k.glo hg
    rw [hev] at post
    refine WI.of (pi_range2 g1 (k.gl.blt _ hl) (pa_self [a, b]) (by rw [star_of ha.sh, star_of hb.sh]; rfl) (star_of hb.sh)) ?_
    intro pos pins s I
    refine thn (rng_main (hok X) k (sns_cons ha (sns_cons hb sns_nil)) R post pos pins s I) fun us s1 ⟨vs, H1, I1, r1, hlen, q⟩ => ⟨vs, H1, I1, r1, ?_⟩
    rcases q with ⟨j, e, _⟩ | q
    · subst e
      cases hlen
    · exact q
  exact ⟨main (Ok := fun X => ItOk X.K cl) (ev' := evI) (fun X u J xs h => h.grow) (fun P σ o => rfl), main (Ok := fun X => ItOkF X.K cl) (ev' := evIF) (fun X u J xs h => h) (fun P σ o => rfl), rfl⟩
theorem evI_seq {P : Prm} {σ : Sl} {it : Ex} {o : Ob} (h : isRng it = false) : evI P σ it o = (ev P σ it o).bind fun x o => opt (itD x.vw) o := by
  cases it <;> first | rfl | (simp [isRng] at h; done)
theorem evIF_seq {P : Prm} {σ : Sl} {it : Ex} {o : Ob} (h : isRng it = false) : evIF P σ it o = (ev P σ it o).bind fun x o => (opt x.fz o).bind fun d o => opt (itD d) o := by
  cases it <;> first | rfl | (simp [isRng] at h; done)
theorem it_vlst {K : PySem.W.Frag} {u : Wd} {v : V} {xs : List D} (s : Sub u.F u.H) (h : VwD K cl u v (.lst xs)) : ∃ a, v = .ref a ∧ (∃ vs, SqL K u.H a vs) ∧ ItOk K cl u (Itl K a) xs := by
  rcases h with h | ⟨a, ct, e1, e2, nm, hc⟩
  · cases h with
    | lst h1 h2 => exact ⟨_, rfl, ⟨_, s.sl h1⟩, fun w g sw i => it_list (sw.sl (g.sF.sl h1)) (RepL.mono g.pre g.sF _ h2) i⟩
  · cases ct with
    | lst ys =>
      cases e2
      obtain ⟨vs, h1, h2⟩ := hc
      exact ⟨a, e1, ⟨vs, .inl (.inl h1)⟩, fun w g sw i => it_list (.inl (.inl (g.keep _ _ h1 nm))) (RepL.mono g.pre g.sF _ h2) i⟩
    | dct _ => cases e2
theorem it_vtup {K : PySem.W.Frag} {u : Wd} {v : V} {xs : List D} (s : Sub u.F u.H) (h : VwD K cl u v (.tup xs)) : ∃ a, v = .ref a ∧ (∃ vs, SqT K u.H a vs) ∧ ItOkF K cl u (Itt K a) xs := by
  obtain ⟨a, vs, rfl, h1, h2⟩ := h.tup
  exact ⟨a, rfl, ⟨vs, s.st h1⟩, fun w p f sw i => it_tup (sw.st (f.st h1)) (RepL.mono p f _ h2) i⟩
theorem it_flst {K : PySem.W.Frag} {u : Wd} {v : V} {xs : List D} (s : Sub u.F u.H) (h : RepD K cl u.ι u.F v (.lst xs)) : ∃ a, v = .ref a ∧ (∃ vs, SqL K u.H a vs) ∧ ItOkF K cl u (Itl K a) xs := by
  cases h with
  | lst h1 h2 => exact ⟨_, rfl, ⟨_, s.sl h1⟩, fun w p f sw i => it_list (sw.sl (f.sl h1)) (RepL.mono p f _ h2) i⟩
theorem sni_seq {it : Ex} (h : Sn cl T n c e it) (hr : isRng it = false) : Sni cl T n c e it := by
  refine ⟨fun X W tg k B u env o σ R Q post => ?_, fun X W tg k B u env o σ R Q post => ?_, h.sh⟩
  · rw [evI_seq hr] at post
    cases hv : ev (prm T n) env it o with
    | stuck => rw [hv] at post; exact post.elim
    | exn x o1 =>
      rw [hv] at post
      refine wi_univ ⟨_, pi_list (pe_self e), h.v X W k B u env o σ R _ ?_⟩
      rw [hv]
      exact post
    | ok r o1 =>
      rw [hv] at post
      simp only [Res.bind_ok] at post
      cases hrv : r.vw <;> rw [hrv] at post <;> first
        | exact post.elim
        | skip
      · rename_i ys
        refine wi_univ ⟨_, pi_tup (pe_self e), h.v X W k B u env o σ R _ ?_⟩
        rw [hv]
        intro v u1 g1 R1 rp
        have hw := rp.vw
        rw [hrv] at hw
        obtain ⟨a, rfl, hs, hi⟩ := it_vtup R1.sub hw
        exact ⟨a, rfl, hs, post _ u1 g1 R1 hi.grow⟩
      · rename_i ys
        refine wi_univ ⟨_, pi_list (pe_self e), h.v X W k B u env o σ R _ ?_⟩
        rw [hv]
        intro v u1 g1 R1 rp
        have hw := rp.vw
        rw [hrv] at hw
        obtain ⟨a, rfl, hs, hi⟩ := it_vlst R1.sub hw
        exact ⟨a, rfl, hs, post _ u1 g1 R1 hi⟩
  · rw [evIF_seq hr] at post
    cases hv : ev (prm T n) env it o with
    | stuck => rw [hv] at post; exact post.elim
    | exn x o1 =>
      rw [hv] at post
      refine wi_univ ⟨_, pi_list (pe_self e), h.v X W k B u env o σ R _ ?_⟩
      rw [hv]
      exact post
    | ok r o1 =>
      rw [hv] at post
      simp only [Res.bind_ok] at post
      cases hz : r.fz with
      | none => rw [hz] at post; exact post.elim
      | some d =>
        rw [hz] at post
        simp only [opt_some, Res.bind_ok] at post
        cases d <;> first
          | exact post.elim
          | skip
        · rename_i ys
          refine wi_univ ⟨_, pi_tup (pe_self e), h.v X W k B u env o σ R _ ?_⟩
          rw [hv]
          intro v u1 g1 R1 rp
          obtain ⟨u1', e1, g1', R1', rd, _⟩ := rp.fz R R1 g1 hz
          obtain ⟨a, rfl, hs, hi⟩ := it_vtup R1'.sub (VwD.of rd)
          rw [← e1]
          exact ⟨a, rfl, hs, post _ u1' g1' R1' hi⟩
        · rename_i ys
          refine wi_univ ⟨_, pi_list (pe_self e), h.v X W k B u env o σ R _ ?_⟩
          rw [hv]
          intro v u1 g1 R1 rp
          obtain ⟨u1', e1, g1', R1', rd, _⟩ := rp.fz R R1 g1 hz
          obtain ⟨a, rfl, hs, hi⟩ := it_flst R1'.sub rd
          rw [← e1]
          exact ⟨a, rfl, hs, post _ u1' g1' R1' hi⟩
end
end PI

namespace PI
open PySem PySem.Spec PyProof.Rows L2 HT

section
variable {K : PySem.W.Frag} {cl : String → Option Addr} {b u : Wd} {o : Ob}
theorem Grow.wr {a : Addr} {x : HO} (g : Grow b u) (h : b.H a = none) : Grow b (u.put a x) where
  pre := g.pre
  sF := g.sF
  keep := fun c y e n => by show upd u.H a x c = _; rw [upd_ne (ne_of_none e h)]; exact g.keep c y e n
  new := g.new
  mu := g.mu
  ms := g.ms
  fre := fun c e => by
    by_cases hc : c = a
    · subst hc; exact h
    · have e' : upd u.H a x c = none := e
      rw [upd_ne hc] at e'
      exact g.fre c e'
theorem BaseOk.wr {a : Addr} {x : HO} (bo : BaseOk K cl u o) (hF : u.F a = none) (hm : a ∉ u.μ) : BaseOk K cl (u.put a x) o where
  sub := fun c y e => by
    have e' : u.F c = some y := e
    have ne : c ≠ a := fun z => by rw [z, hF] at e'; cases e'
    show upd u.H a x c = _; rw [upd_ne ne]; exact bo.sub c y e
  len := bo.len
  ins := fun n c I e1 e2 => by
    obtain ⟨h1, h2, C, dx, fs, h3, h4, h5⟩ := bo.ins n c I e1 e2
    have ne : c ≠ a := fun z => hm (z ▸ h1)
    exact ⟨h1, h2, C, dx, fs, h3, by show upd u.H a x c = _; rw [upd_ne ne]; exact h4, h5⟩
  mh := fun c hc => by
    obtain ⟨y, e⟩ := bo.mh c hc
    by_cases h : c = a
    · exact absurd (h ▸ hc) hm
    · exact ⟨y, by show upd u.H a x c = _; rw [upd_ne h]; exact e⟩
  dis := bo.dis
end

theorem lookup_relS_free {sc : Scope} : ∀ {names : List (Str × NameKind)} {x : Str}, names.lookup x = some .free →
    ∃ k', (names.map fun (n, k) => if (k == NameKind.free && sc.kind == .function && sc.names.lookup n == some .cell) then (n, NameKind.cell) else (n, k)).lookup x = some k' ∧ (k' = .free ∨ k' = .cell)
  | [], _, h => by simp at h
  | (n, k) :: r, x, h => by
    have ih := @lookup_relS_free sc r x
    show ∃ k', List.lookup x ((if (k == NameKind.free && sc.kind == .function && sc.names.lookup n == some .cell) = true then (n, NameKind.cell) else (n, k)) :: (r.map _)) = some k' ∧ _
    cases hx : x == n with
    | true =>
      simp only [List.lookup_cons, hx] at h
      cases h
      by_cases hc : (NameKind.free == NameKind.free && sc.kind == .function && sc.names.lookup n == some .cell) = true
      · rw [if_pos hc]; simp only [List.lookup_cons, hx]; exact ⟨_, rfl, .inr rfl⟩
      · rw [if_neg hc]; simp only [List.lookup_cons, hx]; exact ⟨_, rfl, .inl rfl⟩
    | false =>
      simp only [List.lookup_cons, hx] at h
      by_cases hc : (k == NameKind.free && sc.kind == .function && sc.names.lookup n == some .cell) = true
      · rw [if_pos hc]; simp only [List.lookup_cons, hx]; exact ih h
      · rw [if_neg hc]; simp only [List.lookup_cons, hx]; exact ih h

section
variable {cl : String → Option Addr} {T : Tab} {n : Nat} {c : CC} {W : WX} {X : Cx} {scope : Scope} {own : List (Str × Nat)}
theorem CtxOk.blkOk (k : CtxOk cl T n c W X) (h : blkC c.N (dumS c) scope own = true) : BlkOk X.N X.env.scope scope own := by
  obtain ⟨h1, h2, h3, h4, h5⟩ := blkOk_by h
  refine ⟨h1, h2, fun p hp => by rw [k.N]; exact h3 p hp, fun y hy e => ?_, fun y hy e => by rw [k.N]; exact h5 y hy e⟩
  rcases h4 y hy e with q | q
  · obtain ⟨k', e1, e2⟩ := k.nm y.1 _ q
    rcases e2 with rfl | ⟨z, _⟩
    · exact .inl e1
    · cases z
  · obtain ⟨k', e1, e2⟩ := k.nm y.1 _ q
    rcases e2 with rfl | ⟨_, rfl⟩
    · exact .inr e1
    · exact .inl e1
theorem CtxOk.blk (k : CtxOk cl T n c W X) (hk : scope.kind = .function) (s : Shared) (H : Hp) (C : Addr) (l : List (Str × Addr)) (fp : List Addr) :
    CtxOk cl T n (c.blk scope) (fun _ _ _ _ => False) (X.blk s H scope (compEnvC scope l C X.env) fp) where
  N := k.N
  nd := k.nd
  kd := hk
  nm := fun x kk h => by
    have h : scope.names.lookup x = some kk := h
    show ∃ k', (relS scope X.env.scope).names.lookup x = some k' ∧ _
    by_cases hf : kk = .free
    · subst hf
      obtain ⟨k', e1, e2⟩ := lookup_relS_free (sc := X.env.scope) h
      refine ⟨k', e1, ?_⟩
      rcases e2 with e2 | e2
      · exact .inl e2
      · exact .inr ⟨rfl, e2⟩
    · exact ⟨kk, lookup_relS_keep hf h, .inl rfl⟩
  calm := k.calm
  fnl := fun x h => by
    rcases h with h | h
    · right
      have h : scope.names.lookup x = some .local := h
      show (relS scope X.env.scope).names.lookup x = some .local
      exact lookup_relS_keep (by decide) h
    · left
      have h : scope.names.lookup x = some .cell := h
      show (scope.names.lookup x == some .cell) = true
      rw [h]
      rfl
  room := k.room
  tk := takes0
  gl := k.gl
end

/-! ### a comprehension's tests -/
def WTs (X : Cx) (ifs : List Expr) : TT := fun σ H Q => ∀ (pins : List (Addr × Obj)) (s : Shared), Inv X pins σ H s →
  wpAny (model X.prog X.w) X.A (forIn ifs true fun c r => if r = true then do let ok ← isTrue c X.env (eval c X.env); pure (ForInStep.yield ok) else pure (ForInStep.yield r)) (TP X pins σ Q) X.xe s
section
variable {cl : String → Option Addr} {T : Tab} {n : Nat} {c : CC} {e elt : Expr} {ex elt' : Ex}
def SnIf (cl : String → Option Addr) (T : Tab) (n : Nat) (c : CC) (ifs : List Expr) (ex : Ex) : Prop := ∀ (X : Cx) (W : WX), CtxOk cl T n c W X → ∀ (B u : Wd) (env : Sl) (o : Ob) (σ : L2.St), Rel X.K cl B u env o σ → ∀ Q : Bool → Hp → Prop,
  PostT X.K cl B u env σ W Q (ev (prm T n) env ex o) → WTs X ifs σ u.H Q
theorem snif_nil : SnIf cl T n c [] (.cst (.bl true)) := fun X W k B u env o σ R Q post pins s I => by
  simp only [ev] at post
  obtain ⟨j, hj, post⟩ := post
  cases hj
  exact pts_nil.run pins s σ u.H Q I (post u (Grow.refl u) R)
theorem snif_one (h : Sn cl T n c e ex) : SnIf cl T n c [e] ex := fun X W k B u env o σ R Q post pins s I =>
  (pts_one (pt_self e)).run pins s σ u.H Q I (h.t X W k B u env o σ R Q post)

theorem compD_cons {t : Tg} {own : List Nat} {σ : Sl} {cond elt : Sl → Ob → Res Rv} {x : D} {xs acc ds : List D} {o o' : Ob} (h : compD t own σ cond elt (x :: xs) acc o = .ok ds o') :
    ∃ σ' r o1 m, setT t x (wipeE σ own) = some σ' ∧ cond σ' o = .ok r o1 ∧ truD r.vw = some m ∧
      ((m = true ∧ ∃ q o2 d, elt σ' o1 = .ok q o2 ∧ q.fz = some d ∧ acc.length < sizeLine ∧ compD t own σ cond elt xs (acc ++ [d]) o2 = .ok ds o') ∨ (m = false ∧ compD t own σ cond elt xs acc o1 = .ok ds o')) := by
  unfold compD at h
  cases h1 : setT t x (wipeE σ own) with
  | none => rw [h1] at h; cases h
  | some σ' =>
    rw [h1] at h
    simp only at h
    cases h2 : cond σ' o with
    | stuck => rw [h2] at h; cases h
    | exn y o1 => rw [h2] at h; cases h
    | ok r o1 =>
      rw [h2] at h
      simp only [Res.bind_ok] at h
      cases h3 : truD r.vw with
      | none => rw [h3] at h; cases h
      | some m =>
        rw [h3] at h
        simp only [opt_some, Res.bind_ok] at h
        refine ⟨σ', r, o1, m, rfl, h2, h3, ?_⟩
        cases m with
        | false => rw [if_neg Bool.false_ne_true] at h; exact .inr ⟨rfl, h⟩
        | true =>
          rw [if_pos rfl] at h
          refine .inl ⟨rfl, ?_⟩
          cases h4 : elt σ' o1 with
          | stuck => rw [h4] at h; cases h
          | exn y o1 => rw [h4] at h; cases h
          | ok q o2 =>
            rw [h4] at h
            simp only [Res.bind_ok] at h
            cases h5 : q.fz with
            | none => rw [h5] at h; cases h
            | some d =>
              rw [h5] at h
              simp only [opt_some, Res.bind_ok] at h
              split at h
              · rename_i hl; exact ⟨q, o2, d, rfl, h5, hl, h⟩
              · cases h
/-- what a list comprehension asks -/
def lcT (X : Cx) (elt tg iter : Expr) (ifs : List Expr) (scope : Scope) (t : Tg) (vs : List Nat) : TE :=
  tLc (WI X tg iter) (gOf X.K t) (fun σ H Q => ∀ s0 H0 C l fp, WTs (X.blk s0 H0 scope (compEnvC scope l C X.env) fp) ifs σ H Q) (fun σ H Q => ∀ s0 H0 C l fp, WE (X.blk s0 H0 scope (compEnvC scope l C X.env) fp) elt σ H Q) vs
theorem lc_run {tg iter : Expr} {ifs : List Expr} {scope : Scope} {t : Tg} {it cond : Ex} {own : List (Str × Nat)} (hi : Sni cl T n c iter it) (hc : SnIf cl T n (c.blk scope) ifs cond)
    (he : Sn cl T n (c.blk scope) elt elt') (hb : blkC c.N (dumS c) scope own = true) (hw : tgIn t (own.map (·.2)) = true) : ∀ (X : Cx) (W : WX), CtxOk cl T n c W X → ∀ (B u : Wd) (env : Sl) (o : Ob) (σ : L2.St), Rel X.K cl B u env o σ → ∀ Q : VK,
      PostE X.K cl B u env σ W Q (ev (prm T n) env (.comp elt' t it cond (own.map (·.2))) o) → lcT X elt tg iter ifs scope t (own.map (·.2)) σ u.H Q := fun X W k B u env o σ R Q post => by
  have bo := k.blkOk hb
  generalize hvs : own.map (·.2) = vs at post hw
  have post : PostE X.K cl B u env σ W Q ((evI (prm T n) env it o).bind fun xs o => still ((compD t vs env (fun σ' o => ev (prm T n) σ' cond o) (fun σ' o => ev (prm T n) σ' elt' o) xs [] o).bind fun ds o => .ok (.own (.lst ds)) o)) := by
    cases it <;> exact post
  have cx := fun s H C l fp => k.blk (scope := scope) bo.kind s H C l fp
  unfold lcT
  refine hi.v X W tg k B u env o σ R _ ?_
  cases hx : evI (prm T n) env it o with
  | stuck => rw [hx] at post; exact post.elim
  | exn x o1 => rw [hx] at post; exact post
  | ok xs o1 =>
    rw [hx] at post
    simp only [Res.bind_ok] at post
    intro J u1 g1 R1 hJ D hD
    cases hcd : compD t vs env (fun σ' o => ev (prm T n) σ' cond o) (fun σ' o => ev (prm T n) σ' elt' o) xs [] o1 with
    | stuck => rw [hcd] at post; exact post.elim
    | exn x o2 => rw [hcd] at post; exact post.elim
    | ok dsF oF =>
      rw [hcd] at post
      have post : PostE X.K cl B u env σ W Q (.ok (.own (.lst dsF)) oF) := post
      refine ⟨fun i m H => i ≤ xs.length ∧ m = xs.length - i ∧ ∃ (w : Wd) (accD : List PI.D) (accV : List V) (oi : Ob), w.H = H ∧ Grow u1 w ∧ BaseOk X.K cl w oi ∧ w.F D = none ∧ D ∉ w.μ ∧ w.H D = some (.lst accV) ∧ RepL X.K cl w.ι w.F accV accD ∧
        compD t vs env (fun σ' o => ev (prm T n) σ' cond o) (fun σ' o => ev (prm T n) σ' elt' o) (xs.drop i) accD oi = .ok dsF oF,
        ⟨xs.length, Nat.zero_le _, rfl, u1.put D (.lst []), [], [], o1, rfl, Grow.of_put hD, R1.toBaseOk.put hD, R1.toBaseOk.fnone hD, fun z => ?_, upd_same, .nil, hcd⟩, ?_⟩
      · obtain ⟨y, e⟩ := R1.toBaseOk.mh D z
        rw [hD] at e
        cases e
      rintro i m H ⟨hle, hm, w, accD, accV, oi, rfl, gw, bw, hF, hmu, hDv, ra, hcomp⟩
      have Rw := R1.later gw bw
      obtain ⟨j1, j2⟩ := hJ w gw bw.sub i
      by_cases hlt : i < xs.length
      · have hxi : xs[i]? = some xs[i] := List.getElem?_eq_getElem hlt
        rw [List.drop_eq_getElem_cons hlt] at hcomp
        obtain ⟨env2, r, o2, mm, hset, hcond, htru, hrest⟩ := compD_cons hcomp
        obtain ⟨jg, jy⟩ := j1 _ hxi
        refine .inr ⟨jg, fun H' => ∃ m', m' < m ∧ (i + 1 ≤ xs.length ∧ m' = xs.length - (i + 1) ∧ ∃ (w : Wd) (accD : List PI.D) (accV : List V) (oi : Ob), w.H = H' ∧ Grow u1 w ∧ BaseOk X.K cl w oi ∧ w.F D = none ∧ D ∉ w.μ ∧ w.H D = some (.lst accV) ∧ RepL X.K cl w.ι w.F accV accD ∧
          compD t vs env (fun σ' o => ev (prm T n) σ' cond o) (fun σ' o => ev (prm T n) σ' elt' o) (xs.drop (i + 1)) accD oi = .ok dsF oF), fun H' h => h, fun x H' hy => ?_⟩
        obtain ⟨rfl, rx⟩ := jy x H' hy
        have Rwp := Rw.wipe vs
        refine g_run Rwp rx hset fun σ2 R2 hwp => ⟨by rw [hwp vs hw, wipe_wipe], ?_⟩
        intro s0 H0 C l fp
        refine hc _ _ (cx s0 H0 C l fp) B w env2 oi σ2 R2 _ ?_
        rw [hcond]
        refine ⟨mm, htru, fun w2 g2 R2b => ?_⟩
        have hD2 := g2.keep D _ hDv hmu
        have hF2 := g2.nF hDv hF
        have hmu2 := g2.nmu hDv hmu
        rcases hrest with ⟨rfl, q, o3, d, helt, hfz, hlen, hcomp2⟩ | ⟨rfl, hcomp2⟩
        · refine iteT ?_
          intro s1 H1 C1 l1 fp1
          refine he.v _ _ (cx s1 H1 C1 l1 fp1) B w2 env2 o2 σ2 R2b _ ?_
          rw [helt]
          intro v3 w3 g3 R3 rp3
          obtain ⟨w3', e3, g3', R3', rd, _⟩ := rp3.fz R2b R3 g3 hfz
          have hD3 : w3'.H D = some (.lst accV) := g3'.keep D _ hD2 hmu2
          have hF3 := g3'.nF hD2 hF2
          have hmu3 := g3'.nmu hD2 hmu2
          rw [← e3]
          have gg := (gw.trans g2).trans g3'
          refine ⟨accV, hD3, by rw [ra.length]; exact hlen, xs.length - (i + 1), by omega, hlt, rfl, w3'.put D (.lst (accV ++ [v3])), accD ++ [d], accV ++ [v3], o3, rfl, gg.wr hD, R3'.toBaseOk.wr hF3 hmu3, hF3, hmu3, upd_same, ?_, hcomp2⟩
          exact (RepL.mono (g2.pre.trans g3'.pre) (g2.sF.trans g3'.sF) _ ra).app (.cons rd .nil)
        · refine iteF ?_
          exact ⟨xs.length - (i + 1), by omega, hlt, rfl, w2, accD, accV, o2, rfl, gw.trans g2, R2b.toBaseOk, hF2, hmu2, hD2, RepL.mono g2.pre g2.sF _ ra, hcomp2⟩
      · have hi : i = xs.length := by omega
        subst hi
        rw [List.drop_length] at hcomp
        simp only [compD] at hcomp
        cases hcomp
        refine .inl ⟨j2 (Nat.le_refl _), post (.ref D) w (g1.trans gw) Rw ⟨D, rfl, hF, hmu, g1.fre D hD, accV, hDv, ra⟩⟩
theorem pe_lc' {tg iter : Expr} {ifs : List Expr} {scope : Scope} {pos : Pos} {t : Tg} {own : List (Str × Nat)} {X : Cx} {W : WX} (k : CtxOk cl T n c W X) (ht : CT (c.blk scope) tg t) (hs : okShape iter = true) (hb : blkC c.N (dumS c) scope own = true) :
    PE X (.ListComp elt [⟨tg, iter, ifs, 0⟩] scope pos) (lcT X elt tg iter ifs scope t (own.map (·.2))) := by
  have bo := k.blkOk hb
  have cx := fun s H C l fp => k.blk (scope := scope) bo.kind s H C l fp
  exact pe_lc (own := own) k.calm k.nd (pi_self (tg := tg)) bo (fun s H C l fp => pg_of (cx s H C l fp) ht) (fun s H C l fp => ⟨fun pins s1 σ1 H1 Q1 I h => h s H C l fp pins s1 I⟩) (fun s H C l fp => ⟨fun pins s1 σ1 H1 Q1 I h => h s H C l fp pins s1 I⟩) (fold_of hs)
theorem ps_lc' {tg iter : Expr} {ifs : List Expr} {scope : Scope} {pos spos py : Pos} {t : Tg} {own : List (Str × Nat)} {X : Cx} {W : WX} {i : Nat} {y : Str} (k : CtxOk cl T n c W X) (ht : CT (c.blk scope) tg t) (hs : okShape iter = true) (hb : blkC c.N (dumS c) scope own = true)
    (hN : c.N[i]? = some y) (hl : c.sc.lookup y = some .local) (hline : (py.line == pos.line) = true) (ha : (scope.names.any fun (n, k) => n == y && (k == .local || k == .cell)) = false) :
    PS X (.Assign [.Name y py] (.ListComp elt [⟨tg, iter, ifs, 0⟩] scope pos) spos) (tAsg (lcT X elt tg iter ifs scope t (own.map (·.2))) (gName i)) := by
  have bo := k.blkOk hb
  have cx := fun s H C l fp => k.blk (scope := scope) bo.kind s H C l fp
  have hl' : X.env.scope.names.lookup y = some .local := by
    obtain ⟨k', e1, e2⟩ := k.nm y _ hl
    rcases e2 with rfl | ⟨z, _⟩
    · exact e1
    · cases z
  exact ps_setLc (own := own) k.calm k.nd (by rw [k.N]; exact hN) hl' (sw_true k.kd hl' hline ha) (pi_self (tg := tg)) bo (fun s H C l fp => pg_of (cx s H C l fp) ht) (fun s H C l fp => ⟨fun pins s1 σ1 H1 Q1 I h => h s H C l fp pins s1 I⟩) (fun s H C l fp => ⟨fun pins s1 σ1 H1 Q1 I h => h s H C l fp pins s1 I⟩) (fold_of hs)
theorem sn_comp {tg iter : Expr} {ifs : List Expr} {scope : Scope} {pos : Pos} {t : Tg} {it cond : Ex} {own : List (Str × Nat)} (ht : CT (c.blk scope) tg t) (hi : Sni cl T n c iter it) (hc : SnIf cl T n (c.blk scope) ifs cond)
    (he : Sn cl T n (c.blk scope) elt elt') (hb : blkC c.N (dumS c) scope own = true) (hw : tgIn t (own.map (·.2)) = true) : Sn cl T n c (.ListComp elt [⟨tg, iter, ifs, 0⟩] scope pos) (.comp elt' t it cond (own.map (·.2))) :=
  Snd.sn (fun X W k B u env o σ R Q post => WE.of (pe_lc' k ht hi.sh hb) (lc_run hi hc he hb hw X W k B u env o σ R Q post)) rfl rfl
end
/-! ### all together -/
section
variable {cl : String → Option Addr} {T : Tab} {n : Nat}
mutual
theorem ce_sn {c : CC} {e : Expr} {ex : Ex} : CE c e ex → Sn cl T n c e ex
  | .int => sn_int
  | .bl => sn_bl
  | .non => sn_non
  | .str => sn_str
  | .var hN hv hd => sn_var hN hv hd
  | .glb hg hl => sn_glb hg hl
  | .cls hg hl => sn_cls hg hl
  | .typ hg hl _ hb => sn_typ hg hl hb
  | .bin ha hb => sn_bin (ce_sn ha) (ce_sn hb)
  | .neg ha => sn_neg (ce_sn ha)
  | .not ha => sn_not (ce_sn ha)
  | .cmp ha hb => sn_cmp (ce_sn ha) (ce_sn hb)
  | .chn ha hb hd => sn_chn (ce_sn ha) (ce_sn hb) (ce_sn hd)
  | .one ha => sn_one (ce_sn ha)
  | .and ha hb => sn_and (ce_sn ha) (ce_sn hb)
  | .or ha hb => sn_or (ce_sn ha) (ce_sn hb)
  | .ife ht ha hb => sn_ife (ce_sn ht) (ce_sn ha) (ce_sn hb)
  | .tup h => sn_tup (ces_sn h)
  | .lst h => sn_lst (ces_sn h)
  | .idx ha hi => sn_idx (ce_sn ha) (ce_sn hi)
  | .slc ha hl hh => sn_slc (ce_sn ha) (ceo_sn hl) (ceo_sn hh)
  | .call hg hl h1 h2 h => sn_call hg hl h1 h2 (ces_sn h)
  | .blt hg hl _ hf hb h => sn_blt hg hl hf hb (ces_sn h)
  | .mth hx hm ho h0 h hl hf => sn_mth hx hm (ce_sn ho) h0 (ces_sn h) hl hf
  | .comp ht hi hc he hb hw => sn_comp ht (ci_sn hi) (cif_sn hc) (ce_sn he) hb hw
theorem ces_sn {c : CC} {es : List Expr} {exs : List Ex} : CEs c es exs → Sns cl T n c es exs
  | .nil => sns_nil
  | .cons h hs => sns_cons (ce_sn h) (ces_sn hs)
theorem ceo_sn {c : CC} {e : Option Expr} {l : Bool} {ex : Ex} : CEo c e l ex → SndO cl T n c e l ex
  | .none => sno_none
  | .some h => sno_some (ce_sn h).v
theorem cif_sn {c : CC} {ifs : List Expr} {ex : Ex} : CIf c ifs ex → SnIf cl T n c ifs ex
  | .nil => snif_nil
  | .one h => snif_one (ce_sn h)
theorem ci_sn {c : CC} {e : Expr} {ex : Ex} : CI c e ex → Sni cl T n c e ex
  | .rng1 hg hx hl ha => sni_rng1 hg hx hl (ce_sn ha)
  | .rng2 hg hx hl ha hb => sni_rng2 hg hx hl (ce_sn ha) (ce_sn hb)
  | .seq h hr => sni_seq (ce_sn h) hr
end
end
end PI

namespace PI
open PySem PySem.Spec PyProof.Rows L2 HT

/-! ### statements of the text -/
def isLoc (c : CC) (x : Str) : Prop := c.sc.lookup x = some .local ∨ c.sc.lookup x = some .cell
/-- no pair stored from the right -/
def notTup : Expr → Bool
  | .Tuple _ _ _ => false
  | _ => true
mutual
inductive CS : CC → Stmt → Stm → Prop
  | asg1 {c i x e e' keep px p} (hN : c.N[i]? = some x) (hl : isLoc c x) (he : CE c e e') (hn : notLc e = true) : CS c (.Assign [.Name x px] e p) (.asg (.one i) keep e')
  | asgLc {c i x px p keep elt tg iter ifs scope pos elt' t it cond own} (hN : c.N[i]? = some x) (hl : c.sc.lookup x = some .local) (ht : CT (c.blk scope) tg t) (hi : CI c iter it) (hc : CIf (c.blk scope) ifs cond) (he : CE (c.blk scope) elt elt')
      (hb : blkC c.N (dumS c) scope own = true) (hw : tgIn t (own.map (·.2)) = true) (hline : (px.line == pos.line) = true) (ha : (scope.names.any fun (n, k) => n == x && (k == .local || k == .cell)) = false) :
      CS c (.Assign [.Name x px] (.ListComp elt [⟨tg, iter, ifs, 0⟩] scope pos) p) (.asg (.one i) keep (.comp elt' t it cond (own.map (·.2))))
  | asgL2 {c i x px p keep elt gens scope pos ex} (hN : c.N[i]? = some x) (hl : isLoc c x) (he : CE c (.ListComp elt gens scope pos) ex) (hline : (px.line == pos.line) = false) : CS c (.Assign [.Name x px] (.ListComp elt gens scope pos) p) (.asg (.one i) keep ex)
  | asgN {c es is k e e' pt p} (ht : CTs c es is) (hd : is.Nodup) (he : CE c e e') (hn : notTup e = true) : CS c (.Assign [.Tuple es k pt] e p) (.asg (.many is) false e')
  | par {c i j x y px py a b a' b' k pt k2 pt2 p} (hi : c.N[i]? = some x) (hj : c.N[j]? = some y) (hx : c.sc.lookup x = some .local) (hy : c.sc.lookup y = some .local) (hij : i ≠ j) (hxy : x ≠ y) (hline : (px.line == py.line) = true) (ha : CE c a a') (hb : CE c b b')
      (hf : (foldedForSure 8 a && foldedForSure 8 b) = false) (hc : (constantsAlone 8 a && constantsAlone 8 b) = false) :
      CS c (.Assign [.Tuple [.Name x px, .Name y py] k pt] (.Tuple [a, b] k2 pt2) p) (.asg (.many [i, j]) false (.tup [a', b']))
  | sti {c i x px q q' e e' ps p} (hN : c.N[i]? = some x) (hv : visB c x = true) (hd : dbgB x = true) (hq : CE c q q') (he : CE c e e') : CS c (.Assign [.Subscript (.Name x px) q ps] e p) (.sti i q' e')
  | app {c i x px e e' pa pc p} (hN : c.N[i]? = some x) (hv : visB c x = true) (hd : dbgB x = true) (he : CE c e e') (hline : (pa.endLine == pc.line) = true) :
      CS c (.Expr (.Call (.Attribute (.Name x px) "append" pa) [e] [] pc) p) (.mut i "append" [e'])
  | pop {c i x px pa pc p tg t} (hN : c.N[i]? = some x) (hv : visB c x = true) (hd : dbgB x = true) (hline : (pa.endLine == pc.line) = true) (ht : CT c tg t) : CS c (.Assign [tg] (.Call (.Attribute (.Name x px) "pop" pa) [] [] pc) p) (.pop t i [])
  | exp {c e e' p} (he : CE c e e') (hn : notLc e = true) : CS c (.Expr e p) (.exp e')
  | ret {c e e' p} (he : CE c e e') : CS c (.Return (some e) p) (.ret e')
  | retN {c p} : CS c (.Return none p) (.ret (.cst .non))
  | iff {c e a b e' a' b' p} (he : CE c e e') (ha : CSs c a a') (hb : CSs c b b') : CS c (.If e a b p) (.iff e' a' b')
  | whl {c e b e' b' p} (he : CE c e e') (hb : CSs c b b') : CS c (.While e b [] p) (.whl e' b')
  | for {c tg it b t it' b' p} (ht : CT c tg t) (hi : CI c it it') (hb : CSs c b b') : CS c (.For tg it b [] p) (.for t it' b')
  | brk {c p} : CS c (.Break p) .brk
  | cnt {c p} : CS c (.Continue p) .cnt
  | pas {c p} : CS c (.Pass p) .pas
  | nev {c st} : CS c st .nev
inductive CSs : CC → List Stmt → List Stm → Prop
  | nil {c} : CSs c [] []
  | cons {c s s' ss ss'} (h : CS c s s') (hs : CSs c ss ss') : CSs c (s :: ss) (s' :: ss')
  | frz {c i ss ss'} (hs : CSs c ss ss') : CSs c ss (.frz i :: ss')
end

/-! ### what they do -/
structure Ext (u w : Wd) : Prop where
  pre : Pre u.ι w.ι
  sF : Sub u.F w.F
theorem Ext.refl (u : Wd) : Ext u u := ⟨Pre.refl _, Sub.refl _⟩
theorem Ext.trans {u w z : Wd} (a : Ext u w) (b : Ext w z) : Ext u z := ⟨a.pre.trans b.pre, a.sF.trans b.sF⟩
theorem Grow.ext {u w : Wd} (g : Grow u w) : Ext u w := ⟨g.pre, g.sF⟩
def PostS (K : PySem.W.Frag) (cl : String → Option Addr) (B b : Wd) (W : WX) (D : Ends) : Out → Prop
  | .nx env o => ∀ u σ, Ext b u → Rel K cl B u env o σ → D.nx σ u.H
  | .rt r o => ∀ v u, Grow B u → BaseOk K cl u o → RepR K cl B u [] [] v r → D.rt v u.H
  | .bk env o => ∀ u σ, Ext b u → Rel K cl B u env o σ → D.bk σ u.H
  | .ct env o => ∀ u σ, Ext b u → Rel K cl B u env o σ → D.ct σ u.H
  | .ex x env o => ∀ c d u σ, Rel K cl B u env o σ → XnAt K cl u x c d → W c d σ u.H
  | .stuck => False
structure StOk (cl : String → Option Addr) (T : Tab) (n : Nat) (c : CC) (W : WX) (X : Cx) : Prop extends CtxOk cl T n c W X where
  pass : PassesOwn (model X.prog X.w) X.A X.env X.xe
section
variable {K : PySem.W.Frag} {cl : String → Option Addr} {B b u u' : Wd} {env : Sl} {σ : L2.St} {W : WX} {D : Ends} {o o' : Ob} {out : Out}
theorem PostS.rebase (g : Ext b u) (h : PostS K cl B b W D out) : PostS K cl B u W D out := by
  cases out with
  | nx env o => exact fun w σ e R => h w σ (g.trans e) R
  | rt r o => exact h
  | bk env o => exact fun w σ e R => h w σ (g.trans e) R
  | ct env o => exact fun w σ e R => h w σ (g.trans e) R
  | ex x env o => exact h
  | stuck => exact h
/-- an expression, then the rest -/
theorem PostS.bind {res : Res Rv} {f : Rv → Ob → Out} {Q : VK} (h : PostS K cl B b W D (res.then env f))
    (k : ∀ r o' v u', Grow b u' → Rel K cl B u' env o' σ → RepR K cl b u' env σ v r → PostS K cl B u' W D (f r o') → Q v u'.H) : PostE K cl B b env σ W Q res := by
  cases res with
  | ok r o' => exact fun v u' g R rp => k r o' v u' g R rp (PostS.rebase g.ext h)
  | exn x o' => exact fun c d u' g R xa => h c d u' σ R xa
  | stuck => exact h
theorem PostS.bindL {res : Res (List Rv)} {f : List Rv → Ob → Out} {Q : List V → Hp → Prop} (h : PostS K cl B b W D (res.then env f)) (hz : ∀ rs o', allFz rs = none → f rs o' = .stuck)
    (k : ∀ rs ds o' vs u', allFz rs = some ds → Grow b u' → Rel K cl B u' env o' σ → RepL K cl u'.ι u'.F vs ds → PostS K cl B u' W D (f rs o') → Q vs u'.H) : PostL K cl B b env σ W Q res := by
  cases res with
  | ok rs o' =>
    cases hd : allFz rs with
    | none =>
      have h' : PostS K cl B b W D (f rs o') := h
      rw [hz rs o' hd] at h'
      exact h'.elim
    | some ds => exact ⟨ds, hd, fun vs u' g R rl => k rs ds o' vs u' hd g R rl (PostS.rebase g.ext h)⟩
  | exn x o' => exact fun c d u' g R xa => h c d u' σ R xa
  | stuck => exact h
theorem PostS.bindI {Ok : Wd → It → List PI.D → Prop} {res : Res (List PI.D)} {f : List PI.D → Ob → Out} {Q : It → Hp → Prop} (h : PostS K cl B b W D (res.then env f))
    (k : ∀ xs o' J u', Grow b u' → Rel K cl B u' env o' σ → Ok u' J xs → PostS K cl B u' W D (f xs o') → Q J u'.H) : PostI K cl B b env σ W Ok Q res := by
  cases res with
  | ok xs o' => exact fun J u' g R hJ => k xs o' J u' g R hJ (PostS.rebase g.ext h)
  | exn x o' => exact fun c d u' g R xa => h c d u' σ R xa
  | stuck => exact h
/-- what is our own is changed -/
theorem Rel.mutate {i : Nat} {ct ct' : Ct} {a : Addr} {y : HO} (R : Rel K cl B u env o σ) (he : env[i]? = some (some (.own ct))) (hs : σ[i]? = some (some (.ref a))) (hc : CtAt K cl (u.put a y) a ct') : Rel K cl B (u.put a y) (env.set i (some (.own ct'))) o σ := by
  obtain ⟨a', e1, hF, hm, hB, hct⟩ := R.sl i _ he
  rw [hs] at e1
  cases e1
  have hi : i < env.length := (List.getElem?_eq_some_iff.mp he).1
  refine { toBaseOk := R.toBaseOk.wr hF hm, sln := by simp [R.sln], sl := fun j q e => ?_, apart := fun j k c c' a2 e1 e2 e3 e4 => ?_, grow := R.grow.wr hB }
  · by_cases hj : j = i
    · subst hj
      rw [List.getElem?_set_self hi] at e
      cases e
      exact ⟨a, hs, hF, hm, hB, hc⟩
    · rw [List.getElem?_set_ne (Ne.symm hj)] at e
      have q0 := R.sl j q e
      match q, q0 with
      | none, _ => trivial
      | some (.val d), ⟨v, e1, h⟩ => exact ⟨v, e1, h⟩
      | some (.own c2), ⟨a2, e2, h1, h2, h3, h4⟩ =>
        refine ⟨a2, e2, h1, h2, h3, ?_⟩
        have ne : a2 ≠ a := fun z => hj (R.apart j i c2 ct a2 e he e2 (by rw [z]; exact hs))
        cases c2 with
        | lst ys =>
          obtain ⟨vs, h5, h6⟩ := h4
          exact ⟨vs, by show upd u.H a y a2 = _; rw [upd_ne ne]; exact h5, h6⟩
        | dct _ => exact h4
  · have own : ∀ (j : Nat) (c : Ct), (env.set i (some (.own ct')))[j]? = some (some (Rv.own c)) → ∃ c0, env[j]? = some (some (Rv.own c0)) := fun j c e => by
      by_cases hj : j = i
      · subst hj; exact ⟨ct, he⟩
      · rw [List.getElem?_set_ne (Ne.symm hj)] at e; exact ⟨c, e⟩
    obtain ⟨c1, f1⟩ := own j c e1
    obtain ⟨c2, f2⟩ := own k c' e2
    exact R.apart j k c1 c2 a2 f1 f2 e3 e4
theorem Ext.put {a : Addr} {y : HO} : Ext u (u.put a y) := ⟨Pre.refl _, Sub.refl _⟩
/-- a slot of our own is frozen -/
theorem Rel.ice {i : Nat} {ct : Ct} (R : Rel K cl B u env o σ) (he : env[i]? = some (some (.own ct))) : ∃ u', u'.H = u.H ∧ Ext u u' ∧ Rel K cl B u' (env.set i (some (.val ct.toD))) o σ := by
  obtain ⟨a, hs, hF, hm, hB, hct⟩ := R.sl i _ he
  obtain ⟨x, hx, rp⟩ := hct.frozen hF
  have hi : i < env.length := (List.getElem?_eq_some_iff.mp he).1
  refine ⟨u.ice a x, rfl, ⟨Pre.refl _, Sub.new hF⟩, { toBaseOk := R.toBaseOk.ice hx hF hm, sln := by simp [R.sln], sl := fun j q e => ?_, apart := fun j k c c' a2 e1 e2 e3 e4 => ?_, grow := R.grow.ice hB hF }⟩
  · by_cases hj : j = i
    · subst hj
      rw [List.getElem?_set_self hi] at e
      cases e
      exact ⟨.ref a, hs, rp⟩
    · rw [List.getElem?_set_ne (Ne.symm hj)] at e
      have q0 := R.sl j q e
      match q, q0 with
      | none, _ => trivial
      | some (.val d), ⟨v, e1, h⟩ => exact ⟨v, e1, RepD.mono (Pre.refl _) (Sub.new hF) d h⟩
      | some (.own c2), ⟨a2, e2, h1, h2, h3, h4⟩ =>
        have ne : a2 ≠ a := fun z => hj (R.apart j i c2 ct a2 e he e2 (by rw [z]; exact hs))
        refine ⟨a2, e2, by show upd u.F a x a2 = none; rw [upd_ne ne]; exact h1, h2, h3, ?_⟩
        cases c2 with
        | lst ys =>
          obtain ⟨vs, h5, h6⟩ := h4
          exact ⟨vs, h5, RepL.mono (Pre.refl _) (Sub.new hF) _ h6⟩
        | dct _ => exact h4
  · have own : ∀ (j : Nat) (c : Ct), (env.set i (some (.val ct.toD)))[j]? = some (some (Rv.own c)) → env[j]? = some (some (Rv.own c)) := fun j c e => by
      by_cases hj : j = i
      · subst hj; rw [List.getElem?_set_self hi] at e; cases e
      · rw [List.getElem?_set_ne (Ne.symm hj)] at e; exact e
    exact R.apart j k c c' a2 (own j c e1) (own k c' e2) e3 e4
/-- a new container of our own is stored -/
theorem Rel.setO {i : Nat} {ct : Ct} {v : V} (R0 : Rel K cl B b env o' σ) (R : Rel K cl B u env o σ) (g : Grow b u) (h : RepR K cl b u env σ v (.own ct)) : Rel K cl B u (env.set i (some (.own ct))) o (σ.set i (some v)) := by
  obtain ⟨a, rfl, hF, hm, hb, hc⟩ := h
  by_cases hi : i < σ.length
  · refine R.set i _ _ ⟨a, by rw [List.getElem?_set_self hi], hF, hm, R0.grow.fre a hb, hc⟩ fun c e j c' hj e2 a2 e3 e4 => ?_
    cases e3
    obtain ⟨a3, e5, _, _, _, h3⟩ := R0.sl j _ e2
    rw [e4] at e5
    cases e5
    obtain ⟨y, hy⟩ := h3.thr
    rw [hb] at hy
    cases hy
  · rw [List.set_eq_of_length_le (by rw [← R.sln]; omega), List.set_eq_of_length_le (by omega)]
    exact R
end
section
variable (cl : String → Option Addr) (T : Tab) (n : Nat)
def WS (X : Cx) (st : Stmt) : TS := fun D σ H => ∀ (pins : List (Addr × Obj)) (s : Shared), Inv X pins σ H s → wpAny (model X.prog X.w) X.A (PySem.exec st X.env) (SP X pins D) X.xe s
def WSs (X : Cx) (st : List Stmt) : TS := fun D σ H => ∀ (pins : List (Addr × Obj)) (s : Shared), Inv X pins σ H s → wpAny (model X.prog X.w) X.A (PySem.execs st X.env) (SP X pins D) X.xe s
theorem ps_self {X : Cx} (st : Stmt) : PS X st (WS X st) := ⟨fun pins s _ _ _ I h => h pins s I⟩
theorem pss_self {X : Cx} (st : List Stmt) : PSs X st (WSs X st) := ⟨fun pins s _ _ _ I h => h pins s I⟩
theorem WS.of {X : Cx} {st : Stmt} {t : TS} (p : PS X st t) {D : Ends} {σ : L2.St} {H : Hp} (h : t D σ H) : WS X st D σ H := fun pins s I => p.run pins s σ H D I h
theorem WSs.of {X : Cx} {st : List Stmt} {t : TS} (p : PSs X st t) {D : Ends} {σ : L2.St} {H : Hp} (h : t D σ H) : WSs X st D σ H := fun pins s I => p.run pins s σ H D I h
def SnS (c : CC) (st : Stmt) (s : Stm) : Prop := ∀ (X : Cx) (W : WX), StOk cl T n c W X → ∀ (B u : Wd) (env : Sl) (o : Ob) (σ : L2.St), Rel X.K cl B u env o σ → ∀ D : Ends, PostS X.K cl B u W D (exec (prm T n) s env o) → WS X st D σ u.H
def SnSs (c : CC) (st : List Stmt) (s : List Stm) : Prop := ∀ (X : Cx) (W : WX), StOk cl T n c W X → ∀ (B u : Wd) (env : Sl) (o : Ob) (σ : L2.St), Rel X.K cl B u env o σ → ∀ D : Ends, PostS X.K cl B u W D (execs (prm T n) s env o) → WSs X st D σ u.H
end
section
variable {cl : String → Option Addr} {T : Tab} {n : Nat} {c : CC} {e : Expr} {ex : Ex}
theorem setR_cases {t : Tg} {keep : Bool} {r : Rv} {σ σ' : Sl} (h : setR t keep r σ = some σ') : (∃ i ct, t = .one i ∧ r = .own ct ∧ σ' = σ.set i (some (.own ct))) ∨ ∃ d, r.fz = some d ∧ setT t d σ = some σ' := by
  unfold setR at h
  split at h
  · cases h; exact .inl ⟨_, _, rfl, rfl, rfl⟩
  · right
    revert h
    cases r.fz with
    | none => intro h; cases h
    | some d => intro h; exact ⟨d, rfl, h⟩
/-- target = value: what is asked of the value -/
theorem asg_run {X : Cx} {W : WX} {t : Tg} {keep : Bool} {te : TE} (hte : ∀ (B u : Wd) (env : Sl) (o : Ob) (σ : L2.St), Rel X.K cl B u env o σ → ∀ Q : VK, PostE X.K cl B u env σ W Q (ev (prm T n) env ex o) → te σ u.H Q)
    {B u : Wd} {env : Sl} {o : Ob} {σ : L2.St} (R : Rel X.K cl B u env o σ) {D : Ends} (post : PostS X.K cl B u W D (exec (prm T n) (.asg t keep ex) env o)) : tAsg te (gOf X.K t) D σ u.H := by
  simp only [exec] at post
  refine hte B u env o σ R _ (post.bind fun r o1 v u1 g1 R1 rp1 post1 => ?_)
  cases hs : setR t keep r env with
  | none => rw [hs] at post1; exact post1.elim
  | some env' =>
    rw [hs] at post1
    rcases setR_cases hs with ⟨i, ct, rfl, rfl, rfl⟩ | ⟨d, hz, hs⟩
    · exact post1 u1 _ (Ext.refl _) (R.setO R1 g1 rp1)
    · obtain ⟨u1', e1, g1', R1', rd, p1, p2⟩ := rp1.fz R R1 g1 hz
      rw [← e1]
      exact g_run R1' rd hs fun σ' R' _ => post1 u1' σ' ⟨p1, p2⟩ R'
theorem sws {c : CC} {X : Cx} {W : WX} (k : CtxOk cl T n c W X) {x : Str} {px : Pos} {elt : Expr} {gens : List Comprehension} {scope : Scope} {pos : Pos} {l : Nat} (h : (px.line == pos.line) = false) : swapsWith (.ListComp elt gens scope pos) (some (.Name x px)) l X.env = pure false := by
  unfold swapsWith
  simp only [Expr.pos, h, Bool.and_false, Bool.false_and]
theorem sns_asg1 {i : Nat} {x : Str} {px p : Pos} {keep : Bool} (hN : c.N[i]? = some x) (hl : isLoc c x) (he : Sn cl T n c e ex) (hn : notLc e = true) : SnS cl T n c (.Assign [.Name x px] e p) (.asg (.one i) keep ex) := fun X W k B u env o σ R D post =>
  WS.of (ps_set k.nd (by rw [k.N]; exact hN) (k.loc hl) (pe_self e) (swap_of he.sh hn) (k.fnl _ hl)) (asg_run (fun B u env o σ R Q post => he.v X W k.toCtxOk B u env o σ R Q post) R post)
theorem sns_asgL2 {i : Nat} {x : Str} {px p pos : Pos} {keep : Bool} {elt : Expr} {gens : List Comprehension} {scope : Scope} (hN : c.N[i]? = some x) (hl : isLoc c x) (he : Sn cl T n c (.ListComp elt gens scope pos) ex) (hline : (px.line == pos.line) = false) : SnS cl T n c (.Assign [.Name x px] (.ListComp elt gens scope pos) p) (.asg (.one i) keep ex) := fun X W k B u env o σ R D post =>
  WS.of (ps_set k.nd (by rw [k.N]; exact hN) (k.loc hl) (pe_self _) (sws k.toCtxOk hline) (k.fnl _ hl)) (asg_run (fun B u env o σ R Q post => he.v X W k.toCtxOk B u env o σ R Q post) R post)
theorem sws_tup {e : Expr} {es : List Expr} {k : Nat} {pt : Pos} {l : Nat} {env : Env} : swapsWithSole [.Tuple es k pt] e l env = pure false := by
  show swapsWith e (some (.Tuple es k pt)) l env = pure false
  unfold swapsWith
  cases e <;> rfl
theorem sts_none {e : Expr} {tg : Expr} {env : Env} (h : notTup e = true) : swappedStores [tg] e env = pure none := by
  unfold swappedStores
  cases e <;> first
    | (simp [notTup] at h; done)
    | (cases tg <;> rfl)
theorem sns_asgN {es : List Expr} {is : List Nat} {k : Nat} {pt p : Pos} (ht : CTs c es is) (hd : is.Nodup) (he : Sn cl T n c e ex) (hn : notTup e = true) : SnS cl T n c (.Assign [.Tuple es k pt] e p) (.asg (.many is) false ex) := fun X W k B u env o σ R D post =>
  WS.of (ps_asg (pe_self e) (pg_of k.toCtxOk (.many ht hd)) sws_tup (sts_none hn)) (asg_run (fun B u env o σ R Q post => he.v X W k.toCtxOk B u env o σ R Q post) R post)
theorem sns_asgLc {i : Nat} {x : Str} {px p pos : Pos} {keep : Bool} {elt tg iter : Expr} {ifs : List Expr} {scope : Scope} {elt' it cond : Ex} {t : Tg} {own : List (Str × Nat)} (hN : c.N[i]? = some x) (hl : c.sc.lookup x = some .local) (ht : CT (c.blk scope) tg t) (hi : Sni cl T n c iter it) (hc : SnIf cl T n (c.blk scope) ifs cond) (he : Sn cl T n (c.blk scope) elt elt')
    (hb : blkC c.N (dumS c) scope own = true) (hw : tgIn t (own.map (·.2)) = true) (hline : (px.line == pos.line) = true) (ha : (scope.names.any fun (n, k) => n == x && (k == .local || k == .cell)) = false) :
    SnS cl T n c (.Assign [.Name x px] (.ListComp elt [⟨tg, iter, ifs, 0⟩] scope pos) p) (.asg (.one i) keep (.comp elt' t it cond (own.map (·.2)))) := fun X W k B u env o σ R D post =>
  WS.of (ps_lc' k.toCtxOk ht hi.sh hb hN hl hline ha) (asg_run (fun B u env o σ R Q post => lc_run hi hc he hb hw X W k.toCtxOk B u env o σ R Q post) R post)
end
end PI

namespace PI
open PySem PySem.Spec PyProof.Rows L2 HT

section
variable {K : PySem.W.Frag} {cl : String → Option Addr} {B b u u' : Wd} {env : Sl} {σ : L2.St} {W : WX} {D : Ends} {o o' : Ob} {out : Out}
theorem RepL.last {ι : List Addr} {F : Hp} : ∀ {vs : List V} {ds : List PI.D} {d : PI.D}, RepL K cl ι F vs ds → ds.getLast? = some d → ∃ v, vs[vs.length - 1]? = some v ∧ RepD K cl ι F v d
  | _, _, _, .nil, e => by cases e
  | _, _, _, .cons a .nil, e => by cases e; exact ⟨_, rfl, a⟩
  | v :: w :: vs, x :: y :: ds, d, .cons a (.cons b t), e => by
    obtain ⟨z, hz, rz⟩ := RepL.last (.cons b t) (by rw [List.getLast?_cons_cons] at e; exact e)
    refine ⟨z, ?_, rz⟩
    simpa using hz
theorem RepL.setAt {ι : List Addr} {F : Hp} {v : V} {d : PI.D} (h : RepD K cl ι F v d) : ∀ {vs : List V} {ds : List PI.D} (j : Nat), RepL K cl ι F vs ds → RepL K cl ι F (vs.set j v) (ds.set j d)
  | _, _, _, .nil => .nil
  | _, _, 0, .cons _ t => .cons h t
  | _, _, j + 1, .cons a t => .cons a (RepL.setAt h j t)
theorem PostS.ext (g : Ext b u) (h : PostS K cl B b W D out) : PostS K cl B u W D out := by
  cases out with
  | nx env o => exact fun w σ e R => h w σ (g.trans e) R
  | rt r o => exact h
  | bk env o => exact fun w σ e R => h w σ (g.trans e) R
  | ct env o => exact fun w σ e R => h w σ (g.trans e) R
  | ex x env o => exact h
  | stuck => exact h
theorem own_at {i : Nat} {c : Ct} (h : ownAt env i = some c) : env[i]? = some (some (.own c)) := by
  unfold ownAt at h
  split at h
  · rename_i e; cases h; exact e
  · cases h
theorem own_lst {i : Nat} {ys : List PI.D} (R : Rel K cl B u env o σ) (h : env[i]? = some (some (.own (.lst ys)))) : ∃ a vs, σ[i]? = some (some (.ref a)) ∧ u.H a = some (.lst vs) ∧ RepL K cl u.ι u.F vs ys := by
  obtain ⟨a, e1, _, _, _, hct⟩ := R.sl i _ h
  obtain ⟨vs, h1, h2⟩ := hct
  exact ⟨a, vs, e1, h1, h2⟩
theorem Rel.lset {i : Nat} {ys zs : List PI.D} {a : Addr} {ws : List V} (R : Rel K cl B u env o σ) (h : env[i]? = some (some (.own (.lst ys)))) (hs : σ[i]? = some (some (.ref a))) (r : RepL K cl u.ι u.F ws zs) : Rel K cl B (u.put a (.lst ws)) (env.set i (some (.own (.lst zs)))) o σ :=
  R.mutate h hs ⟨ws, upd_same, r⟩
/-- a container of our own leaves the def -/
theorem own_out {j : Nat} {ct : Ct} {a : Addr} (R : Rel K cl B u env o σ) (he : env[j]? = some (some (.own ct))) (hs : σ[j]? = some (some (.ref a))) : RepR K cl B u [] [] (.ref a) (.own ct) := by
  obtain ⟨a', e1, h1, h2, h3, h4⟩ := R.sl j _ he
  rw [hs] at e1
  cases e1
  exact ⟨a, rfl, h1, h2, h3, h4⟩
end

section
variable {cl : String → Option Addr} {T : Tab} {n : Nat} {c : CC} {e a b : Expr} {ex a' b' : Ex} {st : Stmt} {ss : List Stmt} {s : Stm} {ss' : List Stm}
theorem sts_some {c : CC} {X : Cx} {W : WX} (k : CtxOk cl T n c W X) {x y : Str} {px py pt : Pos} {k1 k2 : Nat} {pt2 : Pos} (hx : X.env.scope.names.lookup x = some .local) (hy : X.env.scope.names.lookup y = some .local) (hxy : x ≠ y) (hline : (px.line == py.line) = true)
    (sa : okShape a = true) (sb : okShape b = true) (hf : (foldedForSure 8 a && foldedForSure 8 b) = false) (hc : (constantsAlone 8 a && constantsAlone 8 b) = false) (hk : X.env.blockKind = .function) :
    swappedStores [.Tuple [.Name x px, .Name y py] k1 pt] (.Tuple [a, b] k2 pt2) X.env = pure (some [x, y]) := by
  have h1 : X.env.kindOf x = some .local := hx
  have h2 : X.env.kindOf y = some .local := hy
  have h3 : (py.line == px.line) = true := by
    have : px.line = py.line := by simpa using hline
    simp [this]
  have hed : [x, y].eraseDups = [x, y] := by
    have : (y == x) = false := by simpa using Ne.symm hxy
    simp [List.eraseDups_cons, this]
  unfold swappedStores
  simp only [List.length_cons, List.length_nil, hk, Expr.pos, List.head?_cons, Option.map_some, Option.getD_some, List.filterMap_cons, List.filterMap_nil, h1, h2, beq_self_eq_true, Bool.true_and, Bool.and_self, if_true, h3, hed, List.all_cons, List.all_nil, Bool.and_true, hf, hc]
  rw [if_neg (by decide), if_neg ?_, if_neg (by decide), if_neg (by decide), if_neg (by decide)]
  intro h
  simp only [List.any_cons, List.any_nil, Bool.or_false, Bool.or_eq_true] at h
  rcases h with h | h
  · cases a <;> first | (simp [okShape] at sa; done) | cases h
  · cases b <;> first | (simp [okShape] at sb; done) | cases h

theorem CtxOk.bk {W : WX} {X : Cx} (k : CtxOk cl T n c W X) : X.env.blockKind = .function := by
  unfold Env.blockKind
  rw [k.kd]
  rfl
theorem CtxOk.lcl {W : WX} {X : Cx} {x : Str} (k : CtxOk cl T n c W X) (h : c.sc.lookup x = some .local) : X.env.scope.names.lookup x = some .local := by
  obtain ⟨q', e1, e2⟩ := k.nm x _ h
  rcases e2 with rfl | ⟨z, _⟩
  · exact e1
  · cases z
theorem sns_par {i j : Nat} {x y : Str} {px py pt pt2 p : Pos} {k1 k2 : Nat} (hi : c.N[i]? = some x) (hj : c.N[j]? = some y) (hx : c.sc.lookup x = some .local) (hy : c.sc.lookup y = some .local) (hij : i ≠ j) (hxy : x ≠ y) (hline : (px.line == py.line) = true) (ha : Sn cl T n c a a') (hb : Sn cl T n c b b')
    (hf : (foldedForSure 8 a && foldedForSure 8 b) = false) (hc : (constantsAlone 8 a && constantsAlone 8 b) = false) : SnS cl T n c (.Assign [.Tuple [.Name x px, .Name y py] k1 pt] (.Tuple [a, b] k2 pt2) p) (.asg (.many [i, j]) false (.tup [a', b'])) := fun X W k B u env o σ R D post => by
  refine WS.of (ps_par k.calm k.nd (by rw [k.N]; exact hi) (by rw [k.N]; exact hj) hij (k.lcl hx) (k.lcl hy) (pa_self _) (sts_some k.toCtxOk (k.lcl hx) (k.lcl hy) hxy hline ha.sh hb.sh hf hc k.bk) sws_tup) ?_
  simp only [exec, ev] at post
  refine (sns_cons ha (sns_cons hb sns_nil)).l X W k.toCtxOk B u env o σ R _ ?_
  cases hr : evs (prm T n) env [a', b'] o with
  | stuck => rw [hr] at post; exact post.elim
  | exn x o1 => rw [hr] at post; exact fun c d u' g R xa => post c d u' σ R xa
  | ok rs o1 =>
    rw [hr] at post
    simp only [Res.bind_ok] at post
    cases hz : allFz rs with
    | none => rw [hz] at post; exact post.elim
    | some ds =>
      rw [hz] at post
      refine ⟨ds, hz, fun vs u1 g1 R1 rl => ?_⟩
      have hl2 : ds.length = 2 := by rw [allFz_len hz, evs_len hr]; rfl
      match ds, hl2, rl, post with
      | [d1, d2], _, .cons (v := v1) r1 (.cons (v := v2) r2 .nil), post =>
        have hs : (2 : Nat) ≤ sizeLine := by rw [sizeLine_eq]; omega
        simp only [opt_some, Res.bind_ok, List.length_cons, List.length_nil, hs, if_true, Res.then_ok, setR, Rv.fz, Option.bind_some, setT, Nat.reduceAdd, if_pos hs] at post
        exact ⟨v1, v2, rfl, post u1 _ g1.ext (sets_rel [i, j] [v1, v2] [d1, d2] env σ R1 (.cons r1 (.cons r2 .nil)))⟩
theorem plainSet_of {q : Expr} {o : Expr} {pos : Pos} {env : Env} (h : okShape q = true) (v : Value) : assign (.Subscript o q pos) env v = (do
      let ov ← holding [v] (eval o env)
      let iv ← holding [v, ov] (eval q env)
      standAt pos
      holding [v, ov, iv] (setItem ov iv v)
      release [v, ov, iv] []) := by
  cases q <;> first | rfl | (simp [okShape] at h; done)
theorem sns_sti {i : Nat} {x : Str} {px ps p : Pos} {q : Expr} {q' : Ex} (hN : c.N[i]? = some x) (hv : visB c x = true) (hd : dbgB x = true) (hq : Sn cl T n c q q') (he : Sn cl T n c e ex) : SnS cl T n c (.Assign [.Subscript (.Name x px) q ps] e p) (.sti i q' ex) := fun X W k B u env o σ R D post => by
  obtain ⟨d1, d2, _⟩ := dbg_of hd
  have pe := pe_var (pos := px) (show X.N[i]? = some x by rw [k.N]; exact hN) (k.vis hv) d1 d2
  refine WS.of (ps_asg (pe_self e) (pg_sub pe (pe_self q) set_list (plainSet_of hq.sh)) (by have := he.sh; cases e <;> first | rfl | (simp [okShape] at this; done)) (by cases e <;> rfl)) ?_
  simp only [exec] at post
  refine he.v X W k.toCtxOk B u env o σ R _ (post.bind fun r o1 v u1 g1 R1 rp1 post1 => ?_)
  cases hz : r.fz with
  | none => rw [hz] at post1; exact post1.elim
  | some d =>
    cases ho : ownAt env i with
    | none => rw [hz, ho] at post1; exact post1.elim
    | some ct =>
      rw [hz, ho] at post1
      dsimp only at post1
      obtain ⟨u1', e1, g1', R1', rd, p1⟩ := rp1.fz R R1 g1 hz
      rw [← e1]
      have hen := own_at ho
      obtain ⟨a, s1, _⟩ := R1'.sl i _ hen
      refine ⟨.ref a, s1, ?_⟩
      refine hq.v X W k.toCtxOk B u1' env o1 σ R1' _ ((PostS.ext ⟨p1.1, p1.2⟩ post1).bind fun q o2 w u2 g2 R2 rp2 post2 => ?_)
      cases hm : stiC ct q.vw d with
      | none => rw [hm] at post2; exact post2.elim
      | some ct' =>
        rw [hm] at post2
        match ct, hen, hm with
        | .dct _, hen, hm => exact absurd (R.sl i _ hen) (fun h => by obtain ⟨_, _, _, _, _, h⟩ := h; exact h)
        | .lst ys, hen, hm =>
          cases hq' : q.vw <;> rw [hq'] at hm <;> first
            | (have z : (none : Option Ct) = some ct' := hm; cases z; done)
            | skip
          rename_i j
          have hm' : (ixN ys.length j).map (fun m => Ct.lst (ys.set m d)) = some ct' := hm
          cases hj : ixN ys.length j with
          | none => rw [hj] at hm'; cases hm'
          | some m =>
            rw [hj] at hm'
            cases hm'
            have hw := rp2.vw
            rw [hq'] at hw
            obtain rfl := hw.int
            obtain ⟨a', vs, s2, h1, h2⟩ := own_lst R2 hen
            rw [s1] at s2
            cases s2
            refine ⟨a, vs, j, m, rfl, rfl, h1, by rw [h2.length]; exact hj, ?_⟩
            exact post2 _ σ Ext.put (R2.lset hen s1 (RepL.setAt (rd.mono g2.pre g2.sF) m h2))
theorem pe_self_var {X : Cx} {W : WX} {i : Nat} {x : Str} {p : Pos} (k : CtxOk cl T n c W X) (hN : c.N[i]? = some x) (hv : visB c x = true) (hd : dbgB x = true) : PE X (.Name x p) (tVar i) := by
  obtain ⟨d1, d2, _⟩ := dbg_of hd
  exact pe_var (show X.N[i]? = some x by rw [k.N]; exact hN) (k.vis hv) d1 d2
theorem sns_app {i : Nat} {x : Str} {px pa pc p : Pos} (hN : c.N[i]? = some x) (hv : visB c x = true) (hd : dbgB x = true) (he : Sn cl T n c e ex) (hline : (pa.endLine == pc.line) = true) :
    SnS cl T n c (.Expr (.Call (.Attribute (.Name x px) "append" pa) [e] [] pc) p) (.mut i "append" [ex]) := fun X W k B u env o σ R D post => by
  have sh1 := star_of (es := []) (env := X.env) he.sh
  refine WS.of (ps_expr (pe_bm PySem.F.plainAttrs_list PySem.F.slot_list_append PySem.F.type_list_append mt_append (pe_self_var k.toCtxOk hN hv hd) (pa_self [e]) rfl (by rw [sh1]; rfl) hline sh1 rfl)) ?_
  simp only [exec] at post
  cases ho : ownAt env i with
  | none => rw [ho] at post; exact post.elim
  | some ct =>
    rw [ho] at post
    dsimp only at post
    have hen := own_at ho
    match ct, hen, post with
    | .dct _, hen, post => exact absurd (R.sl i _ hen) (fun h => by obtain ⟨_, _, _, _, _, h⟩ := h; exact h)
    | .lst ys, hen, post =>
      obtain ⟨a, vs, s1, h1, h2⟩ := own_lst R hen
      refine ⟨.ref a, s1, .inl ⟨rfl, vs, .inl (.inl h1)⟩, ?_⟩
      refine (sns_cons he sns_nil).l X W k.toCtxOk B u env o σ R _ (PostS.bindL post (fun rs o' hz => by rw [hz]) fun rs ds o1 ws u1 hz g1 R1 rl post1 => ?_)
      rw [hz] at post1
      dsimp only at post1
      cases hm : mutC "append" (.lst ys) ds with
      | none => rw [hm] at post1; exact post1.elim
      | some ct' =>
        rw [hm] at post1
        match ds, hm, rl with
        | [], hm, _ => cases hm
        | _ :: _ :: _, hm, _ => cases hm
        | [d], hm, .cons (v := w) r1 .nil =>
          have hm' : (if ys.length < sizeLine then some (Ct.lst (ys ++ [d])) else none) = some ct' := hm
          split at hm'
          · rename_i hlt
            cases hm'
            obtain ⟨a', vs', s2, h1', h2'⟩ := own_lst R1 hen
            rw [s1] at s2
            cases s2
            refine ⟨a, vs', w, rfl, rfl, h1', by rw [h2'.length]; exact hlt, ?_⟩
            exact post1 _ σ Ext.put (R1.lset hen s1 (h2'.app (.cons r1 .nil)))
          · cases hm'
theorem sns_pop {i : Nat} {x : Str} {px pa pc p : Pos} {tg : Expr} {t : Tg} (hN : c.N[i]? = some x) (hv : visB c x = true) (hd : dbgB x = true) (hline : (pa.endLine == pc.line) = true) (ht : CT c tg t) :
    SnS cl T n c (.Assign [tg] (.Call (.Attribute (.Name x px) "pop" pa) [] [] pc) p) (.pop t i []) := fun X W k B u env o σ R D post => by
  have pe := pe_bm0 (cpos := pc) PySem.F.plainAttrs_list PySem.F.slot_list_pop PySem.F.type_list_pop mt_pop (pe_self_var (p := px) k.toCtxOk hN hv hd) rfl hline
  have main : tAsg (tBM0 X.K "list" rPop (tVar i)) (gOf X.K t) D σ u.H := by
    simp only [exec, evs] at post
    cases ho : ownAt env i with
    | none => rw [ho] at post; exact post.elim
    | some ct =>
      rw [ho] at post
      have hen := own_at ho
      match ct, hen, post with
      | .dct _, hen, post => exact absurd (R.sl i _ hen) (fun h => by obtain ⟨_, _, _, _, _, h⟩ := h; exact h)
      | .lst ys, hen, post =>
        obtain ⟨a, vs, s1, h1, h2⟩ := own_lst R hen
        refine ⟨.ref a, s1, .inl ⟨rfl, vs, .inl (.inl h1)⟩, ?_⟩
        simp only [Res.then_ok, allFz, popC] at post
        cases hl : ys.getLast? with
        | none => rw [hl] at post; exact post.elim
        | some d =>
          rw [hl] at post
          dsimp only at post
          obtain ⟨w, hw, rw'⟩ := h2.last hl
          refine ⟨a, vs, w, rfl, rfl, h1, hw, ?_⟩
          cases hs : setT t d (env.set i (some (.own (.lst ys.dropLast)))) with
          | none => rw [hs] at post; exact post.elim
          | some env' =>
            rw [hs] at post
            exact g_run (R.lset hen s1 h2.dropLast) rw' hs fun σ' R' _ => post _ σ' Ext.put R'
  cases ht with
  | one hN' hl => exact WS.of (ps_asg pe (pg_of k.toCtxOk (.one hN' hl)) rfl rfl) main
  | many hs hn => exact WS.of (ps_asg pe (pg_of k.toCtxOk (.many hs hn)) rfl rfl) main
theorem sns_exp {p : Pos} (he : Sn cl T n c e ex) (hn : notLc e = true) : SnS cl T n c (.Expr e p) (.exp ex) := fun X W k B u env o σ R D post => by
  refine WS.of (ps_expr (pe_self e) (swap_of he.sh hn)) ?_
  simp only [exec] at post
  exact he.v X W k.toCtxOk B u env o σ R _ (post.bind fun r o1 v u1 g1 R1 rp1 post1 => post1 u1 σ (Ext.refl _) R1)
def retO : Rv → Ob → Out
  | .bor _, _ => .stuck
  | r, o => .rt r o
theorem ret_val {K : PySem.W.Frag} {B b u : Wd} {env : Sl} {o o0 : Ob} {σ : L2.St} {v : V} {r : Rv} {D : Ends} {W : WX} (R : Rel K cl B u env o σ) (R0 : Rel K cl B b env o0 σ) (rp : RepR K cl b u env σ v r) (post : PostS K cl B u W D (retO r o)) : D.rt v u.H := by
  cases r with
  | val d => exact post v u R.grow R.toBaseOk rp
  | own ct =>
    obtain ⟨a, e, h1, h2, h3, h4⟩ := rp
    exact post v u R.grow R.toBaseOk ⟨a, e, h1, h2, R0.grow.fre a h3, h4⟩
  | bor _ => exact post.elim
theorem exec_ret_var {P : Prm} {i : Nat} {env : Sl} {o : Ob} : exec P (.ret (.var i)) env o = (match env[i]? with
    | some (some (.bor _)) => .stuck
    | some (some r) => .rt r o
    | _ => .stuck) := by simp only [exec] <;> rfl
theorem exec_ret {P : Prm} {ex : Ex} {env : Sl} {o : Ob} (h : ∀ i, ex ≠ .var i) : exec P (.ret ex) env o = (ev P env ex o).then env retO := by
  cases ex <;> first | (exact absurd rfl (h _)) | (simp only [exec]; congr 1; funext r o; cases r <;> rfl)
theorem sns_ret {p : Pos} (he : Sn cl T n c e ex) : SnS cl T n c (.Return (some e) p) (.ret ex) := fun X W k B u env o σ R D post => by
  refine WS.of (ps_ret (pe_self e)) ?_
  by_cases hv : ∃ i, ex = .var i
  · obtain ⟨i, rfl⟩ := hv
    rw [exec_ret_var] at post
    refine he.v X W k.toCtxOk B u env o σ R _ ?_
    have ee : ev (prm T n) env (.var i) o = opt (slot env i) o := by simp only [ev]
    rw [ee]
    match hs : env[i]? with
    | none => rw [hs] at post; exact post.elim
    | some none => rw [hs] at post; exact post.elim
    | some (some (.bor _)) => rw [hs] at post; exact post.elim
    | some (some (.val d)) =>
      rw [hs] at post
      have : slot env i = some (.val d) := by unfold slot; rw [hs]
      rw [this]
      exact fun v u' g R' rp => post v u' R'.grow R'.toBaseOk rp
    | some (some (.own ct)) =>
      rw [hs] at post
      have : slot env i = some (.bor ct) := by unfold slot; rw [hs]
      rw [this]
      intro v u' g R' rp
      obtain ⟨a, j, rfl, e1, e2, _⟩ := rp
      exact post _ u' R'.grow R'.toBaseOk (own_out R' e2 e1)
  · rw [exec_ret fun i h => hv ⟨i, h⟩] at post
    exact he.v X W k.toCtxOk B u env o σ R _ (post.bind fun r o1 v u1 g1 R1 rp1 post1 => ret_val R1 R rp1 post1)
theorem sns_retN {p : Pos} : SnS cl T n c (.Return none p) (.ret (.cst .non)) := fun X W k B u env o σ R D post => by
  refine WS.of ps_retN ?_
  rw [exec_ret (fun i h => by cases h)] at post
  have post' : PostS X.K cl B u W D (.rt (.val .non) o) := by simpa only [ev, Res.then_ok, retO] using post
  exact post' .non u R.grow R.toBaseOk .non
theorem sns_brk {p : Pos} : SnS cl T n c (.Break p) .brk := fun X W k B u env o σ R D post => by
  refine WS.of ps_break ?_
  simp only [exec] at post
  exact post u σ (Ext.refl _) R
theorem sns_cnt {p : Pos} : SnS cl T n c (.Continue p) .cnt := fun X W k B u env o σ R D post => by
  refine WS.of ps_continue ?_
  simp only [exec] at post
  exact post u σ (Ext.refl _) R
theorem sns_pas {p : Pos} : SnS cl T n c (.Pass p) .pas := fun X W k B u env o σ R D post => by
  refine WS.of ps_pass ?_
  simp only [exec] at post
  exact post u σ (Ext.refl _) R
theorem sns_nev : SnS cl T n c st .nev := fun X W k B u env o σ R D post => by
  simp only [exec] at post
  exact post.elim
theorem snss_nil : SnSs cl T n c [] [] := fun X W k B u env o σ R D post => by
  refine WSs.of pss_nil ?_
  simp only [execs] at post
  exact post u σ (Ext.refl _) R
theorem PostS.seq {K : PySem.W.Frag} {B b : Wd} {W : WX} {D : Ends} {out : Out} {f : Sl → Ob → Out} {N : L2.St → Hp → Prop} (h : PostS K cl B b W D (match out with | .nx env o => f env o | r => r))
    (k : ∀ env o u σ, Ext b u → Rel K cl B u env o σ → PostS K cl B u W D (f env o) → N σ u.H) : PostS K cl B b W { D with nx := N } out := by
  cases out with
  | nx env o => exact fun u σ e R => k env o u σ e R (PostS.ext e h)
  | rt r o => exact h
  | bk env o => exact h
  | ct env o => exact h
  | ex x env o => exact h
  | stuck => exact h
theorem snss_cons (h : SnS cl T n c st s) (hs : SnSs cl T n c ss ss') : SnSs cl T n c (st :: ss) (s :: ss') := fun X W k B u env o σ R D post => by
  refine WSs.of (pss_cons (ps_self st) (pss_self ss)) ?_
  simp only [execs] at post
  exact h X W k B u env o σ R _ (PostS.seq (f := fun env o => execs (prm T n) ss' env o) post fun env1 o1 u1 σ1 e1 R1 post1 => hs X W k B u1 env1 o1 σ1 R1 D post1)
theorem snss_frz {i : Nat} (hs : SnSs cl T n c ss ss') : SnSs cl T n c ss (.frz i :: ss') := fun X W k B u env o σ R D post => by
  simp only [execs, exec] at post
  match he : env[i]? with
  | none => rw [he] at post; exact post.elim
  | some none => rw [he] at post; exact post.elim
  | some (some (.bor _)) => rw [he] at post; exact post.elim
  | some (some (.val d)) => rw [he] at post; exact hs X W k B u env o σ R D post
  | some (some (.own ct)) =>
    rw [he] at post
    obtain ⟨u', e1, ext, R'⟩ := R.ice he
    rw [← e1]
    exact hs X W k B u' _ o σ R' D (PostS.ext ext post)
theorem sns_iff {p : Pos} {t : Expr} {t' : Ex} {as bs : List Stmt} {as' bs' : List Stm} (ht : Sn cl T n c t t') (ha : SnSs cl T n c as as') (hb : SnSs cl T n c bs bs') : SnS cl T n c (.If t as bs p) (.iff t' as' bs') := fun X W k B u env o σ R D post => by
  refine WS.of (ps_if (pt_self t) (pss_self as) (pss_self bs)) ?_
  simp only [exec] at post
  refine ht.t X W k.toCtxOk B u env o σ R _ ?_
  cases hr : ev (prm T n) env t' o with
  | stuck => rw [hr] at post; exact post.elim
  | exn x o1 => rw [hr] at post; exact fun c d u' g R xa => post c d u' σ R xa
  | ok r o1 =>
    rw [hr] at post
    simp only [Res.then_ok] at post
    cases htr : truD r.vw with
    | none => rw [htr] at post; exact post.elim
    | some m =>
      rw [htr] at post
      refine ⟨m, htr, fun u1 g1 R1 => ?_⟩
      cases m with
      | true => refine iteT ?_; exact ha X W k B u1 env o1 σ R1 D (PostS.ext g1.ext post)
      | false => refine iteF ?_; exact hb X W k B u1 env o1 σ R1 D (PostS.ext g1.ext post)
end
end PI

namespace PI
open PySem PySem.Spec PyProof.Rows L2 HT

section
variable {cl : String → Option Addr} {T : Tab} {n : Nat} {c : CC} {e a b : Expr} {ex a' b' : Ex} {st : Stmt} {ss : List Stmt} {s : Stm} {ss' : List Stm}
theorem sns_whl {p : Pos} {t : Expr} {t' : Ex} {bs : List Stmt} {bs' : List Stm} (ht : Sn cl T n c t t') (hb : SnSs cl T n c bs bs') : SnS cl T n c (.While t bs [] p) (.whl t' bs') := fun X W k B u env o σ R D post => by
  refine WS.of (ps_while k.pass (pt_self t) (pss_self bs)) ?_
  simp only [exec, whlD] at post
  let stp := turnW (fun σ o => ev (prm T n) σ t' o) (fun σ o => execs (prm T n) bs' σ o)
  cases hl : loopD stp (env, o) with
  | none => rw [hl] at post; exact post.elim
  | some out =>
    rw [hl] at post
    have post' : PostS X.K cl B u W D out := post
    obtain ⟨m0, it0⟩ := loopD_iff.mp hl
    refine ⟨fun m τ H => ∃ (w : Wd) (en : Sl) (oo : Ob), Iter stp m (en, oo) out ∧ Rel X.K cl B w en oo τ ∧ w.H = H ∧ Ext u w, ⟨m0, u, env, o, it0, R, rfl, Ext.refl _⟩, ?_⟩
    rintro m τ H ⟨w, en, oo, it, Rw, rfl, ext⟩
    refine ht.t X W k.toCtxOk B w en oo τ Rw _ ?_
    cases hr : ev (prm T n) en t' oo with
    | stuck =>
      have hst : stp (en, oo) = .inr .stuck := by show turnW _ _ _ = _; unfold turnW; dsimp only; rw [hr]
      cases it with
      | done h => rw [hst] at h; cases h; exact post'.elim
      | more h _ => rw [hst] at h; cases h
    | exn x o1 =>
      have hst : stp (en, oo) = .inr (.ex x en o1) := by show turnW _ _ _ = _; unfold turnW; dsimp only; rw [hr]
      cases it with
      | done h => rw [hst] at h; cases h; exact fun c d u' g R xa => post' c d u' τ R xa
      | more h _ => rw [hst] at h; cases h
    | ok r o1 =>
      cases htr : truD r.vw with
      | none =>
        have hst : stp (en, oo) = .inr .stuck := by show turnW _ _ _ = _; unfold turnW; dsimp only; rw [hr]; dsimp only; rw [htr]
        cases it with
        | done h => rw [hst] at h; cases h; exact post'.elim
        | more h _ => rw [hst] at h; cases h
      | some q =>
        refine ⟨q, htr, fun u1 g1 R1 => ?_⟩
        cases q with
        | false =>
          have hst : stp (en, oo) = .inr (.nx en o1) := by show turnW _ _ _ = _; unfold turnW; dsimp only; rw [hr]; dsimp only; rw [htr]
          refine iteF ?_
          cases it with
          | done h => rw [hst] at h; cases h; exact post' u1 τ (ext.trans g1.ext) R1
          | more h _ => rw [hst] at h; cases h
        | true =>
          refine iteT ?_
          refine ⟨fun τ' H' => ∃ m', m' < m ∧ ∃ (w : Wd) (en : Sl) (oo : Ob), Iter stp m' (en, oo) out ∧ Rel X.K cl B w en oo τ' ∧ w.H = H' ∧ Ext u w, fun τ' H' h => h, ?_⟩
          refine hb X W k B u1 en o1 τ R1 _ ?_
          cases hx : execs (prm T n) bs' en o1 with
          | stuck =>
            have hst : stp (en, oo) = .inr .stuck := by show turnW _ _ _ = _; unfold turnW; dsimp only; rw [hr]; dsimp only; rw [htr]; dsimp only; rw [hx]
            cases it with
            | done h => rw [hst] at h; cases h; exact post'.elim
            | more h _ => rw [hst] at h; cases h
          | rt r2 o2 =>
            have hst : stp (en, oo) = .inr (.rt r2 o2) := by show turnW _ _ _ = _; unfold turnW; dsimp only; rw [hr]; dsimp only; rw [htr]; dsimp only; rw [hx]
            cases it with
            | done h => rw [hst] at h; cases h; exact post'
            | more h _ => rw [hst] at h; cases h
          | ex x en2 o2 =>
            have hst : stp (en, oo) = .inr (.ex x en2 o2) := by show turnW _ _ _ = _; unfold turnW; dsimp only; rw [hr]; dsimp only; rw [htr]; dsimp only; rw [hx]
            cases it with
            | done h => rw [hst] at h; cases h; exact post'
            | more h _ => rw [hst] at h; cases h
          | bk en2 o2 =>
            have hst : stp (en, oo) = .inr (.nx en2 o2) := by show turnW _ _ _ = _; unfold turnW; dsimp only; rw [hr]; dsimp only; rw [htr]; dsimp only; rw [hx]
            cases it with
            | done h => rw [hst] at h; cases h; exact fun u3 τ3 e3 R3 => post' u3 τ3 ((ext.trans g1.ext).trans e3) R3
            | more h _ => rw [hst] at h; cases h
          | nx en2 o2 =>
            have hst : stp (en, oo) = .inl (en2, o2) := by show turnW _ _ _ = _; unfold turnW; dsimp only; rw [hr]; dsimp only; rw [htr]; dsimp only; rw [hx]
            cases it with
            | done h => rw [hst] at h; cases h
            | more h it' => rw [hst] at h; cases h; exact fun u3 τ3 e3 R3 => ⟨_, Nat.lt_succ_self _, u3, en2, o2, it', R3, rfl, (ext.trans g1.ext).trans e3⟩
          | ct en2 o2 =>
            have hst : stp (en, oo) = .inl (en2, o2) := by show turnW _ _ _ = _; unfold turnW; dsimp only; rw [hr]; dsimp only; rw [htr]; dsimp only; rw [hx]
            cases it with
            | done h => rw [hst] at h; cases h
            | more h it' => rw [hst] at h; cases h; exact fun u3 τ3 e3 R3 => ⟨_, Nat.lt_succ_self _, u3, en2, o2, it', R3, rfl, (ext.trans g1.ext).trans e3⟩
theorem exec_for {P : Prm} {t : Tg} {it : Ex} {bs : List Stm} {env : Sl} {o : Ob} : exec P (.for t it bs) env o = (evIF P env it o).then env fun xs o => forD t (fun σ o => execs P bs σ o) xs env o := by
  cases it <;> simp only [exec, evIF]
theorem sns_for {p : Pos} {tg it : Expr} {t : Tg} {it' : Ex} {bs : List Stmt} {bs' : List Stm} (ht : CT c tg t) (hi : Sni cl T n c it it') (hb : SnSs cl T n c bs bs') : SnS cl T n c (.For tg it bs [] p) (.for t it' bs') := fun X W k B u env o σ R D post => by
  refine WS.of (ps_for k.pass k.calm pi_self (pg_of k.toCtxOk ht) (pss_self bs) (fun x => fold_of hi.sh x)) ?_
  rw [exec_for] at post
  refine hi.f X W tg k.toCtxOk B u env o σ R _ (post.bindI fun xs o1 J u1 g1 R1 hJ post1 => ?_)
  refine ⟨fun i m τ H => ∃ (w : Wd) (en : Sl) (oo : Ob), Rel X.K cl B w en oo τ ∧ w.H = H ∧ Ext u1 w ∧ m = xs.length - i ∧ i ≤ xs.length ∧ PostS X.K cl B u1 W D (forD t (fun σ o => execs (prm T n) bs' σ o) (xs.drop i) en oo), ⟨xs.length, u1, env, o1, R1, rfl, Ext.refl _, by omega, Nat.zero_le _, post1⟩, ?_⟩
  rintro i m τ H ⟨w, en, oo, Rw, rfl, ext, rfl, hi', post2⟩
  obtain ⟨j1, j2⟩ := hJ w ext.pre ext.sF Rw.sub i
  cases hd : xs[i]? with
  | none =>
    have hl : xs.length ≤ i := List.getElem?_eq_none_iff.mp hd
    rw [List.drop_eq_nil_of_le hl] at post2
    exact .inl ⟨j2 hl, post2 w τ ext Rw⟩
  | some d =>
    obtain ⟨hlt, hgd⟩ := List.getElem?_eq_some_iff.mp hd
    have hdr : xs.drop i = d :: xs.drop (i + 1) := by rw [List.drop_eq_getElem_cons hlt, hgd]
    rw [hdr] at post2
    obtain ⟨j3, j4⟩ := j1 d hd
    refine .inr ⟨j3, fun τ' H' => ∃ (w : Wd) (en : Sl) (oo : Ob), Rel X.K cl B w en oo τ' ∧ w.H = H' ∧ Ext u1 w ∧ PostS X.K cl B u1 W D (forD t (fun σ o => execs (prm T n) bs' σ o) (xs.drop (i + 1)) en oo), fun τ' H' ⟨w, en, oo, q1, q2, q3, q4⟩ => ⟨xs.length - (i + 1), by omega, w, en, oo, q1, q2, q3, rfl, by omega, q4⟩, fun x H' hy => ?_⟩
    obtain ⟨rfl, rx⟩ := j4 x H' hy
    unfold forD at post2
    cases hs : setT t d en with
    | none => rw [hs] at post2; exact post2.elim
    | some en' =>
      rw [hs] at post2
      dsimp only at post2
      refine g_run Rw rx hs fun τ2 R2 _ => ?_
      refine hb X W k B w en' oo τ2 R2 _ ?_
      cases hx : execs (prm T n) bs' en' oo with
      | stuck => rw [hx] at post2; exact post2.elim
      | rt r2 o2 => rw [hx] at post2; exact post2
      | ex x en2 o2 => rw [hx] at post2; exact post2
      | bk en2 o2 => rw [hx] at post2; exact fun u3 τ3 e3 R3 => post2 u3 τ3 (ext.trans e3) R3
      | nx en2 o2 => rw [hx] at post2; exact fun u3 τ3 e3 R3 => ⟨u3, en2, o2, R3, rfl, ext.trans e3, post2⟩
      | ct en2 o2 => rw [hx] at post2; exact fun u3 τ3 e3 R3 => ⟨u3, en2, o2, R3, rfl, ext.trans e3, post2⟩
end
section
variable {cl : String → Option Addr} {T : Tab} {n : Nat}
mutual
theorem cs_sn {c : CC} {st : Stmt} {s : Stm} : CS c st s → SnS cl T n c st s
  | .asg1 hN hl he hn => sns_asg1 hN hl (ce_sn he) hn
  | .asgLc hN hl ht hi hc he hb hw hline ha => sns_asgLc hN hl ht (ci_sn hi) (cif_sn hc) (ce_sn he) hb hw hline ha
  | .asgL2 hN hl he hline => sns_asgL2 hN hl (ce_sn he) hline
  | .asgN ht hd he hn => sns_asgN ht hd (ce_sn he) hn
  | .par hi hj hx hy hij hxy hline ha hb hf hc => sns_par hi hj hx hy hij hxy hline (ce_sn ha) (ce_sn hb) hf hc
  | .sti hN hv hd hq he => sns_sti hN hv hd (ce_sn hq) (ce_sn he)
  | .app hN hv hd he hline => sns_app hN hv hd (ce_sn he) hline
  | .pop hN hv hd hline ht => sns_pop hN hv hd hline ht
  | .exp he hn => sns_exp (ce_sn he) hn
  | .ret he => sns_ret (ce_sn he)
  | .retN => sns_retN
  | .iff he ha hb => sns_iff (ce_sn he) (css_sn ha) (css_sn hb)
  | .whl he hb => sns_whl (ce_sn he) (css_sn hb)
  | .for ht hi hb => sns_for ht (ci_sn hi) (css_sn hb)
  | .brk => sns_brk
  | .cnt => sns_cnt
  | .pas => sns_pas
  | .nev => sns_nev
theorem css_sn {c : CC} {ss : List Stmt} {ss' : List Stm} : CSs c ss ss' → SnSs cl T n c ss ss'
  | .nil => snss_nil
  | .cons h hs => snss_cons (cs_sn h) (css_sn hs)
  | .frz hs => snss_frz (css_sn hs)
end
end
end PI

namespace PI
open PySem PySem.Spec PyProof.Rows L2 HT

/-! ### defs keep their promises -/
def dflBind (K : PySem.W.Frag) (cl : String → Option Addr) (fd : Fn) (fdt : FuncData) (ps : List Str) : Prop :=
  ∀ m, m ≤ fd.npar → fd.npar ≤ m + fd.dfl.length → ∃ (dvs : List V) (ds : List Value), RepL K cl [] noHp dvs (fd.dfl.drop (fd.dfl.length - (fd.npar - m))) ∧ Vals dvs ds ∧ Binds K fdt ps ds
structure DefC (K : PySem.W.Frag) (cl : String → Option Addr) (gl : List (Str × GK)) (fd : Fn) (a : Addr) (fdt : FuncData) (ps : List Str) : Prop where
  ex : ∃ (x qual : Str) (st : Stmt) (dvs : List V) (N : List Str), FunD K x qual (defArgs st) (defBody st) (defScope st) dvs [] a fdt ∧ FnScope N ps (defScope st) ∧ N.length = fd.nsl ∧ CSs ⟨N, (defScope st).names, gl⟩ (defBody st) fd.body
  len : ps.length = fd.npar
  bd : dflBind K cl fd fdt ps
structure GlF (K : PySem.W.Frag) (mg : Str → Option Value) (cl : String → Option Addr) (T : Tab) (gl : List (Str × GK)) : Prop where
  cst : ∀ x d, gl.lookup x = some (.cst d) → ∃ u v, mg x = some u ∧ RelV v u ∧ RepD K cl [] noHp v d
  blt : ∀ x, gl.lookup x = some .blt → mg x = none
  cls : ∀ x C, gl.lookup x = some (.cls C) ∨ gl.lookup x = some (.exc C) → ∃ a, mg x = some (.ref a) ∧ cl C = some a
  fn : ∀ x f lo hi, gl.lookup x = some (.fn f lo hi) → ∃ fd a fdt ps, T.fn f = some fd ∧ hi ≤ fd.npar ∧ fd.npar ≤ lo + fd.dfl.length ∧ mg x = some (.ref a) ∧ DefC K cl gl fd a fdt ps
section
variable {P : Program} {w : World} {K : PySem.W.Frag} {mg : Str → Option Value} {base : Heap} {cl : String → Option Addr} {T : Tab} {gl : List (Str × GK)}
theorem spF_len {n : Nat} {f : String} {fd : Fn} {ps : List Str} (hf : T.fn f = some fd) (hl : ps.length = fd.npar) : ∀ vs H Q E, spF K cl T n f vs H Q E → vs.length = ps.length := by
  rintro vs H Q E ⟨fd', u, o, ds, h1, h2, h3, h4, h5, h6⟩
  rw [hf] at h1
  cases h1
  rw [h5.length, h2, hl]
theorem callF_eq {n : Nat} {f : String} {fd : Fn} {ds : List PI.D} {o : Ob} (hf : T.fn f = some fd) (hl : ds.length = fd.npar) : callF T (n + 1) f ds o = endOf (execs (prm T n) fd.body (entry fd ds) o) := by
  have hfl : filled fd ds = some ds := by
    unfold filled
    rw [if_pos ⟨by omega, by omega⟩, hl]
    simp
  rw [callF, hf]
  dsimp only
  rw [hfl]
  rfl
theorem rel_entry {u : Wd} {o : Ob} {vs : List V} {ds : List PI.D} {fd : Fn} {N : List Str} (b : BaseOk K cl u o) (r : RepL K cl u.ι u.F vs ds) (hl : ds.length = fd.npar) (hN : N.length = fd.nsl) : Rel K cl u u (entry fd ds) o (L2.start N vs) := by
  have hlen := r.length
  have slot : ∀ i q, (entry fd ds)[i]? = some (some q) → ∃ d, q = .val d ∧ ds[i]? = some d ∧ i < ds.length := fun i q e => by
    unfold entry at e
    by_cases hi : i < ds.length
    · rw [List.getElem?_append_left (by simpa using hi), List.getElem?_map] at e
      cases hd : ds[i]? with
      | none => rw [hd] at e; cases e
      | some d => rw [hd] at e; cases e; exact ⟨d, rfl, rfl, hi⟩
    · rw [List.getElem?_append_right (by simpa using hi), List.getElem?_replicate] at e
      split at e <;> cases e
  refine { toBaseOk := b, sln := by simp [L2.start, entry, hlen, hl, hN], sl := fun i q e => ?_, apart := fun i j c c' a e1 e2 e3 e4 => ?_, grow := Grow.refl u }
  · cases q with
    | none => trivial
    | some q =>
      obtain ⟨d, rfl, hd, hi⟩ := slot i q e
      obtain ⟨v, hv, rv⟩ := r.get hd
      refine ⟨v, ?_, rv⟩
      unfold L2.start
      rw [List.getElem?_append_left (by simp; omega), List.getElem?_map, hv]
      rfl
  · obtain ⟨d, z, _⟩ := slot i _ e1
    cases z
theorem def_ok (G : GlF K mg cl T gl) : ∀ (n : Nat) (f : String) (fd : Fn) (a : Addr) (fdt : FuncData) (ps : List Str), T.fn f = some fd → DefC K cl gl fd a fdt ps → FnOk P w K mg base (L2.CX P w) n a fdt ps (spF K cl T n f)
  | 0, f, fd, a, fdt, ps, hf, C => ⟨spF_len hf C.len, fun A outer s H args us vs Q E _ _ _ _ hs => by
    obtain ⟨fd', u, o, ds, h1, h2, h3, h4, h5, h6⟩ := hs
    rw [callF] at h6
    exact h6.elim⟩
  | n + 1, f, fd, a, fdt, ps, hf, C => by
    obtain ⟨x, qual, st, dvs, N, F, S, hN, hb⟩ := C.ex
    refine F.ok S (spF_len hf C.len) fun cdv A outer s H vs Q E hr hsp => ⟨_, pss_self (defBody st), ?_⟩
    obtain ⟨fd', u, o, ds, h1, h2, rfl, h4, h5, h6⟩ := hsp
    rw [hf] at h1
    cases h1
    rw [callF_eq hf h2] at h6
    have k : StOk cl T n ⟨N, (defScope st).names, gl⟩ (fun c d _ H => E c d H) (cxOf (L2.CX P w) P w K mg base N qual (defScope st) a cdv A outer s u.H E) :=
      { N := rfl, nd := S.nd, kd := S.kind, nm := fun x k h => ⟨k, h, .inl rfl⟩, calm := rfl, fnl := fun x _ => .inl rfl, room := hr, tk := takes_of rfl rfl rfl rfl,
        gl := ⟨G.cst, G.blt, G.cls, fun x g lo hi h => by
          obtain ⟨fd2, a2, fdt2, ps2, g1, g2, g3, g4, g5⟩ := G.fn x g lo hi h
          obtain ⟨x2, q2, st2, dv2, N2, F2, _⟩ := g5.ex
          exact ⟨fd2, a2, fdt2, ps2, g1, g2, g3, g4, ⟨F2.kp, def_ok G n g fd2 a2 fdt2 ps2 g1 g5, g5.len, g5.bd⟩⟩⟩,
        pass := passes_of rfl }
    refine css_sn hb _ _ k u u (entry fd ds) o (L2.start N vs) (rel_entry h4 h5 h2 hN) _ ?_
    cases hx : execs (prm T n) fd.body (entry fd ds) o with
    | stuck => rw [hx] at h6; exact h6.elim
    | bk _ _ => rw [hx] at h6; exact h6.elim
    | ct _ _ => rw [hx] at h6; exact h6.elim
    | rt r o' => rw [hx] at h6; exact h6
    | nx en o' => rw [hx] at h6; exact fun u' σ' _ R => h6 .non u' R.grow R.toBaseOk .non
    | ex y en o' => rw [hx] at h6; exact fun c d u' σ' R xa => h6 c d u' R.grow R.toBaseOk xa
end
end PI

namespace PI
open PySem PySem.Spec PyProof.Rows L2 HT

/-! ### the trees are held against the text -/
mutual
def sameD : D → D → Bool
  | .non, .non => true
  | .bl a, .bl b => decide (a = b)
  | .int a, .int b => decide (a = b)
  | .str a, .str b => decide (a = b)
  | .tup a, .tup b => sameDs a b
  | .lst a, .lst b => sameDs a b
  | .typ a, .typ b => decide (a = b)
  | .cls a, .cls b => decide (a = b)
  | _, _ => false
def sameDs : List D → List D → Bool
  | [], [] => true
  | a :: as, b :: bs => sameD a b && sameDs as bs
  | _, _ => false
end
mutual
theorem sameD_eq : ∀ {a b : D}, sameD a b = true → a = b
  | .non, b, h => by cases b <;> first | rfl | (simp [sameD] at h; done)
  | .bl x, b, h => by cases b <;> first | (simp [sameD] at h; done) | (simp only [sameD, decide_eq_true_eq] at h; rw [h])
  | .int x, b, h => by cases b <;> first | (simp [sameD] at h; done) | (simp only [sameD, decide_eq_true_eq] at h; rw [h])
  | .str x, b, h => by cases b <;> first | (simp [sameD] at h; done) | (simp only [sameD, decide_eq_true_eq] at h; rw [h])
  | .typ x, b, h => by cases b <;> first | (simp [sameD] at h; done) | (simp only [sameD, decide_eq_true_eq] at h; rw [h])
  | .cls x, b, h => by cases b <;> first | (simp [sameD] at h; done) | (simp only [sameD, decide_eq_true_eq] at h; rw [h])
  | .tup x, b, h => by cases b <;> first | (simp [sameD] at h; done) | (simp only [sameD] at h; rw [sameDs_eq h])
  | .lst x, b, h => by cases b <;> first | (simp [sameD] at h; done) | (simp only [sameD] at h; rw [sameDs_eq h])
  | .dct x, b, h => by cases b <;> simp [sameD] at h
  | .obj x, b, h => by cases b <;> simp [sameD] at h
  | .exc x y, b, h => by cases b <;> simp [sameD] at h
theorem sameDs_eq : ∀ {a b : List D}, sameDs a b = true → a = b
  | [], [], _ => rfl
  | [], _ :: _, h => by simp [sameDs] at h
  | _ :: _, [], h => by simp [sameDs] at h
  | a :: as, b :: bs, h => by
    simp only [sameDs, Bool.and_eq_true] at h
    rw [sameD_eq h.1, sameDs_eq h.2]
end
def nmB (c : CC) (i : Nat) (x : Str) : Bool := decide (c.N[i]? = some x)
def locB (c : CC) (x : Str) : Bool := match c.sc.lookup x with
  | some .local => true
  | some .cell => true
  | _ => false
def lclB (c : CC) (x : Str) : Bool := match c.sc.lookup x with
  | some .local => true
  | _ => false
theorem locB_of {c : CC} {x : Str} (h : locB c x = true) : c.sc.lookup x = some .local ∨ c.sc.lookup x = some .cell := by
  unfold locB at h
  split at h
  · rename_i e; exact .inl e
  · rename_i e; exact .inr e
  · cases h
theorem lclB_of {c : CC} {x : Str} (h : lclB c x = true) : c.sc.lookup x = some .local := by
  unfold lclB at h
  split at h
  · rename_i e; exact e
  · cases h
def chkTs (c : CC) : List Expr → List Nat → Bool
  | [], [] => true
  | .Name x _ :: es, i :: is => nmB c i x && locB c x && chkTs c es is
  | _, _ => false
theorem chkTs_ok {c : CC} : ∀ {es : List Expr} {is : List Nat}, chkTs c es is = true → CTs c es is
  | [], [], _ => .nil
  | [], _ :: _, h => by simp [chkTs] at h
  | e :: es, [], h => by cases e <;> simp [chkTs] at h
  | e :: es, i :: is, h => by
    cases e <;> simp only [chkTs, Bool.and_eq_true, Bool.false_eq_true] at h
    obtain ⟨⟨h1, h2⟩, h3⟩ := h
    exact .cons (of_decide_eq_true h1) (locB_of h2) (chkTs_ok h3)
def chkT (c : CC) : Expr → Tg → Bool
  | .Name x _, .one i => nmB c i x && locB c x
  | .Tuple es _ _, .many is => chkTs c es is && decide is.Nodup
  | _, _ => false
theorem chkT_ok {c : CC} {e : Expr} {t : Tg} (h : chkT c e t = true) : CT c e t := by
  unfold chkT at h
  split at h
  · obtain ⟨h1, h2⟩ := Bool.and_eq_true_iff.mp h
    exact .one (of_decide_eq_true h1) (locB_of h2)
  · obtain ⟨h1, h2⟩ := Bool.and_eq_true_iff.mp h
    exact .many (chkTs_ok h1) (of_decide_eq_true h2)
  · cases h
def glC (c : CC) (x : Str) (d : D) : Bool := match c.gl.lookup x with
  | some (.cst d') => sameD d' d
  | some (.cls C) => (match d with | .cls C' => decide (C = C') | _ => false)
  | some (.exc C) => (match d with | .cls C' => decide (C = C') | _ => false)
  | some .blt => (match d with | .typ T => decide (x = Str.ofString T) && decide (bootBuiltins x = some (.type T)) | _ => false)
  | _ => false
def glF (c : CC) (x : Str) (f : String) (m : Nat) : Bool := match c.gl.lookup x with
  | some (.fn g lo hi) => decide (g = f) && decide (lo ≤ m) && decide (m ≤ hi)
  | _ => false
def glB (c : CC) (x : Str) : Bool := match c.gl.lookup x with
  | some .blt => true
  | _ => false
theorem glB_of {c : CC} {x : Str} (h : glB c x = true) : c.gl.lookup x = some .blt := by
  unfold glB at h
  split at h
  · rename_i e; exact e
  · cases h
theorem glC_ok {c : CC} {x : Str} {d : D} {p : Pos} (hg : glbB c x = true) (h : glC c x d = true) : CE c (.Name x p) (.cst d) := by
  unfold glC at h
  split at h
  · rename_i e; rw [← sameD_eq h]; exact .glb hg e
  · rename_i C e
    split at h
    · rw [← of_decide_eq_true h]; exact .cls hg (.inl e)
    · cases h
  · rename_i C e
    split at h
    · rw [← of_decide_eq_true h]; exact .cls hg (.inr e)
    · cases h
  · rename_i e
    split at h
    · simp only [Bool.and_eq_true, decide_eq_true_eq] at h
      exact .typ hg e h.1 h.2
    · cases h
  · cases h
def bltB (c : CC) (x : Str) (f : String) : Bool := glB c x && decide (x = Str.ofString f) && (match bltV f with
  | some v => decide (bootBuiltins x = some v)
  | none => false)
theorem bltB_of {c : CC} {x : Str} {f : String} (h : bltB c x f = true) : c.gl.lookup x = some .blt ∧ x = Str.ofString f ∧ ∃ v, bltV f = some v ∧ bootBuiltins x = some v := by
  unfold bltB at h
  simp only [Bool.and_eq_true, decide_eq_true_eq] at h
  obtain ⟨⟨h1, h2⟩, h3⟩ := h
  refine ⟨glB_of h1, h2, ?_⟩
  cases hb : bltV f with
  | none => rw [hb] at h3; cases h3
  | some v => rw [hb] at h3; exact ⟨v, rfl, of_decide_eq_true h3⟩
def ownOf (c : CC) (ow : List Nat) : List (Str × Nat) := ow.filterMap fun i => (c.N[i]?).map fun x => (x, i)
mutual
def chkE : Nat → CC → Expr → Ex → Bool
  | 0, _, _, _ => false
  | n + 1, c, e, ex => match e, ex with
    | .Constant (.int i) _ _, .cst (.int j) => decide (i = j)
    | .Constant (.bool b) _ _, .cst (.bl j) => decide (b = j)
    | .Constant .none _ _, .cst .non => true
    | .Constant (.str x) _ _, .cst (.str s) => decide (x.cps.toList = s)
    | .Name x _, .var i => nmB c i x && visB c x && dbgB x
    | .Name x _, .cst d => glbB c x && glC c x d
    | .BinOp a op b _, .bin op' a' b' => decide (op = op') && chkE n c a a' && chkE n c b b'
    | .UnaryOp .USub a _, .neg a' => chkE n c a a'
    | .UnaryOp .Not a _, .not a' => chkE n c a a'
    | .Compare a [op] [b] _, .cmp op' a' b' => decide (op = op') && chkE n c a a' && chkE n c b b'
    | .Compare a [op, oq] [b, d] _, .chn op' oq' a' b' d' => decide (op = op') && decide (oq = oq') && chkE n c a a' && chkE n c b b' && chkE n c d d'
    | .BoolOp _ [a] _, a' => chkE n c a a'
    | .BoolOp .And (a :: b :: r) p, .and a' b' => chkE n c a a' && chkE n c (.BoolOp .And (b :: r) p) b'
    | .BoolOp .Or (a :: b :: r) p, .or a' b' => chkE n c a a' && chkE n c (.BoolOp .Or (b :: r) p) b'
    | .IfExp t a b _, .ife t' a' b' => chkE n c t t' && chkE n c a a' && chkE n c b b'
    | .Tuple es _ _, .tup es' => chkEs n c es es'
    | .List es _, .lst es' => chkEs n c es es'
    | .Subscript a (.Slice lo hi none _) _, .slc a' l h lo' hi' => chkE n c a a' && chkO n c lo l lo' && chkO n c hi h hi'
    | .Subscript a i _, .idx a' i' => chkE n c a a' && chkE n c i i'
    | .Call (.Name x _) es [] _, .call f es' => glbB c x && glF c x f es.length && chkEs n c es es'
    | .Call (.Name x _) (e :: es) [] _, .blt f es' => glbB c x && bltB c x f && chkEs n c (e :: es) es'
    | .Call (.Attribute o x p) (e :: es) [] p2, .mth m o' es' => decide (x = Str.ofString m) && (mthT m).isSome && chkE n c o o' && notCall0 o && chkEs n c (e :: es) es' && (p.endLine == p2.line) && decide ((e :: es).length < 30)
    | .ListComp elt [⟨tg, iter, ifs, 0⟩] scope _, .comp elt' t it cond ow => chkT (c.blk scope) tg t && chkI n c iter it && chkIf n (c.blk scope) ifs cond && chkE n (c.blk scope) elt elt' && blkC c.N (dumS c) scope (ownOf c ow) && tgIn t ow && decide ((ownOf c ow).map (·.2) = ow)
    | _, _ => false
def chkEs : Nat → CC → List Expr → List Ex → Bool
  | 0, _, _, _ => false
  | n + 1, c, es, xs => match es, xs with
    | [], [] => true
    | e :: es, x :: xs => chkE n c e x && chkEs n c es xs
    | _, _ => false
def chkO : Nat → CC → Option Expr → Bool → Ex → Bool
  | 0, _, _, _, _ => false
  | n + 1, c, e, l, ex => match e, l, ex with
    | none, false, .cst .non => true
    | some e, true, ex => chkE n c e ex
    | _, _, _ => false
def chkIf : Nat → CC → List Expr → Ex → Bool
  | 0, _, _, _ => false
  | n + 1, c, e, ex => match e, ex with
    | [], .cst (.bl true) => true
    | [e], ex => chkE n c e ex
    | _, _ => false
def chkI : Nat → CC → Expr → Ex → Bool
  | 0, _, _, _ => false
  | n + 1, c, e, ex => match e, ex with
    | .Call (.Name x _) [a] [] _, .rng [a'] => glbB c x && decide (x = ("range" : Str)) && glB c x && chkE n c a a'
    | .Call (.Name x _) [a, b] [] _, .rng [a', b'] => glbB c x && decide (x = ("range" : Str)) && glB c x && chkE n c a a' && chkE n c b b'
    | e, ex => !isRng ex && chkE n c e ex
end
section
variable {c : CC}
mutual
theorem chkE_ok : ∀ (n : Nat) {c : CC} {e : Expr} {ex : Ex}, chkE n c e ex = true → CE c e ex
  | 0, _, _, _, h => by simp [chkE] at h
  | n + 1, c, e, ex, h => by
    unfold chkE at h
    split at h
    · rw [of_decide_eq_true h]; exact .int
    · rw [of_decide_eq_true h]; exact .bl
    · exact .non
    · rw [← of_decide_eq_true h]; exact .str
    · simp only [Bool.and_eq_true] at h
      exact .var (of_decide_eq_true h.1.1) h.1.2 h.2
    · simp only [Bool.and_eq_true] at h
      exact glC_ok h.1 h.2
    · simp only [Bool.and_eq_true, decide_eq_true_eq] at h
      obtain ⟨⟨rfl, h1⟩, h2⟩ := h
      exact .bin (chkE_ok n h1) (chkE_ok n h2)
    · exact .neg (chkE_ok n h)
    · exact .not (chkE_ok n h)
    · simp only [Bool.and_eq_true, decide_eq_true_eq] at h
      obtain ⟨⟨rfl, h1⟩, h2⟩ := h
      exact .cmp (chkE_ok n h1) (chkE_ok n h2)
    · simp only [Bool.and_eq_true, decide_eq_true_eq] at h
      obtain ⟨⟨⟨⟨rfl, rfl⟩, h1⟩, h2⟩, h3⟩ := h
      exact .chn (chkE_ok n h1) (chkE_ok n h2) (chkE_ok n h3)
    · exact .one (chkE_ok n h)
    · simp only [Bool.and_eq_true] at h
      exact .and (chkE_ok n h.1) (chkE_ok n h.2)
    · simp only [Bool.and_eq_true] at h
      exact .or (chkE_ok n h.1) (chkE_ok n h.2)
    · simp only [Bool.and_eq_true] at h
      exact .ife (chkE_ok n h.1.1) (chkE_ok n h.1.2) (chkE_ok n h.2)
    · exact .tup (chkEs_ok n h)
    · exact .lst (chkEs_ok n h)
    · simp only [Bool.and_eq_true] at h
      exact .slc (chkE_ok n h.1.1) (chkO_ok n h.1.2) (chkO_ok n h.2)
    · simp only [Bool.and_eq_true] at h
      exact .idx (chkE_ok n h.1) (chkE_ok n h.2)
    · simp only [Bool.and_eq_true] at h
      obtain ⟨⟨h1, h2⟩, h3⟩ := h
      unfold glF at h2
      split at h2
      · rename_i e
        simp only [Bool.and_eq_true, decide_eq_true_eq] at h2
        obtain ⟨⟨rfl, h4⟩, h5⟩ := h2
        exact .call h1 e h4 h5 (chkEs_ok n h3)
      · cases h2
    · simp only [Bool.and_eq_true] at h
      obtain ⟨⟨h1, h2⟩, h3⟩ := h
      obtain ⟨b1, b2, v, b3, b4⟩ := bltB_of h2
      exact .blt h1 b1 b2 b3 b4 (chkEs_ok n h3)
    · simp only [Bool.and_eq_true, decide_eq_true_eq] at h
      obtain ⟨⟨⟨⟨⟨⟨h1, h2⟩, h3⟩, h4⟩, h5⟩, h6⟩, h7⟩ := h
      obtain ⟨⟨T, id⟩, hm⟩ := Option.isSome_iff_exists.mp h2
      exact .mth h1 hm (chkE_ok n h3) h4 (chkEs_ok n h5) h6 h7
    · simp only [Bool.and_eq_true, decide_eq_true_eq] at h
      obtain ⟨⟨⟨⟨⟨⟨h1, h2⟩, h3⟩, h4⟩, h5⟩, h6⟩, h7⟩ := h
      rename_i ow
      have := CE.comp (pos := by assumption) (chkT_ok h1) (chkI_ok n h2) (chkIf_ok n h3) (chkE_ok n h4) h5 (by rw [h7]; exact h6)
      rw [h7] at this
      exact this
    · cases h
theorem chkEs_ok : ∀ (n : Nat) {c : CC} {e : List Expr} {ex : List Ex}, chkEs n c e ex = true → CEs c e ex
  | 0, _, _, _, h => by simp [chkEs] at h
  | n + 1, c, e, ex, h => by
    unfold chkEs at h
    split at h
    · exact .nil
    · simp only [Bool.and_eq_true] at h
      exact .cons (chkE_ok n h.1) (chkEs_ok n h.2)
    · cases h
theorem chkO_ok : ∀ (n : Nat) {c : CC} {e : Option Expr} {l : Bool} {ex : Ex}, chkO n c e l ex = true → CEo c e l ex
  | 0, _, _, _, _, h => by simp [chkO] at h
  | n + 1, c, e, l, ex, h => by
    unfold chkO at h
    split at h
    · exact .none
    · exact .some (chkE_ok n h)
    · cases h
theorem chkIf_ok : ∀ (n : Nat) {c : CC} {e : List Expr} {ex : Ex}, chkIf n c e ex = true → CIf c e ex
  | 0, _, _, _, h => by simp [chkIf] at h
  | n + 1, c, e, ex, h => by
    unfold chkIf at h
    split at h
    · exact .nil
    · exact .one (chkE_ok n h)
    · cases h
theorem chkI_ok : ∀ (n : Nat) {c : CC} {e : Expr} {ex : Ex}, chkI n c e ex = true → CI c e ex
  | 0, _, _, _, h => by simp [chkI] at h
  | n + 1, c, e, ex, h => by
    unfold chkI at h
    split at h
    · simp only [Bool.and_eq_true, decide_eq_true_eq] at h
      obtain ⟨⟨⟨h1, h2⟩, h3⟩, h4⟩ := h
      exact .rng1 h1 h2 (glB_of h3) (chkE_ok n h4)
    · simp only [Bool.and_eq_true, decide_eq_true_eq] at h
      obtain ⟨⟨⟨⟨h1, h2⟩, h3⟩, h4⟩, h5⟩ := h
      exact .rng2 h1 h2 (glB_of h3) (chkE_ok n h4) (chkE_ok n h5)
    · simp only [Bool.and_eq_true, Bool.not_eq_true'] at h
      exact .seq (chkE_ok n h.2) h.1
end
end
end PI

namespace PI
open PySem PySem.Spec PyProof.Rows L2 HT

mutual
def chkS : Nat → CC → Stmt → Stm → Bool
  | 0, _, _, _ => false
  | n + 1, c, st, s => match st, s with
    | _, .nev => true
    | .Assign [.Name x px] (.ListComp elt gens scope pos) _, .asg (.one i) keep ex =>
      if (px.line == pos.line) = true then
        (match gens, ex with
        | [⟨tg, iter, ifs, 0⟩], .comp elt' t it cond ow => nmB c i x && lclB c x && chkT (c.blk scope) tg t && chkI n c iter it && chkIf n (c.blk scope) ifs cond && chkE n (c.blk scope) elt elt' && blkC c.N (dumS c) scope (ownOf c ow) && tgIn t ow && decide ((ownOf c ow).map (·.2) = ow) && !(scope.names.any fun (n, k) => n == x && (k == .local || k == .cell))
        | _, _ => false)
      else nmB c i x && locB c x && chkE n c (.ListComp elt gens scope pos) ex
    | .Assign [.Name x _] e _, .asg (.one i) keep ex => nmB c i x && locB c x && chkE n c e ex && notLc e
    | .Assign [.Tuple [.Name x px, .Name y py] _ _] (.Tuple [a, b] _ _) _, .asg (.many [i, j]) false (.tup [a', b']) =>
      nmB c i x && nmB c j y && lclB c x && lclB c y && decide (i ≠ j) && decide (x ≠ y) && (px.line == py.line) && chkE n c a a' && chkE n c b b' && !(foldedForSure 8 a && foldedForSure 8 b) && !(constantsAlone 8 a && constantsAlone 8 b)
    | .Assign [.Tuple es _ _] e _, .asg (.many is) false e' => chkTs c es is && decide is.Nodup && chkE n c e e' && notTup e
    | .Assign [.Subscript (.Name x _) q _] e _, .sti i q' e' => nmB c i x && visB c x && dbgB x && chkE n c q q' && chkE n c e e'
    | .Expr (.Call (.Attribute (.Name x _) m pa) [e] [] pc) _, .mut i m' [e'] => decide (m = "append") && decide (m' = "append") && nmB c i x && visB c x && dbgB x && chkE n c e e' && (pa.endLine == pc.line)
    | .Assign [tg] (.Call (.Attribute (.Name x _) m pa) [] [] pc) _, .pop t i [] => decide (m = "pop") && nmB c i x && visB c x && dbgB x && (pa.endLine == pc.line) && chkT c tg t
    | .Expr e _, .exp e' => chkE n c e e' && notLc e
    | .Return (some e) _, .ret e' => chkE n c e e'
    | .Return none _, .ret (.cst .non) => true
    | .If e a b _, .iff e' a' b' => chkE n c e e' && chkSs n c a a' && chkSs n c b b'
    | .While e b [] _, .whl e' b' => chkE n c e e' && chkSs n c b b'
    | .For tg it b [] _, .for t it' b' => chkT c tg t && chkI n c it it' && chkSs n c b b'
    | .Break _, .brk => true
    | .Continue _, .cnt => true
    | .Pass _, .pas => true
    | _, _ => false
def chkSs : Nat → CC → List Stmt → List Stm → Bool
  | 0, _, _, _ => false
  | n + 1, c, ss, xs => match ss, xs with
    | ss, .frz _ :: xs => chkSs n c ss xs
    | [], [] => true
    | s :: ss, x :: xs => chkS n c s x && chkSs n c ss xs
    | _, _ => false
end
mutual
theorem chkS_ok : ∀ (n : Nat) {c : CC} {st : Stmt} {s : Stm}, chkS n c st s = true → CS c st s
  | 0, _, _, _, h => by simp [chkS] at h
  | n + 1, c, st, s, h => by
    unfold chkS at h
    split at h
    · exact .nev
    · split at h
      · rename_i hline
        split at h
        · simp only [Bool.and_eq_true, decide_eq_true_eq, Bool.not_eq_true'] at h
          obtain ⟨⟨⟨⟨⟨⟨⟨⟨⟨h0, h01⟩, h1⟩, h2⟩, h3⟩, h4⟩, h5⟩, h6⟩, h7⟩, h8⟩ := h
          have := CS.asgLc (keep := by assumption) (p := by assumption) (of_decide_eq_true h0) (lclB_of h01) (chkT_ok h1) (chkI_ok n h2) (chkIf_ok n h3) (chkE_ok n h4) h5 (by rw [h7]; exact h6) hline h8
          rw [h7] at this
          exact this
        · cases h
      · rename_i hline
        simp only [Bool.and_eq_true] at h
        exact .asgL2 (of_decide_eq_true h.1.1) (locB_of h.1.2) (chkE_ok n h.2) (by simpa using hline)
    · simp only [Bool.and_eq_true] at h
      exact .asg1 (of_decide_eq_true h.1.1.1) (locB_of h.1.1.2) (chkE_ok n h.1.2) h.2
    · simp only [Bool.and_eq_true, decide_eq_true_eq, Bool.not_eq_true'] at h
      obtain ⟨⟨⟨⟨⟨⟨⟨⟨⟨⟨h1, h2⟩, h3⟩, h4⟩, h5⟩, h6⟩, h7⟩, h8⟩, h9⟩, h10⟩, h11⟩ := h
      exact .par (of_decide_eq_true h1) (of_decide_eq_true h2) (lclB_of h3) (lclB_of h4) h5 h6 h7 (chkE_ok n h8) (chkE_ok n h9) h10 h11
    · simp only [Bool.and_eq_true, decide_eq_true_eq] at h
      exact .asgN (chkTs_ok h.1.1.1) h.1.1.2 (chkE_ok n h.1.2) h.2
    · simp only [Bool.and_eq_true] at h
      obtain ⟨⟨⟨⟨h1, h2⟩, h3⟩, h4⟩, h5⟩ := h
      exact .sti (of_decide_eq_true h1) h2 h3 (chkE_ok n h4) (chkE_ok n h5)
    · simp only [Bool.and_eq_true, decide_eq_true_eq] at h
      obtain ⟨⟨⟨⟨⟨⟨rfl, rfl⟩, h1⟩, h2⟩, h3⟩, h4⟩, h5⟩ := h
      exact .app (of_decide_eq_true h1) h2 h3 (chkE_ok n h4) h5
    · simp only [Bool.and_eq_true, decide_eq_true_eq] at h
      obtain ⟨⟨⟨⟨⟨rfl, h1⟩, h2⟩, h3⟩, h4⟩, h5⟩ := h
      exact .pop (of_decide_eq_true h1) h2 h3 h4 (chkT_ok h5)
    · simp only [Bool.and_eq_true] at h
      exact .exp (chkE_ok n h.1) h.2
    · exact .ret (chkE_ok n h)
    · exact .retN
    · simp only [Bool.and_eq_true] at h
      exact .iff (chkE_ok n h.1.1) (chkSs_ok n h.1.2) (chkSs_ok n h.2)
    · simp only [Bool.and_eq_true] at h
      exact .whl (chkE_ok n h.1) (chkSs_ok n h.2)
    · simp only [Bool.and_eq_true] at h
      exact .for (chkT_ok h.1.1) (chkI_ok n h.1.2) (chkSs_ok n h.2)
    · exact .brk
    · exact .cnt
    · exact .pas
    · cases h
theorem chkSs_ok : ∀ (n : Nat) {c : CC} {ss : List Stmt} {xs : List Stm}, chkSs n c ss xs = true → CSs c ss xs
  | 0, _, _, _, h => by simp [chkSs] at h
  | n + 1, c, ss, xs, h => by
    unfold chkSs at h
    split at h
    · exact .frz (chkSs_ok n h)
    · exact .nil
    · simp only [Bool.and_eq_true] at h
      exact .cons (chkS_ok n h.1) (chkSs_ok n h.2)
    · cases h
end
end PI

namespace PI
open PySem PySem.Spec PyProof.Rows L2 HT

/-! ### what the top holds -/
def EntryOk (K : PySem.W.Frag) (mg : Str → Option Value) (cl : String → Option Addr) (T : Tab) (gl : List (Str × GK)) (x : Str) : GK → Prop
  | .cst d => ∃ u v, mg x = some u ∧ RelV v u ∧ RepD K cl [] noHp v d
  | .blt => mg x = none
  | .cls C => ∃ a, mg x = some (.ref a) ∧ cl C = some a
  | .exc C => ∃ a, mg x = some (.ref a) ∧ cl C = some a
  | .fn f lo hi => ∃ fd a fdt ps, T.fn f = some fd ∧ hi ≤ fd.npar ∧ fd.npar ≤ lo + fd.dfl.length ∧ mg x = some (.ref a) ∧ DefC K cl gl fd a fdt ps
def EntOk (K : PySem.W.Frag) (mg : Str → Option Value) (cl : String → Option Addr) (T : Tab) (gl : List (Str × GK)) : List (Str × GK) → Prop
  | [] => True
  | p :: r => EntryOk K mg cl T gl p.1 p.2 ∧ EntOk K mg cl T gl r
section
variable {K : PySem.W.Frag} {mg : Str → Option Value} {cl : String → Option Addr} {T : Tab} {gl : List (Str × GK)}
theorem EntOk.get : ∀ {l : List (Str × GK)}, EntOk K mg cl T gl l → ∀ {x : Str} {k : GK}, l.lookup x = some k → EntryOk K mg cl T gl x k
  | [], _, x, k, e => by cases e
  | (y, q) :: r, h, x, k, e => by
    rw [List.lookup_cons] at e
    split at e
    · rename_i hb
      cases e
      have : x = y := by simpa using hb
      subst this
      exact h.1
    · exact EntOk.get h.2 e
theorem GlF.of (h : EntOk K mg cl T gl gl) : GlF K mg cl T gl :=
  ⟨fun x d e => h.get e, fun x e => h.get e, fun x C e => by rcases e with e | e <;> exact h.get e, fun x f lo hi e => h.get e⟩
theorem ent_str {x s : Str} {l : List Nat} {t : Tok} (h : mg x = some (.str s t)) (e : s.cps.toList = l) : EntryOk K mg cl T gl x (.cst (.str l)) := by
  subst e
  refine ⟨_, .str s, h, ⟨t, rfl⟩, ?_⟩
  have q := RepD.str (K := K) (cl := cl) (ι := []) (F := noHp) s.cps.toList
  rw [S_of] at q
  exact q
theorem ent_int {x : Str} {i : Int} {t : Tok} (h : mg x = some (.int i t)) : EntryOk K mg cl T gl x (.cst (.int i)) := ⟨_, .int i, h, ⟨t, rfl⟩, .int i⟩
theorem DefC.of {x qual : Str} {st : Stmt} {f : Addr} {oc : Value} {od an : Option Addr} {osl : Array (Option Value)} {kV doc pm cdv ct : Value} {fd : Fn} {N ps : List Str}
    (l : K.lookup f = some ⟨oc, od, .func (PySem.W.fnOf x qual (defArgs st) (defBody st) (defScope st) .none kV doc pm an cdv ct), osl⟩) (c : PySem.W.codeIn K cdv qual = true) (k : PySem.W.keepIn K (.ref f) = true)
    (S : FnScope N ps (defScope st)) (hN : N.length = fd.nsl) (hb : chkSs 1000 ⟨N, (defScope st).names, gl⟩ (defBody st) fd.body = true) (hl : ps.length = fd.npar) (hd : fd.dfl = [])
    (h : ∀ (kV doc pm : Value) (an : Option Addr) (cdv ct : Value) (us : List Value), us.length = ps.length → bindArgs (PySem.W.fnOf x qual (defArgs st) (defBody st) (defScope st) .none kV doc pm an cdv ct) ⟨us, []⟩ = pure (ps.zip us)) :
    DefC K cl gl fd f (PySem.W.fnOf x qual (defArgs st) (defBody st) (defScope st) .none kV doc pm an cdv ct) ps := by
  have F : FunD K x qual (defArgs st) (defBody st) (defScope st) [] [] f (PySem.W.fnOf x qual (defArgs st) (defBody st) (defScope st) .none kV doc pm an cdv ct) := ⟨⟨oc, od, .none, kV, doc, pm, an, cdv, ct, osl, rfl, l, c, .inl ⟨rfl, rfl⟩, .inl rfl⟩, k⟩
  refine ⟨⟨x, qual, st, [], N, F, S, hN, chkSs_ok 1000 hb⟩, hl, fun m h1 h2 => ?_⟩
  refine ⟨[], [], ?_, .nil, F.bindsN h⟩
  rw [hd, List.drop_nil]
  exact .nil
theorem cx_end {P : Program} {w : World} {H : Hp} {s s' : Shared} {e : Value} (h : L2.CX P w [] H s (fun _ _ _ => False) e s') : False := by
  obtain ⟨_, _, _, _, _, _, _, _, _, _, _, _, z⟩ := h
  exact z
theorem law_sp {k : Nat} {f : String} {fd : Fn} (hT : T.fn f = some fd) (hn : fd.npar = 1) {n : Nat} (L : ∀ ns : List Int, ns.length ≤ n → (∀ z ∈ ns, Builtin.Int.intBits z ≤ 1048576) → ∃ o, callF T k f [.lst (ns.map .int)] [] = .ok (.val (.bl true)) o)
    (H : Hp) (a : Addr) (ns : List Int) (h1 : ns.length ≤ n) (h2 : ∀ z ∈ ns, Builtin.Int.intBits z ≤ 1048576) (hS : SqL K H a (ns.map V.int)) : spF K cl T k f [.ref a] H (fun v _ => v = .bl true) fun _ _ _ => False := by
  obtain ⟨o, e⟩ := L ns h1 h2
  refine ⟨fd, ⟨[], [], H, H⟩, [], [.lst (ns.map .int)], hT, by rw [hn]; rfl, rfl, ⟨Sub.refl _, rfl, fun n a I h => by simp at h, fun a h => by simp at h, fun n m a h => by simp at h⟩, .cons (.lst hS ?_) .nil, ?_⟩
  · clear hS h1 h2 e
    induction ns with
    | nil => exact .nil
    | cons x r ih => exact .cons (.int x) ih
  · rw [e]
    intro v u' _ _ rp
    cases rp
    rfl
end
end PI

/-! texts as lists of signs: what find, rfind, count, split, join answer for one sign. -/
namespace PI
open PySem PySem.Spec PyProof.Rows L2 HT TL

theorem tl_S (s : List Nat) : tl (S s) = s := rfl
theorem cps_S (s : List Nat) : (S s).cps.toList = s := rfl
theorem len_S (s : List Nat) : (S s).length = s.length := by rw [len_tl]; rfl
theorem At_one {s : List Nat} {c i : Nat} : StrLaws.At (S s) (S [c]) (S s).length i ↔ s[i]? = some c := StrLaws.subAt_one (S s) c i
theorem fromIndex_nat {n lo : Nat} : fromIndex n (lo : Int) = lo := by
  unfold fromIndex
  rw [if_neg (by omega)]
  omega
theorem find3_spec (s : List Nat) (c lo : Nat) : (Txt.find3 (S s) (S [c]) (lo : Int) = -1 ∧ ∀ j, lo ≤ j → s[j]? ≠ some c) ∨ ∃ k : Nat, Txt.find3 (S s) (S [c]) (lo : Int) = (k : Int) ∧ lo ≤ k ∧ s[k]? = some c ∧ ∀ j, lo ≤ j → j < k → s[j]? ≠ some c := by
  unfold Txt.find3
  rw [fromIndex_nat, StrLaws.occ_eq]
  have hm : ∀ j, j ∈ List.range' lo ((S s).length + 1 - lo) ↔ lo ≤ j ∧ j < (S s).length + 1 := fun j => by
    rw [List.mem_range'_1]
    omega
  rcases StrLaws.occ_first (S s) (S [c]) (S s).length 1 (Nat.le_refl 1) (List.range' lo ((S s).length + 1 - lo)) lo (fun i hi => ((hm i).mp hi).1) with ⟨h1, h2⟩ | ⟨pre, a, post, h1, h2, h3, h4⟩
  · left
    rw [h1]
    refine ⟨rfl, fun j hj e => ?_⟩
    have hlt := (List.getElem?_eq_some_iff.mp e).1
    exact h2 j ((hm j).mpr ⟨hj, by rw [len_S]; omega⟩) (At_one.mpr e)
  · right
    have hne : (forIn (List.range' lo ((S s).length + 1 - lo)) ((#[] : Array Nat), lo) (StrLaws.occBody (S s) (S [c]) (S s).length 1)).run.fst.toList[0]? = some a := by
      rw [Array.getElem?_toList]
      exact h2
    have hm' := hm
    refine ⟨a, ?_, ?_, At_one.mp h3, fun j hj hja e => ?_⟩
    · cases hl : (forIn (List.range' lo ((S s).length + 1 - lo)) ((#[] : Array Nat), lo) (StrLaws.occBody (S s) (S [c]) (S s).length 1)).run.fst.toList with
      | nil => rw [hl] at hne; cases hne
      | cons x r => rw [hl] at hne; cases hne; rfl
    · exact ((hm a).mp (by rw [h1]; simp)).1
    · have hlt := (List.getElem?_eq_some_iff.mp e).1
      have hjm : j ∈ pre ++ a :: post := by rw [← h1]; exact (hm j).mpr ⟨hj, by rw [len_S]; omega⟩
      have hs : (pre ++ a :: post).Pairwise (· < ·) := by rw [← h1]; exact List.pairwise_lt_range'
      rcases List.mem_append.mp hjm with q | q
      · exact h4 j q (At_one.mpr e)
      · have hs2 := (List.pairwise_append.mp hs).2.1
        rcases List.mem_cons.mp q with q | q
        · omega
        · have := (List.pairwise_cons.mp hs2).1 j q
          omega
theorem find3_at {s : List Nat} {c lo k : Nat} (h : s[k]? = some c) (hk : lo ≤ k) (hn : ∀ j, lo ≤ j → j < k → s[j]? ≠ some c) : Txt.find3 (S s) (S [c]) (lo : Int) = (k : Int) := by
  rcases find3_spec s c lo with ⟨_, h2⟩ | ⟨m, h1, h2, h3, h4⟩
  · exact absurd h (h2 k hk)
  · rw [h1]
    have : m = k := by
      rcases Nat.lt_trichotomy m k with q | q | q
      · exact absurd h3 (hn m h2 q)
      · exact q
      · exact absurd h (h4 k hk q)
    rw [this]
theorem find3_none {s : List Nat} {c lo : Nat} (hn : ∀ j, lo ≤ j → s[j]? ≠ some c) : Txt.find3 (S s) (S [c]) (lo : Int) = -1 := by
  rcases find3_spec s c lo with ⟨h, _⟩ | ⟨m, h1, h2, h3, h4⟩
  · exact h
  · exact absurd h3 (hn m h2)
/-- of the form pre ++ p ++ c :: rest -/
theorem find3_app {pre p rest : List Nat} {c : Nat} (h : c ∉ p) : Txt.find3 (S (pre ++ p ++ c :: rest)) (S [c]) ((pre.length : Nat) : Int) = ((pre.length + p.length : Nat) : Int) := by
  refine find3_at ?_ (Nat.le_add_right _ _) fun j h1 h2 e => ?_
  · rw [List.getElem?_append_right (by simp)]
    simp
  · rw [List.append_assoc, List.getElem?_append_right h1, List.getElem?_append_left (by omega)] at e
    exact h (List.mem_of_getElem? e)
theorem rfind_none {s : List Nat} {c : Nat} (h : c ∉ s) : Txt.rfind (S s) (S [c]) = -1 := by
  unfold Txt.rfind
  rcases StrLaws.last_spec (S s) (S [c]) with ⟨e, _⟩ | ⟨i, e, h1, _⟩
  · rw [e]
  · exact absurd (List.mem_of_getElem? (At_one.mp h1)) h
theorem rfind_app {a b : List Nat} {c : Nat} (h : c ∉ b) : Txt.rfind (S (a ++ c :: b)) (S [c]) = ((a.length : Nat) : Int) := by
  unfold Txt.rfind
  rcases StrLaws.last_spec (S (a ++ c :: b)) (S [c]) with ⟨_, hn⟩ | ⟨i, e, h1, h2⟩
  · exact absurd (At_one.mpr (by simp)) (hn a.length)
  · rw [e]
    have hi := At_one.mp h1
    have : i = a.length := by
      rcases Nat.lt_trichotomy i a.length with q | q | q
      · exact absurd (At_one.mpr (by simp)) (h2 a.length q)
      · exact q
      · rw [List.getElem?_append_right (by omega)] at hi
        have e2 : i - a.length = (i - a.length - 1) + 1 := by omega
        rw [e2, List.getElem?_cons_succ] at hi
        exact absurd (List.mem_of_getElem? hi) h
    rw [this]
/-- a text is its parts joined -/
theorem parts_of (c : Nat) : ∀ s : List Nat, ∃ ps : List (List Nat), ps ≠ [] ∧ (∀ p ∈ ps, c ∉ p) ∧ s = joinL [c] ps
  | [] => ⟨[[]], by simp, by simp, rfl⟩
  | x :: s => by
    obtain ⟨ps, h1, h2, h3⟩ := parts_of c s
    cases ps with
    | nil => exact absurd rfl h1
    | cons p ps =>
      by_cases hx : x = c
      · refine ⟨[] :: p :: ps, by simp, ?_, ?_⟩
        · intro q hq
          rcases List.mem_cons.mp hq with rfl | hq
          · simp
          · exact h2 q hq
        · rw [h3, hx]
          rfl
      · refine ⟨(x :: p) :: ps, by simp, ?_, ?_⟩
        · intro q hq
          rcases List.mem_cons.mp hq with rfl | hq
          · have := h2 p (List.mem_cons_self ..)
            simp only [List.mem_cons, not_or]
            exact ⟨fun e => hx e.symm, this⟩
          · exact h2 q (List.mem_cons_of_mem _ hq)
        · rw [h3]
          cases ps <;> rfl
theorem joinL_snoc (S : List Nat) (b : List Nat) : ∀ {ps : List (List Nat)}, ps ≠ [] → joinL S (ps ++ [b]) = joinL S ps ++ S ++ b
  | [], h => absurd rfl h
  | [p], _ => by simp [joinL]
  | p :: q :: ps, _ => by
    have ih := joinL_snoc S b (ps := q :: ps) (by simp)
    have e1 : joinL S (p :: q :: ps ++ [b]) = p ++ (S ++ joinL S (q :: ps ++ [b])) := rfl
    have e2 : joinL S (p :: q :: ps) = p ++ (S ++ joinL S (q :: ps)) := rfl
    rw [e1, e2, ih]
    simp
theorem split_parts {c : Nat} (hc : c < 256) {ps : List (List Nat)} (h1 : ps ≠ []) (h2 : ∀ p ∈ ps, c ∉ p) : (Txt.split (S (joinL [c] ps)) (S [c])).map tl = ps := by
  rw [split_spl (S (joinL [c] ps)) (S [c]) (by simp [tl_S]) (kind_ok (by simp [S, hc]))]
  exact spl_join h1 h2
theorem last_cut {s : List Nat} {c : Nat} (h : c ∈ s) : ∃ a b, s = a ++ c :: b ∧ c ∉ b := by
  induction s with
  | nil => cases h
  | cons x s ih =>
    by_cases hs : c ∈ s
    · obtain ⟨a, b, e, hb⟩ := ih hs
      exact ⟨x :: a, b, by rw [e]; rfl, hb⟩
    · rcases List.mem_cons.mp h with rfl | q
      · exact ⟨[], s, rfl, hs⟩
      · exact absurd q hs
theorem count_one (s : List Nat) (c : Nat) : Txt.count (S s) (S [c]) = cnt c s := count_is (S s) c
theorem tl_joinS (y : List Nat) (ps : List (List Nat)) : tl (Txt.join (S y) (ps.map S)) = joinL y ps := by
  rw [join_eq, tl_join, List.map_map]
  congr 1
  exact List.map_id' ps
end PI

/-! running a tree. -/
namespace PI
open PySem PySem.Spec PyProof.Rows L2 HT TL

theorem callF_run {T : Tab} {n : Nat} {f : String} {fd : Fn} {ds : List PI.D} {o : Ob} (hf : T.fn f = some fd) (hl : ds.length = fd.npar) : callF T (n + 1) f ds o = endOf (execs (prm T n) fd.body (entry fd ds) o) := callF_eq hf hl
/-- a while whose turns are told -/
theorem whl_scan {cond : Sl → Ob → Res Rv} {body : Sl → Ob → Out} {o : Ob} (f : Nat → Sl) (k : Nat) : ∀ (m k : Nat), (∀ j, k ≤ j → j < k + m → cond (f j) o = .ok (.val (.bl true)) o ∧ body (f j) o = .nx (f (j + 1)) o) → cond (f (k + m)) o = .ok (.val (.bl false)) o → whlD cond body (f k) o = .nx (f (k + m)) o
  | 0, k, _, he => by
    rw [whlD_eq, Nat.add_zero] at *
    rw [he]
    rfl
  | m + 1, k, h, he => by
    obtain ⟨h1, h2⟩ := h k (Nat.le_refl k) (by omega)
    rw [whlD_eq, h1]
    simp only [Res.then_ok, Rv.vw, truD, h2]
    have := whl_scan f k m (k + 1) (fun j a b => h j (by omega) (by omega)) (by rw [show k + 1 + m = k + (m + 1) by omega]; exact he)
    rw [this, show k + 1 + m = k + (m + 1) by omega]
/-- how many signs from the front have p -/
def run (p : Nat → Bool) (s : List Nat) : Nat := (s.takeWhile p).length
theorem run_nil {p : Nat → Bool} : run p [] = 0 := rfl
theorem run_app {p : Nat → Bool} {a : List Nat} (h : ∀ x ∈ a, p x = true) (b : List Nat) : run p (a ++ b) = a.length + run p b := by
  unfold run
  rw [List.takeWhile_append_of_pos h, List.length_append]
theorem run_stop {p : Nat → Bool} {c : Nat} {b : List Nat} (h : p c = false) : run p (c :: b) = 0 := by
  unfold run
  rw [List.takeWhile_cons_of_neg (by simp [h])]
  rfl
theorem run_at {p : Nat → Bool} : ∀ {s : List Nat} {j : Nat}, j < run p s → ∃ c, s[j]? = some c ∧ p c = true
  | [], j, h => absurd h (by simp [run])
  | c :: s, j, h => by
    by_cases hc : p c = true
    · cases j with
      | zero => exact ⟨c, rfl, hc⟩
      | succ j =>
        have e : run p (c :: s) = run p s + 1 := by
          unfold run
          rw [List.takeWhile_cons_of_pos hc]
          rfl
        rw [List.getElem?_cons_succ]
        exact run_at (by omega)
    · rw [run_stop (by simpa using hc)] at h
      omega
theorem run_end {p : Nat → Bool} : ∀ {s : List Nat} {c : Nat}, s[run p s]? = some c → p c = false
  | [], c, h => by simp at h
  | x :: s, c, h => by
    by_cases hc : p x = true
    · have e : run p (x :: s) = run p s + 1 := by
        unfold run
        rw [List.takeWhile_cons_of_pos hc]
        rfl
      rw [e, List.getElem?_cons_succ] at h
      exact run_end h
    · rw [run_stop (by simpa using hc)] at h
      cases h
      simpa using hc
theorem run_le {p : Nat → Bool} {s : List Nat} : run p s ≤ s.length := by
  unfold run
  exact (List.takeWhile_prefix p).length_le
theorem sub1 (i : Nat) : ((i : Nat) : Int) + 1 = ((i + 1 : Nat) : Int) := by omega
theorem idx_str {s : List Nat} {k c : Nat} (hs : s.length ≤ sizeLine) (h : s[k]? = some c) : idxD (.str s) (.int (k : Int)) = some (.str [c]) := by
  show (if s.length ≤ sizeLine then (L2.atI s (k : Int)).map (fun c => D.str [c]) else none) = _
  rw [if_pos hs, atI_nat (j := k) h]
  rfl
theorem len_str {s : List Nat} (hs : s.length ≤ sizeLine) : bltD "len" [.str s] = some (.val (.int s.length)) := by
  show (if s.length ≤ sizeLine then some (Rv.val (D.int s.length)) else none) = _
  rw [if_pos hs]
/-! ### what the operations answer -/
section
variable {i j : Int} {s t : List Nat} {xs ys : List PI.D} {b c : Bool} {x y d : PI.D} {o : Ob} {σ : Sl} {n m : Nat} {ct : Ct} {r : Rv}
@[simp] theorem vw_val : (Rv.val d).vw = d := id rfl
@[simp] theorem vw_own : (Rv.own ct).vw = ct.toD := id rfl
@[simp] theorem vw_bor : (Rv.bor ct).vw = ct.toD := id rfl
@[simp] theorem toD_lst : (Ct.lst xs).toD = .lst xs := id rfl
@[simp] theorem fz_val : (Rv.val d).fz = some d := id rfl
@[simp] theorem fz_own : (Rv.own ct).fz = some ct.toD := id rfl
@[simp] theorem fz_bor : (Rv.bor ct).fz = none := id rfl
@[simp] theorem allFz_nil : allFz [] = some [] := id rfl
@[simp] theorem allFz_cons {rs : List Rv} : allFz (r :: rs) = r.fz.bind fun d => (allFz rs).map (d :: ·) := id rfl
@[simp] theorem tru_non : truD .non = some false := id rfl
@[simp] theorem tru_bl : truD (.bl b) = some b := id rfl
@[simp] theorem tru_int : truD (.int i) = some (i != 0) := id rfl
@[simp] theorem tru_tup : truD (.tup xs) = some (!xs.isEmpty) := id rfl
@[simp] theorem tru_lst : truD (.lst xs) = some (!xs.isEmpty) := id rfl
theorem tru_str (h : s.length ≤ sizeLine) : truD (.str s) = some (!s.isEmpty) := if_pos h
@[simp] theorem add_int : binD .Add (.int i) (.int j) = some (.val (.int (i + j))) := id rfl
@[simp] theorem sub_int : binD .Sub (.int i) (.int j) = some (.val (.int (i - j))) := id rfl
theorem mul_int (h : mulOk i j) : binD .Mult (.int i) (.int j) = some (.val (.int (i * j))) := if_pos h
theorem fdiv_int (h : j ≠ 0 ∧ j.natAbs.log2 < 9000) : binD .FloorDiv (.int i) (.int j) = some (.val (.int (i.fdiv j))) := if_pos h
theorem mod_int (h : j ≠ 0) : binD .Mod (.int i) (.int j) = some (.val (.int (i.fmod j))) := if_pos h
theorem pow_int (h : 0 ≤ j ∧ j ≤ 1000000 ∧ i.natAbs < 2 ^ 64) : binD .Pow (.int i) (.int j) = some (.val (.int (i ^ j.toNat))) := if_pos h
theorem add_str (h : s.length + t.length ≤ sizeLine) : binD .Add (.str s) (.str t) = some (.val (.str (s ++ t))) := if_pos h
theorem add_tup (h : xs.length + ys.length ≤ sizeLine) : binD .Add (.tup xs) (.tup ys) = some (.val (.tup (xs ++ ys))) := if_pos h
theorem add_lst (h : xs.length + ys.length ≤ sizeLine) : binD .Add (.lst xs) (.lst ys) = some (.own (.lst (xs ++ ys))) := if_pos h
@[simp] theorem neg_int : negD (.int i) = some (.val (.int (-i))) := id rfl
@[simp] theorem lt_int : cmpD .Lt (.int i) (.int j) = some (decide (i < j)) := id rfl
@[simp] theorem le_int : cmpD .LtE (.int i) (.int j) = some (decide (i ≤ j)) := id rfl
@[simp] theorem gt_int : cmpD .Gt (.int i) (.int j) = some (decide (j < i)) := id rfl
@[simp] theorem ge_int : cmpD .GtE (.int i) (.int j) = some (decide (j ≤ i)) := id rfl
@[simp] theorem eq_int : cmpD .Eq (.int i) (.int j) = some (decide (i = j)) := by show some (i == j) = _; rw [Bool.beq_eq_decide_eq]
@[simp] theorem ne_int : cmpD .NotEq (.int i) (.int j) = some (!decide (i = j)) := by show some (!(i == j)) = _; rw [Bool.beq_eq_decide_eq]
@[simp] theorem eq_str : cmpD .Eq (.str s) (.str t) = some (decide (s = t)) := by show some (s == t) = _; rw [Bool.beq_eq_decide_eq]
@[simp] theorem ne_str : cmpD .NotEq (.str s) (.str t) = some (!decide (s = t)) := by show some (!(s == t)) = _; rw [Bool.beq_eq_decide_eq]
@[simp] theorem eq_bl : cmpD .Eq (.bl b) (.bl c) = some (decide (b = c)) := by show some (b == c) = _; rw [Bool.beq_eq_decide_eq]
@[simp] theorem ne_bl : cmpD .NotEq (.bl b) (.bl c) = some (!decide (b = c)) := by show some (!(b == c)) = _; rw [Bool.beq_eq_decide_eq]
theorem eq_any (h1 : okD 64 x = true) (h2 : okD 64 y = true) : cmpD .Eq x y = some (eqD x y) := by
  show (if (scalD x y || (okD 64 x && okD 64 y)) = true then some (eqD x y) else none) = _
  rw [h1, h2, Bool.and_self, Bool.or_true, if_pos rfl]
theorem ne_any (h1 : okD 64 x = true) (h2 : okD 64 y = true) : cmpD .NotEq x y = some (!eqD x y) := by
  show (if (scalD x y || (okD 64 x && okD 64 y)) = true then some (!eqD x y) else none) = _
  rw [h1, h2, Bool.and_self, Bool.or_true, if_pos rfl]
@[simp] theorem in_cmp : cmpD .In x y = inD x y := id rfl
@[simp] theorem notin_cmp : cmpD .NotIn x y = (inD x y).map not := id rfl
@[simp] theorem is_non : cmpD .Is x .non = some (isNon x) := id rfl
@[simp] theorem isnot_non : cmpD .IsNot x .non = some (!isNon x) := id rfl
@[simp] theorem isNon_non : isNon .non = true := id rfl
@[simp] theorem isNon_int : isNon (.int i) = false := id rfl
@[simp] theorem isNon_str : isNon (.str s) = false := id rfl
@[simp] theorem isNon_tup : isNon (.tup xs) = false := id rfl
@[simp] theorem isNon_lst : isNon (.lst xs) = false := id rfl
@[simp] theorem is_bl : cmpD .Is (.bl b) (.bl c) = some (decide (b = c)) := id rfl
@[simp] theorem isnot_bl : cmpD .IsNot (.bl b) (.bl c) = some (!decide (b = c)) := id rfl
@[simp] theorem in_one {k : Nat} : inD (.str [k]) (.str t) = some (decide (k ∈ t)) := id rfl
@[simp] theorem ixPart_f : ixPart false d = some none := id rfl
@[simp] theorem ixPart_t : ixPart true (.int i) = some (some i) := id rfl
@[simp] theorem itD_lst : itD (.lst xs) = some xs := id rfl
@[simp] theorem itD_tup : itD (.tup xs) = some xs := id rfl
theorem slc_str {lo hi : Option Int} (h : s.length ≤ sizeLine) : slcD (.str s) lo hi = some (.val (.str (cut s lo hi))) := if_pos h
@[simp] theorem slc_tup {lo hi : Option Int} : slcD (.tup xs) lo hi = some (.val (.tup (cut xs lo hi))) := id rfl
@[simp] theorem slc_lst {lo hi : Option Int} : slcD (.lst xs) lo hi = some (.own (.lst (cut xs lo hi))) := id rfl
@[simp] theorem ix_tup : idxD (.tup xs) (.int i) = L2.atI xs i := id rfl
@[simp] theorem ix_lst : idxD (.lst xs) (.int i) = L2.atI xs i := id rfl
theorem atI_of {α : Type} {l : List α} {k : Nat} {v : α} (h : l[k]? = some v) : L2.atI l (k : Int) = some v := atI_nat h
@[simp] theorem len_tup : bltD "len" [.tup xs] = some (.val (.int xs.length)) := id rfl
@[simp] theorem len_lst : bltD "len" [.lst xs] = some (.val (.int xs.length)) := id rfl
@[simp] theorem int_int : bltD "int" [.int i] = some (.val (.int i)) := id rfl
@[simp] theorem abs_int : bltD "abs" [.int i] = some (.val (.int (if i < 0 then -i else i))) := id rfl
@[simp] theorem isi_ {T : String} : bltD "isinstance" [x, .typ T] = (isiD x T).map fun b => .val (.bl b) := id rfl
@[simp] theorem find_ : mthD "find" (.str s) [.str t, .int i] = some (.val (.int (Txt.find3 (S s) (S t) i))) := id rfl
@[simp] theorem rfind_ : mthD "rfind" (.str s) [.str t] = some (.val (.int (Txt.rfind (S s) (S t)))) := id rfl
@[simp] theorem count_ : mthD "count" (.str s) [.str t] = some (.val (.int (Txt.count (S s) (S t)))) := id rfl
@[simp] theorem rcv_find : rcvD "find" (.str s) = true := id rfl
@[simp] theorem rcv_rfind : rcvD "rfind" (.str s) = true := id rfl
@[simp] theorem rcv_count : rcvD "count" (.str s) = true := id rfl
@[simp] theorem rcv_split : rcvD "split" (.str s) = true := id rfl
@[simp] theorem rcv_join : rcvD "join" (.str s) = true := id rfl
@[simp] theorem setR_val {k : Bool} : setR (.one n) k (.val d) σ = some (σ.set n (some (.val d))) := by cases k <;> rfl
@[simp] theorem setR_own : setR (.one n) true (.own ct) σ = some (σ.set n (some (.own ct))) := id rfl
@[simp] theorem setR_fz : setR (.one n) false (.own ct) σ = some (σ.set n (some (.val ct.toD))) := id rfl
@[simp] theorem setR_many {is : List Nat} {k : Bool} : setR (.many is) k (.val (.tup xs)) σ = setT (.many is) (.tup xs) σ := by cases k <;> rfl
@[simp] theorem setT_one : setT (.one n) d σ = some (σ.set n (some (.val d))) := id rfl
@[simp] theorem setT_many2 : setT (.many [n, m]) (.tup [x, y]) σ = some ((σ.set n (some (.val x))).set m (some (.val y))) := id rfl
@[simp] theorem setT_many3 {k : Nat} {z : PI.D} : setT (.many [n, m, k]) (.tup [x, y, z]) σ = some (((σ.set n (some (.val x))).set m (some (.val y))).set k (some (.val z))) := id rfl
@[simp] theorem endOf_nx : endOf (.nx σ o) = .ok (.val .non) o := id rfl
@[simp] theorem endOf_rt : endOf (.rt r o) = .ok r o := id rfl
@[simp] theorem endOf_ex {e : Xn} : endOf (.ex e σ o) = .exn e o := id rfl
@[simp] theorem entry_ {fd : Fn} {ds : List PI.D} : entry fd ds = ds.map (fun d => some (.val d)) ++ List.replicate (fd.nsl - fd.npar) none := id rfl
@[simp] theorem slot_0 {q : Option Rv} : slot (q :: σ) 0 = (match q with | some (.own c) => some (.bor c) | some r => some r | none => none) := by
  cases q with
  | none => rfl
  | some r => cases r <;> rfl
@[simp] theorem slot_s {q : Option Rv} : slot (q :: σ) (n + 1) = slot σ n := id rfl
@[simp] theorem ownAt_0 {q : Option Rv} : ownAt (q :: σ) 0 = (match q with | some (.own c) => some c | _ => none) := by
  cases q with
  | none => rfl
  | some r => cases r <;> rfl
@[simp] theorem ownAt_s {q : Option Rv} : ownAt (q :: σ) (n + 1) = ownAt σ n := id rfl
theorem app_lst (h : xs.length < sizeLine) : mutC "append" (.lst xs) [d] = some (.lst (xs ++ [d])) := if_pos h
end
@[simp] theorem prm_call {T : Tab} {n : Nat} : (prm T n).call = callF T n := id rfl
@[simp] theorem prm_new {T : Tab} {n : Nat} : (prm T n).new = newF T n := id rfl
@[simp] theorem prm_exf {T : Tab} {n : Nat} : (prm T n).exf = T.exf := id rfl
/-- loops and comprehensions stay folded -/
noncomputable def whlX (P : Prm) (c : Ex) (b : List Stm) (σ : Sl) (o : Ob) : Out := whlD (fun σ o => ev P σ c o) (fun σ o => PI.execs P b σ o) σ o
noncomputable def forX (P : Prm) (t : Tg) (b : List Stm) (xs : List PI.D) (σ : Sl) (o : Ob) : Out := forD t (fun σ o => PI.execs P b σ o) xs σ o
def cmpX (P : Prm) (t : Tg) (own : List Nat) (cond elt : Ex) (σ : Sl) (xs : List PI.D) (acc : List PI.D) (o : Ob) : Res (List PI.D) := compD t own σ (fun σ' o => ev P σ' cond o) (fun σ' o => ev P σ' elt o) xs acc o
section
variable {P : Prm} {σ : Sl} {o : Ob}
@[simp] theorem ev_cst {d : PI.D} : ev P σ (.cst d) o = .ok (.val d) o := by simp only [ev]
@[simp] theorem ev_var {i : Nat} : ev P σ (.var i) o = opt (slot σ i) o := by simp only [ev]
@[simp] theorem ev_bin {op : Operator} {a b : Ex} : ev P σ (.bin op a b) o = (ev P σ a o).bind fun x o => (ev P σ b o).bind fun y o => opt (binD op x.vw y.vw) o := by simp only [ev]
@[simp] theorem ev_neg {a : Ex} : ev P σ (.neg a) o = (ev P σ a o).bind fun x o => opt (negD x.vw) o := by simp only [ev]
@[simp] theorem ev_not {a : Ex} : ev P σ (.not a) o = (ev P σ a o).bind fun x o => (opt (truD x.vw) o).bind fun b o => .ok (.val (.bl (!b))) o := by simp only [ev]
@[simp] theorem ev_cmp {op : CmpOp} {a b : Ex} : ev P σ (.cmp op a b) o = (ev P σ a o).bind fun x o => (ev P σ b o).bind fun y o => (opt (cmpD op x.vw y.vw) o).bind fun c o => .ok (.val (.bl c)) o := by simp only [ev]
@[simp] theorem ev_chn {p q : CmpOp} {a b c : Ex} : ev P σ (.chn p q a b c) o = (ev P σ a o).bind fun x o => (ev P σ b o).bind fun y o => (opt (cmpD p x.vw y.vw) o).bind fun k o =>
      if k then (ev P σ c o).bind fun z o => (opt (cmpD q y.vw z.vw) o).bind fun m o => .ok (.val (.bl m)) o else .ok (.val (.bl false)) o := by simp only [ev]
@[simp] theorem ev_and {a b : Ex} : ev P σ (.and a b) o = (ev P σ a o).bind fun x o => (opt (truD x.vw) o).bind fun k o => if k then ev P σ b o else .ok x o := by simp only [ev]
@[simp] theorem ev_or {a b : Ex} : ev P σ (.or a b) o = (ev P σ a o).bind fun x o => (opt (truD x.vw) o).bind fun k o => if k then .ok x o else ev P σ b o := by simp only [ev]
@[simp] theorem ev_ife {a b c : Ex} : ev P σ (.ife c a b) o = (ev P σ c o).bind fun x o => (opt (truD x.vw) o).bind fun k o => if k then ev P σ a o else ev P σ b o := by simp only [ev]
@[simp] theorem ev_tup {es : List Ex} : ev P σ (.tup es) o = (evs P σ es o).bind fun rs o => (opt (allFz rs) o).bind fun ds o => if ds.length ≤ sizeLine then .ok (.val (.tup ds)) o else .stuck := by simp only [ev]
@[simp] theorem ev_lst {es : List Ex} : ev P σ (.lst es) o = (evs P σ es o).bind fun rs o => (opt (allFz rs) o).bind fun ds o => if ds.length ≤ sizeLine then .ok (.own (.lst ds)) o else .stuck := by simp only [ev]
@[simp] theorem ev_idx {a i : Ex} : ev P σ (.idx a i) o = (ev P σ a o).bind fun x o => (ev P σ i o).bind fun y o => (opt (idxD x.vw y.vw) o).bind fun d o => .ok (.val d) o := by simp only [ev]
@[simp] theorem ev_slc {a lo hi : Ex} {l h : Bool} : ev P σ (.slc a l h lo hi) o = (ev P σ a o).bind fun x o => (ev P σ lo o).bind fun y o => (opt (ixPart l y.vw) o).bind fun l o => (ev P σ hi o).bind fun z o =>
      (opt (ixPart h z.vw) o).bind fun h o => opt (slcD x.vw l h) o := by simp only [ev]
@[simp] theorem ev_call {f : String} {es : List Ex} : ev P σ (.call f es) o = (evs P σ es o).bind fun rs o => (opt (allFz rs) o).bind fun ds o => P.call f ds o := by simp only [ev]
@[simp] theorem ev_blt {f : String} {es : List Ex} : ev P σ (.blt f es) o = (evs P σ es o).bind fun rs o => opt (bltD f (rs.map Rv.vw)) o := by simp only [ev]
@[simp] theorem ev_mth {m : String} {a : Ex} {es : List Ex} : ev P σ (.mth m a es) o = (ev P σ a o).bind fun x o => if rcvD m x.vw = true then (evs P σ es o).bind fun rs o => opt (mthD m x.vw (rs.map Rv.vw)) o else .stuck := by simp only [ev]
theorem ev_comp {elt it cond : Ex} {t : Tg} {own : List Nat} : ev P σ (.comp elt t it cond own) o = (evI P σ it o).bind fun xs o => still ((cmpX P t own cond elt σ xs [] o).bind fun ds o => .ok (.own (.lst ds)) o) := by
  cases it <;> simp only [ev, evI] <;> rfl
@[simp] theorem evs_nil : evs P σ [] o = .ok [] o := by simp only [evs]
@[simp] theorem evs_cons {e : Ex} {es : List Ex} : evs P σ (e :: es) o = (ev P σ e o).bind fun r o => (evs P σ es o).bind fun rs o => .ok (r :: rs) o := by simp only [evs]
@[simp] theorem ex_asg {t : Tg} {k : Bool} {e : Ex} : PI.exec P (.asg t k e) σ o = (ev P σ e o).then σ fun r o => match setR t k r σ with
    | some σ' => .nx σ' o
    | none => .stuck := by simp only [PI.exec] <;> rfl
@[simp] theorem ex_mut {i : Nat} {m : String} {es : List Ex} : PI.exec P (.mut i m es) σ o = match ownAt σ i with
    | none => .stuck
    | some c => (evs P σ es o).then σ fun rs o => match allFz rs with
      | some ds => (match mutC m c ds with
        | some c' => .nx (σ.set i (some (.own c'))) o
        | none => .stuck)
      | none => .stuck := by simp only [PI.exec] <;> rfl
@[simp] theorem ex_exp {e : Ex} : PI.exec P (.exp e) σ o = (ev P σ e o).then σ fun _ o => .nx σ o := by simp only [PI.exec]
@[simp] theorem ex_retv {i : Nat} : PI.exec P (.ret (.var i)) σ o = (match σ[i]? with
    | some (some (.bor _)) => .stuck
    | some (some r) => .rt r o
    | _ => .stuck) := exec_ret_var
theorem ex_ret {e : Ex} (h : ∀ i, e ≠ .var i) : PI.exec P (.ret e) σ o = (ev P σ e o).then σ retO := exec_ret h
@[simp] theorem ret_cst {d : PI.D} : PI.exec P (.ret (.cst d)) σ o = (ev P σ (.cst d) o).then σ retO := ex_ret fun _ h => by cases h
@[simp] theorem ret_bin {op : Operator} {a b : Ex} : PI.exec P (.ret (.bin op a b)) σ o = (ev P σ (.bin op a b) o).then σ retO := ex_ret fun _ h => by cases h
@[simp] theorem ret_neg {a : Ex} : PI.exec P (.ret (.neg a)) σ o = (ev P σ (.neg a) o).then σ retO := ex_ret fun _ h => by cases h
@[simp] theorem ret_not {a : Ex} : PI.exec P (.ret (.not a)) σ o = (ev P σ (.not a) o).then σ retO := ex_ret fun _ h => by cases h
@[simp] theorem ret_cmp {op : CmpOp} {a b : Ex} : PI.exec P (.ret (.cmp op a b)) σ o = (ev P σ (.cmp op a b) o).then σ retO := ex_ret fun _ h => by cases h
@[simp] theorem ret_chn {p q : CmpOp} {a b c : Ex} : PI.exec P (.ret (.chn p q a b c)) σ o = (ev P σ (.chn p q a b c) o).then σ retO := ex_ret fun _ h => by cases h
@[simp] theorem ret_and {a b : Ex} : PI.exec P (.ret (.and a b)) σ o = (ev P σ (.and a b) o).then σ retO := ex_ret fun _ h => by cases h
@[simp] theorem ret_or {a b : Ex} : PI.exec P (.ret (.or a b)) σ o = (ev P σ (.or a b) o).then σ retO := ex_ret fun _ h => by cases h
@[simp] theorem ret_ife {a b c : Ex} : PI.exec P (.ret (.ife c a b)) σ o = (ev P σ (.ife c a b) o).then σ retO := ex_ret fun _ h => by cases h
@[simp] theorem ret_tup {es : List Ex} : PI.exec P (.ret (.tup es)) σ o = (ev P σ (.tup es) o).then σ retO := ex_ret fun _ h => by cases h
@[simp] theorem ret_lst {es : List Ex} : PI.exec P (.ret (.lst es)) σ o = (ev P σ (.lst es) o).then σ retO := ex_ret fun _ h => by cases h
@[simp] theorem ret_idx {a b : Ex} : PI.exec P (.ret (.idx a b)) σ o = (ev P σ (.idx a b) o).then σ retO := ex_ret fun _ h => by cases h
@[simp] theorem ret_slc {a b c : Ex} {l h : Bool} : PI.exec P (.ret (.slc a l h b c)) σ o = (ev P σ (.slc a l h b c) o).then σ retO := ex_ret fun _ h => by cases h
@[simp] theorem ret_call {f : String} {es : List Ex} : PI.exec P (.ret (.call f es)) σ o = (ev P σ (.call f es) o).then σ retO := ex_ret fun _ h => by cases h
@[simp] theorem ret_blt {f : String} {es : List Ex} : PI.exec P (.ret (.blt f es)) σ o = (ev P σ (.blt f es) o).then σ retO := ex_ret fun _ h => by cases h
@[simp] theorem ret_mth {f : String} {a : Ex} {es : List Ex} : PI.exec P (.ret (.mth f a es)) σ o = (ev P σ (.mth f a es) o).then σ retO := ex_ret fun _ h => by cases h
@[simp] theorem ret_comp {a b c : Ex} {t : Tg} {own : List Nat} : PI.exec P (.ret (.comp a t b c own)) σ o = (ev P σ (.comp a t b c own) o).then σ retO := ex_ret fun _ h => by cases h
@[simp] theorem ret_att {a : Ex} {f : String} : PI.exec P (.ret (.att a f)) σ o = (ev P σ (.att a f) o).then σ retO := ex_ret fun _ h => by cases h
@[simp] theorem ret_new {f : String} {es : List Ex} : PI.exec P (.ret (.new f es)) σ o = (ev P σ (.new f es) o).then σ retO := ex_ret fun _ h => by cases h
@[simp] theorem ret_omt {f : String} {a : Ex} {es : List Ex} : PI.exec P (.ret (.omt f a es)) σ o = (ev P σ (.omt f a es) o).then σ retO := ex_ret fun _ h => by cases h
@[simp] theorem retO_val {d : PI.D} : retO (.val d) o = .rt (.val d) o := id rfl
@[simp] theorem retO_own {c : Ct} : retO (.own c) o = .rt (.own c) o := id rfl
@[simp] theorem ex_iff {c : Ex} {a b : List Stm} : PI.exec P (.iff c a b) σ o = (ev P σ c o).then σ fun r o => match truD r.vw with
    | none => .stuck
    | some true => PI.execs P a σ o
    | some false => PI.execs P b σ o := by simp only [PI.exec] <;> rfl
@[simp] theorem ex_whl {c : Ex} {b : List Stm} : PI.exec P (.whl c b) σ o = whlX P c b σ o := by simp only [PI.exec] <;> rfl
@[simp] theorem ex_for {t : Tg} {it : Ex} {b : List Stm} : PI.exec P (.for t it b) σ o = (evIF P σ it o).then σ fun xs o => forX P t b xs σ o := exec_for
@[simp] theorem evIF_rng {es : List Ex} : evIF P σ (.rng es) o = (evs P σ es o).bind fun rs o => opt (rngD (rs.map Rv.vw)) o := id rfl
@[simp] theorem evI_rng {es : List Ex} : evI P σ (.rng es) o = (evs P σ es o).bind fun rs o => opt (rngD (rs.map Rv.vw)) o := id rfl
@[simp] theorem ex_brk : PI.exec P .brk σ o = .bk σ o := by simp only [PI.exec]
@[simp] theorem ex_cnt : PI.exec P .cnt σ o = .ct σ o := by simp only [PI.exec]
@[simp] theorem ex_pas : PI.exec P .pas σ o = .nx σ o := by simp only [PI.exec]
@[simp] theorem ex_nil : PI.execs P [] σ o = .nx σ o := by simp only [PI.execs]
@[simp] theorem ex_cons {s : Stm} {ss : List Stm} : PI.execs P (s :: ss) σ o = match PI.exec P s σ o with
    | .nx σ o => PI.execs P ss σ o
    | r => r := by simp only [PI.execs] <;> rfl
theorem forX_nil {t : Tg} {b : List Stm} : forX P t b [] σ o = .nx σ o := rfl
theorem forX_cons {t : Tg} {b : List Stm} {x : PI.D} {xs : List PI.D} : forX P t b (x :: xs) σ o = match setT t x σ with
    | none => .stuck
    | some σ' => match PI.execs P b σ' o with
      | .nx σ o => forX P t b xs σ o
      | .ct σ o => forX P t b xs σ o
      | .bk σ o => .nx σ o
      | r => r := by
  show forD t _ (x :: xs) σ o = _
  unfold forD
  rfl
theorem whlX_eq {c : Ex} {b : List Stm} : whlX P c b σ o = (ev P σ c o).then σ fun r o => match truD r.vw with
    | none => .stuck
    | some false => .nx σ o
    | some true => match PI.execs P b σ o with
      | .nx σ o => whlX P c b σ o
      | .ct σ o => whlX P c b σ o
      | .bk σ o => .nx σ o
      | r => r := whlD_eq _ _ _ _
/-- a scan over the signs of a text -/
theorem scan {p : Nat → Bool} {cnd : Ex} {bod : List Stm} {s : List Nat} {i : Nat} (f : Nat → Sl) (h1 : ∀ j c, s[j]? = some c → p c = true → ev P (f j) cnd o = .ok (.val (.bl true)) o ∧ PI.execs P bod (f j) o = .nx (f (j + 1)) o)
    (h2 : ∀ j c, s[j]? = some c → p c = false → ev P (f j) cnd o = .ok (.val (.bl false)) o) (h3 : ∀ j, s.length ≤ j → ev P (f j) cnd o = .ok (.val (.bl false)) o) :
    whlX P cnd bod (f i) o = .nx (f (i + run p (s.drop i))) o := by
  refine whl_scan f i _ i (fun j g1 g2 => ?_) ?_
  · obtain ⟨c, hc, pc⟩ := run_at (show j - i < run p (s.drop i) by omega)
    have hc' : s[j]? = some c := by rw [List.getElem?_drop] at hc; rw [show i + (j - i) = j by omega] at hc; exact hc
    exact h1 j c hc' pc
  · cases hc : s[i + run p (s.drop i)]? with
    | none => exact h3 _ (List.getElem?_eq_none_iff.mp hc)
    | some c => exact h2 _ c hc (run_end (by rw [List.getElem?_drop]; exact hc))
end
/-! ### slices -/
theorem cut_to {α : Type} {s : List α} {k : Nat} : cut s none (some (k : Int)) = s.take k := by
  unfold cut
  rw [HT.sIx_none, HT.sIx_nat, List.drop_zero, Nat.sub_zero]
  by_cases h : k ≤ s.length
  · rw [Nat.min_eq_left h]
  · rw [Nat.min_eq_right (by omega), List.take_of_length_le (Nat.le_refl _), List.take_of_length_le (by omega)]
theorem cut_from {α : Type} {s : List α} {k : Nat} : cut s (some (k : Int)) none = s.drop k := by
  unfold cut
  rw [HT.sIx_none, HT.sIx_nat]
  by_cases h : k ≤ s.length
  · rw [Nat.min_eq_left h, List.take_of_length_le (by simp)]
  · rw [Nat.min_eq_right (by omega), List.drop_of_length_le (Nat.le_refl _), List.take_nil, List.drop_of_length_le (by omega)]
theorem cut_mid {α : Type} {s : List α} {a b : Nat} : cut s (some (a : Int)) (some (b : Int)) = (s.drop a).take (b - a) := by
  unfold cut
  rw [HT.sIx_nat, HT.sIx_nat]
  by_cases h : a ≤ s.length
  · rw [Nat.min_eq_left h]
    by_cases h2 : b ≤ s.length
    · rw [Nat.min_eq_left h2]
    · rw [Nat.min_eq_right (by omega), List.take_of_length_le (by simp), List.take_of_length_le (by simp <;> omega)]
  · rw [List.drop_of_length_le (by omega), List.drop_of_length_le (by omega), List.take_nil, List.take_nil]
theorem cut_app {pre m rest : List Nat} : cut (pre ++ m ++ rest) (some ((pre.length : Nat) : Int)) (some ((pre.length + m.length : Nat) : Int)) = m := by
  rw [cut_mid, List.append_assoc, List.drop_left, Nat.add_sub_cancel_left, List.take_left]
end PI

/-! the tokens of the text: trees, and what they answer. -/
namespace TK
open PI
open PySem (sizeLine)
def l_DIGITS : List Nat := [48, 49, 50, 51, 52, 53, 54, 55, 56, 57]
abbrev c_DIGITS : D := .str l_DIGITS
def l_LETTERS : List Nat := [97, 98, 99, 100, 101, 102, 103, 104, 105, 106, 107, 108, 109, 110, 111, 112, 113, 114, 115, 116, 117, 118, 119, 120, 121, 122, 65, 66, 67, 68, 69, 70, 71, 72, 73, 74, 75, 76, 77, 78, 79, 80, 81, 82, 83, 84, 85, 86, 87, 88, 89, 90]
abbrev c_LETTERS : D := .str l_LETTERS
def l_SIGNS : List Nat := [123, 125, 40, 41, 44, 59, 47, 38, 124, 33]
abbrev c_SIGNS : D := .str l_SIGNS
abbrev c_TEXT_LONGEST : D := (.int 2000)
abbrev c_INTEGER_LIMIT : D := (.int 1000000)
open PI.Ex PI.Stm in section
def b_count_digits : List Stm := [.asg (.one 2) false (.var 1),
    .whl (.and (.cmp .Lt (.var 2) (.blt "len" [.var 0])) (.cmp .In (.idx (.var 0) (.var 2)) (.cst c_DIGITS))) [.asg (.one 2) false (.bin .Add (.var 2) (.cst (.int 1)))],
    .ret (.bin .Sub (.var 2) (.var 1))]
def fd_count_digits : Fn := ⟨2, 3, [], b_count_digits⟩
def b_position : List Stm := [.asg (.one 2) false (.slc (.var 0) false true (.cst .non) (.var 1)),
    .ret (.tup [.bin .Add (.mth "count" (.var 2) [.cst (.str [10])]) (.cst (.int 1)), .bin .Add (.bin .Sub (.var 1) (.bin .Add (.mth "rfind" (.var 2) [.cst (.str [10])]) (.cst (.int 1)))) (.cst (.int 1))])]
def fd_position : Fn := ⟨2, 3, [], b_position⟩
def b_skip_space : List Stm := [.asg (.one 2) false (.var 1),
    .whl (.cmp .Lt (.var 2) (.blt "len" [.var 0])) [.iff (.cmp .Eq (.idx (.var 0) (.var 2)) (.cst (.str [35]))) [.asg (.one 3) false (.mth "find" (.var 0) [.cst (.str [10]), .var 2]),
    .asg (.one 2) false (.ife (.cmp .Lt (.var 3) (.cst (.int 0))) (.blt "len" [.var 0]) (.var 3))] [.iff (.cmp .In (.idx (.var 0) (.var 2)) (.cst (.str [32, 10]))) [.asg (.one 2) false (.bin .Add (.var 2) (.cst (.int 1)))] [.ret (.var 2)]]],
    .ret (.var 2)]
def fd_skip_space : Fn := ⟨2, 4, [], b_skip_space⟩
def b_count_word : List Stm := [.asg (.one 2) false (.var 1),
    .whl (.and (.cmp .Lt (.var 2) (.blt "len" [.var 0])) (.or (.cmp .In (.idx (.var 0) (.var 2)) (.cst c_LETTERS)) (.cmp .In (.idx (.var 0) (.var 2)) (.cst c_DIGITS)))) [.asg (.one 2) false (.bin .Add (.var 2) (.cst (.int 1)))],
    .ret (.bin .Sub (.var 2) (.var 1))]
def fd_count_word : Fn := ⟨2, 3, [], b_count_word⟩
def b_read_integer : List Stm := [.asg (.one 2) false (.ife (.cmp .Eq (.idx (.var 0) (.var 1)) (.cst (.str [45]))) (.bin .Add (.var 1) (.cst (.int 1))) (.var 1)),
    .asg (.one 3) false (.call "count_digits" [.var 0, .var 2]),
    .iff (.cmp .Eq (.var 3) (.cst (.int 0))) [.asg (.many [4, 5]) false (.call "position" [.var 0, .var 1]),
    .nev] [],
    .asg (.one 6) false (.slc (.var 0) true true (.var 2) (.bin .Add (.var 2) (.var 3))),
    .iff (.or (.cmp .Gt (.var 3) (.cst (.int 7))) (.or (.and (.cmp .Eq (.idx (.var 6) (.cst (.int 0))) (.cst (.str [48]))) (.or (.cmp .Gt (.var 3) (.cst (.int 1))) (.cmp .Gt (.var 2) (.var 1)))) (.cmp .Gt (.blt "int" [.var 6]) (.cst c_INTEGER_LIMIT)))) [.asg (.many [4, 5]) false (.call "position" [.var 0, .var 1]),
    .nev] [],
    .ret (.tup [.blt "int" [.slc (.var 0) true true (.var 1) (.bin .Add (.var 2) (.var 3))], .bin .Add (.var 2) (.var 3)])]
def fd_read_integer : Fn := ⟨2, 7, [], b_read_integer⟩
def b_read_token : List Stm := [.asg (.one 2) false (.idx (.var 0) (.var 1)),
    .iff (.cmp .In (.var 2) (.cst c_LETTERS)) [.asg (.one 3) false (.bin .Add (.var 1) (.call "count_word" [.var 0, .var 1])),
    .ret (.tup [.tup [.cst (.str [119, 111, 114, 100]), .slc (.var 0) true true (.var 1) (.var 3), .var 1], .var 3])] [],
    .iff (.or (.cmp .In (.var 2) (.cst c_DIGITS)) (.cmp .Eq (.var 2) (.cst (.str [45])))) [.asg (.many [4, 3]) false (.call "read_integer" [.var 0, .var 1]),
    .ret (.tup [.tup [.cst (.str [105, 110, 116, 101, 103, 101, 114]), .var 4, .var 1], .var 3])] [],
    .iff (.cmp .Eq (.var 2) (.cst (.str [34]))) [.asg (.one 5) false (.mth "find" (.var 0) [.cst (.str [34]), .bin .Add (.var 1) (.cst (.int 1))]),
    .asg (.one 6) false (.mth "find" (.var 0) [.cst (.str [10]), .bin .Add (.var 1) (.cst (.int 1))]),
    .iff (.or (.cmp .Lt (.var 5) (.cst (.int 0))) (.chn .LtE .Lt (.cst (.int 0)) (.var 6) (.var 5))) [.asg (.many [7, 8]) false (.call "position" [.var 0, .var 1]),
    .nev] [],
    .ret (.tup [.tup [.cst (.str [113, 117, 111, 116, 101]), .slc (.var 0) true true (.bin .Add (.var 1) (.cst (.int 1))) (.var 5), .var 1], .bin .Add (.var 5) (.cst (.int 1))])] [],
    .iff (.cmp .In (.var 2) (.cst c_SIGNS)) [.ret (.tup [.tup [.cst (.str [115, 105, 103, 110]), .var 2, .var 1], .bin .Add (.var 1) (.cst (.int 1))])] [],
    .asg (.many [7, 8]) false (.call "position" [.var 0, .var 1]),
    .nev]
def fd_read_token : Fn := ⟨2, 9, [], b_read_token⟩
def b_tokens : List Stm := [.iff (.cmp .Gt (.blt "len" [.var 0]) (.cst c_TEXT_LONGEST)) [.nev] [],
    .asg (.one 1) true (.lst []),
    .asg (.one 2) false (.call "skip_space" [.var 0, .cst (.int 0)]),
    .whl (.cmp .Lt (.var 2) (.blt "len" [.var 0])) [.asg (.many [3, 4]) false (.call "read_token" [.var 0, .var 2]),
    .mut 1 "append" [.var 3],
    .asg (.one 2) false (.call "skip_space" [.var 0, .var 4])],
    .ret (.var 1)]
def fd_tokens : Fn := ⟨1, 5, [], b_tokens⟩
end
structure Has (T : Tab) : Prop where
  count_digits : T.fn "count_digits" = some fd_count_digits
  position : T.fn "position" = some fd_position
  skip_space : T.fn "skip_space" = some fd_skip_space
  count_word : T.fn "count_word" = some fd_count_word
  read_integer : T.fn "read_integer" = some fd_read_integer
  read_token : T.fn "read_token" = some fd_read_token
  tokens : T.fn "tokens" = some fd_tokens

variable {T : Tab}
def dig (c : Nat) : Bool := decide (c ∈ l_DIGITS)
def aln (c : Nat) : Bool := decide (c ∈ l_LETTERS) || decide (c ∈ l_DIGITS)
theorem count_digits (H : Has T) {n : Nat} {s : List Nat} {i : Nat} {o : Ob} (hs : s.length ≤ sizeLine) : callF T (n + 1) "count_digits" [.str s, .int i] o = .ok (.val (.int (run dig (s.drop i)))) o := by
  rw [callF_run H.count_digits rfl]
  have key := scan (p := dig) (cnd := .and (.cmp .Lt (.var 2) (.blt "len" [.var 0])) (.cmp .In (.idx (.var 0) (.var 2)) (.cst c_DIGITS))) (bod := [.asg (.one 2) false (.bin .Add (.var 2) (.cst (.int 1)))]) (P := prm T n) (s := s) (i := i) (o := o)
    (fun k => [some (.val (.str s)), some (.val (.int i)), some (.val (.int (k : Int)))])
    (fun j c hc pc => by
      have hlt := (List.getElem?_eq_some_iff.mp hc).1
      have pc' : c ∈ l_DIGITS := of_decide_eq_true pc
      simp [idx_str hs hc, len_str hs, hlt, pc'])
    (fun j c hc pc => by
      have hlt := (List.getElem?_eq_some_iff.mp hc).1
      have pc' : ¬ c ∈ l_DIGITS := of_decide_eq_false pc
      simp [idx_str hs hc, len_str hs, hlt, pc'])
    (fun j hj => by simp [len_str hs, Nat.not_lt.mpr hj])
  simp only [fd_count_digits, b_count_digits]
  simp [key]
  omega
theorem count_word (H : Has T) {n : Nat} {s : List Nat} {i : Nat} {o : Ob} (hs : s.length ≤ sizeLine) : callF T (n + 1) "count_word" [.str s, .int i] o = .ok (.val (.int (run aln (s.drop i)))) o := by
  rw [callF_run H.count_word rfl]
  have key := scan (p := aln) (cnd := .and (.cmp .Lt (.var 2) (.blt "len" [.var 0])) (.or (.cmp .In (.idx (.var 0) (.var 2)) (.cst c_LETTERS)) (.cmp .In (.idx (.var 0) (.var 2)) (.cst c_DIGITS)))) (bod := [.asg (.one 2) false (.bin .Add (.var 2) (.cst (.int 1)))]) (P := prm T n) (s := s) (i := i) (o := o)
    (fun k => [some (.val (.str s)), some (.val (.int i)), some (.val (.int (k : Int)))])
    (fun j c hc pc => by
      have hlt := (List.getElem?_eq_some_iff.mp hc).1
      unfold aln at pc
      simp only [Bool.or_eq_true, decide_eq_true_eq] at pc
      by_cases h1 : c ∈ l_LETTERS
      · simp [idx_str hs hc, len_str hs, hlt, h1]
      · have h2 := pc.resolve_left h1
        simp [idx_str hs hc, len_str hs, hlt, h1, h2])
    (fun j c hc pc => by
      have hlt := (List.getElem?_eq_some_iff.mp hc).1
      unfold aln at pc
      simp only [Bool.or_eq_false_iff, decide_eq_false_iff_not] at pc
      simp [idx_str hs hc, len_str hs, hlt, pc.1, pc.2])
    (fun j hj => by simp [len_str hs, Nat.not_lt.mpr hj])
  simp only [fd_count_word, b_count_word]
  simp [key]
  omega
def posD (s : List Nat) (k : Nat) : D := .tup [.int (PySem.Txt.count (S (s.take k)) (S [10]) + 1), .int ((k : Int) - (PySem.Txt.rfind (S (s.take k)) (S [10]) + 1) + 1)]
theorem position (H : Has T) {n : Nat} {s : List Nat} {k : Nat} {o : Ob} (hs : s.length ≤ sizeLine) : callF T (n + 1) "position" [.str s, .int k] o = .ok (.val (posD s k)) o := by
  have hz : (2 : Nat) ≤ sizeLine := by rw [PySem.sizeLine_eq]; omega
  rw [callF_run H.position rfl]
  simp [fd_position, b_position, slc_str hs, cut_to, hz, posD]
end TK

namespace TK
open PI
open PySem (sizeLine)
variable {T : Tab}

/-! ### blanks and comments -/
inductive Gap : List Nat → Prop
  | nil : Gap []
  | sp {c : Nat} {g : List Nat} : c = 32 ∨ c = 10 → Gap g → Gap (c :: g)
  | com {b g : List Nat} : 10 ∉ b → Gap (10 :: g) → Gap (35 :: (b ++ 10 :: g))
/-- no blank stands here -/
def Dry (r : List Nat) : Prop := ∀ c r', r = c :: r' → c ≠ 35 ∧ c ≠ 32 ∧ c ≠ 10
abbrev skC : Ex := .cmp .Lt (.var 2) (.blt "len" [.var 0])
abbrev skB : List Stm := [.iff (.cmp .Eq (.idx (.var 0) (.var 2)) (.cst (.str [35]))) [.asg (.one 3) false (.mth "find" (.var 0) [.cst (.str [10]), .var 2]),
    .asg (.one 2) false (.ife (.cmp .Lt (.var 3) (.cst (.int 0))) (.blt "len" [.var 0]) (.var 3))] [.iff (.cmp .In (.idx (.var 0) (.var 2)) (.cst (.str [32, 10]))) [.asg (.one 2) false (.bin .Add (.var 2) (.cst (.int 1)))] [.ret (.var 2)]]]
theorem nth_app {pre r : List Nat} {c : Nat} : (pre ++ c :: r)[pre.length]? = some c := by simp
section
variable {P : Prm} {s : List Nat} {i : D} {k : Nat} {e : Option Rv} {o : Ob}
abbrev skS (s : List Nat) (i : D) (k : Nat) (e : Option Rv) : Sl := [some (.val (.str s)), some (.val i), some (.val (.int (k : Nat))), e]
theorem sk_sp {c : Nat} (hs : s.length ≤ sizeLine) (hx : s[k]? = some c) (hc : c = 32 ∨ c = 10) : whlX P skC skB (skS s i k e) o = whlX P skC skB (skS s i (k + 1) e) o := by
  have hl := (List.getElem?_eq_some_iff.mp hx).1
  have n35 : ¬ c = 35 := by omega
  have hm : c ∈ [32, 10] := by simp [hc]
  rw [whlX_eq]
  simp [skS, len_str hs, idx_str hs hx, hl, n35, hc]
theorem sk_com {m : Nat} (hs : s.length ≤ sizeLine) (hx : s[k]? = some 35) (hf : PySem.Txt.find3 (S s) (S [10]) (k : Int) = (m : Int)) : whlX P skC skB (skS s i k e) o = whlX P skC skB (skS s i m (some (.val (.int (m : Nat))))) o := by
  have hl := (List.getElem?_eq_some_iff.mp hx).1
  have hn : ¬ ((m : Nat) : Int) < 0 := by omega
  rw [whlX_eq]
  simp [len_str hs, idx_str hs hx, hl, hf, hn]
theorem sk_stop {c : Nat} (hs : s.length ≤ sizeLine) (hx : s[k]? = some c) (h1 : c ≠ 35) (h2 : c ≠ 32) (h3 : c ≠ 10) : whlX P skC skB (skS s i k e) o = .rt (.val (.int (k : Nat))) o := by
  have hl := (List.getElem?_eq_some_iff.mp hx).1
  rw [whlX_eq]
  simp [len_str hs, idx_str hs hx, hl, h1, h2, h3]
theorem sk_end (hs : s.length ≤ sizeLine) (hk : s.length ≤ k) : whlX P skC skB (skS s i k e) o = .nx (skS s i k e) o := by
  have hl : ¬ k < s.length := by omega
  rw [whlX_eq]
  simp [len_str hs, hl]
end
theorem skip_loop {P : Prm} {i : D} {o : Ob} {g : List Nat} (h : Gap g) : ∀ (pre rest s : List Nat) (e : Option Rv), s = pre ++ g ++ rest → s.length ≤ sizeLine →
    ∃ e', whlX P skC skB (skS s i pre.length e) o = whlX P skC skB (skS s i (pre.length + g.length) e') o := by
  induction h with
  | nil => intro pre rest s e _ _; exact ⟨e, by simp⟩
  | @sp c g hc hg ih =>
    intro pre rest s e hs hl
    obtain ⟨e', he⟩ := ih (pre ++ [c]) rest s e (by rw [hs]; simp) hl
    refine ⟨e', ?_⟩
    have hx : s[pre.length]? = some c := by rw [hs]; simp
    rw [sk_sp hl hx hc]
    have e2 : (pre ++ [c]).length = pre.length + 1 := by simp
    have e3 : pre.length + 1 + g.length = pre.length + (c :: g).length := by simp <;> omega
    rw [e2, e3] at he
    exact he
  | @com b g hb hg ih =>
    intro pre rest s e hs hl
    have hx : s[pre.length]? = some 35 := by rw [hs]; simp
    have hf : PySem.Txt.find3 (S s) (S [10]) (pre.length : Int) = ((pre.length + (35 :: b).length : Nat) : Int) := by
      have h10 : 10 ∉ 35 :: b := by simp [hb]
      rw [← find3_app (pre := pre) (p := 35 :: b) (rest := g ++ rest) (c := 10) h10, hs]
      simp
    obtain ⟨e', he⟩ := ih (pre ++ (35 :: b)) rest s (some (.val (.int ((pre.length + (35 :: b).length : Nat) : Int)))) (by rw [hs]; simp) hl
    refine ⟨e', ?_⟩
    rw [sk_com hl hx hf]
    have e2 : (pre ++ (35 :: b)).length = pre.length + (35 :: b).length := by simp
    have e3 : pre.length + (35 :: b).length + (10 :: g).length = pre.length + (35 :: (b ++ 10 :: g)).length := by simp <;> omega
    rw [e2, e3] at he
    exact he
theorem skip_space (H : Has T) {n : Nat} {pre g rest s : List Nat} {o : Ob} (e : s = pre ++ g ++ rest) (hg : Gap g) (hd : Dry rest) (hs : s.length ≤ sizeLine) :
    callF T (n + 1) "skip_space" [.str s, .int (pre.length : Nat)] o = .ok (.val (.int ((pre.length + g.length : Nat) : Int))) o := by
  rw [callF_run H.skip_space rfl]
  obtain ⟨e', he⟩ := skip_loop (P := prm T n) (i := .int (pre.length : Nat)) (o := o) hg pre rest s none e hs
  have run : ∀ q, whlX (prm T n) skC skB (skS s (.int (pre.length : Nat)) (pre.length + g.length) e') o = q → (q = .nx (skS s (.int (pre.length : Nat)) (pre.length + g.length) e') o ∨ q = .rt (.val (.int ((pre.length + g.length : Nat) : Int))) o) →
      endOf (PI.execs (prm T n) b_skip_space (entry fd_skip_space [.str s, .int (pre.length : Nat)]) o) = .ok (.val (.int ((pre.length + g.length : Nat) : Int))) o := by
    intro q h1 h2
    rw [h1] at he
    unfold b_skip_space
    rcases h2 with rfl | rfl <;> simp [fd_skip_space, he]
  refine run _ rfl ?_
  cases rest with
  | nil => exact .inl (sk_end hs (by rw [e]; simp))
  | cons c r =>
    obtain ⟨h1, h2, h3⟩ := hd c r rfl
    exact .inr (sk_stop hs (by rw [e]; have := nth_app (pre := pre ++ g) (r := r) (c := c); rw [List.length_append] at this; exact this) h1 h2 h3)
end TK

namespace TK
open PI TL
open PySem (sizeLine)
variable {T : Tab}

theorem dig_iff {c : Nat} : dig c = true ↔ 48 ≤ c ∧ c ≤ 57 := by
  unfold dig l_DIGITS
  simp
  omega
theorem dig_num {m : Nat} : ∀ c ∈ numL m, dig c = true := fun c hc => dig_iff.mpr (numL_digits m c hc)
/-- no digit stands here -/
def Stop (p : Nat → Bool) (r : List Nat) : Prop := ∀ c r', r = c :: r' → p c = false
theorem run_stops {p : Nat → Bool} {a r : List Nat} (h : ∀ c ∈ a, p c = true) (hs : Stop p r) : run p (a ++ r) = a.length := by
  rw [run_app h]
  cases r with
  | nil => rw [run_nil, Nat.add_zero]
  | cons c r => rw [run_stop (hs c r rfl), Nat.add_zero]
theorem num_head : ∀ (m : Nat) (d : Nat) (r : List Nat), numL m = d :: r → (d = 48 → m = 0)
  | m, d, r, h, hd => by
    by_cases h10 : m < 10
    · rw [numL_lt h10] at h
      simp at h
      omega
    · have hs := numL_step (n := m) (by omega)
      have hne := numL_ne (m / 10)
      cases hq : numL (m / 10) with
      | nil => exact absurd hq hne
      | cons d' r' =>
        rw [hq, h] at hs
        simp at hs
        have := num_head (m / 10) d' r' hq (by omega)
        omega
theorem int_num {m : Nat} (h : m ≤ 1000000) : bltD "int" [.str (numL m)] = some (.val (.int (m : Nat))) := by
  have hl : (numL m).length ≤ 7 := numL_len (by omega) (by omega)
  have := PySem.intText_digits (x := S (numL m)) (numL_digits m) (numL_ne m) (by rw [len_S]; omega)
  show (if (numL m).length ≤ 640 then (PySem.intText? (S (numL m))).map (fun n => Rv.val (D.int n)) else none) = _
  rw [if_pos (by omega), this]
  show some (Rv.val (D.int ((PySem.NumText.digitsVal (numL m) : Nat) : Int))) = _
  rw [numL_val]
theorem int_neg {m : Nat} (h : m ≤ 1000000) : bltD "int" [.str (45 :: numL m)] = some (.val (.int (-(m : Nat)))) := by
  have hl : (numL m).length ≤ 7 := numL_len (by omega) (by omega)
  have := PySem.intText_neg (x := S (45 :: numL m)) (cs := numL m) rfl (numL_digits m) (numL_ne m) (by rw [len_S]; simp; omega)
  show (if (45 :: numL m).length ≤ 640 then (PySem.intText? (S (45 :: numL m))).map (fun n => Rv.val (D.int n)) else none) = _
  rw [if_pos (by simp <;> omega), this]
  show some (Rv.val (D.int (-((PySem.NumText.digitsVal (numL m) : Nat) : Int)))) = _
  rw [numL_val]
theorem cut_at {s pre m rest : List Nat} (e : s = pre ++ m ++ rest) {a b : Int} (ha : a = (pre.length : Nat)) (hb : b = ((pre.length + m.length : Nat) : Int)) : cut s (some a) (some b) = m := by
  subst e ha hb
  exact cut_app
theorem read_pos (H : Has T) {n m : Nat} {pre rest s : List Nat} {o : Ob} (e : s = pre ++ numL m ++ rest) (hm : m ≤ 1000000) (hr : Stop dig rest) (hs : s.length ≤ sizeLine) :
    callF T (n + 2) "read_integer" [.str s, .int (pre.length : Nat)] o = .ok (.val (.tup [.int (m : Nat), .int ((pre.length + (numL m).length : Nat) : Int)])) o := by
  have hz : (2 : Nat) ≤ sizeLine := by rw [PySem.sizeLine_eq]; omega
  have hl7 : (numL m).length ≤ 7 := numL_len (by omega) (by omega)
  have hl1 : (numL m).length ≠ 0 := fun h => numL_ne m (List.length_eq_zero_iff.mp h)
  obtain ⟨d, r, hd⟩ : ∃ d r, numL m = d :: r := by
    cases hq : numL m with
    | nil => exact absurd hq (numL_ne m)
    | cons d r => exact ⟨d, r, rfl⟩
  have hdd := numL_digits m d (by rw [hd]; exact List.mem_cons_self ..)
  have hx : s[pre.length]? = some d := by rw [e, hd]; simp
  have n45 : ¬ d = 45 := by omega
  have hrun : run dig (s.drop pre.length) = (numL m).length := by
    rw [e, List.append_assoc, List.drop_left]
    exact run_stops dig_num hr
  have hcut : cut s (some (pre.length : Int)) (some ((pre.length : Int) + ((numL m).length : Int))) = numL m := cut_at e rfl (by simp)
  have hx0 : (numL m)[0]? = some d := by rw [hd]; rfl
  have hlt : (numL m).length ≤ sizeLine := by rw [PySem.sizeLine_eq]; omega
  have hi0 : idxD (.str (numL m)) (.int 0) = some (.str [d]) := idx_str hlt hx0
  rw [callF_run H.read_integer rfl]
  have c48 : d = 48 → (numL m).length = 1 := fun h => by
    have : m = 0 := num_head m d r hd h
    subst this
    rfl
  have h7 : ¬ (7 : Int) < ((numL m).length : Int) := by omega
  have hbig : ¬ (1000000 : Int) < (m : Int) := by omega
  have hnz : ¬ ((numL m).length : Int) = 0 := by omega
  have hor : ((d = 48) ∧ ((1 : Int) < ((numL m).length : Int) ∨ (pre.length : Int) < (pre.length : Int))) → False := fun h => by
    have := c48 h.1
    omega
  show endOf (PI.execs (prm T (n + 1)) b_read_integer (entry fd_read_integer [.str s, .int (pre.length : Nat)]) o) = _
  unfold b_read_integer
  by_cases h48 : d = 48
  · have hlen : ¬ (1 : Int) < ((numL m).length : Int) := by have := c48 h48; omega
    simp [numL_ne, fd_read_integer, idx_str hs hx, n45, count_digits H hs, hrun, hnz, slc_str hs, hcut, h7, hi0, hbig, int_num hm, h48, hlen, hz]
  · simp [numL_ne, fd_read_integer, idx_str hs hx, n45, count_digits H hs, hrun, hnz, slc_str hs, hcut, h7, hi0, hbig, int_num hm, h48, hz]
theorem read_neg (H : Has T) {n m : Nat} {pre rest s : List Nat} {o : Ob} (e : s = pre ++ (45 :: numL m) ++ rest) (h1 : 1 ≤ m) (hm : m ≤ 1000000) (hr : Stop dig rest) (hs : s.length ≤ sizeLine) :
    callF T (n + 2) "read_integer" [.str s, .int (pre.length : Nat)] o = .ok (.val (.tup [.int (-(m : Nat)), .int ((pre.length + (45 :: numL m).length : Nat) : Int)])) o := by
  have hz : (2 : Nat) ≤ sizeLine := by rw [PySem.sizeLine_eq]; omega
  have hl7 : (numL m).length ≤ 7 := numL_len (by omega) (by omega)
  obtain ⟨d, r, hd⟩ : ∃ d r, numL m = d :: r := by
    cases hq : numL m with
    | nil => exact absurd hq (numL_ne m)
    | cons d r => exact ⟨d, r, rfl⟩
  have hx : s[pre.length]? = some 45 := by rw [e]; simp
  have h48 : ¬ d = 48 := fun h => by
    have := num_head m d r hd h
    omega
  have hrun : run dig (s.drop (pre.length + 1)) = (numL m).length := by
    have e1 : s = (pre ++ [45]) ++ (numL m ++ rest) := by rw [e]; simp
    have e2 : pre.length + 1 = (pre ++ [45]).length := by simp
    rw [e1, e2, List.drop_left]
    exact run_stops dig_num hr
  have hcd : callF T (n + 1) "count_digits" [.str s, .int ((pre.length : Int) + 1)] o = .ok (.val (.int (numL m).length)) o := by
    have := count_digits H (n := n) (i := pre.length + 1) (o := o) hs
    rw [hrun] at this
    exact this
  have hcut : cut s (some ((pre.length : Int) + 1)) (some ((pre.length : Int) + 1 + ((numL m).length : Int))) = numL m :=
    cut_at (pre := pre ++ [45]) (rest := rest) (by rw [e]; simp) (by simp) (by simp)
  have hcut2 : cut s (some (pre.length : Int)) (some ((pre.length : Int) + 1 + ((numL m).length : Int))) = 45 :: numL m :=
    cut_at (pre := pre) (rest := rest) e rfl (by simp <;> omega)
  have hx0 : (numL m)[0]? = some d := by rw [hd]; rfl
  have hlt : (numL m).length ≤ sizeLine := by rw [PySem.sizeLine_eq]; omega
  have hi0 : idxD (.str (numL m)) (.int 0) = some (.str [d]) := idx_str hlt hx0
  have h7 : ¬ (7 : Int) < ((numL m).length : Int) := by omega
  have hbig : ¬ (1000000 : Int) < (m : Int) := by omega
  rw [callF_run H.read_integer rfl]
  show endOf (PI.execs (prm T (n + 1)) b_read_integer (entry fd_read_integer [.str s, .int (pre.length : Nat)]) o) = _
  unfold b_read_integer
  simp [numL_ne, fd_read_integer, idx_str hs hx, hcd, slc_str hs, hcut, hcut2, h7, hi0, hbig, int_num hm, int_neg hm, h48, hz]
  omega
/-! ### tokens -/
abbrev kWord : List Nat := [119, 111, 114, 100]
abbrev kInt : List Nat := [105, 110, 116, 101, 103, 101, 114]
abbrev kQuote : List Nat := [113, 117, 111, 116, 101]
abbrev kSign : List Nat := [115, 105, 103, 110]
/-- a token as it is written: kind, content, signs; what stands behind -/
inductive Good : List Nat → D → List Nat → List Nat → Prop
  | word {a : Nat} {r rest : List Nat} : a ∈ l_LETTERS → (∀ c ∈ r, aln c = true) → Stop aln rest → Good kWord (.str (a :: r)) (a :: r) rest
  | pos {m : Nat} {rest : List Nat} : m ≤ 1000000 → Stop dig rest → Good kInt (.int (m : Nat)) (numL m) rest
  | neg {m : Nat} {rest : List Nat} : 1 ≤ m → m ≤ 1000000 → Stop dig rest → Good kInt (.int (-(m : Nat))) (45 :: numL m) rest
  | quo {t rest : List Nat} : 34 ∉ t → 10 ∉ t → Good kQuote (.str t) (34 :: (t ++ [34])) rest
  | sig {c : Nat} {rest : List Nat} : c ∈ l_SIGNS → Good kSign (.str [c]) [c] rest
def tokD (k : List Nat) (c : D) (at_ : Nat) : D := .tup [.str k, c, .int (at_ : Nat)]
theorem let_not {c : Nat} (h : c ∈ l_LETTERS) : c ∉ l_DIGITS ∧ c ∉ l_SIGNS ∧ c ≠ 45 ∧ c ≠ 34 ∧ c ≠ 35 ∧ c ≠ 32 ∧ c ≠ 10 := by
  have : ∀ c ∈ l_LETTERS, c ∉ l_DIGITS ∧ c ∉ l_SIGNS ∧ c ≠ 45 ∧ c ≠ 34 ∧ c ≠ 35 ∧ c ≠ 32 ∧ c ≠ 10 := by decide
  exact this c h
theorem dig_not {c : Nat} (h : c ∈ l_DIGITS) : c ∉ l_LETTERS ∧ c ∉ l_SIGNS ∧ c ≠ 45 ∧ c ≠ 34 ∧ c ≠ 35 ∧ c ≠ 32 ∧ c ≠ 10 := by
  have : ∀ c ∈ l_DIGITS, c ∉ l_LETTERS ∧ c ∉ l_SIGNS ∧ c ≠ 45 ∧ c ≠ 34 ∧ c ≠ 35 ∧ c ≠ 32 ∧ c ≠ 10 := by decide
  exact this c h
theorem sig_not {c : Nat} (h : c ∈ l_SIGNS) : c ∉ l_LETTERS ∧ c ∉ l_DIGITS ∧ c ≠ 45 ∧ c ≠ 34 ∧ c ≠ 35 ∧ c ≠ 32 ∧ c ≠ 10 := by
  have : ∀ c ∈ l_SIGNS, c ∉ l_LETTERS ∧ c ∉ l_DIGITS ∧ c ≠ 45 ∧ c ≠ 34 ∧ c ≠ 35 ∧ c ≠ 32 ∧ c ≠ 10 := by decide
  exact this c h
theorem read_token (H : Has T) {n : Nat} {pre sh rest s k : List Nat} {c : D} {o : Ob} (e : s = pre ++ sh ++ rest) (g : Good k c sh rest) (hs : s.length ≤ sizeLine) :
    callF T (n + 3) "read_token" [.str s, .int (pre.length : Nat)] o = .ok (.val (.tup [tokD k c pre.length, .int ((pre.length + sh.length : Nat) : Int)])) o := by
  have hz : (2 : Nat) ≤ sizeLine := by rw [PySem.sizeLine_eq]; omega
  have hz3 : (3 : Nat) ≤ sizeLine := by rw [PySem.sizeLine_eq]; omega
  rw [callF_run H.read_token rfl]
  show endOf (PI.execs (prm T (n + 2)) b_read_token (entry fd_read_token [.str s, .int (pre.length : Nat)]) o) = _
  unfold b_read_token
  cases g with
  | @word a r _ ha hr hst =>
    have hx : s[pre.length]? = some a := by rw [e]; simp
    have hrun : run aln (s.drop pre.length) = (a :: r).length := by
      rw [e, List.append_assoc, List.drop_left]
      refine run_stops (fun c hc => ?_) hst
      rcases List.mem_cons.mp hc with rfl | hc
      · unfold aln; simp [ha]
      · exact hr c hc
    have hcut : cut s (some (pre.length : Int)) (some ((pre.length : Int) + ((r.length : Int) + 1))) = a :: r := cut_at e rfl (by simp)
    simp [fd_read_token, idx_str hs hx, ha, count_word H hs, hrun, slc_str hs, hcut, hz, hz3, tokD]
  | @pos m _ hm hst =>
    obtain ⟨d, r, hd⟩ : ∃ d r, numL m = d :: r := by
      cases hq : numL m with
      | nil => exact absurd hq (numL_ne m)
      | cons d r => exact ⟨d, r, rfl⟩
    have hx : s[pre.length]? = some d := by rw [e, hd]; simp
    have hdd : d ∈ l_DIGITS := by
      have := dig_num (m := m) d (by rw [hd]; exact List.mem_cons_self ..)
      exact of_decide_eq_true this
    have nl := (dig_not hdd).1
    simp [fd_read_token, idx_str hs hx, hdd, nl, read_pos H e hm hst hs, hz, hz3, tokD]
  | @neg m _ h1 hm hst =>
    have hx : s[pre.length]? = some 45 := by rw [e]; simp
    have nl : 45 ∉ l_LETTERS := by decide
    have nd : 45 ∉ l_DIGITS := by decide
    simp [fd_read_token, idx_str hs hx, nl, nd, read_neg H e h1 hm hst hs, hz, hz3, tokD]
  | @quo t _ h34 h10 =>
    have hx : s[pre.length]? = some 34 := by rw [e]; simp
    have nl : 34 ∉ l_LETTERS := by decide
    have nd : 34 ∉ l_DIGITS := by decide
    have e1 : s = (pre ++ [34]) ++ t ++ 34 :: rest := by rw [e]; simp
    have hf : PySem.Txt.find3 (S s) (S [34]) ((pre.length : Int) + 1) = (pre.length : Int) + 1 + (t.length : Int) := by
      have := find3_app (pre := pre ++ [34]) (p := t) (rest := rest) (c := 34) h34
      rw [← e1] at this
      simpa using this
    have hn1 : ¬ (pre.length : Int) + 1 + (t.length : Int) < 0 := by omega
    have hcut : cut s (some ((pre.length : Int) + 1)) (some ((pre.length : Int) + 1 + (t.length : Int))) = t :=
      cut_at (pre := pre ++ [34]) (rest := 34 :: rest) e1 (by simp) (by simp)
    have hg : PySem.Txt.find3 (S s) (S [10]) ((pre.length : Int) + 1) = -1 ∨ ((0 : Int) ≤ PySem.Txt.find3 (S s) (S [10]) ((pre.length : Int) + 1) ∧ ¬ PySem.Txt.find3 (S s) (S [10]) ((pre.length : Int) + 1) < (pre.length : Int) + 1 + (t.length : Int)) := by
      have hsp := find3_spec s 10 (pre.length + 1)
      have ec : ((pre.length + 1 : Nat) : Int) = (pre.length : Int) + 1 := by simp
      rw [ec] at hsp
      rcases hsp with ⟨h, _⟩ | ⟨j, h, h2, h3, _⟩
      · exact .inl h
      · refine .inr ⟨by rw [h]; omega, ?_⟩
        rw [h]
        intro hlt
        have hj : j < pre.length + 1 + t.length := by omega
        rw [e1, List.append_assoc, List.getElem?_append_right (by simp <;> omega), List.getElem?_append_left (by simp <;> omega)] at h3
        exact h10 (List.mem_of_getElem? h3)
    rcases hg with hg | ⟨hg1, hg2⟩
    · simp [fd_read_token, idx_str hs hx, nl, nd, hf, hn1, hg, slc_str hs, hcut, hz, hz3, tokD]
      omega
    · simp [fd_read_token, idx_str hs hx, nl, nd, hf, hn1, hg1, hg2, slc_str hs, hcut, hz, hz3, tokD]
      omega
  | @sig c _ hc =>
    have hx : s[pre.length]? = some c := by rw [e]; simp
    obtain ⟨n1, n2, n3, n4, _⟩ := sig_not hc
    simp [fd_read_token, idx_str hs hx, n1, n2, n3, n4, hc, hz, hz3, tokD]
end TK

namespace TK
open PI TL
open PySem (sizeLine)
variable {T : Tab}

structure Pc where
  k : List Nat
  c : D
  sh : List Nat
  g : List Nat
def glue : List Pc → List Nat
  | [] => []
  | p :: ps => p.sh ++ (p.g ++ glue ps)
def due : List Pc → Nat → List D
  | [], _ => []
  | p :: ps, at_ => tokD p.k p.c at_ :: due ps (at_ + p.sh.length + p.g.length)
inductive Pieces : List Pc → Prop
  | nil : Pieces []
  | cons {p : Pc} {ps : List Pc} : Good p.k p.c p.sh (p.g ++ glue ps) → Gap p.g → Pieces ps → Pieces (p :: ps)
theorem num_head_dig {m d : Nat} {r : List Nat} (h : numL m = d :: r) : d ∈ l_DIGITS := of_decide_eq_true (dig_num (m := m) d (by rw [h]; exact List.mem_cons_self ..))
theorem Good.head {k sh rest : List Nat} {c : D} (g : Good k c sh rest) : ∃ a r, sh = a :: r ∧ a ≠ 35 ∧ a ≠ 32 ∧ a ≠ 10 := by
  cases g with
  | @word a r _ ha _ _ => exact ⟨a, r, rfl, (let_not ha).2.2.2.2⟩
  | @pos m _ _ _ =>
    cases hq : numL m with
    | nil => exact absurd hq (numL_ne m)
    | cons d r => exact ⟨d, r, rfl, (dig_not (num_head_dig hq)).2.2.2.2⟩
  | neg _ _ _ => exact ⟨45, _, rfl, by omega, by omega, by omega⟩
  | quo _ _ => exact ⟨34, _, rfl, by omega, by omega, by omega⟩
  | @sig a _ ha => exact ⟨a, [], rfl, (sig_not ha).2.2.2.2⟩
theorem Pieces.dry {ps : List Pc} (h : Pieces ps) : Dry (glue ps) := by
  cases h with
  | nil => intro c r e; cases e
  | @cons p ps g _ _ =>
    obtain ⟨a, r, e, h1⟩ := g.head
    intro c r' e'
    show c ≠ 35 ∧ c ≠ 32 ∧ c ≠ 10
    have e2 : glue (p :: ps) = p.sh ++ (p.g ++ glue ps) := rfl
    rw [e2, e] at e'
    cases e'
    exact h1
theorem due_len : ∀ (ps : List Pc) (a : Nat), (due ps a).length = ps.length
  | [], _ => rfl
  | p :: ps, a => by rw [due, List.length_cons, due_len ps, List.length_cons]
theorem glue_len {ps : List Pc} (h : Pieces ps) : ps.length ≤ (glue ps).length := by
  induction h with
  | nil => exact Nat.le_refl _
  | @cons p ps g _ _ ih =>
    obtain ⟨a, r, e, _⟩ := g.head
    show ps.length + 1 ≤ (p.sh ++ (p.g ++ glue ps)).length
    rw [e]
    simp
    omega
abbrev tkC : Ex := .cmp .Lt (.var 2) (.blt "len" [.var 0])
abbrev tkB : List Stm := [.asg (.many [3, 4]) false (.call "read_token" [.var 0, .var 2]),
    .mut 1 "append" [.var 3],
    .asg (.one 2) false (.call "skip_space" [.var 0, .var 4])]
abbrev tkS (s : List Nat) (acc : List D) (k : Nat) (e f : Option Rv) : Sl := [some (.val (.str s)), some (.own (.lst acc)), some (.val (.int (k : Nat))), e, f]
theorem tok_loop (H : Has T) {n : Nat} {s : List Nat} {o : Ob} (hs : s.length ≤ 2000) : ∀ {ps : List Pc}, Pieces ps → ∀ (pre : List Nat) (acc : List D) (e f : Option Rv), s = pre ++ glue ps → acc.length + ps.length ≤ 2000 →
    ∃ e' f', whlX (prm T (n + 3)) tkC tkB (tkS s acc pre.length e f) o = .nx (tkS s (acc ++ due ps pre.length) s.length e' f') o := by
  have hs' : s.length ≤ sizeLine := by rw [PySem.sizeLine_eq]; omega
  intro ps h
  induction h with
  | nil =>
    intro pre acc e f hp _
    have hl : s.length = pre.length := by rw [hp]; simp [glue]
    refine ⟨e, f, ?_⟩
    rw [whlX_eq]
    simp [len_str hs', hl, due]
  | @cons p ps g hg hps ih =>
    intro pre acc e f hp ha
    have e1 : s = pre ++ p.sh ++ (p.g ++ glue ps) := by rw [hp, List.append_assoc]; rfl
    obtain ⟨a, r, ea, _⟩ := g.head
    have hlt : pre.length < s.length := by rw [e1, ea]; simp
    have hrt := read_token (o := o) H (n := n) e1 g hs'
    have hsk := skip_space (o := o) H (n := n + 2) (pre := pre ++ p.sh) (g := p.g) (rest := glue ps) (s := s) (by rw [e1]; simp) hg hps.dry hs'
    have hal : acc.length < sizeLine := by simp at ha; rw [PySem.sizeLine_eq]; omega
    obtain ⟨e', f', hi⟩ := ih ((pre ++ p.sh) ++ p.g) (acc ++ [tokD p.k p.c pre.length]) (some (.val (tokD p.k p.c pre.length))) (some (.val (.int ((pre.length + p.sh.length : Nat) : Int)))) (by rw [e1]; simp) (by simp at ha ⊢; omega)
    refine ⟨e', f', ?_⟩
    have e4 : ((pre ++ p.sh ++ p.g).length : Int) = (pre.length : Int) + p.sh.length + p.g.length := by simp <;> omega
    have e5 : acc ++ [tokD p.k p.c pre.length] ++ due ps (pre ++ p.sh ++ p.g).length = acc ++ due (p :: ps) pre.length := by simp [due, Nat.add_assoc]
    rw [e5] at hi
    rw [whlX_eq, ← hi]
    have e6 : ((pre ++ p.sh).length : Int) = (pre.length : Int) + p.sh.length := by simp
    have e7 : (((pre ++ p.sh).length + p.g.length : Nat) : Int) = (pre.length : Int) + p.sh.length + p.g.length := by simp
    rw [e6, e7] at hsk
    have e8 : ((pre.length + p.sh.length : Nat) : Int) = (pre.length : Int) + p.sh.length := by simp
    rw [e8] at hrt
    simp only [tkS, e4, e8]
    simp [len_str hs', hlt, hrt, app_lst hal, hsk]
theorem tokens (H : Has T) {n : Nat} {g0 s : List Nat} {ps : List Pc} {o : Ob} (h : Pieces ps) (hg : Gap g0) (e : s = g0 ++ glue ps) (hs : s.length ≤ 2000) : callF T (n + 4) "tokens" [.str s] o = .ok (.own (.lst (due ps g0.length))) o := by
  have hs' : s.length ≤ sizeLine := by rw [PySem.sizeLine_eq]; omega
  rw [callF_run H.tokens rfl]
  have hbig : ¬ (2000 : Int) < (s.length : Int) := by omega
  have hsk := skip_space (o := o) H (n := n + 2) (pre := []) (g := g0) (rest := glue ps) (s := s) (by rw [e]; simp) hg h.dry hs'
  have hl : ps.length ≤ 2000 := Nat.le_trans (glue_len h) (by have : s.length = g0.length + (glue ps).length := by rw [e, List.length_append]
                                                              omega)
  obtain ⟨e', f', hi⟩ := tok_loop (o := o) H (n := n) hs h g0 [] none none e (by simpa using hl)
  show endOf (PI.execs (prm T (n + 3)) b_tokens (entry fd_tokens [.str s]) o) = _
  unfold b_tokens
  simp at hsk
  simp [fd_tokens, len_str hs', hbig, hsk, hi]
end TK

/-! the laws' own numbers. -/
namespace LN
open PI
open PySem (sizeLine)
open PI.Ex PI.Stm in section
def b__law_number : List Stm := [.asg (.one 2) false (.ife (.cmp .Lt (.var 1) (.blt "len" [.var 0])) (.idx (.var 0) (.var 1)) (.bin .Add (.bin .Mult (.cst (.int 3)) (.var 1)) (.cst (.int 1)))),
    .iff (.cmp .Lt (.var 2) (.cst (.int 0))) [.asg (.one 2) false (.bin .Sub (.bin .Mult (.neg (.cst (.int 2))) (.var 2)) (.cst (.int 1)))] [],
    .iff (.cmp .Lt (.var 2) (.bin .Pow (.cst (.int 10)) (.cst (.int 9)))) [.asg (.one 3) false (.bin .Mod (.blt "int" [.bin .Add (.bin .Add (.bin .Mult (.var 2) (.cst (.int 48271))) (.bin .Mult (.var 1) (.cst (.int 69621)))) (.cst (.int 17))]) (.cst (.int 2147483647))),
    .asg (.one 4) false (.bin .Mod (.blt "int" [.bin .Add (.bin .Add (.bin .Mult (.var 3) (.cst (.int 16807))) (.bin .Mult (.var 2) (.cst (.int 7919)))) (.var 1)]) (.cst (.int 2147483629))),
    .ret (.bin .Add (.bin .Mult (.var 3) (.cst (.int 2147483629))) (.var 4))] [],
    .ret (.var 2)]
def fd__law_number : Fn := ⟨2, 5, [], b__law_number⟩
def b__law_is_whole : List Stm := [.ret (.and (.blt "isinstance" [.var 0, .cst (.typ "int")]) (.not (.blt "isinstance" [.var 0, .cst (.typ "bool")])))]
def fd__law_is_whole : Fn := ⟨1, 1, [], b__law_is_whole⟩
end
structure Has (T : Tab) : Prop where
  num : T.fn "_law_number" = some fd__law_number
  whole : T.fn "_law_is_whole" = some fd__law_is_whole
variable {T : Tab}
def cell (ns : List Int) (k : Nat) : Int := if k < ns.length then ns.getD k 0 else 3 * (k : Int) + 1
def cell2 (ns : List Int) (k : Nat) : Int := if cell ns k < 0 then -2 * cell ns k - 1 else cell ns k
def first (c : Int) (k : Nat) : Int := (c * 48271 + k * 69621 + 17).fmod 2147483647
def numb (ns : List Int) (k : Nat) : Int := if cell2 ns k < 1000000000 then first (cell2 ns k) k * 2147483629 + (first (cell2 ns k) k * 16807 + cell2 ns k * 7919 + k).fmod 2147483629 else cell2 ns k
theorem fmod_lt {a b : Int} (h : 0 < b) : 0 ≤ a.fmod b ∧ a.fmod b < b := by
  rw [Int.fmod_eq_emod_of_nonneg a (by omega)]
  exact ⟨Int.emod_nonneg a (by omega), Int.emod_lt_of_pos a h⟩
theorem mulOk_of {i j : Int} {a b : Nat} (ha : i.natAbs < 2 ^ a) (hb : j.natAbs < 2 ^ b) (h : a + b ≤ 134217728) : mulOk i j := L2.mulx_ok ha hb h
theorem mulS {i j : Int} (hi : -1000000000000 < i ∧ i < 1000000000000) (hj : -1000000000000 < j ∧ j < 1000000000000) : mulOk i j := mulOk_of (a := 40) (b := 40) (by omega) (by omega) (by omega)
theorem cell2_nn (ns : List Int) (k : Nat) : 0 ≤ cell2 ns k := by
  unfold cell2
  split <;> omega
theorem numb_nn (ns : List Int) (k : Nat) : 0 ≤ numb ns k := by
  unfold numb
  have h1 := (fmod_lt (a := cell2 ns k * 48271 + k * 69621 + 17) (b := 2147483647) (by omega)).1
  have h2 := (fmod_lt (a := first (cell2 ns k) k * 16807 + cell2 ns k * 7919 + k) (b := 2147483629) (by omega)).1
  have h3 := cell2_nn ns k
  have h4 : 0 ≤ first (cell2 ns k) k := h1
  split <;> omega
theorem pow9 : binD .Pow (.int 10) (.int 9) = some (.val (.int 1000000000)) := by
  have e : (10 : Int) ^ (9 : Int).toNat = 1000000000 := by decide
  have h := pow_int (i := 10) (j := 9) ⟨by omega, by omega, by decide⟩
  rw [e] at h
  exact h
theorem law_number (H : Has T) {n : Nat} {ns : List Int} {k : Nat} {o : Ob} (hk : k < 1000000) (hb : ∀ z ∈ ns, PySem.Builtin.Int.intBits z ≤ 1048576) (hl : ns.length ≤ 63) :
    callF T (n + 1) "_law_number" [.lst (ns.map .int), .int (k : Nat)] o = .ok (.val (.int (numb ns k))) o := by
  rw [callF_run H.num rfl]
  show endOf (PI.execs (prm T n) b__law_number (entry fd__law_number [.lst (ns.map .int), .int (k : Nat)]) o) = _
  unfold b__law_number
  have m1 : mulOk 3 (k : Int) := mulS (by omega) (by omega)
  obtain ⟨B, hB⟩ : ∃ B : Int, B = 1000000000 := ⟨_, rfl⟩
  have hp : binD .Pow (.int 10) (.int 9) = some (.val (.int B)) := by rw [hB]; exact pow9
  have rest : ∀ (c : Int) (c0 : Option Rv) (hc : 0 ≤ c),
      endOf (PI.execs (prm T n) (b__law_number.drop 2) [some (.val (.lst (ns.map .int))), some (.val (.int (k : Nat))), some (.val (.int c)), none, none] o) =
        .ok (.val (.int (if c < B then first c k * 2147483629 + (first c k * 16807 + c * 7919 + k).fmod 2147483629 else c))) o := by
    intro c c0 hc
    have hf := fmod_lt (a := c * 48271 + k * 69621 + 17) (b := 2147483647) (by omega)
    show endOf (PI.execs (prm T n) [_, _] _ o) = _
    by_cases hs : c < B
    · have m2 : mulOk c 48271 := mulS (by omega) (by omega)
      have m3 : mulOk (k : Int) 69621 := mulS (by omega) (by omega)
      have m4 : mulOk (first c k) 16807 := mulS (by unfold first; omega) (by omega)
      have m5 : mulOk c 7919 := mulS (by omega) (by omega)
      have m6 : mulOk (first c k) 2147483629 := mulS (by unfold first; omega) (by omega)
      have e1 : binD .Mod (.int (c * 48271 + (k : Int) * 69621 + 17)) (.int 2147483647) = some (.val (.int (first c k))) := mod_int (by omega)
      have e2 : binD .Mod (.int (first c k * 16807 + c * 7919 + (k : Int))) (.int 2147483629) = some (.val (.int ((first c k * 16807 + c * 7919 + (k : Int)).fmod 2147483629))) := mod_int (by omega)
      simp [hp, hs, mul_int m2, mul_int m3, mul_int m4, mul_int m5, mul_int m6, e1, e2]
    · simp [hp, hs]
  have hcell : ∀ c, cell ns k = c → c < 0 → mulOk (-2) c := by
    intro c hc hn
    have hbit : PySem.Builtin.Int.intBits c ≤ 1048576 := by
      unfold cell at hc
      split at hc
      · rename_i hlt
        rw [List.getD_eq_getElem?_getD, List.getElem?_eq_getElem hlt] at hc
        rw [← hc]
        exact hb _ (List.getElem_mem hlt)
      · omega
    have h2 : PySem.Builtin.Int.intBits (-2) ≤ 2 := PyProof.Rows.intBits_le (by decide)
    unfold mulOk
    omega
  have hix : k < ns.length → L2.atI (ns.map D.int) (k : Int) = some (.int (cell ns k)) := fun h => by
    refine atI_of ?_
    rw [List.getElem?_map, List.getElem?_eq_getElem h]
    unfold cell
    rw [if_pos h, List.getD_eq_getElem?_getD, List.getElem?_eq_getElem h]
    rfl
  have hnl : ¬ k < ns.length → cell ns k = 3 * (k : Int) + 1 := fun h => by unfold cell; rw [if_neg h]
  have first2 : ∀ c, cell ns k = c → 
      endOf (PI.execs (prm T n) (b__law_number.drop 1) [some (.val (.lst (ns.map .int))), some (.val (.int (k : Nat))), some (.val (.int c)), none, none] o) = .ok (.val (.int (numb ns k))) o := by
    intro c hc
    have hnum : numb ns k = (if cell2 ns k < B then first (cell2 ns k) k * 2147483629 + (first (cell2 ns k) k * 16807 + cell2 ns k * 7919 + k).fmod 2147483629 else cell2 ns k) := by rw [hB]; rfl
    have h2 := cell2_nn ns k
    have hr := rest (cell2 ns k) none h2
    rw [← hnum] at hr
    show endOf (PI.execs (prm T n) (_ :: b__law_number.drop 2) _ o) = _
    by_cases hn : c < 0
    · have e2 : cell2 ns k = -2 * c - 1 := by unfold cell2; rw [hc, if_pos hn]
      rw [e2] at hr
      simp [hn, mul_int (hcell c hc hn), hr]
    · have e2 : cell2 ns k = c := by unfold cell2; rw [hc, if_neg hn]
      rw [e2] at hr
      simp [hn, hr]
  show endOf (PI.execs (prm T n) (_ :: b__law_number.drop 1) _ o) = _
  by_cases h : k < ns.length
  · have := first2 _ rfl
    simp [fd__law_number, h, hix h]
    exact this
  · have := first2 _ (hnl h)
    simp [fd__law_number, h, mul_int m1]
    exact this
theorem law_is_whole (H : Has T) {n : Nat} {i : Int} {o : Ob} : callF T (n + 1) "_law_is_whole" [.int i] o = .ok (.val (.bl true)) o := by
  rw [callF_run H.whole rfl]
  show endOf (PI.execs (prm T n) b__law_is_whole (entry fd__law_is_whole [.int i]) o) = _
  unfold b__law_is_whole
  simp [fd__law_is_whole, isiD]
end LN

namespace K08
open PySem PySem.Spec PyProof.Rows L2 PI
/-! ### the trees of the text, printed by a program -/
def l_DIGITS : List Nat := [48, 49, 50, 51, 52, 53, 54, 55, 56, 57]
abbrev c_DIGITS : D := .str l_DIGITS
def l_LETTERS : List Nat := [97, 98, 99, 100, 101, 102, 103, 104, 105, 106, 107, 108, 109, 110, 111, 112, 113, 114, 115, 116, 117, 118, 119, 120, 121, 122, 65, 66, 67, 68, 69, 70, 71, 72, 73, 74, 75, 76, 77, 78, 79, 80, 81, 82, 83, 84, 85, 86, 87, 88, 89, 90]
abbrev c_LETTERS : D := .str l_LETTERS
def l_SIGNS : List Nat := [123, 125, 40, 41, 44, 59, 47, 38, 124, 33]
abbrev c_SIGNS : D := .str l_SIGNS
abbrev c_TEXT_LONGEST : D := (.int 2000)
abbrev c_INTEGER_LIMIT : D := (.int 1000000)
open PI.Ex PI.Stm in section
def b_count_digits_1 : List Stm := [.asg (.one 2) false (.bin .Add (.var 2) (.cst (.int 1)))]
def b_count_digits : List Stm := [.asg (.one 2) false (.var 1),
    .whl (.and (.cmp .Lt (.var 2) (.blt "len" [.var 0])) (.cmp .In (.idx (.var 0) (.var 2)) (.cst c_DIGITS))) b_count_digits_1,
    .ret (.bin .Sub (.var 2) (.var 1))]
def fd_count_digits : Fn := ⟨2, 3, [], b_count_digits⟩
def b_position : List Stm := [.asg (.one 2) false (.slc (.var 0) false true (.cst .non) (.var 1)),
    .ret (.tup [.bin .Add (.mth "count" (.var 2) [.cst (.str [10])]) (.cst (.int 1)), .bin .Add (.bin .Sub (.var 1) (.bin .Add (.mth "rfind" (.var 2) [.cst (.str [10])]) (.cst (.int 1)))) (.cst (.int 1))])]
def fd_position : Fn := ⟨2, 3, [], b_position⟩
def b_skip_space_1 : List Stm := [.iff (.cmp .Eq (.idx (.var 0) (.var 2)) (.cst (.str [35]))) [.asg (.one 3) false (.mth "find" (.var 0) [.cst (.str [10]), .var 2]),
    .asg (.one 2) false (.ife (.cmp .Lt (.var 3) (.cst (.int 0))) (.blt "len" [.var 0]) (.var 3))] [.iff (.cmp .In (.idx (.var 0) (.var 2)) (.cst (.str [32, 10]))) [.asg (.one 2) false (.bin .Add (.var 2) (.cst (.int 1)))] [.ret (.var 2)]]]
def b_skip_space : List Stm := [.asg (.one 2) false (.var 1),
    .whl (.cmp .Lt (.var 2) (.blt "len" [.var 0])) b_skip_space_1,
    .ret (.var 2)]
def fd_skip_space : Fn := ⟨2, 4, [], b_skip_space⟩
def b_count_word_1 : List Stm := [.asg (.one 2) false (.bin .Add (.var 2) (.cst (.int 1)))]
def b_count_word : List Stm := [.asg (.one 2) false (.var 1),
    .whl (.and (.cmp .Lt (.var 2) (.blt "len" [.var 0])) (.or (.cmp .In (.idx (.var 0) (.var 2)) (.cst c_LETTERS)) (.cmp .In (.idx (.var 0) (.var 2)) (.cst c_DIGITS)))) b_count_word_1,
    .ret (.bin .Sub (.var 2) (.var 1))]
def fd_count_word : Fn := ⟨2, 3, [], b_count_word⟩
def b_read_integer : List Stm := [.asg (.one 2) false (.ife (.cmp .Eq (.idx (.var 0) (.var 1)) (.cst (.str [45]))) (.bin .Add (.var 1) (.cst (.int 1))) (.var 1)),
    .asg (.one 3) false (.call "count_digits" [.var 0, .var 2]),
    .iff (.cmp .Eq (.var 3) (.cst (.int 0))) [.asg (.many [4, 5]) false (.call "position" [.var 0, .var 1]),
    .nev] [],
    .asg (.one 6) false (.slc (.var 0) true true (.var 2) (.bin .Add (.var 2) (.var 3))),
    .iff (.or (.cmp .Gt (.var 3) (.cst (.int 7))) (.or (.and (.cmp .Eq (.idx (.var 6) (.cst (.int 0))) (.cst (.str [48]))) (.or (.cmp .Gt (.var 3) (.cst (.int 1))) (.cmp .Gt (.var 2) (.var 1)))) (.cmp .Gt (.blt "int" [.var 6]) (.cst c_INTEGER_LIMIT)))) [.asg (.many [4, 5]) false (.call "position" [.var 0, .var 1]),
    .nev] [],
    .ret (.tup [.blt "int" [.slc (.var 0) true true (.var 1) (.bin .Add (.var 2) (.var 3))], .bin .Add (.var 2) (.var 3)])]
def fd_read_integer : Fn := ⟨2, 7, [], b_read_integer⟩
def b_read_token : List Stm := [.asg (.one 2) false (.idx (.var 0) (.var 1)),
    .iff (.cmp .In (.var 2) (.cst c_LETTERS)) [.asg (.one 3) false (.bin .Add (.var 1) (.call "count_word" [.var 0, .var 1])),
    .ret (.tup [.tup [.cst (.str [119, 111, 114, 100]), .slc (.var 0) true true (.var 1) (.var 3), .var 1], .var 3])] [],
    .iff (.or (.cmp .In (.var 2) (.cst c_DIGITS)) (.cmp .Eq (.var 2) (.cst (.str [45])))) [.asg (.many [4, 3]) false (.call "read_integer" [.var 0, .var 1]),
    .ret (.tup [.tup [.cst (.str [105, 110, 116, 101, 103, 101, 114]), .var 4, .var 1], .var 3])] [],
    .iff (.cmp .Eq (.var 2) (.cst (.str [34]))) [.asg (.one 5) false (.mth "find" (.var 0) [.cst (.str [34]), .bin .Add (.var 1) (.cst (.int 1))]),
    .asg (.one 6) false (.mth "find" (.var 0) [.cst (.str [10]), .bin .Add (.var 1) (.cst (.int 1))]),
    .iff (.or (.cmp .Lt (.var 5) (.cst (.int 0))) (.chn .LtE .Lt (.cst (.int 0)) (.var 6) (.var 5))) [.asg (.many [7, 8]) false (.call "position" [.var 0, .var 1]),
    .nev] [],
    .ret (.tup [.tup [.cst (.str [113, 117, 111, 116, 101]), .slc (.var 0) true true (.bin .Add (.var 1) (.cst (.int 1))) (.var 5), .var 1], .bin .Add (.var 5) (.cst (.int 1))])] [],
    .iff (.cmp .In (.var 2) (.cst c_SIGNS)) [.ret (.tup [.tup [.cst (.str [115, 105, 103, 110]), .var 2, .var 1], .bin .Add (.var 1) (.cst (.int 1))])] [],
    .asg (.many [7, 8]) false (.call "position" [.var 0, .var 1]),
    .nev]
def fd_read_token : Fn := ⟨2, 9, [], b_read_token⟩
def b_tokens_1 : List Stm := [.asg (.many [3, 4]) false (.call "read_token" [.var 0, .var 2]),
    .mut 1 "append" [.var 3],
    .asg (.one 2) false (.call "skip_space" [.var 0, .var 4])]
def b_tokens : List Stm := [.iff (.cmp .Gt (.blt "len" [.var 0]) (.cst c_TEXT_LONGEST)) [.nev] [],
    .asg (.one 1) true (.lst []),
    .asg (.one 2) false (.call "skip_space" [.var 0, .cst (.int 0)]),
    .whl (.cmp .Lt (.var 2) (.blt "len" [.var 0])) b_tokens_1,
    .ret (.var 1)]
def fd_tokens : Fn := ⟨1, 5, [], b_tokens⟩
def b__law_number : List Stm := [.asg (.one 2) false (.ife (.cmp .Lt (.var 1) (.blt "len" [.var 0])) (.idx (.var 0) (.var 1)) (.bin .Add (.bin .Mult (.cst (.int 3)) (.var 1)) (.cst (.int 1)))),
    .iff (.cmp .Lt (.var 2) (.cst (.int 0))) [.asg (.one 2) false (.bin .Sub (.bin .Mult (.neg (.cst (.int 2))) (.var 2)) (.cst (.int 1)))] [],
    .iff (.cmp .Lt (.var 2) (.bin .Pow (.cst (.int 10)) (.cst (.int 9)))) [.asg (.one 3) false (.bin .Mod (.blt "int" [.bin .Add (.bin .Add (.bin .Mult (.var 2) (.cst (.int 48271))) (.bin .Mult (.var 1) (.cst (.int 69621)))) (.cst (.int 17))]) (.cst (.int 2147483647))),
    .asg (.one 4) false (.bin .Mod (.blt "int" [.bin .Add (.bin .Add (.bin .Mult (.var 3) (.cst (.int 16807))) (.bin .Mult (.var 2) (.cst (.int 7919)))) (.var 1)]) (.cst (.int 2147483629))),
    .ret (.bin .Add (.bin .Mult (.var 3) (.cst (.int 2147483629))) (.var 4))] [],
    .ret (.var 2)]
def fd__law_number : Fn := ⟨2, 5, [], b__law_number⟩
def b__law_is_whole : List Stm := [.ret (.and (.blt "isinstance" [.var 0, .cst (.typ "int")]) (.not (.blt "isinstance" [.var 0, .cst (.typ "bool")])))]
def fd__law_is_whole : Fn := ⟨1, 1, [], b__law_is_whole⟩
def b__law_token : List Stm := [.asg (.one 1) false (.bin .Mod (.blt "int" [.var 0]) (.cst (.int 4))),
    .iff (.cmp .Eq (.var 1) (.cst (.int 0))) [.asg (.one 2) false (.bin .Add (.idx (.cst (.str [97, 98, 99, 88, 89, 90])) (.bin .Mod (.blt "int" [.bin .FloorDiv (.var 0) (.cst (.int 4))]) (.cst (.int 6)))) (.slc (.cst (.str [98, 55, 90, 48])) false true (.cst .non) (.bin .Mod (.blt "int" [.bin .FloorDiv (.var 0) (.cst (.int 24))]) (.cst (.int 5))))),
    .ret (.tup [.cst (.str [119, 111, 114, 100]), .var 2, .var 2])] [],
    .iff (.cmp .Eq (.var 1) (.cst (.int 1))) [.asg (.one 3) false (.bin .Mod (.blt "int" [.bin .FloorDiv (.var 0) (.cst (.int 8))]) (.cst (.int 1000001))),
    .iff (.and (.cmp .Eq (.bin .Mod (.blt "int" [.bin .FloorDiv (.var 0) (.cst (.int 4))]) (.cst (.int 2))) (.cst (.int 1))) (.cmp .Gt (.var 3) (.cst (.int 0)))) [.asg (.one 3) false (.neg (.var 3))] [],
    .iff (.cmp .Eq (.bin .Mod (.blt "int" [.bin .FloorDiv (.var 0) (.cst (.int 3))]) (.cst (.int 3))) (.cst (.int 0))) [.asg (.one 3) false (.bin .Mod (.blt "int" [.bin .FloorDiv (.var 0) (.cst (.int 16))]) (.cst (.int 11)))] [],
    .ret (.tup [.cst (.str [105, 110, 116, 101, 103, 101, 114]), .var 3, .blt "str" [.var 3]])] [],
    .iff (.cmp .Eq (.var 1) (.cst (.int 2))) [.asg (.one 4) false (.idx (.lst [.cst (.str []), .cst (.str [119, 32, 43, 32, 49]), .cst (.str [102, 97, 99, 101, 32, 49, 46, 97]), .cst (.str [35, 32, 123, 59]), .cst (.str [49, 50, 32, 92, 32, 124])]) (.bin .Mod (.blt "int" [.bin .FloorDiv (.var 0) (.cst (.int 4))]) (.cst (.int 5)))),
    .ret (.tup [.cst (.str [113, 117, 111, 116, 101]), .var 4, .bin .Add (.bin .Add (.cst (.str [34])) (.var 4)) (.cst (.str [34]))])] [],
    .asg (.one 5) false (.idx (.cst (.str [123, 125, 40, 41, 44, 59, 47, 38, 124, 33])) (.bin .Mod (.blt "int" [.bin .FloorDiv (.var 0) (.cst (.int 4))]) (.cst (.int 10)))),
    .ret (.tup [.cst (.str [115, 105, 103, 110]), .var 5, .var 5])]
def fd__law_token : Fn := ⟨1, 6, [], b__law_token⟩
def b_law_2 : List Stm := [.asg (.one 9) false (.bin .Add (.bin .FloorDiv (.var 3) (.bin .Add (.cst (.int 372)) (.bin .Mult (.cst (.int 101)) (.var 7)))) (.call "_law_number" [.var 0, .bin .Add (.bin .Add (.cst (.int 12)) (.var 2)) (.var 7)])),
    .asg (.many [10, 11, 12]) false (.call "_law_token" [.bin .FloorDiv (.var 9) (.cst (.int 7))]),
    .mut 4 "append" [.tup [.var 10, .var 11, .blt "len" [.var 5]]],
    .mut 6 "append" [.tup [.bin .Add (.mth "count" (.var 5) [.cst (.str [10])]) (.cst (.int 1)), .bin .Add (.bin .Sub (.bin .Sub (.blt "len" [.var 5]) (.blt "len" [.mth "join" (.cst (.str [10])) [.slc (.mth "split" (.var 5) [.cst (.str [10])]) false true (.cst .non) (.neg (.cst (.int 1)))]])) (.ife (.cmp .In (.cst (.str [10])) (.var 5)) (.cst (.int 1)) (.cst (.int 0)))) (.cst (.int 1))]],
    .asg (.one 5) false (.bin .Add (.bin .Add (.var 5) (.var 12)) (.idx (.var 1) (.bin .Mod (.blt "int" [.var 9]) (.cst (.int 6)))))]
def b_law_3 : List Stm := [.iff (.or (.not (.blt "isinstance" [.idx (.var 8) (.var 7), .cst (.typ "tuple")])) (.cmp .NotEq (.call "position" [.var 5, .idx (.idx (.var 4) (.var 7)) (.cst (.int 2))]) (.idx (.var 6) (.var 7)))) [.ret (.cst (.bl false))] [],
    .iff (.and (.cmp .Eq (.idx (.idx (.var 4) (.var 7)) (.cst (.int 0))) (.cst (.str [105, 110, 116, 101, 103, 101, 114]))) (.not (.call "_law_is_whole" [.idx (.idx (.var 8) (.var 7)) (.cst (.int 1))]))) [.ret (.cst (.bl false))] []]
def b_law_1 : List Stm := [.asg (.one 3) false (.call "_law_number" [.var 0, .var 2]),
    .asg (.one 4) true (.lst []),
    .asg (.one 5) false (.ife (.cmp .Eq (.bin .Mod (.blt "int" [.var 3]) (.cst (.int 2))) (.cst (.int 0))) (.cst (.str [])) (.idx (.var 1) (.bin .Mod (.blt "int" [.bin .FloorDiv (.var 3) (.cst (.int 2))]) (.cst (.int 6))))),
    .asg (.one 6) true (.lst []),
    .for (.one 7) (.rng [.bin .Mod (.blt "int" [.bin .FloorDiv (.var 3) (.cst (.int 12))]) (.cst (.int 31))]) b_law_2,
    .iff (.cmp .Gt (.blt "len" [.var 5]) (.cst (.int 2000))) [.cnt] [],
    .asg (.one 8) false (.call "tokens" [.var 5]),
    .iff (.or (.not (.blt "isinstance" [.var 8, .cst (.typ "list")])) (.cmp .NotEq (.var 8) (.var 4))) [.ret (.cst (.bl false))] [],
    .for (.one 7) (.rng [.blt "len" [.var 4]]) b_law_3]
def b_law : List Stm := [.asg (.one 1) false (.lst [.cst (.str [32]), .cst (.str [10]), .cst (.str [32, 32]), .cst (.str [32, 35, 32, 97, 32, 99, 111, 109, 109, 101, 110, 116, 32, 34, 32, 123, 10]), .cst (.str [35, 10]), .cst (.str [10, 10, 32])]),
    .for (.one 2) (.rng [.cst (.int 12)]) b_law_1,
    .ret (.and (.cmp .Eq (.call "tokens" [.cst (.str [])]) (.lst [])) (.cmp .Eq (.call "position" [.cst (.str []), .cst (.int 0)]) (.tup [.cst (.int 1), .cst (.int 1)])))]
def fd_law : Fn := ⟨1, 13, [], b_law⟩
end
def tab : Tab where
  fn := fun f => match f with
    | "count_digits" => some fd_count_digits
    | "position" => some fd_position
    | "skip_space" => some fd_skip_space
    | "count_word" => some fd_count_word
    | "read_integer" => some fd_read_integer
    | "read_token" => some fd_read_token
    | "tokens" => some fd_tokens
    | "_law_number" => some fd__law_number
    | "_law_is_whole" => some fd__law_is_whole
    | "_law_token" => some fd__law_token
    | "law" => some fd_law
    | _ => none
  exf := fun _ _ => none
theorem fn_count_digits : tab.fn "count_digits" = some fd_count_digits := rfl
theorem fn_position : tab.fn "position" = some fd_position := rfl
theorem fn_skip_space : tab.fn "skip_space" = some fd_skip_space := rfl
theorem fn_count_word : tab.fn "count_word" = some fd_count_word := rfl
theorem fn_read_integer : tab.fn "read_integer" = some fd_read_integer := rfl
theorem fn_read_token : tab.fn "read_token" = some fd_read_token := rfl
theorem fn_tokens : tab.fn "tokens" = some fd_tokens := rfl
theorem fn__law_number : tab.fn "_law_number" = some fd__law_number := rfl
theorem fn__law_is_whole : tab.fn "_law_is_whole" = some fd__law_is_whole := rfl
theorem fn__law_token : tab.fn "_law_token" = some fd__law_token := rfl
theorem fn_law : tab.fn "law" = some fd_law := rfl
def gls : List (Str × GK) := [("DIGITS", .cst c_DIGITS), ("count_digits", .fn "count_digits" 2 2), ("LETTERS", .cst c_LETTERS), ("SIGNS", .cst c_SIGNS), ("TEXT_LONGEST", .cst c_TEXT_LONGEST), ("INTEGER_LIMIT", .cst c_INTEGER_LIMIT), ("position", .fn "position" 2 2), ("skip_space", .fn "skip_space" 2 2), ("count_word", .fn "count_word" 2 2), ("read_integer", .fn "read_integer" 2 2), ("read_token", .fn "read_token" 2 2), ("tokens", .fn "tokens" 1 1), ("_law_number", .fn "_law_number" 2 2), ("_law_is_whole", .fn "_law_is_whole" 1 1), ("_law_token", .fn "_law_token" 1 1), ("bool", .blt), ("int", .blt), ("isinstance", .blt), ("len", .blt), ("list", .blt), ("range", .blt), ("str", .blt), ("tuple", .blt)]
end K08

namespace K08
open PI TL TK
open PySem (sizeLine)
theorem hasT : TK.Has tab := ⟨rfl, rfl, rfl, rfl, rfl, rfl, rfl⟩
theorem hasN : LN.Has tab := ⟨rfl, rfl⟩
/-! ### one token of the law -/
/-- written, and what it reads as; behind it stands no letter and no figure -/
def Fine (k : List Nat) (c : D) (sh : List Nat) : Prop := (∀ rest, Stop aln rest → Good k c sh rest) ∧ sh.length ≤ 12 ∧ okD 64 c = true
theorem stop_dig {r : List Nat} (h : Stop aln r) : Stop dig r := fun c r' e => by
  have := h c r' e
  unfold aln at this
  simp only [Bool.or_eq_false_iff] at this
  exact this.2
theorem str_pos (m : Nat) (h : m ≤ 1000000) : bltD "str" [.int (m : Nat)] = some (.val (.str (numL m))) := by
  show (if ((m : Nat) : Int).natAbs.log2 < 1920 then some (Rv.val (D.str (tl (PySem.Str.ofString (toString ((m : Nat) : Int)))))) else none) = _
  have h2 : ((m : Nat) : Int).natAbs.log2 < 1920 := by
    have : m < 2 ^ 20 := by omega
    rw [Int.natAbs_natCast]
    exact Nat.lt_of_lt_of_le (PySem.Flt.log2_lt_of (by omega) this) (by omega)
  rw [if_pos h2, tl_num]
theorem str_neg (m : Nat) (h0 : 1 ≤ m) (h : m ≤ 1000000) : bltD "str" [.int (-((m : Nat) : Int))] = some (.val (.str (45 :: numL m))) := by
  show (if (-((m : Nat) : Int)).natAbs.log2 < 1920 then some (Rv.val (D.str (tl (PySem.Str.ofString (toString (-((m : Nat) : Int))))))) else none) = _
  have h2 : (-((m : Nat) : Int)).natAbs.log2 < 1920 := by
    have : m < 2 ^ 20 := by omega
    rw [Int.natAbs_neg, Int.natAbs_natCast]
    exact Nat.lt_of_lt_of_le (PySem.Flt.log2_lt_of (by omega) this) (by omega)
  have e1 : toString (-((m : Nat) : Int)) = "-" ++ toString ((m : Nat) : Int) := by
    rw [PyProof.Rows.toString_neg (by omega)]
    congr 2
    omega
  rw [if_pos h2, e1, tl_ofString, String.toList_append, List.map_append, ← tl_ofString, ← tl_ofString, tl_num]
  rfl
theorem idx_lt {l : List Nat} {j : Int} (hs : l.length ≤ sizeLine) (h0 : 0 ≤ j) (h1 : j < l.length) : ∃ a ∈ l, idxD (.str l) (.int j) = some (.str [a]) := by
  obtain ⟨k, rfl⟩ := Int.eq_ofNat_of_zero_le h0
  have hk : k < l.length := by omega
  exact ⟨l[k], List.getElem_mem hk, idx_str hs (List.getElem?_eq_getElem hk)⟩
theorem idxL_lt {l : List D} {j : Int} (h0 : 0 ≤ j) (h1 : j < l.length) : ∃ a ∈ l, L2.atI l j = some a := by
  obtain ⟨k, rfl⟩ := Int.eq_ofNat_of_zero_le h0
  have hk : k < l.length := by omega
  exact ⟨l[k], List.getElem_mem hk, atI_of (List.getElem?_eq_getElem hk)⟩
theorem ok_str {s : List Nat} (h : ∀ c ∈ s, c < 200) : okD 64 (.str s) = true := by
  show s.all (fun c => decide (c < 0x110000)) = true
  rw [List.all_eq_true]
  intro c hc
  have := h c hc
  exact decide_eq_true (by omega)
theorem ok_int {i : Int} : okD 64 (.int i) = true := rfl
theorem law_token {n : Nat} (d : Int) (o : Ob) : ∃ k c sh, callF tab (n + 1) "_law_token" [.int d] o = .ok (.val (.tup [.str k, c, .str sh])) o ∧ Fine k c sh := by
  have hz : (3 : Nat) ≤ sizeLine := by rw [PySem.sizeLine_eq]; omega
  have hz6 : (6 : Nat) ≤ sizeLine := by rw [PySem.sizeLine_eq]; omega
  rw [callF_run fn__law_token rfl]
  show ∃ k c sh, endOf (PI.execs (prm tab n) b__law_token (entry fd__law_token [.int d]) o) = _ ∧ _
  unfold b__law_token
  have hk := LN.fmod_lt (a := d) (b := 4) (by omega)
  have hm : binD .Mod (.int d) (.int 4) = some (.val (.int (d.fmod 4))) := mod_int (by omega)
  have hd4 : binD .FloorDiv (.int d) (.int 4) = some (.val (.int (d.fdiv 4))) := fdiv_int (by decide)
  have hd24 : binD .FloorDiv (.int d) (.int 24) = some (.val (.int (d.fdiv 24))) := fdiv_int (by decide)
  obtain ⟨q, hq⟩ : ∃ q, q = d.fmod 4 := ⟨_, rfl⟩
  rw [← hq] at hm hk
  have hc : q = 0 ∨ q = 1 ∨ q = 2 ∨ q = 3 := by omega
  rcases hc with rfl | rfl | rfl | rfl
  · -- a word
    have h6 := LN.fmod_lt (a := d.fdiv 4) (b := 6) (by omega)
    have h5 := LN.fmod_lt (a := d.fdiv 24) (b := 5) (by omega)
    have m6 : binD .Mod (.int (d.fdiv 4)) (.int 6) = some (.val (.int ((d.fdiv 4).fmod 6))) := mod_int (by omega)
    have m5 : binD .Mod (.int (d.fdiv 24)) (.int 5) = some (.val (.int ((d.fdiv 24).fmod 5))) := mod_int (by omega)
    obtain ⟨a, ha, hi⟩ := idx_lt (l := [97, 98, 99, 88, 89, 90]) (j := (d.fdiv 4).fmod 6) hz6 h6.1 h6.2
    have ha' : a ∈ l_LETTERS := by
      have : ∀ a ∈ [97, 98, 99, 88, 89, 90], a ∈ l_LETTERS := by decide
      exact this a ha
    obtain ⟨j, hj⟩ := Int.eq_ofNat_of_zero_le h5.1
    have hcut : slcD (.str [98, 55, 90, 48]) none (some ((d.fdiv 24).fmod 5)) = some (.val (.str ([98, 55, 90, 48].take j))) := by
      rw [hj, slc_str (by rw [PySem.sizeLine_eq]; decide)]
      exact congrArg (fun l => some (Rv.val (D.str l))) cut_to
    have hadd : binD .Add (.str [a]) (.str ([98, 55, 90, 48].take j)) = some (.val (.str (a :: [98, 55, 90, 48].take j))) := add_str (by
      have : ([98, 55, 90, 48].take j).length ≤ 4 := by rw [List.length_take]; simp <;> omega
      rw [PySem.sizeLine_eq]
      simp only [List.length_singleton]
      omega)
    refine ⟨kWord, .str (a :: [98, 55, 90, 48].take j), a :: [98, 55, 90, 48].take j, ?_, ?_, ?_, ?_⟩
    · simp [fd__law_token, hm, hd4, m6, hi, hd24, m5, hcut, hadd, hz, kWord]
    · refine fun rest hr => .word ha' (fun c hc => ?_) hr
      have : ∀ c ∈ [98, 55, 90, 48], aln c = true := by decide
      exact this c (List.mem_of_mem_take hc)
    · have : ([98, 55, 90, 48].take j).length ≤ 4 := by rw [List.length_take]; simp <;> omega
      simp only [List.length_cons]
      omega
    · refine ok_str fun c hc => ?_
      rcases List.mem_cons.mp hc with rfl | hc
      · have : ∀ a ∈ [97, 98, 99, 88, 89, 90], a < 200 := by decide
        exact this c ha
      · have : ∀ c ∈ [98, 55, 90, 48], c < 200 := by decide
        exact this c (List.mem_of_mem_take hc)
  · -- a number
    have hd8 : binD .FloorDiv (.int d) (.int 8) = some (.val (.int (d.fdiv 8))) := fdiv_int (by decide)
    have hd3 : binD .FloorDiv (.int d) (.int 3) = some (.val (.int (d.fdiv 3))) := fdiv_int (by decide)
    have hd16 : binD .FloorDiv (.int d) (.int 16) = some (.val (.int (d.fdiv 16))) := fdiv_int (by decide)
    have hM := LN.fmod_lt (a := d.fdiv 8) (b := 1000001) (by omega)
    have h11 := LN.fmod_lt (a := d.fdiv 16) (b := 11) (by omega)
    have mM : binD .Mod (.int (d.fdiv 8)) (.int 1000001) = some (.val (.int ((d.fdiv 8).fmod 1000001))) := mod_int (by omega)
    have m2 : binD .Mod (.int (d.fdiv 4)) (.int 2) = some (.val (.int ((d.fdiv 4).fmod 2))) := mod_int (by omega)
    have m3 : binD .Mod (.int (d.fdiv 3)) (.int 3) = some (.val (.int ((d.fdiv 3).fmod 3))) := mod_int (by omega)
    have m11 : binD .Mod (.int (d.fdiv 16)) (.int 11) = some (.val (.int ((d.fdiv 16).fmod 11))) := mod_int (by omega)
    obtain ⟨x, hx⟩ : ∃ x, x = (d.fdiv 8).fmod 1000001 := ⟨_, rfl⟩
    obtain ⟨y, hy⟩ : ∃ y, y = (d.fdiv 16).fmod 11 := ⟨_, rfl⟩
    rw [← hx] at mM hM
    rw [← hy] at m11 h11
    have key : ∃ z : Int, -1000000 ≤ z ∧ z ≤ 1000000 ∧ ∀ u, bltD "str" [.int z] = some (.val (.str u)) →
        endOf (PI.execs (prm tab n) b__law_token (entry fd__law_token [.int d]) o) = .ok (.val (.tup [.str kInt, .int z, .str u])) o := by
      unfold b__law_token
      by_cases c3 : (d.fdiv 3).fmod 3 = 0
      · refine ⟨y, by omega, by omega, fun u hu => ?_⟩
        by_cases c2 : (d.fdiv 4).fmod 2 = 1
        · by_cases c0 : 0 < x
          · simp [fd__law_token, hm, hd8, hd4, m2, hd3, m3, c3, hd16, m11, mM, c2, c0, hu, hz, kInt]
          · simp [fd__law_token, hm, hd8, hd4, m2, hd3, m3, c3, hd16, m11, mM, c2, c0, hu, hz, kInt]
        · simp [fd__law_token, hm, hd8, hd4, m2, hd3, m3, c3, hd16, m11, mM, c2, hu, hz, kInt]
      · by_cases c2 : (d.fdiv 4).fmod 2 = 1
        · by_cases c0 : 0 < x
          · refine ⟨-x, by omega, by omega, fun u hu => ?_⟩
            simp [fd__law_token, hm, hd8, hd4, m2, hd3, m3, c3, mM, c2, c0, hu, hz, kInt]
          · refine ⟨x, by omega, by omega, fun u hu => ?_⟩
            simp [fd__law_token, hm, hd8, hd4, m2, hd3, m3, c3, mM, c2, c0, hu, hz, kInt]
        · refine ⟨x, by omega, by omega, fun u hu => ?_⟩
          simp [fd__law_token, hm, hd8, hd4, m2, hd3, m3, c3, mM, c2, hu, hz, kInt]
    obtain ⟨z, z1, z2, hzz⟩ := key
    have hlen : ∀ m, m ≤ 1000000 → (numL m).length ≤ 7 := fun m hm => numL_len (by omega) (by omega)
    by_cases hn : 0 ≤ z
    · obtain ⟨m, rfl⟩ := Int.eq_ofNat_of_zero_le hn
      refine ⟨kInt, .int (m : Nat), numL m, hzz _ (str_pos m (by omega)), fun rest hr => .pos (by omega) (stop_dig hr), ?_, rfl⟩
      have := hlen m (by omega)
      omega
    · obtain ⟨m, hm'⟩ := Int.eq_ofNat_of_zero_le (show 0 ≤ -z by omega)
      have e : z = -((m : Nat) : Int) := by omega
      subst e
      refine ⟨kInt, .int (-((m : Nat) : Int)), 45 :: numL m, hzz _ (str_neg m (by omega) (by omega)), fun rest hr => .neg (by omega) (by omega) (stop_dig hr), ?_, rfl⟩
      have := hlen m (by omega)
      simp only [List.length_cons]
      omega
  · -- a quoted text
    have h5 := LN.fmod_lt (a := d.fdiv 4) (b := 5) (by omega)
    have m5 : binD .Mod (.int (d.fdiv 4)) (.int 5) = some (.val (.int ((d.fdiv 4).fmod 5))) := mod_int (by omega)
    obtain ⟨a, ha, hi⟩ := idxL_lt (l := [.str [], .str [119, 32, 43, 32, 49], .str [102, 97, 99, 101, 32, 49, 46, 97], .str [35, 32, 123, 59], .str [49, 50, 32, 92, 32, 124]]) (j := (d.fdiv 4).fmod 5) h5.1 h5.2
    obtain ⟨u, rfl, hu⟩ : ∃ u, a = .str u ∧ u ∈ [[], [119, 32, 43, 32, 49], [102, 97, 99, 101, 32, 49, 46, 97], [35, 32, 123, 59], [49, 50, 32, 92, 32, 124]] := by
      simp only [List.mem_cons, List.not_mem_nil, or_false] at ha
      rcases ha with rfl | rfl | rfl | rfl | rfl <;> exact ⟨_, rfl, by simp⟩
    have facts : ∀ u ∈ ([[], [119, 32, 43, 32, 49], [102, 97, 99, 101, 32, 49, 46, 97], [35, 32, 123, 59], [49, 50, 32, 92, 32, 124]] : List (List Nat)), 34 ∉ u ∧ 10 ∉ u ∧ u.length ≤ 8 ∧ ∀ c ∈ u, c < 200 := by decide
    obtain ⟨f1, f2, f3, f4⟩ := facts u hu
    have a1 : binD .Add (.str [34]) (.str u) = some (.val (.str (34 :: u))) := add_str (by rw [PySem.sizeLine_eq]; simp; omega)
    have a2 : binD .Add (.str (34 :: u)) (.str [34]) = some (.val (.str (34 :: (u ++ [34])))) := add_str (by rw [PySem.sizeLine_eq]; simp; omega)
    refine ⟨kQuote, .str u, 34 :: (u ++ [34]), ?_, fun rest _ => .quo f1 f2, by simp <;> omega, ok_str f4⟩
    have hz5 : (5 : Nat) ≤ sizeLine := by rw [PySem.sizeLine_eq]; omega
    simp [fd__law_token, hm, hd4, m5, hi, a1, a2, hz, hz5, kQuote]
  · -- a sign
    have h10 := LN.fmod_lt (a := d.fdiv 4) (b := 10) (by omega)
    have m10 : binD .Mod (.int (d.fdiv 4)) (.int 10) = some (.val (.int ((d.fdiv 4).fmod 10))) := mod_int (by omega)
    obtain ⟨a, ha, hi⟩ := idx_lt (l := [123, 125, 40, 41, 44, 59, 47, 38, 124, 33]) (j := (d.fdiv 4).fmod 10) (by rw [PySem.sizeLine_eq]; simp) h10.1 h10.2
    have ha' : a ∈ l_SIGNS := ha
    refine ⟨kSign, .str [a], [a], ?_, fun rest _ => .sig ha', by simp, ok_str fun c hc => ?_⟩
    · simp [fd__law_token, hm, hd4, m10, hi, hz, kSign]
    · have : ∀ a ∈ [123, 125, 40, 41, 44, 59, 47, 38, 124, 33], a < 200 := by decide
      rw [List.mem_singleton.mp hc]
      exact this a ha
end K08

namespace K08
open PI TL TK
open PySem (sizeLine)
/-! ### the column as the law counts it -/
theorem txts_map : ∀ ps : List (List Nat), txts (ps.map D.str) = some ps
  | [] => rfl
  | p :: ps => by
    show (txts (ps.map D.str)).map (p :: ·) = _
    rw [txts_map ps]
    rfl
theorem cut_last {α : Type} (l : List α) : cut l none (some (-1)) = l.dropLast := by
  unfold cut
  have e : HT.sIx l.length l.length (some (-1)) = l.length - 1 := by
    show (if (-1 : Int) < 0 then ((-1 : Int) + (l.length : Int)).toNat else min (-1 : Int).toNat l.length) = _
    rw [if_pos (by omega)]
    omega
  rw [HT.sIx_none, e, List.drop_zero, Nat.sub_zero, List.dropLast_eq_take]
theorem joinL_len (ps : List (List Nat)) : (ps.map List.length).sum + ps.length ≤ (joinL [10] ps).length + 1 := by
  induction ps with
  | nil => simp
  | cons p ps ih =>
    cases ps with
    | nil => simp [joinL]
    | cons q ps =>
      have e : joinL [10] (p :: q :: ps) = p ++ ([10] ++ joinL [10] (q :: ps)) := rfl
      rw [e]
      simp at ih ⊢
      omega
theorem lined (s : List Nat) (hs : s.length ≤ 2000) : ∃ (xs : List D) (z : List Nat), mthD "split" (.str s) [.str [10]] = some (.own (.lst xs)) ∧ mthD "join" (.str [10]) [.lst xs.dropLast] = some (.val (.str z)) ∧ z.length ≤ 2000 ∧
    (s.length : Int) - (z.length : Int) - (if 10 ∈ s then 1 else 0) = (s.length : Int) - (PySem.Txt.rfind (S s) (S [10]) + 1) := by
  have hsl : s.length + 2 ≤ sizeLine := by rw [PySem.sizeLine_eq]; omega
  have fin : ∀ (ps : List (List Nat)) (b : List Nat), (∀ p ∈ ps ++ [b], 10 ∉ p) → s = joinL [10] (ps ++ [b]) → (joinL [10] ps).length ≤ 2000 →
      mthD "split" (.str s) [.str [10]] = some (.own (.lst ((ps ++ [b]).map D.str))) ∧ mthD "join" (.str [10]) [.lst ((ps ++ [b]).map D.str).dropLast] = some (.val (.str (joinL [10] ps))) := by
    intro ps b hp e hl
    have h1 := split_parts (c := 10) (by omega) (ps := ps ++ [b]) (by simp) hp
    rw [← e] at h1
    constructor
    · show (if ([10] : List Nat).isEmpty = false ∧ s.length + 2 ≤ sizeLine then some (Rv.own (.lst ((PySem.Txt.split (S s) (S [10])).map fun z => D.str z.cps.toList))) else none) = _
      rw [if_pos ⟨rfl, hsl⟩, ← h1, List.map_map]
      rfl
    · have e2 : ((ps ++ [b]).map D.str).dropLast = ps.map D.str := by simp
      rw [e2]
      show (txts (ps.map D.str)).bind _ = _
      rw [txts_map]
      have hj := joinL_len ps
      show (if (ps.map List.length).sum + ps.length * ([10] : List Nat).length ≤ 16777216 then some (Rv.val (.str (PySem.Txt.join (S [10]) (ps.map S)).cps.toList)) else none) = _
      rw [if_pos (by simp only [List.length_singleton, Nat.mul_one]; omega)]
      exact congrArg (fun l => some (Rv.val (D.str l))) (tl_joinS [10] ps)
  by_cases h : 10 ∈ s
  · obtain ⟨a, b, e, hb⟩ := last_cut h
    obtain ⟨ps, h1, h2, h3⟩ := parts_of 10 a
    have e2 : s = joinL [10] (ps ++ [b]) := by rw [joinL_snoc _ _ h1, ← h3, e]; simp
    have hal : a.length ≤ 2000 := by rw [e] at hs; simp at hs; omega
    obtain ⟨f1, f2⟩ := fin ps b (fun p hp => by
      rcases List.mem_append.mp hp with q | q
      · exact h2 p q
      · rw [List.mem_singleton.mp q]; exact hb) e2 (by rw [← h3]; exact hal)
    refine ⟨_, _, f1, f2, by rw [← h3]; exact hal, ?_⟩
    rw [if_pos h, ← h3]
    have hr : PySem.Txt.rfind (S s) (S [10]) = ((a.length : Nat) : Int) := by rw [e]; exact rfind_app hb
    rw [hr]
    omega
  · obtain ⟨f1, f2⟩ := fin [] s (fun p hp => by
      rw [List.nil_append] at hp
      rw [List.mem_singleton.mp hp]
      exact h) rfl (by simp [joinL])
    refine ⟨_, _, f1, f2, by simp [joinL], ?_⟩
    rw [if_neg h, rfind_none h]
    simp [joinL]
/-! ### the pieces of the law's text -/
def FineP (p : Pc) : Prop := Fine p.k p.c p.sh ∧ Gap p.g ∧ p.g.length ≤ 17 ∧ ∃ c r, p.g = c :: r ∧ aln c = false
theorem glue_snoc : ∀ (ps : List Pc) (p : Pc), glue (ps ++ [p]) = glue ps ++ (p.sh ++ p.g)
  | [], p => by simp [glue]
  | q :: ps, p => by
    show q.sh ++ (q.g ++ glue (ps ++ [p])) = q.sh ++ (q.g ++ glue ps) ++ (p.sh ++ p.g)
    rw [glue_snoc ps p]
    simp
theorem due_snoc : ∀ (ps : List Pc) (p : Pc) (a : Nat), due (ps ++ [p]) a = due ps a ++ [tokD p.k p.c (a + (glue ps).length)]
  | [], p, a => by simp [due, glue]
  | q :: ps, p, a => by
    show tokD q.k q.c a :: due (ps ++ [p]) _ = tokD q.k q.c a :: due ps _ ++ _
    rw [due_snoc ps p]
    have e : (glue (q :: ps)).length = q.sh.length + (q.g.length + (glue ps).length) := by
      show (q.sh ++ (q.g ++ glue ps)).length = _
      simp
    rw [e, Nat.add_assoc a, Nat.add_assoc a, Nat.add_assoc q.sh.length]
    rfl
theorem glue_le : ∀ {ps : List Pc}, (∀ p ∈ ps, FineP p) → (glue ps).length ≤ 29 * ps.length
  | [], _ => by simp [glue]
  | q :: ps, h => by
    have ih := glue_le (ps := ps) fun p hp => h p (List.mem_cons_of_mem _ hp)
    obtain ⟨⟨_, h1, _⟩, _, h2, _⟩ := h q (List.mem_cons_self ..)
    have e : (glue (q :: ps)).length = q.sh.length + (q.g.length + (glue ps).length) := by
      show (q.sh ++ (q.g ++ glue ps)).length = _
      simp
    rw [e, List.length_cons]
    omega
theorem pieces_of : ∀ {ps : List Pc}, (∀ p ∈ ps, FineP p) → Pieces ps
  | [], _ => .nil
  | q :: ps, h => by
    obtain ⟨⟨h0, _, _⟩, h1, _, c, r, hg, hc⟩ := h q (List.mem_cons_self ..)
    refine .cons (h0 _ fun c' r' e => ?_) h1 (pieces_of fun p hp => h p (List.mem_cons_of_mem _ hp))
    rw [hg] at e
    cases e
    exact hc
/-- where the tokens stand -/
def places : List Pc → Nat → List Nat
  | [], _ => []
  | p :: ps, a => a :: places ps (a + p.sh.length + p.g.length)
theorem places_snoc : ∀ (ps : List Pc) (p : Pc) (a : Nat), places (ps ++ [p]) a = places ps a ++ [a + (glue ps).length]
  | [], p, a => by simp [places, glue]
  | q :: ps, p, a => by
    show a :: places (ps ++ [p]) _ = a :: places ps _ ++ _
    rw [places_snoc ps p]
    have e : (glue (q :: ps)).length = q.sh.length + (q.g.length + (glue ps).length) := by
      show (q.sh ++ (q.g ++ glue ps)).length = _
      simp
    rw [e, Nat.add_assoc a, Nat.add_assoc a, Nat.add_assoc q.sh.length]
    rfl
theorem places_le : ∀ (ps : List Pc) (a : Nat), ∀ x ∈ places ps a, x ≤ a + (glue ps).length
  | [], _, x, h => by cases h
  | q :: ps, a, x, h => by
    have e : (glue (q :: ps)).length = q.sh.length + (q.g.length + (glue ps).length) := by
      show (q.sh ++ (q.g ++ glue ps)).length = _
      simp
    rcases List.mem_cons.mp h with rfl | h
    · omega
    · have := places_le ps _ x h
      omega
theorem pos_app {s t : List Nat} {k : Nat} (h : k ≤ s.length) : posD (s ++ t) k = posD s k := by
  unfold posD
  rw [List.take_append_of_le_length h]
end K08

namespace K08
open PI TL TK
open PySem (sizeLine)
abbrev gapsD : List D := [.str [32], .str [10], .str [32, 32], .str [32, 35, 32, 97, 32, 99, 111, 109, 109, 101, 110, 116, 32, 34, 32, 123, 10], .str [35, 10], .str [10, 10, 32]]
theorem gap_fine : ∀ x ∈ gapsD, ∃ g, x = .str g ∧ Gap g ∧ g.length ≤ 17 ∧ ∃ c r, g = c :: r ∧ aln c = false := by
  intro x hx
  simp only [gapsD, List.mem_cons, List.not_mem_nil, or_false] at hx
  have g32 : ∀ {g}, Gap g → Gap (32 :: g) := fun h => .sp (.inl rfl) h
  have g10 : ∀ {g}, Gap g → Gap (10 :: g) := fun h => .sp (.inr rfl) h
  rcases hx with rfl | rfl | rfl | rfl | rfl | rfl
  · exact ⟨_, rfl, g32 .nil, by simp, _, _, rfl, by decide⟩
  · exact ⟨_, rfl, g10 .nil, by simp, _, _, rfl, by decide⟩
  · exact ⟨_, rfl, g32 (g32 .nil), by simp, _, _, rfl, by decide⟩
  · exact ⟨_, rfl, g32 (.com (b := [32, 97, 32, 99, 111, 109, 109, 101, 110, 116, 32, 34, 32, 123]) (g := []) (by decide) (g10 .nil)), by simp, _, _, rfl, by decide⟩
  · exact ⟨_, rfl, .com (b := []) (g := []) (by decide) (g10 .nil), by simp, _, _, rfl, by decide⟩
  · exact ⟨_, rfl, g10 (g10 (g32 .nil)), by simp, _, _, rfl, by decide⟩
abbrev st (ns : List Int) (k : Nat) (d : Int) (du li : List D) (s : List Nat) (r7 r8 r9 r10 r11 r12 : Option Rv) : Sl :=
  [some (.val (.lst (ns.map .int))), some (.val (.lst gapsD)), some (.val (.int (k : Nat))), some (.val (.int d)), some (.own (.lst du)), some (.val (.str s)), some (.own (.lst li)), r7, r8, r9, r10, r11, r12]
theorem fdivS {i j : Int} (h0 : 0 < j) (h1 : j < 1000000000000) : binD .FloorDiv (.int i) (.int j) = some (.val (.int (i.fdiv j))) := by
  refine fdiv_int ⟨by omega, ?_⟩
  have : j.natAbs < 2 ^ 40 := by omega
  exact Nat.lt_of_lt_of_le (PySem.Flt.log2_lt_of (by omega) this) (by omega)
variable {ns : List Int} (hl : ns.length ≤ 63) (hb : ∀ z ∈ ns, PySem.Builtin.Int.intBits z ≤ 1048576)
include hl hb
theorem turn2 {k j : Nat} {d : Int} {g0 s : List Nat} {ps : List Pc} {r8 r9 r10 r11 r12 : Option Rv} {o : Ob} (hk : k < 12) (hj : j < 31) (hg : g0.length ≤ 17) (hp : ∀ p ∈ ps, FineP p) (hn : ps.length < 31) (e : s = g0 ++ glue ps) :
    ∃ (p : Pc) (s' : List Nat) (r9' r10' r11' r12' : Option Rv), FineP p ∧ s' = g0 ++ glue (ps ++ [p]) ∧
      PI.execs (prm tab 11) b_law_2 (st ns k d (due ps g0.length) ((places ps g0.length).map (posD s)) s (some (.val (.int (j : Nat)))) r8 r9 r10 r11 r12) o =
        .nx (st ns k d (due (ps ++ [p]) g0.length) ((places (ps ++ [p]) g0.length).map (posD s')) s' (some (.val (.int (j : Nat)))) r8 r9' r10' r11' r12') o := by
  have hz3 : (3 : Nat) ≤ sizeLine := by rw [PySem.sizeLine_eq]; omega
  have hz2 : (2 : Nat) ≤ sizeLine := by rw [PySem.sizeLine_eq]; omega
  have hlen : s.length ≤ 917 := by
    have := glue_le hp
    rw [e, List.length_append]
    omega
  have hs : s.length ≤ sizeLine := by rw [PySem.sizeLine_eq]; omega
  have hN : callF tab 11 "_law_number" [.lst (ns.map .int), .int (12 + (k : Int) + (j : Int))] o = .ok (.val (.int (LN.numb ns (12 + k + j)))) o := by
    have := LN.law_number (n := 10) (k := 12 + k + j) (o := o) hasN (by omega) hb hl
    rw [show ((12 + k + j : Nat) : Int) = 12 + (k : Int) + (j : Int) by omega] at this
    exact this
  have m1 : mulOk 101 (j : Int) := LN.mulS (by omega) (by omega)
  have f1 : binD .FloorDiv (.int d) (.int (372 + 101 * (j : Int))) = some (.val (.int (d.fdiv (372 + 101 * (j : Int))))) := fdivS (by omega) (by omega)
  obtain ⟨P, hP⟩ : ∃ P, P = d.fdiv (372 + 101 * (j : Int)) + LN.numb ns (12 + k + j) := ⟨_, rfl⟩
  have f2 : binD .FloorDiv (.int P) (.int 7) = some (.val (.int (P.fdiv 7))) := fdivS (by omega) (by omega)
  obtain ⟨kd, c, sh, ht, fine⟩ := law_token (n := 10) (P.fdiv 7) o
  have ht' : callF tab 11 "_law_token" [.int (P.fdiv 7)] o = .ok (.val (.tup [.str kd, c, .str sh])) o := ht
  obtain ⟨xs, z, l1, l2, l3, l4⟩ := lined s (by omega)
  have l5 : cut xs none (some (-1)) = xs.dropLast := cut_last xs
  have hzl : z.length ≤ sizeLine := by rw [PySem.sizeLine_eq]; omega
  have m6 : binD .Mod (.int P) (.int 6) = some (.val (.int (P.fmod 6))) := mod_int (by omega)
  have h6 := LN.fmod_lt (a := P) (b := 6) (by omega)
  obtain ⟨x, hx, hi⟩ := idxL_lt (l := gapsD) (j := P.fmod 6) h6.1 h6.2
  obtain ⟨g, rfl, g1, g2, g3⟩ := gap_fine x hx
  have hsh := fine.2.1
  have a1 : binD .Add (.str s) (.str sh) = some (.val (.str (s ++ sh))) := add_str (by rw [PySem.sizeLine_eq]; omega)
  have a2 : binD .Add (.str (s ++ sh)) (.str g) = some (.val (.str (s ++ sh ++ g))) := add_str (by rw [PySem.sizeLine_eq]; simp; omega)
  have q1 : (due ps g0.length).length < sizeLine := by rw [due_len, PySem.sizeLine_eq]; omega
  have q2 : ((places ps g0.length).map (posD s)).length < sizeLine := by
    have : ∀ (ps : List Pc) (a : Nat), (places ps a).length = ps.length := by
      intro ps
      induction ps with
      | nil => intro a; rfl
      | cons p ps ih => intro a; rw [places, List.length_cons, ih, List.length_cons]
    rw [List.length_map, this, PySem.sizeLine_eq]
    omega
  refine ⟨⟨kd, c, sh, g⟩, s ++ sh ++ g, some (.val (.int P)), some (.val (.str kd)), some (.val c), some (.val (.str sh)), ⟨fine, g1, g2, g3⟩, by rw [glue_snoc, e]; simp, ?_⟩
  have e1 : due (ps ++ [⟨kd, c, sh, g⟩]) g0.length = due ps g0.length ++ [.tup [.str kd, c, .int (s.length : Nat)]] := by
    rw [due_snoc, e, List.length_append]
    rfl
  have e2 : (places (ps ++ [⟨kd, c, sh, g⟩]) g0.length).map (posD (s ++ sh ++ g)) = (places ps g0.length).map (posD s) ++ [posD s s.length] := by
    rw [places_snoc, List.map_append]
    congr 1
    · refine List.map_congr_left fun y hy => ?_
      have := places_le ps _ y hy
      rw [List.append_assoc]
      exact pos_app (by rw [e, List.length_append]; exact this)
    · rw [List.map_singleton]
      congr 1
      rw [show g0.length + (glue ps).length = s.length by rw [e, List.length_append], List.append_assoc]
      exact pos_app (Nat.le_refl _)
  have e3 : posD s s.length = .tup [.int (PySem.Txt.count (S s) (S [10]) + 1), .int ((s.length : Int) - (z.length : Int) - (if 10 ∈ s then 1 else 0) + 1)] := by
    unfold posD
    rw [List.take_length, l4]
  rw [e1, e2, e3]
  unfold b_law_2
  by_cases hm : 10 ∈ s
  · simp [st, hN, mul_int m1, f1, ← hP, f2, ht', len_str hs, hz3, hz2, app_lst q1, app_lst q2, l1, l2, l5, len_str hzl, hm, a1, a2, m6, hi]
  · simp [st, hN, mul_int m1, f1, ← hP, f2, ht', len_str hs, hz3, hz2, app_lst q1, app_lst q2, l1, l2, l5, len_str hzl, hm, a1, a2, m6, hi]
end K08

namespace K08
open PI TL TK
open PySem (sizeLine)
theorem rng_eq (m : Nat) : ((List.range m).map fun k => D.int ((0 : Int) + (k : Nat))) = (List.range m).map fun (k : Nat) => D.int (k : Int) := by
  refine List.map_congr_left fun x _ => ?_
  rw [Int.zero_add]
theorem rng_one {i : Int} (h0 : 0 ≤ i) (h1 : i < 1000000) : rngD [.int i] = some ((List.range i.toNat).map fun (k : Nat) => D.int (k : Int)) := by
  show (if -(2 ^ 62) ≤ i ∧ i < 2 ^ 62 then some _ else none) = _
  rw [if_pos ⟨by omega, by omega⟩, rng_eq]
theorem at0 {x y z : D} : L2.atI [x, y, z] 0 = some x := atI_of (k := 0) rfl
theorem at1 {x y z : D} : L2.atI [x, y, z] 1 = some y := atI_of (k := 1) rfl
theorem at2 {x y z : D} : L2.atI [x, y, z] 2 = some z := atI_of (k := 2) rfl
theorem piece_at : ∀ (ps : List Pc) (a i : Nat), i < ps.length → ∃ p ∈ ps, ∃ q, (due ps a)[i]? = some (tokD p.k p.c q) ∧ (places ps a)[i]? = some q
  | [], _, i, h => by simp at h
  | p :: ps, a, 0, _ => ⟨p, List.mem_cons_self .., a, rfl, rfl⟩
  | p :: ps, a, i + 1, h => by
    obtain ⟨p', hp, q, h1, h2⟩ := piece_at ps (a + p.sh.length + p.g.length) i (by simpa using h)
    exact ⟨p', List.mem_cons_of_mem _ hp, q, h1, h2⟩
theorem int_kind {c : D} {sh : List Nat} (h : Fine kInt c sh) : ∃ i, c = .int i := by
  have g := h.1 [] (fun c r e => by cases e)
  cases g with
  | pos _ _ => exact ⟨_, rfl⟩
  | neg _ _ _ => exact ⟨_, rfl⟩
theorem kind_ok {k : List Nat} {c : D} {sh : List Nat} (h : Fine k c sh) : okD 64 (.str k) = true := by
  have g := h.1 [] (fun c r e => by cases e)
  cases g <;> decide
mutual
theorem eqD_self : ∀ {n : Nat} {d : D}, okD n d = true → eqD d d = true
  | _, .non, _ => rfl
  | _, .bl b, _ => by simp [eqD]
  | _, .int i, _ => by simp [eqD]
  | _, .str s, _ => by simp [eqD]
  | n + 1, .tup xs, h => by
    simp only [okD] at h
    simp only [eqD]
    exact eqDs_self h
  | n + 1, .lst xs, h => by
    simp only [okD] at h
    simp only [eqD]
    exact eqDs_self h
  | 0, .tup xs, h => by simp [okD] at h
  | 0, .lst xs, h => by simp [okD] at h
  | _, .dct _, h => by simp [okD] at h
  | _, .obj _, h => by simp [okD] at h
  | _, .exc _ _, h => by simp [okD] at h
  | _, .typ _, h => by simp [okD] at h
  | _, .cls _, h => by simp [okD] at h
theorem eqDs_self : ∀ {n : Nat} {ds : List D}, okDs n ds = true → eqDs ds ds = true
  | _, [], _ => rfl
  | n, d :: ds, h => by
    simp only [okDs, Bool.and_eq_true] at h
    simp only [eqDs, Bool.and_eq_true]
    exact ⟨eqD_self h.1, eqDs_self h.2⟩
end
theorem ne_self {d : D} (h : okD 64 d = true) : cmpD .NotEq d d = some false := by rw [ne_any h h, eqD_self h]; rfl
theorem eq_self' {d : D} (h : okD 64 d = true) : cmpD .Eq d d = some true := by rw [eq_any h h, eqD_self h]
theorem posD_ok (s : List Nat) (q : Nat) : okD 64 (posD s q) = true := rfl
theorem okD_mono : ∀ (n : Nat) {d : D}, okD n d = true → flatD d = true → okD (n + 1) d = true
  | n, .non, _, _ => rfl
  | n, .bl _, _, _ => rfl
  | n, .int _, _, _ => rfl
  | n, .str _, h, _ => h
theorem due_ok {ps : List Pc} (hp : ∀ p ∈ ps, FineP p) (a : Nat) : okD 64 (.lst (due ps a)) = true := by
  show okDs 63 (due ps a) = true
  induction ps generalizing a with
  | nil => rfl
  | cons p ps ih =>
    show (okD 63 (tokD p.k p.c a) && okDs 63 (due ps _)) = true
    have f := (hp p (List.mem_cons_self ..)).1
    rw [ih (fun q hq => hp q (List.mem_cons_of_mem _ hq)), Bool.and_true]
    obtain ⟨pk, pc, psh, pg⟩ := p
    have g := f.1 [] (fun c r e => by cases e)
    have hc : okD 62 pc = true := by
      have h := f.2.2
      cases g <;> exact h
    have hk : okD 62 (.str pk) = true := kind_ok f
    show (okD 62 (.str pk) && (okD 62 pc && (true && true))) = true
    rw [hk, hc]
    rfl
variable {ns : List Int} (hl : ns.length ≤ 63) (hb : ∀ z ∈ ns, PySem.Builtin.Int.intBits z ≤ 1048576)
include hl hb
theorem loop2 {k : Nat} {d : Int} {g0 : List Nat} {r8 : Option Rv} {o : Ob} (hk : k < 12) (hg : g0.length ≤ 17) : ∀ (js : List Nat), (∀ j ∈ js, j < 31) → ∀ (ps : List Pc) (s : List Nat) (r7 r9 r10 r11 r12 : Option Rv), (∀ p ∈ ps, FineP p) → ps.length + js.length ≤ 31 → s = g0 ++ glue ps →
    ∃ (ps' : List Pc) (s' : List Nat) (r7' r9' r10' r11' r12' : Option Rv), (∀ p ∈ ps', FineP p) ∧ ps'.length ≤ 31 ∧ s' = g0 ++ glue ps' ∧
      forX (prm tab 11) (.one 7) b_law_2 (js.map fun (j : Nat) => D.int (j : Int)) (st ns k d (due ps g0.length) ((places ps g0.length).map (posD s)) s r7 r8 r9 r10 r11 r12) o =
        .nx (st ns k d (due ps' g0.length) ((places ps' g0.length).map (posD s')) s' r7' r8 r9' r10' r11' r12') o
  | [], _, ps, s, r7, r9, r10, r11, r12, hp, hn, e => ⟨ps, s, r7, r9, r10, r11, r12, hp, by simpa using hn, e, rfl⟩
  | j :: js, hj, ps, s, r7, r9, r10, r11, r12, hp, hn, e => by
    have hn' : ps.length + js.length + 1 ≤ 31 := by simpa [Nat.add_assoc] using hn
    obtain ⟨p, s', r9', r10', r11', r12', hp', e', h⟩ := turn2 (r8 := r8) (r9 := r9) (r10 := r10) (r11 := r11) (r12 := r12) (o := o) (d := d) hl hb hk (hj j (List.mem_cons_self ..)) hg hp (by omega) e
    obtain ⟨ps2, s2, q7, q9, q10, q11, q12, f1, f2, f3, f4⟩ := loop2 hk hg js (fun x hx => hj x (List.mem_cons_of_mem _ hx)) (ps ++ [p]) s' (some (.val (.int (j : Nat)))) r9' r10' r11' r12' (fun q hq => by
      rcases List.mem_append.mp hq with z | z
      · exact hp q z
      · rw [List.mem_singleton.mp z]; exact hp') (by simp <;> omega) e'
    refine ⟨ps2, s2, q7, q9, q10, q11, q12, f1, f2, f3, ?_⟩
    rw [← f4, List.map_cons, forX_cons]
    show (match PI.execs (prm tab 11) b_law_2 (st ns k d (due ps g0.length) ((places ps g0.length).map (posD s)) s (some (.val (.int (j : Nat)))) r8 r9 r10 r11 r12) o with
      | .nx σ o => _ | .ct σ o => _ | .bk σ o => _ | r => r) = _
    rw [h]
theorem turn3 {k i : Nat} {d : Int} {a : Nat} {s : List Nat} {ps : List Pc} {r9 r10 r11 r12 : Option Rv} {o : Ob} (hs : s.length ≤ 2000) (hp : ∀ p ∈ ps, FineP p) (hi : i < ps.length) :
    PI.execs (prm tab 11) b_law_3 (st ns k d (due ps a) ((places ps a).map (posD s)) s (some (.val (.int (i : Nat)))) (some (.val (.lst (due ps a)))) r9 r10 r11 r12) o =
      .nx (st ns k d (due ps a) ((places ps a).map (posD s)) s (some (.val (.int (i : Nat)))) (some (.val (.lst (due ps a)))) r9 r10 r11 r12) o := by
  have hs' : s.length ≤ sizeLine := by rw [PySem.sizeLine_eq]; omega
  obtain ⟨p, hpm, q, h1, h2⟩ := piece_at ps a i hi
  have i1 : L2.atI (due ps a) (i : Int) = some (tokD p.k p.c q) := atI_of h1
  have i2 : L2.atI ((places ps a).map (posD s)) (i : Int) = some (posD s q) := atI_of (by rw [List.getElem?_map, h2]; rfl)
  have hpos : callF tab 11 "position" [.str s, .int (q : Nat)] o = .ok (.val (posD s q)) o := TK.position (n := 10) hasT hs'
  have f := (hp p hpm).1
  unfold b_law_3
  by_cases hk : p.k = kInt
  · rw [hk] at f
    obtain ⟨z, hz⟩ := int_kind f
    have hw : callF tab 11 "_law_is_whole" [.int z] o = .ok (.val (.bl true)) o := LN.law_is_whole (n := 10) hasN
    simp [st, i1, i2, tokD, isiD, at0, at1, at2, hpos, ne_self (posD_ok s q), hk, hz, hw]
  · simp [st, i1, i2, tokD, isiD, at0, at1, at2, hpos, ne_self (posD_ok s q), hk]
theorem loop3 {k : Nat} {d : Int} {a : Nat} {s : List Nat} {ps : List Pc} {r9 r10 r11 r12 : Option Rv} {o : Ob} (hs : s.length ≤ 2000) (hp : ∀ p ∈ ps, FineP p) : ∀ (js : List Nat), (∀ j ∈ js, j < ps.length) → ∀ r7 : Option Rv, ∃ r7',
    forX (prm tab 11) (.one 7) b_law_3 (js.map fun (j : Nat) => D.int (j : Int)) (st ns k d (due ps a) ((places ps a).map (posD s)) s r7 (some (.val (.lst (due ps a)))) r9 r10 r11 r12) o =
      .nx (st ns k d (due ps a) ((places ps a).map (posD s)) s r7' (some (.val (.lst (due ps a)))) r9 r10 r11 r12) o
  | [], _, r7 => ⟨r7, rfl⟩
  | j :: js, hj, r7 => by
    obtain ⟨r7', h⟩ := loop3 hs hp js (fun x hx => hj x (List.mem_cons_of_mem _ hx)) (some (.val (.int (j : Nat))))
    refine ⟨r7', ?_⟩
    rw [← h, List.map_cons, forX_cons]
    show (match PI.execs (prm tab 11) b_law_3 (st ns k d (due ps a) ((places ps a).map (posD s)) s (some (.val (.int (j : Nat)))) (some (.val (.lst (due ps a)))) r9 r10 r11 r12) o with
      | .nx σ o => _ | .ct σ o => _ | .bk σ o => _ | r => r) = _
    rw [turn3 hl hb hs hp (hj j (List.mem_cons_self ..))]
end K08

namespace K08
open PI TL TK
open PySem (sizeLine)
/-- the slots of the law at a turn's start -/
abbrev so (ns : List Int) (r2 r3 r4 r5 r6 r7 r8 r9 r10 r11 r12 : Option Rv) : Sl := [some (.val (.lst (ns.map .int))), some (.val (.lst gapsD)), r2, r3, r4, r5, r6, r7, r8, r9, r10, r11, r12]
variable {ns : List Int} (hl : ns.length ≤ 63) (hb : ∀ z ∈ ns, PySem.Builtin.Int.intBits z ≤ 1048576)
include hl hb
theorem turn1 {k : Nat} (hk : k < 12) (r3 r4 r5 r6 r7 r8 r9 r10 r11 r12 : Option Rv) (o : Ob) : ∃ r2' r3' r4' r5' r6' r7' r8' r9' r10' r11' r12',
    PI.execs (prm tab 11) b_law_1 (so ns (some (.val (.int (k : Nat)))) r3 r4 r5 r6 r7 r8 r9 r10 r11 r12) o = .nx (so ns r2' r3' r4' r5' r6' r7' r8' r9' r10' r11' r12') o := by
  have hz0 : (0 : Nat) ≤ sizeLine := Nat.zero_le _
  have hN : callF tab 11 "_law_number" [.lst (ns.map .int), .int (k : Int)] o = .ok (.val (.int (LN.numb ns k))) o := LN.law_number (n := 10) (k := k) (o := o) hasN (by omega) hb hl
  obtain ⟨d, hd⟩ : ∃ d, d = LN.numb ns k := ⟨_, rfl⟩
  rw [← hd] at hN
  have m2 : binD .Mod (.int d) (.int 2) = some (.val (.int (d.fmod 2))) := mod_int (by omega)
  have f2 : binD .FloorDiv (.int d) (.int 2) = some (.val (.int (d.fdiv 2))) := fdivS (by omega) (by omega)
  have m6 : binD .Mod (.int (d.fdiv 2)) (.int 6) = some (.val (.int ((d.fdiv 2).fmod 6))) := mod_int (by omega)
  have h6 := LN.fmod_lt (a := d.fdiv 2) (b := 6) (by omega)
  have f12 : binD .FloorDiv (.int d) (.int 12) = some (.val (.int (d.fdiv 12))) := fdivS (by omega) (by omega)
  have m31 : binD .Mod (.int (d.fdiv 12)) (.int 31) = some (.val (.int ((d.fdiv 12).fmod 31))) := mod_int (by omega)
  have h31 := LN.fmod_lt (a := d.fdiv 12) (b := 31) (by omega)
  obtain ⟨x, hx, hi⟩ := idxL_lt (l := gapsD) (j := (d.fdiv 2).fmod 6) h6.1 h6.2
  obtain ⟨g, rfl, g1, g2, _⟩ := gap_fine x hx
  -- the first blanks
  have start : ∃ g0 : List Nat, Gap g0 ∧ g0.length ≤ 17 ∧ ∀ σ : Sl, slot σ 3 = some (.val (.int d)) → slot σ 1 = some (.val (.lst gapsD)) →
      ev (prm tab 11) σ (.ife (.cmp .Eq (.bin .Mod (.blt "int" [.var 3]) (.cst (.int 2))) (.cst (.int 0))) (.cst (.str [])) (.idx (.var 1) (.bin .Mod (.blt "int" [.bin .FloorDiv (.var 3) (.cst (.int 2))]) (.cst (.int 6))))) o = .ok (.val (.str g0)) o := by
    by_cases h : d.fmod 2 = 0
    · exact ⟨[], .nil, by simp, fun σ h3 h1 => by simp [h3, m2, h]⟩
    · exact ⟨g, g1, g2, fun σ h3 h1 => by simp [h3, h1, m2, h, f2, m6, hi]⟩
  obtain ⟨g0, hg0, hgl, hst⟩ := start
  obtain ⟨M, hM⟩ := Int.eq_ofNat_of_zero_le h31.1
  have hrng := rng_one h31.1 (by omega)
  rw [hM] at hrng
  obtain ⟨ps, s, r7', r9', r10', r11', r12', p1, p2, p3, p4⟩ := loop2 (d := d) (r8 := r8) (o := o) hl hb hk hgl (List.range M) (fun j hj => by have := List.mem_range.mp hj; omega) [] g0 r7 r9 r10 r11 r12 (fun p hp => by cases hp) (by simp <;> omega) (by simp [glue])
  have hlen : s.length ≤ 916 := by
    have := glue_le p1
    rw [p3, List.length_append]
    omega
  have hs' : s.length ≤ sizeLine := by rw [PySem.sizeLine_eq]; omega
  have hbig : ¬ (2000 : Int) < (s.length : Int) := by omega
  have htok : callF tab 11 "tokens" [.str s] o = .ok (.own (.lst (due ps g0.length))) o := TK.tokens (n := 7) hasT (pieces_of p1) hg0 p3 (by omega)
  have hdue := due_ok p1 g0.length
  have hdl : (due ps g0.length).length = ps.length := due_len ps _
  have hrng2 : rngD [.int ((due ps g0.length).length : Nat)] = some ((List.range ps.length).map fun (k : Nat) => D.int (k : Int)) := by
    have := rng_one (i := ((due ps g0.length).length : Nat)) (by omega) (by omega)
    rw [this, Int.toNat_natCast, hdl]
  obtain ⟨q7, q⟩ := loop3 (k := k) (d := d) (a := g0.length) (s := s) (ps := ps) (r9 := r9') (r10 := r10') (r11 := r11') (r12 := r12') (o := o) hl hb (by omega) p1 (List.range ps.length) (fun j hj => List.mem_range.mp hj) r7'
  refine ⟨some (.val (.int (k : Nat))), some (.val (.int d)), some (.own (.lst (due ps g0.length))), some (.val (.str s)), some (.own (.lst ((places ps g0.length).map (posD s)))), q7, some (.val (.lst (due ps g0.length))), r9', r10', r11', r12', ?_⟩
  have hne := ne_self hdue
  unfold b_law_1
  simp only [st, due, places, List.map_nil] at p4
  simp only [st] at q
  rw [Int.toNat_natCast] at hrng
  have e1 : rngD [.int ((d.fdiv 12).fmod 31)] = some ((List.range M).map fun (k : Nat) => D.int (k : Int)) := by rw [hM]; exact hrng
  simp [so, hN, hst, hz0, f12, m31, e1, p4, len_str hs', hbig, htok, isiD, hne, hrng2, q]
theorem outer (o : Ob) : ∀ (js : List Nat), (∀ j ∈ js, j < 12) → ∀ r2 r3 r4 r5 r6 r7 r8 r9 r10 r11 r12, ∃ r2' r3' r4' r5' r6' r7' r8' r9' r10' r11' r12',
    forX (prm tab 11) (.one 2) b_law_1 (js.map fun (j : Nat) => D.int (j : Int)) (so ns r2 r3 r4 r5 r6 r7 r8 r9 r10 r11 r12) o = .nx (so ns r2' r3' r4' r5' r6' r7' r8' r9' r10' r11' r12') o
  | [], _, r2, r3, r4, r5, r6, r7, r8, r9, r10, r11, r12 => ⟨r2, r3, r4, r5, r6, r7, r8, r9, r10, r11, r12, rfl⟩
  | j :: js, hj, r2, r3, r4, r5, r6, r7, r8, r9, r10, r11, r12 => by
    obtain ⟨s2, s3, s4, s5, s6, s7, s8, s9, s10, s11, s12, h⟩ := turn1 hl hb (hj j (List.mem_cons_self ..)) r3 r4 r5 r6 r7 r8 r9 r10 r11 r12 o
    obtain ⟨t2, t3, t4, t5, t6, t7, t8, t9, t10, t11, t12, h'⟩ := outer o js (fun x hx => hj x (List.mem_cons_of_mem _ hx)) s2 s3 s4 s5 s6 s7 s8 s9 s10 s11 s12
    refine ⟨t2, t3, t4, t5, t6, t7, t8, t9, t10, t11, t12, ?_⟩
    rw [← h', List.map_cons, forX_cons]
    show (match PI.execs (prm tab 11) b_law_1 (so ns (some (.val (.int (j : Nat)))) r3 r4 r5 r6 r7 r8 r9 r10 r11 r12) o with
      | .nx σ o => _ | .ct σ o => _ | .bk σ o => _ | r => r) = _
    rw [h]
theorem law_true : ∃ o, callF tab 12 "law" [.lst (ns.map .int)] [] = .ok (.val (.bl true)) o := by
  refine ⟨[], ?_⟩
  have hz6 : (6 : Nat) ≤ sizeLine := by rw [PySem.sizeLine_eq]; omega
  have hz2 : (2 : Nat) ≤ sizeLine := by rw [PySem.sizeLine_eq]; omega
  have hz0 : (0 : Nat) ≤ sizeLine := Nat.zero_le _
  rw [callF_run fn_law rfl]
  show endOf (PI.execs (prm tab 11) b_law (entry fd_law [.lst (ns.map .int)]) []) = _
  unfold b_law
  have e1 : rngD [.int 12] = some ((List.range 12).map fun (k : Nat) => D.int (k : Int)) := rng_one (i := 12) (by omega) (by omega)
  obtain ⟨s2, s3, s4, s5, s6, s7, s8, s9, s10, s11, s12, h⟩ := outer hl hb [] (List.range 12) (fun j hj => List.mem_range.mp hj) none none none none none none none none none none none
  have ht : callF tab 11 "tokens" [.str []] [] = .ok (.own (.lst [])) [] := TK.tokens (n := 7) (g0 := []) (ps := []) hasT .nil .nil rfl (by simp)
  have hp : callF tab 11 "position" [.str [], .int 0] [] = .ok (.val (posD [] 0)) [] := TK.position (n := 10) (k := 0) hasT (by simp)
  have hq : posD [] 0 = .tup [.int 1, .int 1] := by
    unfold posD
    have h1 : PySem.Txt.count (S (([] : List Nat).take 0)) (S [10]) = 0 := count_one [] 10
    have h2 : PySem.Txt.rfind (S (([] : List Nat).take 0)) (S [10]) = -1 := rfind_none (by simp)
    rw [h1, h2]
    rfl
  rw [hq] at hp
  have c1 : cmpD .Eq (.lst []) (.lst []) = some true := rfl
  have c2 : cmpD .Eq (.tup [.int 1, .int 1]) (.tup [.int 1, .int 1]) = some true := rfl
  simp only [so] at h
  simp [fd_law, hz6, hz2, hz0, e1, h, ht, hp, c1, c2]
end K08

namespace K08
open PySem PySem.Spec PyProof.Rows L2 PI
/-! ### the text by places -/
def top (i : Nat) : Stmt := PySem.Challenge.pw_truepart_k08_tokens_of_texts.main.body.getD i (.Pass ⟨0, 0, 0, 0⟩)
abbrev s_count_digits : Stmt := top 5
abbrev ps_count_digits : List Str := ["text", "start"]
abbrev N_count_digits : List Str := ["text", "start", "at"]
theorem sc_count_digits : FnScope N_count_digits ps_count_digits (defScope s_count_digits) := ⟨rfl, rfl, rfl, by decide +kernel, rfl, by decide +kernel, by decide +kernel⟩
theorem ck_count_digits : chkSs 1000 ⟨N_count_digits, (defScope s_count_digits).names, gls⟩ (defBody s_count_digits) fd_count_digits.body = true := by decide +kernel
abbrev s_position : Stmt := top 11
abbrev ps_position : List Str := ["text", "place"]
abbrev N_position : List Str := ["text", "place", "before"]
theorem sc_position : FnScope N_position ps_position (defScope s_position) := ⟨rfl, rfl, rfl, by decide +kernel, rfl, by decide +kernel, by decide +kernel⟩
theorem ck_position : chkSs 1000 ⟨N_position, (defScope s_position).names, gls⟩ (defBody s_position) fd_position.body = true := by decide +kernel
abbrev s_skip_space : Stmt := top 12
abbrev ps_skip_space : List Str := ["text", "start"]
abbrev N_skip_space : List Str := ["text", "start", "at", "end"]
theorem sc_skip_space : FnScope N_skip_space ps_skip_space (defScope s_skip_space) := ⟨rfl, rfl, rfl, by decide +kernel, rfl, by decide +kernel, by decide +kernel⟩
theorem ck_skip_space : chkSs 1000 ⟨N_skip_space, (defScope s_skip_space).names, gls⟩ (defBody s_skip_space) fd_skip_space.body = true := by decide +kernel
abbrev s_count_word : Stmt := top 13
abbrev ps_count_word : List Str := ["text", "start"]
abbrev N_count_word : List Str := ["text", "start", "at"]
theorem sc_count_word : FnScope N_count_word ps_count_word (defScope s_count_word) := ⟨rfl, rfl, rfl, by decide +kernel, rfl, by decide +kernel, by decide +kernel⟩
theorem ck_count_word : chkSs 1000 ⟨N_count_word, (defScope s_count_word).names, gls⟩ (defBody s_count_word) fd_count_word.body = true := by decide +kernel
abbrev s_read_integer : Stmt := top 14
abbrev ps_read_integer : List Str := ["text", "start"]
abbrev N_read_integer : List Str := ["text", "start", "first", "many", "line", "column", "digits"]
theorem sc_read_integer : FnScope N_read_integer ps_read_integer (defScope s_read_integer) := ⟨rfl, rfl, rfl, by decide +kernel, rfl, by decide +kernel, by decide +kernel⟩
theorem ck_read_integer : chkSs 1000 ⟨N_read_integer, (defScope s_read_integer).names, gls⟩ (defBody s_read_integer) fd_read_integer.body = true := by decide +kernel
abbrev s_read_token : Stmt := top 15
abbrev ps_read_token : List Str := ["text", "start"]
abbrev N_read_token : List Str := ["text", "start", "sign", "behind", "number", "end", "feed", "line", "column"]
theorem sc_read_token : FnScope N_read_token ps_read_token (defScope s_read_token) := ⟨rfl, rfl, rfl, by decide +kernel, rfl, by decide +kernel, by decide +kernel⟩
theorem ck_read_token : chkSs 1000 ⟨N_read_token, (defScope s_read_token).names, gls⟩ (defBody s_read_token) fd_read_token.body = true := by decide +kernel
abbrev s_tokens : Stmt := top 16
abbrev ps_tokens : List Str := ["text"]
abbrev N_tokens : List Str := ["text", "row", "at", "one", "behind"]
theorem sc_tokens : FnScope N_tokens ps_tokens (defScope s_tokens) := ⟨rfl, rfl, rfl, by decide +kernel, rfl, by decide +kernel, by decide +kernel⟩
theorem ck_tokens : chkSs 1000 ⟨N_tokens, (defScope s_tokens).names, gls⟩ (defBody s_tokens) fd_tokens.body = true := by decide +kernel
abbrev s__law_number : Stmt := top 18
abbrev ps__law_number : List Str := ["_law_script", "_law_k"]
abbrev N__law_number : List Str := ["_law_script", "_law_k", "_law_cell", "_law_first", "_law_second"]
theorem sc__law_number : FnScope N__law_number ps__law_number (defScope s__law_number) := ⟨rfl, rfl, rfl, by decide +kernel, rfl, by decide +kernel, by decide +kernel⟩
theorem ck__law_number : chkSs 1000 ⟨N__law_number, (defScope s__law_number).names, gls⟩ (defBody s__law_number) fd__law_number.body = true := by decide +kernel
abbrev s__law_is_whole : Stmt := top 19
abbrev ps__law_is_whole : List Str := ["_law_actual"]
abbrev N__law_is_whole : List Str := ["_law_actual"]
theorem sc__law_is_whole : FnScope N__law_is_whole ps__law_is_whole (defScope s__law_is_whole) := ⟨rfl, rfl, rfl, by decide +kernel, rfl, by decide +kernel, by decide +kernel⟩
theorem ck__law_is_whole : chkSs 1000 ⟨N__law_is_whole, (defScope s__law_is_whole).names, gls⟩ (defBody s__law_is_whole) fd__law_is_whole.body = true := by decide +kernel
abbrev s__law_token : Stmt := top 20
abbrev ps__law_token : List Str := ["_law_draw"]
abbrev N__law_token : List Str := ["_law_draw", "_law_kind", "_law_word", "_law_number_here", "_law_text", "_law_sign"]
theorem sc__law_token : FnScope N__law_token ps__law_token (defScope s__law_token) := ⟨rfl, rfl, rfl, by decide +kernel, rfl, by decide +kernel, by decide +kernel⟩
theorem ck__law_token : chkSs 1000 ⟨N__law_token, (defScope s__law_token).names, gls⟩ (defBody s__law_token) fd__law_token.body = true := by decide +kernel
abbrev s_law : Stmt := top 21
abbrev ps_law : List Str := ["_law_script"]
abbrev N_law : List Str := ["_law_script", "_law_gaps", "_law_k", "_law_draw", "_law_due", "_law_text", "_law_lines", "_law_j", "_law_actual", "_law_part", "_law_kind", "_law_content", "_law_shown"]
theorem sc_law : FnScope N_law ps_law (defScope s_law) := ⟨rfl, rfl, rfl, by decide +kernel, rfl, by decide +kernel, by decide +kernel⟩
theorem ck_law : chkSs 1000 ⟨N_law, (defScope s_law).names, gls⟩ (defBody s_law) fd_law.body = true := by decide +kernel
/-! ### what the top has written -/
theorem all_mk {l : PySem.W.OpenLaw} {w : World} {K : PySem.W.Frag} {h : Heap} {mg : Str → Option Value} {fa : Addr} (X : K.In h) (G : h.Ns mainGlobals mg) (hfa : mg "law" = some (.ref fa))
    {f1 : Addr} {od1 an1 : Option Addr} {sl1 : Array (Option Value)} {oc1 kV1 dc1 pm1 cd1 ct1 : Value}
    {f2 : Addr} {od2 an2 : Option Addr} {sl2 : Array (Option Value)} {oc2 kV2 dc2 pm2 cd2 ct2 : Value}
    {f3 : Addr} {od3 an3 : Option Addr} {sl3 : Array (Option Value)} {oc3 kV3 dc3 pm3 cd3 ct3 : Value}
    {f4 : Addr} {od4 an4 : Option Addr} {sl4 : Array (Option Value)} {oc4 kV4 dc4 pm4 cd4 ct4 : Value}
    {f5 : Addr} {od5 an5 : Option Addr} {sl5 : Array (Option Value)} {oc5 kV5 dc5 pm5 cd5 ct5 : Value}
    {f6 : Addr} {od6 an6 : Option Addr} {sl6 : Array (Option Value)} {oc6 kV6 dc6 pm6 cd6 ct6 : Value}
    {f7 : Addr} {od7 an7 : Option Addr} {sl7 : Array (Option Value)} {oc7 kV7 dc7 pm7 cd7 ct7 : Value}
    {f8 : Addr} {od8 an8 : Option Addr} {sl8 : Array (Option Value)} {oc8 kV8 dc8 pm8 cd8 ct8 : Value}
    {f9 : Addr} {od9 an9 : Option Addr} {sl9 : Array (Option Value)} {oc9 kV9 dc9 pm9 cd9 ct9 : Value}
    {f10 : Addr} {od10 an10 : Option Addr} {sl10 : Array (Option Value)} {oc10 kV10 dc10 pm10 cd10 ct10 : Value}
    {f11 : Addr} {od11 an11 : Option Addr} {sl11 : Array (Option Value)} {oc11 kV11 dc11 pm11 cd11 ct11 : Value}
    {t1 : Tok}
    {t2 : Tok}
    {t3 : Tok}
    {t4 : Tok}
    {t5 : Tok}
    (a1 : PySem.W.nsIn K mainGlobals "count_digits" = some (some (.ref f1)))
    (l1 : K.lookup f1 = some ⟨oc1, od1, .func (PySem.W.fnOf "count_digits" "count_digits" (defArgs s_count_digits) (defBody s_count_digits) (defScope s_count_digits) .none kV1 dc1 pm1 an1 cd1 ct1), sl1⟩)
    (c1 : PySem.W.codeIn K cd1 "count_digits" = true)
    (k1 : PySem.W.keepIn K (.ref f1) = true)
    (a2 : PySem.W.nsIn K mainGlobals "position" = some (some (.ref f2)))
    (l2 : K.lookup f2 = some ⟨oc2, od2, .func (PySem.W.fnOf "position" "position" (defArgs s_position) (defBody s_position) (defScope s_position) .none kV2 dc2 pm2 an2 cd2 ct2), sl2⟩)
    (c2 : PySem.W.codeIn K cd2 "position" = true)
    (k2 : PySem.W.keepIn K (.ref f2) = true)
    (a3 : PySem.W.nsIn K mainGlobals "skip_space" = some (some (.ref f3)))
    (l3 : K.lookup f3 = some ⟨oc3, od3, .func (PySem.W.fnOf "skip_space" "skip_space" (defArgs s_skip_space) (defBody s_skip_space) (defScope s_skip_space) .none kV3 dc3 pm3 an3 cd3 ct3), sl3⟩)
    (c3 : PySem.W.codeIn K cd3 "skip_space" = true)
    (k3 : PySem.W.keepIn K (.ref f3) = true)
    (a4 : PySem.W.nsIn K mainGlobals "count_word" = some (some (.ref f4)))
    (l4 : K.lookup f4 = some ⟨oc4, od4, .func (PySem.W.fnOf "count_word" "count_word" (defArgs s_count_word) (defBody s_count_word) (defScope s_count_word) .none kV4 dc4 pm4 an4 cd4 ct4), sl4⟩)
    (c4 : PySem.W.codeIn K cd4 "count_word" = true)
    (k4 : PySem.W.keepIn K (.ref f4) = true)
    (a5 : PySem.W.nsIn K mainGlobals "read_integer" = some (some (.ref f5)))
    (l5 : K.lookup f5 = some ⟨oc5, od5, .func (PySem.W.fnOf "read_integer" "read_integer" (defArgs s_read_integer) (defBody s_read_integer) (defScope s_read_integer) .none kV5 dc5 pm5 an5 cd5 ct5), sl5⟩)
    (c5 : PySem.W.codeIn K cd5 "read_integer" = true)
    (k5 : PySem.W.keepIn K (.ref f5) = true)
    (a6 : PySem.W.nsIn K mainGlobals "read_token" = some (some (.ref f6)))
    (l6 : K.lookup f6 = some ⟨oc6, od6, .func (PySem.W.fnOf "read_token" "read_token" (defArgs s_read_token) (defBody s_read_token) (defScope s_read_token) .none kV6 dc6 pm6 an6 cd6 ct6), sl6⟩)
    (c6 : PySem.W.codeIn K cd6 "read_token" = true)
    (k6 : PySem.W.keepIn K (.ref f6) = true)
    (a7 : PySem.W.nsIn K mainGlobals "tokens" = some (some (.ref f7)))
    (l7 : K.lookup f7 = some ⟨oc7, od7, .func (PySem.W.fnOf "tokens" "tokens" (defArgs s_tokens) (defBody s_tokens) (defScope s_tokens) .none kV7 dc7 pm7 an7 cd7 ct7), sl7⟩)
    (c7 : PySem.W.codeIn K cd7 "tokens" = true)
    (k7 : PySem.W.keepIn K (.ref f7) = true)
    (a8 : PySem.W.nsIn K mainGlobals "_law_number" = some (some (.ref f8)))
    (l8 : K.lookup f8 = some ⟨oc8, od8, .func (PySem.W.fnOf "_law_number" "_law_number" (defArgs s__law_number) (defBody s__law_number) (defScope s__law_number) .none kV8 dc8 pm8 an8 cd8 ct8), sl8⟩)
    (c8 : PySem.W.codeIn K cd8 "_law_number" = true)
    (k8 : PySem.W.keepIn K (.ref f8) = true)
    (a9 : PySem.W.nsIn K mainGlobals "_law_is_whole" = some (some (.ref f9)))
    (l9 : K.lookup f9 = some ⟨oc9, od9, .func (PySem.W.fnOf "_law_is_whole" "_law_is_whole" (defArgs s__law_is_whole) (defBody s__law_is_whole) (defScope s__law_is_whole) .none kV9 dc9 pm9 an9 cd9 ct9), sl9⟩)
    (c9 : PySem.W.codeIn K cd9 "_law_is_whole" = true)
    (k9 : PySem.W.keepIn K (.ref f9) = true)
    (a10 : PySem.W.nsIn K mainGlobals "_law_token" = some (some (.ref f10)))
    (l10 : K.lookup f10 = some ⟨oc10, od10, .func (PySem.W.fnOf "_law_token" "_law_token" (defArgs s__law_token) (defBody s__law_token) (defScope s__law_token) .none kV10 dc10 pm10 an10 cd10 ct10), sl10⟩)
    (c10 : PySem.W.codeIn K cd10 "_law_token" = true)
    (k10 : PySem.W.keepIn K (.ref f10) = true)
    (a11 : PySem.W.nsIn K mainGlobals "law" = some (some (.ref f11)))
    (l11 : K.lookup f11 = some ⟨oc11, od11, .func (PySem.W.fnOf "law" "law" (defArgs s_law) (defBody s_law) (defScope s_law) .none kV11 dc11 pm11 an11 cd11 ct11), sl11⟩)
    (c11 : PySem.W.codeIn K cd11 "law" = true)
    (k11 : PySem.W.keepIn K (.ref f11) = true)
    (z1 : PySem.W.nsIn K mainGlobals "DIGITS" = some (some (.str (Str.ofString "0123456789") t1)))
    (z2 : PySem.W.nsIn K mainGlobals "LETTERS" = some (some (.str (Str.ofString "abcdefghijklmnopqrstuvwxyzABCDEFGHIJKLMNOPQRSTUVWXYZ") t2)))
    (z3 : PySem.W.nsIn K mainGlobals "SIGNS" = some (some (.str (Str.ofString "{}(),;/&|!") t3)))
    (z4 : PySem.W.nsIn K mainGlobals "TEXT_LONGEST" = some (some (.int 2000 t4)))
    (z5 : PySem.W.nsIn K mainGlobals "INTEGER_LIMIT" = some (some (.int 1000000 t5)))
    (z6 : PySem.W.nsIn K mainGlobals "bool" = some none)
    (z7 : PySem.W.nsIn K mainGlobals "int" = some none)
    (z8 : PySem.W.nsIn K mainGlobals "isinstance" = some none)
    (z9 : PySem.W.nsIn K mainGlobals "len" = some none)
    (z10 : PySem.W.nsIn K mainGlobals "list" = some none)
    (z11 : PySem.W.nsIn K mainGlobals "range" = some none)
    (z12 : PySem.W.nsIn K mainGlobals "str" = some none)
    (z13 : PySem.W.nsIn K mainGlobals "tuple" = some none) :
    ∃ fd : FuncData, (∀ (s : Shared) (v : Value), BindsTo s fd ⟨[v], []⟩ [("_law_script", v)]) ∧ ∀ base : Heap, K.In base → base.Ns mainGlobals mg → FnOk l.prog w K mg base (L2.CX l.prog w) 12 fa fd ["_law_script"] (spF K (fun _ => none) tab 12 "law") := by
  have e := hfa.symm.trans (PySem.W.mg_of X G a11)
  cases e
  have D1 := DefC.of (cl := fun _ => none) (gl := gls) (fd := fd_count_digits) (N := N_count_digits) (ps := ps_count_digits) (st := s_count_digits) l1 c1 k1 sc_count_digits rfl ck_count_digits rfl rfl (fun _ _ _ _ _ _ us hl => match us, hl with | [_, _], _ => rfl)
  have D2 := DefC.of (cl := fun _ => none) (gl := gls) (fd := fd_position) (N := N_position) (ps := ps_position) (st := s_position) l2 c2 k2 sc_position rfl ck_position rfl rfl (fun _ _ _ _ _ _ us hl => match us, hl with | [_, _], _ => rfl)
  have D3 := DefC.of (cl := fun _ => none) (gl := gls) (fd := fd_skip_space) (N := N_skip_space) (ps := ps_skip_space) (st := s_skip_space) l3 c3 k3 sc_skip_space rfl ck_skip_space rfl rfl (fun _ _ _ _ _ _ us hl => match us, hl with | [_, _], _ => rfl)
  have D4 := DefC.of (cl := fun _ => none) (gl := gls) (fd := fd_count_word) (N := N_count_word) (ps := ps_count_word) (st := s_count_word) l4 c4 k4 sc_count_word rfl ck_count_word rfl rfl (fun _ _ _ _ _ _ us hl => match us, hl with | [_, _], _ => rfl)
  have D5 := DefC.of (cl := fun _ => none) (gl := gls) (fd := fd_read_integer) (N := N_read_integer) (ps := ps_read_integer) (st := s_read_integer) l5 c5 k5 sc_read_integer rfl ck_read_integer rfl rfl (fun _ _ _ _ _ _ us hl => match us, hl with | [_, _], _ => rfl)
  have D6 := DefC.of (cl := fun _ => none) (gl := gls) (fd := fd_read_token) (N := N_read_token) (ps := ps_read_token) (st := s_read_token) l6 c6 k6 sc_read_token rfl ck_read_token rfl rfl (fun _ _ _ _ _ _ us hl => match us, hl with | [_, _], _ => rfl)
  have D7 := DefC.of (cl := fun _ => none) (gl := gls) (fd := fd_tokens) (N := N_tokens) (ps := ps_tokens) (st := s_tokens) l7 c7 k7 sc_tokens rfl ck_tokens rfl rfl (fun _ _ _ _ _ _ us hl => match us, hl with | [_], _ => rfl)
  have D8 := DefC.of (cl := fun _ => none) (gl := gls) (fd := fd__law_number) (N := N__law_number) (ps := ps__law_number) (st := s__law_number) l8 c8 k8 sc__law_number rfl ck__law_number rfl rfl (fun _ _ _ _ _ _ us hl => match us, hl with | [_, _], _ => rfl)
  have D9 := DefC.of (cl := fun _ => none) (gl := gls) (fd := fd__law_is_whole) (N := N__law_is_whole) (ps := ps__law_is_whole) (st := s__law_is_whole) l9 c9 k9 sc__law_is_whole rfl ck__law_is_whole rfl rfl (fun _ _ _ _ _ _ us hl => match us, hl with | [_], _ => rfl)
  have D10 := DefC.of (cl := fun _ => none) (gl := gls) (fd := fd__law_token) (N := N__law_token) (ps := ps__law_token) (st := s__law_token) l10 c10 k10 sc__law_token rfl ck__law_token rfl rfl (fun _ _ _ _ _ _ us hl => match us, hl with | [_], _ => rfl)
  have D11 := DefC.of (cl := fun _ => none) (gl := gls) (fd := fd_law) (N := N_law) (ps := ps_law) (st := s_law) l11 c11 k11 sc_law rfl ck_law rfl rfl (fun _ _ _ _ _ _ us hl => match us, hl with | [_], _ => rfl)
  have E : EntOk K mg (fun _ => none) tab gls gls := ⟨ent_str (PySem.W.mg_of X G z1) (by decide +kernel), ⟨fd_count_digits, f1, _, ps_count_digits, rfl, by decide, by decide, PySem.W.mg_of X G a1, D1⟩, ent_str (PySem.W.mg_of X G z2) (by decide +kernel), ent_str (PySem.W.mg_of X G z3) (by decide +kernel), ent_int (PySem.W.mg_of X G z4), ent_int (PySem.W.mg_of X G z5), ⟨fd_position, f2, _, ps_position, rfl, by decide, by decide, PySem.W.mg_of X G a2, D2⟩, ⟨fd_skip_space, f3, _, ps_skip_space, rfl, by decide, by decide, PySem.W.mg_of X G a3, D3⟩, ⟨fd_count_word, f4, _, ps_count_word, rfl, by decide, by decide, PySem.W.mg_of X G a4, D4⟩, ⟨fd_read_integer, f5, _, ps_read_integer, rfl, by decide, by decide, PySem.W.mg_of X G a5, D5⟩, ⟨fd_read_token, f6, _, ps_read_token, rfl, by decide, by decide, PySem.W.mg_of X G a6, D6⟩, ⟨fd_tokens, f7, _, ps_tokens, rfl, by decide, by decide, PySem.W.mg_of X G a7, D7⟩, ⟨fd__law_number, f8, _, ps__law_number, rfl, by decide, by decide, PySem.W.mg_of X G a8, D8⟩, ⟨fd__law_is_whole, f9, _, ps__law_is_whole, rfl, by decide, by decide, PySem.W.mg_of X G a9, D9⟩, ⟨fd__law_token, f10, _, ps__law_token, rfl, by decide, by decide, PySem.W.mg_of X G a10, D10⟩, PySem.W.mg_none_of X G z6, PySem.W.mg_none_of X G z7, PySem.W.mg_none_of X G z8, PySem.W.mg_none_of X G z9, PySem.W.mg_none_of X G z10, PySem.W.mg_none_of X G z11, PySem.W.mg_none_of X G z12, PySem.W.mg_none_of X G z13, trivial⟩
  exact ⟨_, fun s v => .of_eq rfl, fun base _ _ => def_ok (GlF.of E) 12 "law" fd_law fa _ ps_law rfl D11⟩
end K08
open PySem PySem.W PyProof.Rows
set_option maxRecDepth 100000 in
set_option maxHeartbeats 0 in
theorem PySem.Challenge.cw_truepart_k08_tokens_of_texts_holds : PySem.Challenge.rw_truepart_k08_tokens_of_texts.Holds := by
  w_on; o_law; k_head; (case hw => w_witness2)
  k_fill
  refine L2.walk_ofB (l := PySem.Challenge.rw_truepart_k08_tokens_of_texts) (n := 63) (k := 12) (x := "_law_script") (CX := fun w => L2.CX PySem.Challenge.rw_truepart_k08_tokens_of_texts.prog w) (sp := fun w => PI.spF _ (fun _ => none) K08.tab 12 "law") rfl (by decide) rfl ⟨rfl, by decide, by decide⟩ (fun w h Y => PySem.W.kIn_of Y) ?F (fun w H a ns h1 h2 _ h4 => PI.law_sp rfl rfl (fun ns a b => K08.law_true (ns := ns) a b) H a ns h1 h2 h4) (fun w H s e s' h => PI.cx_end h)
  case F =>
    intro w mg fa h KX G hmg
    refine' K08.all_mk KX G hmg ?a1 ?l1 ?c1 ?k1 ?a2 ?l2 ?c2 ?k2 ?a3 ?l3 ?c3 ?k3 ?a4 ?l4 ?c4 ?k4 ?a5 ?l5 ?c5 ?k5 ?a6 ?l6 ?c6 ?k6 ?a7 ?l7 ?c7 ?k7 ?a8 ?l8 ?c8 ?k8 ?a9 ?l9 ?c9 ?k9 ?a10 ?l10 ?c10 ?k10 ?a11 ?l11 ?c11 ?k11 ?z1 ?z2 ?z3 ?z4 ?z5 ?z6 ?z7 ?z8 ?z9 ?z10 ?z11 ?z12 ?z13
    (case a1 => k_is); (case l1 => k_is); (case c1 => k_is); (case k1 => k_is); (case a2 => k_is); (case l2 => k_is); (case c2 => k_is); (case k2 => k_is)
    (case a3 => k_is); (case l3 => k_is); (case c3 => k_is); (case k3 => k_is); (case a4 => k_is); (case l4 => k_is); (case c4 => k_is); (case k4 => k_is)
    (case a5 => k_is); (case l5 => k_is); (case c5 => k_is); (case k5 => k_is); (case a6 => k_is); (case l6 => k_is); (case c6 => k_is); (case k6 => k_is)
    (case a7 => k_is); (case l7 => k_is); (case c7 => k_is); (case k7 => k_is); (case a8 => k_is); (case l8 => k_is); (case c8 => k_is); (case k8 => k_is)
    (case a9 => k_is); (case l9 => k_is); (case c9 => k_is); (case k9 => k_is); (case a10 => k_is); (case l10 => k_is); (case c10 => k_is); (case k10 => k_is)
    (case a11 => k_is); (case l11 => k_is); (case c11 => k_is); (case k11 => k_is); (case z1 => k_is); (case z2 => k_is); (case z3 => k_is); (case z4 => k_is)
    (case z5 => k_is); (case z6 => k_is); (case z7 => k_is); (case z8 => k_is); (case z9 => k_is); (case z10 => k_is); (case z11 => k_is); (case z12 => k_is)
    (case z13 => k_is)

