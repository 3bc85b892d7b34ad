import PyProof.Rows.All
import Wide.All
import OpenK.AllK
import Wide.FinOn
import HandS.ForMost
import HandS.Flow
import HandS.Style
import HandS.TupAny
import HandS.Deep
import HandS.IsInst
import HandS.Replace
import HandS.TupMul
import HandS.TryOnly
import HandS.Conv
import PyProof.StrBlock2
import HandS.Text
import PyProof.Rows.IntBool
import HandS.More
import HandS.RaiseMore
import HandS.Ends
import PySem.Challenge.RW_mailhall_k13_printed_strings
set_option Elab.async false
set_option linter.all false
set_option maxRecDepth 100000
/-! PL: plain values, stores, the own syntax tree and what it must do (a predicate transformer). -/
namespace PL
open PySem L2

/-- plain values; `ref a`: an object that may change, at its address; `scr`: the script, a list of ints that is read alone -/
inductive D where
  | non | bl (b : Bool) | int (i : Int) | str (x : Str) | tup (xs : List D) | lst (xs : List D) | ref (a : Addr) | scr (ns : List Int)

/-- objects that may change -/
inductive Ob where
  | lst (xs : List D)
  | dct (kvs : List (D × D))

abbrev Sto := Addr → Option Ob
abbrev Ev := List (Option D)
abbrev WQ := D → Sto → Prop
def Sto.put (S : Sto) (a : Addr) (o : Ob) : Sto := fun b => if b = a then some o else S b
def Sto.le (S S' : Sto) : Prop := ∀ a o, S a = some o → S' a = some o
theorem Sto.put_same {S : Sto} {a : Addr} {o : Ob} : S.put a o a = some o := by unfold Sto.put; rw [if_pos rfl]
theorem Sto.put_ne {S : Sto} {a b : Addr} {o : Ob} (h : b ≠ a) : S.put a o b = S b := by unfold Sto.put; rw [if_neg h]
theorem Sto.le_refl (S : Sto) : S.le S := fun _ _ h => h
theorem Sto.le.trans {S S1 S2 : Sto} (a : S.le S1) (b : S1.le S2) : S.le S2 := fun x o h => b x o (a x o h)
theorem Sto.le_put {S : Sto} {a : Addr} {o : Ob} (h : S a = none) : S.le (S.put a o) := fun b u e => by
  rw [Sto.put_ne (fun z => by subst z; rw [h] at e; cases e)]
  exact e

/-! ### == of plain values -/
mutual
def eqD : D → D → Bool
  | .non, .non => true
  | .bl a, .bl b => a == b
  | .bl a, .int j => (if a then 1 else 0) == j
  | .int i, .bl b => i == (if b then 1 else 0)
  | .int i, .int j => i == j
  | .str x, .str y => x == y
  | .tup xs, .tup ys => eqDs xs ys
  | .lst xs, .lst ys => eqDs xs ys
  | _, _ => false
def eqDs : List D → List D → Bool
  | [], [] => true
  | x :: xs, y :: ys => eqD x y && eqDs xs ys
  | _, _ => false
end
/-! no changing object within, texts that can be kept, at most so many deep -/
mutual
def okD : Nat → D → Bool
  | _, .non => true
  | _, .bl _ => true
  | _, .int _ => true
  | _, .str x => PyData.strOk x
  | 0, .tup _ => false
  | 0, .lst _ => false
  | n + 1, .tup xs => okDs n xs
  | n + 1, .lst xs => okDs n xs
  | _, .ref _ => false
  | _, .scr _ => false
def okDs : Nat → List D → Bool
  | _, [] => true
  | n, x :: xs => okD n x && okDs n xs
end

/-! ### operators -/
def opt {α : Type} (o : Option α) (Q : α → Prop) : Prop := match o with | some d => Q d | none => False
/-- some z where c holds; not to be computed -/
noncomputable def ifc (c : Prop) (z : D) : Option D := @ite _ c (Classical.propDecidable c) (some z) none
noncomputable def binD : Operator → D → D → Option D
  | .Add, .int i, .int j => some (.int (i + j))
  | .Add, .str x, .str y => if x.length + y.length ≤ sizeLine then some (.str (x ++ y)) else none
  | .Add, .tup xs, .tup ys => if xs.length + ys.length ≤ sizeLine then some (.tup (xs ++ ys)) else none
  | .Sub, .int i, .int j => some (.int (i - j))
  | .Mult, .int i, .int j => ifc ((-(2 ^ 64) < i ∧ i < 2 ^ 64) ∨ (-(2 ^ 64) < j ∧ j < 2 ^ 64)) (.int (i * j))
  | .Mult, .tup xs, .int n => ifc (2 ≤ n ∧ n ≤ 1000000 ∧ n.toNat * xs.length ≤ 1000000) (.tup (List.replicate n.toNat xs).flatten)
  | .Mult, .str z, .int n => ifc (2 ≤ n ∧ n ≤ 1000 ∧ 1 ≤ z.length ∧ z.length ≤ 1000) (.str (Txt.mul z n))
  | .FloorDiv, .int i, .int j => ifc (0 < j ∧ j < 1073741824) (.int (i / j))
  | .Mod, .int i, .int j => ifc (0 < j) (.int (i % j))
  | .Pow, .int i, .int j => ifc (0 ≤ j ∧ j ≤ 1000000 ∧ i.natAbs < 2 ^ 64) (.int (i ^ j.toNat))
  | .Add, .bl a, .int j => some (.int ((if a = true then (1 : Int) else 0) + j))
  | .Mult, .bl a, .int j => some (.int ((if a = true then (1 : Int) else 0) * j))
  | .FloorDiv, .bl a, .int j => ifc (0 < j ∧ j < 1073741824) (.int ((if a = true then (1 : Int) else 0) / j))
  | _, _, _ => none
/-- the sign c within a text -/
def sgnIn (c z : Str) : Option Bool := match c.cps.toList with | [k] => some (decide (k ∈ z.cps.toList)) | _ => none
def isNon : D → Bool
  | .non => true
  | _ => false
def cmpD (op : CmpOp) (x y : D) : Option Bool := match op, x, y with
  | .Eq, .int i, .int j => some (decide (i = j))
  | .NotEq, .int i, .int j => some (!decide (i = j))
  | .Eq, .str i, .str j => some (decide (i = j))
  | .NotEq, .str i, .str j => some (!decide (i = j))
  | .Eq, x, y => if okD 60 x = true ∧ okD 60 y = true then some (eqD x y) else none
  | .NotEq, x, y => if okD 60 x = true ∧ okD 60 y = true then some (!eqD x y) else none
  | .Lt, .int i, .int j => some (decide (i < j))
  | .LtE, .int i, .int j => some (decide (i ≤ j))
  | .Gt, .int i, .int j => some (decide (j < i))
  | .GtE, .int i, .int j => some (decide (j ≤ i))
  | .Lt, .str x, .str y => some (decide (x.cps.toList < y.cps.toList))
  | .Is, x, .non => some (isNon x)
  | .IsNot, x, .non => some (!isNon x)
  | .Is, .bl a, .bl b => some (decide (a = b))
  | .IsNot, .bl a, .bl b => some (!decide (a = b))
  | .In, x, .tup ys => if okD 50 x = true ∧ okD 60 (.tup ys) = true then some (ys.any fun y => eqD y x) else none
  | .NotIn, x, .tup ys => if okD 50 x = true ∧ okD 60 (.tup ys) = true then some (!ys.any fun y => eqD y x) else none
  | .In, x, .lst ys => if okD 50 x = true ∧ okD 60 (.lst ys) = true then some (ys.any fun y => eqD y x) else none
  | .NotIn, x, .lst ys => if okD 50 x = true ∧ okD 60 (.lst ys) = true then some (!ys.any fun y => eqD y x) else none
  | .In, .str c, .str z => sgnIn c z
  | .NotIn, .str c, .str z => (sgnIn c z).map (!·)
  | _, _, _ => none
def truD (S : Sto) : D → Option Bool
  | .non => some false
  | .bl b => some b
  | .int i => some (i != 0)
  | .str y => if y.length ≤ sizeLine then some ((y.length : Int) != 0) else none
  | .tup xs => some !xs.isEmpty
  | .lst xs => some !xs.isEmpty
  | .ref a => match S a with
    | some (.lst xs) => some !xs.isEmpty
    | _ => none
  | .scr _ => none
/-- o[i] -/
def idxD (S : Sto) : D → D → Option D
  | .tup xs, .int i => atI xs i
  | .lst xs, .int i => atI xs i
  | .str z, .int i => if z.length ≤ sizeLine then (atI z.cps.toList i).map fun c => .str ⟨#[c]⟩ else none
  | .ref a, .int i => match S a with
    | some (.lst xs) => atI xs i
    | _ => none
  | _, _ => none
def cutL {α : Type} (xs : List α) (lo hi : Option Int) : List α := (xs.drop (HT.sIx xs.length 0 lo)).take (HT.sIx xs.length xs.length hi - HT.sIx xs.length 0 lo)
/-- o[lo:hi] of a text or a tuple -/
def slcD : D → Option Int → Option Int → Option D
  | .tup xs, lo, hi => some (.tup (cutL xs lo hi))
  | .str z, lo, hi => if z.length ≤ sizeLine then some (.str (cutS z lo hi)) else none
  | _, _, _ => none
/-- a list's items, told or standing -/
def itemsD (S : Sto) : D → Option (List D)
  | .lst xs => some xs
  | .ref a => match S a with
    | some (.lst xs) => some xs
    | _ => none
  | _ => none
def seqD (S : Sto) : D → Option (List D)
  | .tup xs => some xs
  | .scr ns => some (ns.map .int)
  | d => itemsD S d

/-- what a built-in's type is -/
def tyD : D → Option String
  | .non => some "NoneType" | .bl _ => some "bool" | .int _ => some "int" | .str _ => some "str" | .tup _ => some "tuple" | .lst _ => some "list" | .ref _ => none | .scr _ => none
/-- isinstance by the built-in's name -/
def isiD (d : D) (T : String) : Option Bool := (tyD d).bind fun t => if ["int", "str", "bool", "tuple", "list"].contains T then some (t == T || (t == "bool" && T == "int")) else none

/-- built-ins that change nothing -/
inductive Bf where
  | abs | len | int | str | repr | tuple | max2 | min2 | maxl | minl | sum | all | any
  deriving DecidableEq
/-- methods of a text -/
inductive Mt where
  | join | startswith | index | isalpha
  deriving DecidableEq
def Mt.nm : Mt → Str
  | .join => "join"
  | .startswith => "startswith"
  | .index => "index"
  | .isalpha => "isalpha"
def strsOf : List D → Option (List Str)
  | [] => some []
  | .str b :: r => (strsOf r).map (b :: ·)
  | _ => none
def mtD (S : Sto) (m : Mt) (o : D) (ds : List D) : Option D := match m, o, ds with
  | .join, .str a, [x] => (seqD S x).bind fun xs => (strsOf xs).bind fun ys => if (ys.map (·.length)).sum + ys.length * a.length ≤ 16777216 then some (.str (Txt.join a ys)) else none
  | .startswith, .str a, [.str b] => some (.bl (Txt.startswith a b))
  | .index, .str a, [.str b] => match Builtin.Str.occurrences a b 0 a.length 1 with
    | i :: _ => some (.int (i : Nat))
    | [] => none
  | .isalpha, .str a, [] => some (.bl (Txt.isalpha a))
  | _, _, _ => none
def isStr : D → Prop
  | .str _ => True
  | _ => False
/-- what list(x) puts in -/
def lstD (S : Sto) : D → Option (List D)
  | .str z => if z.length ≤ sizeLine then some (z.cps.toList.map fun c => .str ⟨#[c]⟩) else none
  | d => seqD S d
def boolsOf : List D → Option (List Bool)
  | [] => some []
  | .bl b :: r => (boolsOf r).map (b :: ·)
  | _ => none
def intsOf : List D → Option (List Int)
  | [] => some []
  | .int b :: r => (intsOf r).map (b :: ·)
  | _ => none
mutual
def pyOf : D → PyData
  | .non => .none
  | .bl b => .bool b
  | .int i => .int i
  | .str x => .str x
  | .tup xs => .tuple (pyOfs xs)
  | .lst xs => .list (pyOfs xs)
  | .ref _ => .none
  | .scr _ => .none
def pyOfs : List D → List PyData
  | [] => []
  | x :: xs => pyOf x :: pyOfs xs
end
/-- repr: of values that can be told, with a text of a length that is kept -/
def reprD (d : D) : Option D := if okD 60 d = true ∧ (pyOf d).showable = true ∧ (pyOf d).shown.length ≤ sizeLine then some (.str (pyOf d).shown) else none
def fnD (S : Sto) (f : Bf) (ds : List D) : Option D := match f, ds with
  | .abs, [.int n] => some (.int (if n < 0 then -n else n))
  | .int, [.int n] => some (.int n)
  | .int, [.bl b] => some (.int (if b then 1 else 0))
  | .str, [.int n] => if n.natAbs.log2 < 1920 then some (.str (toString n)) else none
  | .str, [.str z] => some (.str z)
  | .len, [.str z] => if z.length ≤ sizeLine then some (.int z.length) else none
  | .len, [x] => (seqD S x).map fun xs => .int xs.length
  | .tuple, [x] => (seqD S x).map fun xs => .tup xs
  | .repr, [x] => reprD x
  | .max2, [.int n, .int m] => some (.int (if m > n then m else n))
  | .min2, [.int n, .int m] => some (.int (if m < n then m else n))
  | .maxl, [x] => (itemsD S x).bind fun xs => (intsOf xs).bind fun ns => match ns with | n :: r => some (.int (r.foldl max n)) | [] => none
  | .minl, [x] => (itemsD S x).bind fun xs => (intsOf xs).bind fun ns => match ns with | n :: r => some (.int (r.foldl min n)) | [] => none
  | .sum, [x] => (itemsD S x).bind fun xs => (intsOf xs).map fun ns => .int ns.sum
  | .all, [x] => (itemsD S x).bind fun xs => (boolsOf xs).map fun bs => .bl (bs.all id)
  | .any, [x] => (itemsD S x).bind fun xs => (boolsOf xs).map fun bs => .bl (bs.any id)
  | _, _ => none

/-! ### the syntax tree -/
mutual
inductive Ex where
  | lit (d : D)
  | glo (x : Str) (d : D)
  | var (i : Nat)
  | bin (op : Operator) (a b : Ex)
  | neg (a : Ex)
  | cmp (op : CmpOp) (a b : Ex)
  | chn (o1 o2 : CmpOp) (a b c : Ex)
  | andv (a b : Ex) | orv (a b : Ex) | notv (a : Ex)
  | ite (t : Ts) (a b : Ex)
  | tup (es : Xs)
  | frz (l : Ls)
  | new (l : Ls)
  | tpr1 (a : Ex)
  | tpr2 (a b : Ex)
  | idx (a b : Ex)
  /-- a dict of the module, text keys -/
  | kdx (x : Str) (es : List (Str × D)) (a : Ex)
  | kdg (x : Str) (es : List (Str × D)) (as : Xs)
  | ddg (es : List (Str × D)) (as : Xs)
  | slc (a : Ex) (lo hi : Po)
  | call (f : Nat) (es : Xs)
  | fn (f : Bf) (es : Xs)
  | isi (a : Ex) (T : String)
  | app (o : Ex) (e : Ex)
  | mtd (m : Mt) (o : Ex) (es : Xs)
/-- lists that are made -/
inductive Ls where
  | dsp (es : Xs)
  | lc (own : List (Str × Nat)) (tg : Tg) (it : Wk) (c : Ts) (e : Ex)
  | lc2 (own : List (Str × Nat)) (vs : List Nat) (tg : Tg) (it : Wk) (c : Ts) (tg1 : Tg) (it1 : Wk) (c1 : Ts) (e : Ex)
  | lst (a : Ex)
  | cat (a b : Ex)
  | slc (a : Ex) (lo hi : Po)
  | rep (a b : Ex)
  | rev (a : Ex)
inductive Xs where
  | nil | cons (e : Ex) (es : Xs)
inductive Po where
  | no | yes (e : Ex)
inductive Ts where
  | yes
  | val (e : Ex)
  | cmp (op : CmpOp) (a b : Ex)
  | chn (o1 o2 : CmpOp) (a b c : Ex)
  | not (t : Ts)
  | and (a b : Ts) | or (a b : Ts)
inductive Wk where
  | tup (e : Ex)
  | lst (e : Ex)
  | rng1 (a : Ex)
  | rng2 (a b : Ex)
  | str (e : Ex)
inductive Tg where
  | nam (i : Nat)
  | tup (ts : Gs)
  | sub (o i : Ex)
inductive Gs where
  | nil | cons (t : Tg) (ts : Gs)
end
mutual
inductive Sm where
  | expr (e : Ex)
  | asg (tg : Tg) (e : Ex)
  | par (is : List Nat) (es : Xs)
  | ite (t : Ts) (a b : Bk)
  | for_ (tg : Tg) (it : Wk) (b : Bk)
  | whl (t : Ts) (b : Bk)
  | ret (e : Ex) | retn | brk | cnt | pass
  | never
inductive Bk where
  | nil | cons (s : Sm) (b : Bk)
end

/-- some slots forgotten -/
def wipeD (σ : List (Option D)) : List Nat → List (Option D)
  | [] => σ
  | v :: vs => (wipeD σ vs).set v none
/-! ### what it must do -/
def Gs.len : Gs → Nat
  | .nil => 0
  | .cons _ ts => ts.len + 1
def getV (σ : Ev) (i : Nat) (Q : D → Prop) : Prop := match σ[i]? with | some (some d) => Q d | _ => False
/-- o[i] = v -/
def setS (S : Sto) (o i v : D) (Q : Sto → Prop) : Prop := match o, i with
  | .ref a, .int k => match S a with
    | some (.lst xs) => match ixN xs.length k with
      | some j => Q (S.put a (.lst (xs.set j v)))
      | none => False
    | _ => False
  | _, _ => False
def lstAt (S : Sto) : D → Prop
  | .ref a => match S a with
    | some (.lst _) => True
    | _ => False
  | _ => False
def appS (S : Sto) (o v : D) (Q : Sto → Prop) : Prop := match o with
  | .ref a => match S a with
    | some (.lst xs) => xs.length < sizeLine ∧ Q (S.put a (.lst (xs ++ [v])))
    | _ => False
  | _ => False
/-- a list's comprehension over its items -/
def lcLoop (G : Sto → Prop) (body : D → Sto → (Option D → Sto → Prop) → Prop) : List D → List D → Sto → (List D → Sto → Prop) → Prop
  | [], acc, S, Q => G S ∧ Q acc S
  | x :: xs, acc, S, Q => G S ∧ body x S fun o S' => lcLoop G body xs (match o with | some y => acc ++ [y] | none => acc) S' Q
/-- a comprehension of two fors: the inner one, then the outer one -/
def lcIn (G : Sto → Prop) (body : D → Sto → (Option D → Sto → Prop) → Prop) : List D → List D → Sto → (List D → Sto → Prop) → Prop
  | [], acc, S, Q => G S ∧ Q acc S
  | x :: xs, acc, S, Q => G S ∧ body x S fun o S' => match o with
    | some y => acc.length < sizeLine ∧ lcIn G body xs (acc ++ [y]) S' Q
    | none => lcIn G body xs acc S' Q
def lcL2 (G : Sto → Prop) (body : D → List D → Sto → (List D → Sto → Prop) → Prop) : List D → List D → Sto → (List D → Sto → Prop) → Prop
  | [], acc, S, Q => G S ∧ Q acc S
  | x :: xs, acc, S, Q => G S ∧ body x acc S fun acc' S' => lcL2 G body xs acc' S' Q
abbrev CallW := Nat → List D → Sto → WQ → Prop
structure En where
  nx : Ev → Sto → Prop
  rt : WQ
  bk : Ev → Sto → Prop := fun _ _ => False
  ct : Ev → Sto → Prop := fun _ _ => False
def forLoop (G : Sto → Prop) (body : D → Ev → Sto → En → Prop) (E : En) : List D → Ev → Sto → Prop
  | [], σ, S => G S ∧ E.nx σ S
  | x :: xs, σ, S => G S ∧ body x σ S { nx := forLoop G body E xs, ct := forLoop G body E xs, bk := E.nx, rt := E.rt }
def whlLoop (test : Ev → Sto → (Bool → Sto → Prop) → Prop) (body : Ev → Sto → En → Prop) (E : En) : Nat → Ev → Sto → Prop
  | 0, _, _ => False
  | n + 1, σ, S => test σ S fun b S' => if b = true then body σ S' { nx := whlLoop test body E n, ct := whlLoop test body E n, bk := E.nx, rt := E.rt } else E.nx σ S'

section
variable (C : CallW)
mutual
def wE : Ex → Ev → Sto → WQ → Prop
  | .lit d, _, S, Q => Q d S
  | .glo _ d, _, S, Q => Q d S
  | .var i, σ, S, Q => getV σ i fun d => Q d S
  | .bin op a b, σ, S, Q => wE a σ S fun x S1 => wE b σ S1 fun y S2 => opt (binD op x y) fun z => Q z S2
  | .neg a, σ, S, Q => wE a σ S fun x S1 => match x with | .int i => Q (.int (-i)) S1 | .bl k => Q (.int (-(if k = true then (1 : Int) else 0))) S1 | _ => False
  | .kdx _ es a, σ, S, Q => wE a σ S fun x S1 => match x with | .str z => opt (es.lookup z) fun d => Q d S1 | _ => False
  | .kdg _ es as, σ, S, Q => wXs as σ S fun ds S2 => match ds with | [.str z, y] => Q ((es.lookup z).getD y) S2 | _ => False
  | .ddg es as, σ, S, Q => wXs as σ S fun ds S2 => match ds with | [.str z, y] => Q ((es.lookup z).getD y) S2 | _ => False
  | .cmp op a b, σ, S, Q => wE a σ S fun x S1 => wE b σ S1 fun y S2 => opt (cmpD op x y) fun z => Q (.bl z) S2
  | .chn o1 o2 a b c, σ, S, Q => wE a σ S fun x S1 => wE b σ S1 fun y S2 => opt (cmpD o1 x y) fun z => if z = true then wE c σ S2 fun v S3 => opt (cmpD o2 y v) fun z => Q (.bl z) S3 else Q (.bl false) S2
  | .andv a b, σ, S, Q => wE a σ S fun x S1 => opt (truD S1 x) fun k => if k = true then wE b σ S1 Q else Q x S1
  | .orv a b, σ, S, Q => wE a σ S fun x S1 => opt (truD S1 x) fun k => if k = true then Q x S1 else wE b σ S1 Q
  | .notv a, σ, S, Q => wE a σ S fun x S1 => opt (truD S1 x) fun k => Q (.bl !k) S1
  | .ite t a b, σ, S, Q => wT t σ S fun k S1 => if k = true then wE a σ S1 Q else wE b σ S1 Q
  | .tup es, σ, S, Q => wXs es σ S fun ds S1 => ds.length ≤ sizeLine ∧ Q (.tup ds) S1
  | .frz l, σ, S, Q => wL l σ S fun ds S1 => Q (.lst ds) S1
  | .new l, σ, S, Q => wL l σ S fun ds S1 => ∀ p, S1 p = none → Q (.ref p) (S1.put p (.lst ds))
  | .tpr1 a, σ, S, Q => wE a σ S fun x S1 => match x with | .int n => (0 ≤ n ∧ n ≤ 16777216) ∧ Q (.tup ((List.range n.toNat).map fun (k : Nat) => .int (0 + k))) S1 | _ => False
  | .tpr2 a b, σ, S, Q => wE a σ S fun x S1 => wE b σ S1 fun y S2 => match x, y with
    | .int m, .int n => (0 ≤ m ∧ m ≤ 16777216 ∧ 0 ≤ n ∧ n ≤ 16777216) ∧ Q (.tup ((List.range (n - m).toNat).map fun (k : Nat) => .int (m + k))) S2
    | _, _ => False
  | .idx a b, σ, S, Q => wE a σ S fun x S1 => wE b σ S1 fun y S2 => opt (idxD S2 x y) fun z => Q z S2
  | .slc a lo hi, σ, S, Q => wE a σ S fun x S1 => wPo lo σ S1 fun l S2 => wPo hi σ S2 fun h S3 => opt (slcD x l h) fun z => Q z S3
  | .call f es, σ, S, Q => wXs es σ S fun ds S1 => C f ds S1 Q
  | .fn f es, σ, S, Q => wXs es σ S fun ds S1 => opt (fnD S1 f ds) fun z => Q z S1
  | .isi a T, σ, S, Q => wE a σ S fun x S1 => opt (isiD x T) fun z => Q (.bl z) S1
  | .app o e, σ, S, Q => wE o σ S fun x S1 => lstAt S1 x ∧ wE e σ S1 fun v S2 => appS S2 x v fun S3 => Q .non S3
  | .mtd m o es, σ, S, Q => wE o σ S fun x S1 => isStr x ∧ wXs es σ S1 fun ds S2 => opt (mtD S2 m x ds) fun z => Q z S2
def wL : Ls → Ev → Sto → (List D → Sto → Prop) → Prop
  | .dsp es, σ, S, Q => wXs es σ S fun ds S1 => ds.length ≤ sizeLine ∧ Q ds S1
  | .lc own tg it c e, σ, S, Q => wI it σ S fun items G S1 => lcLoop G (fun x S2 k => wG tg x (wipeD σ (own.map (·.2))) S2 fun σ3 S3 => wT c σ3 S3 fun b S4 => if b = true then wE e σ3 S4 fun y S5 => k (some y) S5 else k none S4) items [] S1 Q
  | .lc2 own vs tg it c tg1 it1 c1 e, σ, S, Q => wI it σ S fun items G S1 => lcL2 G (fun x acc S2 k => wG tg x (wipeD σ (own.map (·.2))) S2 fun σ3 S3 => wT c σ3 S3 fun b S4 => if b = true then wI it1 σ3 S4 fun items1 G1 S5 => lcIn G1 (fun y S6 k1 => wG tg1 y (wipeD σ3 vs) S6 fun σ4 S7 => wT c1 σ4 S7 fun b S8 => if b = true then wE e σ4 S8 fun z S9 => k1 (some z) S9 else k1 none S8) items1 acc S5 k else k acc S4) items [] S1 Q
  | .lst a, σ, S, Q => wE a σ S fun x S1 => opt (lstD S1 x) fun xs => Q xs S1
  | .cat a b, σ, S, Q => wE a σ S fun x S1 => wE b σ S1 fun y S2 => opt (itemsD S2 x) fun xs => opt (itemsD S2 y) fun ys => xs.length + ys.length ≤ sizeLine ∧ Q (xs ++ ys) S2
  | .slc a lo hi, σ, S, Q => wE a σ S fun x S1 => wPo lo σ S1 fun l S2 => wPo hi σ S2 fun h S3 => opt (itemsD S3 x) fun xs => Q (cutL xs l h) S3
  | .rep a b, σ, S, Q => wE a σ S fun x S1 => wE b σ S1 fun y S2 => match y with | .int n => opt (itemsD S2 x) fun xs => (0 ≤ n ∧ n ≤ 1000 ∧ xs.length ≤ 1000) ∧ Q (List.replicate n.toNat xs).flatten S2 | _ => False
  | .rev a, σ, S, Q => wE a σ S fun x S1 => opt (itemsD S1 x) fun xs => Q xs.reverse S1
def wXs : Xs → Ev → Sto → (List D → Sto → Prop) → Prop
  | .nil, _, S, Q => Q [] S
  | .cons e es, σ, S, Q => wE e σ S fun x S1 => wXs es σ S1 fun xs S2 => Q (x :: xs) S2
def wPo : Po → Ev → Sto → (Option Int → Sto → Prop) → Prop
  | .no, _, S, Q => Q none S
  | .yes e, σ, S, Q => wE e σ S fun x S1 => match x with | .int i => Q (some i) S1 | _ => False
def wT : Ts → Ev → Sto → (Bool → Sto → Prop) → Prop
  | .yes, _, S, Q => Q true S
  | .val e, σ, S, Q => wE e σ S fun x S1 => opt (truD S1 x) fun k => Q k S1
  | .cmp op a b, σ, S, Q => wE a σ S fun x S1 => wE b σ S1 fun y S2 => opt (cmpD op x y) fun z => Q z S2
  | .chn o1 o2 a b c, σ, S, Q => wE a σ S fun x S1 => wE b σ S1 fun y S2 => opt (cmpD o1 x y) fun z => if z = true then wE c σ S2 fun v S3 => opt (cmpD o2 y v) fun z => Q z S3 else Q false S2
  | .not t, σ, S, Q => wT t σ S fun k S1 => Q (!k) S1
  | .and a b, σ, S, Q => wT a σ S fun k S1 => if k = true then wT b σ S1 Q else Q false S1
  | .or a b, σ, S, Q => wT a σ S fun k S1 => if k = true then Q true S1 else wT b σ S1 Q
/-- what is walked: the items, and what must hold at each turn -/
def wI : Wk → Ev → Sto → (List D → (Sto → Prop) → Sto → Prop) → Prop
  | .tup e, σ, S, Q => wE e σ S fun x S1 => match x with | .tup xs => Q xs (fun _ => True) S1 | _ => False
  | .lst e, σ, S, Q => wE e σ S fun x S1 => match x with
    | .lst xs => Q xs (fun _ => True) S1
    | .ref a => match S1 a with
      | some (.lst xs) => Q xs (fun S => S a = some (.lst xs)) S1
      | _ => False
    | _ => False
  | .rng1 a, σ, S, Q => wE a σ S fun x S1 => match x with | .int n => n ≤ 16777216 ∧ -16777216 ≤ n ∧ Q ((List.range n.toNat).map fun (k : Nat) => .int (0 + k)) (fun _ => True) S1 | _ => False
  | .rng2 a b, σ, S, Q => wE a σ S fun x S1 => wE b σ S1 fun y S2 => match x, y with
    | .int m, .int n => (-16777216 ≤ m ∧ m ≤ 16777216 ∧ -16777216 ≤ n ∧ n ≤ 16777216 ∧ n - m ≤ 16777216) ∧ Q ((List.range (n - m).toNat).map fun (k : Nat) => .int (m + k)) (fun _ => True) S2
    | _, _ => False
  | .str e, σ, S, Q => wE e σ S fun x S1 => match x with | .str z => z.length ≤ sizeLine ∧ Q (z.cps.toList.map fun c => .str ⟨#[c]⟩) (fun _ => True) S1 | _ => False
def wG : Tg → D → Ev → Sto → (Ev → Sto → Prop) → Prop
  | .nam i, d, σ, S, Q => Q (σ.set i (some d)) S
  | .tup ts, d, σ, S, Q => match d with | .tup ds => ds.length = ts.len ∧ wGs ts ds σ S Q | .lst ds => ds.length = ts.len ∧ wGs ts ds σ S Q | _ => False
  | .sub o i, d, σ, S, Q => wE o σ S fun x S1 => wE i σ S1 fun y S2 => setS S2 x y d fun S3 => Q σ S3
def wGs : Gs → List D → Ev → Sto → (Ev → Sto → Prop) → Prop
  | .nil, ds, σ, S, Q => ds = [] ∧ Q σ S
  | .cons t ts, ds, σ, S, Q => match ds with | d :: r => wG t d σ S fun σ1 S1 => wGs ts r σ1 S1 Q | [] => False
end
def setAll : List Nat → List D → Ev → Option Ev
  | [], [], σ => some σ
  | i :: r, d :: ds, σ => setAll r ds (σ.set i (some d))
  | _, _, _ => none
mutual
def wS : Sm → Ev → Sto → En → Prop
  | .expr e, σ, S, E => wE C e σ S fun _ S1 => E.nx σ S1
  | .asg tg e, σ, S, E => wE C e σ S fun d S1 => wG C tg d σ S1 E.nx
  | .par is es, σ, S, E => wXs C es σ S fun ds S1 => opt (setAll is ds σ) fun σ1 => E.nx σ1 S1
  | .ite t a b, σ, S, E => wT C t σ S fun k S1 => if k = true then wB a σ S1 E else wB b σ S1 E
  | .for_ tg it b, σ, S, E => wI C it σ S fun items G S1 => forLoop G (fun x σ S E => wG C tg x σ S fun σ2 S2 => wB b σ2 S2 E) E items σ S1
  | .whl t b, σ, S, E => ∃ n, whlLoop (fun σ S Q => wT C t σ S Q) (fun σ S E => wB b σ S E) E n σ S
  | .ret e, σ, S, E => wE C e σ S E.rt
  | .retn, _, S, E => E.rt .non S
  | .brk, σ, S, E => E.bk σ S
  | .cnt, σ, S, E => E.ct σ S
  | .pass, σ, S, E => E.nx σ S
  | .never, _, _, _ => False
def wB : Bk → Ev → Sto → En → Prop
  | .nil, σ, S, E => E.nx σ S
  | .cons s .nil, σ, S, E => wS s σ S E
  | .cons s b, σ, S, E => wS s σ S { E with nx := fun σ1 S1 => wB b σ1 S1 E }
end
/-- a def: how many parameters, how many slots, its body -/
structure Fd where
  np : Nat
  ns : Nat
  body : Bk
def startD (fd : Fd) (ds : List D) : Ev := ds.map some ++ List.replicate (fd.ns - ds.length) none
end
/-- a call, at most so many deep -/
def callW (T : List Fd) : Nat → CallW
  | 0, _, _, _, _ => False
  | k + 1, f, ds, S, Q => opt T[f]? fun fd => ds.length = fd.np ∧ wB (callW T k) fd.body (startD fd ds) S { nx := fun _ S' => ∃ S2 : Sto, S2.le S' ∧ Q .non S2, rt := fun d S' => ∃ S2 : Sto, S2.le S' ∧ Q d S2 }
end PL
/-! PL: how plain values and stores lie in the layer's heaps. -/
namespace PL
open PySem L2

def Sub (F H : Hp) : Prop := ∀ a o, F a = some o → H a = some o
theorem Sub.refl (F : Hp) : Sub F F := fun _ _ h => h
theorem Sub.trans {F G H : Hp} (a : Sub F G) (b : Sub G H) : Sub F H := fun x o h => b x o (a x o h)
theorem Sub.new {F : Hp} {p : Addr} {o : HO} (h : F p = none) : Sub F (upd F p o) := fun a u e => by
  rw [upd_ne (ne_of_none e h)]
  exact e
theorem Sub.none {F H : Hp} (s : Sub F H) {p : Addr} (h : H p = none) : F p = none := by
  cases q : F p with
  | none => rfl
  | some o =>
    rw [s p o q] at h
    cases h
theorem Sub.rd {F H : Hp} (s : Sub F H) {a : Addr} {u : HO} (h : Rd F a u) : Rd H a u := by
  rcases h with h | ⟨o, h⟩
  · exact .inl (s _ _ h)
  · exact .inr ⟨o, s _ _ h⟩
theorem Sub.sqT {K : PySem.W.Frag} {F H : Hp} (s : Sub F H) {a : Addr} {xs : List V} (h : SqT K F a xs) : SqT K H a xs := by
  rcases h with h | h
  · exact .inl (s.rd h)
  · exact .inr h
theorem Sub.sqL {K : PySem.W.Frag} {F H : Hp} (s : Sub F H) {a : Addr} {xs : List V} (h : SqL K F a xs) : SqL K H a xs := by
  rcases h with h | h
  · exact .inl (s.rd h)
  · exact .inr h

mutual
def Den (K : PySem.W.Frag) (F : Hp) : D → V → Prop
  | .non, v => v = .non
  | .bl b, v => v = .bl b
  | .int i, v => v = .int i
  | .str x, v => v = .str x
  | .tup ds, v => ds.length ≤ sizeLine ∧ ∃ a vs, v = .ref a ∧ SqT K F a vs ∧ Dens K F ds vs
  | .lst ds, v => ds.length ≤ sizeLine ∧ ∃ a vs, v = .ref a ∧ Rd F a (.lst vs) ∧ Dens K F ds vs
  | .ref a, v => v = .ref a
  | .scr ns, v => ns.length ≤ sizeLine ∧ ∃ a, v = .ref a ∧ SqL K F a (ns.map V.int)
def Dens (K : PySem.W.Frag) (F : Hp) : List D → List V → Prop
  | [], vs => vs = []
  | d :: ds, vs => ∃ v r, vs = v :: r ∧ Den K F d v ∧ Dens K F ds r
end
section
variable {K : PySem.W.Frag} {F F' H : Hp}
mutual
theorem Den.mono (s : Sub F F') : ∀ {d : D} {v : V}, Den K F d v → Den K F' d v
  | .non, _, h => h
  | .bl _, _, h => h
  | .int _, _, h => h
  | .str _, _, h => h
  | .ref _, _, h => h
  | .scr ns, v, h => by
    unfold Den at h ⊢
    obtain ⟨z, a, e, q⟩ := h
    exact ⟨z, a, e, s.sqL q⟩
  | .tup ds, v, h => by
    unfold Den at h ⊢
    obtain ⟨z, a, vs, e, q, r⟩ := h
    exact ⟨z, a, vs, e, s.sqT q, Dens.mono s r⟩
  | .lst ds, v, h => by
    unfold Den at h ⊢
    obtain ⟨z, a, vs, e, q, r⟩ := h
    exact ⟨z, a, vs, e, s.rd q, Dens.mono s r⟩
theorem Dens.mono (s : Sub F F') : ∀ {ds : List D} {vs : List V}, Dens K F ds vs → Dens K F' ds vs
  | [], _, h => h
  | d :: ds, _, h => by
    unfold Dens at h ⊢
    obtain ⟨v, r, e, q, t⟩ := h
    exact ⟨v, r, e, Den.mono s q, Dens.mono s t⟩
end
theorem Dens.nil : Dens K F [] [] := by
  unfold Dens
  rfl
theorem Dens.cons {d : D} {ds : List D} {v : V} {vs : List V} (h : Den K F d v) (t : Dens K F ds vs) : Dens K F (d :: ds) (v :: vs) := by
  unfold Dens
  exact ⟨v, vs, rfl, h, t⟩
theorem Dens.nil_inv {vs : List V} (h : Dens K F [] vs) : vs = [] := by
  unfold Dens at h
  exact h
theorem Dens.cons_inv {d : D} {ds : List D} {vs : List V} (h : Dens K F (d :: ds) vs) : ∃ v r, vs = v :: r ∧ Den K F d v ∧ Dens K F ds r := by
  unfold Dens at h
  exact h
theorem Dens.len : ∀ {ds : List D} {vs : List V}, Dens K F ds vs → vs.length = ds.length
  | [], _, h => by
    rw [h.nil_inv]
    rfl
  | d :: ds, _, h => by
    obtain ⟨v, r, e, _, t⟩ := h.cons_inv
    rw [e, List.length_cons, List.length_cons, Dens.len t]
theorem Dens.append : ∀ {ds es : List D} {vs us : List V}, Dens K F ds vs → Dens K F es us → Dens K F (ds ++ es) (vs ++ us)
  | [], _, _, _, h, g => by
    rw [h.nil_inv]
    exact g
  | d :: ds, _, _, _, h, g => by
    obtain ⟨v, r, e, q, t⟩ := h.cons_inv
    rw [e]
    exact .cons q (Dens.append t g)
theorem Dens.take : ∀ {ds : List D} {vs : List V} (n : Nat), Dens K F ds vs → Dens K F (ds.take n) (vs.take n)
  | _, _, 0, _ => .nil
  | [], _, _ + 1, h => by
    rw [h.nil_inv]
    exact .nil
  | d :: ds, _, n + 1, h => by
    obtain ⟨v, r, e, q, t⟩ := h.cons_inv
    rw [e]
    exact .cons q (Dens.take n t)
theorem Dens.drop : ∀ {ds : List D} {vs : List V} (n : Nat), Dens K F ds vs → Dens K F (ds.drop n) (vs.drop n)
  | _, _, 0, h => h
  | [], _, _ + 1, h => by
    rw [h.nil_inv]
    exact .nil
  | d :: ds, _, n + 1, h => by
    obtain ⟨v, r, e, q, t⟩ := h.cons_inv
    rw [e]
    exact Dens.drop n t
theorem Dens.cut {ds : List D} {vs : List V} (h : Dens K F ds vs) (lo hi : Option Int) : Dens K F (cutL ds lo hi) (cutV vs lo hi) := by
  unfold cutL cutV
  rw [h.len]
  exact (h.drop _).take _
theorem Dens.get : ∀ {ds : List D} {vs : List V} {i : Nat} {d : D}, Dens K F ds vs → ds[i]? = some d → ∃ v, vs[i]? = some v ∧ Den K F d v
  | [], _, _, _, _, e => by simp at e
  | x :: ds, _, 0, d, h, e => by
    obtain ⟨v, r, e1, q, t⟩ := h.cons_inv
    rw [e1]
    simp only [List.getElem?_cons_zero, Option.some.injEq] at e
    subst e
    exact ⟨v, rfl, q⟩
  | x :: ds, _, i + 1, d, h, e => by
    obtain ⟨v, r, e1, q, t⟩ := h.cons_inv
    rw [e1]
    simp only [List.getElem?_cons_succ] at e ⊢
    exact Dens.get t e
theorem Dens.set {d : D} {v : V} (q : Den K F d v) : ∀ {ds : List D} {vs : List V} (i : Nat), Dens K F ds vs → Dens K F (ds.set i d) (vs.set i v)
  | [], _, _, h => by
    rw [h.nil_inv]
    exact .nil
  | x :: ds, _, 0, h => by
    obtain ⟨w, r, e1, q', t⟩ := h.cons_inv
    rw [e1]
    exact .cons q t
  | x :: ds, _, i + 1, h => by
    obtain ⟨w, r, e1, q', t⟩ := h.cons_inv
    rw [e1]
    exact .cons q' (Dens.set q i t)
theorem cutL_len {α : Type} (xs : List α) (lo hi : Option Int) : (cutL xs lo hi).length ≤ xs.length := by
  unfold cutL
  rw [List.length_take, List.length_drop]
  omega
theorem atI_den {ds : List D} {vs : List V} {i : Int} {d : D} (h : Dens K F ds vs) (e : atI ds i = some d) : ∃ v, atI vs i = some v ∧ Den K F d v := by
  unfold atI at e ⊢
  rw [h.len]
  cases q : ixN ds.length i with
  | none =>
    rw [q] at e
    cases e
  | some j =>
    rw [q] at e
    obtain ⟨v, e1, e2⟩ := h.get (i := j) (d := d) e
    exact ⟨v, e1, e2⟩

/-! ### values by their shape -/
theorem Den.int_ {i : Int} {v : V} (h : Den K F (.int i) v) : v = .int i := by
  unfold Den at h
  exact h
theorem Den.bl_ {i : Bool} {v : V} (h : Den K F (.bl i) v) : v = .bl i := by
  unfold Den at h
  exact h
theorem Den.str_ {i : Str} {v : V} (h : Den K F (.str i) v) : v = .str i := by
  unfold Den at h
  exact h
theorem Den.non_ {v : V} (h : Den K F .non v) : v = .non := by
  unfold Den at h
  exact h
theorem Den.ref_ {a : Addr} {v : V} (h : Den K F (.ref a) v) : v = .ref a := by
  unfold Den at h
  exact h
theorem Den.tup_ {ds : List D} {v : V} (h : Den K F (.tup ds) v) : ds.length ≤ sizeLine ∧ ∃ a vs, v = .ref a ∧ SqT K F a vs ∧ Dens K F ds vs := by
  unfold Den at h
  exact h
theorem Den.lst_ {ds : List D} {v : V} (h : Den K F (.lst ds) v) : ds.length ≤ sizeLine ∧ ∃ a vs, v = .ref a ∧ Rd F a (.lst vs) ∧ Dens K F ds vs := by
  unfold Den at h
  exact h
theorem Den.scr_ {ns : List Int} {v : V} (h : Den K F (.scr ns) v) : ns.length ≤ sizeLine ∧ ∃ a, v = .ref a ∧ SqL K F a (ns.map V.int) := by
  unfold Den at h
  exact h
theorem Den.mkScr {ns : List Int} {a : Addr} (z : ns.length ≤ sizeLine) (h : SqL K F a (ns.map V.int)) : Den K F (.scr ns) (.ref a) := by
  unfold Den
  exact ⟨z, a, rfl, h⟩
theorem Den.mkInt (i : Int) : Den K F (.int i) (.int i) := by
  unfold Den
  rfl
theorem Den.mkBl (i : Bool) : Den K F (.bl i) (.bl i) := by
  unfold Den
  rfl
theorem Den.mkStr (i : Str) : Den K F (.str i) (.str i) := by
  unfold Den
  rfl
theorem Den.mkNon : Den K F .non .non := by
  unfold Den
  rfl
theorem Den.mkRef (a : Addr) : Den K F (.ref a) (.ref a) := by
  unfold Den
  rfl
theorem Den.mkTup {ds : List D} {a : Addr} {vs : List V} (z : ds.length ≤ sizeLine) (h : SqT K F a vs) (t : Dens K F ds vs) : Den K F (.tup ds) (.ref a) := by
  unfold Den
  exact ⟨z, a, vs, rfl, h, t⟩
theorem Den.mkLst {ds : List D} {a : Addr} {vs : List V} (z : ds.length ≤ sizeLine) (h : Rd F a (.lst vs)) (t : Dens K F ds vs) : Den K F (.lst ds) (.ref a) := by
  unfold Den
  exact ⟨z, a, vs, rfl, h, t⟩

theorem Dens.ints : ∀ (ns : List Int), Dens K F (ns.map .int) (ns.map V.int)
  | [] => .nil
  | n :: r => .cons (.mkInt n) (Dens.ints r)
/-! ### stores -/
def RelOb (K : PySem.W.Frag) (F : Hp) (H : Hp) (a : Addr) : Ob → Prop
  | .lst ds => ds.length ≤ sizeLine ∧ ∃ vs, H a = some (.lst vs) ∧ Dens K F ds vs
  | .dct _ => False
structure RelS (K : PySem.W.Frag) (F : Hp) (S : Sto) (H : Hp) : Prop where
  sub : Sub F H
  ob : ∀ a o, S a = some o → F a = none ∧ RelOb K F H a o
theorem RelOb.there {a : Addr} {o : Ob} (h : RelOb K F H a o) : ∃ u, H a = some u := by
  cases o with
  | lst ds =>
    obtain ⟨_, vs, e, _⟩ := h
    exact ⟨_, e⟩
  | dct _ => exact False.elim h
theorem RelOb.next {H' : Hp} {a : Addr} {o : Ob} (h : RelOb K F H a o) (s : Sub F F') (e : H' a = H a) : RelOb K F' H' a o := by
  cases o with
  | lst ds =>
    obtain ⟨z, vs, e1, d⟩ := h
    exact ⟨z, vs, e.trans e1, d.mono s⟩
  | dct _ => exact False.elim h
theorem RelS.le {S S' : Sto} (h : RelS K F S' H) (l : S.le S') : RelS K F S H := ⟨h.sub, fun a o e => h.ob a o (l a o e)⟩
/-- nothing at a new place -/
theorem RelS.free {S : Sto} (h : RelS K F S H) {p : Addr} (n : H p = none) : S p = none := by
  cases q : S p with
  | none => rfl
  | some o =>
    obtain ⟨u, e⟩ := (h.ob p o q).2.there
    rw [n] at e
    cases e
/-- a new thing that never changes -/
theorem RelS.newF {S : Sto} (h : RelS K F S H) {p : Addr} {o : HO} (n : H p = none) : RelS K (upd F p o) S (upd H p o) ∧ Sub F (upd F p o) := by
  have nF : F p = none := h.sub.none n
  refine ⟨⟨fun a u e => ?_, fun a ob e => ?_⟩, Sub.new nF⟩
  · by_cases z : a = p
    · subst z
      rw [upd_same] at e ⊢
      exact e
    · rw [upd_ne z] at e ⊢
      exact h.sub a u e
  · obtain ⟨f, r⟩ := h.ob a ob e
    have z : a ≠ p := fun z => by
      subst z
      rw [h.free n] at e
      cases e
    exact ⟨by rw [upd_ne z]; exact f, r.next (Sub.new nF) (upd_ne z)⟩
/-- a new object that may change, or one that changes -/
theorem RelS.putS {S : Sto} (h : RelS K F S H) {p : Addr} {o : HO} {ob : Ob} (n : F p = none) (r : RelOb K F (upd H p o) p ob) : RelS K F (S.put p ob) (upd H p o) := by
  refine ⟨fun a u e => ?_, fun a ob' e => ?_⟩
  · rw [upd_ne (ne_of_none e n)]
    exact h.sub a u e
  · by_cases z : a = p
    · subst z
      rw [Sto.put_same] at e
      cases e
      exact ⟨n, r⟩
    · rw [Sto.put_ne z] at e
      obtain ⟨f, q⟩ := h.ob a ob' e
      exact ⟨f, q.next (Sub.refl F) (upd_ne z)⟩
/-- an untracked thing is laid that nobody speaks of -/
theorem RelS.newH {S : Sto} (h : RelS K F S H) {p : Addr} {o : HO} (n : H p = none) : RelS K F S (upd H p o) := by
  refine ⟨fun a u e => ?_, fun a ob e => ?_⟩
  · rw [upd_ne (ne_of_none e (h.sub.none n))]
    exact h.sub a u e
  · obtain ⟨f, r⟩ := h.ob a ob e
    have z : a ≠ p := fun z => by
      subst z
      rw [h.free n] at e
      cases e
    exact ⟨f, r.next (Sub.refl F) (upd_ne z)⟩

/-! ### slots -/
structure Rl (K : PySem.W.Frag) (F : Hp) (σ : L2.St) (H : Hp) (env : Ev) (S : Sto) : Prop where
  rs : RelS K F S H
  sl : ∀ (i : Nat) (d : D), env[i]? = some (some d) → ∃ v, σ[i]? = some (some v) ∧ Den K F d v
theorem Rl.next {H' : Hp} {σ : L2.St} {env : Ev} {S S' : Sto} (h : Rl K F σ H env S) (s : Sub F F') (r : RelS K F' S' H') : Rl K F' σ H' env S' :=
  ⟨r, fun i d e => let ⟨v, e1, e2⟩ := h.sl i d e; ⟨v, e1, e2.mono s⟩⟩

/-- from a D that == may be asked of: the library's data -/
theorem okD_depth : True := trivial
mutual
theorem Den.dp : ∀ {d : D} {n : Nat} {v : V}, okD n d = true → Den K F d v → Dp K F v (pyOf d) ∧ (pyOf d).canLay0 = true ∧ (pyOf d).depth ≤ n
  | .non, n, v, _, h => by
    rw [h.non_]
    exact ⟨.non, rfl, Nat.zero_le _⟩
  | .bl b, n, v, _, h => by
    rw [h.bl_]
    exact ⟨.bl b, rfl, Nat.zero_le _⟩
  | .int i, n, v, _, h => by
    rw [h.int_]
    exact ⟨.int i, rfl, Nat.zero_le _⟩
  | .str x, n, v, o, h => by
    rw [h.str_]
    refine ⟨.str x, ?_, Nat.zero_le _⟩
    unfold okD at o
    simpa [pyOf, PyData.canLay0] using o
  | .tup ds, 0, v, o, h => by simp [okD] at o
  | .lst ds, 0, v, o, h => by simp [okD] at o
  | .tup ds, n + 1, v, o, h => by
    obtain ⟨z, a, vs, rfl, q, t⟩ := h.tup_
    unfold okD at o
    obtain ⟨h1, h2, h3⟩ := Dens.dp o t
    refine ⟨?_, ?_, ?_⟩
    · unfold pyOf
      exact .tup q h1
    · simpa [pyOf, PyData.canLay0] using h2
    · simp only [pyOf, PyData.depth]
      omega
  | .lst ds, n + 1, v, o, h => by
    obtain ⟨z, a, vs, rfl, q, t⟩ := h.lst_
    unfold okD at o
    obtain ⟨h1, h2, h3⟩ := Dens.dp o t
    refine ⟨?_, ?_, ?_⟩
    · unfold pyOf
      exact .lst (.inl q) h1
    · simpa [pyOf, PyData.canLay0] using h2
    · simp only [pyOf, PyData.depth]
      omega
  | .ref _, n, v, o, h => by
    cases n <;> simp [okD] at o
  | .scr _, n, v, o, h => by
    cases n <;> simp [okD] at o
theorem Dens.dp : ∀ {ds : List D} {n : Nat} {vs : List V}, okDs n ds = true → Dens K F ds vs → DpAll K F vs (pyOfs ds) ∧ PyData.canLayAll0 (pyOfs ds) = true ∧ PyData.depthAll (pyOfs ds) ≤ n
  | [], n, vs, _, h => by
    rw [h.nil_inv]
    exact ⟨.nil, rfl, Nat.zero_le _⟩
  | d :: ds, n, vs, o, h => by
    obtain ⟨v, r, rfl, q, t⟩ := h.cons_inv
    unfold okDs at o
    rw [Bool.and_eq_true] at o
    obtain ⟨a1, a2, a3⟩ := Den.dp o.1 q
    obtain ⟨b1, b2, b3⟩ := Dens.dp o.2 t
    refine ⟨?_, ?_, ?_⟩
    · unfold pyOfs
      exact .cons a1 b1
    · simp [pyOfs, PyData.canLayAll0, a2, b2]
    · simp only [pyOfs, PyData.depthAll]
      omega
end
mutual
theorem eqv_eqD : ∀ (x y : D) (n m : Nat), okD n x = true → okD m y = true → PyData.eqv (pyOf x) (pyOf y) = eqD x y
  | .ref _, y, n, _, h, _ => by cases n <;> simp [okD] at h
  | .scr _, y, n, _, h, _ => by cases n <;> simp [okD] at h
  | .non, y, _, m, _, h => by
    cases y <;> first
      | (cases m <;> simp [okD] at h; done)
      | simp [pyOf, PyData.eqv, eqD]
  | .bl _, y, _, m, _, h => by
    cases y <;> first
      | (cases m <;> simp [okD] at h; done)
      | simp [pyOf, PyData.eqv, eqD]
  | .int _, y, _, m, _, h => by
    cases y <;> first
      | (cases m <;> simp [okD] at h; done)
      | simp [pyOf, PyData.eqv, eqD]
  | .str _, y, _, m, _, h => by
    cases y <;> first
      | (cases m <;> simp [okD] at h; done)
      | simp [pyOf, PyData.eqv, eqD]
  | .tup xs, .tup ys, n, m, h, g => by
    cases n with
    | zero => simp [okD] at h
    | succ n =>
      cases m with
      | zero => simp [okD] at g
      | succ m =>
        unfold okD at h g
        simp only [pyOf, PyData.eqv, eqD]
        exact eqv_eqDs xs ys n m h g
  | .lst xs, .lst ys, n, m, h, g => by
    cases n with
    | zero => simp [okD] at h
    | succ n =>
      cases m with
      | zero => simp [okD] at g
      | succ m =>
        unfold okD at h g
        simp only [pyOf, PyData.eqv, eqD]
        exact eqv_eqDs xs ys n m h g
  | .tup xs, .non, _, _, _, _ => by simp [pyOf, PyData.eqv, eqD]
  | .tup xs, .bl _, _, _, _, _ => by simp [pyOf, PyData.eqv, eqD]
  | .tup xs, .int _, _, _, _, _ => by simp [pyOf, PyData.eqv, eqD]
  | .tup xs, .str _, _, _, _, _ => by simp [pyOf, PyData.eqv, eqD]
  | .tup xs, .lst _, _, _, _, _ => by simp [pyOf, PyData.eqv, eqD]
  | .tup xs, .ref _, _, m, _, g => by cases m <;> simp [okD] at g
  | .tup xs, .scr _, _, m, _, g => by cases m <;> simp [okD] at g
  | .lst xs, .non, _, _, _, _ => by simp [pyOf, PyData.eqv, eqD]
  | .lst xs, .bl _, _, _, _, _ => by simp [pyOf, PyData.eqv, eqD]
  | .lst xs, .int _, _, _, _, _ => by simp [pyOf, PyData.eqv, eqD]
  | .lst xs, .str _, _, _, _, _ => by simp [pyOf, PyData.eqv, eqD]
  | .lst xs, .tup _, _, _, _, _ => by simp [pyOf, PyData.eqv, eqD]
  | .lst xs, .ref _, _, m, _, g => by cases m <;> simp [okD] at g
  | .lst xs, .scr _, _, m, _, g => by cases m <;> simp [okD] at g
theorem eqv_eqDs : ∀ (xs ys : List D) (n m : Nat), okDs n xs = true → okDs m ys = true → PyData.eqvAll (pyOfs xs) (pyOfs ys) = eqDs xs ys
  | [], [], _, _, _, _ => by simp [pyOfs, PyData.eqvAll, eqDs]
  | [], _ :: _, _, _, _, _ => by simp [pyOfs, PyData.eqvAll, eqDs]
  | _ :: _, [], _, _, _, _ => by simp [pyOfs, PyData.eqvAll, eqDs]
  | x :: xs, y :: ys, n, m, h, g => by
    unfold okDs at h g
    rw [Bool.and_eq_true] at h g
    simp only [pyOfs, PyData.eqvAll, eqDs]
    rw [eqv_eqD x y n m h.1 g.1, eqv_eqDs xs ys n m h.2 g.2]
end
theorem Den.shaped {d : D} {v : V} (o : okD 60 d = true) (h : Den K F d v) : Dp K F v (pyOf d) ∧ SeqAt.shaped (pyOf d) = true := by
  obtain ⟨a, b, c⟩ := Den.dp o h
  refine ⟨a, ?_⟩
  unfold SeqAt.shaped
  rw [b, decide_eq_true (by omega : (pyOf d).depth ≤ 64)]
  rfl
mutual
theorem dpMono (s : Sub F F') : ∀ {v : V} {d : PyData}, Dp K F v d → Dp K F' v d
  | _, _, .non => .non
  | _, _, .bl b => .bl b
  | _, _, .int i => .int i
  | _, _, .str x => .str x
  | _, _, .lst q t => .lst (s.sqL q) (dpMonoAll s t)
  | _, _, .tup q t => .tup (s.sqT q) (dpMonoAll s t)
theorem dpMonoAll (s : Sub F F') : ∀ {v : List V} {d : List PyData}, DpAll K F v d → DpAll K F' v d
  | _, _, .nil => .nil
  | _, _, .cons a b => .cons (dpMono s a) (dpMonoAll s b)
end
end
end PL
/-! PL: tuples, lists and texts times a number. -/
namespace PL
open PySem L2 PyProof.Rows
section
variable {X : Cx}
theorem reps (its : List Value) (m : Nat) : (List.foldl (fun x1 x2 => x1 ++ x2) #[] (List.replicate m its.toArray)) = (List.replicate m its).flatten.toArray := (foldl_rep its m []).trans (by rw [List.nil_append])
set_option maxHeartbeats 4000000 in
/-- a tuple with items, at least twice -/
theorem op_mulT : OpR X (binaryOp .Mult) (fun x y H Q => ∃ l k xs, x = .ref l ∧ y = .int k ∧ SqT X.K H l xs ∧ xs ≠ [] ∧ 2 ≤ k ∧ k ≤ 1000000 ∧ k.toNat * xs.length ≤ 1000000 ∧ ∀ p, H p = none → Q (.ref p) (upd H p (.tup (List.replicate k.toNat xs).flatten))) := by
  intro pins s σ H x y v u Q I rx ry h
  obtain ⟨l, k, xs, rfl, rfl, hT, hne, k2, kM, few, q⟩ := h
  cases rx; obtain ⟨t, rfl⟩ := ry
  obtain ⟨its, r, ⟨⟨cls, dd, data, sl⟩, ho, hc, n, hd⟩, hs⟩ := I.tuple hT
  simp only at hc hd; subst hc hd
  have sz : its.toArray.size = xs.length := by rw [List.size_toArray, r.length]
  have some1 : its.toArray.isEmpty = false := by
    cases its with
    | nil => exact absurd (List.eq_nil_of_length_eq_zero r.length) hne
    | cons a b => rfl
  have prod : ((its.toArray.size : Nat) : Int) * k ≤ 1000000 := by
    rw [sz, Int.mul_comm]
    obtain ⟨m, rfl⟩ : ∃ m : Nat, k = (m : Int) := ⟨k.toNat, by omega⟩
    rw [Int.toNat_natCast] at few
    have c := Int.ofNat_le.mpr few
    rw [Int.natCast_mul] at c
    exact c
  have fl : (List.replicate k.toNat xs).flatten.length ≤ sizeLine := by rw [lm_len_rep_flat, sizeLine_eq]; omega
  have fl2 : (List.replicate k.toNat its).flatten.length ≤ sizeLine := by rw [lm_len_rep_flat, sizeLine_eq, ← r.length]; omega
  have b0 : (decide (k < -(2 ^ 63)) || decide (k ≥ 2 ^ 63)) = false := by simp; omega
  have b1 : (its.toArray.isEmpty || k == 1) = false := by rw [some1, Bool.false_or]; exact beq_eq_false_iff_ne.mpr (by omega)
  have b2 : (decide (k ≤ 0) || its.toArray.isEmpty) = false := by rw [some1, Bool.or_false]; exact decide_eq_false (by omega)
  have b4 : Builtin.Tuple.tupleTooMany (((its.toArray.size : Nat) : Int) * k) = false := by unfold Builtin.Tuple.tupleTooMany; rw [sizeLine_eq]; exact decide_eq_false (by omega)
  refine wpAny_binaryOp_repeat_ref (T := "tuple") (U := "int") (by decide) ⟨_, ho, rfl⟩ (fun s' => typeIs_int s' k t) noFill_tuple_mul F.fills_int_mul F.slot_int_rmul repeat_tuple F.slot_int_index.lookup (call_meets F.slot_int_rmul (typeIs_int s k t) F.entry_int_rmul (F.args_int_rmul_2 _ _) (int_rmul_tuple k t l its.toArray n dd sl) ⟨ho, rfl, ⟨_, ho, rfl⟩, call_meets F.slot_tuple_mul ⟨_, ho, rfl⟩ F.entry_tuple_mul (F.args_tuple_mul_2 _ _) (tuple_mulW l its.toArray n dd sl k t b0 b1 b2 (by omega) b4 (by rw [reps, List.size_toArray]; exact fl2)) ⟨ho, ?_⟩⟩)
  rw [reps]
  refine ⟨.ref s.heap.objs.size, _, I.laid (t' := s.toks) (o := .tup (List.replicate k.toNat xs).flatten) (fun b ob q => Heap.get?_push_of_some _ q) (Nat.le_refl _) ⟨fl, _, r.rep k.toNat, IsTup.new _ _⟩, rfl, q _ (I.hok.fresh (Nat.le_refl _))⟩
set_option maxHeartbeats 4000000 in
/-- a list that is read -/
theorem op_mulL : OpR X (binaryOp .Mult) (fun x y H Q => ∃ l k xs, x = .ref l ∧ y = .int k ∧ Rd H l (.lst xs) ∧ 0 ≤ k ∧ k ≤ 1000 ∧ xs.length ≤ 1000 ∧ ∀ p, H p = none → Q (.ref p) (upd H p (.lst (List.replicate k.toNat xs).flatten))) := by
  intro pins s σ H x y v u Q I rx ry h
  obtain ⟨l, k, xs, rfl, rfl, hH, k0, k1, few, q⟩ := h
  cases rx; obtain ⟨t, rfl⟩ := ry
  obtain ⟨z, its, n, r, e⟩ := hH.ok I.hok
  have hl : xs.length = its.length := r.length
  have km : k.toNat ≤ 1000 := by omega
  have pr : k.toNat * its.length ≤ 1000 * 1000 := Nat.mul_le_mul km (by omega)
  have hlen : its.toArray.size * k.toNat ≤ sizeLine := by rw [List.size_toArray, Nat.mul_comm, sizeLine_eq]; omega
  have hcap : ¬ its.toArray.size * k.toNat > (2 ^ 63 - 1) / 8 := by have : (sizeLine : Nat) ≤ (2 ^ 63 - 1) / 8 := by { decide }; omega
  have hfit : ¬ (!Builtin.List.listFitsIndex k) = true := by rw [fitsIndex_both (by omega) (by omega)]; exact Bool.false_ne_true
  have hlong : ¬ Builtin.List.listTooLong (its.toArray.size * k.toNat) = true := by rw [notLongL hlen]; exact Bool.false_ne_true
  have hnew : List.foldl (fun x1 x2 => x1 ++ x2) #[] (List.replicate (if its.toArray.isEmpty = true then 0 else k.toNat) its.toArray) = (List.replicate k.toNat its).flatten.toArray := by rw [reps]; cases its with
    | nil => simp
    | cons a b => rw [if_neg (by simp)]
  refine wpAny_binaryOp_repeat_ref (T := "list") (U := "int") (by decide) ⟨_, e, rfl⟩ (fun s' => typeIs_int s' k t) noFill_list_mul F.fills_int_mul F.slot_int_rmul repeat_list F.slot_int_index.lookup (call_meets F.slot_int_rmul (typeIs_int s k t) F.entry_int_rmul (F.args_int_rmul_2 _ _) (int___rmul___int_list k t l its.toArray n) ⟨e, rfl, ⟨_, e, rfl⟩, call_meets F.slot_list_mul ⟨_, e, rfl⟩ F.entry_list_mul (F.args_list_mul_2 _ _) (AutoListH.list___mul___list_int_3 l its.toArray n k t hfit hcap hlong) ⟨e, ?_⟩⟩)
  rw [hnew]
  exact ⟨.ref _, _, I.lnew (t' := s.toks) (r.rep k.toNat) (by rw [lm_len_rep_flat, sizeLine_eq, hl]; omega), rfl, q _ I.fresh⟩
/-- a text -/
theorem op_mulZ : OpR X (binaryOp .Mult) (fun x y H Q => ∃ z k, x = .str z ∧ y = .int k ∧ 2 ≤ k ∧ k ≤ 1000 ∧ 1 ≤ z.length ∧ z.length ≤ 1000 ∧ Q (.str (Txt.mul z k)) H) := by
  intro pins s σ H x y v u Q I rx ry h
  obtain ⟨z, k, rfl, rfl, k2, kM, z1, zM, q⟩ := h
  obtain ⟨t, rfl⟩ := rx; obtain ⟨t', rfl⟩ := ry
  refine SB.mul ⟨by simp; omega, fun _ _ => ?_, fun _ _ => ?_⟩ fun t' tk => ⟨.str (Txt.mul z k), H, I.tok _, ⟨_, rfl⟩, q⟩
  · have m : (z.length : Int) * k ≤ 1000 * 1000 := by
      have a1 : (z.length : Int) * k ≤ 1000 * k := Int.mul_le_mul_of_nonneg_right (by omega) (by omega)
      omega
    have d : (z.length : Int) ≤ (2 ^ 63 - 1) / k := (Int.le_ediv_iff_mul_le (by omega)).mpr (by omega)
    omega
  · have m : z.length * k.toNat ≤ 1000 * 1000 := Nat.mul_le_mul zM (by omega)
    unfold Builtin.Str.tooLong
    rw [sizeLine_eq]
    exact decide_eq_false (by omega)
end
end PL
/-! PL: truth values in sums, products, quotients. -/
namespace PL
open PySem L2 PyProof.Rows
theorem give_fdvB (a : Bool) (b : Int) (u : Tok) (hc0 : ¬(b == 0) = true) (hc1 : ¬(Builtin.divisionGoesByPylong (if a = true then (1 : Int) else 0) b) = true) :
    Gives (Builtin.«int.__floordiv__» ⟨[.bool a, .int b u], []⟩) (.int ((if a = true then (1 : Int) else 0).fdiv b)) :=
  .of_wp fun M A E s Q h => by obtain ⟨hp, g, d, tk, os⟩ := s; wp_walk; exact ⟨_, rfl, h⟩
theorem give_negB (a : Bool) : Gives (Builtin.«int.__neg__» ⟨[.bool a], []⟩) (.int (-(if a = true then (1 : Int) else 0))) :=
  .of_wp fun M A E s Q h => by obtain ⟨hp, g, d, tk, os⟩ := s; wp_walk; exact ⟨_, rfl, h⟩
section
variable {X : Cx}
theorem op_addB : OpR X (binaryOp .Add) (fun x y H Q => ∃ k j, x = .bl k ∧ y = .int j ∧ Q (.int ((if k = true then (1 : Int) else 0) + j)) H) := by
  intro pins s σ H x y v u Q I rx ry h
  obtain ⟨k, j, rfl, rfl, q⟩ := h
  cases rx; obtain ⟨t, rfl⟩ := ry
  exact IntBool.add_bool_int ⟨.int _, H, I.tok _, ⟨_, rfl⟩, q⟩
theorem op_mulB : OpR X (binaryOp .Mult) (fun x y H Q => ∃ k j, x = .bl k ∧ y = .int j ∧ Q (.int ((if k = true then (1 : Int) else 0) * j)) H) := by
  intro pins s σ H x y v u Q I rx ry h
  obtain ⟨k, j, rfl, rfl, q⟩ := h
  cases rx; obtain ⟨t, rfl⟩ := ry
  exact IntBool.mul_bool_int ⟨.int _, H, I.tok _, ⟨_, rfl⟩, q⟩
theorem op_fdvB : OpR X (binaryOp .FloorDiv) (fun x y H Q => ∃ k j, x = .bl k ∧ y = .int j ∧ (0 < j ∧ j < 1073741824) ∧ Q (.int ((if k = true then (1 : Int) else 0) / j)) H) := by
  intro pins s σ H x y v u Q I rx ry h
  obtain ⟨k, j, rfl, rfl, ⟨h1, h2⟩, q⟩ := h
  cases rx; obtain ⟨t, rfl⟩ := ry
  have e0 : ¬ (j == 0) = true := by simp; omega
  have e1 : ¬ (Builtin.divisionGoesByPylong (if k = true then (1 : Int) else 0) j) = true := by rw [PyProof.noPylong_small (by omega)]; exact Bool.false_ne_true
  have g := give_fdvB k j t e0 e1
  rw [Int.fdiv_eq_ediv_of_nonneg _ (by omega)] at g
  exact binaryOp_left_gives (op := .FloorDiv) (T := "bool") (U := "int") (by decide) rfl (fun s' => typeIs_int s' j t) F.fills_bool_floordiv F.fills_int_floordiv F.sub_int_bool F.slot_bool_floordiv F.slot_int_rfloordiv F.entry_int_floordiv (F.args_int_floordiv_2 _ _)
    g trivial ⟨.int _, H, I.tok _, ⟨_, rfl⟩, q⟩
theorem un_negB : UnR X (unaryOp .USub) (fun x H Q => ∃ k, x = .bl k ∧ Q (.int (-(if k = true then (1 : Int) else 0))) H) := by
  intro pins s σ H x v Q I rx h
  obtain ⟨k, rfl, q⟩ := h
  cases rx
  exact unaryOp_gives (op := .USub) (T := "bool") rfl rfl F.slot_bool_neg F.entry_int_neg (F.args_int_neg_1 _) (give_negB k) ⟨.int _, H, I.tok _, ⟨_, rfl⟩, q⟩
end
theorem tuple_mul0 (l : Addr) (n : Nat) (dd : Option Addr) (sl : Array (Option Value)) (x : Int) (u : Tok) (c0 : (decide (x < -(2 ^ 63)) || decide (x ≥ 2 ^ 63)) = false) :
    Meets (Builtin.«tuple.__mul__» ⟨[.ref l, .int x u], []⟩) (fun _ R s => s.heap.get? l = some { cls := .type "tuple", dict := dd, data := .seq #[] n, slots := sl } ∧ R (.ok (.ret (Value.ref l))) s) :=
  .of_wp fun prog w A R s h => by
    obtain ⟨hp, g, d, tk, os⟩ := s
    obtain ⟨hl, h⟩ := h
    have f1 := AutoSeq1.idx_int
    wp_walk using wpAny_loadPart' hl
    repeat (first
      | (refine wpAny_ite_false (decide_eq_false (by rw [c0]; exact Bool.false_ne_true)) ?_; wp_walk using wpAny_loadPart' hl))
    exact ⟨_, rfl, h⟩
section
variable {X : Cx}
/-- the empty tuple, at least twice -/
theorem op_mulT0 : OpR X (binaryOp .Mult) (fun x y H Q => ∃ l k, x = .ref l ∧ y = .int k ∧ SqT X.K H l [] ∧ 2 ≤ k ∧ k ≤ 1000000 ∧ Q (.ref l) H) := by
  intro pins s σ H x y v u Q I rx ry h
  obtain ⟨l, k, rfl, rfl, hT, k2, kM, q⟩ := h
  cases rx; obtain ⟨t, rfl⟩ := ry
  obtain ⟨its, r, ⟨⟨cls, dd, data, sl⟩, ho, hc, n, hd⟩, hs⟩ := I.tuple hT
  simp only at hc hd; subst hc hd
  obtain rfl : its = [] := List.eq_nil_of_length_eq_zero r.length.symm
  have b0 : (decide (k < -(2 ^ 63)) || decide (k ≥ 2 ^ 63)) = false := by simp; omega
  exact wpAny_binaryOp_repeat_ref (T := "tuple") (U := "int") (by decide) ⟨_, ho, rfl⟩ (fun s' => typeIs_int s' k t) noFill_tuple_mul F.fills_int_mul F.slot_int_rmul repeat_tuple F.slot_int_index.lookup (call_meets F.slot_int_rmul (typeIs_int s k t) F.entry_int_rmul (F.args_int_rmul_2 _ _) (int_rmul_tuple k t l _ n dd sl) ⟨ho, rfl, ⟨_, ho, rfl⟩, call_meets F.slot_tuple_mul ⟨_, ho, rfl⟩ F.entry_tuple_mul (F.args_tuple_mul_2 _ _) (tuple_mul0 l n dd sl k t b0) ⟨ho, ⟨.ref l, H, I, rfl, q⟩⟩⟩)
end
end PL
/-! PL: operators, subscripts, slices, built-ins, by the layer's rules. -/
namespace PL
open PySem L2

/-- heaps that only grow -/
structure Gw (F H F' H' : Hp) : Prop where
  f : Sub F F'
  h : Sub H H'
  n : ∀ a o, H a = some o → F a = none → F' a = none
theorem Gw.refl (F H : Hp) : Gw F H F H := ⟨Sub.refl F, Sub.refl H, fun _ _ _ n => n⟩
/-- what follows a plain value z, the store as it is -/
def Fi (K : PySem.W.Frag) (F : Hp) (S : Sto) (H : Hp) (Q : VK) (z : D) : Prop := ∀ v H' F', Gw F H F' H' → RelS K F' S H' → Den K F' z v → Q v H'
section
variable {X : Cx} {K : PySem.W.Frag}
theorem Gw.new {F H : Hp} {p : Addr} {o : HO} (f : F p = none) (n : H p = none) : Gw F H (upd F p o) (upd H p o) := ⟨Sub.new f, Sub.new n, fun a u e m => by
  rw [upd_ne (ne_of_none e n)]
  exact m⟩
theorem Fi.now {F H : Hp} {S : Sto} {Q : VK} {z : D} (h : Fi K F S H Q z) {v : V} (r : RelS K F S H) (d : Den K F z v) : Q v H := h v H F (Gw.refl F H) r d
theorem Fi.tup {F H : Hp} {S : Sto} {Q : VK} {ds : List D} {vs : List V} (h : Fi K F S H Q (.tup ds)) (r : RelS K F S H) (z : ds.length ≤ sizeLine) (d : Dens K F ds vs) {p : Addr} (n : H p = none) : Q (.ref p) (upd H p (.tup vs)) := by
  obtain ⟨r', s⟩ := r.newF (o := .tup vs) n
  exact h _ _ _ (Gw.new (r.sub.none n) n) r' (.mkTup z (.inl (.inl upd_same)) (d.mono s))

def rBin (K : PySem.W.Frag) (op : Operator) : R2 := fun x y H Q => ∃ F S d e z, RelS K F S H ∧ Den K F d x ∧ Den K F e y ∧ binD op d e = some z ∧ Fi K F S H Q z
theorem Dens.rep {F : Hp} {ds : List D} {vs : List V} (h : Dens K F ds vs) : ∀ k : Nat, Dens K F (List.replicate k ds).flatten (List.replicate k vs).flatten
  | 0 => .nil
  | k + 1 => by
    rw [List.replicate_succ, List.replicate_succ, List.flatten_cons, List.flatten_cons]
    exact h.append (Dens.rep h k)
theorem ifc_some {c : Prop} {z y : D} (h : ifc c z = some y) : c ∧ y = z := by
  unfold ifc at h
  split at h
  · rename_i hc
    cases h
    exact ⟨hc, rfl⟩
  · cases h
theorem op_bin (op : Operator) : OpR X (binaryOp op) (rBin X.K op) := by
  intro pins s σ H x y v u Q I rx ry h
  obtain ⟨F, S, d, e, z, r, hd, he, hz, q⟩ := h
  unfold binD at hz
  split at hz
  · rw [hd.int_] at rx; rw [he.int_] at ry
    cases hz
    exact op_add pins s σ H _ _ v u Q I rx ry ⟨_, _, rfl, rfl, q.now r (.mkInt _)⟩
  · rw [hd.str_] at rx; rw [he.str_] at ry
    split at hz
    · rename_i hl
      cases hz
      exact op_add_str pins s σ H _ _ v u Q I rx ry ⟨_, _, rfl, rfl, hl, q.now r (.mkStr _)⟩
    · cases hz
  · split at hz
    · rename_i hl
      cases hz
      obtain ⟨z1, a, vs, rfl, q1, t1⟩ := hd.tup_
      obtain ⟨z2, b, us, rfl, q2, t2⟩ := he.tup_
      refine op_catA pins s σ H _ _ v u Q I rx ry ⟨a, b, vs, us, rfl, rfl, r.sub.sqT q1, r.sub.sqT q2, by rw [t1.len, t2.len]; exact hl, fun z => ?_, fun _ z => ?_, fun _ _ p n => ?_⟩
      · subst z
        refine q.now r (.mkTup (by simpa using hl) q2 ?_)
        have := t1.append t2
        simpa using this
      · subst z
        refine q.now r (.mkTup (by simpa using hl) q1 ?_)
        have := t1.append t2
        simpa using this
      · exact q.tup r (by simpa using hl) (t1.append t2) n
    · cases hz
  · rw [hd.int_] at rx; rw [he.int_] at ry
    cases hz
    exact op_sub pins s σ H _ _ v u Q I rx ry ⟨_, _, rfl, rfl, q.now r (.mkInt _)⟩
  · rw [hd.int_] at rx; rw [he.int_] at ry
    obtain ⟨hl, rfl⟩ := ifc_some hz
    exact op_mul pins s σ H _ _ v u Q I rx ry ⟨_, _, rfl, rfl, hl, q.now r (.mkInt _)⟩
  · obtain ⟨hl, rfl⟩ := ifc_some hz
    rw [he.int_] at ry
    obtain ⟨z1, a, vs, rfl, q1, t1⟩ := hd.tup_
    by_cases e : vs = []
    · subst e
      have := t1.len
      obtain rfl := List.eq_nil_of_length_eq_zero this.symm
      refine op_mulT0 pins s σ H _ _ v u Q I rx ry ⟨a, _, rfl, rfl, r.sub.sqT q1, hl.1, hl.2.1, ?_⟩
      have e0 : ∀ k : Nat, (List.replicate k ([] : List D)).flatten = [] := fun k => by
        induction k with
        | zero => rfl
        | succ k ih => rw [List.replicate_succ, List.flatten_cons, ih]; rfl
      rw [e0] at q
      exact q.now r (.mkTup z1 q1 t1)
    refine op_mulT pins s σ H _ _ v u Q I rx ry ⟨a, _, vs, rfl, rfl, r.sub.sqT q1, e, hl.1, hl.2.1, by rw [t1.len]; exact hl.2.2, fun p n => q.tup r ?_ (Dens.rep t1 _) n⟩
    rw [PyProof.Rows.lm_len_rep_flat, sizeLine_eq]
    exact Nat.le_trans hl.2.2 (by decide)
  · obtain ⟨hl, rfl⟩ := ifc_some hz
    rw [hd.str_] at rx; rw [he.int_] at ry
    exact op_mulZ pins s σ H _ _ v u Q I rx ry ⟨_, _, rfl, rfl, hl.1, hl.2.1, hl.2.2.1, hl.2.2.2, q.now r (.mkStr _)⟩
  · rw [hd.int_] at rx; rw [he.int_] at ry
    obtain ⟨hl, rfl⟩ := ifc_some hz
    exact op_fdiv pins s σ H _ _ v u Q I rx ry ⟨_, _, rfl, rfl, hl, q.now r (.mkInt _)⟩
  · rw [hd.int_] at rx; rw [he.int_] at ry
    obtain ⟨hl, rfl⟩ := ifc_some hz
    exact op_mod pins s σ H _ _ v u Q I rx ry ⟨_, _, rfl, rfl, hl, q.now r (.mkInt _)⟩
  · rw [hd.int_] at rx; rw [he.int_] at ry
    obtain ⟨hl, rfl⟩ := ifc_some hz
    exact op_pow pins s σ H _ _ v u Q I rx ry ⟨_, _, rfl, rfl, hl, q.now r (.mkInt _)⟩
  · rw [hd.bl_] at rx; rw [he.int_] at ry
    cases hz
    exact op_addB pins s σ H _ _ v u Q I rx ry ⟨_, _, rfl, rfl, q.now r (.mkInt _)⟩
  · rw [hd.bl_] at rx; rw [he.int_] at ry
    cases hz
    exact op_mulB pins s σ H _ _ v u Q I rx ry ⟨_, _, rfl, rfl, q.now r (.mkInt _)⟩
  · rw [hd.bl_] at rx; rw [he.int_] at ry
    obtain ⟨hl, rfl⟩ := ifc_some hz
    exact op_fdvB pins s σ H _ _ v u Q I rx ry ⟨_, _, rfl, rfl, hl, q.now r (.mkInt _)⟩
  · cases hz

def rNeg (K : PySem.W.Frag) : V → Hp → VK → Prop := fun x H Q => (∃ F S i, RelS K F S H ∧ x = .int i ∧ Fi K F S H Q (.int (-i))) ∨ ∃ F S k, RelS K F S H ∧ x = .bl k ∧ Fi K F S H Q (.int (-(if k = true then (1 : Int) else 0)))
theorem un_negP : UnR X (unaryOp .USub) (rNeg X.K) := by
  intro pins s σ H x v Q I rx h
  rcases h with ⟨F, S, i, r, rfl, q⟩ | ⟨F, S, i, r, rfl, q⟩
  · exact un_neg pins s σ H _ v Q I rx ⟨_, rfl, q.now r (.mkInt _)⟩
  · exact un_negB pins s σ H _ v Q I rx ⟨_, rfl, q.now r (.mkInt _)⟩

/-! ### comparisons -/
theorem shaped_pos {ds : List D} : pyOf (.tup ds) = .tuple (pyOfs ds) := by unfold pyOf; rfl
theorem shaped_lst {ds : List D} : pyOf (.lst ds) = .list (pyOfs ds) := by unfold pyOf; rfl
theorem any_py {x : D} {n m : Nat} (h : okD n x = true) : ∀ {ys : List D}, okDs m ys = true → ((pyOfs ys).any fun z => PyData.eqv z (pyOf x)) = ys.any fun y => eqD y x
  | [], _ => by simp [pyOfs]
  | y :: ys, g => by
    unfold okDs at g
    rw [Bool.and_eq_true] at g
    simp only [pyOfs, List.any_cons]
    rw [eqv_eqD y x m n g.1 h, any_py h g.2]
theorem okD50 {x : D} : ∀ {n m : Nat}, n ≤ m → okD n x = true → okD m x = true := by
  have both : (∀ x : D, ∀ n m : Nat, n ≤ m → okD n x = true → okD m x = true) ∧ True := by
    refine ⟨fun x => ?_, trivial⟩
    exact (D.rec (motive_1 := fun x => ∀ n m : Nat, n ≤ m → okD n x = true → okD m x = true) (motive_2 := fun xs => ∀ n m : Nat, n ≤ m → okDs n xs = true → okDs m xs = true)
      (fun n m _ h => by cases m <;> simp [okD]) (fun b n m _ h => by cases m <;> simp [okD]) (fun b n m _ h => by cases m <;> simp [okD]) (fun b n m _ h => by cases n <;> cases m <;> simpa [okD] using h)
      (fun xs ih n m l h => by
        cases n with
        | zero => simp [okD] at h
        | succ n => cases m with
          | zero => omega
          | succ m =>
            unfold okD at h ⊢
            exact ih n m (by omega) h)
      (fun xs ih n m l h => by
        cases n with
        | zero => simp [okD] at h
        | succ n => cases m with
          | zero => omega
          | succ m =>
            unfold okD at h ⊢
            exact ih n m (by omega) h)
      (fun b n m _ h => by cases n <;> simp [okD] at h)
      (fun b n m _ h => by cases n <;> simp [okD] at h)
      (fun n m _ h => by simp [okDs])
      (fun x xs i1 i2 n m l h => by
        unfold okDs at h ⊢
        rw [Bool.and_eq_true] at h ⊢
        exact ⟨i1 n m l h.1, i2 n m l h.2⟩) x)
  exact fun {n m} l h => both.1 x n m l h

theorem okD_in {n : Nat} {ys : List D} (h : okD (n + 1) (.tup ys) = true) : okDs n ys = true := by
  unfold okD at h
  exact h
theorem okD_inL {n : Nat} {ys : List D} (h : okD (n + 1) (.lst ys) = true) : okDs n ys = true := by
  unfold okD at h
  exact h
def rCmp (K : PySem.W.Frag) (op : CmpOp) : R2 := fun x y H Q => ∃ F S d e z, RelS K F S H ∧ Den K F d x ∧ Den K F e y ∧ cmpD op d e = some z ∧ Fi K F S H Q (.bl z)
theorem is_non {d : D} {v : V} {F : Hp} (h : Den K F d v) : decide (v = .non) = isNon d := by
  cases d with
  | non => cases h.non_; rfl
  | bl b => cases h.bl_; rfl
  | int b => cases h.int_; rfl
  | str b => cases h.str_; rfl
  | ref b => cases h.ref_; rfl
  | scr b => obtain ⟨_, a, rfl, _⟩ := h.scr_; rfl
  | tup b => obtain ⟨_, a, vs, rfl, _⟩ := h.tup_; rfl
  | lst b => obtain ⟨_, a, vs, rfl, _⟩ := h.lst_; rfl
theorem op_cmp (op : CmpOp) (hu : X.A.units + 65 < cLine) : OpR X (compareOp op) (rCmp X.K op) := by
  intro pins s σ H x y v u Q I rx ry h
  obtain ⟨F, S, d, e, z, r, hd, he, hz, q⟩ := h
  have hu4 : X.A.units + 64 < cLine := by omega
  unfold cmpD at hz
  split at hz
  · rw [hd.int_] at rx; rw [he.int_] at ry
    cases hz
    refine op_eq pins s σ H _ _ v u Q I rx ry ⟨rfl, ?_⟩
    simp only [V.int.injEq]
    exact q.now r (.mkBl _)
  · rw [hd.int_] at rx; rw [he.int_] at ry
    cases hz
    refine op_ne pins s σ H _ _ v u Q I rx ry ⟨rfl, ?_⟩
    simp only [V.int.injEq]
    exact q.now r (.mkBl _)
  · rw [hd.str_] at rx; rw [he.str_] at ry
    cases hz
    refine op_eq pins s σ H _ _ v u Q I rx ry ⟨rfl, ?_⟩
    simp only [V.str.injEq]
    exact q.now r (.mkBl _)
  · rw [hd.str_] at rx; rw [he.str_] at ry
    cases hz
    refine op_ne pins s σ H _ _ v u Q I rx ry ⟨rfl, ?_⟩
    simp only [V.str.injEq]
    exact q.now r (.mkBl _)
  · split at hz
    · rename_i ho
      cases hz
      obtain ⟨p1, s1⟩ := hd.shaped ho.1
      obtain ⟨p2, s2⟩ := he.shaped ho.2
      refine op_eqD hu4 pins s σ H _ _ v u Q I rx ry ⟨_, _, dpMono r.sub p1, dpMono r.sub p2, s1, s2, ?_⟩
      rw [eqv_eqD _ _ _ _ ho.1 ho.2]
      exact q.now r (.mkBl _)
    · cases hz
  · split at hz
    · rename_i ho
      cases hz
      obtain ⟨p1, s1⟩ := hd.shaped ho.1
      obtain ⟨p2, s2⟩ := he.shaped ho.2
      refine op_neD hu4 pins s σ H _ _ v u Q I rx ry ⟨_, _, dpMono r.sub p1, dpMono r.sub p2, s1, s2, ?_⟩
      rw [eqv_eqD _ _ _ _ ho.1 ho.2]
      exact q.now r (.mkBl _)
    · cases hz
  · rw [hd.int_] at rx; rw [he.int_] at ry
    cases hz
    exact op_lt pins s σ H _ _ v u Q I rx ry ⟨_, _, rfl, rfl, q.now r (.mkBl _)⟩
  · rw [hd.int_] at rx; rw [he.int_] at ry
    cases hz
    exact op_le pins s σ H _ _ v u Q I rx ry ⟨_, _, rfl, rfl, q.now r (.mkBl _)⟩
  · rw [hd.int_] at rx; rw [he.int_] at ry
    cases hz
    exact op_gt pins s σ H _ _ v u Q I rx ry ⟨_, _, rfl, rfl, q.now r (.mkBl _)⟩
  · rw [hd.int_] at rx; rw [he.int_] at ry
    cases hz
    exact op_ge pins s σ H _ _ v u Q I rx ry ⟨_, _, rfl, rfl, q.now r (.mkBl _)⟩
  · rw [hd.str_] at rx; rw [he.str_] at ry
    cases hz
    exact op_lt_str pins s σ H _ _ v u Q I rx ry ⟨_, _, rfl, rfl, q.now r (.mkBl _)⟩
  · rw [he.non_] at ry
    cases hz
    refine op_isN pins s σ H _ _ v u Q I rx ry ⟨rfl, ?_⟩
    rw [is_non hd]
    exact q.now r (.mkBl _)
  · rw [he.non_] at ry
    cases hz
    refine op_notN pins s σ H _ _ v u Q I rx ry ⟨rfl, ?_⟩
    rw [is_non hd]
    exact q.now r (.mkBl _)
  · rw [hd.bl_] at rx; rw [he.bl_] at ry
    cases hz
    exact op_isBl pins s σ H _ _ v u Q I rx ry ⟨_, _, rfl, rfl, q.now r (.mkBl _)⟩
  · rw [hd.bl_] at rx; rw [he.bl_] at ry
    cases hz
    exact op_notBl pins s σ H _ _ v u Q I rx ry ⟨_, _, rfl, rfl, q.now r (.mkBl _)⟩
  · split at hz
    · rename_i ho
      cases hz
      obtain ⟨p1, s1⟩ := hd.shaped (okD50 (by omega) ho.1)
      obtain ⟨p2, s2⟩ := he.shaped ho.2
      obtain ⟨as, r1⟩ := Dp.reads I _ x v (dpMono r.sub p1) rx
      rw [shaped_pos] at p2 s2
      obtain ⟨bs, r2⟩ := Dp.reads I _ y u (dpMono r.sub p2) ry
      refine SeqAt.in_tuple_reads r2 r1 (SeqAt.canLay_of_shaped s2) (SeqAt.canLay_of_shaped s1) (PyProof.Rows.room_in_shaped s1 hu) ⟨.bl _, H, I, rfl, ?_⟩
      rw [any_py ho.1 (okD_in ho.2)]
      exact q.now r (.mkBl _)
    · cases hz
  · split at hz
    · rename_i ho
      cases hz
      obtain ⟨p1, s1⟩ := hd.shaped (okD50 (by omega) ho.1)
      obtain ⟨p2, s2⟩ := he.shaped ho.2
      obtain ⟨as, r1⟩ := Dp.reads I _ x v (dpMono r.sub p1) rx
      rw [shaped_pos] at p2 s2
      obtain ⟨bs, r2⟩ := Dp.reads I _ y u (dpMono r.sub p2) ry
      refine SeqAt.notIn_tuple_reads r2 r1 (SeqAt.canLay_of_shaped s2) (SeqAt.canLay_of_shaped s1) (PyProof.Rows.room_in_shaped s1 hu) ⟨.bl _, H, I, rfl, ?_⟩
      rw [any_py ho.1 (okD_in ho.2)]
      exact q.now r (.mkBl _)
    · cases hz
  · split at hz
    · rename_i ho
      cases hz
      obtain ⟨p1, s1⟩ := hd.shaped (okD50 (by omega) ho.1)
      obtain ⟨p2, s2⟩ := he.shaped ho.2
      rw [shaped_lst] at p2 s2
      refine op_inD hu pins s σ H _ _ v u Q I rx ry ⟨_, _, dpMono r.sub p1, dpMono r.sub p2, s1, s2, ?_⟩
      rw [any_py ho.1 (okD_inL ho.2)]
      exact q.now r (.mkBl _)
    · cases hz
  · split at hz
    · rename_i ho
      cases hz
      obtain ⟨p1, s1⟩ := hd.shaped (okD50 (by omega) ho.1)
      obtain ⟨p2, s2⟩ := he.shaped ho.2
      rw [shaped_lst] at p2 s2
      refine op_notInD hu pins s σ H _ _ v u Q I rx ry ⟨_, _, dpMono r.sub p1, dpMono r.sub p2, s1, s2, ?_⟩
      rw [any_py ho.1 (okD_inL ho.2)]
      exact q.now r (.mkBl _)
    · cases hz
  · rename_i c w
    rw [hd.str_] at rx; rw [he.str_] at ry
    unfold sgnIn at hz
    split at hz
    · rename_i k hk
      cases hz
      have ec : c = ⟨#[k]⟩ := by
        obtain ⟨⟨l⟩⟩ := c
        simp only at hk
        subst hk
        rfl
      subst ec
      exact op_in_sign pins s σ H _ _ v u Q I rx ry ⟨k, w, rfl, rfl, q.now r (.mkBl _)⟩
    · cases hz
  · rename_i c w
    rw [hd.str_] at rx; rw [he.str_] at ry
    unfold sgnIn at hz
    split at hz
    · rename_i k hk
      cases hz
      have ec : c = ⟨#[k]⟩ := by
        obtain ⟨⟨l⟩⟩ := c
        simp only at hk
        subst hk
        rfl
      subst ec
      exact op_notIn_sign pins s σ H _ _ v u Q I rx ry ⟨k, w, rfl, rfl, q.now r (.mkBl _)⟩
    · cases hz
  · cases hz
end
end PL
namespace PL
open PySem L2
section
variable {X : Cx} {K : PySem.W.Frag}

/-! ### o[i], o[lo:hi] -/
theorem RelS.lst {F H : Hp} {S : Sto} (r : RelS K F S H) {a : Addr} {xs : List D} (e : S a = some (.lst xs)) : F a = none ∧ xs.length ≤ sizeLine ∧ ∃ vs, H a = some (.lst vs) ∧ Dens K F xs vs := by
  obtain ⟨n, q⟩ := r.ob a _ e
  exact ⟨n, q⟩
def rIdx (K : PySem.W.Frag) : R2 := fun x y H Q => ∃ F S d e z, RelS K F S H ∧ Den K F d x ∧ Den K F e y ∧ idxD S d e = some z ∧ Fi K F S H Q z
theorem ix_D : IxR X (rIdx X.K) := by
  intro value slice pins s σ H x y v u Q I rx ry h hs
  obtain ⟨F, S, d, e, z, r, hd, he, hz, q⟩ := h
  unfold idxD at hz
  split at hz
  · cases he.int_
    obtain ⟨_, a, vs, rfl, q1, t1⟩ := hd.tup_
    obtain ⟨w, e1, e2⟩ := atI_den t1 hz
    exact ix_tup value slice pins s σ H _ _ v u Q I rx ry ⟨a, vs, _, w, rfl, rfl, r.sub.sqT q1, e1, q.now r e2⟩ hs
  · cases he.int_
    obtain ⟨_, a, vs, rfl, q1, t1⟩ := hd.lst_
    obtain ⟨w, e1, e2⟩ := atI_den t1 hz
    exact ix_list value slice pins s σ H _ _ v u Q I rx ry ⟨a, vs, _, w, rfl, rfl, .inl (r.sub.rd q1), e1, q.now r e2⟩ hs
  · cases he.int_
    cases hd.str_
    split at hz
    · rename_i hl
      rw [Option.map_eq_some_iff] at hz
      obtain ⟨c, e1, rfl⟩ := hz
      exact ix_str value slice pins s σ H _ _ v u Q I rx ry ⟨_, _, c, rfl, rfl, hl, e1, q.now r (.mkStr _)⟩ hs
    · cases hz
  · cases he.int_
    cases hd.ref_
    split at hz
    · rename_i ho
      obtain ⟨_, _, vs, q1, t1⟩ := r.lst ho
      obtain ⟨w, e1, e2⟩ := atI_den t1 hz
      exact ix_list value slice pins s σ H _ _ v u Q I rx ry ⟨_, vs, _, w, rfl, rfl, .inl (.inl q1), e1, q.now r e2⟩ hs
    · cases hz
  · cases hz
def rSlc (K : PySem.W.Frag) : V → Option Int → Option Int → Hp → VK → Prop := fun x lo hi H Q => ∃ F S d z, RelS K F S H ∧ Den K F d x ∧ slcD d lo hi = some z ∧ Fi K F S H Q z
theorem sl_D : SlR X (rSlc X.K) := by
  intro pins s σ H x v vl vu lo hi sl Q I rx hs pl pu h
  obtain ⟨F, S, d, z, r, hd, hz, q⟩ := h
  unfold slcD at hz
  split at hz
  · cases hz
    obtain ⟨hl, a, vs, rfl, q1, t1⟩ := hd.tup_
    have ht := t1.cut lo hi
    have hz := Nat.le_trans (cutL_len _ lo hi) hl
    refine sl_tupA pins s σ H _ v vl vu lo hi sl Q I rx hs pl pu ⟨a, vs, rfl, r.sub.sqT q1, fun w => ?_, fun _ p n => q.tup r hz ht n⟩
    have e : cutV vs lo hi = vs := by
      unfold cutV
      rw [w.1, w.2]
      simp
    rw [e] at ht
    exact q.now r (.mkTup hz q1 ht)
  · cases hd.str_
    split at hz
    · rename_i hl
      cases hz
      exact sl_str pins s σ H _ v vl vu lo hi sl Q I rx hs pl pu ⟨_, rfl, hl, q.now r (.mkStr _)⟩
    · cases hz
  · cases hz
/-! ### lists read -/
theorem items_at {F H : Hp} {S : Sto} {d : D} {x : V} {xs : List D} (r : RelS K F S H) (hd : Den K F d x) (e : itemsD S d = some xs) : xs.length ≤ sizeLine ∧ ∃ a vs, x = .ref a ∧ SqL K H a vs ∧ Dens K F xs vs := by
  unfold itemsD at e
  split at e
  · cases e
    obtain ⟨z, a, vs, rfl, q1, t1⟩ := hd.lst_
    exact ⟨z, a, vs, rfl, .inl (r.sub.rd q1), t1⟩
  · cases hd.ref_
    split at e
    · rename_i ho
      cases e
      obtain ⟨_, z, vs, q1, t1⟩ := r.lst ho
      exact ⟨z, _, vs, rfl, .inl (.inl q1), t1⟩
    · cases e
  · cases e
theorem seq_at {F H : Hp} {S : Sto} {d : D} {x : V} {xs : List D} (r : RelS K F S H) (hd : Den K F d x) (e : seqD S d = some xs) : xs.length ≤ sizeLine ∧ ∃ a vs, x = .ref a ∧ (SqL K H a vs ∨ (d = .tup xs ∧ SqT K F a vs)) ∧ Dens K F xs vs := by
  unfold seqD at e
  split at e
  · cases e
    obtain ⟨z, a, vs, rfl, q1, t1⟩ := hd.tup_
    exact ⟨z, a, vs, rfl, .inr ⟨rfl, q1⟩, t1⟩
  · cases e
    obtain ⟨z, a, rfl, q1⟩ := hd.scr_
    exact ⟨by rw [List.length_map]; exact z, a, _, rfl, .inl (r.sub.sqL q1), Dens.ints _⟩
  · obtain ⟨z, a, vs, h1, h2, h3⟩ := items_at r hd e
    exact ⟨z, a, vs, h1, .inl h2, h3⟩

/-! ### truth -/
theorem emp_of {F : Hp} : ∀ {ds : List D} {vs : List V}, Dens K F ds vs → (!ds.isEmpty) = !vs.isEmpty
  | [], _, h => by
    rw [h.nil_inv]
    rfl
  | d :: ds, _, h => by
    obtain ⟨v, r, rfl, _, _⟩ := h.cons_inv
    rfl
theorem foldl_max_mem : ∀ (r : List Int) (n : Int), r.foldl max n ∈ n :: r ∧ ∀ y ∈ n :: r, y ≤ r.foldl max n
  | [], n => by simp
  | m :: r, n => by
    obtain ⟨h1, h2⟩ := foldl_max_mem r (max n m)
    refine ⟨?_, fun y hy => ?_⟩
    · rw [List.foldl_cons]
      rcases List.mem_cons.mp h1 with e | e
      · rw [e]
        rcases (by omega : max n m = n ∨ max n m = m) with q | q <;> rw [q] <;> simp
      · exact List.mem_cons_of_mem _ (List.mem_cons_of_mem _ e)
    · rw [List.foldl_cons]
      have h3 := h2 (max n m) List.mem_cons_self
      rcases List.mem_cons.mp hy with e | hy
      · omega
      · rcases List.mem_cons.mp hy with e | hy
        · omega
        · exact h2 y (List.mem_cons_of_mem _ hy)
theorem foldl_min_mem : ∀ (r : List Int) (n : Int), r.foldl min n ∈ n :: r ∧ ∀ y ∈ n :: r, r.foldl min n ≤ y
  | [], n => by simp
  | m :: r, n => by
    obtain ⟨h1, h2⟩ := foldl_min_mem r (min n m)
    refine ⟨?_, fun y hy => ?_⟩
    · rw [List.foldl_cons]
      rcases List.mem_cons.mp h1 with e | e
      · rw [e]
        rcases (by omega : min n m = n ∨ min n m = m) with q | q <;> rw [q] <;> simp
      · exact List.mem_cons_of_mem _ (List.mem_cons_of_mem _ e)
    · rw [List.foldl_cons]
      have h3 := h2 (min n m) List.mem_cons_self
      rcases List.mem_cons.mp hy with e | hy
      · omega
      · rcases List.mem_cons.mp hy with e | hy
        · omega
        · exact h2 y (List.mem_cons_of_mem _ hy)
theorem truV_D {F H : Hp} {S : Sto} {d : D} {x : V} {k : Bool} (r : RelS K F S H) (hd : Den K F d x) (e : truD S d = some k) : TruV K x H k := by
  unfold truD at e
  split at e
  · cases e
    cases hd.non_
    rfl
  · cases e
    cases hd.bl_
    rfl
  · cases e
    cases hd.int_
    rfl
  · split at e
    · rename_i hl
      cases e
      cases hd.str_
      exact ⟨hl, rfl⟩
    · cases e
  · cases e
    obtain ⟨_, a, vs, rfl, q1, t1⟩ := hd.tup_
    exact .inr (.inl ⟨vs, r.sub.sqT q1, emp_of t1⟩)
  · cases e
    obtain ⟨_, a, vs, rfl, q1, t1⟩ := hd.lst_
    exact .inl ⟨vs, .inl (r.sub.rd q1), emp_of t1⟩
  · split at e
    · rename_i ho
      cases e
      cases hd.ref_
      obtain ⟨_, _, vs, q1, t1⟩ := r.lst ho
      exact .inl ⟨vs, .inl (.inl q1), emp_of t1⟩
    · cases e
  · cases e

/-! ### built-ins -/
theorem bools_of {F : Hp} : ∀ {ds : List D} {vs : List V} {bs : List Bool}, boolsOf ds = some bs → Dens K F ds vs → vs = bs.map V.bl
  | [], vs, bs, e, h => by
    cases e
    exact h.nil_inv
  | d :: ds, vs, bs, e, h => by
    obtain ⟨v, r, rfl, q, t⟩ := h.cons_inv
    unfold boolsOf at e
    split at e
    · contradiction
    · rename_i e1
      injection e1 with e1 e2
      subst e1 e2
      rw [Option.map_eq_some_iff] at e
      obtain ⟨cs, e3, rfl⟩ := e
      cases q.bl_
      rw [bools_of e3 t]
      rfl
    · cases e
theorem ints_of {F : Hp} : ∀ {ds : List D} {vs : List V} {bs : List Int}, intsOf ds = some bs → Dens K F ds vs → vs = bs.map V.int
  | [], vs, bs, e, h => by
    cases e
    exact h.nil_inv
  | d :: ds, vs, bs, e, h => by
    obtain ⟨v, r, rfl, q, t⟩ := h.cons_inv
    unfold intsOf at e
    split at e
    · contradiction
    · rename_i e1
      injection e1 with e1 e2
      subst e1 e2
      rw [Option.map_eq_some_iff] at e
      obtain ⟨cs, e3, rfl⟩ := e
      cases q.int_
      rw [ints_of e3 t]
      rfl
    · cases e
/-- the name by which a built-in is called, its value -/
def Bf.name : Bf → Str
  | .abs => "abs" | .len => "len" | .int => "int" | .str => "str" | .repr => "repr" | .tuple => "tuple" | .max2 => "max" | .min2 => "min" | .maxl => "max" | .minl => "min" | .sum => "sum" | .all => "all" | .any => "any"
def Bf.val : Bf → Value
  | .abs => .builtin "abs" | .len => .builtin "len" | .int => .type "int" | .str => .type "str" | .repr => .builtin "repr" | .tuple => .type "tuple" | .max2 => .builtin "max" | .min2 => .builtin "min" | .maxl => .builtin "max" | .minl => .builtin "min"
  | .sum => .builtin "sum" | .all => .builtin "all" | .any => .builtin "any"
def rFn (K : PySem.W.Frag) (f : Bf) : List V → Hp → VK → Prop := fun xs H Q => ∃ F S ds z, RelS K F S H ∧ Dens K F ds xs ∧ fnD S f ds = some z ∧ Fi K F S H Q z
theorem Dens.one {F : Hp} {d : D} {vs : List V} (h : Dens K F [d] vs) : ∃ v, vs = [v] ∧ Den K F d v := by
  obtain ⟨v, r, rfl, q, t⟩ := h.cons_inv
  cases t.nil_inv
  exact ⟨v, rfl, q⟩
theorem Dens.two {F : Hp} {d e : D} {vs : List V} (h : Dens K F [d, e] vs) : ∃ v w, vs = [v, w] ∧ Den K F d v ∧ Den K F e w := by
  obtain ⟨v, r, rfl, q, t⟩ := h.cons_inv
  obtain ⟨w, rfl, q'⟩ := t.one
  exact ⟨v, w, rfl, q, q'⟩
theorem repr_ok {pins : List (Addr × Obj)} {s : Shared} {σ : L2.St} {H F : Hp} {S : Sto} {d z : D} {x : V} {u : Value} {Q : VK} (gd : X.A.guards = some []) (hu : X.A.units + 70 < cLine) (I : L2.Inv X pins σ H s) (rx : RelV x u) (r : RelS X.K F S H) (hd : Den X.K F d x) (hz : reprD d = some z)
    (q : Fi X.K F S H Q z) : wpAny (model X.prog X.w) X.A (PySem.call (.builtin "repr") [u]) (EP X pins σ Q) X.xe s := by
  unfold reprD at hz
  split at hz
  · rename_i h
    obtain ⟨ho, hs, hl⟩ := h
    cases hz
    have fin : ∀ tk, EP X pins σ Q (.str (pyOf d).shown tk) s → EP X pins σ Q (.str (pyOf d).shown tk) s := fun _ h => h
    cases d with
    | non =>
      cases hd.non_
      cases rx
      exact P.repr_of_none ⟨.str _, H, I.tok _, ⟨_, rfl⟩, q.now r (.mkStr _)⟩
    | bl b =>
      cases hd.bl_
      cases rx
      exact P.repr_of_bool ⟨.str _, H, I.tok _, ⟨_, rfl⟩, q.now r (.mkStr _)⟩
    | int i =>
      cases hd.int_
      obtain ⟨t, rfl⟩ := rx
      have hs' : i.natAbs.log2 < 1920 := by simpa [pyOf, PyData.showable] using hs
      exact P.repr_of_int hs' ⟨.str _, H, I.tok _, ⟨_, rfl⟩, q.now r (.mkStr _)⟩
    | str y =>
      cases hd.str_
      obtain ⟨t, rfl⟩ := rx
      exact P.repr_of_str ⟨.str _, H, I.tok _, ⟨_, rfl⟩, q.now r (.mkStr _)⟩ hl
    | ref a => simp [okD] at ho
    | scr a => simp [okD] at ho
    | tup ds =>
      obtain ⟨dp, sh⟩ := hd.shaped ho
      obtain ⟨as, rd⟩ := Dp.reads I _ x u (dpMono r.sub dp) rx
      obtain ⟨_, a, vs, rfl, q1, t1⟩ := hd.tup_
      cases rx
      have dl := SeqAt.depth_of_shaped sh
      have nd := PyData.hasDict_of_canLay _ (SeqAt.canLay_of_shaped sh)
      exact repr_of_reads' rd hs (PyData.noDict_hsm nd) gd (by omega) (fun _ _ e => e) (fun h' tk' tk k => ⟨.str _, H, I.kept k, ⟨_, rfl⟩, q.now r (.mkStr _)⟩) hl
    | lst ds =>
      obtain ⟨dp, sh⟩ := hd.shaped ho
      obtain ⟨as, rd⟩ := Dp.reads I _ x u (dpMono r.sub dp) rx
      obtain ⟨_, a, vs, rfl, q1, t1⟩ := hd.lst_
      cases rx
      have dl := SeqAt.depth_of_shaped sh
      have nd := PyData.hasDict_of_canLay _ (SeqAt.canLay_of_shaped sh)
      exact repr_of_reads' rd hs (PyData.noDict_hsm nd) gd (by omega) (fun _ _ e => e) (fun h' tk' tk k => ⟨.str _, H, I.kept k, ⟨_, rfl⟩, q.now r (.mkStr _)⟩) hl
  · cases hz
theorem call_fn (f : Bf) (hc : X.calm = true) (gd : X.A.guards = some []) (hu : X.A.units + 70 < cLine) : CallR X f.val (rFn X.K f) := by
  intro pins s σ H xs us Q I rs h
  obtain ⟨F, S, ds, z, r, hd, hz, q⟩ := h
  unfold fnD at hz
  split at hz
  · cases hz
    obtain ⟨v, rfl, d1⟩ := hd.one
    cases d1.int_
    exact call_abs pins s σ H _ us Q I rs ⟨_, rfl, q.now r (.mkInt _)⟩
  · cases hz
    obtain ⟨v, rfl, d1⟩ := hd.one
    cases d1.int_
    exact call_int1 pins s σ H _ us Q I rs (.inl ⟨_, rfl, q.now r (.mkInt _)⟩)
  · cases hz
    obtain ⟨v, rfl, d1⟩ := hd.one
    cases d1.bl_
    exact call_int1 pins s σ H _ us Q I rs (.inr ⟨_, rfl, q.now r (.mkInt _)⟩)
  · obtain ⟨v, rfl, d1⟩ := hd.one
    cases d1.int_
    split at hz
    · rename_i hl
      cases hz
      exact call_str_int pins s σ H _ us Q I rs ⟨_, rfl, hl, q.now r (.mkStr _)⟩
    · cases hz
  · cases hz
    obtain ⟨v, rfl, d1⟩ := hd.one
    cases d1.str_
    exact SkE.call_str_str pins s σ H _ us Q I rs ⟨_, rfl, q.now r (.mkStr _)⟩
  · obtain ⟨v, rfl, d1⟩ := hd.one
    cases d1.str_
    split at hz
    · rename_i hl
      cases hz
      exact call_len_str pins s σ H _ us Q I rs ⟨_, rfl, hl, q.now r (.mkInt _)⟩
    · cases hz
  · obtain ⟨v, rfl, d1⟩ := hd.one
    rw [Option.map_eq_some_iff] at hz
    obtain ⟨ys, e1, rfl⟩ := hz
    obtain ⟨_, a, vs, rfl, q1, t1⟩ := seq_at r d1 e1
    refine call_len_seq pins s σ H _ us Q I rs ⟨a, vs, rfl, ?_, ?_⟩
    · rcases q1 with q1 | ⟨_, q1⟩
      · exact .inl q1
      · exact .inr (r.sub.sqT q1)
    · rw [t1.len]
      exact q.now r (.mkInt _)
  · obtain ⟨v, rfl, d1⟩ := hd.one
    rw [Option.map_eq_some_iff] at hz
    obtain ⟨ys, e1, rfl⟩ := hz
    obtain ⟨hl, a, vs, rfl, q1, t1⟩ := seq_at r d1 e1
    refine call_tuple_of pins s σ H _ us Q I rs ⟨a, vs, rfl, ?_⟩
    rcases q1 with q1 | ⟨rfl, q1⟩
    · exact .inl ⟨q1, fun l n => q.tup r hl t1 n⟩
    · exact .inr ⟨r.sub.sqT q1, q.now r d1⟩
  · obtain ⟨v, rfl, d1⟩ := hd.one
    obtain ⟨u, rfl, r1⟩ := Vals.one rs
    exact repr_ok gd hu I r1 r d1 hz q
  · cases hz
    obtain ⟨v, w, rfl, d1, d2⟩ := hd.two
    cases d1.int_
    cases d2.int_
    exact call_max2 hc pins s σ H _ us Q I rs ⟨_, _, rfl, q.now r (.mkInt _)⟩
  · cases hz
    obtain ⟨v, w, rfl, d1, d2⟩ := hd.two
    cases d1.int_
    cases d2.int_
    exact call_min2 hc pins s σ H _ us Q I rs ⟨_, _, rfl, q.now r (.mkInt _)⟩
  · obtain ⟨v, rfl, d1⟩ := hd.one
    rw [Option.bind_eq_some_iff] at hz
    obtain ⟨ys, e1, hz⟩ := hz
    rw [Option.bind_eq_some_iff] at hz
    obtain ⟨ns, e2, hz⟩ := hz
    obtain ⟨hl, a, vs, rfl, q1, t1⟩ := items_at r d1 e1
    split at hz
    · rename_i n rr
      cases hz
      cases ints_of e2 t1
      refine cr_max hc pins s σ H _ us Q I rs ⟨a, _, rfl, q1, by simp, fun m hm hy => ?_⟩
      obtain ⟨h1, h2⟩ := foldl_max_mem rr n
      have e : m = rr.foldl max n := by
        have a1 := hy _ h1
        have a2 := h2 _ hm
        omega
      rw [e]
      exact q.now r (.mkInt _)
    · cases hz
  · obtain ⟨v, rfl, d1⟩ := hd.one
    rw [Option.bind_eq_some_iff] at hz
    obtain ⟨ys, e1, hz⟩ := hz
    rw [Option.bind_eq_some_iff] at hz
    obtain ⟨ns, e2, hz⟩ := hz
    obtain ⟨hl, a, vs, rfl, q1, t1⟩ := items_at r d1 e1
    split at hz
    · rename_i n rr
      cases hz
      cases ints_of e2 t1
      refine cr_min hc pins s σ H _ us Q I rs ⟨a, _, rfl, q1, by simp, fun m hm hy => ?_⟩
      obtain ⟨h1, h2⟩ := foldl_min_mem rr n
      have e : m = rr.foldl min n := by
        have a1 := hy _ h1
        have a2 := h2 _ hm
        omega
      rw [e]
      exact q.now r (.mkInt _)
    · cases hz
  · obtain ⟨v, rfl, d1⟩ := hd.one
    rw [Option.bind_eq_some_iff] at hz
    obtain ⟨ys, e1, hz⟩ := hz
    rw [Option.map_eq_some_iff] at hz
    obtain ⟨ns, e2, rfl⟩ := hz
    obtain ⟨hl, a, vs, rfl, q1, t1⟩ := items_at r d1 e1
    cases ints_of e2 t1
    exact cr_sum hc pins s σ H _ us Q I rs ⟨a, ns, rfl, q1, q.now r (.mkInt _)⟩
  · obtain ⟨v, rfl, d1⟩ := hd.one
    rw [Option.bind_eq_some_iff] at hz
    obtain ⟨ys, e1, hz⟩ := hz
    rw [Option.map_eq_some_iff] at hz
    obtain ⟨ns, e2, rfl⟩ := hz
    obtain ⟨hl, a, vs, rfl, q1, t1⟩ := items_at r d1 e1
    cases bools_of e2 t1
    exact cr_all hc pins s σ H _ us Q I rs ⟨a, ns, rfl, q1, q.now r (.mkBl _)⟩
  · obtain ⟨v, rfl, d1⟩ := hd.one
    rw [Option.bind_eq_some_iff] at hz
    obtain ⟨ys, e1, hz⟩ := hz
    rw [Option.map_eq_some_iff] at hz
    obtain ⟨ns, e2, rfl⟩ := hz
    obtain ⟨hl, a, vs, rfl, q1, t1⟩ := items_at r d1 e1
    cases bools_of e2 t1
    exact cr_any hc pins s σ H _ us Q I rs ⟨a, ns, rfl, q1, q.now r (.mkBl _)⟩
  · cases hz
end
end PL
/-! PL: readings over plain values, node by node. -/
namespace PL
open PySem L2

structure Tr (K : PySem.W.Frag) (F : Hp) (S : Sto) (H : Hp) (F' : Hp) (S' : Sto) (H' : Hp) : Prop where
  sub : Sub F F'
  rs : RelS K F' S' H'
  kp : ∀ a o, H a = some o → S a = none → H' a = some o ∧ S' a = none ∧ (F a = none → F' a = none)
section
variable {K : PySem.W.Frag} {F F1 F2 H H1 H2 : Hp} {S S1 S2 : Sto}
theorem Tr.refl (r : RelS K F S H) : Tr K F S H F S H := ⟨Sub.refl F, r, fun _ _ e n => ⟨e, n, fun f => f⟩⟩
theorem Tr.trans (a : Tr K F S H F1 S1 H1) (b : Tr K F1 S1 H1 F2 S2 H2) : Tr K F S H F2 S2 H2 :=
  ⟨a.sub.trans b.sub, b.rs, fun x o e n => let ⟨e1, n1, f1⟩ := a.kp x o e n; let ⟨e2, n2, f2⟩ := b.kp x o e1 n1; ⟨e2, n2, fun f => f2 (f1 f)⟩⟩
theorem Tr.grow (g : Gw F H F1 H1) (r : RelS K F1 S H1) : Tr K F S H F1 S H1 := ⟨g.f, r, fun a o e n => ⟨g.h a o e, n, g.n a o e⟩⟩
theorem Tr.le (a : Tr K F S H F1 S1 H1) (l : S2.le S1) : Tr K F S H F1 S2 H1 := ⟨a.sub, a.rs.le l, fun x o e n => let ⟨e1, n1, f1⟩ := a.kp x o e n; ⟨e1, (by
  cases q : S2 x with
  | none => rfl
  | some u =>
    rw [l x u q] at n1
    cases n1), f1⟩⟩
theorem Rl.tr {σ : L2.St} {env : Ev} (h : Rl K F σ H env S) (t : Tr K F S H F1 S1 H1) : Rl K F1 σ H1 env S1 := h.next t.sub t.rs
/-- one object changed -/
theorem Tr.put (r : RelS K F S H) {p : Addr} {o : HO} {ob ob' : Ob} (e : S p = some ob') (q : RelOb K F (upd H p o) p ob) : Tr K F S H F (S.put p ob) (upd H p o) := by
  refine ⟨Sub.refl F, r.putS (r.ob p _ e).1 q, fun a u h n => ?_⟩
  have z : a ≠ p := fun z => by
    subst z
    rw [e] at n
    cases n
  exact ⟨by rw [upd_ne z]; exact h, by rw [Sto.put_ne z]; exact n, fun f => f⟩
/-- a new list, held as a value or as an object -/
theorem Tr.froz {p : Addr} {vs : List V} (t : Tr K F S H F1 S1 H1) (n : ∀ a o, H a = some o → S a = none → a ≠ p) (h : H1 p = some (.lst vs)) (f : F1 p = none) (s : S1 p = none) : Tr K F S H (upd F1 p (.lst vs)) S1 H1 := by
  refine ⟨t.sub.trans (Sub.new f), ⟨fun a u e => ?_, fun a ob e => ?_⟩, fun a o e m => ?_⟩
  · by_cases z : a = p
    · subst z
      rw [upd_same] at e
      cases e
      exact h
    · rw [upd_ne z] at e
      exact t.rs.sub a u e
  · obtain ⟨f1, q⟩ := t.rs.ob a ob e
    have z : a ≠ p := fun z => by
      subst z
      rw [s] at e
      cases e
    exact ⟨by rw [upd_ne z]; exact f1, q.next (Sub.new f) rfl⟩
  · obtain ⟨e1, m1, f1⟩ := t.kp a o e m
    exact ⟨e1, m1, fun f0 => by rw [upd_ne (n a o e m)]; exact f1 f0⟩
theorem RelS.hold (r : RelS K F S H) {p : Addr} {vs : List V} {ds : List D} (h : H p = some (.lst vs)) (f : F p = none) (z : ds.length ≤ sizeLine) (d : Dens K F ds vs) : RelS K F (S.put p (.lst ds)) H := by
  refine ⟨r.sub, fun a ob e => ?_⟩
  by_cases y : a = p
  · subst y
    rw [Sto.put_same] at e
    cases e
    exact ⟨f, z, vs, h, d⟩
  · rw [Sto.put_ne y] at e
    exact r.ob a ob e
end

/-! ### readings -/
abbrev WE := Ev → Sto → WQ → Prop
def tE (K : PySem.W.Frag) (w : WE) : TE := fun σ H Q => ∃ F env S Q', Rl K F σ H env S ∧ w env S Q' ∧ ∀ v F' d S' H', Tr K F S H F' S' H' → Den K F' d v → Q' d S' → Q v H'
def tTs (K : PySem.W.Frag) (w : Ev → Sto → (Bool → Sto → Prop) → Prop) : TT := fun σ H Q => ∃ F env S Q', Rl K F σ H env S ∧ w env S Q' ∧ ∀ b F' S' H', Tr K F S H F' S' H' → Q' b S' → Q b H'
def tXs (K : PySem.W.Frag) (w : Ev → Sto → (List D → Sto → Prop) → Prop) : TA := fun σ H Q => ∃ F env S Q', Rl K F σ H env S ∧ w env S Q' ∧ ∀ vs F' ds S' H', Tr K F S H F' S' H' → Dens K F' ds vs → Q' ds S' → Q vs H'
def tPo (K : PySem.W.Frag) (w : Ev → Sto → (Option Int → Sto → Prop) → Prop) : TO := fun σ H Q => ∃ F env S Q', Rl K F σ H env S ∧ w env S Q' ∧ ∀ o F' S' H', Tr K F S H F' S' H' → Q' o S' → Q o H'
/-- a list that was just made, at p -/
def tLs (K : PySem.W.Frag) (w : Ev → Sto → (List D → Sto → Prop) → Prop) : TE := fun σ H Q => ∃ F env S Q', Rl K F σ H env S ∧ w env S Q' ∧
  ∀ p vs F' ds S' H', Tr K F S H F' S' H' → (∀ a o, H a = some o → S a = none → a ≠ p) → F' p = none → S' p = none → H' p = some (.lst vs) → Dens K F' ds vs → ds.length ≤ sizeLine → Q' ds S' → Q (.ref p) H'
/-- what is walked -/
structure Src (K : PySem.W.Frag) (F : Hp) (J : L2.It) (items : List D) (G : Sto → Prop) : Prop where
  len : items.length ≤ sizeLine
  go : ∀ i F' S' H' d, Sub F F' → RelS K F' S' H' → G S' → items[i]? = some d → J.go i H' ∧ ∀ x H2, J.yld i H' x H2 → ∃ F2, Tr K F' S' H' F2 S' H2 ∧ Den K F2 d x
  stop : ∀ F' S' H', Sub F F' → RelS K F' S' H' → G S' → J.stop items.length H'
def tIt (K : PySem.W.Frag) (w : Ev → Sto → (List D → (Sto → Prop) → Sto → Prop) → Prop) : TI := fun σ H R => ∃ F env S Q', Rl K F σ H env S ∧ w env S Q' ∧ ∀ J items G F' S' H', Tr K F S H F' S' H' → Src K F' J items G → Q' items G S' → R J H'
def tTg (K : PySem.W.Frag) (sl : List Nat) (w : D → Ev → Sto → (Ev → Sto → Prop) → Prop) : TG := fun v σ H Q => ∃ F env S Q' d, Rl K F σ H env S ∧ Den K F d v ∧ w d env S Q' ∧
  ∀ σ' F' env' S' H', Tr K F S H F' S' H' → Rl K F' σ' H' env' S' → (∀ vs : List Nat, (∀ i ∈ sl, i ∈ vs) → wipe σ' vs = wipe σ vs) → Q' env' S' → Q σ' H'
def tTgs (K : PySem.W.Frag) (sl : List Nat) (w : List D → Ev → Sto → (Ev → Sto → Prop) → Prop) : TGs := fun vs σ H Q => ∃ F env S Q' ds, Rl K F σ H env S ∧ Dens K F ds vs ∧ w ds env S Q' ∧
  ∀ σ' F' env' S' H', Tr K F S H F' S' H' → Rl K F' σ' H' env' S' → (∀ vs : List Nat, (∀ i ∈ sl, i ∈ vs) → wipe σ' vs = wipe σ vs) → Q' env' S' → Q σ' H'
structure EnTo (K : PySem.W.Frag) (F : Hp) (S : Sto) (H : Hp) (E : En) (D : Ends) : Prop where
  nx : ∀ σ' F' env' S' H', Tr K F S H F' S' H' → Rl K F' σ' H' env' S' → E.nx env' S' → D.nx σ' H'
  bk : ∀ σ' F' env' S' H', Tr K F S H F' S' H' → Rl K F' σ' H' env' S' → E.bk env' S' → D.bk σ' H'
  ct : ∀ σ' F' env' S' H', Tr K F S H F' S' H' → Rl K F' σ' H' env' S' → E.ct env' S' → D.ct σ' H'
  rt : ∀ v F' d S' H', Tr K F S H F' S' H' → Den K F' d v → E.rt d S' → D.rt v H'
def tSt (K : PySem.W.Frag) (w : Ev → Sto → En → Prop) : TS := fun D σ H => ∃ F env S E, Rl K F σ H env S ∧ w env S E ∧ EnTo K F S H E D
theorem EnTo.tr {K : PySem.W.Frag} {F F1 H H1 : Hp} {S S1 : Sto} {E : En} {D : Ends} (h : EnTo K F S H E D) (t : Tr K F S H F1 S1 H1) : EnTo K F1 S1 H1 E D :=
  ⟨fun σ' F' env' S' H' u => h.nx σ' F' env' S' H' (t.trans u), fun σ' F' env' S' H' u => h.bk σ' F' env' S' H' (t.trans u), fun σ' F' env' S' H' u => h.ct σ' F' env' S' H' (t.trans u), fun v F' d S' H' u => h.rt v F' d S' H' (t.trans u)⟩

section
variable {X : Cx} {e a b c : Expr} {es : List Expr} {pos : Pos}
theorem pe_imp {t t' : TE} (h : PE X e t) (m : ∀ σ H Q, t' σ H Q → t σ H Q) : PE X e t' := ⟨fun pins s σ H Q I q => h.run pins s σ H Q I (m _ _ _ q)⟩
theorem pt_imp {t t' : TT} (h : PT X e t) (m : ∀ σ H Q, t' σ H Q → t σ H Q) : PT X e t' := ⟨fun pins s σ H Q I q => h.run pins s σ H Q I (m _ _ _ q)⟩
theorem pw_imp {t t' : TT} (h : PW X e t) (m : ∀ σ H Q, t' σ H Q → t σ H Q) : PW X e t' := ⟨fun wh pins s σ H Q I q => h.run wh pins s σ H Q I (m _ _ _ q)⟩
theorem pts_imp {ifs : List Expr} {t t' : TT} (h : PTs X ifs t) (m : ∀ σ H Q, t' σ H Q → t σ H Q) : PTs X ifs t' := ⟨fun pins s σ H Q I q => h.run pins s σ H Q I (m _ _ _ q)⟩
theorem pa_imp {t t' : TA} (h : PA X es t) (m : ∀ σ H Q, t' σ H Q → t σ H Q) : PA X es t' := ⟨fun ps pins s σ H Q I q => h.run ps pins s σ H Q I (m _ _ _ q)⟩
theorem po_imp {o : Option Expr} {t t' : TO} (h : PO X o t) (m : ∀ σ H Q, t' σ H Q → t σ H Q) : PO X o t' := ⟨fun pins s σ H Q I q => h.run pins s σ H Q I (m _ _ _ q)⟩
theorem pi_imp {tg : Expr} {t t' : TI} (h : PI X tg e t) (m : ∀ σ H Q, t' σ H Q → t σ H Q) : PI X tg e t' := ⟨fun pins s σ H Q I q => h.run pins s σ H Q I (m _ _ _ q)⟩
theorem pg_imp {t t' : TG} (h : PG X e t) (m : ∀ v σ H Q, t' v σ H Q → t v σ H Q) : PG X e t' := ⟨fun pins s σ H v u Q I r q => h.run pins s σ H v u Q I r (m _ _ _ _ q)⟩
theorem pgs_imp {t t' : TGs} (h : PGs X es t) (m : ∀ v σ H Q, t' v σ H Q → t v σ H Q) : PGs X es t' := ⟨fun pins s σ H v u Q I r q => h.run pins s σ H v u Q I r (m _ _ _ _ q)⟩
theorem ps_imp {st : Stmt} {t t' : TS} (h : PS X st t) (m : ∀ D σ H, t' D σ H → t D σ H) : PS X st t' := ⟨fun pins s σ H D I q => h.run pins s σ H D I (m _ _ _ q)⟩
theorem pss_imp {st : List Stmt} {t t' : TS} (h : PSs X st t) (m : ∀ D σ H, t' D σ H → t D σ H) : PSs X st t' := ⟨fun pins s σ H D I q => h.run pins s σ H D I (m _ _ _ q)⟩

theorem opt_elim {α : Type} {o : Option α} {Q : α → Prop} (h : opt o Q) : ∃ z, o = some z ∧ Q z := by
  cases o with
  | none => exact False.elim h
  | some z => exact ⟨z, rfl, h⟩

/-! ### expressions -/
variable {wa wb wc : WE} {wt wu : Ev → Sto → (Bool → Sto → Prop) → Prop} {wx : Ev → Sto → (List D → Sto → Prop) → Prop}
theorem s_const {v : V} {d : D} (h : PE X e (tC v)) (hd : ∀ F, Den X.K F d v) : PE X e (tE X.K fun _ S Q => Q d S) :=
  pe_imp h fun σ H Q ⟨F, env, S, Q', R, w, k⟩ => k v F d S H (Tr.refl R.rs) (hd F) w
theorem s_var {i : Nat} (h : PE X e (tVar i)) : PE X e (tE X.K fun σ S Q => getV σ i fun d => Q d S) := by
  refine pe_imp h fun σ H Q ⟨F, env, S, Q', R, w, k⟩ => ?_
  have w : getV env i fun d => Q' d S := w
  unfold getV at w
  split at w
  · rename_i d hd
    obtain ⟨v, e1, e2⟩ := R.sl i d hd
    exact ⟨v, e1, k v F d S H (Tr.refl R.rs) e2 w⟩
  · exact False.elim w
theorem s_op {f : Value → Value → Sem Value} {r : R2} {G : D → D → Sto → WQ → Prop} (r2 : ∀ {ta tb : TE}, PE X a ta → PE X b tb → PE X e (tOp r ta tb)) (ha : PE X a (tE X.K wa)) (hb : PE X b (tE X.K wb))
    (hG : ∀ x y F S H d e' Q Q', RelS X.K F S H → Den X.K F d x → Den X.K F e' y → G d e' S Q' → (∀ v F' z S' H', Tr X.K F S H F' S' H' → Den X.K F' z v → Q' z S' → Q v H') → r x y H Q) :
    PE X e (tE X.K fun σ S Q => wa σ S fun x S1 => wb σ S1 fun y S2 => G x y S2 Q) := by
  refine pe_imp (r2 ha hb) fun σ H Q ⟨F, env, S, Q', R, w, k⟩ => ⟨F, env, S, _, R, w, fun v F1 d S1 H1 t1 d1 w1 => ⟨F1, env, S1, _, R.tr t1, w1, fun v2 F2 d2 S2 H2 t2 dd2 w2 => ?_⟩⟩
  exact hG v v2 F2 S2 H2 d d2 Q Q' t2.rs (d1.mono t2.sub) dd2 w2 fun v F' z S' H' t => k v F' z S' H' ((t1.trans t2).trans t)
theorem fi_of {F : Hp} {S : Sto} {H : Hp} {Q : VK} {Q' : WQ} {z : D} (k : ∀ v F' z S' H', Tr X.K F S H F' S' H' → Den X.K F' z v → Q' z S' → Q v H') (q : Q' z S) : Fi X.K F S H Q z :=
  fun v H' F' g r d => k v F' z S H' (Tr.grow g r) d q
theorem s_bin {op : Operator} (ha : PE X a (tE X.K wa)) (hb : PE X b (tE X.K wb)) : PE X (.BinOp a op b pos) (tE X.K fun σ S Q => wa σ S fun x S1 => wb σ S1 fun y S2 => opt (binD op x y) fun z => Q z S2) :=
  s_op (f := binaryOp op) (r := rBin X.K op) (fun h g => pe_op (op_bin op) h g) ha hb fun x y F S H d e' Q Q' r h1 h2 w k => let ⟨z, e1, q⟩ := opt_elim w; ⟨F, S, d, e', z, r, h1, h2, e1, fi_of k q⟩
theorem s_neg (ha : PE X a (tE X.K wa)) : PE X (.UnaryOp .USub a pos) (tE X.K fun σ S Q => wa σ S fun x S1 => match x with | .int i => Q (.int (-i)) S1 | .bl k => Q (.int (-(if k = true then (1 : Int) else 0))) S1 | _ => False) := by
  refine pe_imp (pe_un un_negP ha) fun σ H Q ⟨F, env, S, Q', R, w, k⟩ => ⟨F, env, S, _, R, w, fun v F1 d S1 H1 t1 d1 w1 => ?_⟩
  split at w1
  · rename_i i
    exact .inl ⟨F1, S1, i, t1.rs, d1.int_, fi_of (fun v F' z S' H' t => k v F' z S' H' (t1.trans t)) w1⟩
  · rename_i i
    exact .inr ⟨F1, S1, i, t1.rs, d1.bl_, fi_of (fun v F' z S' H' t => k v F' z S' H' (t1.trans t)) w1⟩
  · exact False.elim w1
theorem s_cmp {op : CmpOp} (hu : X.A.units + 70 < cLine) (hm : behindInMarks op b = false) (ha : PE X a (tE X.K wa)) (hb : PE X b (tE X.K wb)) : PE X (.Compare a [op] [b] pos) (tE X.K fun σ S Q => wa σ S fun x S1 => wb σ S1 fun y S2 => opt (cmpD op x y) fun z => Q (.bl z) S2) :=
  s_op (f := compareOp op) (r := rCmp X.K op) (fun h g => pe_cmpR (op_cmp op (by omega)) h g hm) ha hb fun x y F S H d e' Q Q' r h1 h2 w k => let ⟨z, e1, q⟩ := opt_elim w; ⟨F, S, d, e', z, r, h1, h2, e1, fi_of k q⟩
theorem s_idx (hs : PlainIx b) (ha : PE X a (tE X.K wa)) (hb : PE X b (tE X.K wb)) : PE X (.Subscript a b pos) (tE X.K fun σ S Q => wa σ S fun x S1 => wb σ S1 fun y S2 => opt (idxD S2 x y) fun z => Q z S2) :=
  s_op (f := getItem) (r := rIdx X.K) (fun h g => pe_ix ix_D h g hs) ha hb fun x y F S H d e' Q Q' r h1 h2 w k => let ⟨z, e1, q⟩ := opt_elim w; ⟨F, S, d, e', z, r, h1, h2, e1, fi_of k q⟩
theorem cmp_then {op : CmpOp} {x y : V} {F : Hp} {S : Sto} {H : Hp} {d e' : D} {z : Bool} {Q : VK} (r : RelS X.K F S H) (h1 : Den X.K F d x) (h2 : Den X.K F e' y) (e1 : cmpD op d e' = some z)
    (q : ∀ F' H', Tr X.K F S H F' S H' → Q (.bl z) H') : rCmp X.K op x y H Q := ⟨F, S, d, e', z, r, h1, h2, e1, fun v H' F' g r' dz => by
  rw [dz.bl_]
  exact q F' H' (Tr.grow g r')⟩
theorem s_chn {o1 o2 : CmpOp} (hu : X.A.units + 70 < cLine) (hm : lastMarks [o1, o2] [b, c] = false) (ha : PE X a (tE X.K wa)) (hb : PE X b (tE X.K wb)) (hc : PE X c (tE X.K wc)) :
    PE X (.Compare a [o1, o2] [b, c] pos) (tE X.K fun σ S Q => wa σ S fun x S1 => wb σ S1 fun y S2 => opt (cmpD o1 x y) fun z => if z = true then wc σ S2 fun v S3 => opt (cmpD o2 y v) fun z => Q (.bl z) S3 else Q (.bl false) S2) := by
  refine pe_imp (pe_chain (op_cmp o1 (by omega)) (op_cmp o2 (by omega)) ha hb hc hm) fun σ H Q ⟨F, env, S, Q', R, w, k⟩ => ⟨F, env, S, _, R, w, fun v F1 d S1 H1 t1 d1 w1 => ⟨F1, env, S1, _, R.tr t1, w1, fun v2 F2 d2 S2 H2 t2 dd2 w2 => ?_⟩⟩
  obtain ⟨z, e1, w3⟩ := opt_elim w2
  refine cmp_then t2.rs (d1.mono t2.sub) dd2 e1 fun F3 H3 t3 => ⟨z, rfl, ?_⟩
  cases z with
  | true =>
    rw [if_pos rfl] at w3 ⊢
    refine ⟨F3, env, S2, _, ((R.tr t1).tr t2).tr t3, w3, fun v4 F4 d4 S4 H4 t4 dd4 w4 => ?_⟩
    obtain ⟨z, e4, w5⟩ := opt_elim w4
    exact cmp_then t4.rs (dd2.mono (t3.sub.trans t4.sub)) dd4 e4 fun F5 H5 t5 => k _ F5 _ S4 H5 ((((t1.trans t2).trans t3).trans t4).trans t5) (.mkBl _) w5
  | false =>
    rw [if_neg Bool.false_ne_true] at w3 ⊢
    exact k _ F3 _ S2 H3 ((t1.trans t2).trans t3) (.mkBl _) w3
theorem t_cmp {op : CmpOp} (hu : X.A.units + 70 < cLine) (hm : behindInMarks op b = false) (ha : PE X a (tE X.K wa)) (hb : PE X b (tE X.K wb)) : PT X (.Compare a [op] [b] pos) (tTs X.K fun σ S Q => wa σ S fun x S1 => wb σ S1 fun y S2 => opt (cmpD op x y) fun z => Q z S2) := by
  refine pt_imp (pt_cmpR (op_cmp op (by omega)) ha hb hm) fun σ H Q ⟨F, env, S, Q', R, w, k⟩ => ⟨F, env, S, _, R, w, fun v F1 d S1 H1 t1 d1 w1 => ⟨F1, env, S1, _, R.tr t1, w1, fun v2 F2 d2 S2 H2 t2 dd2 w2 => ?_⟩⟩
  obtain ⟨z, e1, w3⟩ := opt_elim w2
  exact cmp_then t2.rs (d1.mono t2.sub) dd2 e1 fun F3 H3 t3 => ⟨z, rfl, k z F3 S2 H3 ((t1.trans t2).trans t3) w3⟩
theorem t_chn {o1 o2 : CmpOp} (hu : X.A.units + 70 < cLine) (hm : lastMarks [o1, o2] [b, c] = false) (ha : PE X a (tE X.K wa)) (hb : PE X b (tE X.K wb)) (hc : PE X c (tE X.K wc)) :
    PT X (.Compare a [o1, o2] [b, c] pos) (tTs X.K fun σ S Q => wa σ S fun x S1 => wb σ S1 fun y S2 => opt (cmpD o1 x y) fun z => if z = true then wc σ S2 fun v S3 => opt (cmpD o2 y v) fun z => Q z S3 else Q false S2) := by
  refine pt_imp (pt_chain (op_cmp o1 (by omega)) (op_cmp o2 (by omega)) ha hb hc hm) fun σ H Q ⟨F, env, S, Q', R, w, k⟩ => ⟨F, env, S, _, R, w, fun v F1 d S1 H1 t1 d1 w1 => ⟨F1, env, S1, _, R.tr t1, w1, fun v2 F2 d2 S2 H2 t2 dd2 w2 => ?_⟩⟩
  obtain ⟨z, e1, w3⟩ := opt_elim w2
  refine cmp_then t2.rs (d1.mono t2.sub) dd2 e1 fun F3 H3 t3 => ⟨z, rfl, ?_⟩
  cases z with
  | true =>
    rw [if_pos rfl] at w3 ⊢
    refine ⟨F3, env, S2, _, ((R.tr t1).tr t2).tr t3, w3, fun v4 F4 d4 S4 H4 t4 dd4 w4 => ?_⟩
    obtain ⟨z, e4, w5⟩ := opt_elim w4
    exact cmp_then t4.rs (dd2.mono (t3.sub.trans t4.sub)) dd4 e4 fun F5 H5 t5 => ⟨z, rfl, k z F5 S4 H5 ((((t1.trans t2).trans t3).trans t4).trans t5) w5⟩
  | false =>
    rw [if_neg Bool.false_ne_true] at w3 ⊢
    exact ⟨false, rfl, k false F3 S2 H3 ((t1.trans t2).trans t3) w3⟩
/-! ### truth -/
theorem s_and {rest : List Expr} (ha : PE X a (tE X.K wa)) (hb : PE X (.BoolOp .And (b :: rest) pos) (tE X.K wb)) : PE X (.BoolOp .And (a :: b :: rest) pos) (tE X.K fun σ S Q => wa σ S fun x S1 => opt (truD S1 x) fun k => if k = true then wb σ S1 Q else Q x S1) := by
  refine pe_imp (pe_andT ha hb) fun σ H Q ⟨F, env, S, Q', R, w, k⟩ => ⟨F, env, S, _, R, w, fun v F1 d S1 H1 t1 d1 w1 => ?_⟩
  obtain ⟨z, e1, w2⟩ := opt_elim w1
  refine ⟨z, truV_D t1.rs d1 e1, ?_⟩
  cases z with
  | true =>
    rw [if_pos rfl] at w2 ⊢
    exact ⟨F1, env, S1, _, R.tr t1, w2, fun v F' d S' H' t => k v F' d S' H' (t1.trans t)⟩
  | false =>
    rw [if_neg Bool.false_ne_true] at w2 ⊢
    exact k v F1 d S1 H1 t1 d1 w2
theorem s_or {rest : List Expr} (ha : PE X a (tE X.K wa)) (hb : PE X (.BoolOp .Or (b :: rest) pos) (tE X.K wb)) : PE X (.BoolOp .Or (a :: b :: rest) pos) (tE X.K fun σ S Q => wa σ S fun x S1 => opt (truD S1 x) fun k => if k = true then Q x S1 else wb σ S1 Q) := by
  refine pe_imp (pe_orT ha hb) fun σ H Q ⟨F, env, S, Q', R, w, k⟩ => ⟨F, env, S, _, R, w, fun v F1 d S1 H1 t1 d1 w1 => ?_⟩
  obtain ⟨z, e1, w2⟩ := opt_elim w1
  refine ⟨z, truV_D t1.rs d1 e1, ?_⟩
  cases z with
  | false =>
    rw [if_neg Bool.false_ne_true] at w2 ⊢
    exact ⟨F1, env, S1, _, R.tr t1, w2, fun v F' d S' H' t => k v F' d S' H' (t1.trans t)⟩
  | true =>
    rw [if_pos rfl] at w2 ⊢
    exact k v F1 d S1 H1 t1 d1 w2
theorem s_not (ha : PE X a (tE X.K wa)) : PE X (.UnaryOp .Not a pos) (tE X.K fun σ S Q => wa σ S fun x S1 => opt (truD S1 x) fun k => Q (.bl !k) S1) := by
  refine pe_imp (pe_notT ha) fun σ H Q ⟨F, env, S, Q', R, w, k⟩ => ⟨F, env, S, _, R, w, fun v F1 d S1 H1 t1 d1 w1 => ?_⟩
  obtain ⟨z, e1, w2⟩ := opt_elim w1
  exact ⟨z, truV_D t1.rs d1 e1, k _ F1 _ S1 H1 t1 (.mkBl _) w2⟩
theorem s_ite (ht : PT X c (tTs X.K wt)) (ha : PE X a (tE X.K wa)) (hb : PE X b (tE X.K wb)) : PE X (.IfExp c a b pos) (tE X.K fun σ S Q => wt σ S fun k S1 => if k = true then wa σ S1 Q else wb σ S1 Q) := by
  refine pe_imp (pe_ifExp ht ha hb) fun σ H Q ⟨F, env, S, Q', R, w, k⟩ => ⟨F, env, S, _, R, w, fun z F1 S1 H1 t1 w1 => ?_⟩
  cases z with
  | true =>
    rw [if_pos rfl] at w1 ⊢
    exact ⟨F1, env, S1, _, R.tr t1, w1, fun v F' d S' H' t => k v F' d S' H' (t1.trans t)⟩
  | false =>
    rw [if_neg Bool.false_ne_true] at w1 ⊢
    exact ⟨F1, env, S1, _, R.tr t1, w1, fun v F' d S' H' t => k v F' d S' H' (t1.trans t)⟩
theorem t_val (ha : PE X a (tE X.K wa)) (he : ∀ whole, isTrue a X.env whole = (do let v ← whole; standAt a.pos; holding [v] (truthy v))) : PT X a (tTs X.K fun σ S Q => wa σ S fun x S1 => opt (truD S1 x) fun k => Q k S1) := by
  refine pt_imp (pt_truth ha he) fun σ H Q ⟨F, env, S, Q', R, w, k⟩ => ⟨F, env, S, _, R, w, fun v F1 d S1 H1 t1 d1 w1 => ?_⟩
  obtain ⟨z, e1, w2⟩ := opt_elim w1
  exact ⟨z, truV_D t1.rs d1 e1, k z F1 S1 H1 t1 w2⟩
theorem t_not (ha : PT X a (tTs X.K wt)) : PT X (.UnaryOp .Not a pos) (tTs X.K fun σ S Q => wt σ S fun k S1 => Q (!k) S1) :=
  pt_imp (pt_not ha) fun σ H Q ⟨F, env, S, Q', R, w, k⟩ => ⟨F, env, S, _, R, w, fun z F1 S1 H1 t1 w1 => k (!z) F1 S1 H1 t1 w1⟩
theorem t_and {rest : List Expr} (ha : PT X a (tTs X.K wt)) (hb : PW X (.BoolOp .And (b :: rest) pos) (tTs X.K wu)) : PW X (.BoolOp .And (a :: b :: rest) pos) (tTs X.K fun σ S Q => wt σ S fun k S1 => if k = true then wu σ S1 Q else Q false S1) := by
  refine pw_imp (pw_and ha hb) fun σ H Q ⟨F, env, S, Q', R, w, k⟩ => ⟨F, env, S, _, R, w, fun z F1 S1 H1 t1 w1 => ?_⟩
  cases z with
  | true =>
    rw [if_pos rfl] at w1 ⊢
    exact ⟨F1, env, S1, _, R.tr t1, w1, fun b F' S' H' t => k b F' S' H' (t1.trans t)⟩
  | false =>
    rw [if_neg Bool.false_ne_true] at w1 ⊢
    exact k false F1 S1 H1 t1 w1
theorem t_or {rest : List Expr} (ha : PT X a (tTs X.K wt)) (hb : PW X (.BoolOp .Or (b :: rest) pos) (tTs X.K wu)) : PW X (.BoolOp .Or (a :: b :: rest) pos) (tTs X.K fun σ S Q => wt σ S fun k S1 => if k = true then Q true S1 else wu σ S1 Q) := by
  refine pw_imp (pw_or ha hb) fun σ H Q ⟨F, env, S, Q', R, w, k⟩ => ⟨F, env, S, _, R, w, fun z F1 S1 H1 t1 w1 => ?_⟩
  cases z with
  | false =>
    rw [if_neg Bool.false_ne_true] at w1 ⊢
    exact ⟨F1, env, S1, _, R.tr t1, w1, fun b F' S' H' t => k b F' S' H' (t1.trans t)⟩
  | true =>
    rw [if_pos rfl] at w1 ⊢
    exact k true F1 S1 H1 t1 w1
theorem t_yes : PTs X [] (tTs X.K fun _ S Q => Q true S) := pts_imp pts_nil fun σ H Q ⟨F, env, S, Q', R, w, k⟩ => k true F S H (Tr.refl R.rs) w

/-! ### arguments, displays, slices, calls -/
theorem x_nil : PA X [] (tXs X.K fun _ S Q => Q [] S) := pa_imp pa_nil fun σ H Q ⟨F, env, S, Q', R, w, k⟩ => k [] F [] S H (Tr.refl R.rs) .nil w
theorem x_cons (ha : PE X a (tE X.K wa)) (hr : PA X es (tXs X.K wx)) (hs : starEach (a :: es) X.env = (false, eval a X.env) :: starEach es X.env) : PA X (a :: es) (tXs X.K fun σ S Q => wa σ S fun x S1 => wx σ S1 fun xs S2 => Q (x :: xs) S2) :=
  pa_imp (pa_cons ha hr hs) fun σ H Q ⟨F, env, S, Q', R, w, k⟩ => ⟨F, env, S, _, R, w, fun v F1 d S1 H1 t1 d1 w1 => ⟨F1, env, S1, _, R.tr t1, w1, fun vs F2 ds S2 H2 t2 d2 w2 => k _ F2 _ S2 H2 (t1.trans t2) (.cons (d1.mono t2.sub) d2) w2⟩⟩
theorem s_tup {k1 : Nat} (hx : PA X es (tXs X.K wx)) : PE X (.Tuple es k1 pos) (tE X.K fun σ S Q => wx σ S fun ds S1 => ds.length ≤ sizeLine ∧ Q (.tup ds) S1) :=
  pe_imp (pe_tup hx) fun σ H Q ⟨F, env, S, Q', R, w, k⟩ => ⟨F, env, S, _, R, w, fun vs F1 ds S1 H1 t1 d1 ⟨hl, q⟩ => ⟨by rw [d1.len]; exact hl, fun p n => by
    obtain ⟨r', s⟩ := t1.rs.newF (o := .tup vs) n
    exact k _ _ _ S1 _ (t1.trans (Tr.grow (Gw.new (t1.rs.sub.none n) n) r')) (.mkTup hl (.inl (.inl upd_same)) (d1.mono s)) q⟩⟩
theorem p_no : PO X none (tPo X.K fun _ S Q => Q none S) := po_imp po_none fun σ H Q ⟨F, env, S, Q', R, w, k⟩ => k none F S H (Tr.refl R.rs) w
theorem p_yes (ha : PE X a (tE X.K wa)) : PO X (some a) (tPo X.K fun σ S Q => wa σ S fun x S1 => match x with | .int i => Q (some i) S1 | _ => False) := by
  refine po_imp (po_some ha) fun σ H Q ⟨F, env, S, Q', R, w, k⟩ => ⟨F, env, S, _, R, w, fun v F1 d S1 H1 t1 d1 w1 => ?_⟩
  split at w1
  · rename_i i
    exact ⟨i, d1.int_, k (some i) F1 S1 H1 t1 w1⟩
  · exact False.elim w1
theorem s_slc {lo hi : Option Expr} {p2 : Pos} {wl wh : Ev → Sto → (Option Int → Sto → Prop) → Prop} (ha : PE X a (tE X.K wa)) (hl : PO X lo (tPo X.K wl)) (hh : PO X hi (tPo X.K wh)) :
    PE X (.Subscript a (.Slice lo hi none p2) pos) (tE X.K fun σ S Q => wa σ S fun x S1 => wl σ S1 fun l S2 => wh σ S2 fun h S3 => opt (slcD x l h) fun z => Q z S3) := by
  refine pe_imp (pe_slice sl_D ha hl hh) fun σ H Q ⟨F, env, S, Q', R, w, k⟩ => ⟨F, env, S, _, R, w, fun v F1 d S1 H1 t1 d1 w1 => ⟨F1, env, S1, _, R.tr t1, w1, fun l F2 S2 H2 t2 w2 => ⟨F2, env, S2, _, (R.tr t1).tr t2, w2, fun h F3 S3 H3 t3 w3 => ?_⟩⟩⟩
  obtain ⟨z, e1, q⟩ := opt_elim w3
  exact ⟨F3, S3, d, z, t3.rs, d1.mono (t2.sub.trans t3.sub), e1, fi_of (fun v F' z S' H' t => k v F' z S' H' (((t1.trans t2).trans t3).trans t)) q⟩
/-- lists that were just made -/
theorem s_frz (h : PE X e (tLs X.K wx)) : PE X e (tE X.K fun σ S Q => wx σ S fun ds S1 => Q (.lst ds) S1) :=
  pe_imp h fun σ H Q ⟨F, env, S, Q', R, w, k⟩ => ⟨F, env, S, _, R, w, fun p vs F1 ds S1 H1 t1 n f s h1 d1 z q =>
    k _ _ _ S1 H1 (t1.froz n h1 f s) (.mkLst z (.inl upd_same) (d1.mono (Sub.new f))) q⟩
theorem s_new (h : PE X e (tLs X.K wx)) : PE X e (tE X.K fun σ S Q => wx σ S fun ds S1 => ∀ p, S1 p = none → Q (.ref p) (S1.put p (.lst ds))) :=
  pe_imp h fun σ H Q ⟨F, env, S, Q', R, w, k⟩ => ⟨F, env, S, _, R, w, fun p vs F1 ds S1 H1 t1 n f s h1 d1 z q =>
    k _ F1 _ _ H1 ⟨t1.sub, t1.rs.hold h1 f z d1, fun a o e m => by
      have hp : a ≠ p := n a o e m
      obtain ⟨e1, m1, f1⟩ := t1.kp a o e m
      exact ⟨e1, by rw [Sto.put_ne hp]; exact m1, f1⟩⟩ (.mkRef p) (q p s)⟩
theorem l_at {F : Hp} {S : Sto} {H : Hp} {F1 : Hp} {S1 : Sto} {H1 : Hp} {p : Addr} {vs : List V} (t : Tr X.K F S H F1 S1 H1) (n : H1 p = none) :
    Tr X.K F S H F1 S1 (upd H1 p (.lst vs)) ∧ (∀ a o, H a = some o → S a = none → a ≠ p) ∧ F1 p = none ∧ S1 p = none :=
  ⟨t.trans ⟨Sub.refl _, t.rs.newH n, fun a o e m => ⟨Sub.new n a o e, m, fun f => f⟩⟩, (fun a o e m z => by
    subst z
    rw [(t.kp a o e m).1] at n
    cases n), t.rs.sub.none n, t.rs.free n⟩
/-- a written list -/
theorem l_dsp (hx : PA X es (tXs X.K wx)) : PE X (.List es pos) (tLs X.K fun σ S Q => wx σ S fun ds S1 => ds.length ≤ sizeLine ∧ Q ds S1) :=
  pe_imp (pe_lst hx) fun σ H Q ⟨F, env, S, Q', R, w, k⟩ => ⟨F, env, S, _, R, w, fun vs F1 ds S1 H1 t1 d1 ⟨hl, q⟩ => ⟨by rw [d1.len]; exact hl, fun p n => by
    obtain ⟨t, a1, a2, a3⟩ := l_at (vs := vs) t1 n
    exact k p vs F1 ds S1 _ t a1 a2 a3 upd_same d1 hl q⟩⟩
theorem sl_L : SlR X (fun x lo hi H Q => ∃ F S d xs, RelS X.K F S H ∧ Den X.K F d x ∧ itemsD S d = some xs ∧ ∀ p vs, H p = none → Dens X.K F (cutL xs lo hi) vs → Q (.ref p) (upd H p (.lst vs))) := by
  intro pins s σ H x v vl vu lo hi sl Q I rx hs pl pu h
  obtain ⟨F, S, d, xs, r, hd, e, q⟩ := h
  obtain ⟨z, a, vs, rfl, h1, d1⟩ := items_at r hd e
  exact sl_list pins s σ H _ v vl vu lo hi sl Q I rx hs pl pu ⟨a, vs, rfl, h1, fun p n => q p _ n (d1.cut lo hi)⟩
theorem l_slc {lo hi : Option Expr} {p2 : Pos} {wl wh : Ev → Sto → (Option Int → Sto → Prop) → Prop} (ha : PE X a (tE X.K wa)) (hl : PO X lo (tPo X.K wl)) (hh : PO X hi (tPo X.K wh)) :
    PE X (.Subscript a (.Slice lo hi none p2) pos) (tLs X.K fun σ S Q => wa σ S fun x S1 => wl σ S1 fun l S2 => wh σ S2 fun h S3 => opt (itemsD S3 x) fun xs => Q (cutL xs l h) S3) := by
  refine pe_imp (pe_slice sl_L ha hl hh) fun σ H Q ⟨F, env, S, Q', R, w, k⟩ => ⟨F, env, S, _, R, w, fun v F1 d S1 H1 t1 d1 w1 => ⟨F1, env, S1, _, R.tr t1, w1, fun l F2 S2 H2 t2 w2 => ⟨F2, env, S2, _, (R.tr t1).tr t2, w2, fun h F3 S3 H3 t3 w3 => ?_⟩⟩⟩
  obtain ⟨xs, e1, q⟩ := opt_elim w3
  have d3 := d1.mono (t2.sub.trans t3.sub)
  refine ⟨F3, S3, d, xs, t3.rs, d3, e1, fun p vs n dv => ?_⟩
  obtain ⟨t, a1, a2, a3⟩ := l_at (vs := vs) ((t1.trans t2).trans t3) n
  exact k p vs F3 _ S3 _ t a1 a2 a3 upd_same dv (Nat.le_trans (cutL_len _ _ _) (items_at t3.rs d3 e1).1) q
end
end PL
/-! PL: calls, walks, comprehensions, targets, statements. -/
namespace PL
open PySem L2

/-! ### a def, where no repr is under way -/
structure FnG (P : Program) (w : World) (K : PySem.W.Frag) (mg : Str → Option Value) (base : Heap) (k : Nat) (f : Addr) (fd : FuncData) (ps : List Str) (sp : Sp) : Prop where
  len : ∀ vs H Q E, sp vs H Q E → vs.length = ps.length
  run : ∀ (A : Around) (outer : List Env) (s : Shared) (H : Hp) (args : Args) (us : List Value) (vs : List V) (Q : VK), Room k A → A.guards = some [] → Env0 P w K mg base A outer s H → BindsTo s fd args (ps.zip us) → Vals vs us → sp vs H Q E0 →
    codeAny (model P w) A (.call (.ref f) args) (CR CX0 outer P w H s Q E0) s
def spOf (K : PySem.W.Frag) (W : CallW) (i n : Nat) : Sp := fun vs H Q _ => vs.length = n ∧ ∃ F ds S Q', RelS K F S H ∧ Dens K F ds vs ∧ W i ds S Q' ∧ ∀ v F' d S' H', Tr K F S H F' S' H' → Den K F' d v → Q' d S' → Q v H'

section
variable {X : Cx} {e a b c : Expr} {es : List Expr} {pos p : Pos} {x : Str} {wa wb : WE} {wx : Ev → Sto → (List D → Sto → Prop) → Prop}
theorem run_g {k : Nat} {f : Addr} {fd : FuncData} {ps : List Str} {sp : Sp} {pins : List (Addr × Obj)} {σ : L2.St} {H : Hp} {s : Shared} {Q : VK} {us : List Value} {vs : List V} (G : FnG X.prog X.w X.K X.mg X.base k f fd ps sp) (hr : Room k X.A) (gd : X.A.guards = some []) (hb : Binds X.K fd ps [])
    (I : L2.Inv X pins σ H s) (r : Vals vs us) (h : sp vs H Q E0) : wpAny (model X.prog X.w) X.A (PySem.call (.ref f) us) (EP X pins σ Q) X.xe s := by
  have hl : (us ++ []).length = ps.length := by
    rw [List.append_nil, ← r.length]
    exact G.len _ _ _ _ h
  have bi := hb s us I.kIn hl
  rw [List.append_nil] at bi
  refine wpAny_call (codeAny_mono (G.run X.A X.stack s H ⟨us, []⟩ us vs Q hr gd I.env0 bi r h) fun r s' hq => ?_)
  cases r with
  | error e => exact False.elim hq
  | ok fl =>
    cases fl with
    | ret u => exact I.after hq
    | next => exact False.elim hq
    | brk => exact False.elim hq
    | cont => exact False.elim hq
theorem s_call {k i n : Nat} {W : CallW} {f : Addr} {fd : FuncData} {ps : List Str} (G : FnG X.prog X.w X.K X.mg X.base k f fd ps (spOf X.K W i n)) (hr : Room k X.A) (gd : X.A.guards = some []) (hg : Gl X x) (hm : X.mg x = some (.ref f)) (hk : PySem.W.keepIn X.K (.ref f) = true) (hb : Binds X.K fd ps [])
    (ha : PA X (e :: es) (tXs X.K wx)) (hdb : (x == ("__debug__" : Str)) = false) (he : starEach (e :: es) X.env = (false, eval e X.env) :: starEach es X.env) (hpl : (backTo pos (starEach es X.env)).any (·.1) = false)
    (ar : ∀ ds S Q, W i ds S Q → ds.length = n) : PE X (.Call (.Name x p) (e :: es) [] pos) (tE X.K fun σ S Q => wx σ S fun ds S1 => W i ds S1 Q) := by
  refine ⟨fun pins s σ H Q I h => ?_⟩
  obtain ⟨F, env, S, Q', R, w, k'⟩ := h
  refine wpAny_Call_Name_kw (ld_glob I hg hm ?_ hdb)
  have hA := ha.run pos pins s σ H (fun vs H1 => spOf X.K W i n vs H1 Q E0) I ⟨F, env, S, _, R, w, fun vs F1 ds S1 H1 t1 d1 w1 => ⟨by rw [d1.len]; exact ar _ _ _ w1, F1, ds, S1, Q', t1.rs, d1, w1, fun v F' d S' H' t => k' v F' d S' H' (t1.trans t)⟩⟩
  exact PySem.W.callWith_K (h₀ := X.base) I.ok.mod.kin hk (thn hA fun us s1 ⟨vs, H1, I1, r, q⟩ => ⟨I1.kIn, run_g G hr gd hb I1 r q⟩) he hpl
theorem s_call0 {k i : Nat} {W : CallW} {f : Addr} {fd : FuncData} {ps : List Str} (G : FnG X.prog X.w X.K X.mg X.base k f fd ps (spOf X.K W i 0)) (hr : Room k X.A) (gd : X.A.guards = some []) (hg : Gl X x) (hm : X.mg x = some (.ref f)) (hk : PySem.W.keepIn X.K (.ref f) = true) (hb : Binds X.K fd ps [])
    (hdb : (x == ("__debug__" : Str)) = false) : PE X (.Call (.Name x p) [] [] pos) (tE X.K fun _ S Q => W i [] S Q) := by
  refine ⟨fun pins s σ H Q I h => ?_⟩
  obtain ⟨F, env, S, Q', R, w, k'⟩ := h
  refine wpAny_Call_Name_kw (ld_glob I hg hm ?_ hdb)
  exact PySem.W.callWith_K0 I.kIn hk (run_g (us := []) G hr gd hb I .nil ⟨rfl, F, [], S, Q', R.rs, .nil, w, k'⟩)

/-! ### built-ins -/
theorem Bf.boot (f : Bf) : bootBuiltins f.name = some f.val := by cases f <;> decide +kernel
theorem Bf.nm (f : Bf) : f.name ≠ "__name__" := by cases f <;> decide
theorem Bf.dbg (f : Bf) : (f.name == ("__debug__" : Str)) = false := by cases f <;> decide
theorem pe_bf {r : List V → Hp → VK → Prop} {t : TA} (f : Bf) (hc : CallR X f.val r) (hg : Gl X f.name) (hm : X.mg f.name = none) (ha : PA X (e :: es) t)
    (he : starEach (e :: es) X.env = (false, eval e X.env) :: starEach es X.env) (hpl : (backTo pos (starEach es X.env)).any (·.1) = false) : PE X (.Call (.Name f.name p) (e :: es) [] pos) (tCB r t) := by
  have hv := f.boot
  have h1 := f.nm
  have h2 := f.dbg
  generalize f.name = nm at hg hm hv h1 h2 ⊢
  generalize hval : f.val = vl at hc hv
  cases f <;> (cases hval; first | exact pe_callB hc hg hm hv ha h1 h2 he hpl | exact pe_callTy hc hg hm hv ha h1 h2 he hpl)
theorem s_fn (f : Bf) (hc : X.calm = true) (gd : X.A.guards = some []) (hu : X.A.units + 70 < cLine) (hg : Gl X f.name) (hm : X.mg f.name = none) (ha : PA X (e :: es) (tXs X.K wx))
    (he : starEach (e :: es) X.env = (false, eval e X.env) :: starEach es X.env) (hpl : (backTo pos (starEach es X.env)).any (·.1) = false) : PE X (.Call (.Name f.name p) (e :: es) [] pos) (tE X.K fun σ S Q => wx σ S fun ds S1 => opt (fnD S1 f ds) fun z => Q z S1) := by
  refine pe_imp (pe_bf f (call_fn f hc gd hu) hg hm ha he hpl) fun σ H Q ⟨F, env, S, Q', R, w, k⟩ => ⟨F, env, S, _, R, w, fun vs F1 ds S1 H1 t1 d1 w1 => ?_⟩
  obtain ⟨z, e1, q⟩ := opt_elim w1
  exact ⟨F1, S1, ds, z, t1.rs, d1, e1, fi_of (fun v F' z S' H' t => k v F' z S' H' (t1.trans t)) q⟩
theorem tyx_of {K : PySem.W.Frag} {F H : Hp} {d : D} {v : V} {T : String} (s : Sub F H) (h : Den K F d v) (e : tyD d = some T) : TyX K H v (.type T) := by
  unfold tyD at e
  split at e
  · cases e
    cases h.non_
    exact .base .non
  · cases e
    cases h.bl_
    exact .base (.bl _)
  · cases e
    cases h.int_
    exact .base (.int _)
  · cases e
    cases h.str_
    exact .base (.str _)
  · cases e
    obtain ⟨_, a, vs, rfl, q, _⟩ := h.tup_
    rcases q with (q | ⟨o, q⟩) | ⟨o, its, n, q, c, _⟩
    · exact .base (.tup (s _ _ q))
    · exact .fTuple (s _ _ q)
    · exact .kTuple q c
  · cases e
    obtain ⟨_, a, vs, rfl, q, _⟩ := h.lst_
    rcases q with q | ⟨o, q⟩
    · exact .base (.lst (s _ _ q))
    · exact .base (.frz (s _ _ q))
  · cases e
  · cases e
theorem isi_ok {K : PySem.W.Frag} {d : D} {T : String} {z : Bool} (e : isiD d T = some z) : ∃ t, tyD d = some t ∧ PySem.W.kitOne K (.type t) (.type T) = some z := by
  unfold isiD at e
  rw [Option.bind_eq_some_iff] at e
  obtain ⟨t, e1, e2⟩ := e
  refine ⟨t, e1, kit_ty ?_⟩
  split at e2
  · rename_i hT
    have ht : t ∈ ["NoneType", "bool", "int", "str", "tuple", "list"] := by
      unfold tyD at e1
      split at e1 <;> cases e1 <;> decide
    have hT' : T ∈ ["int", "str", "bool", "tuple", "list"] := by simpa using hT
    cases e2
    simp only [List.mem_cons, List.not_mem_nil, or_false] at ht hT'
    rcases ht with rfl | rfl | rfl | rfl | rfl | rfl <;> rcases hT' with rfl | rfl | rfl | rfl | rfl <;> decide +kernel
  · cases e2
def isiNames : List String := ["int", "str", "bool", "tuple", "list"]
theorem s_isi {T : String} (hu : X.A.units + 70 < cLine) (hg : Gl X "isinstance") (hm : X.mg "isinstance" = none) (ha : PE X a (tE X.K wa)) (hT : PE X b (tC (.ty T))) (he : starEach [a, b] X.env = [(false, eval a X.env), (false, eval b X.env)]) (he2 : starEach [b] X.env = [(false, eval b X.env)]) :
    PE X (.Call (.Name "isinstance" p) [a, b] [] pos) (tE X.K fun σ S Q => wa σ S fun x S1 => opt (isiD x T) fun z => Q (.bl z) S1) := by
  refine pe_imp (pe_callB call_isi hg hm (by decide +kernel) (pa_cons ha (pa_cons hT pa_nil (by rw [he2]; rfl)) (by rw [he, he2])) (by decide) (by decide) (by rw [he, he2]) (by rw [he2]; rfl)) fun σ H Q ⟨F, env, S, Q', R, w, k⟩ => ⟨F, env, S, _, R, w, fun v F1 d S1 H1 t1 d1 w1 => ?_⟩
  obtain ⟨z, e1, q⟩ := opt_elim w1
  obtain ⟨t, e2, e3⟩ := isi_ok (K := X.K) e1
  exact ⟨v, .ty T, .type t, .type T, z, rfl, .ty T, tyx_of t1.rs.sub d1 e2, e3, k _ F1 _ S1 H1 t1 (.mkBl _) q⟩

/-! ### lists by calls -/
theorem CallR.lst : CallR X (.type "list") (fun xs H Q => ∃ F S d ys, RelS X.K F S H ∧ Dens X.K F [d] xs ∧ seqD S d = some ys ∧ ∀ p vs, H p = none → Dens X.K F ys vs → Q (.ref p) (upd H p (.lst vs))) := by
  intro pins s σ H xs us Q I rs h
  obtain ⟨F, S, d, ys, r, hd, e, q⟩ := h
  obtain ⟨v, rfl, d1⟩ := hd.one
  obtain ⟨z, a, vs, rfl, q1, t1⟩ := seq_at r d1 e
  refine call_list_of pins s σ H _ us Q I rs ⟨a, vs, rfl, ?_, fun p n => q p vs n t1⟩
  rcases q1 with q1 | ⟨_, q1⟩
  · exact .inl q1
  · exact .inr (r.sub.sqT q1)
/-- a text's signs, each a text -/
def charsV (z : Str) : List V := z.cps.toList.map fun c => .str ⟨#[c]⟩
theorem vals_get : ∀ {xs : List V} {us : List Value}, xs.length = us.length → (∀ (i : Nat) (x : V) (u : Value), xs[i]? = some x → us[i]? = some u → RelV x u) → Vals xs us
  | [], [], _, _ => .nil
  | [], _ :: _, h, _ => by simp at h
  | _ :: _, [], h, _ => by simp at h
  | x :: xs, u :: us, h, g => .cons (g 0 x u rfl rfl) (vals_get (by simpa using h) fun i y v a b => g (i + 1) y v a b)
theorem CallR.lstS (hc : X.calm = true) : CallR X (.type "list") (fun xs H Q => ∃ z, xs = [.str z] ∧ z.length ≤ sizeLine ∧ ∀ p, H p = none → Q (.ref p) (upd H p (.lst (charsV z)))) := by
  intro pins s σ H xs us Q I rs h
  obtain ⟨z, rfl, hz, q⟩ := h
  obtain ⟨u, rfl, t, rfl⟩ := vals1 rs
  refine call_list_str (I.ok.hd hc) z t (fun h' tk acc' c' kp e it => ?_) hz
  have hv : Vals (charsV z) acc'.toList := by
    refine vals_get (by unfold charsV; rw [List.length_map, Array.length_toList, Array.length_toList]; exact it.1.symm) fun i x u a b => ?_
    obtain ⟨c, t, e1, rfl⟩ := it.2 i u (by simpa using b)
    unfold charsV at a
    rw [List.getElem?_map, Array.getElem?_toList, e1] at a
    cases a
    exact ⟨t, rfl⟩
  refine ⟨.ref s.heap.objs.size, _, I.laid (t' := tk) kp (Nat.le_refl _) (show ObjOk X.prog X.w _ h' _ (.lst (charsV z)) from ⟨by unfold charsV; rw [List.length_map, Array.length_toList]; exact hz, acc'.toList, c', hv, by simpa using e⟩), rfl, q _ (I.hok.fresh (Nat.le_refl _))⟩
theorem Dens.chars {K : PySem.W.Frag} {F : Hp} : ∀ {cs : List Nat}, Dens K F (cs.map fun c => .str ⟨#[c]⟩) (cs.map fun c => .str ⟨#[c]⟩)
  | [] => .nil
  | _ :: _ => .cons (.mkStr _) Dens.chars
theorem l_lst (hc : X.calm = true) (hg : Gl X "list") (hm : X.mg "list" = none) (ha : PE X a (tE X.K wa)) (he : starEach [a] X.env = [(false, eval a X.env)]) :
    PE X (.Call (.Name "list" p) [a] [] pos) (tLs X.K fun σ S Q => wa σ S fun x S1 => opt (lstD S1 x) fun xs => Q xs S1) := by
  refine pe_imp (pe_callTy (CallR.or CallR.lst (CallR.lstS hc)) hg hm (by decide +kernel) (x_cons ha x_nil (by rw [he]; rfl)) (by decide) (by decide) (by rw [he]; rfl) rfl) fun σ H Q ⟨F, env, S, Q', R, w, k⟩ => ⟨F, env, S, fun ds S1 => match ds with | [x] => opt (lstD S1 x) fun xs => Q' xs S1 | _ => False, R, w, fun vs F1 ds S1 H1 t1 d1 w1 => ?_⟩
  dsimp only at w1
  split at w1
  · obtain ⟨ys, e1, q⟩ := opt_elim w1
    obtain ⟨v, rfl, dd⟩ := d1.one
    unfold lstD at e1
    split at e1
    · split at e1
      · rename_i hz
        cases e1
        cases dd.str_
        refine .inr ⟨_, rfl, hz, fun p n => ?_⟩
        obtain ⟨t, a1, a2, a3⟩ := l_at (vs := charsV _) t1 n
        exact k p _ F1 _ S1 _ t a1 a2 a3 upd_same Dens.chars (by rw [List.length_map, Array.length_toList]; exact hz) q
      · cases e1
    · refine .inl ⟨F1, S1, _, ys, t1.rs, d1, e1, fun p us n du => ?_⟩
      obtain ⟨t, a1, a2, a3⟩ := l_at (vs := us) t1 n
      exact k p us F1 _ S1 _ t a1 a2 a3 upd_same du (seq_at t1.rs dd e1).1 q
  · exact False.elim w1

/-! ### a text's methods -/
theorem strs_of {K : PySem.W.Frag} {F : Hp} : ∀ {xs : List D} {ys : List Str} {vs : List V}, Dens K F xs vs → strsOf xs = some ys → vs = ys.map V.str
  | [], ys, vs, h, e => by
    cases e
    rw [h.nil_inv]
    rfl
  | x :: xs, ys, vs, h, e => by
    obtain ⟨v, r, rfl, h1, h2⟩ := h.cons_inv
    cases x with
    | str b =>
      unfold strsOf at e
      cases e2 : strsOf xs with
      | none => rw [e2] at e; cases e
      | some zs =>
        rw [e2] at e
        cases e
        cases h1.str_
        rw [strs_of h2 e2]
        rfl
    | _ => cases e
def Mt.id : Mt → String
  | .join => "str.join"
  | .startswith => "str.startswith"
  | .index => "str.index"
  | .isalpha => "str.isalpha"
def rMt (K : PySem.W.Frag) (m : Mt) : V → List V → Hp → VK → Prop := fun x xs H Q => ∃ F S d ds z, RelS K F S H ∧ Den K F d x ∧ Dens K F ds xs ∧ mtD S m d ds = some z ∧ ∀ v, Den K F z v → Q v H
theorem mt_mt (m : Mt) : MtR X m.id (rMt X.K m) := by
  intro pins s σ H x xs v us Q I rx rs h
  obtain ⟨F, S, d, ds, z, r, hd, hds, e, q⟩ := h
  unfold mtD at e
  split at e
  · cases hd.str_
    obtain ⟨w, rfl, dd⟩ := hds.one
    cases e1 : seqD S _ with
    | none => rw [e1] at e; cases e
    | some ys =>
      rw [e1] at e
      cases e2 : strsOf ys with
      | none => simp only [Option.bind_some, e2] at e; cases e
      | some zs =>
        simp only [Option.bind_some, e2] at e
        split at e
        · rename_i hz
          cases e
          obtain ⟨_, p, vs, rfl, q1, t1⟩ := seq_at r dd e1
          cases strs_of t1 e2
          refine mt_join pins s σ H _ _ v us Q I rx rs ⟨_, p, zs, rfl, rfl, ?_, hz, q _ (.mkStr _)⟩
          rcases q1 with q1 | ⟨_, q1⟩
          · exact .inl q1
          · exact .inr (r.sub.sqT q1)
        · cases e
  · cases e
    cases hd.str_
    obtain ⟨w, rfl, dd⟩ := hds.one
    cases dd.str_
    exact mt_startswith pins s σ H _ _ v us Q I rx rs ⟨_, _, rfl, rfl, q _ (.mkBl _)⟩
  · cases hd.str_
    obtain ⟨w, rfl, dd⟩ := hds.one
    cases dd.str_
    split at e
    · rename_i i r ho
      cases e
      exact mt_sindex pins s σ H _ _ v us Q I rx rs ⟨_, _, _, _, rfl, rfl, ho, q _ (.mkInt _)⟩
    · cases e
  · cases e
    cases hd.str_
    cases hds.nil_inv
    exact mt_isalpha pins s σ H _ _ v us Q I rx rs ⟨_, rfl, rfl, trivial, q _ (.mkBl _)⟩
  · cases e
theorem s_mtd0 {o : Expr} {apos cpos : Pos} {wo : WE} (m : Mt) (ho : PE X o (tE X.K wo)) (hb : attributeBase o m.nm X.env (eval o X.env) = eval o X.env) (hl : (apos.endLine == cpos.line) = true) :
    PE X (.Call (.Attribute o m.nm apos) [] [] cpos) (tE X.K fun σ S Q => wo σ S fun x S1 => isStr x ∧ opt (mtD S1 m x []) fun z => Q z S1) := by
  have base : PE X (.Call (.Attribute o m.nm apos) [] [] cpos) (tBM0 X.K "str" (rMt X.K m) (tE X.K wo)) := by
    cases m with
    | join => exact pe_bm0 PySem.F.plainAttrs_str PySem.F.slot_str_join PySem.F.type_str_join (mt_mt .join) ho hb hl
    | startswith => exact pe_bm0 PySem.F.plainAttrs_str PySem.F.slot_str_startswith PySem.F.type_str_startswith (mt_mt .startswith) ho hb hl
    | index => exact pe_bm0 PySem.F.plainAttrs_str PySem.F.slot_str_index PySem.F.type_str_index (mt_mt .index) ho hb hl
    | isalpha => exact pe_bm0 PySem.F.plainAttrs_str PySem.F.slot_str_isalpha PySem.F.type_str_isalpha (mt_mt .isalpha) ho hb hl
  refine pe_imp base fun σ H Q ⟨F, env, S, Q', R, w, k⟩ => ⟨F, env, S, _, R, w, fun x F1 d S1 H1 t1 d1 ⟨l1, w1⟩ => ?_⟩
  have l2 : ∃ a, d = .str a := by
    cases d with
    | str a => exact ⟨a, rfl⟩
    | _ => exact False.elim l1
  obtain ⟨a, rfl⟩ := l2
  cases d1.str_
  obtain ⟨z, e1, q⟩ := opt_elim w1
  exact ⟨rfl, F1, S1, _, [], z, t1.rs, .mkStr _, .nil, e1, fun v dv => k v F1 z S1 H1 t1 dv q⟩
theorem s_mtd {o e : Expr} {es : List Expr} {apos cpos : Pos} {wo : WE} (m : Mt) (ho : PE X o (tE X.K wo)) (ha : PA X (e :: es) (tXs X.K wx)) (hb : attributeBase o m.nm X.env (eval o X.env) = eval o X.env) (hl : (apos.endLine == cpos.line) = true)
    (he : starEach (e :: es) X.env = (false, eval e X.env) :: starEach es X.env) (hpl : (backTo cpos (starEach es X.env)).any (·.1) = false) (hfew : ((backTo cpos (starEach (e :: es) X.env)).all (fun x => !x.1) && (backToKw cpos (keywordEach [] X.env)).all (fun x => x.1.isSome)
      && decide ((e :: es).length + ([] : List Keyword).length + (if ([] : List Keyword).isEmpty then 0 else 1) < 30)) = true) :
    PE X (.Call (.Attribute o m.nm apos) (e :: es) [] cpos) (tE X.K fun σ S Q => wo σ S fun x S1 => isStr x ∧ wx σ S1 fun ds S2 => opt (mtD S2 m x ds) fun z => Q z S2) := by
  have base : PE X (.Call (.Attribute o m.nm apos) (e :: es) [] cpos) (tBM X.K "str" (rMt X.K m) (tE X.K wo) (tXs X.K wx)) := by
    cases m with
    | join => exact pe_bm PySem.F.plainAttrs_str PySem.F.slot_str_join PySem.F.type_str_join (mt_mt .join) ho ha hb hfew hl he hpl
    | startswith => exact pe_bm PySem.F.plainAttrs_str PySem.F.slot_str_startswith PySem.F.type_str_startswith (mt_mt .startswith) ho ha hb hfew hl he hpl
    | index => exact pe_bm PySem.F.plainAttrs_str PySem.F.slot_str_index PySem.F.type_str_index (mt_mt .index) ho ha hb hfew hl he hpl
    | isalpha => exact pe_bm PySem.F.plainAttrs_str PySem.F.slot_str_isalpha PySem.F.type_str_isalpha (mt_mt .isalpha) ho ha hb hfew hl he hpl
  refine pe_imp base fun σ H Q ⟨F, env, S, Q', R, w, k⟩ => ⟨F, env, S, _, R, w, fun x F1 d S1 H1 t1 d1 ⟨l1, w1⟩ => ?_⟩
  have l2 : ∃ a, d = .str a := by
    cases d with
    | str a => exact ⟨a, rfl⟩
    | _ => exact False.elim l1
  obtain ⟨a, rfl⟩ := l2
  cases d1.str_
  refine ⟨rfl, F1, env, S1, _, R.tr t1, w1, fun vs F2 ds S2 H2 t2 dd2 w2 => ?_⟩
  obtain ⟨z, e1, q⟩ := opt_elim w2
  exact ⟨F2, S2, _, ds, z, t2.rs, .mkStr _, dd2, e1, fun v dv => k v F2 z S2 H2 (t1.trans t2) dv q⟩
theorem rd_lst {K : PySem.W.Frag} {F H : Hp} {S : Sto} {d : D} {x : V} {xs : List D} (r : RelS K F S H) (hd : Den K F d x) (e : itemsD S d = some xs) : ∃ a vs, x = .ref a ∧ Rd H a (.lst vs) ∧ Dens K F xs vs := by
  unfold itemsD at e
  split at e
  · cases e
    obtain ⟨z, a, vs, rfl, q1, t1⟩ := hd.lst_
    exact ⟨a, vs, rfl, r.sub.rd q1, t1⟩
  · cases hd.ref_
    split at e
    · rename_i ho
      cases e
      obtain ⟨_, z, vs, q1, t1⟩ := r.lst ho
      exact ⟨_, vs, rfl, .inl q1, t1⟩
    · cases e
  · cases e
theorem op_catR : OpR X (binaryOp .Add) (fun x y H Q => ∃ l b xs zs, x = .ref l ∧ y = .ref b ∧ Rd H l (.lst xs) ∧ Rd H b (.lst zs) ∧ xs.length + zs.length ≤ sizeLine ∧ ∀ p, H p = none → Q (.ref p) (upd H p (.lst (xs ++ zs)))) := by
  intro pins s σ H x y v u Q I rx ry h
  obtain ⟨l, b, xs, zs, rfl, rfl, h1, h2, hz, q⟩ := h
  cases rx
  cases ry
  obtain ⟨z1, its, n, r, g1⟩ := h1.ok I.hok
  obtain ⟨z2, its2, n2, r2, g2⟩ := h2.ok I.hok
  have l1 := r.length
  have l2 := r2.length
  refine PySem.P.add_list g1 g2 ?_ (by rw [List.size_toArray, List.size_toArray]; omega)
  rw [show its.toArray ++ its2.toArray = (its ++ its2).toArray by simp]
  exact ⟨.ref _, _, I.lnew (t' := s.toks) (r.append r2) (by rw [List.length_append]; omega), rfl, q _ I.fresh⟩
theorem l_cat (ha : PE X a (tE X.K wa)) (hb : PE X b (tE X.K wb)) : PE X (.BinOp a .Add b pos) (tLs X.K fun σ S Q => wa σ S fun x S1 => wb σ S1 fun y S2 => opt (itemsD S2 x) fun xs => opt (itemsD S2 y) fun ys => xs.length + ys.length ≤ sizeLine ∧ Q (xs ++ ys) S2) := by
  refine pe_imp (pe_op op_catR ha hb) fun σ H Q ⟨F, env, S, Q', R, w, k⟩ => ⟨F, env, S, _, R, w, fun v F1 d S1 H1 t1 d1 w1 => ⟨F1, env, S1, _, R.tr t1, w1, fun v2 F2 d2 S2 H2 t2 dd2 w2 => ?_⟩⟩
  obtain ⟨xs, e1, w3⟩ := opt_elim w2
  obtain ⟨ys, e2, hl, q⟩ := opt_elim w3
  obtain ⟨a1, vs1, rfl, r1, t3⟩ := rd_lst t2.rs (d1.mono t2.sub) e1
  obtain ⟨a2, vs2, rfl, r2, t4⟩ := rd_lst t2.rs dd2 e2
  refine ⟨a1, a2, vs1, vs2, rfl, rfl, r1, r2, by rw [t3.len, t4.len]; exact hl, fun p n => ?_⟩
  obtain ⟨t, b1, b2, b3⟩ := l_at (vs := vs1 ++ vs2) (t1.trans t2) n
  exact k p _ F2 _ S2 _ t b1 b2 b3 upd_same (t3.append t4) (by rw [List.length_append]; exact hl) q

theorem rd_len {K : PySem.W.Frag} {F H : Hp} {S : Sto} {d : D} {x : V} {xs : List D} (r : RelS K F S H) (hd : Den K F d x) (e : itemsD S d = some xs) : xs.length ≤ sizeLine := by
  unfold itemsD at e
  split at e
  · cases e
    exact hd.lst_.1
  · cases hd.ref_
    split at e
    · rename_i ho
      cases e
      obtain ⟨_, z, vs, q1, t1⟩ := r.lst ho
      exact z
    · cases e
  · cases e
theorem dens_rev {K : PySem.W.Frag} {F : Hp} : ∀ {xs : List D} {vs : List V}, Dens K F xs vs → Dens K F xs.reverse vs.reverse
  | [], vs, h => by
    cases h.nil_inv
    exact .nil
  | x :: xs, vs, h => by
    obtain ⟨v, r, rfl, d, t⟩ := h.cons_inv
    rw [List.reverse_cons, List.reverse_cons]
    exact (dens_rev t).append (.cons d .nil)
theorem l_rev {k : Nat} {p1 p2 p3 : Pos} (ha : PE X a (tE X.K wa)) : PE X (.Subscript a (.Slice none none (some (.UnaryOp .USub (.Constant (.int 1) k p1) p2)) p3) pos) (tLs X.K fun σ S Q => wa σ S fun x S1 => opt (itemsD S1 x) fun xs => Q xs.reverse S1) := by
  refine pe_imp (pe_revL ha) fun σ H Q ⟨F, env, S, Q', R, w, kk⟩ => ⟨F, env, S, _, R, w, fun v F1 d S1 H1 t1 d1 w1 => ?_⟩
  obtain ⟨xs, e1, q⟩ := opt_elim w1
  obtain ⟨a1, vs1, rfl, r1, t3⟩ := rd_lst t1.rs d1 e1
  refine ⟨a1, vs1, rfl, .inl r1, fun p n => ?_⟩
  obtain ⟨t, b1, b2, b3⟩ := l_at (vs := vs1.reverse) t1 n
  exact kk p _ F1 _ S1 _ t b1 b2 b3 upd_same (dens_rev t3) (by rw [List.length_reverse]; exact rd_len t1.rs d1 e1) q
theorem rg_dens {K : PySem.W.Frag} {F : Hp} (a : Int) : ∀ n : Nat, Dens K F ((List.range n).map fun (k : Nat) => D.int (a + k)) ((List.range n).map fun i => V.int (a + (i : Nat)))
  | 0 => .nil
  | n + 1 => by
    rw [List.range_succ, List.map_append, List.map_append]
    exact (rg_dens a n).append (.cons (.mkInt _) .nil)
theorem s_tpr1 (hc : X.calm = true) (hg : Gl X "tuple") (hm : X.mg "tuple" = none) (hg2 : Gl X "range") (hm2 : X.mg "range" = none) {p2 pos2 : Pos} (ha : PE X a (tE X.K wa)) (hs : starEach [a] X.env = [(false, eval a X.env)]) :
    PE X (.Call (.Name "tuple" p) [.Call (.Name "range" p2) [a] [] pos2] [] pos) (tE X.K fun σ S Q => wa σ S fun x S1 => match x with | .int n => (0 ≤ n ∧ n ≤ 16777216) ∧ Q (.tup ((List.range n.toNat).map fun (k : Nat) => .int (0 + k))) S1 | _ => False) := by
  refine pe_imp (pe_tupRg hc hg hm (prg_1 hg2 hm2 ha (by rw [hs]; rfl))) fun σ H Q ⟨F, env, S, Q', R, w, k⟩ => ⟨F, env, S, _, R, w, fun v F1 d S1 H1 t1 d1 w1 => ?_⟩
  split at w1
  · rename_i n
    cases d1.int_
    refine ⟨n, rfl, RgOk.of_le (by omega) (by omega) (by omega) (by omega), fun p hn => ?_⟩
    obtain ⟨r', s⟩ := t1.rs.newF (o := .tup (rgV 0 n)) hn
    have e : rgV 0 n = (List.range n.toNat).map fun i => V.int (0 + (i : Nat)) := by unfold rgV; rw [Int.sub_zero]
    refine k _ _ _ S1 _ (t1.trans (Tr.grow (Gw.new (t1.rs.sub.none hn) hn) r')) (.mkTup ?_ (.inl (.inl upd_same)) ?_) w1.2
    · rw [List.length_map, List.length_range, sizeLine_eq]; omega
    · rw [e]; exact rg_dens 0 n.toNat
  · exact False.elim w1
theorem s_tpr2 (hc : X.calm = true) (hg : Gl X "tuple") (hm : X.mg "tuple" = none) (hg2 : Gl X "range") (hm2 : X.mg "range" = none) {p2 pos2 : Pos} (ha : PE X a (tE X.K wa)) (hb : PE X b (tE X.K wb)) (hs : starEach [a, b] X.env = [(false, eval a X.env), (false, eval b X.env)]) (hs2 : starEach [b] X.env = [(false, eval b X.env)]) :
    PE X (.Call (.Name "tuple" p) [.Call (.Name "range" p2) [a, b] [] pos2] [] pos) (tE X.K fun σ S Q => wa σ S fun x S1 => wb σ S1 fun y S2 => match x, y with
    | .int m, .int n => (0 ≤ m ∧ m ≤ 16777216 ∧ 0 ≤ n ∧ n ≤ 16777216) ∧ Q (.tup ((List.range (n - m).toNat).map fun (k : Nat) => .int (m + k))) S2
    | _, _ => False) := by
  refine pe_imp (pe_tupRg hc hg hm (prg_2 hg2 hm2 ha hb (by rw [hs, hs2]) (by rw [hs2]; rfl) (by rw [hs2]; rfl))) fun σ H Q ⟨F, env, S, Q', R, w, k⟩ => ⟨F, env, S, _, R, w, fun v F1 d S1 H1 t1 d1 w1 => ⟨F1, env, S1, _, R.tr t1, w1, fun v2 F2 d2 S2 H2 t2 dd2 w2 => ?_⟩⟩
  split at w2
  · rename_i m n
    cases d1.int_
    cases dd2.int_
    obtain ⟨hw, q⟩ := w2
    refine ⟨m, n, rfl, rfl, RgOk.of_le (by omega) (by omega) (by omega) (by omega), fun p hn => ?_⟩
    obtain ⟨r', s⟩ := t2.rs.newF (o := .tup (rgV m n)) hn
    refine k _ _ _ S2 _ ((t1.trans t2).trans (Tr.grow (Gw.new (t2.rs.sub.none hn) hn) r')) (.mkTup ?_ (.inl (.inl upd_same)) ?_) q
    · rw [List.length_map, List.length_range, sizeLine_eq]; omega
    · exact rg_dens m (n - m).toNat
  · exact False.elim w2
theorem l_rep (ha : PE X a (tE X.K wa)) (hb : PE X b (tE X.K wb)) : PE X (.BinOp a .Mult b pos) (tLs X.K fun σ S Q => wa σ S fun x S1 => wb σ S1 fun y S2 => match y with | .int n => opt (itemsD S2 x) fun xs => (0 ≤ n ∧ n ≤ 1000 ∧ xs.length ≤ 1000) ∧ Q (List.replicate n.toNat xs).flatten S2 | _ => False) := by
  refine pe_imp (pe_op op_mulL ha hb) fun σ H Q ⟨F, env, S, Q', R, w, k⟩ => ⟨F, env, S, _, R, w, fun v F1 d S1 H1 t1 d1 w1 => ⟨F1, env, S1, _, R.tr t1, w1, fun v2 F2 d2 S2 H2 t2 dd2 w2 => ?_⟩⟩
  split at w2
  · obtain ⟨xs, e1, hl, q⟩ := opt_elim w2
    cases dd2.int_
    obtain ⟨a1, vs1, rfl, r1, t3⟩ := rd_lst t2.rs (d1.mono t2.sub) e1
    refine ⟨a1, _, vs1, rfl, rfl, r1, hl.1, hl.2.1, by rw [t3.len]; exact hl.2.2, fun p n => ?_⟩
    obtain ⟨t, b1, b2, b3⟩ := l_at (vs := (List.replicate _ vs1).flatten) (t1.trans t2) n
    refine k p _ F2 _ S2 _ t b1 b2 b3 upd_same (Dens.rep t3 _) ?_ q
    rw [PyProof.Rows.lm_len_rep_flat, sizeLine_eq]
    exact Nat.le_trans (Nat.mul_le_mul (Int.toNat_le.mpr hl.2.1) hl.2.2) (by decide : 1000 * 1000 ≤ 16777216)
  · exact False.elim w2

/-! ### what is walked -/
theorem i_tup {tg : Expr} (ha : PE X a (tE X.K wa)) : PI X tg a (tIt X.K fun σ S Q => wa σ S fun x S1 => match x with | .tup xs => Q xs (fun _ => True) S1 | _ => False) := by
  refine pi_imp (pi_tup ha) fun σ H R ⟨F, env, S, Q', Rr, w, k⟩ => ⟨F, env, S, _, Rr, w, fun v F1 d S1 H1 t1 d1 w1 => ?_⟩
  split at w1
  · obtain ⟨z, p, vs, rfl, q1, ts⟩ := d1.tup_
    refine ⟨p, rfl, ⟨vs, t1.rs.sub.sqT q1⟩, k _ _ _ F1 S1 H1 t1 ⟨z, fun i F' S' H' d s r _ e => ?_, fun F' S' H' s r _ => ⟨vs, r.sub.sqT (s.sqT q1), by rw [ts.len]; exact Nat.le_refl _⟩⟩ w1⟩
    obtain ⟨u, e1, e2⟩ := ts.get e
    have sq := r.sub.sqT (s.sqT q1)
    exact ⟨⟨vs, u, sq, e1⟩, fun x H2 ⟨eH, f⟩ => ⟨F', by rw [eH]; exact Tr.refl r, by
      have := f vs sq
      rw [e1] at this
      cases this
      exact e2.mono s⟩⟩
  · exact False.elim w1
theorem i_lst {tg : Expr} (ha : PE X a (tE X.K wa)) : PI X tg a (tIt X.K fun σ S Q => wa σ S fun x S1 => match x with
    | .lst xs => Q xs (fun _ => True) S1
    | .ref a => match S1 a with
      | some (.lst xs) => Q xs (fun S => S a = some (.lst xs)) S1
      | _ => False
    | _ => False) := by
  refine pi_imp (pi_list ha) fun σ H R ⟨F, env, S, Q', Rr, w, k⟩ => ⟨F, env, S, _, Rr, w, fun v F1 d S1 H1 t1 d1 w1 => ?_⟩
  split at w1
  · obtain ⟨z, p, vs, rfl, q1, ts⟩ := d1.lst_
    refine ⟨p, rfl, ⟨vs, .inl (t1.rs.sub.rd q1)⟩, k _ _ _ F1 S1 H1 t1 ⟨z, fun i F' S' H' d s r _ e => ?_, fun F' S' H' s r _ => ⟨vs, .inl (r.sub.rd (s.rd q1)), by rw [ts.len]; exact Nat.le_refl _⟩⟩ w1⟩
    obtain ⟨u, e1, e2⟩ := ts.get e
    have sq : SqL X.K H' p vs := .inl (r.sub.rd (s.rd q1))
    exact ⟨⟨vs, u, sq, e1⟩, fun x H2 ⟨eH, f⟩ => ⟨F', by rw [eH]; exact Tr.refl r, by
      have := f vs sq
      rw [e1] at this
      cases this
      exact e2.mono s⟩⟩
  · cases d1.ref_
    split at w1
    · rename_i p _ xs hS
      obtain ⟨_, z, vs, h1, ts⟩ := t1.rs.lst hS
      refine ⟨p, rfl, ⟨vs, .inl (.inl h1)⟩, k _ _ _ F1 S1 H1 t1 ⟨z, fun i F' S' H' d s r g e => ?_, fun F' S' H' s r g => ?_⟩ w1⟩
      · obtain ⟨_, _, us, h2, tu⟩ := r.lst g
        obtain ⟨u, e1, e2⟩ := tu.get e
        have sq : SqL X.K H' p us := .inl (.inl h2)
        exact ⟨⟨us, u, sq, e1⟩, fun x H2 ⟨eH, f⟩ => ⟨F', by rw [eH]; exact Tr.refl r, by
          have := f us sq
          rw [e1] at this
          cases this
          exact e2⟩⟩
      · obtain ⟨_, _, us, h2, tu⟩ := r.lst g
        exact ⟨us, .inl (.inl h2), by rw [tu.len]; exact Nat.le_refl _⟩
    · exact False.elim w1
  · exact False.elim w1
theorem i_str {tg : Expr} (ha : PE X a (tE X.K wa)) : PI X tg a (tIt X.K fun σ S Q => wa σ S fun x S1 => match x with | .str z => z.length ≤ sizeLine ∧ Q (z.cps.toList.map fun c => .str ⟨#[c]⟩) (fun _ => True) S1 | _ => False) := by
  refine pi_imp (pi_str ha) fun σ H R ⟨F, env, S, Q', Rr, w, k⟩ => ⟨F, env, S, _, Rr, w, fun v F1 d S1 H1 t1 d1 w1 => ?_⟩
  split at w1
  · rename_i z
    cases d1.str_
    refine ⟨z, rfl, k _ _ _ F1 S1 H1 t1 ⟨by rw [List.length_map, Array.length_toList]; exact w1.1, fun i F' S' H' d s r _ e => ?_, fun F' S' H' s r _ => by rw [List.length_map, Array.length_toList]; exact Nat.le_refl _⟩ w1.2⟩
    rw [List.getElem?_map, Option.map_eq_some_iff] at e
    obtain ⟨c, e1, rfl⟩ := e
    rw [Array.getElem?_toList] at e1
    refine ⟨(Array.getElem?_eq_some_iff.mp e1).1, fun x H2 ⟨eH, c2, e2, ex⟩ => ⟨F', by rw [eH]; exact Tr.refl r, ?_⟩⟩
    rw [e1] at e2
    cases e2
    rw [ex]
    exact .mkStr _
  · exact False.elim w1
theorem src_rng {K : PySem.W.Frag} {F : Hp} {lo : Int} {n : Nat} (z : n ≤ sizeLine) : Src K F (Itr lo n) ((List.range n).map fun (k : Nat) => .int (lo + k)) (fun _ => True) := by
  refine ⟨by rw [List.length_map, List.length_range]; exact z, fun i F' S' H' d s r _ e => ?_, fun F' S' H' s r _ => by rw [List.length_map, List.length_range]; exact Nat.le_refl _⟩
  rw [List.getElem?_map, Option.map_eq_some_iff] at e
  obtain ⟨j, e1, rfl⟩ := e
  obtain ⟨h1, h2⟩ := List.getElem?_eq_some_iff.mp e1
  rw [List.getElem_range] at h2
  rw [List.length_range] at h1
  subst h2
  have e1 : i < n := h1
  exact ⟨e1, fun x H2 ⟨eH, ex⟩ => ⟨F', by rw [eH]; exact Tr.refl r, by rw [ex]; exact .mkInt _⟩⟩
theorem i_rng1 {tg : Expr} (hg : Gl X "range") (hm : X.mg "range" = none) (ha : PE X a (tE X.K wa)) (hs : starEach [a] X.env = [(false, eval a X.env)]) :
    PI X tg (.Call (.Name "range" p) [a] [] pos) (tIt X.K fun σ S Q => wa σ S fun x S1 => match x with | .int n => n ≤ 16777216 ∧ -16777216 ≤ n ∧ Q ((List.range n.toNat).map fun (k : Nat) => .int (0 + k)) (fun _ => True) S1 | _ => False) := by
  refine pi_imp (pi_range1 hg hm (pa_cons ha pa_nil (by rw [hs]; rfl)) hs) fun σ H R ⟨F, env, S, Q', Rr, w, k⟩ => ⟨F, env, S, _, Rr, w, fun v F1 d S1 H1 t1 d1 w1 => ?_⟩
  split at w1
  · rename_i n
    obtain ⟨w1, w2, w3⟩ := w1
    cases d1.int_
    exact ⟨n, rfl, by omega, by omega, k _ _ _ F1 S1 H1 t1 (src_rng (by rw [sizeLine_eq]; omega)) w3⟩
  · exact False.elim w1
theorem i_rng2 {tg : Expr} (hg : Gl X "range") (hm : X.mg "range" = none) (ha : PE X a (tE X.K wa)) (hb : PE X b (tE X.K wb)) (hs : starEach [a, b] X.env = [(false, eval a X.env), (false, eval b X.env)]) (hs2 : starEach [b] X.env = [(false, eval b X.env)]) :
    PI X tg (.Call (.Name "range" p) [a, b] [] pos) (tIt X.K fun σ S Q => wa σ S fun x S1 => wb σ S1 fun y S2 => match x, y with
    | .int m, .int n => (-16777216 ≤ m ∧ m ≤ 16777216 ∧ -16777216 ≤ n ∧ n ≤ 16777216 ∧ n - m ≤ 16777216) ∧ Q ((List.range (n - m).toNat).map fun (k : Nat) => .int (m + k)) (fun _ => True) S2
    | _, _ => False) := by
  refine pi_imp (pi_range2 hg hm (pa_cons ha (pa_cons hb pa_nil (by rw [hs2]; rfl)) (by rw [hs, hs2])) hs hs2) fun σ H R ⟨F, env, S, Q', Rr, w, k⟩ => ⟨F, env, S, _, Rr, w, fun v F1 d S1 H1 t1 d1 w1 => ⟨F1, env, S1, _, Rr.tr t1, w1, fun v2 F2 d2 S2 H2 t2 dd2 w2 => ?_⟩⟩
  split at w2
  · rename_i m n
    obtain ⟨w3, w4⟩ := w2
    cases d1.int_
    cases dd2.int_
    exact ⟨m, n, rfl, ⟨by omega, by omega, by omega, by omega⟩, k _ _ _ F2 S2 H2 (t1.trans t2) (src_rng (by rw [sizeLine_eq]; omega)) w4⟩
  · exact False.elim w2

/-! ### targets -/
def Loc' (X : Cx) (x : Str) : Prop := X.env.scope.names.lookup x = some .local ∨ (X.env.scope.names.lookup x = some .cell ∧ X.fn x = true)
theorem wipe_set {σ : L2.St} {i : Nat} {o : Option V} : ∀ {vs : List Nat}, i ∈ vs → wipe (σ.set i o) vs = wipe σ vs := by
  intro vs h
  refine List.ext_getElem? fun j => ?_
  have len : ∀ (τ : L2.St), (wipe τ vs).length = τ.length := fun τ => wipe_length τ vs
  by_cases hj : j ∈ vs
  · have g : ∀ (τ : L2.St), j < τ.length → (wipe τ vs)[j]? = some none := by
      intro τ hl
      have hl' : j < (wipe τ vs).length := by rw [len]; exact hl
      rw [List.getElem?_eq_getElem hl']
      cases q : (wipe τ vs)[j] with
      | none => rfl
      | some x =>
        have e : (wipe τ vs)[j]? = some (some x) := by rw [List.getElem?_eq_getElem hl', q]
        exact absurd hj (wipe_some e).2
    by_cases hl : j < σ.length
    · rw [g _ (by rw [List.length_set]; exact hl), g _ hl]
    · rw [List.getElem?_eq_none (by rw [len, List.length_set]; omega), List.getElem?_eq_none (by rw [len]; omega)]
  · rw [wipe_out hj, wipe_out hj, List.getElem?_set_ne (fun (e : i = j) => hj (by rw [← e]; exact h))]
theorem Rl.set {K : PySem.W.Frag} {F H : Hp} {σ : L2.St} {env : Ev} {S : Sto} {i : Nat} {d : D} {v : V} (h : Rl K F σ H env S) (hi : i < σ.length) (hd : Den K F d v) : Rl K F (σ.set i (some v)) H (env.set i (some d)) S := by
  refine ⟨h.rs, fun j d' e => ?_⟩
  by_cases z : i = j
  · subst z
    by_cases hl : i < env.length
    · rw [List.getElem?_set_self hl] at e
      cases e
      exact ⟨v, List.getElem?_set_self hi, hd⟩
    · rw [List.getElem?_eq_none (by rw [List.length_set]; omega)] at e
      cases e
  · rw [List.getElem?_set_ne z] at e ⊢
    exact h.sl j d' e
theorem g_nam {i : Nat} (hN : X.N.Nodup) (hi : X.N[i]? = some x) (hx : Loc' X x) : PG X (.Name x pos) (tTg X.K [i] fun d σ S Q => Q (σ.set i (some d)) S) := by
  have h1 : Loc X.env.scope x := by
    rcases hx with h | ⟨h, _⟩
    · exact .inl h
    · exact .inr h
  have h2 : X.fn x = true ∨ X.env.scope.names.lookup x = some .local := by
    rcases hx with h | ⟨_, h⟩
    · exact .inr h
    · exact .inl h
  refine ⟨fun pins s σ H v u Q I r ⟨F, env, S, Q', d, R, hd, w, k⟩ => ?_⟩
  have hl : i < σ.length := by
    rw [I.len]
    exact (List.getElem?_eq_some_iff.mp hi).1
  exact (pg_name (X := X) hN hi h1 h2).run pins s σ H v u Q I r (k _ F _ S H (Tr.refl R.rs) (R.set hl hd) (fun vs hv => wipe_set (hv i (List.mem_singleton.mpr rfl))) w)
theorem g_nil : PGs X [] (tTgs X.K [] fun ds σ S Q => ds = [] ∧ Q σ S) :=
  pgs_imp pgs_nil fun vs σ H Q ⟨F, env, S, Q', ds, R, hd, ⟨e, w⟩, k⟩ => ⟨by subst e; exact hd.nil_inv, k σ F env S H (Tr.refl R.rs) R (fun _ _ => rfl) w⟩
theorem g_cons {s1 s2 : List Nat} {w1 : D → Ev → Sto → (Ev → Sto → Prop) → Prop} {w2 : List D → Ev → Sto → (Ev → Sto → Prop) → Prop} (h1 : PG X e (tTg X.K s1 w1)) (h2 : PGs X es (tTgs X.K s2 w2)) (hs : (assignEach (e :: es) X.env).map (·.2) = assign e X.env :: (assignEach es X.env).map (·.2)) :
    PGs X (e :: es) (tTgs X.K (s1 ++ s2) fun ds σ S Q => match ds with | d :: r => w1 d σ S fun σ1 S1 => w2 r σ1 S1 Q | [] => False) := by
  refine pgs_imp (pgs_cons h1 h2 hs) fun vs σ H Q ⟨F, env, S, Q', ds, R, hd, w, k⟩ => ?_
  dsimp only at w
  split at w
  · rename_i d r
    obtain ⟨v, vr, rfl, d1, dr⟩ := hd.cons_inv
    refine ⟨v, vr, rfl, F, env, S, _, d, R, d1, w, fun σ1 F1 env1 S1 H1 t1 R1 p1 w1 => ⟨F1, env1, S1, _, r, R1, dr.mono t1.sub, w1, fun σ2 F2 env2 S2 H2 t2 R2 p2 w2 => k σ2 F2 env2 S2 H2 (t1.trans t2) R2 (fun vs hv => ?_) w2⟩⟩
    rw [p2 vs fun i hi => hv i (List.mem_append_right _ hi), p1 vs fun i hi => hv i (List.mem_append_left _ hi)]
  · exact False.elim w
theorem pg_or {t u : TG} (h1 : PG X e t) (h2 : PG X e u) : PG X e (fun v σ H Q => t v σ H Q ∨ u v σ H Q) :=
  ⟨fun pins s σ H v z Q I r hw => hw.elim (fun w => h1.run pins s σ H v z Q I r w) fun w => h2.run pins s σ H v z Q I r w⟩
theorem g_tup {sl : List Nat} {n k1 : Nat} {w1 : List D → Ev → Sto → (Ev → Sto → Prop) → Prop} (hc : X.calm = true) (h : PGs X es (tTgs X.K sl w1)) (hn : (assignEach es X.env).length = n) (hst : (assignEach es X.env).findIdx? (·.1) = none) :
    PG X (.Tuple es k1 pos) (tTg X.K sl fun d σ S Q => match d with | .tup ds => ds.length = n ∧ w1 ds σ S Q | .lst ds => ds.length = n ∧ w1 ds σ S Q | _ => False) := by
  refine pg_imp (pg_or (pg_tup hc h hn hst) (pg_lst hc h hn hst)) fun v σ H Q ⟨F, env, S, Q', d, R, hd, w, k⟩ => ?_
  dsimp only at w
  split at w
  · obtain ⟨z, a, vs, rfl, q, t⟩ := hd.tup_
    exact .inl ⟨a, vs, rfl, R.rs.sub.sqT q, by rw [t.len]; exact w.1, F, env, S, Q', _, R, t, w.2, k⟩
  · obtain ⟨z, a, vs, rfl, q, t⟩ := hd.lst_
    exact .inr ⟨a, vs, rfl, .inl (R.rs.sub.rd q), by rw [t.len]; exact w.1, F, env, S, Q', _, R, t, w.2, k⟩
  · exact False.elim w
theorem set_D : PSet X (fun o i v H Q => ∃ F S do_ di d Q', RelS X.K F S H ∧ Den X.K F do_ o ∧ Den X.K F di i ∧ Den X.K F d v ∧ setS S do_ di d Q' ∧ ∀ S' H', Tr X.K F S H F S' H' → Q' S' → Q H') := by
  intro pins s σ H o i v ov iv u Q I ro ri rv h
  obtain ⟨F, S, do_, di, d, Q', r, h1, h2, h3, w, k⟩ := h
  unfold setS at w
  split at w
  · cases h1.ref_
    cases h2.int_
    split at w
    · rename_i xs hS
      split at w
      · rename_i j hj
        obtain ⟨_, z, vs, hH, ts⟩ := r.lst hS
        refine set_list pins s σ H _ _ v ov iv u Q I ro ri rv ⟨_, vs, _, j, rfl, rfl, hH, by rw [ts.len]; exact hj, k _ _ (Tr.put r hS ?_) w⟩
        exact ⟨by rw [List.length_set]; exact z, _, upd_same, ts.set h3 j⟩
      · exact False.elim w
    · exact False.elim w
  · exact False.elim w
theorem g_sub (ho : PE X a (tE X.K wa)) (hi : PE X b (tE X.K wb)) (ha : ∀ v, assign (.Subscript a b pos) X.env v = (do
      let ov ← holding [v] (eval a X.env)
      let iv ← holding [v, ov] (eval b X.env)
      standAt pos
      holding [v, ov, iv] (setItem ov iv v)
      release [v, ov, iv] [])) : PG X (.Subscript a b pos) (tTg X.K [] fun d σ S Q => wa σ S fun x S1 => wb σ S1 fun y S2 => setS S2 x y d fun S3 => Q σ S3) := by
  refine pg_imp (pg_sub ho hi set_D ha) fun v σ H Q ⟨F, env, S, Q', d, R, hd, w, k⟩ => ⟨F, env, S, _, R, w, fun x F1 dx S1 H1 t1 d1 w1 => ⟨F1, env, S1, _, R.tr t1, w1, fun y F2 dy S2 H2 t2 d2 w2 => ?_⟩⟩
  have t12 := t1.trans t2
  exact ⟨F2, S2, dx, dy, d, _, t2.rs, d1.mono t2.sub, d2, hd.mono t12.sub, w2, fun S' H' t w' => k σ F2 env S' H' (t12.trans t) ((R.tr t12).tr t) (fun _ _ => rfl) w'⟩
end
end PL
/-! PL: comprehensions and statements. -/
namespace PL
open PySem L2
section
variable {X : Cx} {e a b c : Expr} {es : List Expr} {pos p : Pos} {x : Str} {wa wb : WE} {wx : Ev → Sto → (List D → Sto → Prop) → Prop} {wt : Ev → Sto → (Bool → Sto → Prop) → Prop}
  {wi : Ev → Sto → (List D → (Sto → Prop) → Sto → Prop) → Prop} {wg : D → Ev → Sto → (Ev → Sto → Prop) → Prop}

theorem wipeD_some {σ : Ev} {i : Nat} {d : D} : ∀ {vs : List Nat}, (wipeD σ vs)[i]? = some (some d) → σ[i]? = some (some d) ∧ i ∉ vs
  | [], h => ⟨h, by simp⟩
  | v :: vs, h => by
    unfold wipeD at h
    by_cases z : v = i
    · subst z
      by_cases hl : v < (wipeD σ vs).length
      · rw [List.getElem?_set_self hl] at h
        cases h
      · rw [List.getElem?_eq_none (by rw [List.length_set]; omega)] at h
        cases h
    · rw [List.getElem?_set_ne z] at h
      obtain ⟨h1, h2⟩ := wipeD_some h
      exact ⟨h1, fun m => (List.mem_cons.mp m).elim (fun e => z e.symm) h2⟩
theorem Rl.wiped {K : PySem.W.Frag} {F H : Hp} {σ : L2.St} {env : Ev} {S : Sto} (h : Rl K F σ H env S) (vs : List Nat) : Rl K F (wipe σ vs) H (wipeD env vs) S := by
  refine ⟨h.rs, fun i d e => ?_⟩
  obtain ⟨e1, n⟩ := wipeD_some e
  rw [wipe_out n]
  exact h.sl i d e1
theorem wipe_twice (σ : L2.St) (vs : List Nat) : wipe (wipe σ vs) vs = wipe σ vs := by
  have gen : ∀ (us : List Nat), (∀ i ∈ us, i ∈ vs) → wipe (wipe σ us) vs = wipe σ vs := by
    intro us
    induction us with
    | nil => intro _; rfl
    | cons u us ih =>
      intro h
      show wipe ((wipe σ us).set u none) vs = _
      rw [wipe_set (h u List.mem_cons_self)]
      exact ih fun i hi => h i (List.mem_cons_of_mem _ hi)
  exact gen vs fun _ h => h

theorem l_atK {K : PySem.W.Frag} {F : Hp} {S : Sto} {H : Hp} {F1 : Hp} {S1 : Sto} {H1 : Hp} {p : Addr} {vs : List V} (t : Tr K F S H F1 S1 H1) (n : H1 p = none) :
    Tr K F S H F1 S1 (upd H1 p (.lst vs)) ∧ (∀ a o, H a = some o → S a = none → a ≠ p) ∧ F1 p = none ∧ S1 p = none :=
  ⟨t.trans ⟨Sub.refl _, t.rs.newH n, fun a o e m => ⟨Sub.new n a o e, m, fun f => f⟩⟩, (fun a o e m z => by
    subst z
    rw [(t.kp a o e m).1] at n
    cases n), t.rs.sub.none n, t.rs.free n⟩
/-- the new list D grows -/
theorem Tr.grown {K : PySem.W.Frag} {F : Hp} {S : Sto} {H : Hp} {F1 : Hp} {S1 : Sto} {H1 : Hp} {p : Addr} {us vs : List V} (t : Tr K F S H F1 S1 H1) (n : ∀ a o, H a = some o → S a = none → a ≠ p) (h : H1 p = some (.lst us)) (f : F1 p = none) (s : S1 p = none) :
    Tr K F S H F1 S1 (upd H1 p (.lst vs)) := by
  refine ⟨t.sub, ⟨fun a u e => ?_, fun a ob e => ?_⟩, fun a o e m => ?_⟩
  · rw [upd_ne (ne_of_none e f)]
    exact t.rs.sub a u e
  · obtain ⟨f1, q⟩ := t.rs.ob a ob e
    have z : a ≠ p := fun z => by
      subst z
      rw [s] at e
      cases e
    exact ⟨f1, q.next (Sub.refl F1) (upd_ne z)⟩
  · obtain ⟨e1, m1, f1⟩ := t.kp a o e m
    exact ⟨by rw [upd_ne (n a o e m)]; exact e1, m1, f1⟩
/-- a list's comprehension: from the layer's reading to the plain loop -/
theorem lc_plain {K : PySem.W.Frag} {sl vs : List Nat} (hsl : ∀ i ∈ sl, i ∈ vs) {σ : L2.St} {H : Hp} {Q : VK} (h : tLs K (fun σ S Q => wi σ S fun items G S1 => lcLoop G (fun x S2 k => wg x (wipeD σ vs) S2 fun σ3 S3 => wt σ3 S3 fun b S4 => if b = true then wa σ3 S4 fun y S5 => k (some y) S5 else k none S4) items [] S1 Q) σ H Q) :
    tLc (tIt K wi) (tTg K sl wg) (tTs K wt) (tE K wa) vs σ H Q := by
  obtain ⟨F, env, S, Q', R, w, k⟩ := h
  refine ⟨F, env, S, _, R, w, fun J items G F1 S1 H1 t1 src w1 L hL => ?_⟩
  obtain ⟨tD, n1, f1, s1⟩ := l_atK (vs := []) t1 hL
  generalize hbody : (fun (x : PL.D) (S2 : Sto) (k : Option PL.D → Sto → Prop) => wg x (wipeD env vs) S2 fun σ3 S3 => wt σ3 S3 fun b S4 => if b = true then wa σ3 S4 fun y S5 => k (some y) S5 else k none S4) = body at w1
  refine ⟨fun i m H' => m = items.length - i ∧ i ≤ items.length ∧ ∃ F' S' acc us, Tr K F S H F' S' H' ∧ Sub F1 F' ∧ F' L = none ∧ S' L = none ∧ H' L = some (.lst us) ∧ Dens K F' acc us ∧ acc.length ≤ i ∧ lcLoop G body (items.drop i) acc S' Q',
    ⟨items.length, by simp, Nat.zero_le _, F1, S1, [], [], tD, Sub.refl _, f1, s1, upd_same, .nil, Nat.le_refl _, w1⟩, fun i m H' hW => ?_⟩
  obtain ⟨rfl, hi, F', S', acc, us, t, sF, fD, sD, hD', dA, la, lw⟩ := hW
  by_cases hlt : i < items.length
  · rw [List.drop_eq_getElem_cons hlt] at lw
    unfold lcLoop at lw
    obtain ⟨g, lw⟩ := lw
    have hgo := src.go i F' S' H' _ sF t.rs g (List.getElem?_eq_getElem hlt)
    refine .inr ⟨hgo.1, fun H'' => ∃ F'' S'' acc' us', Tr K F S H F'' S'' H'' ∧ Sub F1 F'' ∧ F'' L = none ∧ S'' L = none ∧ H'' L = some (.lst us') ∧ Dens K F'' acc' us' ∧ acc'.length ≤ i + 1 ∧ lcLoop G body (items.drop (i + 1)) acc' S'' Q',
      fun H'' ⟨F'', S'', acc', us', q⟩ => ⟨items.length - (i + 1), by omega, rfl, hlt, F'', S'', acc', us', q⟩, fun x H2 hy => ?_⟩
    obtain ⟨F2, t2, d2⟩ := hgo.2 x H2 hy
    rw [← hbody] at lw
    -- the state's facts, carried along
    have along : ∀ {F3 : Hp} {S3 : Sto} {H3 : Hp}, Tr K F' S' H' F3 S3 H3 → F3 L = none ∧ S3 L = none ∧ H3 L = some (.lst us) := fun u => by
      obtain ⟨e1, m1, g1⟩ := u.kp L _ hD' sD
      exact ⟨g1 fD, m1, e1⟩
    have R2 : Rl K F2 (wipe σ vs) H2 (wipeD env vs) S' := ((R.tr t).tr t2).wiped vs
    refine ⟨F2, wipeD env vs, S', _, _, R2, d2, lw, fun σ3 F3 env3 S3 H3 t3 R3 p3 w3 => ⟨by rw [p3 vs hsl, wipe_twice], F3, env3, S3, _, R3, w3, fun bb F4 S4 H4 t4 w4 => ?_⟩⟩
    cases bb with
    | true =>
      rw [if_pos rfl] at w4 ⊢
      refine ⟨F4, env3, S4, _, R3.tr t4, w4, fun y F5 dy S5 H5 t5 d5 w5 => ?_⟩
      have u := ((t2.trans t3).trans t4).trans t5
      obtain ⟨a1, a2, a3⟩ := along u
      have hz := src.len
      refine ⟨us, a3, by rw [dA.len]; omega, F5, S5, acc ++ [dy], us ++ [y], (t.trans u).grown n1 a3 a1 a2, sF.trans u.sub, a1, a2, upd_same, (dA.mono u.sub).append (.cons d5 .nil), by rw [List.length_append]; simp; omega, ?_⟩
      rw [hbody] at w5
      exact w5
    | false =>
      rw [if_neg Bool.false_ne_true] at w4 ⊢
      have u := (t2.trans t3).trans t4
      obtain ⟨a1, a2, a3⟩ := along u
      rw [hbody] at w4
      exact ⟨F4, S4, acc, us, t.trans u, sF.trans u.sub, a1, a2, a3, dA.mono u.sub, by omega, w4⟩
  · have ei : i = items.length := by omega
    subst ei
    rw [List.drop_length] at lw
    unfold lcLoop at lw
    exact .inl ⟨src.stop F' S' H' sF t.rs lw.1, k L us F' acc S' H' t n1 fD sD hD' dA (by have := src.len; omega) lw.2⟩

theorem l_lc {elt tg iter : Expr} {ifs : List Expr} {scope : Scope} {own : List (Str × Nat)} {sl : List Nat} (hc : X.calm = true) (hN : X.N.Nodup) (hi : PI X tg iter (tIt X.K wi)) (ok : BlkOk X.N X.env.scope scope own) (hsl : ∀ i ∈ sl, i ∈ own.map (·.2))
    (hg : ∀ (s : Shared) (H : Hp) (C : Addr) (cl : List (Str × Addr)) (fp : List Addr), PG (X.blk s H scope (compEnvC scope cl C X.env) fp) tg (tTg X.K sl wg)) (ht : ∀ (s : Shared) (H : Hp) (C : Addr) (cl : List (Str × Addr)) (fp : List Addr), PTs (X.blk s H scope (compEnvC scope cl C X.env) fp) ifs (tTs X.K wt))
    (he : ∀ (s : Shared) (H : Hp) (C : Addr) (cl : List (Str × Addr)) (fp : List Addr), PE (X.blk s H scope (compEnvC scope cl C X.env) fp) elt (tE X.K wa)) (hs : ∀ x, foldedSetIterable iter X.env x = pure x) :
    PE X (.ListComp elt [⟨tg, iter, ifs, 0⟩] scope pos) (tLs X.K fun σ S Q => wi σ S fun items G S1 => lcLoop G (fun x S2 k => wg x (wipeD σ (own.map (·.2))) S2 fun σ3 S3 => wt σ3 S3 fun b S4 => if b = true then wa σ3 S4 fun y S5 => k (some y) S5 else k none S4) items [] S1 Q) :=
  pe_imp (pe_lc hc hN hi ok hg ht he hs) fun σ H Q h => lc_plain hsl h

/-- a comprehension of two fors -/
theorem lc2_plain {K : PySem.W.Frag} {sl sl1 vs vs1 : List Nat} {wi1 : Ev → Sto → (List D → (Sto → Prop) → Sto → Prop) → Prop} {wg1 : D → Ev → Sto → (Ev → Sto → Prop) → Prop} {wt1 : Ev → Sto → (Bool → Sto → Prop) → Prop} (hsl : ∀ i ∈ sl, i ∈ vs) (hsl1 : ∀ i ∈ sl1, i ∈ vs1) {σ : L2.St} {H : Hp} {Q : VK}
    (h : tLs K (fun σ S Q => wi σ S fun items G S1 => lcL2 G (fun x acc S2 k => wg x (wipeD σ vs) S2 fun σ3 S3 => wt σ3 S3 fun b S4 => if b = true then wi1 σ3 S4 fun items1 G1 S5 => lcIn G1 (fun y S6 k1 => wg1 y (wipeD σ3 vs1) S6 fun σ4 S7 => wt1 σ4 S7 fun b S8 => if b = true then wa σ4 S8 fun z S9 => k1 (some z) S9 else k1 none S8) items1 acc S5 k else k acc S4) items [] S1 Q) σ H Q) :
    tLc2 (tIt K wi) (tTg K sl wg) (tTs K wt) (tIt K wi1) (tTg K sl1 wg1) (tTs K wt1) (tE K wa) vs vs1 σ H Q := by
  obtain ⟨F, env, S, Q', R, w, k⟩ := h
  refine ⟨F, env, S, _, R, w, fun J items G F1 S1 H1 t1 src w1 L hL => ?_⟩
  obtain ⟨tD, n1, f1, s1⟩ := l_atK (vs := []) t1 hL
  generalize hbody : (fun (x : PL.D) (acc : List PL.D) (S2 : Sto) (k : List PL.D → Sto → Prop) => wg x (wipeD env vs) S2 fun σ3 S3 => wt σ3 S3 fun b S4 => if b = true then wi1 σ3 S4 fun items1 G1 S5 => lcIn G1 (fun y S6 k1 => wg1 y (wipeD σ3 vs1) S6 fun σ4 S7 => wt1 σ4 S7 fun b S8 => if b = true then wa σ4 S8 fun z S9 => k1 (some z) S9 else k1 none S8) items1 acc S5 k else k acc S4) = body at w1
  refine ⟨fun i m H' => m = items.length - i ∧ i ≤ items.length ∧ ∃ F' S' acc us, Tr K F S H F' S' H' ∧ Sub F1 F' ∧ F' L = none ∧ S' L = none ∧ H' L = some (.lst us) ∧ Dens K F' acc us ∧ acc.length ≤ sizeLine ∧ lcL2 G body (items.drop i) acc S' Q',
    ⟨items.length, by simp, Nat.zero_le _, F1, S1, [], [], tD, Sub.refl _, f1, s1, upd_same, .nil, Nat.zero_le _, w1⟩, fun i m H' hW => ?_⟩
  obtain ⟨rfl, hi, F', S', acc, us, t, sF, fD, sD, hD', dA, la, lw⟩ := hW
  by_cases hlt : i < items.length
  · rw [List.drop_eq_getElem_cons hlt] at lw
    unfold lcL2 at lw
    obtain ⟨g, lw⟩ := lw
    have hgo := src.go i F' S' H' _ sF t.rs g (List.getElem?_eq_getElem hlt)
    refine .inr ⟨hgo.1, fun H'' => ∃ F'' S'' acc' us', Tr K F S H F'' S'' H'' ∧ Sub F1 F'' ∧ F'' L = none ∧ S'' L = none ∧ H'' L = some (.lst us') ∧ Dens K F'' acc' us' ∧ acc'.length ≤ sizeLine ∧ lcL2 G body (items.drop (i + 1)) acc' S'' Q',
      fun H'' ⟨F'', S'', acc', us', q⟩ => ⟨items.length - (i + 1), by omega, rfl, hlt, F'', S'', acc', us', q⟩, fun x H2 hy => ?_⟩
    obtain ⟨F2, t2, d2⟩ := hgo.2 x H2 hy
    rw [← hbody] at lw
    -- the state's facts, carried along
    have along : ∀ {F3 : Hp} {S3 : Sto} {H3 : Hp}, Tr K F' S' H' F3 S3 H3 → F3 L = none ∧ S3 L = none ∧ H3 L = some (.lst us) := fun u => by
      obtain ⟨e1, m1, g1⟩ := u.kp L _ hD' sD
      exact ⟨g1 fD, m1, e1⟩
    have R2 : Rl K F2 (wipe σ vs) H2 (wipeD env vs) S' := ((R.tr t).tr t2).wiped vs
    refine ⟨F2, wipeD env vs, S', _, _, R2, d2, lw, fun σ3 F3 env3 S3 H3 t3 R3 p3 w3 => ⟨by rw [p3 vs hsl, wipe_twice], F3, env3, S3, _, R3, w3, fun bb F4 S4 H4 t4 w4 => ?_⟩⟩
    cases bb with
    | true =>
      rw [if_pos rfl] at w4 ⊢
      refine ⟨F4, env3, S4, _, R3.tr t4, w4, fun J1 items1 G1 F5 S5 H5 t5 src1 w5 => ?_⟩
      have u5 := ((t2.trans t3).trans t4).trans t5
      obtain ⟨a1, a2, a3⟩ := along u5
      rw [hbody] at w5
      generalize hbody1 : (fun (y : PL.D) (S6 : Sto) (k1 : Option PL.D → Sto → Prop) => wg1 y (wipeD env3 vs1) S6 fun σ4 S7 => wt1 σ4 S7 fun b S8 => if b = true then wa σ4 S8 fun z S9 => k1 (some z) S9 else k1 none S8) = body1 at w5
      refine ⟨fun j m H' => m = items1.length - j ∧ j ≤ items1.length ∧ ∃ F' S' acc us, Tr K F S H F' S' H' ∧ Sub F5 F' ∧ F' L = none ∧ S' L = none ∧ H' L = some (.lst us) ∧ Dens K F' acc us ∧ acc.length ≤ sizeLine ∧ lcIn G1 body1 (items1.drop j) acc S' fun acc' S' => lcL2 G body (items.drop (i + 1)) acc' S' Q',
        ⟨items1.length, by simp, Nat.zero_le _, F5, S5, acc, us, t.trans u5, Sub.refl _, a1, a2, a3, dA.mono u5.sub, la, w5⟩, fun j m H' hW => ?_⟩
      obtain ⟨rfl, hj, F6, S6, acc, us, t6, sF6, fD6, sD6, hD6, dA6, la6, lw6⟩ := hW
      by_cases hlt1 : j < items1.length
      · rw [List.drop_eq_getElem_cons hlt1] at lw6
        unfold lcIn at lw6
        obtain ⟨g6, lw6⟩ := lw6
        have hgo1 := src1.go j F6 S6 H' _ sF6 t6.rs g6 (List.getElem?_eq_getElem hlt1)
        refine .inr ⟨hgo1.1, fun H'' => ∃ F'' S'' acc' us', Tr K F S H F'' S'' H'' ∧ Sub F5 F'' ∧ F'' L = none ∧ S'' L = none ∧ H'' L = some (.lst us') ∧ Dens K F'' acc' us' ∧ acc'.length ≤ sizeLine ∧ lcIn G1 body1 (items1.drop (j + 1)) acc' S'' fun acc' S' => lcL2 G body (items.drop (i + 1)) acc' S' Q',
          fun H'' ⟨F'', S'', acc', us', q⟩ => ⟨items1.length - (j + 1), by omega, rfl, hlt1, F'', S'', acc', us', q⟩, fun x H7 hy => ?_⟩
        obtain ⟨F7, t7, d7⟩ := hgo1.2 x H7 hy
        rw [← hbody1] at lw6
        have along1 : ∀ {F3 : Hp} {S3 : Sto} {H3 : Hp}, Tr K F6 S6 H' F3 S3 H3 → F3 L = none ∧ S3 L = none ∧ H3 L = some (.lst us) := fun u => by
          obtain ⟨e1, m1, g1⟩ := u.kp L _ hD6 sD6
          exact ⟨g1 fD6, m1, e1⟩
        have R7 : Rl K F7 (wipe σ3 vs1) H7 (wipeD env3 vs1) S6 := Rl.wiped ⟨t7.rs, fun i d e => by
          obtain ⟨v, e1, e2⟩ := R3.sl i d e
          exact ⟨v, e1, e2.mono ((((t4.sub.trans t5.sub).trans sF6).trans t7.sub))⟩⟩ vs1
        refine ⟨F7, wipeD env3 vs1, S6, _, _, R7, d7, lw6, fun σ8 F8 env8 S8 H8 t8 R8 p8 w8 => ⟨by rw [p8 vs1 hsl1, wipe_twice], F8, env8, S8, _, R8, w8, fun bb F9 S9 H9 t9 w9 => ?_⟩⟩
        cases bb with
        | true =>
          rw [if_pos rfl] at w9 ⊢
          refine ⟨F9, env8, S9, _, R8.tr t9, w9, fun y Fa dy Sa Ha ta da wa' => ?_⟩
          have u := ((t7.trans t8).trans t9).trans ta
          obtain ⟨b1, b2, b3⟩ := along1 u
          obtain ⟨hz, wa'⟩ := wa'
          refine ⟨us, b3, by rw [dA6.len]; exact hz, Fa, Sa, acc ++ [dy], us ++ [y], (t6.trans u).grown n1 b3 b1 b2, sF6.trans u.sub, b1, b2, upd_same, (dA6.mono u.sub).append (.cons da .nil), by rw [List.length_append]; simp; omega, ?_⟩
          rw [hbody1] at wa'
          exact wa'
        | false =>
          rw [if_neg Bool.false_ne_true] at w9 ⊢
          have u := (t7.trans t8).trans t9
          obtain ⟨b1, b2, b3⟩ := along1 u
          rw [hbody1] at w9
          exact ⟨F9, S9, acc, us, t6.trans u, sF6.trans u.sub, b1, b2, b3, dA6.mono u.sub, la6, w9⟩
      · have ej : j = items1.length := by omega
        subst ej
        rw [List.drop_length] at lw6
        unfold lcIn at lw6
        exact .inl ⟨src1.stop F6 S6 H' sF6 t6.rs lw6.1, F6, S6, acc, us, t6, (sF.trans u5.sub).trans sF6, fD6, sD6, hD6, dA6, la6, lw6.2⟩
    | false =>
      rw [if_neg Bool.false_ne_true] at w4 ⊢
      have u := (t2.trans t3).trans t4
      obtain ⟨a1, a2, a3⟩ := along u
      rw [hbody] at w4
      exact ⟨F4, S4, acc, us, t.trans u, sF.trans u.sub, a1, a2, a3, dA.mono u.sub, la, w4⟩
  · have ei : i = items.length := by omega
    subst ei
    rw [List.drop_length] at lw
    unfold lcL2 at lw
    exact .inl ⟨src.stop F' S' H' sF t.rs lw.1, k L us F' acc S' H' t n1 fD sD hD' dA la lw.2⟩

theorem l_lc2 {elt tg iter tg1 iter1 : Expr} {ifs ifs1 : List Expr} {scope : Scope} {own : List (Str × Nat)} {sl sl1 vs1 : List Nat} {wi1 : Ev → Sto → (List D → (Sto → Prop) → Sto → Prop) → Prop} {wg1 : D → Ev → Sto → (Ev → Sto → Prop) → Prop} {wt1 : Ev → Sto → (Bool → Sto → Prop) → Prop} (hc : X.calm = true) (hN : X.N.Nodup) (hi : PI X tg iter (tIt X.K wi)) (ok : BlkOk X.N X.env.scope scope own) (hv : ∀ i ∈ vs1, i ∈ own.map (·.2)) (hsl : ∀ i ∈ sl, i ∈ own.map (·.2)) (hsl1 : ∀ i ∈ sl1, i ∈ vs1)
    (hg : ∀ (s : Shared) (H : Hp) (C : Addr) (cl : List (Str × Addr)) (fp : List Addr), PG (X.blk s H scope (compEnvC scope cl C X.env) fp) tg (tTg X.K sl wg)) (ht : ∀ (s : Shared) (H : Hp) (C : Addr) (cl : List (Str × Addr)) (fp : List Addr), PTs (X.blk s H scope (compEnvC scope cl C X.env) fp) ifs (tTs X.K wt))
    (hi1 : ∀ (s : Shared) (H : Hp) (C : Addr) (cl : List (Str × Addr)) (fp : List Addr), PI (X.blk s H scope (compEnvC scope cl C X.env) fp) tg1 iter1 (tIt X.K wi1))
    (hg1 : ∀ (s : Shared) (H : Hp) (C : Addr) (cl : List (Str × Addr)) (fp : List Addr), PG (X.blk s H scope (compEnvC scope cl C X.env) fp) tg1 (tTg X.K sl1 wg1)) (ht1 : ∀ (s : Shared) (H : Hp) (C : Addr) (cl : List (Str × Addr)) (fp : List Addr), PTs (X.blk s H scope (compEnvC scope cl C X.env) fp) ifs1 (tTs X.K wt1))
    (he : ∀ (s : Shared) (H : Hp) (C : Addr) (cl : List (Str × Addr)) (fp : List Addr), PE (X.blk s H scope (compEnvC scope cl C X.env) fp) elt (tE X.K wa)) (hs : ∀ x, foldedSetIterable iter X.env x = pure x) (hs1 : ∀ env x, foldedSetIterable iter1 env x = pure x) :
    PE X (.ListComp elt [⟨tg, iter, ifs, 0⟩, ⟨tg1, iter1, ifs1, 0⟩] scope pos) (tLs X.K fun σ S Q => wi σ S fun items G S1 => lcL2 G (fun x acc S2 k => wg x (wipeD σ (own.map (·.2))) S2 fun σ3 S3 => wt σ3 S3 fun b S4 => if b = true then wi1 σ3 S4 fun items1 G1 S5 => lcIn G1 (fun y S6 k1 => wg1 y (wipeD σ3 vs1) S6 fun σ4 S7 => wt1 σ4 S7 fun b S8 => if b = true then wa σ4 S8 fun z S9 => k1 (some z) S9 else k1 none S8) items1 acc S5 k else k acc S4) items [] S1 Q) :=
  pe_imp (pe_lc2 hc hN hi ok hv hg ht hi1 hg1 ht1 he hs hs1) fun σ H Q h => lc2_plain hsl hsl1 h

/-! ### statements -/
variable {ws wr : Ev → Sto → En → Prop}
theorem b_nil : PSs X [] (tSt X.K fun σ S E => E.nx σ S) := pss_imp pss_nil fun D σ H ⟨F, env, S, E, R, w, k⟩ => k.nx σ F env S H (Tr.refl R.rs) R w
theorem b_one {st : Stmt} (h : PS X st (tSt X.K ws)) : PSs X [st] (tSt X.K ws) := pss_one h
theorem b_cons {st : Stmt} {rest : List Stmt} (h : PS X st (tSt X.K ws)) (hr : PSs X rest (tSt X.K wr)) : PSs X (st :: rest) (tSt X.K fun σ S E => ws σ S { E with nx := fun σ1 S1 => wr σ1 S1 E }) :=
  pss_imp (pss_cons h hr) fun D σ H ⟨F, env, S, E, R, w, k⟩ => ⟨F, env, S, _, R, w, ⟨fun σ' F' env' S' H' t R' w' => ⟨F', env', S', E, R', w', k.tr t⟩, k.bk, k.ct, k.rt⟩⟩
theorem s_expr (h : PE X e (tE X.K wa)) (hs : swapsWith e none pos.line X.env = pure false) : PS X (.Expr e pos) (tSt X.K fun σ S E => wa σ S fun _ S1 => E.nx σ S1) :=
  ps_imp (ps_expr h hs) fun D σ H ⟨F, env, S, E, R, w, k⟩ => ⟨F, env, S, _, R, w, fun v F1 d S1 H1 t1 d1 w1 => k.nx σ F1 env S1 H1 t1 (R.tr t1) w1⟩
theorem s_doc {y : Str} {j : Nat} {pos' : Pos} : PS X (.Expr (.Constant (.str y) j pos) pos') (tSt X.K fun σ S E => E.nx σ S) :=
  ps_imp ps_doc fun D σ H ⟨F, env, S, E, R, w, k⟩ => k.nx σ F env S H (Tr.refl R.rs) R w
theorem asg_of {sl : List Nat} {D : Ends} {σ : L2.St} {H : Hp} (h : tSt X.K (fun σ S E => wa σ S fun d S1 => wg d σ S1 E.nx) D σ H) : tAsg (tE X.K wa) (tTg X.K sl wg) D σ H := by
  obtain ⟨F, env, S, E, R, w, k⟩ := h
  exact ⟨F, env, S, _, R, w, fun v F1 d S1 H1 t1 d1 w1 => ⟨F1, env, S1, _, d, R.tr t1, d1, w1, fun σ' F' env' S' H' t R' _ w' => k.nx σ' F' env' S' H' (t1.trans t) R' w'⟩⟩
theorem s_asg {tg : Expr} {sl : List Nat} (he : PE X e (tE X.K wa)) (hg : PG X tg (tTg X.K sl wg)) (hs : swapsWithSole [tg] e pos.line X.env = pure false) (hw : swappedStores [tg] e X.env = pure none) (h1 : (assignEach [tg] X.env).map (·.2) = [assign tg X.env]) :
    PS X (.Assign [tg] e pos) (tSt X.K fun σ S E => wa σ S fun d S1 => wg d σ S1 E.nx) := ps_imp (ps_asg he hg hs hw h1) fun D σ H h => asg_of h
/-- name = value, whatever the value is but a comprehension that is stored within -/
theorem s_setN {i : Nat} {pos' : Pos} (hN : X.N.Nodup) (hi : X.N[i]? = some x) (hx : Loc' X x) (he : PE X e (tE X.K wa)) (hs : swapsWith e (some (.Name x pos')) pos.line X.env = pure false) :
    PS X (.Assign [.Name x pos'] e pos) (tSt X.K fun σ S E => wa σ S fun d S1 => E.nx (σ.set i (some d)) S1) := by
  refine ⟨fun pins s σ H D I ⟨F, env, S, E, R, w, k⟩ => ?_⟩
  have h1 : Loc X.env.scope x := by
    rcases hx with h | ⟨h, _⟩
    · exact .inl h
    · exact .inr h
  have h2 : X.fn x = true ∨ X.env.scope.names.lookup x = some .local := by
    rcases hx with h | ⟨_, h⟩
    · exact .inr h
    · exact .inl h
  have hl : i < σ.length := by
    rw [I.len]
    exact (List.getElem?_eq_some_iff.mp hi).1
  exact (ps_set (X := X) hN hi h1 he hs h2).run pins s σ H D I ⟨F, env, S, _, R, w, fun v F1 d S1 H1 t1 d1 w1 => k.nx _ F1 _ S1 H1 t1 ((R.tr t1).set hl d1) w1⟩
theorem s_ret (h : PE X e (tE X.K wa)) : PS X (.Return (some e) pos) (tSt X.K fun σ S E => wa σ S E.rt) :=
  ps_imp (ps_ret h) fun D σ H ⟨F, env, S, E, R, w, k⟩ => ⟨F, env, S, _, R, w, fun v F1 d S1 H1 t1 d1 w1 => k.rt v F1 d S1 H1 t1 d1 w1⟩
theorem s_retn : PS X (.Return none pos) (tSt X.K fun _ S E => E.rt .non S) := ps_imp ps_retN fun D σ H ⟨F, env, S, E, R, w, k⟩ => k.rt _ F _ S H (Tr.refl R.rs) .mkNon w
theorem s_brk : PS X (.Break pos) (tSt X.K fun σ S E => E.bk σ S) := ps_imp ps_break fun D σ H ⟨F, env, S, E, R, w, k⟩ => k.bk σ F env S H (Tr.refl R.rs) R w
theorem s_cnt : PS X (.Continue pos) (tSt X.K fun σ S E => E.ct σ S) := ps_imp ps_continue fun D σ H ⟨F, env, S, E, R, w, k⟩ => k.ct σ F env S H (Tr.refl R.rs) R w
theorem s_pass : PS X (.Pass pos) (tSt X.K fun σ S E => E.nx σ S) := ps_imp ps_pass fun D σ H ⟨F, env, S, E, R, w, k⟩ => k.nx σ F env S H (Tr.refl R.rs) R w
theorem s_never {st : Stmt} : PS X st (tSt X.K fun _ _ _ => False) := ps_imp ps_never fun D σ H ⟨F, env, S, E, R, w, k⟩ => w
theorem s_if {st su : List Stmt} (hc : PT X c (tTs X.K wt)) (ha : PSs X st (tSt X.K ws)) (hb : PSs X su (tSt X.K wr)) : PS X (.If c st su pos) (tSt X.K fun σ S E => wt σ S fun k S1 => if k = true then ws σ S1 E else wr σ S1 E) := by
  refine ps_imp (ps_if hc ha hb) fun D σ H ⟨F, env, S, E, R, w, k⟩ => ⟨F, env, S, _, R, w, fun z F1 S1 H1 t1 w1 => ?_⟩
  cases z with
  | true =>
    rw [if_pos rfl] at w1 ⊢
    exact ⟨F1, env, S1, E, R.tr t1, w1, k.tr t1⟩
  | false =>
    rw [if_neg Bool.false_ne_true] at w1 ⊢
    exact ⟨F1, env, S1, E, R.tr t1, w1, k.tr t1⟩
theorem s_for {tg iter : Expr} {body : List Stmt} {sl : List Nat} (hp : PassesOwn (model X.prog X.w) X.A X.env X.xe) (hc : X.calm = true) (hi : PI X tg iter (tIt X.K wi)) (hg : PG X tg (tTg X.K sl wg)) (hb : PSs X body (tSt X.K ws)) (hs : ∀ x, foldedSetIterable iter X.env x = pure x) :
    PS X (.For tg iter body [] pos) (tSt X.K fun σ S E => wi σ S fun items G S1 => forLoop G (fun x σ S E => wg x σ S fun σ2 S2 => ws σ2 S2 E) E items σ S1) := by
  refine ps_imp (ps_for hp hc hi hg hb hs) fun D σ H ⟨F, env, S, E, R, w, k⟩ => ⟨F, env, S, _, R, w, fun J items G F1 S1 H1 t1 src w1 => ?_⟩
  generalize hbody : (fun (x : PL.D) (σ : Ev) (S : Sto) (E : En) => wg x σ S fun σ2 S2 => ws σ2 S2 E) = body' at w1
  refine ⟨fun i m σ' H' => m = items.length - i ∧ i ≤ items.length ∧ ∃ F' env' S', Tr X.K F S H F' S' H' ∧ Sub F1 F' ∧ Rl X.K F' σ' H' env' S' ∧ forLoop G body' E (items.drop i) env' S', ⟨items.length, by simp, Nat.zero_le _, F1, env, S1, t1, Sub.refl _, R.tr t1, w1⟩, fun i m σ' H' hW => ?_⟩
  obtain ⟨rfl, hi', F', env', S', t, sF, R', lw⟩ := hW
  by_cases hlt : i < items.length
  · rw [List.drop_eq_getElem_cons hlt] at lw
    unfold forLoop at lw
    obtain ⟨g, lw⟩ := lw
    have hgo := src.go i F' S' H' _ sF R'.rs g (List.getElem?_eq_getElem hlt)
    refine .inr ⟨hgo.1, fun σ'' H'' => ∃ F'' env'' S'', Tr X.K F S H F'' S'' H'' ∧ Sub F1 F'' ∧ Rl X.K F'' σ'' H'' env'' S'' ∧ forLoop G body' E (items.drop (i + 1)) env'' S'',
      fun σ'' H'' ⟨F'', env'', S'', q⟩ => ⟨items.length - (i + 1), by omega, rfl, hlt, F'', env'', S'', q⟩, fun x H2 hy => ?_⟩
    obtain ⟨F2, t2, d2⟩ := hgo.2 x H2 hy
    rw [← hbody] at lw
    refine ⟨F2, env', S', _, _, R'.tr t2, d2, lw, fun σ3 F3 env3 S3 H3 t3 R3 _ w3 => ⟨F3, env3, S3, _, R3, w3, ?_⟩⟩
    rw [hbody]
    have u := t2.trans t3
    have tu := t.trans u
    have nxt : ∀ σ' F' env' S' H', Tr X.K F3 S3 H3 F' S' H' → Rl X.K F' σ' H' env' S' → forLoop G body' E (items.drop (i + 1)) env' S' →
        ∃ F'' env'' S'', Tr X.K F S H F'' S'' H' ∧ Sub F1 F'' ∧ Rl X.K F'' σ' H' env'' S'' ∧ forLoop G body' E (items.drop (i + 1)) env'' S'' :=
      fun σ' F' env' S' H' t' R' w' => ⟨F', env', S', tu.trans t', (sF.trans u.sub).trans t'.sub, R', w'⟩
    exact ⟨nxt, (k.tr tu).nx, nxt, (k.tr tu).rt⟩
  · have ei : i = items.length := by omega
    subst ei
    rw [List.drop_length] at lw
    unfold forLoop at lw
    exact .inl ⟨src.stop F' S' H' sF R'.rs lw.1, k.nx σ' F' env' S' H' t R' lw.2⟩
theorem s_whl {body : List Stmt} (hp : PassesOwn (model X.prog X.w) X.A X.env X.xe) (hc : PT X c (tTs X.K wt)) (hb : PSs X body (tSt X.K ws)) :
    PS X (.While c body [] pos) (tSt X.K fun σ S E => ∃ n, whlLoop wt ws E n σ S) := by
  refine ps_imp (ps_while hp hc hb) fun D σ H ⟨F, env, S, E, R, ⟨n, w⟩, k⟩ => ?_
  refine ⟨fun m σ' H' => ∃ F' env' S', Tr X.K F S H F' S' H' ∧ Rl X.K F' σ' H' env' S' ∧ whlLoop wt ws E m env' S', ⟨n, F, env, S, Tr.refl R.rs, R, w⟩, fun m σ' H' hW => ?_⟩
  obtain ⟨F', env', S', t, R', lw⟩ := hW
  cases m with
  | zero => exact False.elim lw
  | succ m =>
    unfold whlLoop at lw
    refine ⟨F', env', S', _, R', lw, fun b F1 S1 H1 t1 w1 => ?_⟩
    have t2 := t.trans t1
    cases b with
    | true =>
      rw [if_pos rfl] at w1
      show if true = true then _ else _
      rw [if_pos rfl]
      have nxt : ∀ σ' F' env' S' H', Tr X.K F1 S1 H1 F' S' H' → Rl X.K F' σ' H' env' S' → whlLoop wt ws E m env' S' →
          ∃ F'' env'' S'', Tr X.K F S H F'' S'' H' ∧ Rl X.K F'' σ' H' env'' S'' ∧ whlLoop wt ws E m env'' S'' := fun σ' F' env' S' H' t' R' w' => ⟨F', env', S', t2.trans t', R', w'⟩
      exact ⟨fun σ'' H'' => ∃ F'' env'' S'', Tr X.K F S H F'' S'' H'' ∧ Rl X.K F'' σ'' H'' env'' S'' ∧ whlLoop wt ws E m env'' S'', fun σ'' H'' q => ⟨m, Nat.lt_succ_self m, q⟩, F1, env', S1, _, R'.tr t1, w1, ⟨nxt, (k.tr t2).nx, nxt, (k.tr t2).rt⟩⟩
    | false =>
      rw [if_neg Bool.false_ne_true] at w1
      show if false = true then _ else _
      rw [if_neg Bool.false_ne_true]
      exact k.nx σ' F1 env' S1 H1 t2 (R'.tr t1) w1
end
end PL
/-! PL: written dicts with text keys: of the module, and displayed where they are asked. -/
namespace PL
open PySem PySem.Spec PyProof.Rows L2
/-- the entries of a written dict -/
inductive Ents (K : PySem.W.Frag) : List (Str × D) → List DictEntry → Prop where
  | nil : Ents K [] []
  | cons {z : Str} {t : Tok} {d : D} {v : V} {e : DictEntry} {r : List (Str × D)} {l : List DictEntry} (k : e.key = .str z t) (rv : RelV v e.val) (dv : ∀ F, Den K F d v) (n : Ents K r l) : Ents K ((z, d) :: r) (e :: l)
def KD (K : PySem.W.Frag) (w : World) (a : Addr) (es : List (Str × D)) : Prop :=
  ∃ des n, K.lookup a = some ⟨.type "dict", none, .dict des n, #[]⟩ ∧ PySem.W.KeysLit w.params des.toList ∧ (a == sysModules) = false ∧ Ents K es des.toList
theorem Ents.find {K : PySem.W.Frag} {z : Str} : ∀ {es : List (Str × D)} {l : List DictEntry}, Ents K es l → (∃ d u v, es.lookup z = some d ∧ (l.find? fun e => Value.isStrOf z e.key).map (·.val) = some u ∧ RelV v u ∧ ∀ F, Den K F d v) ∨ (es.lookup z = none ∧ (l.find? fun e => Value.isStrOf z e.key).map (·.val) = none)
  | _, _, .nil => .inr ⟨rfl, rfl⟩
  | _, _, .cons (z := y) (d := d) (v := v) (e := e) (r := r) (l := l) k rv dv n => by
    have e1 : Value.isStrOf z e.key = (y == z) := by rw [k]; rfl
    by_cases h : z = y
    · subst h
      refine .inl ⟨d, e.val, v, ?_, ?_, rv, dv⟩
      · rw [List.lookup_cons, beq_self_eq_true]
      · rw [List.find?_cons, e1, beq_self_eq_true]
        rfl
    · have b1 : (z == y) = false := beq_eq_false_iff_ne.mpr h
      have b2 : (y == z) = false := beq_eq_false_iff_ne.mpr fun g => h g.symm
      rw [List.lookup_cons, b1, List.find?_cons, e1, b2]
      exact n.find
section
variable {X : Cx} {b : Expr} {pos : Pos} {wb : WE} {wx : Ev → Sto → (List D → Sto → Prop) → Prop}
theorem KD.at_ {p : Addr} {es : List (Str × D)} (h : KD X.K X.w p es) {pins : List (Addr × Obj)} {σ : L2.St} {H : Hp} {s : Shared} (I : L2.Inv X pins σ H s) :
    ∃ f, s.heap.MapOf (strKind X.prog X.w) p f ∧ (p == sysModules) = false ∧ (∀ b, Value.ref p = .ref b → ∃ ob, s.heap.get? b = some ob ∧ ob.dict = none) ∧
      ∀ z, (∃ d u v, es.lookup z = some d ∧ f z = some u ∧ RelV v u ∧ ∀ F, Den X.K F d v) ∨ (es.lookup z = none ∧ f z = none) := by
  obtain ⟨des, n, l, kl, low, en⟩ := h
  refine ⟨_, PySem.W.mapOf_K (prog := X.prog) (w := X.w) I.kIn l kl, low, fun b q => ?_, fun z => ?_⟩
  · cases q
    exact ⟨_, I.kIn _ _ l, rfl⟩
  · have := en.find (z := z)
    obtain ⟨dl⟩ := des
    unfold findBy
    rw [List.find?_toArray]
    exact this
theorem ix_KD {p : Addr} {es : List (Str × D)} (h : KD X.K X.w p es) : IxR X (fun x y H Q => ∃ z d, x = .ref p ∧ y = .str z ∧ es.lookup z = some d ∧ ∀ v, (∀ F, Den X.K F d v) → Q v H) := by
  intro value slice pins s σ H x y v u Q I rx ry q hs
  obtain ⟨z, d, rfl, rfl, e, q⟩ := q
  obtain rfl : v = Value.ref p := rx
  obtain ⟨t, rfl⟩ := ry
  obtain ⟨f, hm, low, -, look⟩ := h.at_ I
  rcases look z with ⟨d', u, w, e1, e2, rw', dd⟩ | ⟨e1, -⟩
  · rw [e] at e1
    cases e1
    exact tail_any hm.typeIs slot_dict_getitem.lookup (wpAny_getItem_of (strKind_is X.prog X.w z t) hm e2 ⟨w, H, I.tok _, rw', q w dd⟩) hs
  · rw [e] at e1
    cases e1
theorem s_kdx {es : List (Str × D)} {p : Addr} {e : Expr} (hs : PlainIx b) (hx : PE X e (tC (.ref p))) (he : KD X.K X.w p es) (hb : PE X b (tE X.K wb)) :
    PE X (.Subscript e b pos) (tE X.K fun σ S Q => wb σ S fun x S1 => match x with | .str z => opt (es.lookup z) fun d => Q d S1 | _ => False) := by
  refine pe_imp (pe_ix (ix_KD he) hx hb hs) fun σ H Q ⟨F, env, S, Q', R, w, k⟩ => ?_
  refine ⟨F, env, S, _, R, w, fun v F1 d S1 H1 t1 d1 w1 => ?_⟩
  split at w1
  · rename_i z
    obtain ⟨d', e1, q⟩ := opt_elim w1
    exact ⟨z, d', rfl, d1.str_, e1, fun v' dd => k v' F1 d' S1 H1 t1 (dd F1) q⟩
  · exact False.elim w1
/-! a method of a receiver whose type is known otherwise -/
theorem pe_bmD {o e : Expr} {es : List Expr} {to : TE} {t : TA} {name : Str} {apos cpos : Pos} {T id : String} {r : V → List V → Hp → VK → Prop} {P : V → Hp → Prop} (pa : PlainAttrs T) (slot : Slot T name id) (hty : typeOf (.builtin id) = pure (.type "method_descriptor"))
    (hm : MtR X id r) (hP : ∀ (pins : List (Addr × Obj)) (s : Shared) (σ : L2.St) (H : Hp) (x : V) (v : Value), L2.Inv X pins σ H s → RelV x v → P x H → s.TypeIs v T ∧ ∀ a, v = .ref a → ∃ ob, s.heap.get? a = some ob ∧ ob.dict = none)
    (ho : PE X o to) (ha : PA X (e :: es) t) (hbase : attributeBase o name X.env (eval o X.env) = eval o X.env)
    (hfew : ((backTo cpos (starEach (e :: es) X.env)).all (fun x => !x.1) && (backToKw cpos (keywordEach [] X.env)).all (fun x => x.1.isSome)
      && decide ((e :: es).length + ([] : List Keyword).length + (if ([] : List Keyword).isEmpty then 0 else 1) < 30)) = true)
    (hline : (apos.endLine == cpos.line) = true) (hs : starEach (e :: es) X.env = (false, eval e X.env) :: starEach es X.env) (hplain : (backTo cpos (starEach es X.env)).any (·.1) = false) :
    PE X (.Call (.Attribute o name apos) (e :: es) [] cpos) (fun σ H Q => to σ H fun x H1 => P x H1 ∧ t σ H1 fun xs H2 => r x xs H2 Q) := by
  refine ⟨fun pins s σ H Q I h => ?_⟩
  refine wpAny_Call_method_late hbase hfew hline rfl (thn (ho.run pins s σ H _ I h) fun v s1 ⟨x, H1, I1, r1, ty, q1⟩ => ?_)
  obtain ⟨h1, h2⟩ := hP _ _ _ _ _ _ I1 r1 ty
  refine ⟨T, id, pa, slot, hty, h1, h2, ?_⟩
  have hA := ha.run cpos pins s1 σ H1 _ I1 q1
  rw [hs] at hA ⊢
  refine Calls.callWith_builtin (by show (false || (backTo cpos (starEach es X.env)).any (·.1)) = false; rw [hplain] <;> rfl) (Calls.evalArgs_plain ?_)
  exact thn hA fun us s2 ⟨vs, H2, I2, r2, q2⟩ => hm pins s2 σ H2 x vs v us Q I2 r1 r2 q2
theorem mt_kdg {p : Addr} {es : List (Str × D)} (h : KD X.K X.w p es) : MtR X "dict.get" (fun x xs H Q => ∃ z y, x = .ref p ∧ xs = [.str z, y] ∧ (∀ d v, es.lookup z = some d → (∀ F, Den X.K F d v) → Q v H) ∧ (es.lookup z = none → Q y H)) := by
  intro pins s σ H x xs v us Q I rx rs q
  obtain ⟨z, y, rfl, rfl, q1, q2⟩ := q
  obtain rfl : v = Value.ref p := rx
  cases rs with
  | @cons a b as bs r1 rs =>
  cases rs with
  | @cons a2 b2 as2 bs2 r2 rs =>
  cases rs
  obtain ⟨t, rfl⟩ := r1
  obtain ⟨f, hm, low, -, look⟩ := h.at_ I
  refine call_meetsIn PySem.F.slot_dict_get hm.typeIs PySem.F.entry_dict_get (PySem.F.args_dict_get_3 _ _ _) (meets_dict_get_default (strKind X.prog X.w) p (strKind_is X.prog X.w z t) low b2) ⟨_, hm, ?_⟩
  rcases look z with ⟨d', u, w, e1, e2, rw', dd⟩ | ⟨e1, e2⟩
  · rw [e2]
    exact ⟨w, H, I.tok _, rw', q1 d' w e1 dd⟩
  · rw [e2]
    exact ⟨y, H, I.tok _, r2, q2 e1⟩
abbrev getW (es : List (Str × D)) (wx : Ev → Sto → (List D → Sto → Prop) → Prop) : WE := fun σ S Q => wx σ S fun ds S2 => match ds with | [.str z, y] => Q ((es.lookup z).getD y) S2 | _ => False
theorem get_of {ds : List D} {S : Sto} {es : List (Str × D)} {Q : WQ} (h : match ds with | [.str z, y] => Q ((es.lookup z).getD y) S | _ => False) : ∃ z y, ds = [.str z, y] ∧ Q ((es.lookup z).getD y) S := by
  match ds, h with
  | [.str z, y], h => exact ⟨z, y, rfl, h⟩
theorem s_kdg {o e : Expr} {as : List Expr} {es : List (Str × D)} {p : Addr} {apos cpos : Pos} (hx : PE X o (tC (.ref p))) (he : KD X.K X.w p es) (ha : PA X (e :: as) (tXs X.K wx)) (hbase : attributeBase o "get" X.env (eval o X.env) = eval o X.env)
    (hfew : ((backTo cpos (starEach (e :: as) X.env)).all (fun x => !x.1) && (backToKw cpos (keywordEach [] X.env)).all (fun x => x.1.isSome)
      && decide ((e :: as).length + ([] : List Keyword).length + (if ([] : List Keyword).isEmpty then 0 else 1) < 30)) = true)
    (hline : (apos.endLine == cpos.line) = true) (hs : starEach (e :: as) X.env = (false, eval e X.env) :: starEach as X.env) (hplain : (backTo cpos (starEach as X.env)).any (·.1) = false) :
    PE X (.Call (.Attribute o "get" apos) (e :: as) [] cpos) (tE X.K (getW es wx)) := by
  refine pe_imp (pe_bmD (P := fun x _ => x = .ref p) PySem.F.plainAttrs_dict PySem.F.slot_dict_get PySem.F.type_dict_get (mt_kdg he) (fun pins s σ H x v I r e => ?_) hx ha hbase hfew hline hs hplain) fun σ H Q ⟨F, env, S, Q', R, w, k⟩ => ?_
  · subst e
    obtain rfl : v = Value.ref p := r
    obtain ⟨f, hm, -, nd, -⟩ := he.at_ I
    exact ⟨hm.typeIs, nd⟩
  · refine ⟨rfl, F, env, S, _, R, w, fun vs F1 ds S1 H1 t1 dd w1 => ?_⟩
    obtain ⟨z, y, rfl, q⟩ := get_of w1
    obtain ⟨v1, v2, rfl, d1, d2⟩ := dd.two
    cases d1.str_
    refine ⟨z, v2, rfl, rfl, fun d v e1 dv => ?_, fun e1 => ?_⟩
    · rw [e1] at q
      exact k v F1 d S1 H1 t1 (dv F1) q
    · rw [e1] at q
      exact k v2 F1 y S1 H1 t1 d2 q
/-! a display that is asked at once -/
def cstB : D → Const → Bool
  | .non, .none => true
  | .bl a, .bool b => a == b
  | .int a, .int b => decide (a = b)
  | .str a, .str b => decide (a = b)
  | _, _ => false
def dspB : List (Str × D) → List (Option Expr) → List Expr → Bool
  | [], [], [] => true
  | (z, d) :: r, some (.Constant (.str k) _ _) :: ks, .Constant c _ _ :: vs => decide (z = k) && cstB d c && dspB r ks vs
  | _, _, _ => false
/-- the same keys; values that mean them -/
inductive Als (K : PySem.W.Frag) : List (Str × D) → List (Str × V) → Prop where
  | nil : Als K [] []
  | cons {z : Str} {d : D} {v : V} {r : List (Str × D)} {l : List (Str × V)} (dv : ∀ F, Den K F d v) (n : Als K r l) : Als K ((z, d) :: r) ((z, v) :: l)
theorem dsp_pps {pos : Pos} : ∀ {es : List (Str × D)} {ks : List (Option Expr)} {vs : List Expr}, dspB es ks vs = true → ∃ l : List (Str × V), PPs X pos ks vs (l.map fun q => (tC (.str q.1), tC q.2)) ∧ Als X.K es l ∧ ks.all (·.isSome) = true ∧ ks.length = vs.length ∧ ks.length = es.length
  | [], [], [], _ => ⟨[], pps_nil, .nil, rfl, rfl, rfl⟩
  | (z, d) :: r, some (.Constant (.str k) j1 p1) :: ks, .Constant c j2 p2 :: vs, h => by
    have h : (decide (z = k) && cstB d c && dspB r ks vs) = true := h
    simp only [Bool.and_eq_true, decide_eq_true_eq] at h
    obtain ⟨⟨rfl, h1⟩, h2⟩ := h
    obtain ⟨l, p1, a1, s1, n1, n2⟩ := dsp_pps (pos := pos) h2
    have : ∃ v, PE X (.Constant c j2 p2) (tC v) ∧ ∀ F, Den X.K F d v := by
      cases d <;> cases c <;> first | exact absurd h1 Bool.false_ne_true | skip
      · exact ⟨.non, pe_non, fun F => .mkNon⟩
      · rename_i a b
        have e : a = b := by simpa [cstB] using h1
        exact ⟨.bl b, pe_bl, fun F => e ▸ .mkBl _⟩
      · rename_i a b
        have e : a = b := by simpa [cstB] using h1
        exact ⟨.int b, pe_int, fun F => e ▸ .mkInt _⟩
      · rename_i a b
        have e : a = b := by simpa [cstB] using h1
        exact ⟨.str b, pe_str, fun F => e ▸ .mkStr _⟩
    obtain ⟨v, pv, dv⟩ := this
    exact ⟨(z, v) :: l, pps_cons pe_str pv p1, .cons dv a1, by rw [List.all_cons, s1]; rfl, by rw [List.length_cons, List.length_cons, n1], by rw [List.length_cons, List.length_cons, n2]⟩
theorem tp_const {Q : List (V × V) → Hp → Prop} {σ : L2.St} {H : Hp} : ∀ {l : List (Str × V)}, Q (l.map fun q => (.str q.1, q.2)) H → tPairs (l.map fun q => (tC (.str q.1), tC q.2)) σ H Q
  | [], h => h
  | q :: l, h => tp_const (l := l) (Q := fun ps H3 => Q ((.str q.1, q.2) :: ps) H3) h
def asK (l : List (Str × V)) : List (Key × V) := l.map fun q => (.inr q.1, q.2)
theorem valK {z : Str} : ∀ (l : List (Str × V)), valV (asK l) (.inr z) = l.lookup z
  | [] => rfl
  | (y, v) :: l => by
    unfold asK
    rw [List.map_cons, List.lookup_cons]
    by_cases h : z = y
    · subst h
      rw [valV_pos rfl, beq_self_eq_true]
    · rw [valV_neg (fun e => h (by injection e with e; exact e.symm)), beq_eq_false_iff_ne.mpr h]
      exact valK l
theorem mergeK_app : ∀ (l acc : List (Str × V)), ((acc ++ l).map (·.1)).Nodup → mergeK (asK acc) (asK l) = asK (acc ++ l)
  | [], acc, _ => by rw [List.append_nil]; rfl
  | (y, v) :: l, acc, h => by
    have hn : valV (asK acc) (.inr y) = none := by
      rw [valK]
      have hy : ∀ p ∈ acc, p.1 ≠ y := fun p hp e => by
        rw [List.map_append, List.nodup_append] at h
        exact h.2.2 p.1 (List.mem_map_of_mem hp) y (by simp) e
      clear h
      induction acc with
      | nil => rfl
      | cons p acc ih =>
        obtain ⟨a, b⟩ := p
        rw [List.lookup_cons, beq_eq_false_iff_ne.mpr fun e => hy (a, b) List.mem_cons_self e.symm]
        exact ih fun p hp => hy p (List.mem_cons_of_mem _ hp)
    show mergeK (putK (asK acc) (.inr y) v) (asK l) = _
    rw [putK_new v hn]
    have e : asK acc ++ [(Sum.inr y, v)] = asK (acc ++ [(y, v)]) := by
      unfold asK
      rw [List.map_append]
      rfl
    rw [e, mergeK_app l (acc ++ [(y, v)]) (by rw [List.append_assoc]; exact h), List.append_assoc]
    rfl
theorem Als.keys {K : PySem.W.Frag} : ∀ {es : List (Str × D)} {l : List (Str × V)}, Als K es l → l.map (·.1) = es.map (·.1)
  | _, _, .nil => rfl
  | _, _, .cons _ n => by rw [List.map_cons, List.map_cons, n.keys]
theorem Als.look {K : PySem.W.Frag} {z : Str} : ∀ {es : List (Str × D)} {l : List (Str × V)}, Als K es l → (∃ d v, es.lookup z = some d ∧ l.lookup z = some v ∧ ∀ F, Den K F d v) ∨ (es.lookup z = none ∧ l.lookup z = none)
  | _, _, .nil => .inr ⟨rfl, rfl⟩
  | _, _, .cons (z := y) (d := d) (v := v) dv n => by
    rw [List.lookup_cons, List.lookup_cons]
    cases z == y with
    | true => exact .inl ⟨d, v, rfl, rfl, dv⟩
    | false => exact n.look
theorem mt_ddg (hu : X.A.units + 1 < cLine) : MtR X "dict.get" (fun x xs H Q => ∃ p kvs z y, x = .ref p ∧ Rd H p (.dK kvs) ∧ xs = [.str z, y] ∧ Q ((valV kvs (.inr z)).getD y) H) := by
  intro pins s σ H x xs v us Q I rx rs q
  obtain ⟨p, kvs, z, y, rfl, rd, rfl, q⟩ := q
  obtain rfl : v = Value.ref p := rx
  cases rs with
  | @cons a b as bs r1 rs =>
  cases rs with
  | @cons a2 b2 as2 bs2 r2 rs =>
  cases rs
  exact d_get2 (o := valV kvs (.inr z)) hu I (.inl ⟨kvs, .inr z, rd, rfl, rfl⟩) r1 r2 fun w' s' I' rw' => ⟨_, H, I', rw', q⟩
theorem s_ddg {e : Expr} {as : List Expr} {es : List (Str × D)} {ks : List (Option Expr)} {vs : List Expr} {dpos apos cpos : Pos} (hu : X.A.units + 70 < cLine) (hd : dspB es ks vs = true) (h0 : es ≠ []) (h15 : es.length ≤ 15) (hn : (es.map (·.1)).Nodup) (ha : PA X (e :: as) (tXs X.K wx)) (hbase : attributeBase (.Dict ks vs dpos) "get" X.env (eval (.Dict ks vs dpos) X.env) = eval (.Dict ks vs dpos) X.env)
    (hfew : ((backTo cpos (starEach (e :: as) X.env)).all (fun x => !x.1) && (backToKw cpos (keywordEach [] X.env)).all (fun x => x.1.isSome)
      && decide ((e :: as).length + ([] : List Keyword).length + (if ([] : List Keyword).isEmpty then 0 else 1) < 30)) = true)
    (hline : (apos.endLine == cpos.line) = true) (hs : starEach (e :: as) X.env = (false, eval e X.env) :: starEach as X.env) (hplain : (backTo cpos (starEach as X.env)).any (·.1) = false) :
    PE X (.Call (.Attribute (.Dict ks vs dpos) "get" apos) (e :: as) [] cpos) (tE X.K (getW es wx)) := by
  obtain ⟨l, pp, al, hall, hl, hle⟩ := dsp_pps (X := X) (pos := dpos) hd
  have hlen : l.length = es.length := by
    have := congrArg List.length al.keys
    rwa [List.length_map, List.length_map] at this
  have ek : ks ≠ [] := fun e => by
    rw [e] at hle
    exact h0 (List.eq_nil_of_length_eq_zero hle.symm)
  refine pe_imp (pe_bmD (P := fun x H => ∃ p kvs, x = .ref p ∧ Rd H p (.dK kvs)) PySem.F.plainAttrs_dict PySem.F.slot_dict_get PySem.F.type_dict_get (mt_ddg (by omega)) (fun pins s σ H x v I r e => ?_) (pe_disp pp hall hl ek (by omega)) ha hbase hfew hline hs hplain) fun σ H Q ⟨F, env, S, Q', R, w, k⟩ => ?_
  · obtain ⟨p, kvs, rfl, rd⟩ := e
    obtain rfl : v = Value.ref p := r
    obtain ⟨h1, h2, -⟩ := isD_at I (.inl ⟨kvs, rd⟩)
    exact ⟨h1, h2⟩
  · intro p hp
    refine tp_const ⟨upd_same, asK l, ?_, by rw [show (asK l).length = l.length from List.length_map ..]; omega, ?_⟩
    · unfold asK
      rw [List.map_map]
      rfl
    have em : mergeK [] (asK l) = asK l := mergeK_app l [] (by rw [List.nil_append, al.keys]; exact hn)
    have eh : upd (upd H p (.dK [])) p (.dK (mergeK [] (asK l))) = upd H p (.dK (asK l)) := by
      rw [em]
      funext a
      by_cases e : a = p
      · subst e
        rw [upd_same, upd_same]
      · rw [upd_ne e, upd_ne e, upd_ne e]
    rw [eh]
    obtain ⟨rs, sb⟩ := R.rs.newF (o := .dK (asK l)) hp
    have t0 : Tr X.K F S H (upd F p (.dK (asK l))) S (upd H p (.dK (asK l))) := Tr.grow (Gw.new (R.rs.sub.none hp) hp) rs
    refine ⟨⟨p, asK l, rfl, .inl upd_same⟩, upd F p (.dK (asK l)), env, S, _, R.next sb rs, w, fun vs F2 ds S2 H2 t2 dd w1 => ?_⟩
    obtain ⟨z, y, rfl, q⟩ := get_of w1
    obtain ⟨v1, v2, rfl, d1, d2⟩ := dd.two
    cases d1.str_
    refine ⟨p, asK l, z, v2, rfl, .inl (t2.rs.sub p _ (t2.sub p _ upd_same)), rfl, ?_⟩
    rw [valK]
    rcases al.look (z := z) with ⟨d, v, e1, e2, dv⟩ | ⟨e1, e2⟩
    · rw [e1] at q
      rw [e2]
      exact k v F2 d S2 H2 (t0.trans t2) (dv F2) q
    · rw [e1] at q
      rw [e2]
      exact k v2 F2 y S2 H2 (t0.trans t2) d2 q
end
end PL
set_option maxHeartbeats 8000000
/-! PL: the check that a tree of ours is the text's own, and what it gives. -/
namespace PL
open PySem L2

mutual
def sameD : D → D → Bool
  | .non, .non => true
  | .bl a, .bl b => a == b
  | .int a, .int b => decide (a = b)
  | .str a, .str b => decide (a = b)
  | .tup a, .tup b => sameDs a b
  | .lst a, .lst b => sameDs a b
  | .ref a, .ref b => decide (a = b)
  | .scr a, .scr b => decide (a = b)
  | _, _ => false
def sameDs : List D → List D → Bool
  | [], [] => true
  | x :: xs, y :: ys => sameD x y && sameDs xs ys
  | _, _ => false
end
mutual
theorem sameD_ok : ∀ {a b : D}, sameD a b = true → a = b
  | .non, b, h => by cases b <;> first | rfl | (simp [sameD] at h; done)
  | .bl x, b, h => by cases b <;> first | (simp [sameD] at h; done) | (simp [sameD] at h; subst h; rfl)
  | .int x, b, h => by cases b <;> first | (simp [sameD] at h; done) | (simp [sameD] at h; subst h; rfl)
  | .str x, b, h => by cases b <;> first | (simp [sameD] at h; done) | (simp [sameD] at h; subst h; rfl)
  | .scr x, b, h => by cases b <;> first | (simp [sameD] at h; done) | (simp [sameD] at h; subst h; rfl)
  | .ref x, b, h => by cases b <;> first | (simp [sameD] at h; done) | (simp [sameD] at h; subst h; rfl)
  | .tup xs, b, h => by
    cases b with
    | tup ys =>
      unfold sameD at h
      rw [sameDs_ok h]
    | _ => simp [sameD] at h
  | .lst xs, b, h => by
    cases b with
    | lst ys =>
      unfold sameD at h
      rw [sameDs_ok h]
    | _ => simp [sameD] at h
theorem sameDs_ok : ∀ {a b : List D}, sameDs a b = true → a = b
  | [], [], _ => rfl
  | [], _ :: _, h => by simp [sameDs] at h
  | _ :: _, [], h => by simp [sameDs] at h
  | x :: xs, y :: ys, h => by
    unfold sameDs at h
    rw [Bool.and_eq_true] at h
    rw [sameD_ok h.1, sameDs_ok h.2]
end

def sameKs : List (Str × D) → List (Str × D) → Bool
  | [], [] => true
  | (x, d) :: r, (y, e) :: t => decide (x = y) && sameD d e && sameKs r t
  | _, _ => false
theorem sameKs_ok : ∀ {r t : List (Str × D)}, sameKs r t = true → r = t
  | [], [], _ => rfl
  | [], _ :: _, h => nomatch h
  | _ :: _, [], h => nomatch h
  | (x, d) :: r, (y, e) :: t, h => by
    unfold sameKs at h
    simp only [Bool.and_eq_true, decide_eq_true_eq] at h
    rw [h.1.1, sameD_ok h.1.2, sameKs_ok h.2]
structure Tb where
  fns : List (Str × Nat)
  cs : List (Str × D)
  ks : List (Str × List (Str × D))
structure Ck where
  N : List Str
  sc : Scope
  own : Str → Bool
def biNames : List Str := ["abs", "len", "int", "str", "repr", "tuple", "max", "min", "sum", "all", "any", "list", "range", "isinstance", "bool"]
def kB (k : Option NameKind) (l : List NameKind) : Bool := match k with
  | some k => l.any fun j => k == j
  | none => false
def visB (c : Ck) (x : Str) : Bool := decide (c.sc.names.lookup x = some .local) || decide (c.sc.names.lookup x = some .cell) || decide (c.sc.names.lookup x = some .free)
def glB (c : Ck) (x : Str) : Bool := decide (c.sc.names.lookup x = some .globalImplicit)
def locB (c : Ck) (x : Str) : Bool := decide (c.sc.names.lookup x = some .local) || (decide (c.sc.names.lookup x = some .cell) && c.own x)
def litB : D → Const → Bool
  | .non, .none => true
  | .bl a, .bool b => a == b
  | .int a, .int b => decide (a = b)
  | .str a, .str b => decide (a = b)
  | _, _ => false
def notStar : Expr → Bool
  | .Starred .. => false
  | _ => true
def notSlc : Expr → Bool
  | .Slice .. => false
  | _ => true
def notSet : Expr → Bool
  | .Set .. => false
  | _ => true
def notCmp : Expr → Bool
  | .ListComp .. | .SetComp .. | .DictComp .. => false
  | _ => true
/-- an expression whose test is its value's truth -/
def tvB : Expr → Bool
  | .UnaryOp .. | .BoolOp .. | .IfExp .. | .Compare .. => false
  | _ => true
def baseB : Expr → Bool
  | .Call .. => false
  | _ => true
def Ck.blk (c : Ck) (s : Scope) : Ck := ⟨c.N, relS s c.sc, fun x => s.names.lookup x == some .cell⟩
mutual
def Tg.slots : Tg → List Nat
  | .nam i => [i]
  | .tup ts => ts.slots
  | .sub _ _ => []
def Gs.slots : Gs → List Nat
  | .nil => []
  | .cons t ts => t.slots ++ ts.slots
end
def okName (x : Str) : Bool := !(x == ("__debug__" : Str)) && !(x == ("__classdict__" : Str))

def isYes : Ts → Bool
  | .yes => true
  | _ => false
def no2 : Ex → Bool
  | .frz (.lc2 ..) => false
  | .new (.lc2 ..) => false
  | _ => true
section
variable (T : Tb)
mutual
def chkE (c : Ck) : Ex → Expr → Bool
  | .lit d, .Constant k _ _ => litB d k
  | .glo x d, .Name y _ => decide (x = y) && glB c x && okName x && T.cs.any fun p => decide (p.1 = x) && sameD p.2 d
  | .var i, .Name x _ => decide (c.N[i]? = some x) && visB c x && okName x
  | .bin op a b, .BinOp a' op' b' _ => decide (op = op') && chkE c a a' && chkE c b b'
  | .neg a, .UnaryOp .USub a' _ => chkE c a a'
  | .cmp op a b, .Compare a' [op'] [b'] _ => decide (op = op') && !behindInMarks op b' && chkE c a a' && chkE c b b'
  | .chn o1 o2 a b e, .Compare a' [p1, p2] [b', e'] _ => decide (o1 = p1) && decide (o2 = p2) && !lastMarks [o1, o2] [b', e'] && chkE c a a' && chkE c b b' && chkE c e e'
  | .andv a b, .BoolOp .And (a' :: b' :: r) p => chkE c a a' && (match r with | [] => chkE c b b' | _ :: _ => chkE c b (.BoolOp .And (b' :: r) p))
  | .orv a b, .BoolOp .Or (a' :: b' :: r) p => chkE c a a' && (match r with | [] => chkE c b b' | _ :: _ => chkE c b (.BoolOp .Or (b' :: r) p))
  | .notv a, .UnaryOp .Not a' _ => chkE c a a'
  | .ite t a b, .IfExp t' a' b' _ => chkT c t t' && chkE c a a' && chkE c b b'
  | .tup es, .Tuple es' _ _ => chkX c es es'
  | .frz l, e => chkL c l e
  | .new l, e => chkL c l e
  | .tpr1 a, .Call (.Name x _) [.Call (.Name y _) [a'] [] _] [] _ => decide (x = "tuple") && glB c x && decide (y = "range") && glB c y && notStar a' && chkE c a a'
  | .tpr2 a b, .Call (.Name x _) [.Call (.Name y _) [a', b'] [] _] [] _ => decide (x = "tuple") && glB c x && decide (y = "range") && glB c y && notStar a' && notStar b' && chkE c a a' && chkE c b b'
  | .idx a b, .Subscript a' b' _ => notSlc b' && chkE c a a' && chkE c b b'
  | .kdg x es as, .Call (.Attribute (.Name y _) m apos) es' [] cpos => decide (m = "get") && decide (x = y) && glB c x && okName x && (apos.endLine == cpos.line) && decide (es'.length < 29) && !es'.isEmpty && (T.ks.any fun p => decide (p.1 = x) && sameKs p.2 es) && chkX c as es'
  | .ddg es as, .Call (.Attribute (.Dict ks vs _) m apos) es' [] cpos => decide (m = "get") && (apos.endLine == cpos.line) && decide (es'.length < 29) && !es'.isEmpty && dspB es ks vs && !es.isEmpty && decide (es.length ≤ 15) && decide ((es.map (·.1)).Nodup) && chkX c as es'
  | .kdx x es a, .Subscript (.Name y _) b' _ => decide (x = y) && glB c x && okName x && notSlc b' && (T.ks.any fun p => decide (p.1 = x) && sameKs p.2 es) && chkE c a b'
  | .slc a lo hi, .Subscript a' (.Slice lo' hi' none _) _ => chkE c a a' && chkP c lo lo' && chkP c hi hi'
  | .call f es, .Call (.Name x _) es' [] _ => (match T.fns[f]? with | some (y, n) => decide (y = x) && (es'.length != 0 || n == 0) | none => false) && glB c x && okName x && chkX c es es'
  | .fn f es, .Call (.Name x _) es' [] _ => decide (x = f.name) && glB c x && es'.length != 0 && chkX c es es'
  | .isi a T', .Call (.Name x _) [a', .Name y _] [] _ => decide (x = "isinstance") && glB c x && isiNames.contains T' && decide (y = Str.ofString T') && glB c y && notStar a' && chkE c a a'
  | .app o e, .Call (.Attribute o' m apos) [e'] [] cpos => decide (m = "append") && baseB o' && (apos.endLine == cpos.line) && notStar e' && chkE c o o' && chkE c e e'
  | .mtd m o es, .Call (.Attribute o' x apos) es' [] cpos => decide (x = m.nm) && baseB o' && (apos.endLine == cpos.line) && decide (es'.length < 29) && chkE c o o' && chkX c es es'
  | _, _ => false
def chkL (c : Ck) : Ls → Expr → Bool
  | .dsp es, .List es' _ => chkX c es es'
  | .lc own tg it cond e, .ListComp e' [⟨tg', it', ifs, k⟩] s _ => decide (k = 0) && blkC c.N c.sc s own && (tg.slots.all fun i => (own.map (·.2)).contains i) && notSet it' && chkI c it it' && chkG (c.blk s) tg tg' && chkE (c.blk s) e e' &&
    (match ifs with | [] => (match cond with | .yes => true | _ => false) | [i] => chkT (c.blk s) cond i | _ => false)
  | .lc2 own vs tg it cond tg1 it1 cond1 e, .ListComp e' gs s _ => match gs with
    | [] => false
    | g :: r => match r with
      | [] => false
      | g1 :: r1 => r1.isEmpty && decide (g.is_async = 0) && decide (g1.is_async = 0) && blkC c.N c.sc s own && (vs.all fun i => (own.map (·.2)).contains i) && (tg.slots.all fun i => (own.map (·.2)).contains i) && (tg1.slots.all fun i => vs.contains i) && notSet g.iter && notSet g1.iter && chkI c it g.iter && chkG (c.blk s) tg g.target && chkI (c.blk s) it1 g1.iter && chkG (c.blk s) tg1 g1.target && chkE (c.blk s) e e' &&
        ((isYes cond && g.ifs.isEmpty) || (match g.ifs with | [i] => chkT (c.blk s) cond i | _ => false)) && ((isYes cond1 && g1.ifs.isEmpty) || (match g1.ifs with | [i] => chkT (c.blk s) cond1 i | _ => false))
  | .lst a, .Call (.Name x _) [a'] [] _ => decide (x = "list") && glB c x && notStar a' && chkE c a a'
  | .cat a b, .BinOp a' .Add b' _ => chkE c a a' && chkE c b b'
  | .rep a b, .BinOp a' .Mult b' _ => chkE c a a' && chkE c b b'
  | .rev a, .Subscript a' (.Slice none none (some (.UnaryOp .USub (.Constant (.int 1) _ _) _)) _) _ => chkE c a a'
  | .slc a lo hi, .Subscript a' (.Slice lo' hi' none _) _ => chkE c a a' && chkP c lo lo' && chkP c hi hi'
  | _, _ => false
def chkX (c : Ck) : Xs → List Expr → Bool
  | .nil, [] => true
  | .cons e es, e' :: es' => notStar e' && chkE c e e' && chkX c es es'
  | _, _ => false
def chkP (c : Ck) : Po → Option Expr → Bool
  | .no, none => true
  | .yes e, some e' => chkE c e e'
  | _, _ => false
def chkT (c : Ck) : Ts → Expr → Bool
  | .val e, e' => tvB e' && chkE c e e'
  | .cmp op a b, .Compare a' [op'] [b'] _ => decide (op = op') && !behindInMarks op b' && chkE c a a' && chkE c b b'
  | .chn o1 o2 a b e, .Compare a' [p1, p2] [b', e'] _ => decide (o1 = p1) && decide (o2 = p2) && !lastMarks [o1, o2] [b', e'] && chkE c a a' && chkE c b b' && chkE c e e'
  | .not t, .UnaryOp .Not a' _ => chkT c t a'
  | .and a b, .BoolOp .And (a' :: b' :: r) p => chkT c a a' && (match r with | [] => chkT c b b' | _ :: _ => chkT c b (.BoolOp .And (b' :: r) p))
  | .or a b, .BoolOp .Or (a' :: b' :: r) p => chkT c a a' && (match r with | [] => chkT c b b' | _ :: _ => chkT c b (.BoolOp .Or (b' :: r) p))
  | _, _ => false
def chkI (c : Ck) : Wk → Expr → Bool
  | .tup e, e' => chkE c e e'
  | .lst e, e' => chkE c e e'
  | .str e, e' => chkE c e e'
  | .rng1 a, .Call (.Name x _) [a'] [] _ => decide (x = "range") && glB c x && notStar a' && chkE c a a'
  | .rng2 a b, .Call (.Name x _) [a', b'] [] _ => decide (x = "range") && glB c x && notStar a' && notStar b' && chkE c a a' && chkE c b b'
  | _, _ => false
def chkG (c : Ck) : Tg → Expr → Bool
  | .nam i, .Name x _ => decide (c.N[i]? = some x) && locB c x
  | .tup ts, .Tuple es _ _ => chkGs c ts es
  | .sub o i, .Subscript o' i' _ => notSlc i' && chkE c o o' && chkE c i i'
  | _, _ => false
def chkGs (c : Ck) : Gs → List Expr → Bool
  | .nil, [] => true
  | .cons t ts, e :: es => notStar e && chkG c t e && chkGs c ts es
  | _, _ => false
end
end

/-! ### the facts of a context -/
structure Fa (T : Tb) (W : CallW) (k : Nat) (c : Ck) (X : Cx) : Prop where
  N : X.N = c.N
  sc : X.env.scope = c.sc
  nd : c.N.Nodup
  own : ∀ x, c.own x = true → X.fn x = true
  calm : X.calm = true
  room : Room k X.A
  gd : X.A.guards = some []
  bi : ∀ x ∈ biNames, X.mg x = none
  cs : ∀ p ∈ T.cs, ∃ u v, X.mg p.1 = some u ∧ RelV v u ∧ ∀ F, Den X.K F p.2 v
  ks : ∀ p ∈ T.ks, ∃ a, X.mg p.1 = some (.ref a) ∧ KD X.K X.w a p.2
  fn : ∀ (i : Nat) (x : Str) (n : Nat), T.fns[i]? = some (x, n) → ∃ f fd ps, X.mg x = some (.ref f) ∧ PySem.W.keepIn X.K (.ref f) = true ∧ Binds X.K fd ps [] ∧ FnG X.prog X.w X.K X.mg X.base k f fd ps (spOf X.K W i n)
  ar : ∀ (i : Nat) (x : Str) (n : Nat), T.fns[i]? = some (x, n) → ∀ ds S Q, W i ds S Q → ds.length = n
section
variable {T : Tb} {W : CallW} {k : Nat} {c : Ck} {X : Cx}
theorem Fa.hu (f : Fa T W k c X) : X.A.units + 70 < cLine := by
  have := f.room.un
  omega
theorem Fa.vis (f : Fa T W k c X) {x : Str} (h : visB c x = true) : Vis X.env.scope x := by
  unfold visB at h
  rw [f.sc]
  simp only [Bool.or_eq_true, decide_eq_true_eq] at h
  rcases h with (h | h) | h
  · exact .inl h
  · exact .inr (.inl h)
  · exact .inr (.inr h)
theorem Fa.gl (f : Fa T W k c X) {x : Str} (h : glB c x = true) : Gl X x := by
  unfold glB at h
  have h' := of_decide_eq_true h
  show X.env.scope.names.lookup x = _
  rw [f.sc]
  exact h'
theorem Fa.loc (f : Fa T W k c X) {x : Str} (h : locB c x = true) : Loc' X x := by
  unfold locB at h
  unfold Loc'
  rw [f.sc]
  simp only [Bool.or_eq_true, Bool.and_eq_true, decide_eq_true_eq] at h
  rcases h with h | ⟨h1, h2⟩
  · exact .inl h
  · exact .inr ⟨h1, f.own x h2⟩
theorem Fa.nod (f : Fa T W k c X) : X.N.Nodup := by
  rw [f.N]
  exact f.nd
theorem Fa.at (f : Fa T W k c X) {i : Nat} {x : Str} (h : decide (c.N[i]? = some x) = true) : X.N[i]? = some x := by
  rw [f.N]
  exact of_decide_eq_true h
theorem Fa.blk (f : Fa T W k c X) (scope : Scope) (s : Shared) (H : Hp) (C : Addr) (cl : List (Str × Addr)) (fp : List Addr) : Fa T W k (c.blk scope) (X.blk s H scope (compEnvC scope cl C X.env) fp) :=
  ⟨f.N, by
    show relS scope X.env.scope = _
    rw [f.sc]
    rfl, f.nd, fun x h => h, f.calm, f.room, f.gd, f.bi, f.cs, f.ks, f.fn, f.ar⟩
theorem dbg_of {x : Str} (h : okName x = true) : (x == ("__debug__" : Str)) = false ∧ (x == ("__classdict__" : Str)) = false := by
  unfold okName at h
  simp only [Bool.and_eq_true, Bool.not_eq_true'] at h
  exact h
theorem star_of {e : Expr} {es : List Expr} {env : Env} (h : notStar e = true) : starEach (e :: es) env = (false, eval e env) :: starEach es env := by
  cases e <;> first | rfl | simp [notStar] at h
theorem plain_ix {b : Expr} (h : notSlc b = true) : PlainIx b := by
  cases b <;> first | (intro o i; rfl) | simp [notSlc] at h
theorem tv_of {e : Expr} {env : Env} (h : tvB e = true) : ∀ whole, isTrue e env whole = (do let v ← whole; standAt e.pos; holding [v] (truthy v)) := by
  cases e <;> first | (intro _; rfl) | simp [tvB] at h
theorem fold_of {e : Expr} {env : Env} (h : notSet e = true) : ∀ x, foldedSetIterable e env x = pure x := by
  cases e <;> first | (intro _; rfl) | simp [notSet] at h
theorem base_of {o : Expr} {m : Str} {env : Env} (h : baseB o = true) : attributeBase o m env (eval o env) = eval o env := by
  cases o <;> first | rfl | simp [baseB] at h
theorem chkX_stars {es : Xs} : ∀ {es' : List Expr}, chkX T c es es' = true → ∀ (pos : Pos) (env : Env), (backTo pos (starEach es' env)).any (·.1) = false := by
  intro es' h pos env
  revert h
  induction es' generalizing es with
  | nil => intro _; rfl
  | cons e r ih =>
    intro h
    cases es with
    | nil => simp [chkX] at h
    | cons f fs =>
      simp only [chkX, Bool.and_eq_true] at h
      rw [star_of h.1.1]
      show (false || _) = false
      rw [Bool.false_or]
      exact ih h.2
theorem all_not {α : Type} : ∀ {l : List (Bool × α)}, l.any (·.1) = false → l.all (fun x => !x.1) = true
  | [], _ => rfl
  | x :: r, h => by
    rw [List.any_cons, Bool.or_eq_false_iff] at h
    rw [List.all_cons, h.1, all_not h.2]
    rfl
theorem few_of {es : Xs} {es' : List Expr} (h : chkX T c es es' = true) (l : es'.length < 30) (cpos : Pos) (env : Env) : ((backTo cpos (starEach es' env)).all (fun x => !x.1) && (backToKw cpos (keywordEach [] env)).all (fun x => x.1.isSome)
      && decide (es'.length + ([] : List Keyword).length + (if ([] : List Keyword).isEmpty then 0 else 1) < 30)) = true := by
  rw [all_not (chkX_stars h cpos env)]
  show (true && true && decide (es'.length + 0 + 0 < 30)) = true
  simpa using l
theorem assign_of {e : Expr} {es : List Expr} {env : Env} (h : notStar e = true) : assignEach (e :: es) env = (false, assign e env) :: assignEach es env := by
  cases e <;> first | rfl | simp [notStar] at h
theorem chkGs_len {ts : Gs} : ∀ {es : List Expr}, chkGs T c ts es = true → ∀ (env : Env), (assignEach es env).length = ts.len ∧ (assignEach es env).findIdx? (·.1) = none := by
  intro es h env
  revert h
  induction es generalizing ts with
  | nil =>
    intro h
    cases ts with
    | nil => exact ⟨rfl, rfl⟩
    | cons _ _ => simp [chkGs] at h
  | cons e r ih =>
    intro h
    cases ts with
    | nil => simp [chkGs] at h
    | cons f fs =>
      simp only [chkGs, Bool.and_eq_true] at h
      obtain ⟨h1, h2⟩ := ih h.2
      rw [assign_of h.1.1]
      refine ⟨by rw [List.length_cons, h1]; rfl, ?_⟩
      rw [List.findIdx?_cons, h2]
      rfl
theorem sub_assign {o i : Expr} {pos : Pos} {env : Env} (h : notSlc i = true) : ∀ v, assign (.Subscript o i pos) env v = (do
      let ov ← holding [v] (eval o env)
      let iv ← holding [v, ov] (eval i env)
      standAt pos
      holding [v, ov, iv] (setItem ov iv v)
      release [v, ov, iv] []) := by
  cases i <;> first | (intro _; rfl) | simp [notSlc] at h
theorem pw_of {op : BoolOp} {es : List Expr} {pos : Pos} {t : TT} (h : PT X (.BoolOp op es pos) t) : PW X (.BoolOp op es pos) t := ⟨fun wh pins s σ H Q I q => h.run pins s σ H Q I q⟩
theorem isi_val {T' : String} (h : isiNames.contains T' = true) : bootBuiltins (Str.ofString T') = some (.type T') ∧ Str.ofString T' ≠ "__name__" ∧ (Str.ofString T' == ("__debug__" : Str)) = false ∧ Str.ofString T' ∈ biNames := by
  have hT : T' ∈ ["int", "str", "bool", "tuple", "list"] := by
    have := List.contains_iff_mem.mp h
    exact this
  simp only [List.mem_cons, List.not_mem_nil, or_false] at hT
  rcases hT with rfl | rfl | rfl | rfl | rfl <;> exact ⟨by decide +kernel, by decide +kernel, by decide +kernel, by decide +kernel⟩
theorem bf_in (f : Bf) : f.name ∈ biNames := by cases f <;> decide +kernel
/-- xs.append(e) -/
theorem s_app {o e : Expr} {apos cpos : Pos} {wo we : WE} (ho : PE X o (tE X.K wo)) (he : PE X e (tE X.K we)) (hb : attributeBase o "append" X.env (eval o X.env) = eval o X.env) (hl : (apos.endLine == cpos.line) = true) (hs : notStar e = true) :
    PE X (.Call (.Attribute o "append" apos) [e] [] cpos) (tE X.K fun σ S Q => wo σ S fun x S1 => lstAt S1 x ∧ we σ S1 fun v S2 => appS S2 x v fun S3 => Q .non S3) := by
  have hst : starEach [e] X.env = [(false, eval e X.env)] := star_of hs
  refine pe_imp (pe_bm PySem.F.plainAttrs_list PySem.F.slot_list_append PySem.F.type_list_append mt_append ho (pa_cons he pa_nil (by rw [hst]; rfl)) hb (by rw [hst]; rfl) hl (by rw [hst]; rfl) rfl) fun σ H Q ⟨F, env, S, Q', R, w, k⟩ => ⟨F, env, S, _, R, w, fun x F1 d S1 H1 t1 d1 ⟨l1, w1⟩ => ?_⟩
  have l2 : ∃ a xs, d = .ref a ∧ S1 a = some (.lst xs) := by
    cases d with
    | ref a =>
      unfold lstAt at l1
      dsimp only at l1
      split at l1
      · rename_i xs hS
        exact ⟨a, xs, rfl, hS⟩
      · exact False.elim l1
    | _ => exact False.elim l1
  obtain ⟨a, xs, rfl, hS⟩ := l2
  cases d1.ref_
  obtain ⟨_, z, vs, hH, ts⟩ := t1.rs.lst hS
  refine ⟨.inl ⟨rfl, vs, .inl (.inl hH)⟩, F1, env, S1, _, R.tr t1, w1, fun v F2 d2 S2 H2 t2 dd2 w2 => ?_⟩
  have w3 : ∃ ys, S2 a = some (.lst ys) ∧ ys.length < sizeLine ∧ Q' .non (S2.put a (.lst (ys ++ [d2]))) := by
    have w2 : appS S2 (.ref a) d2 fun S3 => Q' .non S3 := w2
    unfold appS at w2
    dsimp only at w2
    split at w2
    · rename_i ys hS2
      exact ⟨ys, hS2, w2.1, w2.2⟩
    · exact False.elim w2
  obtain ⟨ys, hS2, hl2, q⟩ := w3
  obtain ⟨_, z2, us, hH2, tu⟩ := t2.rs.lst hS2
  refine ⟨a, us, v, rfl, rfl, hH2, by rw [tu.len]; exact hl2, k _ _ _ _ _ ((t1.trans t2).trans (Tr.put t2.rs hS2 ?_)) .mkNon q⟩
  exact ⟨by rw [List.length_append]; simp; omega, _, upd_same, tu.append (.cons dd2 .nil)⟩

/-! ### THE CHECK IS GOOD -/
theorem lc_shape {own : List (Str × Nat)} {tg : Tg} {it : Wk} {cond : Ts} {a : Ex} {e : Expr} (h : chkL T c (.lc own tg it cond a) e = true) : ∃ a' tg' it' ifs s pos, e = .ListComp a' [⟨tg', it', ifs, 0⟩] s pos ∧ blkC c.N c.sc s own = true ∧
    (tg.slots.all fun i => (own.map (·.2)).contains i) = true ∧ notSet it' = true ∧ chkI T c it it' = true ∧ chkG T (c.blk s) tg tg' = true ∧ chkE T (c.blk s) a a' = true ∧ ((ifs = [] ∧ cond = .yes) ∨ ∃ i, ifs = [i] ∧ chkT T (c.blk s) cond i = true) := by
  cases e with
  | ListComp a' gens s pos =>
    match gens, h with
    | [⟨tg', it', ifs, k0⟩], h =>
      simp only [chkL, Bool.and_eq_true, decide_eq_true_eq] at h
      obtain ⟨⟨⟨⟨⟨⟨⟨rfl, h1⟩, h2⟩, h3⟩, h4⟩, h5⟩, h6⟩, h7⟩ := h
      refine ⟨a', tg', it', ifs, s, pos, rfl, h1, h2, h3, h4, h5, h6, ?_⟩
      match ifs, h7 with
      | [], h7 =>
        cases cond <;> first | (simp at h7; done) | skip
        exact .inl ⟨rfl, rfl⟩
      | [i], h7 => exact .inr ⟨i, rfl, h7⟩
      | _ :: _ :: _, h7 => simp at h7
    | [], h => exact absurd h Bool.false_ne_true
    | ⟨_, _, _, _⟩ :: _ :: _, h => exact absurd h Bool.false_ne_true
  | _ => exact absurd h Bool.false_ne_true
theorem lc2_shape {own : List (Str × Nat)} {vs : List Nat} {tg tg1 : Tg} {it it1 : Wk} {cond cond1 : Ts} {a : Ex} {e : Expr} (h : chkL T c (.lc2 own vs tg it cond tg1 it1 cond1 a) e = true) : ∃ a' tg' it' ifs tg1' it1' ifs1 s pos, e = .ListComp a' [⟨tg', it', ifs, 0⟩, ⟨tg1', it1', ifs1, 0⟩] s pos ∧ blkC c.N c.sc s own = true ∧
    (vs.all fun i => (own.map (·.2)).contains i) = true ∧ (tg.slots.all fun i => (own.map (·.2)).contains i) = true ∧ (tg1.slots.all fun i => vs.contains i) = true ∧ notSet it' = true ∧ notSet it1' = true ∧ chkI T c it it' = true ∧ chkG T (c.blk s) tg tg' = true ∧ chkI T (c.blk s) it1 it1' = true ∧ chkG T (c.blk s) tg1 tg1' = true ∧ chkE T (c.blk s) a a' = true ∧
    ((ifs = [] ∧ cond = .yes) ∨ ∃ i, ifs = [i] ∧ chkT T (c.blk s) cond i = true) ∧ ((ifs1 = [] ∧ cond1 = .yes) ∨ ∃ i, ifs1 = [i] ∧ chkT T (c.blk s) cond1 i = true) := by
  have sel : ∀ {ifs : List Expr} {cond : Ts} {c : Ck}, ((isYes cond && ifs.isEmpty) || (match ifs with | [i] => chkT T c cond i | _ => false)) = true → ((ifs = [] ∧ cond = .yes) ∨ ∃ i, ifs = [i] ∧ chkT T c cond i = true) := by
    intro ifs cond c h7
    rw [Bool.or_eq_true, Bool.and_eq_true] at h7
    rcases h7 with ⟨h7, h8⟩ | h7
    · refine .inl ⟨by simpa using h8, ?_⟩
      cases cond <;> first | rfl | (exact absurd h7 Bool.false_ne_true)
    · match ifs, h7 with
      | [], h7 => exact absurd h7 Bool.false_ne_true
      | [i], h7 => exact .inr ⟨i, rfl, h7⟩
      | _ :: _ :: _, h7 => exact absurd h7 Bool.false_ne_true
  cases e with
  | ListComp a' gens s pos =>
    unfold chkL at h
    cases gens with
    | nil => exact absurd h Bool.false_ne_true
    | cons g r =>
      cases r with
      | nil => exact absurd h Bool.false_ne_true
      | cons g1 r1 =>
        obtain ⟨tg', it', ifs, k0⟩ := g
        obtain ⟨tg1', it1', ifs1, k1⟩ := g1
        dsimp only at h
        rw [Bool.and_eq_true, Bool.and_eq_true, Bool.and_eq_true, Bool.and_eq_true, Bool.and_eq_true, Bool.and_eq_true, Bool.and_eq_true, Bool.and_eq_true, Bool.and_eq_true, Bool.and_eq_true, Bool.and_eq_true, Bool.and_eq_true, Bool.and_eq_true, Bool.and_eq_true, Bool.and_eq_true, decide_eq_true_eq, decide_eq_true_eq] at h
        obtain ⟨⟨⟨⟨⟨⟨⟨⟨⟨⟨⟨⟨⟨⟨⟨h0, rfl⟩, rfl⟩, h1⟩, h2⟩, h3⟩, h4⟩, h5⟩, h6⟩, h7⟩, h8⟩, h9⟩, h10⟩, h11⟩, h12⟩, h13⟩ := h
        cases r1 with
        | cons _ _ => exact absurd h0 Bool.false_ne_true
        | nil => exact ⟨a', tg', it', ifs, tg1', it1', ifs1, s, pos, rfl, h1, h2, h3, h4, h5, h6, h7, h8, h9, h10, h11, sel h12, sel h13⟩
  | _ => exact absurd h Bool.false_ne_true
theorem tpr1_shape {a : Ex} {e : Expr} (h : chkE T c (.tpr1 a) e = true) : ∃ a' p p2 pos2 pos, e = .Call (.Name "tuple" p) [.Call (.Name "range" p2) [a'] [] pos2] [] pos ∧ glB c "tuple" = true ∧ glB c "range" = true ∧ notStar a' = true ∧ chkE T c a a' = true := by
  unfold chkE at h
  split at h
  all_goals first | (exfalso; exact Bool.false_ne_true h) | skip
  all_goals (try (rename_i heq; cases heq))
  all_goals (simp only [Bool.and_eq_true, decide_eq_true_eq] at h)
  all_goals (obtain ⟨⟨⟨⟨⟨rfl, h1⟩, rfl⟩, h2⟩, h3⟩, h4⟩ := h; exact ⟨_, _, _, _, _, rfl, h1, h2, h3, h4⟩)
theorem tpr2_shape {a b : Ex} {e : Expr} (h : chkE T c (.tpr2 a b) e = true) : ∃ a' b' p p2 pos2 pos, e = .Call (.Name "tuple" p) [.Call (.Name "range" p2) [a', b'] [] pos2] [] pos ∧ glB c "tuple" = true ∧ glB c "range" = true ∧ notStar a' = true ∧ notStar b' = true ∧ chkE T c a a' = true ∧ chkE T c b b' = true := by
  unfold chkE at h
  split at h
  all_goals first | (exfalso; exact Bool.false_ne_true h) | skip
  all_goals (try (rename_i heq; cases heq))
  all_goals (simp only [Bool.and_eq_true, decide_eq_true_eq] at h)
  all_goals (obtain ⟨⟨⟨⟨⟨⟨⟨rfl, h1⟩, rfl⟩, h2⟩, h3⟩, h4⟩, h5⟩, h6⟩ := h; exact ⟨_, _, _, _, _, _, rfl, h1, h2, h3, h4, h5, h6⟩)
theorem rev_shape {a : Ex} {e : Expr} (h : chkL T c (.rev a) e = true) : ∃ a' k p1 p2 p3 pos, e = .Subscript a' (.Slice none none (some (.UnaryOp .USub (.Constant (.int 1) k p1) p2)) p3) pos ∧ chkE T c a a' = true := by
  unfold chkL at h
  split at h
  all_goals first | (exfalso; exact Bool.false_ne_true h) | skip
  all_goals (try (rename_i heq; cases heq))
  all_goals exact ⟨_, _, _, _, _, _, rfl, h⟩
theorem isi_shape {a : Ex} {T' : String} {e : Expr} (h : chkE T c (.isi a T') e = true) : ∃ a' p py pos, e = .Call (.Name "isinstance" p) [a', .Name (Str.ofString T') py] [] pos ∧ glB c "isinstance" = true ∧ isiNames.contains T' = true ∧ glB c (Str.ofString T') = true ∧ notStar a' = true ∧ chkE T c a a' = true := by
  cases e with
  | Call fn es' kw pos =>
    cases fn with
    | Name x p =>
      match es', kw, h with
      | [a', y'], [], h =>
        cases y' with
        | Name y py =>
          simp only [chkE, Bool.and_eq_true, decide_eq_true_eq] at h
          obtain ⟨⟨⟨⟨⟨⟨rfl, h1⟩, h2⟩, rfl⟩, h3⟩, h4⟩, h5⟩ := h
          exact ⟨a', p, py, pos, rfl, h1, h2, h3, h4, h5⟩
        | _ => exact absurd h Bool.false_ne_true
      | [], _, h => exact absurd h Bool.false_ne_true
      | [_], _, h => exact absurd h Bool.false_ne_true
      | _ :: y :: _ :: _, _, h => cases y <;> exact absurd h Bool.false_ne_true
      | [_, y], _ :: _, h => cases y <;> exact absurd h Bool.false_ne_true
    | _ => exact absurd h Bool.false_ne_true
  | _ => exact absurd h Bool.false_ne_true
theorem nots {a : Bool} (h : (!a) = true) : a = false := by
  cases a
  · rfl
  · cases h
mutual
theorem chkE_ok : ∀ (x : Ex) (c : Ck) (X : Cx) (e : Expr), Fa T W k c X → chkE T c x e = true → PE X e (tE X.K (wE W x))
  | .lit d, c, X, e, f, h => by
    cases e with
    | Constant kk j pos =>
      have h' : litB d kk = true := h
      cases d <;> cases kk <;> first | (simp [litB] at h'; done) | skip
      · exact s_const pe_non fun F => .mkNon
      · rename_i x y
        have e1 : x = y := by simpa [litB] using h'
        subst e1
        exact s_const pe_bl fun F => .mkBl _
      · rename_i x y
        have e1 : x = y := by simpa [litB] using h'
        subst e1
        exact s_const pe_int fun F => .mkInt _
      · rename_i x y
        have e1 : x = y := by simpa [litB] using h'
        subst e1
        exact s_const pe_str fun F => .mkStr _
    | _ => exact absurd h Bool.false_ne_true
  | .glo x d, c, X, e, f, h => by
    cases e with
    | Name y pos =>
      simp only [chkE, Bool.and_eq_true, List.any_eq_true, decide_eq_true_eq] at h
      obtain ⟨⟨⟨rfl, h1⟩, h2⟩, ⟨q, d'⟩, hp, h3, h4⟩ := h
      obtain ⟨u, v, e1, r, hd⟩ := f.cs _ hp
      have e3 : q = x := h3
      subst e3
      have e4 := sameD_ok h4
      subst e4
      exact s_const (pe_glob (f.gl h1) e1 r (dbg_of h2).1) hd
    | _ => exact absurd h Bool.false_ne_true
  | .var i, c, X, e, f, h => by
    cases e with
    | Name y pos =>
      simp only [chkE, Bool.and_eq_true] at h
      exact s_var (pe_var (f.at h.1.1) (f.vis h.1.2) (dbg_of h.2).1 (dbg_of h.2).2)
    | _ => exact absurd h Bool.false_ne_true
  | .bin op a b, c, X, e, f, h => by
    cases e with
    | BinOp a' op' b' pos =>
      simp only [chkE, Bool.and_eq_true, decide_eq_true_eq] at h
      obtain ⟨⟨rfl, h1⟩, h2⟩ := h
      exact s_bin (chkE_ok a c X a' f h1) (chkE_ok b c X b' f h2)
    | _ => exact absurd h Bool.false_ne_true
  | .kdg x es as, c, X, e, f, h => by
    cases e with
    | Call fn es' kw pos =>
      cases fn with
      | Attribute o' m apos =>
        cases o' with
        | Name y p1 =>
          cases kw with
          | cons _ _ => exact absurd h Bool.false_ne_true
          | nil =>
            simp only [chkE, Bool.and_eq_true, List.any_eq_true, decide_eq_true_eq, Bool.not_eq_true', List.isEmpty_eq_false_iff] at h
            obtain ⟨⟨⟨⟨⟨⟨⟨⟨rfl, rfl⟩, h1⟩, h2⟩, h3⟩, h4⟩, hne⟩, ⟨q, es2⟩, hp, h5, h6⟩, h7⟩ := h
            obtain ⟨p, e1, he⟩ := f.ks _ hp
            have e3 : q = x := h5
            subst e3
            have e4 := sameKs_ok h6
            subst e4
            have hx := chkX_ok as c X es' f h7
            have hxc := h7
            cases es' with
            | nil => exact absurd rfl hne
            | cons a' r =>
              cases as with
              | nil => exact absurd h7 Bool.false_ne_true
              | cons a1 r1 =>
                simp only [chkX, Bool.and_eq_true] at h7
                exact s_kdg (pe_glob (f.gl h1) e1 rfl (dbg_of h2).1) he hx (base_of rfl) (few_of hxc (by omega) pos X.env) h3 (star_of h7.1.1) (chkX_stars h7.2 pos X.env)
        | _ => exact absurd h Bool.false_ne_true
      | _ => exact absurd h Bool.false_ne_true
    | _ => exact absurd h Bool.false_ne_true
  | .ddg es as, c, X, e, f, h => by
    cases e with
    | Call fn es' kw pos =>
      cases fn with
      | Attribute o' m apos =>
        cases o' with
        | Dict ks vs p1 =>
          cases kw with
          | cons _ _ => exact absurd h Bool.false_ne_true
          | nil =>
            simp only [chkE, Bool.and_eq_true, decide_eq_true_eq, Bool.not_eq_true', List.isEmpty_eq_false_iff] at h
            obtain ⟨⟨⟨⟨⟨⟨⟨⟨rfl, h3⟩, h4⟩, hne⟩, h5⟩, h6⟩, h8⟩, h9⟩, h7⟩ := h
            have hx := chkX_ok as c X es' f h7
            have hxc := h7
            cases es' with
            | nil => exact absurd rfl hne
            | cons a' r =>
              cases as with
              | nil => exact absurd h7 Bool.false_ne_true
              | cons a1 r1 =>
                simp only [chkX, Bool.and_eq_true] at h7
                exact s_ddg f.hu h5 h6 h8 h9 hx (base_of rfl) (few_of hxc (by omega) pos X.env) h3 (star_of h7.1.1) (chkX_stars h7.2 pos X.env)
        | _ => exact absurd h Bool.false_ne_true
      | _ => exact absurd h Bool.false_ne_true
    | _ => exact absurd h Bool.false_ne_true
  | .kdx x es a, c, X, e, f, h => by
    cases e with
    | Subscript a' b' pos =>
      cases a' with
      | Name y p1 =>
        simp only [chkE, Bool.and_eq_true, List.any_eq_true, decide_eq_true_eq] at h
        obtain ⟨⟨⟨⟨⟨rfl, h1⟩, h2⟩, h5⟩, ⟨q, es'⟩, hp, h3, h4⟩, h6⟩ := h
        obtain ⟨p, e1, he⟩ := f.ks _ hp
        have e3 : q = x := h3
        subst e3
        have e4 := sameKs_ok h4
        subst e4
        exact s_kdx (plain_ix h5) (pe_glob (f.gl h1) e1 rfl (dbg_of h2).1) he (chkE_ok a c X b' f h6)
      | _ => exact absurd h Bool.false_ne_true
    | _ => exact absurd h Bool.false_ne_true
  | .neg a, c, X, e, f, h => by
    cases e with
    | UnaryOp op' a' pos =>
      cases op' <;> first | (exact absurd h Bool.false_ne_true; done) | skip
      have h : chkE T c a a' = true := by simpa only [chkE] using h
      exact s_neg (chkE_ok a c X a' f h)
    | _ => exact absurd h Bool.false_ne_true
  | .cmp op a b, c, X, e, f, h => by
    cases e with
    | Compare a' ops bs pos =>
      match ops, bs, h with
      | [op'], [b'], h =>
        simp only [chkE, Bool.and_eq_true, decide_eq_true_eq] at h
        obtain ⟨⟨⟨rfl, h1⟩, h2⟩, h3⟩ := h
        exact s_cmp f.hu (nots h1) (chkE_ok a c X a' f h2) (chkE_ok b c X b' f h3)
      | [], _, h => exact absurd h Bool.false_ne_true
      | _ :: _ :: _, _, h => exact absurd h Bool.false_ne_true
      | [_], [], h => exact absurd h Bool.false_ne_true
      | [_], _ :: _ :: _, h => exact absurd h Bool.false_ne_true
    | _ => exact absurd h Bool.false_ne_true
  | .chn o1 o2 a b d, c, X, e, f, h => by
    cases e with
    | Compare a' ops bs pos =>
      match ops, bs, h with
      | [p1, p2], [b', e'], h =>
        simp only [chkE, Bool.and_eq_true, decide_eq_true_eq] at h
        obtain ⟨⟨⟨⟨⟨rfl, rfl⟩, h1⟩, h2⟩, h3⟩, h4⟩ := h
        exact s_chn f.hu (nots h1) (chkE_ok a c X a' f h2) (chkE_ok b c X b' f h3) (chkE_ok d c X e' f h4)
      | [], _, h => exact absurd h Bool.false_ne_true
      | [_], _, h => exact absurd h Bool.false_ne_true
      | _ :: _ :: _ :: _, _, h => exact absurd h Bool.false_ne_true
      | [_, _], [], h => exact absurd h Bool.false_ne_true
      | [_, _], [_], h => exact absurd h Bool.false_ne_true
      | [_, _], _ :: _ :: _ :: _, h => exact absurd h Bool.false_ne_true
    | _ => exact absurd h Bool.false_ne_true
  | .andv a b, c, X, e, f, h => by
    cases e with
    | BoolOp op es pos =>
      match op, es, h with
      | .And, a' :: b' :: [], h =>
        simp only [chkE, Bool.and_eq_true] at h
        exact s_and (chkE_ok a c X a' f h.1) (pe_one (chkE_ok b c X b' f h.2))
      | .And, a' :: b' :: g :: r, h =>
        simp only [chkE, Bool.and_eq_true] at h
        exact s_and (chkE_ok a c X a' f h.1) (chkE_ok b c X _ f h.2)
      | .And, [], h => exact absurd h Bool.false_ne_true
      | .And, [_], h => exact absurd h Bool.false_ne_true
      | .Or, _, h => exact absurd h Bool.false_ne_true
    | _ => exact absurd h Bool.false_ne_true
  | .orv a b, c, X, e, f, h => by
    cases e with
    | BoolOp op es pos =>
      match op, es, h with
      | .Or, a' :: b' :: [], h =>
        simp only [chkE, Bool.and_eq_true] at h
        exact s_or (chkE_ok a c X a' f h.1) (pe_one (chkE_ok b c X b' f h.2))
      | .Or, a' :: b' :: g :: r, h =>
        simp only [chkE, Bool.and_eq_true] at h
        exact s_or (chkE_ok a c X a' f h.1) (chkE_ok b c X _ f h.2)
      | .Or, [], h => exact absurd h Bool.false_ne_true
      | .Or, [_], h => exact absurd h Bool.false_ne_true
      | .And, _, h => exact absurd h Bool.false_ne_true
    | _ => exact absurd h Bool.false_ne_true
  | .notv a, c, X, e, f, h => by
    cases e with
    | UnaryOp op' a' pos =>
      cases op' <;> first | (exact absurd h Bool.false_ne_true; done) | skip
      have h : chkE T c a a' = true := by simpa only [chkE] using h
      exact s_not (chkE_ok a c X a' f h)
    | _ => exact absurd h Bool.false_ne_true
  | .ite t a b, c, X, e, f, h => by
    cases e with
    | IfExp t' a' b' pos =>
      simp only [chkE, Bool.and_eq_true] at h
      exact s_ite (chkT_ok t c X t' f h.1.1) (chkE_ok a c X a' f h.1.2) (chkE_ok b c X b' f h.2)
    | _ => exact absurd h Bool.false_ne_true
  | .tup es, c, X, e, f, h => by
    cases e with
    | Tuple es' k1 pos =>
      have h : chkX T c es es' = true := by simpa only [chkE] using h
      exact s_tup (chkX_ok es c X es' f h)
    | _ => exact absurd h Bool.false_ne_true
  | .frz l, c, X, e, f, h => s_frz (chkL_ok l c X e f (by simpa only [chkE] using h))
  | .new l, c, X, e, f, h => s_new (chkL_ok l c X e f (by simpa only [chkE] using h))
  | .tpr1 a, c, X, e, f, h => by
    obtain ⟨a', p, p2, pos2, pos, rfl, h1, h2, h3, h4⟩ := tpr1_shape h
    exact s_tpr1 f.calm (f.gl h1) (f.bi _ (by decide +kernel)) (f.gl h2) (f.bi _ (by decide +kernel)) (chkE_ok a c X a' f h4) (star_of h3)
  | .tpr2 a b, c, X, e, f, h => by
    obtain ⟨a', b', p, p2, pos2, pos, rfl, h1, h2, h3, h4, h5, h6⟩ := tpr2_shape h
    exact s_tpr2 f.calm (f.gl h1) (f.bi _ (by decide +kernel)) (f.gl h2) (f.bi _ (by decide +kernel)) (chkE_ok a c X a' f h5) (chkE_ok b c X b' f h6) (by rw [star_of h3, star_of h4]; rfl) (star_of h4)
  | .idx a b, c, X, e, f, h => by
    cases e with
    | Subscript a' b' pos =>
      simp only [chkE, Bool.and_eq_true] at h
      exact s_idx (plain_ix h.1.1) (chkE_ok a c X a' f h.1.2) (chkE_ok b c X b' f h.2)
    | _ => exact absurd h Bool.false_ne_true
  | .slc a lo hi, c, X, e, f, h => by
    cases e with
    | Subscript a' b' pos =>
      cases b' with
      | Slice lo' hi' st p2 =>
        cases st with
        | none =>
          simp only [chkE, Bool.and_eq_true] at h
          exact s_slc (chkE_ok a c X a' f h.1.1) (chkP_ok lo c X lo' f h.1.2) (chkP_ok hi c X hi' f h.2)
        | some _ => exact absurd h Bool.false_ne_true
      | _ => exact absurd h Bool.false_ne_true
    | _ => exact absurd h Bool.false_ne_true
  | .call g es, c, X, e, f, h => by
    cases e with
    | Call fn es' kw pos =>
      cases fn with
      | Name x p =>
        cases kw with
        | nil =>
          simp only [chkE, Bool.and_eq_true] at h
          obtain ⟨⟨⟨h1, h2⟩, h3⟩, h4⟩ := h
          cases q : T.fns[g]? with
          | none =>
            rw [q] at h1
            cases h1
          | some yn =>
            obtain ⟨y, n⟩ := yn
            rw [q] at h1
            simp only [Bool.and_eq_true, decide_eq_true_eq] at h1
            obtain ⟨rfl, h5⟩ := h1
            obtain ⟨fa, fd, ps, e1, e2, e3, e4⟩ := f.fn g _ n q
            have ar := f.ar g _ n q
            have hx := chkX_ok es c X es' f h4
            have st := chkX_stars h4 pos X.env
            cases es' with
            | nil =>
              have n0 : n = 0 := by simpa using h5
              subst n0
              cases es with
              | nil => exact s_call0 e4 f.room f.gd (f.gl h2) e1 e2 e3 (dbg_of h3).1
              | cons _ _ => exact absurd h4 Bool.false_ne_true
            | cons a' r =>
              cases es with
              | nil => exact absurd h4 Bool.false_ne_true
              | cons a1 r1 =>
                simp only [chkX, Bool.and_eq_true] at h4
                have s1 := star_of (es := r) (env := X.env) h4.1.1
                exact s_call e4 f.room f.gd (f.gl h2) e1 e2 e3 hx (dbg_of h3).1 s1 (chkX_stars h4.2 pos X.env) ar
        | cons _ _ => exact absurd h Bool.false_ne_true
      | _ => exact absurd h Bool.false_ne_true
    | _ => exact absurd h Bool.false_ne_true
  | .fn g es, c, X, e, f, h => by
    cases e with
    | Call fn es' kw pos =>
      cases fn with
      | Name x p =>
        cases kw with
        | nil =>
          simp only [chkE, Bool.and_eq_true, decide_eq_true_eq] at h
          obtain ⟨⟨⟨rfl, h2⟩, h3⟩, h4⟩ := h
          have hx := chkX_ok es c X es' f h4
          cases es' with
          | nil => simp at h3
          | cons a' r =>
            cases es with
            | nil => exact absurd h4 Bool.false_ne_true
            | cons a1 r1 =>
              simp only [chkX, Bool.and_eq_true] at h4
              exact s_fn g f.calm f.gd f.hu (f.gl h2) (f.bi _ (bf_in g)) hx (star_of h4.1.1) (chkX_stars h4.2 pos X.env)
        | cons _ _ => exact absurd h Bool.false_ne_true
      | _ => exact absurd h Bool.false_ne_true
    | _ => exact absurd h Bool.false_ne_true
  | .isi a T', c, X, e, f, h => by
    obtain ⟨a', p, py, pos, rfl, h1, h2, h3, h4, h5⟩ := isi_shape h
    obtain ⟨b1, b2, b3, b4⟩ := isi_val h2
    have hm : X.mg "isinstance" = none := f.bi _ (by decide +kernel)
    have hb : PE X (.Name (Str.ofString T') py) (tC (.ty T')) := pe_bltn (f.gl h3) (f.bi _ b4) b1 rfl b2 b3
    have hs : starEach [.Name (Str.ofString T') py] X.env = [(false, eval (.Name (Str.ofString T') py) X.env)] := rfl
    exact s_isi f.hu (f.gl h1) hm (chkE_ok a c X a' f h5) hb (by rw [star_of h4, hs]) hs
  | .app o a, c, X, e, f, h => by
    cases e with
    | Call fn es' kw pos =>
      cases fn with
      | Attribute o' m apos =>
        match es', kw, h with
        | [a'], [], h =>
          simp only [chkE, Bool.and_eq_true, decide_eq_true_eq] at h
          obtain ⟨⟨⟨⟨⟨rfl, h1⟩, h2⟩, h3⟩, h4⟩, h5⟩ := h
          exact s_app (chkE_ok o c X o' f h4) (chkE_ok a c X a' f h5) (base_of h1) h2 h3
        | [], _, h => exact absurd h Bool.false_ne_true
        | _ :: _ :: _, _, h => exact absurd h Bool.false_ne_true
        | [_], _ :: _, h => exact absurd h Bool.false_ne_true
      | _ => exact absurd h Bool.false_ne_true
    | _ => exact absurd h Bool.false_ne_true
  | .mtd m o es, c, X, e, f, h => by
    cases e with
    | Call fn es' kw pos =>
      cases fn with
      | Attribute o' x apos =>
        cases kw with
        | cons _ _ => exact absurd h Bool.false_ne_true
        | nil =>
          simp only [chkE, Bool.and_eq_true, decide_eq_true_eq] at h
          obtain ⟨⟨⟨⟨⟨rfl, h1⟩, h2⟩, h4⟩, h5⟩, h6⟩ := h
          have hx := chkX_ok es c X es' f h6
          have hxc := h6
          cases es' with
          | nil =>
            cases es with
            | nil => exact pe_imp (s_mtd0 m (chkE_ok o c X o' f h5) (base_of h1) h2) fun _ _ _ h => h
            | cons _ _ => exact absurd h6 Bool.false_ne_true
          | cons a' r =>
            cases es with
            | nil => exact absurd h6 Bool.false_ne_true
            | cons a1 r1 =>
              simp only [chkX, Bool.and_eq_true] at h6
              exact s_mtd m (chkE_ok o c X o' f h5) hx (base_of h1) h2 (star_of h6.1.1) (chkX_stars h6.2 pos X.env) (few_of hxc (by omega) pos X.env)
      | _ => exact absurd h Bool.false_ne_true
    | _ => exact absurd h Bool.false_ne_true
theorem chkL_ok : ∀ (x : Ls) (c : Ck) (X : Cx) (e : Expr), Fa T W k c X → chkL T c x e = true → PE X e (tLs X.K (wL W x))
  | .dsp es, c, X, e, f, h => by
    cases e with
    | List es' pos =>
      have h : chkX T c es es' = true := by simpa only [chkL] using h
      exact l_dsp (chkX_ok es c X es' f h)
    | _ => exact absurd h Bool.false_ne_true
  | .lc own tg it cond a, c, X, e, f, h => by
    obtain ⟨a', tg', it', ifs, s, pos, rfl, h1, h2, h3, h4, h5, h6, h7⟩ := lc_shape h
    have ok : BlkOk X.N X.env.scope s own := by
      rw [f.N, f.sc]
      exact blkOk_by h1
    have h2' := List.all_eq_true.mp h2
    have hc : ∀ (s0 : Shared) (H : Hp) (C : Addr) (cl : List (Str × Addr)) (fp : List Addr), PTs (X.blk s0 H s (compEnvC s cl C X.env) fp) ifs (tTs X.K (wT W cond)) := fun s0 H C cl fp => by
      rcases h7 with ⟨rfl, e2⟩ | ⟨i, rfl, hi⟩
      · rw [e2]
        exact t_yes
      · exact ⟨(pts_one (chkT_ok cond (c.blk s) _ i (f.blk s s0 H C cl fp) hi)).run⟩
    exact l_lc (wt := wT W cond) f.calm f.nod (chkI_ok it c X tg' it' f h4) ok (fun i hi => by simpa using h2' i hi) (fun s0 H C cl fp => chkG_ok tg (c.blk s) _ tg' (f.blk s s0 H C cl fp) h5) hc (fun s0 H C cl fp => chkE_ok a (c.blk s) _ a' (f.blk s s0 H C cl fp) h6) (fold_of h3)
  | .lc2 own vs tg it cond tg1 it1 cond1 a, c, X, e, f, h => by
    obtain ⟨a', tg', it', ifs, tg1', it1', ifs1, s, pos, rfl, h1, h2, h3, h4, h5, h6, h7, h8, h9, h10, h11, h12, h13⟩ := lc2_shape h
    have ok : BlkOk X.N X.env.scope s own := by
      rw [f.N, f.sc]
      exact blkOk_by h1
    have hc : ∀ (s0 : Shared) (H : Hp) (C : Addr) (cl : List (Str × Addr)) (fp : List Addr), PTs (X.blk s0 H s (compEnvC s cl C X.env) fp) ifs (tTs X.K (wT W cond)) := fun s0 H C cl fp => by
      rcases h12 with ⟨rfl, e2⟩ | ⟨i, rfl, hi⟩
      · rw [e2]
        exact t_yes
      · exact ⟨(pts_one (chkT_ok cond (c.blk s) _ i (f.blk s s0 H C cl fp) hi)).run⟩
    have hc1 : ∀ (s0 : Shared) (H : Hp) (C : Addr) (cl : List (Str × Addr)) (fp : List Addr), PTs (X.blk s0 H s (compEnvC s cl C X.env) fp) ifs1 (tTs X.K (wT W cond1)) := fun s0 H C cl fp => by
      rcases h13 with ⟨rfl, e2⟩ | ⟨i, rfl, hi⟩
      · rw [e2]
        exact t_yes
      · exact ⟨(pts_one (chkT_ok cond1 (c.blk s) _ i (f.blk s s0 H C cl fp) hi)).run⟩
    exact l_lc2 (wt := wT W cond) (wt1 := wT W cond1) f.calm f.nod (chkI_ok it c X tg' it' f h7) ok (fun i hi => by simpa using List.all_eq_true.mp h2 i hi) (fun i hi => by simpa using List.all_eq_true.mp h3 i hi) (fun i hi => by simpa using List.all_eq_true.mp h4 i hi)
      (fun s0 H C cl fp => chkG_ok tg (c.blk s) _ tg' (f.blk s s0 H C cl fp) h8) hc (fun s0 H C cl fp => chkI_ok it1 (c.blk s) _ tg1' it1' (f.blk s s0 H C cl fp) h9) (fun s0 H C cl fp => chkG_ok tg1 (c.blk s) _ tg1' (f.blk s s0 H C cl fp) h10) hc1
      (fun s0 H C cl fp => chkE_ok a (c.blk s) _ a' (f.blk s s0 H C cl fp) h11) (fold_of h5) (fun env => fold_of h6)
  | .lst a, c, X, e, f, h => by
    cases e with
    | Call fn es' kw pos =>
      cases fn with
      | Name x p =>
        match es', kw, h with
        | [a'], [], h =>
          simp only [chkL, Bool.and_eq_true, decide_eq_true_eq] at h
          obtain ⟨⟨⟨rfl, h1⟩, h2⟩, h3⟩ := h
          exact l_lst f.calm (f.gl h1) (f.bi _ (by decide +kernel)) (chkE_ok a c X a' f h3) (star_of h2)
        | [], _, h => exact absurd h Bool.false_ne_true
        | _ :: _ :: _, _, h => exact absurd h Bool.false_ne_true
        | [_], _ :: _, h => exact absurd h Bool.false_ne_true
      | _ => exact absurd h Bool.false_ne_true
    | _ => exact absurd h Bool.false_ne_true
  | .cat a b, c, X, e, f, h => by
    cases e with
    | BinOp a' op' b' pos =>
      cases op' <;> first | (exact absurd h Bool.false_ne_true; done) | skip
      simp only [chkL, Bool.and_eq_true] at h
      exact l_cat (chkE_ok a c X a' f h.1) (chkE_ok b c X b' f h.2)
    | _ => exact absurd h Bool.false_ne_true
  | .slc a lo hi, c, X, e, f, h => by
    cases e with
    | Subscript a' b' pos =>
      cases b' with
      | Slice lo' hi' st p2 =>
        cases st with
        | none =>
          simp only [chkL, Bool.and_eq_true] at h
          exact l_slc (chkE_ok a c X a' f h.1.1) (chkP_ok lo c X lo' f h.1.2) (chkP_ok hi c X hi' f h.2)
        | some _ => exact absurd h Bool.false_ne_true
      | _ => exact absurd h Bool.false_ne_true
    | _ => exact absurd h Bool.false_ne_true
  | .rep a b, c, X, e, f, h => by
    cases e with
    | BinOp a' op' b' pos =>
      cases op' <;> first | (exact absurd h Bool.false_ne_true; done) | skip
      simp only [chkL, Bool.and_eq_true] at h
      exact l_rep (chkE_ok a c X a' f h.1) (chkE_ok b c X b' f h.2)
    | _ => exact absurd h Bool.false_ne_true
  | .rev a, c, X, e, f, h => by
    obtain ⟨a', k, p1, p2, p3, pos, rfl, h1⟩ := rev_shape h
    exact l_rev (chkE_ok a c X a' f h1)
theorem chkX_ok : ∀ (x : Xs) (c : Ck) (X : Cx) (es : List Expr), Fa T W k c X → chkX T c x es = true → PA X es (tXs X.K (wXs W x))
  | .nil, c, X, es, f, h => by
    cases es with
    | nil => exact x_nil
    | cons _ _ => exact absurd h Bool.false_ne_true
  | .cons a r, c, X, es, f, h => by
    cases es with
    | nil => exact absurd h Bool.false_ne_true
    | cons a' r' =>
      simp only [chkX, Bool.and_eq_true] at h
      exact x_cons (chkE_ok a c X a' f h.1.2) (chkX_ok r c X r' f h.2) (star_of h.1.1)
theorem chkP_ok : ∀ (x : Po) (c : Ck) (X : Cx) (e : Option Expr), Fa T W k c X → chkP T c x e = true → PO X e (tPo X.K (wPo W x))
  | .no, c, X, e, f, h => by
    cases e with
    | none => exact p_no
    | some _ => exact absurd h Bool.false_ne_true
  | .yes a, c, X, e, f, h => by
    cases e with
    | none => exact absurd h Bool.false_ne_true
    | some a' =>
      have h : chkE T c a a' = true := by simpa only [chkP] using h
      exact p_yes (chkE_ok a c X a' f h)
theorem chkT_ok : ∀ (x : Ts) (c : Ck) (X : Cx) (e : Expr), Fa T W k c X → chkT T c x e = true → PT X e (tTs X.K (wT W x))
  | .yes, c, X, e, f, h => by exact absurd h Bool.false_ne_true
  | .val a, c, X, e, f, h => by
    have h : tvB e = true ∧ chkE T c a e = true := by simpa only [chkT, Bool.and_eq_true] using h
    exact t_val (chkE_ok a c X e f h.2) (tv_of h.1)
  | .cmp op a b, c, X, e, f, h => by
    cases e with
    | Compare a' ops bs pos =>
      match ops, bs, h with
      | [op'], [b'], h =>
        simp only [chkT, Bool.and_eq_true, decide_eq_true_eq] at h
        obtain ⟨⟨⟨rfl, h1⟩, h2⟩, h3⟩ := h
        exact t_cmp f.hu (nots h1) (chkE_ok a c X a' f h2) (chkE_ok b c X b' f h3)
      | [], _, h => exact absurd h Bool.false_ne_true
      | _ :: _ :: _, _, h => exact absurd h Bool.false_ne_true
      | [_], [], h => exact absurd h Bool.false_ne_true
      | [_], _ :: _ :: _, h => exact absurd h Bool.false_ne_true
    | _ => exact absurd h Bool.false_ne_true
  | .chn o1 o2 a b d, c, X, e, f, h => by
    cases e with
    | Compare a' ops bs pos =>
      match ops, bs, h with
      | [p1, p2], [b', e'], h =>
        simp only [chkT, Bool.and_eq_true, decide_eq_true_eq] at h
        obtain ⟨⟨⟨⟨⟨rfl, rfl⟩, h1⟩, h2⟩, h3⟩, h4⟩ := h
        exact t_chn f.hu (nots h1) (chkE_ok a c X a' f h2) (chkE_ok b c X b' f h3) (chkE_ok d c X e' f h4)
      | [], _, h => exact absurd h Bool.false_ne_true
      | [_], _, h => exact absurd h Bool.false_ne_true
      | _ :: _ :: _ :: _, _, h => exact absurd h Bool.false_ne_true
      | [_, _], [], h => exact absurd h Bool.false_ne_true
      | [_, _], [_], h => exact absurd h Bool.false_ne_true
      | [_, _], _ :: _ :: _ :: _, h => exact absurd h Bool.false_ne_true
    | _ => exact absurd h Bool.false_ne_true
  | .not t, c, X, e, f, h => by
    cases e with
    | UnaryOp op' a' pos =>
      cases op' <;> first | (exact absurd h Bool.false_ne_true; done) | skip
      have h : chkT T c t a' = true := by simpa only [chkT] using h
      exact t_not (chkT_ok t c X a' f h)
    | _ => exact absurd h Bool.false_ne_true
  | .and a b, c, X, e, f, h => by
    cases e with
    | BoolOp op es pos =>
      match op, es, h with
      | .And, a' :: b' :: [], h =>
        simp only [chkT, Bool.and_eq_true] at h
        exact (t_and (chkT_ok a c X a' f h.1) (pw_and1 (chkT_ok b c X b' f h.2))).pt
      | .And, a' :: b' :: g :: r, h =>
        simp only [chkT, Bool.and_eq_true] at h
        exact (t_and (chkT_ok a c X a' f h.1) (pw_of (chkT_ok b c X _ f h.2))).pt
      | .And, [], h => exact absurd h Bool.false_ne_true
      | .And, [_], h => exact absurd h Bool.false_ne_true
      | .Or, _, h => exact absurd h Bool.false_ne_true
    | _ => exact absurd h Bool.false_ne_true
  | .or a b, c, X, e, f, h => by
    cases e with
    | BoolOp op es pos =>
      match op, es, h with
      | .Or, a' :: b' :: [], h =>
        simp only [chkT, Bool.and_eq_true] at h
        exact (t_or (chkT_ok a c X a' f h.1) (pw_or1 (chkT_ok b c X b' f h.2))).pt
      | .Or, a' :: b' :: g :: r, h =>
        simp only [chkT, Bool.and_eq_true] at h
        exact (t_or (chkT_ok a c X a' f h.1) (pw_of (chkT_ok b c X _ f h.2))).pt
      | .Or, [], h => exact absurd h Bool.false_ne_true
      | .Or, [_], h => exact absurd h Bool.false_ne_true
      | .And, _, h => exact absurd h Bool.false_ne_true
    | _ => exact absurd h Bool.false_ne_true
theorem chkI_ok : ∀ (x : Wk) (c : Ck) (X : Cx) (tg e : Expr), Fa T W k c X → chkI T c x e = true → PI X tg e (tIt X.K (wI W x))
  | .tup a, c, X, tg, e, f, h => i_tup (chkE_ok a c X e f (by simpa only [chkI] using h))
  | .lst a, c, X, tg, e, f, h => i_lst (chkE_ok a c X e f (by simpa only [chkI] using h))
  | .str a, c, X, tg, e, f, h => i_str (chkE_ok a c X e f (by simpa only [chkI] using h))
  | .rng1 a, c, X, tg, e, f, h => by
    cases e with
    | Call fn es' kw pos =>
      cases fn with
      | Name x p =>
        match es', kw, h with
        | [a'], [], h =>
          simp only [chkI, Bool.and_eq_true, decide_eq_true_eq] at h
          obtain ⟨⟨⟨rfl, h1⟩, h2⟩, h3⟩ := h
          exact i_rng1 (f.gl h1) (f.bi _ (by decide +kernel)) (chkE_ok a c X a' f h3) (star_of h2)
        | [], _, h => exact absurd h Bool.false_ne_true
        | _ :: _ :: _, _, h => exact absurd h Bool.false_ne_true
        | [_], _ :: _, h => exact absurd h Bool.false_ne_true
      | _ => exact absurd h Bool.false_ne_true
    | _ => exact absurd h Bool.false_ne_true
  | .rng2 a b, c, X, tg, e, f, h => by
    cases e with
    | Call fn es' kw pos =>
      cases fn with
      | Name x p =>
        match es', kw, h with
        | [a', b'], [], h =>
          simp only [chkI, Bool.and_eq_true, decide_eq_true_eq] at h
          obtain ⟨⟨⟨⟨⟨rfl, h1⟩, h2⟩, h3⟩, h4⟩, h5⟩ := h
          exact i_rng2 (f.gl h1) (f.bi _ (by decide +kernel)) (chkE_ok a c X a' f h4) (chkE_ok b c X b' f h5) (by rw [star_of h2, star_of h3]; rfl) (star_of h3)
        | [], _, h => exact absurd h Bool.false_ne_true
        | [_], _, h => exact absurd h Bool.false_ne_true
        | _ :: _ :: _ :: _, _, h => exact absurd h Bool.false_ne_true
        | [_, _], _ :: _, h => exact absurd h Bool.false_ne_true
      | _ => exact absurd h Bool.false_ne_true
    | _ => exact absurd h Bool.false_ne_true
theorem chkG_ok : ∀ (x : Tg) (c : Ck) (X : Cx) (e : Expr), Fa T W k c X → chkG T c x e = true → PG X e (tTg X.K x.slots (wG W x))
  | .nam i, c, X, e, f, h => by
    cases e with
    | Name x pos =>
      simp only [chkG, Bool.and_eq_true] at h
      exact g_nam f.nod (f.at h.1) (f.loc h.2)
    | _ => exact absurd h Bool.false_ne_true
  | .tup ts, c, X, e, f, h => by
    cases e with
    | Tuple es k1 pos =>
      have h : chkGs T c ts es = true := by simpa only [chkG] using h
      obtain ⟨h1, h2⟩ := chkGs_len h X.env
      exact g_tup f.calm (chkGs_ok ts c X es f h) h1 h2
    | _ => exact absurd h Bool.false_ne_true
  | .sub o i, c, X, e, f, h => by
    cases e with
    | Subscript o' i' pos =>
      simp only [chkG, Bool.and_eq_true] at h
      exact g_sub (chkE_ok o c X o' f h.1.2) (chkE_ok i c X i' f h.2) (sub_assign h.1.1)
    | _ => exact absurd h Bool.false_ne_true
theorem chkGs_ok : ∀ (x : Gs) (c : Ck) (X : Cx) (es : List Expr), Fa T W k c X → chkGs T c x es = true → PGs X es (tTgs X.K x.slots (wGs W x))
  | .nil, c, X, es, f, h => by
    cases es with
    | nil => exact g_nil
    | cons _ _ => exact absurd h Bool.false_ne_true
  | .cons t ts, c, X, es, f, h => by
    cases es with
    | nil => exact absurd h Bool.false_ne_true
    | cons e es =>
      simp only [chkGs, Bool.and_eq_true] at h
      exact g_cons (chkG_ok t c X e f h.1.2) (chkGs_ok ts c X es f h.2) (by rw [assign_of h.1.1]; rfl)
end
end
end PL
set_option maxHeartbeats 8000000
/-! PL: statements checked. -/
namespace PL
open PySem L2

/-! ### stores of tuples: swapped or not -/
def swNames (env : Env) (ts : List Expr) : List Str :=
  let line := (ts.head?.map (·.pos.line)).getD 0
  ts.filterMap fun
    | .Name id pos => if env.kindOf id == some .local && pos.line == line then some id else none
    | _ => none
def swNamesC (c : Ck) (ts : List Expr) : List Str :=
  let line := (ts.head?.map (·.pos.line)).getD 0
  ts.filterMap fun
    | .Name id pos => if c.sc.names.lookup id == some .local && pos.line == line then some id else none
    | _ => none
def starB (vs : List Expr) : Bool := vs.any fun | .Starred .. => true | _ => false
/-- the pair is made and unpacked -/
def noSw (c : Ck) (tg v : Expr) : Bool := match tg, v with
  | .Tuple ts _ _, .Tuple vs _ _ => !(ts.length == 2 || ts.length == 3) || vs.length != ts.length || starB vs || ((swNamesC c ts).length != ts.length || (swNamesC c ts).eraseDups.length != (swNamesC c ts).length) || vs.all (foldedForSure 8)
  | .List .., .Tuple .. => false
  | _, _ => true
def doSw (c : Ck) (ts vs : List Expr) (ns : List Str) : Bool := (ts.length == 2 || ts.length == 3) && vs.length == ts.length && !starB vs && decide (swNamesC c ts = ns) && ns.length == ts.length && ns.eraseDups.length == ns.length && !vs.all (foldedForSure 8) && !vs.all (constantsAlone 8)
theorem swN_eq {c : Ck} {env : Env} (h : env.scope = c.sc) (ts : List Expr) : swNames env ts = swNamesC c ts := by
  unfold swNames swNamesC
  simp only [Env.kindOf, h]
theorem sw_form {ts vs : List Expr} {k k2 : Nat} {p p2 : Pos} {env : Env} (hk : env.blockKind = .function) : swappedStores [.Tuple ts k p] (.Tuple vs k2 p2) env =
    (if (!(ts.length == 2 || ts.length == 3) || vs.length != ts.length || ScopeKind.function != ScopeKind.function) = true then pure none
     else if starB vs = true then pure none
     else if ((swNames env ts).length != ts.length || (swNames env ts).eraseDups.length != (swNames env ts).length) = true then pure none
     else if vs.all (foldedForSure 8) = true then pure none
     else if vs.all (constantsAlone 8) = true then (do let _ ← (unsupported "assign.tuple-of-constant-expressions:order-of-the-stores" : Sem PUnit); pure (some (swNames env ts))) else pure (some (swNames env ts))) := by
  unfold swappedStores
  simp only [hk]
  rfl
theorem fn_ne : (ScopeKind.function != ScopeKind.function) = false := rfl
theorem noSw_ok {c : Ck} {env : Env} (h : env.scope = c.sc) (hk : env.blockKind = .function) {tg v : Expr} (n : noSw c tg v = true) : swappedStores [tg] v env = pure none := by
  unfold noSw at n
  split at n
  · rename_i ts _ _ vs _ _
    rw [sw_form hk]
    simp only [fn_ne, Bool.or_false, swN_eq h]
    simp only [Bool.or_eq_true] at n
    split
    · rfl
    · rename_i n1
      split
      · rfl
      · rename_i n2
        split
        · rfl
        · rename_i n3
          split
          · rfl
          · rename_i n4
            exfalso
            simp only [Bool.or_eq_true] at n1 n3
            rcases n with (((n | n) | n) | n) | n
            · exact n1 (.inl n)
            · exact n1 (.inr n)
            · exact n2 n
            · exact n3 n
            · exact n4 n
  · cases n
  · rename_i h1 h2
    cases tg <;> first | rfl | skip
    · cases v <;> first | rfl | skip
      exact absurd rfl (h2 _ _ _ _ _ rfl)
    · cases v <;> first | rfl | skip
      exact absurd rfl (h1 _ _ _ _ _ _ rfl)
theorem doSw_ok {c : Ck} {env : Env} (h : env.scope = c.sc) (hk : env.blockKind = .function) {ts vs : List Expr} {ns : List Str} {k k2 : Nat} {p p2 : Pos} (n : doSw c ts vs ns = true) : swappedStores [.Tuple ts k p] (.Tuple vs k2 p2) env = pure (some ns) := by
  unfold doSw at n
  simp only [Bool.and_eq_true, decide_eq_true_eq] at n
  obtain ⟨⟨⟨⟨⟨⟨⟨n1, n2⟩, n3⟩, n4⟩, n5⟩, n6⟩, n7⟩, n8⟩ := n
  rw [sw_form hk]
  simp only [fn_ne, Bool.or_false, swN_eq h, n4]
  rw [if_neg, if_neg, if_neg, if_neg, if_neg]
  · intro q; rw [q] at n8; cases n8
  · intro q; rw [q] at n7; cases n7
  · intro q
    rw [Bool.or_eq_true] at q
    rcases q with q | q
    · rw [bne, n5] at q; cases q
    · rw [bne, n6] at q; cases q
  · intro q; rw [q] at n3; cases n3
  · intro q
    rw [Bool.or_eq_true] at q
    rcases q with q | q
    · rw [n1] at q; cases q
    · rw [bne, n2] at q; cases q

section
variable {T : Tb} {W : CallW} {k : Nat} {c : Ck} {X : Cx} {wx : Ev → Sto → (List D → Sto → Prop) → Prop}
theorem blk_fn (hk : X.env.scope.kind = .function) : X.env.blockKind = .function := by
  unfold Env.blockKind
  rw [hk]
  rfl
theorem len_at {pins : List (Addr × Obj)} {σ : L2.St} {H : Hp} {s : Shared} {i : Nat} {x : Str} (I : L2.Inv X pins σ H s) (hi : X.N[i]? = some x) : i < σ.length := by
  rw [I.len]
  exact (List.getElem?_eq_some_iff.mp hi).1
theorem s_par2 {i j : Nat} {x y : Str} {a b : Expr} {px py pt pt2 pos : Pos} {kt k2 : Nat} (hc : X.calm = true) (hN : X.N.Nodup) (hi : X.N[i]? = some x) (hj : X.N[j]? = some y) (hij : i ≠ j) (hx : X.env.scope.names.lookup x = some .local) (hy : X.env.scope.names.lookup y = some .local)
    (ha : PA X [a, b] (tXs X.K wx)) (hw : swappedStores [.Tuple [.Name x px, .Name y py] kt pt] (.Tuple [a, b] k2 pt2) X.env = pure (some [x, y])) :
    PS X (.Assign [.Tuple [.Name x px, .Name y py] kt pt] (.Tuple [a, b] k2 pt2) pos) (tSt X.K fun σ S E => wx σ S fun ds S1 => opt (setAll [i, j] ds σ) fun σ1 => E.nx σ1 S1) := by
  refine ⟨fun pins s σ H D I ⟨F, env, S, E, R, w, k⟩ => (ps_par hc hN hi hj hij hx hy ha hw).run pins s σ H D I ⟨F, env, S, _, R, w, fun vs F1 ds S1 H1 t1 d1 w1 => ?_⟩⟩
  obtain ⟨σ1, e1, q⟩ := opt_elim w1
  match ds, e1, d1 with
  | [u, v], e1, d1 =>
    obtain ⟨v1, v2, rfl, du, dv⟩ := d1.two
    cases e1
    have l1 := len_at I hi
    have l2 := len_at I hj
    exact ⟨v1, v2, rfl, k.nx _ F1 _ S1 H1 t1 (((R.tr t1).set l1 du).set (by rw [List.length_set]; exact l2) dv) q⟩
  | [], e1, _ => cases e1
  | [_], e1, _ => cases e1
  | _ :: _ :: _ :: _, e1, _ => cases e1
theorem s_par3 {i j l : Nat} {x y z : Str} {a b e : Expr} {px py pz pt pt2 pos : Pos} {kt k2 : Nat} (hc : X.calm = true) (hN : X.N.Nodup) (hi : X.N[i]? = some x) (hj : X.N[j]? = some y) (hl : X.N[l]? = some z) (hij : i ≠ j) (hil : i ≠ l) (hjl : j ≠ l)
    (hx : X.env.scope.names.lookup x = some .local) (hy : X.env.scope.names.lookup y = some .local) (hz : X.env.scope.names.lookup z = some .local)
    (ha : PA X [a, b, e] (tXs X.K wx)) (hw : swappedStores [.Tuple [.Name x px, .Name y py, .Name z pz] kt pt] (.Tuple [a, b, e] k2 pt2) X.env = pure (some [x, y, z])) :
    PS X (.Assign [.Tuple [.Name x px, .Name y py, .Name z pz] kt pt] (.Tuple [a, b, e] k2 pt2) pos) (tSt X.K fun σ S E => wx σ S fun ds S1 => opt (setAll [i, j, l] ds σ) fun σ1 => E.nx σ1 S1) := by
  refine ⟨fun pins s σ H D I ⟨F, env, S, E, R, w, k⟩ => (ps_par3 hc hN hi hj hl hij hil hjl hx hy hz ha hw).run pins s σ H D I ⟨F, env, S, _, R, w, fun vs F1 ds S1 H1 t1 d1 w1 => ?_⟩⟩
  obtain ⟨σ1, e1, q⟩ := opt_elim w1
  match ds, e1, d1 with
  | [u, v, g], e1, d1 =>
    obtain ⟨v1, r, rfl, du, dr⟩ := d1.cons_inv
    obtain ⟨v2, v3, rfl, dv, dg⟩ := dr.two
    cases e1
    have l1 := len_at I hi
    have l2 := len_at I hj
    have l3 := len_at I hl
    exact ⟨v1, v2, v3, rfl, k.nx _ F1 _ S1 H1 t1 ((((R.tr t1).set l1 du).set (by rw [List.length_set]; exact l2) dv).set (by rw [List.length_set, List.length_set]; exact l3) dg) q⟩
  | [], e1, _ => cases e1
  | [_], e1, _ => cases e1
  | [_, _], e1, _ => cases e1
  | _ :: _ :: _ :: _ :: _, e1, _ => cases e1

/-! ### name = [.. for ..] -/
def swapB (c : Ck) (x : Str) (px : Pos) (p : Pos) (s : Scope) : Bool := (c.sc.names.lookup x == some .local && px.line == p.line) && !(s.names.any fun (n, k) => n == x && (k == .local || k == .cell))
theorem swap_form {c : Ck} {elt : Expr} {gs : List Comprehension} {s : Scope} {p px : Pos} {x : Str} {l : Nat} {env : Env} (h : env.scope = c.sc) (hk : env.blockKind = .function) : swapsWith (.ListComp elt gs s p) (some (.Name x px)) l env = pure (swapB c x px p s) := by
  unfold swapsWith swapB
  simp only [hk, Env.kindOf, h, Expr.pos]
  rfl
theorem sole_of {e : Expr} {t : Option Expr} {l : Nat} {env : Env} (h : notCmp e = true) : swapsWith e t l env = pure false := by
  cases e <;> first | rfl | (exact absurd h Bool.false_ne_true)
/-- the check of a comprehension that is stored within -/
theorem lc_parts {W : CallW} {k : Nat} {own : List (Str × Nat)} {tg : Tg} {it : Wk} {cond : Ts} {a : Ex} {e : Expr} (f : Fa T W k c X) (h : chkL T c (.lc own tg it cond a) e = true) {i : Nat} {x : Str} {px pos : Pos} (hi : X.N[i]? = some x) (hl : X.env.scope.names.lookup x = some .local) (hsw : swapsWith e (some (.Name x px)) pos.line X.env = pure true) :
    ∃ (sl : List Nat), (∀ j ∈ sl, j ∈ own.map (·.2)) ∧ PS X (.Assign [.Name x px] e pos) (tAsg (tLc (tIt X.K (wI W it)) (tTg X.K sl (wG W tg)) (tTs X.K (wT W cond)) (tE X.K (wE W a)) (own.map (·.2))) (gName i)) := by
  obtain ⟨a', tg', it', ifs, s, pos', rfl, h1, h2, h3, h4, h5, h6, h7⟩ := lc_shape h
  have ok : BlkOk X.N X.env.scope s own := by
    rw [f.N, f.sc]
    exact blkOk_by h1
  have h2' := List.all_eq_true.mp h2
  have hc : ∀ (s0 : Shared) (H : Hp) (C : Addr) (cl : List (Str × Addr)) (fp : List Addr), PTs (X.blk s0 H s (compEnvC s cl C X.env) fp) ifs (tTs X.K (wT W cond)) := fun s0 H C cl fp => by
    rcases h7 with ⟨rfl, e2⟩ | ⟨i, rfl, hi⟩
    · rw [e2]
      exact t_yes
    · exact ⟨(pts_one (chkT_ok cond (c.blk s) _ i (f.blk s s0 H C cl fp) hi)).run⟩
  exact ⟨tg.slots, fun i hi => by simpa using h2' i hi, ps_setLc f.calm f.nod hi hl hsw (chkI_ok it c X tg' it' f h4) ok (fun s0 H C cl fp => chkG_ok tg (c.blk s) _ tg' (f.blk s s0 H C cl fp) h5) hc (fun s0 H C cl fp => chkE_ok a (c.blk s) _ a' (f.blk s s0 H C cl fp) h6) (fold_of h3)⟩
theorem s_setC {own : List (Str × Nat)} {tg : Tg} {it : Wk} {cond : Ts} {a : Ex} {e : Expr} (f : Fa T W k c X) (m : Bool) (h : chkL T c (.lc own tg it cond a) e = true) {i : Nat} {x : Str} {px pos : Pos} (hi : X.N[i]? = some x) (hl : X.env.scope.names.lookup x = some .local) (hsw : swapsWith e (some (.Name x px)) pos.line X.env = pure true) :
    PS X (.Assign [.Name x px] e pos) (tSt X.K fun σ S E => wE W (if m = true then .new (.lc own tg it cond a) else .frz (.lc own tg it cond a)) σ S fun d S1 => E.nx (σ.set i (some d)) S1) := by
  obtain ⟨sl, hs, hp⟩ := lc_parts f h hi hl hsw
  refine ⟨fun pins s σ H D I ⟨F, env, S, E, R, w, k⟩ => hp.run pins s σ H D I ?_⟩
  have li := len_at I hi
  show tLc _ _ _ _ _ σ H fun x H1 => gName i x σ H1 D.nx
  refine lc_plain hs ?_
  cases m with
  | true =>
    exact ⟨F, env, S, _, R, w, fun p vs F1 ds S1 H1 t1 n f1 s1 h1 d1 z q => k.nx _ F1 _ _ H1 ⟨t1.sub, t1.rs.hold h1 f1 z d1, fun a o e m => by
      obtain ⟨e1, m1, g1⟩ := t1.kp a o e m
      exact ⟨e1, by rw [Sto.put_ne (n a o e m)]; exact m1, g1⟩⟩ ((R.next t1.sub (t1.rs.hold h1 f1 z d1)).set li (.mkRef p)) (q p s1)⟩
  | false =>
    exact ⟨F, env, S, _, R, w, fun p vs F1 ds S1 H1 t1 n f1 s1 h1 d1 z q => k.nx _ _ _ S1 H1 (t1.froz n h1 f1 s1) ((R.tr (t1.froz n h1 f1 s1)).set li (.mkLst z (.inl upd_same) (d1.mono (Sub.new f1)))) q⟩

/-! ### statements -/
def parB (c : Ck) : List Nat → List Expr → Option (List Str)
  | [], [] => some []
  | i :: is, .Name x _ :: r => if c.N[i]? = some x ∧ c.sc.names.lookup x = some .local then (parB c is r).map (x :: ·) else none
  | _, _ => none
variable (T)
mutual
def chkS (c : Ck) : Sm → Stmt → Bool
  | .expr e, .Expr e' _ => notCmp e' && chkE T c e e'
  | .asg (.nam i) e, .Assign [.Name x _] e' _ => decide (c.N[i]? = some x) && locB c x && chkE T c e e' && no2 e
  | .asg (.tup ts) e, .Assign [tg'] e' _ => noSw c tg' e' && chkG T c (.tup ts) tg' && chkE T c e e'
  | .asg (.sub o i) e, .Assign [tg'] e' _ => noSw c tg' e' && chkG T c (.sub o i) tg' && chkE T c e e'
  | .par is es, .Assign [.Tuple ts _ _] (.Tuple vs _ _) _ => decide is.Nodup && chkX T c es vs && (match parB c is ts with | some ns => doSw c ts vs ns | none => false)
  | .ite t a b, .If t' a' b' _ => chkT T c t t' && chkB c a a' && chkB c b b'
  | .for_ tg it b, .For tg' it' b' orelse _ => orelse.isEmpty && notSet it' && chkG T c tg tg' && chkI T c it it' && chkB c b b'
  | .whl t b, .While t' b' orelse _ => orelse.isEmpty && chkT T c t t' && chkB c b b'
  | .ret e, .Return (some e') _ => chkE T c e e'
  | .retn, .Return none _ => true
  | .brk, .Break _ => true
  | .cnt, .Continue _ => true
  | .pass, .Pass _ => true
  | .pass, .Expr (.Constant (.str _) _ _) _ => true
  | .never, _ => true
  | _, _ => false
def chkB (c : Ck) : Bk → List Stmt → Bool
  | .nil, [] => true
  | .cons s b, st :: r => chkS c s st && chkB c b r
  | _, _ => false
end
end
end PL
set_option maxHeartbeats 8000000
/-! PL: statements, defs, the whole table, the law's end. -/
namespace PL
open PySem L2
section
variable {T : Tb} {W : CallW} {k : Nat} {c : Ck} {X : Cx}
structure Sa (T : Tb) (W : CallW) (k : Nat) (c : Ck) (X : Cx) : Prop where
  fa : Fa T W k c X
  nox : X.xe = fun _ _ => False
  fn : X.env.scope.kind = .function
theorem Sa.own (s : Sa T W k c X) : PassesOwn (model X.prog X.w) X.A X.env X.xe := by
  rw [s.nox]
  exact PassesOwn.never
theorem parB_nil {ts : List Expr} {ns : List Str} (h : parB c [] ts = some ns) : ts = [] ∧ ns = [] := by
  cases ts with
  | nil =>
    cases h
    exact ⟨rfl, rfl⟩
  | cons e r => cases e <;> cases h
theorem parB_cons {i : Nat} {is : List Nat} {ts : List Expr} {ns : List Str} (h : parB c (i :: is) ts = some ns) : ∃ x px r ns', ts = .Name x px :: r ∧ ns = x :: ns' ∧ c.N[i]? = some x ∧ c.sc.names.lookup x = some .local ∧ parB c is r = some ns' := by
  cases ts with
  | nil => cases h
  | cons e r =>
    cases e with
    | Name x px =>
      simp only [parB] at h
      split at h
      · rename_i h1
        rw [Option.map_eq_some_iff] at h
        obtain ⟨ns', h2, rfl⟩ := h
        exact ⟨x, px, r, ns', rfl, rfl, h1.1, h1.2, h2⟩
      · cases h
    | _ => cases h
theorem chkX_len {es : Xs} : ∀ {es' : List Expr}, chkX T c es es' = true → True := fun _ => trivial
theorem s_par_ok {is : List Nat} {es : Xs} {ts vs : List Expr} {ns : List Str} {k1 k2 : Nat} {p1 p2 pos : Pos} (s : Sa T W k c X) (hd : is.Nodup) (hx : chkX T c es vs = true) (hp : parB c is ts = some ns) (hw : doSw c ts vs ns = true) :
    PS X (.Assign [.Tuple ts k1 p1] (.Tuple vs k2 p2) pos) (tSt X.K (wS W (.par is es))) := by
  have f := s.fa
  have ha := chkX_ok es c X vs f hx
  have sw := doSw_ok (k := k1) (k2 := k2) (p := p1) (p2 := p2) f.sc (blk_fn s.fn) hw
  unfold doSw at hw
  simp only [Bool.and_eq_true] at hw
  obtain ⟨⟨⟨⟨⟨⟨⟨n1, n2⟩, _⟩, _⟩, _⟩, _⟩, _⟩, _⟩ := hw
  have n2' : vs.length = ts.length := by simpa using n2
  have lk : ∀ {x : Str}, c.sc.names.lookup x = some .local → X.env.scope.names.lookup x = some .local := fun h => by
    rw [f.sc]
    exact h
  have at' : ∀ {i : Nat} {x : Str}, c.N[i]? = some x → X.N[i]? = some x := fun h => by
    rw [f.N]
    exact h
  rcases is with _ | ⟨i, is⟩
  · obtain ⟨rfl, rfl⟩ := parB_nil hp
    cases n1
  obtain ⟨x, px, r, ns1, rfl, rfl, hx1, hx2, hp⟩ := parB_cons hp
  rcases is with _ | ⟨j, is⟩
  · obtain ⟨rfl, rfl⟩ := parB_nil hp
    cases n1
  obtain ⟨y, py, r, ns2, rfl, rfl, hy1, hy2, hp⟩ := parB_cons hp
  simp only [List.nodup_cons, List.mem_cons, not_or] at hd
  rcases is with _ | ⟨l, is⟩
  · obtain ⟨rfl, rfl⟩ := parB_nil hp
    match vs, n2', ha, sw with
    | [a, b], _, ha, sw => exact s_par2 f.calm f.nod (at' hx1) (at' hy1) hd.1.1 (lk hx2) (lk hy2) ha sw
  obtain ⟨z, pz, r, ns3, rfl, rfl, hz1, hz2, hp⟩ := parB_cons hp
  simp only [List.mem_cons, not_or] at hd
  rcases is with _ | ⟨m, is⟩
  · obtain ⟨rfl, rfl⟩ := parB_nil hp
    match vs, n2', ha, sw with
    | [a, b, e], _, ha, sw => exact s_par3 f.calm f.nod (at' hx1) (at' hy1) (at' hz1) hd.1.1 hd.1.2.1 hd.2.1.1 (lk hx2) (lk hy2) (lk hz2) ha sw
  · obtain ⟨_, _, r, _, rfl, _, _, _, _⟩ := parB_cons hp
    exfalso
    simp at n1
theorem s_nam_ok {i : Nat} {e : Ex} {x : Str} {px pos : Pos} {e' : Expr} (s : Sa T W k c X) (h1 : c.N[i]? = some x) (h2 : locB c x = true) (h3 : chkE T c e e' = true) (h4 : no2 e = true) : PS X (.Assign [.Name x px] e' pos) (tSt X.K (wS W (.asg (.nam i) e))) := by
  have f := s.fa
  have hi : X.N[i]? = some x := by
    rw [f.N]
    exact h1
  have plain : swapsWith e' (some (.Name x px)) pos.line X.env = pure false → PS X (.Assign [.Name x px] e' pos) (tSt X.K (wS W (.asg (.nam i) e))) := fun hs => s_setN f.nod hi (f.loc h2) (chkE_ok e c X e' f h3) hs
  cases hn : notCmp e' with
  | true => exact plain (sole_of hn)
  | false =>
    cases e' with
    | ListComp elt gs sc pos' =>
      have sf := swap_form (elt := elt) (gs := gs) (s := sc) (p := pos') (px := px) (x := x) (l := pos.line) f.sc (blk_fn s.fn)
      cases hb : swapB c x px pos' sc with
      | false =>
        rw [hb] at sf
        exact plain sf
      | true =>
        rw [hb] at sf
        have hl : X.env.scope.names.lookup x = some .local := by
          rw [f.sc]
          unfold swapB at hb
          simp only [Bool.and_eq_true] at hb
          simpa using hb.1.1
        cases e with
        | frz l =>
          cases l with
          | lc own tg it cond a => exact s_setC f false (by simpa only [chkE] using h3) hi hl sf
          | lc2 => exact absurd h4 Bool.false_ne_true
          | _ => exact absurd h3 Bool.false_ne_true
        | new l =>
          cases l with
          | lc own tg it cond a => exact s_setC f true (by simpa only [chkE] using h3) hi hl sf
          | lc2 => exact absurd h4 Bool.false_ne_true
          | _ => exact absurd h3 Bool.false_ne_true
        | _ => exact absurd h3 Bool.false_ne_true
    | SetComp elt gs sc pos' => cases e with
      | frz l => cases l <;> exact absurd h3 Bool.false_ne_true
      | new l => cases l <;> exact absurd h3 Bool.false_ne_true
      | _ => exact absurd h3 Bool.false_ne_true
    | DictComp _ elt gs sc pos' => cases e with
      | frz l => cases l <;> exact absurd h3 Bool.false_ne_true
      | new l => cases l <;> exact absurd h3 Bool.false_ne_true
      | _ => exact absurd h3 Bool.false_ne_true
    | _ => exact absurd hn.symm Bool.false_ne_true
theorem sole1 {t e : Expr} {l : Nat} {env : Env} (h : ∀ x p, t ≠ .Name x p) : swapsWithSole [t] e l env = pure false := by
  show swapsWith e (some t) l env = pure false
  cases e <;> first | rfl | (cases t <;> first | rfl | exact absurd rfl (h _ _))
theorem s_tgt_ok {tg : Tg} {e : Ex} {t e' : Expr} {pos : Pos} (s : Sa T W k c X) (hn : ∀ i, tg ≠ .nam i) (h1 : noSw c t e' = true) (h2 : chkG T c tg t = true) (h3 : chkE T c e e' = true) : PS X (.Assign [t] e' pos) (tSt X.K (wS W (.asg tg e))) := by
  have f := s.fa
  have ht : (∀ x p, t ≠ .Name x p) ∧ notStar t = true := by
    cases tg with
    | nam i => exact absurd rfl (hn i)
    | tup ts => cases t <;> first | exact absurd h2 Bool.false_ne_true | exact ⟨fun _ _ z => (nomatch z), rfl⟩
    | sub o i => cases t <;> first | exact absurd h2 Bool.false_ne_true | exact ⟨fun _ _ z => (nomatch z), rfl⟩
  exact s_asg (chkE_ok e c X e' f h3) (chkG_ok tg c X t f h2) (sole1 ht.1) (noSw_ok f.sc (blk_fn s.fn) h1) (by rw [assign_of ht.2]; rfl)
theorem par_shape {is : List Nat} {es : Xs} {ts : List Expr} {e' : Expr} {pos : Pos} (h : chkS T c (.par is es) (.Assign ts e' pos) = true) : ∃ us k1 p1 vs k2 p2 ns, ts = [.Tuple us k1 p1] ∧ e' = .Tuple vs k2 p2 ∧ is.Nodup ∧ chkX T c es vs = true ∧ parB c is us = some ns ∧ doSw c us vs ns = true := by
  match ts, h with
  | [], h => exact absurd h Bool.false_ne_true
  | t :: u :: r, h => cases t <;> exact absurd h Bool.false_ne_true
  | [t], h =>
    cases t with
    | Tuple us k1 p1 =>
      cases e' with
      | Tuple vs k2 p2 =>
        simp only [chkS, Bool.and_eq_true, decide_eq_true_eq] at h
        cases hp : parB c is us with
        | none =>
          rw [hp] at h
          exact absurd h.2 Bool.false_ne_true
        | some ns =>
          rw [hp] at h
          exact ⟨us, k1, p1, vs, k2, p2, ns, rfl, rfl, h.1.1, h.1.2, hp, h.2⟩
      | _ => exact absurd h Bool.false_ne_true
    | _ => exact absurd h Bool.false_ne_true
mutual
theorem chkS_ok : ∀ (x : Sm) (st : Stmt), Sa T W k c X → chkS T c x st = true → PS X st (tSt X.K (wS W x))
  | .expr e, st, s, h => by
    cases st with
    | Expr e' pos =>
      simp only [chkS, Bool.and_eq_true] at h
      exact s_expr (chkE_ok e c X e' s.fa h.2) (sole_of h.1)
    | _ => exact absurd h Bool.false_ne_true
  | .asg tg e, st, s, h => by
    cases st with
    | Assign ts e' pos =>
      match ts, h with
      | [t], h =>
        cases tg with
        | nam i =>
          cases t with
          | Name x px =>
            simp only [chkS, Bool.and_eq_true, decide_eq_true_eq] at h
            exact s_nam_ok s h.1.1.1 h.1.1.2 h.1.2 h.2
          | _ => exact absurd h Bool.false_ne_true
        | tup ts =>
          simp only [chkS, Bool.and_eq_true] at h
          exact s_tgt_ok s (fun _ z => nomatch z) h.1.1 h.1.2 h.2
        | sub o i =>
          simp only [chkS, Bool.and_eq_true] at h
          exact s_tgt_ok s (fun _ z => nomatch z) h.1.1 h.1.2 h.2
      | [], h => cases tg <;> exact absurd h Bool.false_ne_true
      | t :: _ :: _, h => cases tg <;> first | exact absurd h Bool.false_ne_true | (cases t <;> exact absurd h Bool.false_ne_true)
    | _ => cases tg <;> exact absurd h Bool.false_ne_true
  | .par is es, st, s, h => by
    cases st with
    | Assign ts e' pos =>
      obtain ⟨us, k1, p1, vs, k2, p2, ns, rfl, rfl, h1, h2, h3, h4⟩ := par_shape h
      exact s_par_ok s h1 h2 h3 h4
    | _ => exact absurd h Bool.false_ne_true
  | .ite t a b, st, s, h => by
    cases st with
    | If t' a' b' pos =>
      simp only [chkS, Bool.and_eq_true] at h
      exact s_if (chkT_ok t c X t' s.fa h.1.1) (chkB_ok a a' s h.1.2) (chkB_ok b b' s h.2)
    | _ => exact absurd h Bool.false_ne_true
  | .for_ tg it b, st, s, h => by
    cases st with
    | For tg' it' b' orelse pos =>
      simp only [chkS, Bool.and_eq_true] at h
      obtain ⟨⟨⟨⟨h1, h2⟩, h3⟩, h4⟩, h5⟩ := h
      cases orelse with
      | nil => exact s_for s.own s.fa.calm (chkI_ok it c X tg' it' s.fa h4) (chkG_ok tg c X tg' s.fa h3) (chkB_ok b b' s h5) (fold_of h2)
      | cons _ _ => cases h1
    | _ => exact absurd h Bool.false_ne_true
  | .whl t b, st, s, h => by
    cases st with
    | While t' b' orelse pos =>
      simp only [chkS, Bool.and_eq_true] at h
      obtain ⟨⟨h1, h3⟩, h5⟩ := h
      cases orelse with
      | nil => exact s_whl s.own (chkT_ok t c X t' s.fa h3) (chkB_ok b b' s h5)
      | cons _ _ => cases h1
    | _ => exact absurd h Bool.false_ne_true
  | .ret e, st, s, h => by
    cases st with
    | Return v pos =>
      cases v with
      | none => exact absurd h Bool.false_ne_true
      | some e' =>
        have h : chkE T c e e' = true := by simpa only [chkS] using h
        exact s_ret (chkE_ok e c X e' s.fa h)
    | _ => exact absurd h Bool.false_ne_true
  | .retn, st, s, h => by
    cases st with
    | Return v pos =>
      cases v with
      | none => exact s_retn
      | some e' => exact absurd h Bool.false_ne_true
    | _ => exact absurd h Bool.false_ne_true
  | .brk, st, s, h => by
    cases st with
    | Break pos => exact s_brk
    | _ => exact absurd h Bool.false_ne_true
  | .cnt, st, s, h => by
    cases st with
    | Continue pos => exact s_cnt
    | _ => exact absurd h Bool.false_ne_true
  | .pass, st, s, h => by
    cases st with
    | Pass pos => exact s_pass
    | Expr e pos =>
      cases e with
      | Constant kk j pos =>
        cases kk with
        | str y => exact s_doc
        | _ => exact absurd h Bool.false_ne_true
      | _ => exact absurd h Bool.false_ne_true
    | _ => exact absurd h Bool.false_ne_true
  | .never, st, s, h => s_never
theorem chkB_ok : ∀ (x : Bk) (sts : List Stmt), Sa T W k c X → chkB T c x sts = true → PSs X sts (tSt X.K (wB W x))
  | .nil, sts, s, h => by
    cases sts with
    | nil => exact b_nil
    | cons _ _ => exact absurd h Bool.false_ne_true
  | .cons a .nil, sts, s, h => by
    cases sts with
    | nil => exact absurd h Bool.false_ne_true
    | cons st r =>
      simp only [chkB, Bool.and_eq_true] at h
      cases r with
      | nil => exact b_one (chkS_ok a st s h.1)
      | cons _ _ => exact absurd h.2 Bool.false_ne_true
  | .cons a (.cons b b2), sts, s, h => by
    cases sts with
    | nil => exact absurd h Bool.false_ne_true
    | cons st r =>
      have h : chkS T c a st = true ∧ chkB T c (.cons b b2) r = true := by simpa only [chkB, Bool.and_eq_true] using h
      have q : PSs X (st :: r) (tSt X.K fun σ S E => wS W a σ S { E with nx := fun σ1 S1 => wB W (.cons b b2) σ1 S1 E }) := b_cons (chkS_ok a st s h.1) (chkB_ok (.cons b b2) r s h.2)
      exact q
end
end
end PL
set_option maxHeartbeats 8000000
/-! PL: defs, the whole table, the law's end. -/
namespace PL
open PySem PySem.Spec PyProof.Rows L2

/-- a def of the text: its name, its names by slot, its parameters, its tree, its statement -/
structure Fs where
  name : Str
  N : List Str
  ps : List Str
  body : Bk
  st : Stmt
def Fs.fd (f : Fs) : Fd := ⟨f.ps.length, f.N.length, f.body⟩
def scopeB (N ps : List Str) (sc : Scope) : Bool :=
  (match sc.kind with | .function => true | _ => false) && !sc.isCoroutine && !sc.isGenerator && decide N.Nodup && decide (N.take ps.length = ps) &&
  (ps.all fun x => decide (sc.names.lookup x = some .local) || decide (sc.names.lookup x = some .cell)) && sc.names.all fun y => !decide (y.2 = .free)
theorem scopeB_ok {N ps : List Str} {sc : Scope} (h : scopeB N ps sc = true) : FnScope N ps sc := by
  unfold scopeB at h
  simp only [Bool.and_eq_true, decide_eq_true_eq, List.all_eq_true, Bool.or_eq_true, Bool.not_eq_true', decide_eq_false_iff_not] at h
  obtain ⟨⟨⟨⟨⟨⟨h1, h2⟩, h3⟩, h4⟩, h5⟩, h6⟩, h7⟩ := h
  refine ⟨?_, h2, h3, h4, h5, h6, h7⟩
  cases q : sc.kind <;> rw [q] at h1 <;> first | rfl | cases h1
def Fs.ck (f : Fs) : Ck := ⟨f.N, defScope f.st, fun _ => true⟩
def chkF (T : Tb) (f : Fs) : Bool := scopeB f.N f.ps (defScope f.st) && chkB T f.ck f.body (defBody f.st)

section
variable {P : Program} {w : World} {K : PySem.W.Frag} {mg : Str → Option Value} {base : Heap}
theorem fnG_body {k : Nat} {f : Addr} {name qual : Str} {params : Arguments} {body : List Stmt} {scope : Scope} {dV kV doc pm cdv ct oc : Value} {an od : Option Addr} {osl : Array (Option Value)} {N ps : List Str} {sp : Sp}
    (lk : K.lookup f = some ⟨oc, od, .func (PySem.W.fnOf name qual params body scope dV kV doc pm an cdv ct), osl⟩) (hcd : PySem.W.codeIn K cdv qual = true) (S : FnScope N ps scope) (len : ∀ vs H Q E, sp vs H Q E → vs.length = ps.length)
    (hbody : ∀ (A : Around) (outer : List Env) (s : Shared) (H : Hp) (vs : List V) (Q : VK), Room k (A.deeper (envOfC qual scope s.heap.objs.size f cdv)) → A.guards = some [] → sp vs H Q E0 →
      ∃ t, PSs (cxOf CX0 P w K mg base N qual scope f cdv A outer s H E0).nox body t ∧ t { nx := fun _ H' => Q .non H', rt := Q } (L2.start N vs) H) :
    FnG P w K mg base (k + 1) f (PySem.W.fnOf name qual params body scope dV kV doc pm an cdv ct) ps sp := by
  refine ⟨len, ?_⟩
  intro A outer s H args us vs Q hr gd e0 hb rv hsp
  have vl : vs.length = ps.length := len _ _ _ _ hsp
  have Ks : K.In s.heap := e0.mod.kin.keeps fun b o q => (e0.bs b o q).1
  have nl : s.heap.NoLimit := e0.mod.nolimit.keeps fun b o q => (e0.bs b o q).1
  have kinds : ∀ y ∈ ps.zip us, scope.names.lookup y.1 = some .local ∨ (scope.names.lookup y.1 = some .cell ∧ ((cellsFrom (s.heap.objs.size + 1) scope.names []).lookup y.1).isSome = true) := by
    rintro ⟨n, v⟩ hy
    have hm := S.par n (List.of_mem_zip hy).1
    exact hm.imp id fun q => ⟨q, PySem.W.cellsFrom_some _ _ _ (.inl q)⟩
  refine codeAny_call_function hr.depth (Ks _ _ lk) rfl S.co S.gen rfl (PySem.W.codeRec_of Ks hcd) (hb _ _ _ _ ?_)
  refine wpAny_newFunctionEnv_cells S.kind kinds fun env he s1 inc => ?_
  subst he
  refine ⟨nl.keeps inc.toInCall.keep, codeAny_func ?_⟩
  obtain ⟨t, ht, hq⟩ := hbody A outer s H vs Q (hr.deeper _) gd hsp
  have I0 := inv_start (CX := CX0) (E := E0) S hr.hd e0 vl rv inc
  refine wpAny_mono (ht.nox.run [] s1 (L2.start N vs) H _ I0 hq) (fun fl s' hs => ?_) (fun e s' hs => hs)
  cases fl with
  | next => exact let ⟨σ', H', J, q⟩ := hs; ⟨.non, H', J.os, J.bare, J.base, J.hok, rfl, q⟩
  | ret u => exact let ⟨v, σ', H', J, r, q⟩ := hs; ⟨v, H', J.os, J.bare, J.base, J.hok, r, q⟩
  | brk => exact let ⟨_, _, _, q⟩ := hs; q.elim
  | cont => exact let ⟨_, _, _, q⟩ := hs; q.elim

/-- what is known of a def behind the top -/
structure Ff (K : PySem.W.Frag) (mg : Str → Option Value) (f : Fs) : Prop where
  ex : ∃ fa fd, Fun K f.name f.name f.st fa fd ∧ mg f.name = some (.ref fa) ∧ Binds K fd f.ps []
structure Facts (K : PySem.W.Frag) (w : World) (mg : Str → Option Value) (fs : List Fs) (cs : List (Str × D)) (ks : List (Str × List (Str × D))) : Prop where
  fn : ∀ f ∈ fs, Ff K mg f
  bi : ∀ x ∈ biNames, mg x = none
  cs : ∀ p ∈ cs, ∃ u v, mg p.1 = some u ∧ RelV v u ∧ ∀ F, Den K F p.2 v
  ks : ∀ p ∈ ks, ∃ a, mg p.1 = some (.ref a) ∧ KD K w a p.2
def tbOf (fs : List Fs) (cs : List (Str × D)) (ks : List (Str × List (Str × D)) := []) : Tb := ⟨fs.map fun f => (f.name, f.ps.length), cs, ks⟩

theorem start_rl {F H : Hp} {S : Sto} {ds : List D} {vs : List V} {N : List Str} {fd : Fd} (hN : fd.ns = N.length) (r : RelS K F S H) (d : Dens K F ds vs) : Rl K F (L2.start N vs) H (startD fd ds) S := by
  refine ⟨r, fun i e he => ?_⟩
  unfold startD at he
  by_cases hi : i < ds.length
  · rw [List.getElem?_append_left (by simpa using hi), List.getElem?_map, Option.map_eq_some_iff] at he
    obtain ⟨x, e1, e2⟩ := he
    cases e2
    obtain ⟨v, e3, e4⟩ := d.get e1
    refine ⟨v, ?_, e4⟩
    unfold L2.start
    rw [List.getElem?_append_left (by rw [List.length_map, d.len]; exact hi), List.getElem?_map, e3]
    rfl
  · rw [List.getElem?_append_right (by simpa using hi), List.getElem?_replicate] at he
    split at he <;> cases he
theorem callW_len {fs : List Fs} {k i : Nat} {f : Fs} (hi : fs[i]? = some f) {ds : List D} {S : Sto} {Q : WQ} (h : callW (fs.map Fs.fd) k i ds S Q) : ds.length = f.ps.length := by
  cases k with
  | zero => exact False.elim h
  | succ k =>
    unfold callW at h
    rw [List.getElem?_map, hi] at h
    exact h.1

theorem fn_at {fs : List Fs} {cs : List (Str × D)} {ks : List (Str × List (Str × D))} (X : Facts K w mg fs cs ks) (ok : fs.all (chkF (tbOf fs cs ks)) = true) : ∀ (k i : Nat) (f : Fs) (fa : Addr) (fd : FuncData), fs[i]? = some f → Fun K f.name f.name f.st fa fd →
    FnG P w K mg base k fa fd f.ps (spOf K (callW (fs.map Fs.fd) k) i f.ps.length) := by
  have num : ∀ {i : Nat} {x : Str} {n : Nat}, (tbOf fs cs ks).fns[i]? = some (x, n) → ∃ f, fs[i]? = some f ∧ f.name = x ∧ f.ps.length = n := fun {i x n} h => by
    unfold tbOf at h
    rw [List.getElem?_map, Option.map_eq_some_iff] at h
    obtain ⟨f, hf, e⟩ := h
    injection e with e1 e2
    exact ⟨f, hf, e1, e2⟩
  intro k
  induction k with
  | zero => exact fun i f fa fd hf F => ⟨fun vs H Q E q => q.1, fun A outer s H args us vs Q hr gd e0 hb rv hsp => (let ⟨_, _, _, _, _, _, _, w, _⟩ := hsp; False.elim w)⟩
  | succ k ih =>
    intro i f fa fd hf F
    have okf := List.all_eq_true.mp ok f (List.mem_of_getElem? hf)
    unfold chkF at okf
    rw [Bool.and_eq_true] at okf
    have sc := scopeB_ok okf.1
    obtain ⟨oc, od, kV, doc, pm, an, cdv, ct, osl, rfl, lk, hcd⟩ := F.ex
    refine fnG_body lk hcd sc (fun vs H Q E q => q.1) fun A outer s H vs Q hr gd hsp => ?_
    obtain ⟨hl, F0, ds, S, Q', r, d, wq, kk⟩ := hsp
    generalize hX : (cxOf CX0 P w K mg base f.N f.name (defScope f.st) fa cdv A outer s H E0).nox = X0
    have fa0 : Sa (tbOf fs cs ks) (callW (fs.map Fs.fd) k) k f.ck X0 := by
      subst hX
      refine ⟨⟨rfl, rfl, sc.nd, fun _ _ => rfl, rfl, hr, gd, X.bi, X.cs, X.ks, fun i x n h => ?_, fun i x n h ds S Q q => ?_⟩, rfl, sc.kind⟩
      · obtain ⟨g, hg, rfl, rfl⟩ := num h
        obtain ⟨ga, gd', G, m, b⟩ := (X.fn g (List.mem_of_getElem? hg)).ex
        exact ⟨ga, gd', g.ps, m, G.kp, b, ih i g ga gd' hg G⟩
      · obtain ⟨g, hg, rfl, rfl⟩ := num h
        exact callW_len hg q
    have body := chkB_ok f.body (defBody f.st) fa0 okf.2
    have eK : X0.K = K := by
      subst hX
      rfl
    rw [eK] at body
    refine ⟨_, body, ?_⟩
    unfold callW at wq
    rw [List.getElem?_map, hf] at wq
    refine ⟨F0, _, S, _, start_rl rfl r d, wq.2, ?_, ?_, ?_, ?_⟩
    · intro σ' F' env' S' H' t _ ⟨S2, l, q⟩
      exact kk _ F' _ S2 H' (t.le l) .mkNon q
    · intro _ _ _ _ _ _ _ q
      exact False.elim q
    · intro _ _ _ _ _ _ _ q
      exact False.elim q
    · intro v F' dd S' H' t dv ⟨S2, l, q⟩
      exact kk v F' dd S2 H' (t.le l) dv q
end
end PL
set_option maxHeartbeats 8000000
/-! PL: the law's end. -/
namespace PL
open PySem PySem.Spec PyProof.Rows L2

section
variable {P : Program} {w : World} {K : PySem.W.Frag} {mg mb : Str → Option Value} {k : Nat} {fa a : Addr} {fd : FuncData} {sp : Sp} {s₁ : Shared} {vs : List Value} {ns : List Int} {x : Str}
/-- the call, where H tells of nothing but the script -/
theorem lawH (H : Hp) (hO : Only H) (KX : K.In s₁.heap) (hns : s₁.heap.Ns mainGlobals mg) (hb : s₁.heap.Ns builtinsNs mb) (hbb : ∀ x : Str, x ≠ "__name__" → mb x = bootBuiltins x) (hlim : s₁.heap.NoLimit) (hg : s₁.gens = #[])
    (ha : s₁.heap.get? a = some { cls := .type "list", data := .seq vs.toArray }) (hr : Room k callerA)
    (F : ∀ base : Heap, K.In base → base.Ns mainGlobals mg → FnG P w K mg base k fa fd [x] sp) (hbind : BindsTo s₁ fd ⟨[.ref a], []⟩ [(x, .ref a)])
    (hok : HOk P w H s₁.heap) (hA : ∀ b, H b ≠ none → b = a) (hK : H a ≠ none → K.lookup a = none) (hsp : sp [.ref a] H (fun v _ => v = .bl true) E0) :
    codeAny (model P w) callerA (.call (.ref fa) ⟨[.ref a], []⟩) (fun r s' => r = .ok (.ret (.bool true)) ∧ OldK s₁.heap s'.heap ∧ s'.os = s₁.os ∧ AllBare s'.gens) s₁ := by
  have only_a : ∀ {b : Addr} {u : HO}, H b = some u → b = a := fun {b u} q => hA b (by rw [q]; exact fun z => nomatch z)
  have stay : ∀ {b : Addr} {o : Obj}, s₁.heap.get? b = some o → H b = none → (hidT s₁.heap H).get? b = some o := fun e n => hidT_get e n
  have untold : ∀ {b : Addr} {o : Obj} {es : Array DictEntry} {ep : Nat}, s₁.heap.get? b = some o → o.data = .dict es ep → H b = none := fun {b o es ep} e d => by
    cases q : H b with
    | none => rfl
    | some u =>
      have z := only_a q
      subst z
      rw [ha] at e
      cases e
      exact nomatch d
  have ns_of : ∀ {b : Addr} {m : Str → Option Value}, s₁.heap.Ns b m → (hidT s₁.heap H).Ns b m := fun {b m} ⟨o, es, ep, e, d, r⟩ => ⟨o, es, ep, stay e (untold e d), d, r⟩
  have k_of : K.In (hidT s₁.heap H) := fun b o e => stay (KX b o e) (by
    cases q : H b with
    | none => rfl
    | some u =>
      have z := only_a q
      subst z
      rw [hK (by rw [q]; exact fun z => nomatch z)] at e
      cases e)
  have md : Mod K mg (hidT s₁.heap H) := ⟨k_of, ns_of hns, ⟨mb, ns_of hb, hbb⟩, let ⟨mc, h1, h2⟩ := hlim; ⟨mc, ns_of h1, h2⟩⟩
  have ent : Env0 P w K mg (hidT s₁.heap H) callerA [] s₁ H := ⟨rfl, md, fun b o e => of_hidT e, Nat.le_of_eq (hidT_size _ _), trivial, (fun b z => nomatch z), hok, .of_eq hg⟩
  refine codeAny_mono ((F _ k_of (ns_of hns)).run callerA [] s₁ H ⟨[.ref a], []⟩ [.ref a] [.ref a] _ hr rfl ent hbind (.cons rfl .nil) hsp) fun r s' h => ?_
  cases r with
  | error e => exact False.elim h
  | ok fl =>
    cases fl with
    | next => exact False.elim h
    | brk => exact False.elim h
    | cont => exact False.elim h
    | ret u =>
      obtain ⟨v, H', os, bare, un, hok', rv, q⟩ := h
      have q : v = .bl true := q
      subst q
      have eu : u = Value.bool true := rv
      subst eu
      refine ⟨rfl, OldK.of_keep fun b o e => ?_, os, bare⟩
      rcases hO b with z | ⟨ob, xs, z⟩
      · exact un.keep b o e z (fun m => (nomatch m)) (fun m => (nomatch m))
      · have e1 := (hok b _ z).1
        have e2 := (hok' b _ (un.frzs b ob _ z)).1
        rw [e] at e1
        cases e1
        exact e2
/-- what the law must do: PL's own words -/
def LawOk (fs : List Fs) (law kk : Nat) : Prop := ∀ (ns : List Int) (S : Sto), ns.length ≤ 63 → callW (fs.map Fs.fd) kk law [.scr ns] S fun d _ => d = .bl true
theorem lawG {fs : List Fs} {law : Nat} (hl : LawOk fs law k) (KX : K.In s₁.heap) (hns : s₁.heap.Ns mainGlobals mg) (hb : s₁.heap.Ns builtinsNs mb) (hbb : ∀ x : Str, x ≠ "__name__" → mb x = bootBuiltins x) (hlim : s₁.heap.NoLimit) (hg : s₁.gens = #[])
    (ha : s₁.heap.get? a = some { cls := .type "list", data := .seq vs.toArray }) (hi : IntsAre vs ns) (h63 : ns.length ≤ 63) (hr : Room k callerA)
    (F : ∀ base : Heap, K.In base → base.Ns mainGlobals mg → FnG P w K mg base k fa fd [x] (spOf K (callW (fs.map Fs.fd) k) law 1)) (hbind : BindsTo s₁ fd ⟨[.ref a], []⟩ [(x, .ref a)]) :
    codeAny (model P w) callerA (.call (.ref fa) ⟨[.ref a], []⟩) (fun r s' => r = .ok (.ret (.bool true)) ∧ OldK s₁.heap s'.heap ∧ s'.os = s₁.os ∧ AllBare s'.gens) s₁ := by
  have rv := vals_ints hi
  have lv := hi.length
  have hz : ns.length ≤ sizeLine := Nat.le_trans h63 (by decide)
  have spk : ∀ H : Hp, SqL K H a (ns.map V.int) → spOf K (callW (fs.map Fs.fd) k) law 1 [.ref a] H (fun v _ => v = .bl true) E0 := fun H hS =>
    ⟨rfl, H, [.scr ns], fun _ => none, _, ⟨Sub.refl H, fun _ _ z => nomatch z⟩, .cons (.mkScr hz hS) .nil, hl ns _ h63, fun v F' d S' H' t dv q => by
      subst q
      exact dv.bl_⟩
  cases hk : K.lookup a with
  | some o =>
    have e := KX a o hk
    rw [ha] at e
    cases e
    exact lawH (fun _ => none) (fun _ => .inl rfl) KX hns hb hbb hlim hg ha hr F hbind (fun b u z => nomatch z) (fun b z => absurd rfl z) (fun z => absurd rfl z)
      (spk _ (.inr ⟨_, vs.toArray, _, hk, rfl, rfl, rfl, by rw [List.size_toArray, lv]; exact hz, by simpa using rv⟩))
  | none =>
    generalize hob : ({ cls := .type "list", data := .seq vs.toArray } : Obj) = ob at ha
    have at_a : (fun b => if b = a then some (HO.frz ob (.lst (ns.map V.int))) else none : Hp) a = some (.frz ob (.lst (ns.map V.int))) := if_pos rfl
    have at_b : ∀ {b : Addr}, b ≠ a → (fun b => if b = a then some (HO.frz ob (.lst (ns.map V.int))) else none : Hp) b = none := fun h => if_neg h
    generalize (fun b => if b = a then some (HO.frz ob (.lst (ns.map V.int))) else none : Hp) = H at at_a at_b
    refine lawH H (fun b => ?_) KX hns hb hbb hlim hg (by rw [hob]; exact ha) hr F hbind (fun b u z => ?_) (fun b z => ?_) (fun _ => hk) (spk H (.inl (.inr ⟨ob, at_a⟩)))
    · by_cases y : b = a
      · rw [y]
        exact .inr ⟨_, _, at_a⟩
      · exact .inl (at_b y)
    · by_cases y : b = a
      · subst y
        rw [at_a] at z
        cases z
        exact ⟨ha, by rw [List.length_map]; exact hz, vs, _, rv, by rw [ha, ← hob]⟩
      · rw [at_b y] at z
        cases z
    · by_cases y : b = a
      · exact y
      · exact absurd (at_b y) z
end
/-- the goal that the head leaves -/
theorem walkG {l : PySem.W.OpenLaw} {q : Program} {loose : List Str} {XP : (Str → Option Value) → Heap → Prop} {YP : World → Heap → Prop} {d : DefRec} {K : Params → PySem.W.Frag} {x : Str} {fs : List Fs} {cs : List (Str × D)} {ks : List (Str × List (Str × D))} {law kk : Nat}
    (hn : l.most = some 63) (hdf : d.params.defaults = []) (hr : Room kk callerA) (hY : ∀ (w : World) (h : Heap), YP w h → (K w.params).In h)
    (ok : fs.all (chkF (tbOf fs cs ks)) = true) {f : Fs} (hlaw : fs[law]? = some f) (hnm : f.name = d.name) (hps : f.ps = [x]) (hl : LawOk fs law kk)
    (X : ∀ (w : World) (mg : Str → Option Value) (fa : Addr) (h : Heap), (K w.params).In h → h.Ns mainGlobals mg → mg d.name = some (.ref fa) → Facts (K w.params) w mg fs cs ks) :
    PySem.W.WalkO q loose XP YP l.row.toRowW d [] (fun f vs => PySem.call f vs) := by
  refine Att.attach_call hn hdf fun w s₀ s₁ mg mb fa o pm cd doc a vs ns G Y ho hd hcd hmg hobj hints hlen hg => ?_
  have KX := hY w _ Y
  have ft := X w mg fa _ KX G.T.g hmg
  obtain ⟨ga, gd, F, m, b⟩ := (ft.fn f (List.mem_of_getElem? hlaw)).ex
  have ef : ga = fa := by
    rw [hnm] at m
    have e := m.symm.trans hmg
    cases e
    rfl
  subst ef
  have bx := b s₁ [.ref a] KX (by rw [hps]; rfl)
  rw [hps] at bx
  have fn : ∀ base : Heap, FnG l.prog w (K w.params) mg base kk ga gd [x] (spOf (K w.params) (callW (fs.map Fs.fd) kk) law 1) := fun base => by
    have h := fn_at (P := l.prog) (w := w) (base := base) ft ok kk law f ga gd hlaw F
    rw [hps] at h
    exact h
  exact lawG hl KX G.T.g G.T.b G.T.builtins G.T.nolimit hg hobj hints hlen hr (fun base _ _ => fn base) bx

/-! ### the facts, one by one -/
section
variable {K : PySem.W.Frag} {mg : Str → Option Value} {h : Heap}
theorem ff_mk {f : Fs} (X : K.In h) (G : h.Ns mainGlobals mg) {fa : Addr} {od an : Option Addr} {sl : Array (Option Value)} {oc kV dc pm cd ct : Value}
    (a : PySem.W.nsIn K mainGlobals f.name = some (some (.ref fa))) (l : K.lookup fa = some ⟨oc, od, .func (PySem.W.fnOf f.name f.name (defArgs f.st) (defBody f.st) (defScope f.st) .none kV dc pm an cd ct), sl⟩)
    (c : PySem.W.codeIn K cd f.name = true) (k : PySem.W.keepIn K (.ref fa) = true)
    (b : ∀ (kV doc pm : Value) (an : Option Addr) (cdv ct : Value) (us : List Value), us.length = f.ps.length → bindArgs (PySem.W.fnOf f.name f.name (defArgs f.st) (defBody f.st) (defScope f.st) .none kV doc pm an cdv ct) ⟨us, []⟩ = pure (f.ps.zip us)) : Ff K mg f := by
  have F := fun_mk (st := f.st) l c k
  exact ⟨fa, _, F, PySem.W.mg_of X G a, F.binds b⟩
theorem cs_int {x : Str} {i : Int} {t : Tok} (X : K.In h) (G : h.Ns mainGlobals mg) (a : PySem.W.nsIn K mainGlobals x = some (some (.int i t))) : ∃ u v, mg x = some u ∧ RelV v u ∧ ∀ F, Den K F (.int i) v := ⟨_, .int i, PySem.W.mg_of X G a, ⟨t, rfl⟩, fun _ => .mkInt i⟩
theorem cs_str {x : Str} {y : Str} {t : Tok} (X : K.In h) (G : h.Ns mainGlobals mg) (a : PySem.W.nsIn K mainGlobals x = some (some (.str y t))) : ∃ u v, mg x = some u ∧ RelV v u ∧ ∀ F, Den K F (.str y) v := ⟨_, .str y, PySem.W.mg_of X G a, ⟨t, rfl⟩, fun _ => .mkStr y⟩
/-- written values -/
def WrD (K : PySem.W.Frag) (d : D) (u : Value) : Prop := ∃ v, RelV v u ∧ ∀ F, Den K F d v
theorem wr_int (i : Int) (t : Tok) : WrD K (.int i) (.int i t) := ⟨.int i, ⟨t, rfl⟩, fun _ => .mkInt i⟩
theorem wr_str (i : Str) (t : Tok) : WrD K (.str i) (.str i t) := ⟨.str i, ⟨t, rfl⟩, fun _ => .mkStr i⟩
theorem wr_non : WrD K .non .none := ⟨.non, rfl, fun _ => .mkNon⟩
theorem wr_bl (b : Bool) : WrD K (.bl b) (.bool b) := ⟨.bl b, rfl, fun _ => .mkBl b⟩
inductive WrDs (K : PySem.W.Frag) : List D → List Value → Prop
  | nil : WrDs K [] []
  | cons {d : D} {u : Value} {ds : List D} {us : List Value} (h : WrD K d u) (t : WrDs K ds us) : WrDs K (d :: ds) (u :: us)
theorem WrDs.vals : ∀ {ds : List D} {us : List Value}, WrDs K ds us → ∃ vs, Vals vs us ∧ ∀ F, Dens K F ds vs
  | _, _, .nil => ⟨[], .nil, fun _ => .nil⟩
  | _, _, .cons ⟨v, r, d⟩ t => let ⟨vs, rs, ds⟩ := WrDs.vals t; ⟨v :: vs, .cons r rs, fun F => .cons (d F) (ds F)⟩
theorem wr_tup {ds : List D} {us : List Value} {a : Addr} {dd : Option Addr} {n : Nat} {sl : Array (Option Value)} (l : K.lookup a = some ⟨.type "tuple", dd, .seq us.toArray n, sl⟩) (t : WrDs K ds us) (z : us.length ≤ sizeLine) : WrD K (.tup ds) (.ref a) := by
  obtain ⟨vs, rs, dn⟩ := t.vals
  refine ⟨.ref a, rfl, fun F => .mkTup ?_ (.inr ⟨_, us.toArray, n, l, rfl, rfl, by simpa using z, by simpa using rs⟩) (dn F)⟩
  rw [← (dn F).len, rs.length]
  exact z
theorem cs_wr {x : Str} {d : D} {u : Value} (X : K.In h) (G : h.Ns mainGlobals mg) (a : PySem.W.nsIn K mainGlobals x = some (some u)) (w : WrD K d u) : ∃ u v, mg x = some u ∧ RelV v u ∧ ∀ F, Den K F d v :=
  let ⟨v, r, d⟩ := w
  ⟨u, v, PySem.W.mg_of X G a, r, d⟩
/-- a dict of the module -/
theorem ks_mk {x : Str} {es : List (Str × D)} {a : Addr} {w : World} {des : Array DictEntry} {n : Nat} (X : K.In h) (G : h.Ns mainGlobals mg) (e : PySem.W.nsIn K mainGlobals x = some (some (.ref a)))
    (l : K.lookup a = some ⟨.type "dict", none, .dict des n, #[]⟩) (kl : PySem.W.KeysLit w.params des.toList) (low : (a == sysModules) = false) (f : Ents K es des.toList) :
    ∃ a, mg x = some (.ref a) ∧ KD K w a es :=
  ⟨a, PySem.W.mg_of X G e, des, n, l, kl, low, f⟩
theorem en_cons {z : Str} {t : Tok} {d : D} {e : DictEntry} {r : List (Str × D)} {l : List DictEntry} (k : e.key = .str z t) (w : WrD K d e.val) (n : Ents K r l) : Ents K ((z, d) :: r) (e :: l) :=
  let ⟨_, rv, dv⟩ := w
  .cons k rv dv n
theorem all_nil {α : Type} {p : α → Prop} : ∀ x ∈ ([] : List α), p x := fun _ z => nomatch z
theorem all_cons {α : Type} {p : α → Prop} {x : α} {r : List α} (h : p x) (t : ∀ y ∈ r, p y) : ∀ y ∈ x :: r, p y := fun y hy => (List.mem_cons.mp hy).elim (fun e => e ▸ h) (t y)
theorem bi_mk {x : Str} (X : K.In h) (G : h.Ns mainGlobals mg) (a : PySem.W.nsIn K mainGlobals x = some none) : mg x = none := PySem.W.mg_none_of X G a
end
end PL
/-! PL: rules for proofs over the plain semantics. -/
namespace PL
open PySem L2
section
variable {α : Type}
theorem opt_some {z : α} {Q : α → Prop} : opt (some z) Q = Q z := rfl
theorem opt_none {Q : α → Prop} : opt (none : Option α) Q = False := rfl
theorem opt_ite {c : Prop} [Decidable c] {z : α} {Q : α → Prop} : opt (if c then some z else none) Q = (c ∧ Q z) := by
  by_cases h : c
  · rw [if_pos h]
    exact propext ⟨fun q => ⟨h, q⟩, fun q => q.2⟩
  · rw [if_neg h]
    exact propext ⟨fun q => False.elim q, fun q => h q.1⟩
theorem opt_ifc {c : Prop} {z : D} {Q : D → Prop} : opt (ifc c z) Q = (c ∧ Q z) := by
  unfold ifc
  exact @opt_ite D c (Classical.propDecidable c) z Q
theorem opt_map {β : Type} {o : Option β} {f : β → α} {Q : α → Prop} : opt (o.map f) Q = opt o fun x => Q (f x) := by cases o <;> rfl
theorem opt_bind {β : Type} {o : Option β} {f : β → Option α} {Q : α → Prop} : opt (o.bind f) Q = opt o fun x => opt (f x) Q := by cases o <;> rfl
theorem put_put {S : Sto} {a : Addr} {o u : Ob} : (S.put a o).put a u = S.put a u := by
  funext b
  unfold Sto.put
  split <;> rfl
theorem put_self {S : Sto} {a : Addr} {o : Ob} (h : S a = some o) : S.put a o = S := by
  funext b
  unfold Sto.put
  split
  · rename_i e
    rw [e, h]
  · rfl
theorem callW_at {T : List Fd} {k f : Nat} {ds : List D} {S : Sto} {Q : WQ} {fd : Fd} (h : T[f]? = some fd) (hl : ds.length = fd.np)
    (w : wB (callW T k) fd.body (startD fd ds) S { nx := fun _ S' => ∃ S2 : Sto, S2.le S' ∧ Q .non S2, rt := fun d S' => ∃ S2 : Sto, S2.le S' ∧ Q d S2 }) : callW T (k + 1) f ds S Q := by
  unfold callW
  rw [h]
  exact ⟨hl, w⟩
theorem rt_of {Q : WQ} {d : D} {S : Sto} (h : Q d S) : ∃ S2 : Sto, S2.le S ∧ Q d S2 := ⟨S, Sto.le_refl S, h⟩
theorem rt_le {Q : WQ} {d : D} {S S' : Sto} (l : S.le S') (h : Q d S) : ∃ S2 : Sto, S2.le S' ∧ Q d S2 := ⟨S, l, h⟩
theorem notv {b : Bool} {A B : Prop} : (if (!b) = true then A else B) = (if b = true then B else A) := by cases b <;> rfl
theorem ite_dec {c : Prop} [Decidable c] {A B : Prop} : (if decide c = true then A else B) = (if c then A else B) := by
  by_cases h : c <;> simp [h]
theorem ite_ndec {c : Prop} [Decidable c] {A B : Prop} : (if (!decide c) = true then A else B) = (if c then B else A) := by
  by_cases h : c <;> simp [h]

/-! ### loops -/
/-- a comprehension whose body hands back one value and changes nothing -/
theorem lc_map {G : Sto → Prop} {body : D → Sto → (Option D → Sto → Prop) → Prop} {f : D → D} {S : Sto} (hG : G S) : ∀ {items acc : List D} {Q : List D → Sto → Prop}, (∀ x ∈ items, ∀ k : Option D → Sto → Prop, k (some (f x)) S → body x S k) → Q (acc ++ items.map f) S → lcLoop G body items acc S Q
  | [], acc, Q, _, q => ⟨hG, by simpa using q⟩
  | x :: xs, acc, Q, h, q => ⟨hG, h x List.mem_cons_self _ (lc_map hG (fun y hy => h y (List.mem_cons_of_mem _ hy)) (by simpa [List.append_assoc] using q))⟩
theorem lc_filter {G : Sto → Prop} {body : D → Sto → (Option D → Sto → Prop) → Prop} {f : D → Option D} {S : Sto} (hG : G S) : ∀ {items acc : List D} {Q : List D → Sto → Prop}, (∀ x ∈ items, ∀ k : Option D → Sto → Prop, k (f x) S → body x S k) → Q (acc ++ items.filterMap f) S → lcLoop G body items acc S Q
  | [], acc, Q, _, q => ⟨hG, by simpa using q⟩
  | x :: xs, acc, Q, h, q => ⟨hG, h x List.mem_cons_self _ (by
      refine lc_filter hG (fun y hy => h y (List.mem_cons_of_mem _ hy)) ?_
      rw [List.filterMap_cons] at q
      cases e : f x with
      | none => rw [e] at q; exact q
      | some z => rw [e] at q; simpa [List.append_assoc] using q)⟩
/-- a comprehension by an invariant of what was made and of the store -/
theorem lc_inv {G : Sto → Prop} {body : D → Sto → (Option D → Sto → Prop) → Prop} (I : List D → Sto → Prop) (hG : ∀ acc S, I acc S → G S) : ∀ {items acc : List D} {S : Sto} {Q : List D → Sto → Prop}, I acc S →
    (∀ x ∈ items, ∀ acc S, I acc S → ∀ k : Option D → Sto → Prop, (∀ o S', I (match o with | some y => acc ++ [y] | none => acc) S' → k o S') → body x S k) → (∀ acc S, I acc S → Q acc S) → lcLoop G body items acc S Q
  | [], acc, S, Q, i, _, q => ⟨hG _ _ i, q _ _ i⟩
  | x :: xs, acc, S, Q, i, h, q => ⟨hG _ _ i, h x List.mem_cons_self acc S i _ fun o S' i' => lc_inv I hG i' (fun y hy => h y (List.mem_cons_of_mem _ hy)) q⟩
/-- a comprehension by an invariant that counts -/
theorem lc_count {G : Sto → Prop} {body : D → Sto → (Option D → Sto → Prop) → Prop} (I : Nat → List D → Sto → Prop) (hG : ∀ n acc S, I n acc S → G S) : ∀ {items acc : List D} {n : Nat} {S : Sto} {Q : List D → Sto → Prop}, I n acc S →
    (∀ i (x : D), items[i]? = some x → ∀ acc S, I (n + i) acc S → ∀ k : Option D → Sto → Prop, (∀ o S', I (n + i + 1) (match o with | some y => acc ++ [y] | none => acc) S' → k o S') → body x S k) → (∀ acc S, I (n + items.length) acc S → Q acc S) → lcLoop G body items acc S Q
  | [], acc, n, S, Q, i, _, q => ⟨hG _ _ _ i, q _ _ i⟩
  | x :: xs, acc, n, S, Q, i, h, q => ⟨hG _ _ _ i, h 0 x rfl acc S i _ fun o S' i' => lc_count I hG (n := n + 1) i' (fun j y hy acc S i2 k kk => h (j + 1) y hy acc S (by rw [show n + (j + 1) = n + 1 + j by omega]; exact i2) k fun o S' i3 => kk o S' (by rw [show n + 1 + j + 1 = n + (j + 1) + 1 by omega]; exact i3)) fun acc S i2 => q acc S (by rw [show n + (x :: xs).length = n + 1 + xs.length by rw [List.length_cons]; omega]; exact i2)⟩
/-- a for loop by an invariant of the slots and the store -/
theorem for_inv {G : Sto → Prop} {body : D → Ev → Sto → En → Prop} {E : En} (I : Ev → Sto → Prop) (hG : ∀ σ S, I σ S → G S) : ∀ {items : List D} {σ : Ev} {S : Sto}, I σ S →
    (∀ x ∈ items, ∀ σ S, I σ S → ∀ E' : En, (∀ σ S, I σ S → E'.nx σ S) → (∀ σ S, I σ S → E'.ct σ S) → (∀ σ S, E.nx σ S → E'.bk σ S) → (∀ d S, E.rt d S → E'.rt d S) → body x σ S E') → (∀ σ S, I σ S → E.nx σ S) → forLoop G body E items σ S
  | [], σ, S, i, _, q => ⟨hG _ _ i, q _ _ i⟩
  | x :: xs, σ, S, i, h, q => ⟨hG _ _ i, h x List.mem_cons_self σ S i _ (fun σ' S' i' => for_inv I hG i' (fun y hy => h y (List.mem_cons_of_mem _ hy)) q) (fun σ' S' i' => for_inv I hG i' (fun y hy => h y (List.mem_cons_of_mem _ hy)) q) (fun _ _ q => q) (fun _ _ q => q)⟩
theorem for_count {G : Sto → Prop} {body : D → Ev → Sto → En → Prop} {E : En} (I : Nat → Ev → Sto → Prop) (hG : ∀ n σ S, I n σ S → G S) : ∀ {items : List D} {n : Nat} {σ : Ev} {S : Sto}, I n σ S →
    (∀ i (x : D), items[i]? = some x → ∀ σ S, I (n + i) σ S → ∀ E' : En, (∀ σ S, I (n + i + 1) σ S → E'.nx σ S) → (∀ σ S, I (n + i + 1) σ S → E'.ct σ S) → (∀ σ S, E.nx σ S → E'.bk σ S) → (∀ d S, E.rt d S → E'.rt d S) → body x σ S E') → (∀ σ S, I (n + items.length) σ S → E.nx σ S) → forLoop G body E items σ S
  | [], n, σ, S, i, _, q => ⟨hG _ _ _ i, q _ _ i⟩
  | x :: xs, n, σ, S, i, h, q => by
    have nxt : ∀ σ' S', I (n + 1) σ' S' → forLoop G body E xs σ' S' := fun σ' S' i' =>
      for_count I hG (n := n + 1) i' (fun j y hy σ S i2 E' a b c d => h (j + 1) y hy σ S (by rw [show n + (j + 1) = n + 1 + j by omega]; exact i2) E' (fun σ S i3 => a σ S (by rw [show n + 1 + j + 1 = n + (j + 1) + 1 by omega]; exact i3)) (fun σ S i3 => b σ S (by rw [show n + 1 + j + 1 = n + (j + 1) + 1 by omega]; exact i3)) c d)
        fun σ S i2 => q σ S (by rw [show n + (x :: xs).length = n + 1 + xs.length by rw [List.length_cons]; omega]; exact i2)
    exact ⟨hG _ _ _ i, h 0 x rfl σ S i _ nxt nxt (fun _ _ q => q) (fun _ _ q => q)⟩

/-! ### what can be told by repr -/
def rp (d : D) : Str := (pyOf d).shown
/-- at most so many deep, no great ints, at most so many parts -/
structure Tell (n w : Nat) (d : D) : Prop where
  ok : okD n d = true
  sh : (pyOf d).showable = true
  lv : (pyOf d).leavesShort 14 = true
  bk : (pyOf d).bulk ≤ w
structure Tells (n w : Nat) (ds : List D) : Prop where
  ok : okDs n ds = true
  sh : PyData.showableAll (pyOfs ds) = true
  lv : PyData.leavesShortAll 14 (pyOfs ds) = true
  bk : PyData.bulkAll (pyOfs ds) ≤ w
theorem okDs50 {n m : Nat} (l : n ≤ m) : ∀ {xs : List D}, okDs n xs = true → okDs m xs = true
  | [], _ => by simp [okDs]
  | x :: xs, h => by
    unfold okDs at h ⊢
    rw [Bool.and_eq_true] at h ⊢
    exact ⟨okD50 l h.1, okDs50 l h.2⟩
theorem Tell.mono {n w n' w' : Nat} {d : D} (h : Tell n w d) (a : n ≤ n') (b : w ≤ w') : Tell n' w' d := ⟨okD50 a h.ok, h.sh, h.lv, Nat.le_trans h.bk b⟩
theorem Tells.mono {n w n' w' : Nat} {d : List D} (h : Tells n w d) (a : n ≤ n') (b : w ≤ w') : Tells n' w' d := ⟨okDs50 a h.ok, h.sh, h.lv, Nat.le_trans h.bk b⟩
theorem Tell.non {n w : Nat} : Tell n w .non := ⟨by cases n <;> rfl, rfl, rfl, Nat.zero_le _⟩
theorem Tell.bl {n w : Nat} (b : Bool) : Tell n w (.bl b) := ⟨by cases n <;> rfl, rfl, rfl, Nat.zero_le _⟩
theorem Tell.int {n w : Nat} {i : Int} (h : i.natAbs < 10 ^ 13) : Tell n w (.int i) := by
  refine ⟨by cases n <;> rfl, ?_, ?_, Nat.zero_le _⟩
  · unfold pyOf PyData.showable
    refine decide_eq_true ?_
    by_cases z : i.natAbs = 0
    · rw [z]
      decide
    · rw [Nat.log2_lt z]
      exact Nat.lt_trans h (by decide)
  · unfold pyOf PyData.leavesShort
    refine decide_eq_true ?_
    have e := int_text_length_le10 (k := 13) (by decide) h
    show (Str.ofString (toString i)).length ≤ 14
    rw [ofString_length]
    exact e
theorem Tell.str {n w : Nat} {x : Str} (h : PyData.strOk x = true) (l : x.length ≤ w) : Tell n w (.str x) := by
  refine ⟨by cases n <;> exact h, rfl, ?_, l⟩
  unfold pyOf PyData.leavesShort
  unfold PyData.strOk at h
  rw [List.all_eq_true]
  intro c hc
  have := Array.all_eq_true_iff_forall_mem.mp h c (by simpa using hc)
  have h2 : c < 0x110000 := by simpa using this
  exact decide_eq_true (Nat.lt_trans h2 (by decide))
theorem Tells.nil {n w : Nat} : Tells n w [] := ⟨by cases n <;> rfl, rfl, rfl, Nat.zero_le _⟩
theorem Tells.cons {n w v : Nat} {x : D} {xs : List D} (h : Tell n w x) (t : Tells n v xs) : Tells n (w + 1 + v) (x :: xs) := by
  refine ⟨?_, ?_, ?_, ?_⟩
  · unfold okDs
    rw [h.ok, t.ok]
    rfl
  · unfold pyOfs PyData.showableAll
    rw [h.sh, t.sh]
    rfl
  · unfold pyOfs PyData.leavesShortAll
    rw [h.lv, t.lv]
    rfl
  · unfold pyOfs PyData.bulkAll
    have := h.bk
    have := t.bk
    omega
theorem Tells.all {n w : Nat} : ∀ {xs : List D}, (∀ x ∈ xs, Tell n w x) → Tells n (xs.length * (w + 1)) xs
  | [], _ => .nil
  | x :: xs, h => (Tells.cons (h x List.mem_cons_self) (Tells.all fun y hy => h y (List.mem_cons_of_mem _ hy))).mono (Nat.le_refl _) (by rw [List.length_cons, Nat.succ_mul]; omega)
theorem Tell.tup {n w : Nat} {xs : List D} (h : Tells n w xs) : Tell (n + 1) w (.tup xs) := ⟨by unfold okD; exact h.ok, by unfold pyOf PyData.showable; exact h.sh, by unfold pyOf PyData.leavesShort; exact h.lv, by unfold pyOf PyData.bulk; exact h.bk⟩
theorem Tell.lst {n w : Nat} {xs : List D} (h : Tells n w xs) : Tell (n + 1) w (.lst xs) := ⟨by unfold okD; exact h.ok, by unfold pyOf PyData.showable; exact h.sh, by unfold pyOf PyData.leavesShort; exact h.lv, by unfold pyOf PyData.bulk; exact h.bk⟩
theorem reprD_of {n w : Nat} {d : D} (h : Tell n w d) (a : n ≤ 60 := by omega) (b : w ≤ 1000000 := by omega) : reprD d = some (.str (rp d)) := by
  unfold reprD
  rw [if_pos]
  · rfl
  · refine ⟨okD50 a h.ok, h.sh, ?_⟩
    have := PyData.shown_le_bulk 14 (by decide) _ h.lv
    have := h.bk
    rw [sizeLine_eq]
    omega

/-! ### the laws' own helpers: the cup, a roll, one of some things -/
abbrev cupO (x y : Int) : Ob := .lst [.int x, .int y]
def bCup : Bk := (.cons (.asg (.nam 1) (.fn .abs (.cons (.idx (.frz (.cat (.frz (.lst (.var 0))) (.frz (.dsp (.cons (.lit (.int 0)) .nil))))) (.lit (.int 0))) .nil)))
    (.cons (.ret (.new (.dsp (.cons (.ite (.cmp .GtE (.var 1) (.bin .Pow (.lit (.int 10)) (.lit (.int 18)))) (.bin .FloorDiv (.var 1) (.lit (.int 67))) (.lit (.int 0))) (.cons (.bin .Add (.bin .Mod (.fn .int (.cons (.bin .Add (.bin .Mult (.var 1) (.lit (.int 277))) (.lit (.int 2609))) .nil)) (.lit (.int 2077503167))) (.lit (.int 163))) .nil)))))
    .nil))
def bRoll : Bk := (.cons (.ite (.cmp .Gt (.idx (.var 0) (.lit (.int 0))) (.lit (.int 0))) (.cons (.asg (.nam 3) (.bin .Mod (.fn .int (.cons (.idx (.var 0) (.lit (.int 0))) .nil)) (.var 1)))
    (.cons (.asg (.sub (.var 0) (.lit (.int 0))) (.bin .FloorDiv (.idx (.var 0) (.lit (.int 0))) (.var 1)))
    (.cons (.ret (.var 3))
    .nil))) .nil)
    (.cons (.asg (.sub (.var 0) (.lit (.int 1))) (.bin .Mod (.fn .int (.cons (.bin .Add (.bin .Mult (.idx (.var 0) (.lit (.int 1))) (.lit (.int 31051))) (.lit (.int 7993))) .nil)) (.lit (.int 2147483543))))
    (.cons (.asg (.nam 2) (.bin .Mod (.fn .int (.cons (.bin .Mult (.idx (.var 0) (.lit (.int 1))) (.bin .Add (.idx (.var 0) (.lit (.int 1))) (.lit (.int 229)))) .nil)) (.lit (.int 2147483587))))
    (.cons (.ret (.bin .Mod (.fn .int (.cons (.bin .FloorDiv (.var 2) (.lit (.int 821))) .nil)) (.var 1)))
    .nil))))
def bSome (roll : Nat) : Bk := (.cons (.ret (.idx (.var 1) (.call roll (.cons (.var 0) (.cons (.fn .len (.cons (.var 1) .nil)) .nil)))))
    .nil)
theorem getV_at {σ : Ev} {i : Nat} {d : D} (h : σ[i]? = some (some d)) (Q : D → Prop) : getV σ i Q = Q d := by
  unfold getV
  rw [h]
theorem atI0 {x : D} {r : List D} : atI (x :: r) 0 = some x := atI_nat (j := 0) rfl
theorem atI1 {x y : D} {r : List D} : atI (x :: y :: r) 1 = some y := atI_nat (j := 1) rfl
theorem setS_lst {S : Sto} {a : Addr} {xs : List D} {k : Int} {j : Nat} {v : D} {Q : Sto → Prop} (h : S a = some (.lst xs)) (hk : ixN xs.length k = some j) : setS S (.ref a) (.int k) v Q = Q (S.put a (.lst (xs.set j v))) := by
  unfold setS
  simp only [h, hk]
theorem idxD_lst {S : Sto} {a : Addr} {xs : List D} {k : Int} (h : S a = some (.lst xs)) : idxD S (.ref a) (.int k) = atI xs k := by
  unfold idxD
  simp only [h]
theorem roll_ok {T : List Fd} {k f : Nat} (hT : T[f]? = some ⟨2, 4, bRoll⟩) {a : Addr} {S : Sto} {x y many : Int} {Q : WQ} (hS : S a = some (cupO x y)) (h0 : 0 < many) (h1 : many < 1073741824)
    (q : ∀ r x' y', 0 ≤ r → r < many → Q (.int r) (S.put a (cupO x' y'))) : callW T (k + 1) f [.ref a, .int many] S Q := by
  refine callW_at hT rfl ?_
  show wB _ bRoll [some (.ref a), some (.int many), none, none] _ _
  simp only [bRoll, wB, wS, PL.wE, PL.wT, wXs, wG, getV, List.getElem?_cons_zero, List.getElem?_cons_succ, idxD_lst hS, atI0, atI1, opt_some, opt_ifc, opt_ite, cmpD, binD, fnD, ite_dec, List.set_cons_succ, List.set_cons_zero]
  split
  · refine ⟨h0, ⟨h0, h1⟩, ?_⟩
    rw [setS_lst hS (j := 0) rfl]
    exact rt_of (q _ _ _ (Int.emod_nonneg _ (by omega)) (Int.emod_lt_of_pos _ h0))
  · refine ⟨.inr (by decide), by decide, ?_⟩
    rw [setS_lst hS (j := 1) rfl]
    simp only [List.set_cons_succ, List.set_cons_zero, idxD_lst (Sto.put_same (S := S) (a := a)), atI1, opt_some, opt_ifc, opt_ite]
    refine ⟨.inl ?_, by decide, by decide, h0, rt_of (q _ _ _ (Int.emod_nonneg _ (by omega)) (Int.emod_lt_of_pos _ h0))⟩
    have b1 := Int.emod_nonneg (y * 31051 + 7993) (show (2147483543 : Int) ≠ 0 by decide)
    have b2 := Int.emod_lt_of_pos (y * 31051 + 7993) (show (0 : Int) < 2147483543 by decide)
    have e : (2 : Int) ^ 64 = 18446744073709551616 := by decide
    rw [e]
    omega
theorem len_lst {S : Sto} {xs : List D} : fnD S .len [.lst xs] = some (.int xs.length) := rfl
theorem len_tup {S : Sto} {xs : List D} : fnD S .len [.tup xs] = some (.int xs.length) := rfl
theorem some_lst {T : List Fd} {k f g : Nat} (hT : T[f]? = some ⟨2, 2, bSome g⟩) (hR : T[g]? = some ⟨2, 4, bRoll⟩) {a : Addr} {S : Sto} {x y : Int} {xs : List D} {Q : WQ} (hS : S a = some (cupO x y)) (h0 : 0 < xs.length) (h1 : xs.length < 1073741824)
    (q : ∀ d x' y', d ∈ xs → Q d (S.put a (cupO x' y'))) : callW T (k + 2) f [.ref a, .lst xs] S Q := by
  refine callW_at hT rfl ?_
  show wB _ (bSome g) [some (.ref a), some (.lst xs)] _ _
  simp only [bSome, wB, wS, PL.wE, wXs, getV, List.getElem?_cons_zero, List.getElem?_cons_succ, opt_some, len_lst]
  refine roll_ok hR hS (by omega) (by omega) fun r x' y' hr1 hr2 => ?_
  have hlt : r.toNat < xs.length := by omega
  have e : atI xs r = some xs[r.toNat] := by
    have e1 := atI_nat (j := r.toNat) (List.getElem?_eq_getElem hlt)
    rw [show ((r.toNat : Nat) : Int) = r by omega] at e1
    exact e1
  simp only [idxD, e, opt_some]
  exact rt_of (q _ _ _ (List.getElem_mem hlt))
theorem cup_ok {T : List Fd} {k f : Nat} (hT : T[f]? = some ⟨1, 2, bCup⟩) {S : Sto} {ns : List Int} {Q : WQ} (hl : ns.length ≤ 63) (q : ∀ a x y, S a = none → Q (.ref a) (S.put a (cupO x y))) : callW T (k + 1) f [.scr ns] S Q := by
  refine callW_at hT rfl ?_
  show wB _ bCup [some (.scr ns), none] _ _
  have hat : ∃ z, atI (ns.map D.int ++ [.int 0]) 0 = some (.int z) := by
    cases ns with
    | nil => exact ⟨0, atI0⟩
    | cons n r => exact ⟨n, atI0⟩
  obtain ⟨z, hz⟩ := hat
  simp only [bCup, wB, wS, PL.wE, PL.wT, wL, wXs, wG, getV, List.getElem?_cons_zero, List.getElem?_cons_succ, lstD, seqD, itemsD, opt_some, opt_ifc, opt_ite, idxD, hz, fnD, binD, cmpD, List.length_append, List.length_map, List.length_cons, List.length_nil, List.set_cons_succ, List.set_cons_zero, ite_dec]
  have hz2 : ns.length + 1 ≤ sizeLine := Nat.le_trans (Nat.succ_le_succ hl) (by decide)
  refine ⟨by decide, hz2, ?_⟩
  generalize (if z < 0 then -z else z) = c
  split
  · refine ⟨by decide, by decide, .inr (by decide), by decide, by decide, fun p hp => rt_of (q p _ _ hp)⟩
  · refine ⟨by decide, .inr (by decide), by decide, by decide, fun p hp => rt_of (q p _ _ hp)⟩
theorem eqD_nil {xs : List D} : eqD (.tup xs) (.tup []) = xs.isEmpty := by cases xs <;> rfl
theorem Tell.ok60 {n w : Nat} {d : D} (h : Tell n w d) (a : n ≤ 60 := by omega) : okD 60 d = true := okD50 a h.ok
theorem cmp_nil {n w : Nat} {xs : List D} (h : Tell n w (.tup xs)) (a : n ≤ 60 := by omega) : cmpD .Eq (.tup xs) (.tup []) = some xs.isEmpty := by
  show (if _ then _ else _) = _
  rw [if_pos ⟨h.ok60 a, rfl⟩, eqD_nil]
theorem fn_repr {n w : Nat} {S : Sto} {d : D} (h : Tell n w d) (a : n ≤ 60 := by omega) (b : w ≤ 1000000 := by omega) : fnD S .repr [d] = some (.str (rp d)) := reprD_of h a b
theorem atI_last {xs : List D} {x : D} : atI (xs ++ [x]) (-1) = some x := by
  have e : ixN (xs ++ [x]).length (-1) = some xs.length := by
    unfold ixN
    simp
    omega
  unfold atI
  rw [e]
  simp
theorem tru_bl (b : Bool) (S : Sto) : truD S (.bl b) = some b := rfl
theorem tru_int (i : Int) (S : Sto) : truD S (.int i) = some (i != 0) := rfl
theorem tru_tup (xs : List D) (S : Sto) : truD S (.tup xs) = some !xs.isEmpty := rfl
theorem tru_lst (xs : List D) (S : Sto) : truD S (.lst xs) = some !xs.isEmpty := rfl
theorem tru_non (S : Sto) : truD S .non = some false := rfl
theorem b_add (i j : Int) : binD .Add (.int i) (.int j) = some (.int (i + j)) := rfl
theorem b_sub (i j : Int) : binD .Sub (.int i) (.int j) = some (.int (i - j)) := rfl
theorem b_mul (i j : Int) : binD .Mult (.int i) (.int j) = ifc ((-(2 ^ 64) < i ∧ i < 2 ^ 64) ∨ (-(2 ^ 64) < j ∧ j < 2 ^ 64)) (.int (i * j)) := rfl
theorem b_rep (xs : List D) (n : Int) : binD .Mult (.tup xs) (.int n) = ifc (2 ≤ n ∧ n ≤ 1000000 ∧ n.toNat * xs.length ≤ 1000000) (.tup (List.replicate n.toNat xs).flatten) := rfl
theorem b_mulz (z : Str) (n : Int) : binD .Mult (.str z) (.int n) = ifc (2 ≤ n ∧ n ≤ 1000 ∧ 1 ≤ z.length ∧ z.length ≤ 1000) (.str (Txt.mul z n)) := rfl
theorem b_fdv (i j : Int) : binD .FloorDiv (.int i) (.int j) = ifc (0 < j ∧ j < 1073741824) (.int (i / j)) := rfl
theorem b_mod (i j : Int) : binD .Mod (.int i) (.int j) = ifc (0 < j) (.int (i % j)) := rfl
theorem b_pow (i j : Int) : binD .Pow (.int i) (.int j) = ifc (0 ≤ j ∧ j ≤ 1000000 ∧ i.natAbs < 2 ^ 64) (.int (i ^ j.toNat)) := rfl
theorem b_adds (x y : Str) : binD .Add (.str x) (.str y) = if x.length + y.length ≤ sizeLine then some (.str (x ++ y)) else none := rfl
theorem b_addt (xs ys : List D) : binD .Add (.tup xs) (.tup ys) = if xs.length + ys.length ≤ sizeLine then some (.tup (xs ++ ys)) else none := rfl
theorem c_eq (i j : Int) : cmpD .Eq (.int i) (.int j) = some (decide (i = j)) := rfl
theorem c_ne (i j : Int) : cmpD .NotEq (.int i) (.int j) = some (!decide (i = j)) := rfl
theorem c_lt (i j : Int) : cmpD .Lt (.int i) (.int j) = some (decide (i < j)) := rfl
theorem c_le (i j : Int) : cmpD .LtE (.int i) (.int j) = some (decide (i ≤ j)) := rfl
theorem c_gt (i j : Int) : cmpD .Gt (.int i) (.int j) = some (decide (j < i)) := rfl
theorem c_ge (i j : Int) : cmpD .GtE (.int i) (.int j) = some (decide (j ≤ i)) := rfl
theorem c_eqs (i j : Str) : cmpD .Eq (.str i) (.str j) = some (decide (i = j)) := rfl
theorem c_nes (i j : Str) : cmpD .NotEq (.str i) (.str j) = some (!decide (i = j)) := rfl
theorem c_isn (x : D) : cmpD .Is x .non = some (isNon x) := by cases x <;> rfl
theorem c_ins (x : D) : cmpD .IsNot x .non = some (!isNon x) := by cases x <;> rfl
theorem c_isb (a b : Bool) : cmpD .Is (.bl a) (.bl b) = some (decide (a = b)) := rfl
theorem c_isb2 (a b : Bool) : cmpD .IsNot (.bl a) (.bl b) = some (!decide (a = b)) := rfl
theorem c_int (x : D) (ys : List D) : cmpD .In x (.tup ys) = if okD 50 x = true ∧ okD 60 (.tup ys) = true then some (ys.any fun y => eqD y x) else none := by cases x <;> rfl
theorem c_nint (x : D) (ys : List D) : cmpD .NotIn x (.tup ys) = if okD 50 x = true ∧ okD 60 (.tup ys) = true then some (!ys.any fun y => eqD y x) else none := by cases x <;> rfl
theorem c_inl (x : D) (ys : List D) : cmpD .In x (.lst ys) = if okD 50 x = true ∧ okD 60 (.lst ys) = true then some (ys.any fun y => eqD y x) else none := by cases x <;> rfl
theorem c_ninl (x : D) (ys : List D) : cmpD .NotIn x (.lst ys) = if okD 50 x = true ∧ okD 60 (.lst ys) = true then some (!ys.any fun y => eqD y x) else none := by cases x <;> rfl
theorem f_abs (S : Sto) (n : Int) : fnD S .abs [.int n] = some (.int (if n < 0 then -n else n)) := rfl
theorem f_int (S : Sto) (n : Int) : fnD S .int [.int n] = some (.int n) := rfl
theorem f_intb (S : Sto) (b : Bool) : fnD S .int [.bl b] = some (.int (if b then 1 else 0)) := rfl
theorem f_str (S : Sto) (n : Int) : fnD S .str [.int n] = if n.natAbs.log2 < 1920 then some (.str (toString n)) else none := rfl
theorem f_lens (S : Sto) (z : Str) : fnD S .len [.str z] = if z.length ≤ sizeLine then some (.int z.length) else none := rfl
theorem f_lent (S : Sto) (xs : List D) : fnD S .len [.tup xs] = some (.int xs.length) := rfl
theorem f_lenl (S : Sto) (xs : List D) : fnD S .len [.lst xs] = some (.int xs.length) := rfl
theorem f_tupl (S : Sto) (xs : List D) : fnD S .tuple [.lst xs] = some (.tup xs) := rfl
theorem f_tupt (S : Sto) (xs : List D) : fnD S .tuple [.tup xs] = some (.tup xs) := rfl
theorem f_max2 (S : Sto) (n m : Int) : fnD S .max2 [.int n, .int m] = some (.int (if m > n then m else n)) := rfl
theorem f_min2 (S : Sto) (n m : Int) : fnD S .min2 [.int n, .int m] = some (.int (if m < n then m else n)) := rfl
theorem f_suml (S : Sto) (xs : List D) : fnD S .sum [.lst xs] = (intsOf xs).map fun ns => .int ns.sum := rfl
theorem f_alll (S : Sto) (xs : List D) : fnD S .all [.lst xs] = (boolsOf xs).map fun bs => .bl (bs.all id) := rfl
theorem f_anyl (S : Sto) (xs : List D) : fnD S .any [.lst xs] = (boolsOf xs).map fun bs => .bl (bs.any id) := rfl
theorem x_tup (S : Sto) (xs : List D) (i : Int) : idxD S (.tup xs) (.int i) = atI xs i := rfl
theorem x_lst (S : Sto) (xs : List D) (i : Int) : idxD S (.lst xs) (.int i) = atI xs i := rfl
theorem sq_tup (S : Sto) (xs : List D) : seqD S (.tup xs) = some xs := rfl
theorem sq_lst (S : Sto) (xs : List D) : seqD S (.lst xs) = some xs := rfl
theorem sq_scr (S : Sto) (ns : List Int) : seqD S (.scr ns) = some (ns.map .int) := rfl
theorem it_lst (S : Sto) (xs : List D) : itemsD S (.lst xs) = some xs := rfl
theorem atI2 {a b c : D} {r : List D} : atI (a :: b :: c :: r) 2 = some c := atI_nat (j := 2) rfl
theorem atI3 {a b c d : D} {r : List D} : atI (a :: b :: c :: d :: r) 3 = some d := atI_nat (j := 3) rfl
theorem atI4 {a b c d e : D} {r : List D} : atI (a :: b :: c :: d :: e :: r) 4 = some e := atI_nat (j := 4) rfl
theorem atI5 {a b c d e f : D} {r : List D} : atI (a :: b :: c :: d :: e :: f :: r) 5 = some f := atI_nat (j := 5) rfl
theorem atIm1 {a : D} : atI [a] (-1) = some a := rfl
theorem atIm2 {a b : D} : atI [a, b] (-1) = some b := rfl
theorem atIm3 {a b c : D} : atI [a, b, c] (-1) = some c := rfl
theorem atIm4 {a b c d : D} : atI [a, b, c, d] (-1) = some d := rfl
theorem gv0 {d : D} {σ : Ev} {Q : D → Prop} : getV (some d :: σ) 0 Q = Q d := rfl
theorem gvS {o : Option D} {σ : Ev} {i : Nat} {Q : D → Prop} : getV (o :: σ) (i + 1) Q = getV σ i Q := by
  unfold getV
  simp only [List.getElem?_cons_succ]
theorem tl_non : Tell 0 0 .non := .non
theorem tl_bl {b : Bool} : Tell 0 0 (.bl b) := .bl b
theorem tl_int {i : Int} (h : i.natAbs < 10 ^ 13) : Tell 0 0 (.int i) := .int h
theorem tl_str {x : Str} (h : PyData.strOk x = true) : Tell 0 x.length (.str x) := .str h (Nat.le_refl _)
theorem tl_nil : Tells 0 0 [] := .nil
theorem tl_cons {n w m v : Nat} {x : D} {xs : List D} (h : Tell n w x) (t : Tells m v xs) : Tells (max n m) (w + 1 + v) (x :: xs) :=
  .cons (h.mono (Nat.le_max_left _ _) (Nat.le_refl _)) (t.mono (Nat.le_max_right _ _) (Nat.le_refl _))
theorem tl_one {n w : Nat} {x : D} (h : Tell n w x) : Tells n (w + 1) [x] := Tells.cons (v := 0) h .nil
theorem Tells.app {n m v : Nat} {ys : List D} (t : Tells m v ys) : ∀ {xs : List D} {w : Nat}, Tells n w xs → Tells (max n m) (w + v) (xs ++ ys)
  | [], w, h => t.mono (Nat.le_max_right _ _) (by omega)
  | x :: xs, w, h => by
    have hx : Tell n (pyOf x).bulk x := by
      have a := h.ok; have b := h.sh; have c := h.lv
      unfold okDs at a; unfold pyOfs PyData.showableAll at b; unfold pyOfs PyData.leavesShortAll at c
      rw [Bool.and_eq_true] at a b c
      exact ⟨a.1, b.1, c.1, Nat.le_refl _⟩
    have hr : Tells n (PyData.bulkAll (pyOfs xs)) xs := by
      have a := h.ok; have b := h.sh; have c := h.lv
      unfold okDs at a; unfold pyOfs PyData.showableAll at b; unfold pyOfs PyData.leavesShortAll at c
      rw [Bool.and_eq_true] at a b c
      exact ⟨a.2, b.2, c.2, Nat.le_refl _⟩
    have e := h.bk
    unfold pyOfs PyData.bulkAll at e
    exact (Tells.cons (hx.mono (Nat.le_max_left _ _) (Nat.le_refl _)) (Tells.app (w := PyData.bulkAll (pyOfs xs)) t hr)).mono (Nat.le_refl _) (by omega)
theorem ls_tup (S : Sto) (xs : List D) : lstD S (.tup xs) = some xs := rfl
theorem ls_lst (S : Sto) (xs : List D) : lstD S (.lst xs) = some xs := rfl
theorem ls_scr (S : Sto) (ns : List Int) : lstD S (.scr ns) = some (ns.map .int) := rfl
theorem ls_str (S : Sto) (z : Str) (h : z.length ≤ sizeLine) : lstD S (.str z) = some (z.cps.toList.map fun c => .str ⟨#[c]⟩) := if_pos h
theorem m_join {S : Sto} {a : Str} {xs : List D} {ys : List Str} (e : strsOf xs = some ys) (h : (ys.map (·.length)).sum + ys.length * a.length ≤ 16777216) : mtD S .join (.str a) [.lst xs] = some (.str (Txt.join a ys)) := by
  unfold mtD
  simp only [sq_lst, Option.bind_some, e]
  rw [if_pos h]
theorem m_starts (S : Sto) (a b : Str) : mtD S .startswith (.str a) [.str b] = some (.bl (Txt.startswith a b)) := rfl
theorem is_str (a : Str) : isStr (.str a) = True := rfl
end
end PL
/-! PL: more rules: while loops, slices, texts that are joined, words. -/
namespace PL
open PySem L2
section
/-- a while loop by a measure -/
theorem whl_meas {test : Ev → Sto → (Bool → Sto → Prop) → Prop} {body : Ev → Sto → En → Prop} {E : En} (I : Nat → Ev → Sto → Prop)
    (step : ∀ m σ S, I m σ S → ∀ E' : En, (∀ j, j < m → ∀ σ S, I j σ S → E'.nx σ S) → (∀ j, j < m → ∀ σ S, I j σ S → E'.ct σ S) → (∀ σ S, E.nx σ S → E'.bk σ S) → (∀ d S, E.rt d S → E'.rt d S) →
      test σ S fun b S' => if b = true then body σ S' E' else E.nx σ S') {m : Nat} {σ : Ev} {S : Sto} (h : I m σ S) : ∃ n, whlLoop test body E n σ S := by
  have key : ∀ n m σ S, m < n → I m σ S → whlLoop test body E n σ S := by
    intro n
    induction n with
    | zero => exact fun m σ S l => absurd l (Nat.not_lt_zero m)
    | succ n ih =>
      intro m σ S l i
      unfold whlLoop
      exact step m σ S i _ (fun j lj σ S i' => ih j σ S (by omega) i') (fun j lj σ S i' => ih j σ S (by omega) i') (fun _ _ q => q) (fun _ _ q => q)
  exact ⟨m + 1, key _ m σ S (Nat.lt_succ_self m) h⟩
theorem cutL_from {α : Type} {xs : List α} {k : Nat} (h : k ≤ xs.length) : cutL xs (some (k : Int)) none = xs.drop k := by
  unfold cutL
  rw [HT.sIx_nat, HT.sIx_none, Nat.min_eq_left h]
  exact List.take_of_length_le (by rw [List.length_drop]; exact Nat.le_refl _)
theorem cutL_to {α : Type} {xs : List α} {k : Nat} : cutL xs none (some (k : Int)) = xs.take k := by
  unfold cutL
  rw [HT.sIx_nat, HT.sIx_none, List.drop_zero, Nat.sub_zero]
  by_cases h : k ≤ xs.length
  · rw [Nat.min_eq_left h]
  · rw [Nat.min_eq_right (by omega), List.take_of_length_le (Nat.le_refl _), List.take_of_length_le (by omega)]
theorem eqD_nilL {xs : List D} : eqD (.lst xs) (.lst []) = xs.isEmpty := by cases xs <;> rfl
theorem cmp_nilL {n w : Nat} {xs : List D} (h : Tell n w (.lst xs)) (a : n ≤ 60 := by omega) : cmpD .Eq (.lst xs) (.lst []) = some xs.isEmpty := by
  show (if _ then _ else _) = _
  rw [if_pos ⟨h.ok60 a, rfl⟩, eqD_nilL]
theorem c_nilL {xs : List D} (h : okD 60 (.lst xs) = true) : cmpD .Eq (.lst xs) (.lst []) = some xs.isEmpty := by
  show (if _ then _ else _) = _
  rw [if_pos ⟨h, rfl⟩, eqD_nilL]
theorem okDs_of {n : Nat} : ∀ {xs : List D}, (∀ x ∈ xs, okD n x = true) → okDs n xs = true
  | [], _ => by simp [okDs]
  | x :: xs, h => by
    unfold okDs
    rw [h x List.mem_cons_self, okDs_of fun y hy => h y (List.mem_cons_of_mem _ hy)]
    rfl
theorem c_sl {xs : List D} (lo hi : Option Int) : slcD (.tup xs) lo hi = some (.tup (cutL xs lo hi)) := rfl

/-! ### texts that are joined -/
def sok (z : Str) : Prop := ∀ c ∈ z.cps.toList, c < 0x110000
theorem sok_of {z : Str} (h : sok z) : PyData.strOk z = true := by
  unfold PyData.strOk
  refine Array.all_eq_true_iff_forall_mem.mpr fun c hc => ?_
  have := h c (by simpa using hc)
  simpa using this
theorem of_sok {z : Str} (h : PyData.strOk z = true) : sok z := by
  intro c hc
  unfold PyData.strOk at h
  have := Array.all_eq_true_iff_forall_mem.mp h c (by simpa using hc)
  simpa using this
theorem glued_ok {a : Str} : ∀ {ys : List Str} {acc : Array Nat}, (∀ c ∈ acc.toList, c < 0x110000) → sok a → (∀ y ∈ ys, sok y) → ∀ c ∈ (ys.foldl (fun acc (p : Str) => acc ++ a.cps ++ p.cps) acc).toList, c < 0x110000
  | [], acc, h, _, _ => h
  | y :: ys, acc, h, ha, hy => by
    rw [List.foldl_cons]
    refine glued_ok (fun c hc => ?_) ha fun z hz => hy z (List.mem_cons_of_mem _ hz)
    rw [Array.toList_append, Array.toList_append, List.mem_append, List.mem_append] at hc
    rcases hc with (hc | hc) | hc
    · exact h c hc
    · exact ha c hc
    · exact hy y List.mem_cons_self c hc
theorem join_sok {a : Str} {ys : List Str} (ha : sok a) (h : ∀ y ∈ ys, sok y) : sok (Txt.join a ys) := by
  show ∀ c ∈ ((ys.drop 1).foldl (fun acc (p : Str) => acc ++ a.cps ++ p.cps) (ys.headD Str.empty).cps).toList, c < 0x110000
  refine glued_ok ?_ ha fun y hy => h y (List.mem_of_mem_drop hy)
  cases ys with
  | nil => intro c hc; cases hc
  | cons y r => exact h y List.mem_cons_self
theorem join_len {a : Str} {ys : List Str} : (Txt.join a ys).length ≤ (ys.map (·.length)).sum + ys.length * a.length := by
  rw [show Txt.join a ys = Str.join a ys from StrLaws.glued_eq_join a ys]
  exact StrLaws.join_length_le a ys
/-- texts of at most so many signs -/
def short (n : Nat) : D → Bool
  | .str z => PyData.strOk z && decide (z.length ≤ n)
  | _ => false
theorem short_str {n : Nat} {d : D} (h : short n d = true) : ∃ z, d = .str z ∧ PyData.strOk z = true ∧ z.length ≤ n := by
  cases d with
  | str z =>
    unfold short at h
    rw [Bool.and_eq_true, decide_eq_true_eq] at h
    exact ⟨z, rfl, h⟩
  | _ => cases h
theorem short_tell {n : Nat} {d : D} (h : short n d = true) : Tell 0 n d := by
  obtain ⟨z, rfl, h1, h2⟩ := short_str h
  exact .str h1 h2
theorem short_ok {n k : Nat} {d : D} (h : short n d = true) : okD k d = true := okD50 (Nat.zero_le k) (short_tell h).ok
theorem strs_short {n : Nat} : ∀ {xs : List D}, (∀ x ∈ xs, short n x = true) → ∃ ys, strsOf xs = some ys ∧ ys.length = xs.length ∧ (∀ y ∈ ys, sok y) ∧ (ys.map (·.length)).sum ≤ xs.length * n
  | [], _ => ⟨[], rfl, rfl, by simp, by simp⟩
  | x :: xs, h => by
    obtain ⟨z, rfl, h1, h2⟩ := short_str (h x List.mem_cons_self)
    obtain ⟨ys, e, l, s, m⟩ := strs_short fun y hy => h y (List.mem_cons_of_mem _ hy)
    refine ⟨z :: ys, by unfold strsOf; rw [e]; rfl, by simp [l], ?_, ?_⟩
    · intro y hy
      rcases List.mem_cons.mp hy with rfl | hy
      · exact of_sok h1
      · exact s y hy
    · rw [List.map_cons, List.sum_cons, List.length_cons, Nat.succ_mul]
      omega
/-- short texts, joined without a sign between -/
theorem join_short {S : Sto} {n m : Nat} {xs : List D} (h : ∀ x ∈ xs, short n x = true) (l : xs.length * n ≤ m) (hm : m ≤ 1000000) : ∃ z, mtD S .join (.str "") [.lst xs] = some (.str z) ∧ short m (.str z) = true := by
  obtain ⟨ys, e, el, s, q⟩ := strs_short h
  have e0 : ("" : Str).length = 0 := rfl
  refine ⟨Txt.join "" ys, m_join e (by rw [e0]; omega), ?_⟩
  have h1 := join_len (a := "") (ys := ys)
  rw [e0] at h1
  show (PyData.strOk _ && decide _) = true
  rw [sok_of (join_sok (fun c hc => by cases hc) s)]
  simp only [Bool.true_and, decide_eq_true_eq]
  omega
theorem i_tt (xs : List D) : isiD (.tup xs) "tuple" = some true := rfl
theorem i_ti (i : Int) : isiD (.int i) "tuple" = some false := rfl
theorem i_ts (z : Str) : isiD (.str z) "tuple" = some false := rfl
theorem i_tb (b : Bool) : isiD (.bl b) "tuple" = some false := rfl
theorem i_tn : isiD .non "tuple" = some false := rfl
theorem i_bi (i : Int) : isiD (.int i) "bool" = some false := rfl
theorem i_bs (z : Str) : isiD (.str z) "bool" = some false := rfl
theorem i_bb (b : Bool) : isiD (.bl b) "bool" = some true := rfl
theorem i_bn : isiD .non "bool" = some false := rfl
theorem i_ii (i : Int) : isiD (.int i) "int" = some true := rfl
theorem i_is (z : Str) : isiD (.str z) "int" = some false := rfl
theorem i_ib (b : Bool) : isiD (.bl b) "int" = some true := rfl
theorem i_in : isiD .non "int" = some false := rfl
theorem i_si (i : Int) : isiD (.int i) "str" = some false := rfl
theorem i_ss (z : Str) : isiD (.str z) "str" = some true := rfl
theorem i_sb (b : Bool) : isiD (.bl b) "str" = some false := rfl
theorem i_sn : isiD .non "str" = some false := rfl
theorem c_eqb (a b : Bool) : cmpD .Eq (.bl a) (.bl b) = some (a == b) := by cases a <;> cases b <;> rfl
theorem c_neb (a b : Bool) : cmpD .NotEq (.bl a) (.bl b) = some (a != b) := by cases a <;> cases b <;> rfl
theorem n_int (i : Int) : isNon (.int i) = false := rfl
theorem n_str (i : Str) : isNon (.str i) = false := rfl
theorem n_bl (i : Bool) : isNon (.bl i) = false := rfl
theorem n_tup (i : List D) : isNon (.tup i) = false := rfl
theorem n_non : isNon .non = true := rfl
theorem setS_ref {S : Sto} {a : Addr} {xs : List D} {k : Int} {j : Nat} {v : D} {Q : Sto → Prop} (h : S a = some (.lst xs)) (hk : ixN xs.length k = some j) (q : Q (S.put a (.lst (xs.set j v)))) : setS S (.ref a) (.int k) v Q := by
  rw [setS_lst h hk]
  exact q
theorem appS_ref {S : Sto} {a : Addr} {xs : List D} {v : D} {Q : Sto → Prop} (h : S a = some (.lst xs)) (hl : xs.length < sizeLine) (q : Q (S.put a (.lst (xs ++ [v])))) : appS S (.ref a) v Q := by
  unfold appS
  simp only [h]
  exact ⟨hl, q⟩
theorem lstAt_ref {S : Sto} {a : Addr} {xs : List D} (h : S a = some (.lst xs)) : lstAt S (.ref a) = True := by
  unfold lstAt
  simp only [h]
theorem it_ref {S : Sto} {a : Addr} {xs : List D} (h : S a = some (.lst xs)) : itemsD S (.ref a) = some xs := by
  unfold itemsD
  simp only [h]
theorem f_tupr {S : Sto} {a : Addr} {xs : List D} (h : S a = some (.lst xs)) : fnD S .tuple [.ref a] = some (.tup xs) := by
  show (itemsD S (.ref a)).map _ = _
  rw [it_ref h]
  rfl
theorem f_lenr {S : Sto} {a : Addr} {xs : List D} (h : S a = some (.lst xs)) : fnD S .len [.ref a] = some (.int xs.length) := by
  show (itemsD S (.ref a)).map _ = _
  rw [it_ref h]
  rfl
theorem ne_of_none {S : Sto} {a b : Addr} {o : Ob} (ha : S a = none) (hb : S b = some o) : b ≠ a := fun e => by rw [e, ha] at hb; cases hb
theorem le_none {S S' : Sto} {a : Addr} (l : S.le S') (h : S' a = none) : S a = none := by
  cases e : S a with
  | none => rfl
  | some o => rw [l a o e] at h; cases h
/-- a place that the old store did not know may change -/
theorem le_put2 {S S' : Sto} {a : Addr} {o : Ob} (l : S.le S') (h : S a = none) : S.le (S'.put a o) := fun b u e => by
  rw [Sto.put_ne (fun e2 => by rw [e2, h] at e; cases e)]
  exact l b u e
theorem lc_mapm {β : Type} {G : Sto → Prop} {body : D → Sto → (Option D → Sto → Prop) → Prop} {g f : β → D} {S : Sto} (hG : G S) : ∀ {items : List β} {acc : List D} {Q : List D → Sto → Prop}, (∀ x ∈ items, ∀ k : Option D → Sto → Prop, k (some (f x)) S → body (g x) S k) → Q (acc ++ items.map f) S → lcLoop G body (items.map g) acc S Q
  | [], acc, Q, _, q => ⟨hG, by simpa using q⟩
  | x :: xs, acc, Q, h, q => ⟨hG, h x List.mem_cons_self _ (lc_mapm hG (fun y hy => h y (List.mem_cons_of_mem _ hy)) (by simpa [List.append_assoc] using q))⟩
theorem lc_filterm {β : Type} {G : Sto → Prop} {body : D → Sto → (Option D → Sto → Prop) → Prop} {g : β → D} {f : β → Option D} {S : Sto} (hG : G S) : ∀ {items : List β} {acc : List D} {Q : List D → Sto → Prop}, (∀ x ∈ items, ∀ k : Option D → Sto → Prop, k (f x) S → body (g x) S k) → Q (acc ++ items.filterMap f) S → lcLoop G body (items.map g) acc S Q
  | [], acc, Q, _, q => ⟨hG, by simpa using q⟩
  | x :: xs, acc, Q, h, q => ⟨hG, h x List.mem_cons_self _ (by
      refine lc_filterm hG (fun y hy => h y (List.mem_cons_of_mem _ hy)) ?_
      rw [List.filterMap_cons] at q
      cases e : f x with
      | none => rw [e] at q; exact q
      | some z => rw [e] at q; simpa [List.append_assoc] using q)⟩
/-- a for loop over a list of typed things, by an invariant of those that were walked -/
theorem for_pre {β : Type} {all : List β} {G : Sto → Prop} {body : D → Ev → Sto → En → Prop} {E : En} {g : β → D} (I : List β → Ev → Sto → Prop) (hG : ∀ p σ S, I p σ S → G S) : ∀ {items : List β} {pre : List β} {σ : Ev} {S : Sto}, all = pre ++ items → I pre σ S →
    (∀ p x r, all = p ++ x :: r → ∀ σ S, I p σ S → ∀ E' : En, (∀ σ S, I (p ++ [x]) σ S → E'.nx σ S) → (∀ σ S, I (p ++ [x]) σ S → E'.ct σ S) → (∀ σ S, E.nx σ S → E'.bk σ S) → (∀ d S, E.rt d S → E'.rt d S) → body (g x) σ S E') → (∀ σ S, I all σ S → E.nx σ S) → forLoop G body E (items.map g) σ S
  | [], pre, σ, S, ha, i, _, q => ⟨hG _ _ _ i, q _ _ (by rw [ha, List.append_nil]; exact i)⟩
  | x :: xs, pre, σ, S, ha, i, h, q => by
    have nxt : ∀ σ' S', I (pre ++ [x]) σ' S' → forLoop G body E (xs.map g) σ' S' := fun σ' S' i' =>
      for_pre I hG (by rw [ha]; simp) i' h q
    exact ⟨hG _ _ _ i, h pre x xs ha σ S i _ nxt nxt (fun _ _ q => q) (fun _ _ q => q)⟩
theorem pre_mem {β : Type} {all p r : List β} {x : β} (h : all = p ++ x :: r) : x ∈ all ∧ (∀ y ∈ p, y ∈ all) ∧ p.length < all.length := by
  subst h
  refine ⟨by simp, fun y hy => by simp [hy], by simp⟩
theorem m_index {S : Sto} {a b : Str} {i : Nat} {r : List Nat} (h : Builtin.Str.occurrences a b 0 a.length 1 = i :: r) : mtD S .index (.str a) [.str b] = some (.int (i : Nat)) := by
  unfold mtD
  simp only [h]
theorem wB_seq {C : CallW} {s : Sm} {b : Bk} {σ : Ev} {S : Sto} {E : En} : wB C (.cons s b) σ S E = wS C s σ S { E with nx := fun σ1 S1 => wB C b σ1 S1 E } := by
  cases b with
  | nil =>
    unfold wB
    rfl
  | cons t r => rw [wB]; exact fun h => nomatch h
theorem eqD_ints : ∀ {xs ys : List Int}, eqDs (xs.map D.int) (ys.map D.int) = decide (xs = ys)
  | [], [] => rfl
  | [], _ :: _ => by simp [eqDs]
  | _ :: _, [] => by simp [eqDs]
  | x :: xs, y :: ys => by
    rw [List.map_cons, List.map_cons]
    unfold eqDs
    rw [eqD_ints]
    unfold eqD
    by_cases h : x = y <;> by_cases h2 : xs = ys <;> simp [h, h2]
theorem okD_ints {n : Nat} {xs : List Int} : okD (n + 1) (.tup (xs.map D.int)) = true := okDs_of fun x hx => by
  rw [List.mem_map] at hx
  obtain ⟨i, _, rfl⟩ := hx
  cases n <;> rfl
theorem c_ints {xs ys : List Int} : cmpD .Eq (.tup (xs.map D.int)) (.tup (ys.map D.int)) = some (decide (xs = ys)) := by
  show (if _ then _ else _) = _
  rw [if_pos ⟨okD_ints, okD_ints⟩, show eqD (.tup (xs.map D.int)) (.tup (ys.map D.int)) = eqDs (xs.map D.int) (ys.map D.int) by unfold eqD; rfl, eqD_ints]
theorem cutL_map {α β : Type} {f : α → β} {xs : List α} {lo hi : Option Int} : cutL (xs.map f) lo hi = (cutL xs lo hi).map f := by
  unfold cutL
  rw [List.length_map, List.map_take, List.map_drop]
end
end PL
/-! PL: the program's values as octets, and back. -/
namespace PL.Cod
open PySem L2 PL
local macro_rules | `(tactic| walk_at "wp") => `(tactic| try simp only [decide_true, decide_false, Bool.not_true, Bool.not_false, Bool.false_eq_true, if_true, if_false, true_and, and_true, not_true, not_false_iff, wB, wS, PL.wE, PL.wT, wL, wXs, wPo, wG, wGs, wI, gv0, gvS, opt_some, opt_none, opt_ifc, opt_ite, opt_map, setAll, Gs.len, atI0, atI1, List.length_map, List.length_append, List.length_cons, List.length_nil, wipeD, List.map_cons, List.map_nil, i_tt, i_ti, i_ts, i_tb, i_tn, i_bi, i_bs, i_bb, i_bn, i_ii, i_is, i_ib, i_in, i_si, i_ss, i_sb, i_sn, c_eqb, c_neb, n_int, n_str, n_bl, n_tup, n_non, c_sl, beq_self_eq_true, bne_self_eq_false, ls_tup, ls_lst, ls_scr, m_starts, is_str, ite_dec, ite_ndec, List.set_cons_succ, List.set_cons_zero, tru_bl, tru_int, tru_tup, tru_lst, tru_non, b_add, b_sub, b_mul, b_rep, b_fdv, b_mod, b_pow, b_adds, b_addt, c_eq, c_ne, c_lt, c_le, c_gt, c_ge, c_eqs, c_nes, c_isn, c_ins, c_isb, c_isb2, c_int, c_nint, c_inl, c_ninl, f_abs, f_int, f_intb, f_str, f_lens, f_lent, f_lenl, f_tupl, f_tupt, f_max2, f_min2, f_suml, f_alll, f_anyl, x_tup, x_lst, sq_tup, sq_lst, sq_scr, it_lst, atI2, atI3, atI4, atI5, atIm1, atIm2, atIm3, atIm4])
local macro_rules | `(tactic| walk_at "sd") => `(tactic| first | decide | exact .inr (by decide) | exact .inl (by decide) | (simp only [sizeLine] at *; omega))
local macro_rules | `(tactic| walk_at "tl") => `(tactic| repeat' first | assumption | exact tl_non | exact tl_bl | exact tl_nil | apply tl_one | apply tl_cons | apply Tell.tup | apply Tell.lst | (apply tl_str; decide +kernel) | (apply tl_int; first | decide | omega))
local macro_rules | `(tactic| walk_at "tell") => `(tactic| exact Tell.mono (by walk_at "tl") (by first | decide | omega) (by first | decide | omega))
def bDigL : Bk := (.cons (.par [1, 0] (.cons (.bin .Add (.tup (.cons (.bin .Mod (.var 0) (.lit (.int 256))) .nil)) (.var 1)) (.cons (.bin .FloorDiv (.var 0) (.lit (.int 256))) .nil)))
    .nil)
def bDig : Bk := (.cons (.asg (.nam 1) (.tup .nil))
    (.cons (.whl (.cmp .Gt (.var 0) (.lit (.int 0))) bDigL)
    (.cons (.ret (.var 1))
    .nil)))
def bNumL : Bk := (.cons (.asg (.nam 1) (.bin .Add (.bin .Mult (.lit (.int 256)) (.var 1)) (.var 2)))
    .nil)
def bNum : Bk := (.cons (.asg (.nam 1) (.lit (.int 0)))
    (.cons (.for_ (.nam 2) (.tup (.var 0)) bNumL)
    (.cons (.ret (.var 1))
    .nil)))
def bPla (b : Nat) : Bk := (.cons (.ite (.cmp .Is (.var 0) (.lit (.non))) (.cons (.ret (.tup (.cons (.lit (.int 0)) .nil)))
    .nil) .nil)
    (.cons (.ite (.val (.isi (.var 0) "bool")) (.cons (.ret (.ite (.val (.var 0)) (.tup (.cons (.glo "TRUE" (.int 5)) .nil)) (.tup (.cons (.glo "FALSE" (.int 6)) .nil))))
    .nil) .nil)
    (.cons (.ite (.val (.isi (.var 0) "int")) (.cons (.asg (.nam 1) (.call (b + 0) (.cons (.fn .abs (.cons (.var 0) .nil)) .nil)))
    (.cons (.ret (.bin .Add (.tup (.cons (.ite (.cmp .GtE (.var 0) (.lit (.int 0))) (.lit (.int 1)) (.lit (.int 2))) (.cons (.fn .len (.cons (.var 1) .nil)) .nil))) (.var 1)))
    .nil)) .nil)
    (.cons (.ret (.bin .Add (.tup (.cons (.lit (.int 3)) (.cons (.fn .len (.cons (.var 0) .nil)) .nil))) (.fn .tuple (.cons (.frz (.lc [("sign", 2)] (.nam 2) (.str (.var 0)) .yes (.bin .Add (.mtd .index (.glo "SIGNS" (.str "0123456789abcdefghijklmnopqrstuvwxyz")) (.cons (.var 2) .nil)) (.lit (.int 1))))) .nil))))
    .nil))))
def bBy (b : Nat) : Bk := (.cons (.ite (.not (.val (.isi (.var 0) "tuple"))) (.cons (.ret (.call (b + 2) (.cons (.var 0) .nil)))
    .nil) .nil)
    (.cons (.asg (.nam 1) (.frz (.cat (.frz (.dsp (.cons (.tup (.cons (.lit (.int 4)) (.cons (.bin .FloorDiv (.fn .len (.cons (.var 0) .nil)) (.lit (.int 256))) (.cons (.bin .Mod (.fn .len (.cons (.var 0) .nil)) (.lit (.int 256))) .nil)))) .nil))) (.frz (.lc [("item", 2)] (.nam 2) (.tup (.var 0)) .yes (.call (b + 3) (.cons (.var 2) .nil)))))))
    (.cons (.ret (.fn .tuple (.cons (.frz (.lc2 [("part", 3), ("octet", 4)] [4] (.nam 3) (.lst (.var 1)) .yes (.nam 4) (.tup (.var 3)) .yes (.var 4))) .nil)))
    .nil)))
def bNatR (b : Nat) : Bk := (.cons (.asg (.nam 3) (.slc (.var 0) (.yes (.bin .Add (.var 1) (.lit (.int 2)))) (.yes (.bin .Add (.bin .Add (.var 1) (.lit (.int 2))) (.var 2)))))
    (.cons (.ite (.or (.cmp .Gt (.var 2) (.lit (.int 5))) (.or (.cmp .Lt (.fn .len (.cons (.var 3) .nil)) (.var 2)) (.or (.cmp .Eq (.slc (.var 3) .no (.yes (.lit (.int 1)))) (.tup (.cons (.lit (.int 0)) .nil))) (.and (.cmp .Eq (.idx (.var 0) (.var 1)) (.lit (.int 2))) (.cmp .Eq (.var 2) (.lit (.int 0))))))) (.cons (.ret (.lit (.non)))
    .nil) .nil)
    (.cons (.asg (.nam 4) (.call (b + 1) (.cons (.var 3) .nil)))
    (.cons (.ite (.cmp .Gt (.var 4) (.glo "GREATEST" (.int 1000000000000))) (.cons (.ret (.lit (.non)))
    .nil) .nil)
    (.cons (.ret (.tup (.cons (.ite (.cmp .Eq (.idx (.var 0) (.var 1)) (.lit (.int 1))) (.var 4) (.neg (.var 4))) (.cons (.bin .Add (.bin .Add (.var 1) (.lit (.int 2))) (.var 2)) .nil))))
    .nil)))))
def bNat (b : Nat) : Bk := (.cons (.asg (.nam 2) (.ite (.cmp .Lt (.bin .Add (.var 1) (.lit (.int 1))) (.fn .len (.cons (.var 0) .nil))) (.idx (.var 0) (.bin .Add (.var 1) (.lit (.int 1)))) (.lit (.int 99)))) (bNatR b))
def bTxtR : Bk := (.cons (.asg (.nam 3) (.slc (.var 0) (.yes (.bin .Add (.var 1) (.lit (.int 2)))) (.yes (.bin .Add (.bin .Add (.var 1) (.lit (.int 2))) (.var 2)))))
    (.cons (.ite (.or (.cmp .Gt (.var 2) (.glo "TEXT" (.int 100))) (.or (.cmp .Lt (.fn .len (.cons (.var 3) .nil)) (.var 2)) (.not (.val (.fn .all (.cons (.frz (.lc [("sign", 4)] (.nam 4) (.tup (.var 3)) .yes (.chn .LtE .LtE (.lit (.int 1)) (.var 4) (.fn .len (.cons (.glo "SIGNS" (.str "0123456789abcdefghijklmnopqrstuvwxyz")) .nil))))) .nil)))))) (.cons (.ret (.lit (.non)))
    .nil) .nil)
    (.cons (.ret (.tup (.cons (.mtd .join (.lit (.str "")) (.cons (.frz (.lc [("sign", 4)] (.nam 4) (.tup (.var 3)) .yes (.idx (.glo "SIGNS" (.str "0123456789abcdefghijklmnopqrstuvwxyz")) (.bin .Sub (.var 4) (.lit (.int 1)))))) .nil)) (.cons (.bin .Add (.bin .Add (.var 1) (.lit (.int 2))) (.var 2)) .nil))))
    .nil)))
def bTxt : Bk := (.cons (.asg (.nam 2) (.ite (.cmp .Lt (.bin .Add (.var 1) (.lit (.int 1))) (.fn .len (.cons (.var 0) .nil))) (.idx (.var 0) (.bin .Add (.var 1) (.lit (.int 1)))) (.lit (.int 999)))) (bTxtR))
def bItsL (b : Nat) : Bk := (.cons (.asg (.nam 7) (.call (b + 7) (.cons (.var 0) (.cons (.var 6) (.cons (.bin .Sub (.var 2) (.lit (.int 1))) .nil)))))
    (.cons (.ite (.cmp .Is (.var 7) (.lit (.non))) (.cons (.ret (.lit (.non)))
    .nil) .nil)
    (.cons (.expr (.app (.var 5) (.idx (.var 7) (.lit (.int 0)))))
    (.cons (.asg (.nam 6) (.idx (.var 7) (.lit (.int 1))))
    .nil))))
def bIts (b : Nat) : Bk := (.cons (.asg (.nam 3) (.call (b + 1) (.cons (.slc (.var 0) (.yes (.bin .Add (.var 1) (.lit (.int 1)))) (.yes (.bin .Add (.var 1) (.lit (.int 3))))) .nil)))
    (.cons (.ite (.or (.cmp .Eq (.var 2) (.lit (.int 0))) (.or (.cmp .Gt (.bin .Add (.var 1) (.lit (.int 3))) (.fn .len (.cons (.var 0) .nil))) (.cmp .Gt (.var 3) (.glo "ITEMS" (.int 10000))))) (.cons (.ret (.lit (.non)))
    .nil) .nil)
    (.cons (.par [5, 6] (.cons (.new (.dsp .nil)) (.cons (.bin .Add (.var 1) (.lit (.int 3))) .nil)))
    (.cons (.for_ (.nam 4) (.rng1 (.var 3)) (bItsL b))
    (.cons (.ret (.tup (.cons (.fn .tuple (.cons (.var 5) .nil)) (.cons (.var 6) .nil))))
    .nil)))))
def bVal (b : Nat) : Bk := (.cons (.ite (.or (.cmp .GtE (.var 1) (.fn .len (.cons (.var 0) .nil))) (.cmp .Gt (.idx (.var 0) (.var 1)) (.glo "FALSE" (.int 6)))) (.cons (.ret (.lit (.non)))
    .nil) .nil)
    (.cons (.ite (.cmp .In (.idx (.var 0) (.var 1)) (.tup (.cons (.lit (.int 0)) (.cons (.glo "TRUE" (.int 5)) (.cons (.glo "FALSE" (.int 6)) .nil))))) (.cons (.ret (.tup (.cons (.ite (.cmp .Eq (.idx (.var 0) (.var 1)) (.lit (.int 0))) (.lit (.non)) (.cmp .Eq (.idx (.var 0) (.var 1)) (.glo "TRUE" (.int 5)))) (.cons (.bin .Add (.var 1) (.lit (.int 1))) .nil))))
    .nil) .nil)
    (.cons (.ite (.cmp .In (.idx (.var 0) (.var 1)) (.tup (.cons (.lit (.int 1)) (.cons (.lit (.int 2)) .nil)))) (.cons (.ret (.call (b + 4) (.cons (.var 0) (.cons (.var 1) .nil))))
    .nil) .nil)
    (.cons (.ret (.ite (.cmp .Eq (.idx (.var 0) (.var 1)) (.lit (.int 3))) (.call (b + 5) (.cons (.var 0) (.cons (.var 1) .nil))) (.call (b + 6) (.cons (.var 0) (.cons (.var 1) (.cons (.var 2) .nil))))))
    .nil))))
/-- the program's eight functions stand at b, b + 1, .. -/
structure CodT (T : List Fd) (b : Nat) : Prop where
  t0 : T[b + 0]? = some ⟨1, 2, bDig⟩
  t1 : T[b + 1]? = some ⟨1, 3, bNum⟩
  t2 : T[b + 2]? = some ⟨1, 3, bPla b⟩
  t3 : T[b + 3]? = some ⟨1, 5, bBy b⟩
  t4 : T[b + 4]? = some ⟨2, 5, bNat b⟩
  t5 : T[b + 5]? = some ⟨2, 5, bTxt⟩
  t6 : T[b + 6]? = some ⟨3, 8, bIts b⟩
  t7 : T[b + 7]? = some ⟨3, 3, bVal b⟩
/-- octets of a number, the greatest first -/
def digs (n : Nat) : List Int := if h : n = 0 then [] else digs (n / 256) ++ [((n % 256 : Nat) : Int)]
termination_by n
decreasing_by omega
theorem digs_zero : digs 0 = [] := by
  unfold digs
  rfl
theorem digs_pos {n : Nat} (h : n ≠ 0) : digs n = digs (n / 256) ++ [((n % 256 : Nat) : Int)] := by
  conv => lhs; unfold digs
  rw [dif_neg h]
theorem digs_len : ∀ (k n : Nat), n < 256 ^ k → (digs n).length ≤ k
  | 0, n, h => by
    have : n = 0 := by simpa using h
    rw [this, digs_zero]
    exact Nat.le_refl _
  | k + 1, n, h => by
    by_cases hz : n = 0
    · rw [hz, digs_zero]
      exact Nat.zero_le _
    · rw [digs_pos hz, List.length_append]
      have := digs_len k (n / 256) (by
        rw [Nat.pow_succ] at h
        omega)
      simp only [List.length_cons, List.length_nil]
      omega
abbrev octs (ns : List Int) : D := .tup (ns.map .int)
variable {T : List Fd} {b : Nat}
theorem digits_ok (c : CodT T b) {k : Nat} {S : Sto} {n : Nat} {Q : WQ} (h : n < 256 ^ 8) (q : Q (octs (digs n)) S) : callW T (k + 1) (b + 0) [.int (n : Int)] S Q := by
  refine callW_at c.t0 rfl ?_
  show wB _ bDig [some (.int (n : Int)), none] _ _
  unfold bDig
  walk_at "wp"
  refine ⟨by decide, ?_⟩
  refine whl_meas (fun m σ S' => ∃ xs, S' = S ∧ σ = [some (.int (m : Int)), some (octs xs)] ∧ m ≤ n ∧ digs n = digs m ++ xs) ?_ (m := n) ⟨[], rfl, rfl, Nat.le_refl _, by simp⟩
  rintro m σ S' ⟨xs, rfl, rfl, hm, e⟩ E' nx - - -
  walk_at "wp"
  have hl := digs_len 8 n h
  rw [e, List.length_append] at hl
  by_cases hz : (0 : Int) < (m : Int)
  · simp only [hz, if_true]
    unfold bDigL
    walk_at "wp"
    refine ⟨by decide, by decide, by walk_at "sd", by decide, ?_⟩
    have hm0 : m ≠ 0 := by omega
    refine nx (m / 256) (by omega) _ _ ⟨((m % 256 : Nat) : Int) :: xs, rfl, ?_, by omega, ?_⟩
    · simp
    · rw [e, digs_pos hm0, List.append_assoc]
      rfl
  · simp only [hz, if_false]
    have : m = 0 := by omega
    subst this
    rw [digs_zero, List.nil_append] at e
    rw [← e]
    exact rt_of q
/-! ### signs -/
abbrev SG : Str := "0123456789abcdefghijklmnopqrstuvwxyz"
def sg : List Nat := SG.cps.toList
theorem sg_occ : ∀ c ∈ sg, Builtin.Str.occurrences SG ⟨#[c]⟩ 0 SG.length 1 = [sg.idxOf c] := by decide +kernel
theorem sg_at : ∀ c ∈ sg, sg[sg.idxOf c]? = some c ∧ sg.idxOf c < 36 ∧ c < 0x110000 := by decide +kernel
def cod (c : Nat) : Int := ((sg.idxOf c : Nat) : Int) + 1
mutual
def enc : D → List Int
  | .non => [0]
  | .bl true => [5]
  | .bl false => [6]
  | .int i => (if 0 ≤ i then 1 else 2) :: ((digs i.natAbs).length : Int) :: digs i.natAbs
  | .str z => 3 :: (z.length : Int) :: z.cps.toList.map cod
  | .tup xs => 4 :: ((xs.length / 256 : Nat) : Int) :: ((xs.length % 256 : Nat) : Int) :: encs xs
  | _ => []
def encs : List D → List Int
  | [] => []
  | x :: xs => enc x ++ encs xs
end
theorem encs_cons {x : D} {xs : List D} : encs (x :: xs) = enc x ++ encs xs := by
  conv => lhs; unfold encs
theorem encs_app : ∀ {xs ys : List D}, encs (xs ++ ys) = encs xs ++ encs ys
  | [], _ => rfl
  | x :: xs, ys => by
    rw [List.cons_append, encs_cons, encs_cons, encs_app, List.append_assoc]
/-- values that have octets, at most n deep -/
def okv : Nat → D → Prop
  | _, .non => True
  | _, .bl _ => True
  | _, .int i => i.natAbs ≤ 10 ^ 12
  | _, .str z => z.length ≤ 100 ∧ ∀ c ∈ z.cps.toList, c ∈ sg
  | n + 1, .tup xs => xs.length ≤ 10000 ∧ ∀ x ∈ xs, okv n x
  | _, _ => False
theorem enc_mem {xs : List D} {x : D} (h : x ∈ xs) : (enc x).length ≤ (encs xs).length := by
  induction xs with
  | nil => cases h
  | cons y ys ih =>
    unfold encs
    rw [List.length_append]
    rcases List.mem_cons.mp h with rfl | h
    · omega
    · have := ih h
      omega
theorem plain_ok (c : CodT T b) {k n : Nat} {S : Sto} {d : D} {Q : WQ} (h : okv n d) (hd : ∀ xs, d ≠ .tup xs) (q : Q (octs (enc d)) S) : callW T (k + 2) (b + 2) [d] S Q := by
  refine callW_at c.t2 rfl ?_
  show wB _ (bPla b) [some d, none, none] _ _
  unfold bPla
  cases d with
  | non =>
    walk_at "wp"
    exact ⟨by decide, rt_of q⟩
  | bl v =>
    cases v
    · walk_at "wp"
      exact ⟨by decide, rt_of q⟩
    · walk_at "wp"
      exact ⟨by decide, rt_of q⟩
  | int i =>
    have h : i.natAbs ≤ 10 ^ 12 := by cases n <;> exact h
    walk_at "wp"
    rw [show (if i < 0 then -i else i) = ((i.natAbs : Nat) : Int) by split <;> omega]
    refine digits_ok c (by omega) ?_
    walk_at "wp"
    have hl := digs_len 8 i.natAbs (by omega)
    unfold enc at q
    by_cases h0 : 0 ≤ i
    · simp only [h0, if_true] at q ⊢
      walk_at "wp"
      exact ⟨by decide, by walk_at "sd", rt_of q⟩
    · simp only [h0, if_false] at q ⊢
      walk_at "wp"
      exact ⟨by decide, by walk_at "sd", rt_of q⟩
  | str z =>
    have h : z.length ≤ 100 ∧ ∀ c ∈ z.cps.toList, c ∈ sg := by cases n <;> exact h
    walk_at "wp"
    unfold enc at q
    refine ⟨by walk_at "sd", by decide, by walk_at "sd", ?_⟩
    refine lc_mapm (f := fun c => .int (cod c)) trivial (fun c0 hc kk hk => ?_) ?_
    · rw [m_index (a := SG) (sg_occ c0 (h.2 c0 hc))]
      walk_at "wp"
      exact hk
    · rw [List.nil_append]
      walk_at "wp"
      refine ⟨?_, rt_of ?_⟩
      · rw [Array.length_toList]
        have : z.cps.size ≤ 100 := h.1
        walk_at "sd"
      · have e : octs (3 :: (z.length : Int) :: z.cps.toList.map cod) = .tup ([.int 3, .int (z.length : Int)] ++ z.cps.toList.map fun c => .int (cod c)) := by
          show D.tup (.int 3 :: .int (z.length : Int) :: (z.cps.toList.map cod).map .int) = _
          rw [List.map_map]
          rfl
        rw [e] at q
        exact q
  | tup xs => exact absurd rfl (hd xs)
  | lst _ => cases n <;> exact False.elim h
  | ref _ => cases n <;> exact False.elim h
  | scr _ => cases n <;> exact False.elim h
theorem lcIn_map {β : Type} {G : Sto → Prop} {body : D → Sto → (Option D → Sto → Prop) → Prop} {g f : β → D} {S : Sto} (hG : G S) : ∀ {items : List β} {acc : List D} {Q : List D → Sto → Prop}, acc.length + items.length ≤ sizeLine → (∀ x ∈ items, ∀ k : Option D → Sto → Prop, k (some (f x)) S → body (g x) S k) → Q (acc ++ items.map f) S → lcIn G body (items.map g) acc S Q
  | [], acc, Q, _, _, q => ⟨hG, by simpa using q⟩
  | x :: xs, acc, Q, hl, h, q => ⟨hG, h x List.mem_cons_self _ ⟨by rw [List.length_cons] at hl; omega, lcIn_map hG (by rw [List.length_append]; simp at hl ⊢; omega) (fun y hy => h y (List.mem_cons_of_mem _ hy)) (by simpa [List.append_assoc] using q)⟩⟩
theorem lcL2_flat {S : Sto} : ∀ {ls : List (List Int)} {acc : List D} {Q : List D → Sto → Prop}, acc.length + ls.flatten.length ≤ sizeLine → Q (acc ++ ls.flatten.map .int) S →
    lcL2 (fun _ => True) (fun x acc S2 k => match x with | D.tup xs => lcIn (fun _ => True) (fun y S6 (k1 : Option D → Sto → Prop) => k1 (some y) S6) xs acc S2 k | _ => False) (ls.map octs) acc S Q
  | [], acc, Q, _, q => ⟨trivial, by simpa using q⟩
  | l :: ls, acc, Q, hl, q => by
    refine ⟨trivial, ?_⟩
    show lcIn _ _ (l.map .int) acc S _
    rw [List.flatten_cons, List.length_append] at hl
    refine lcIn_map (f := .int) trivial (by omega) (fun x hx k hk => hk) ?_
    refine lcL2_flat (by rw [List.length_append, List.length_map]; omega) ?_
    rw [List.flatten_cons, List.map_append] at q
    rw [List.append_assoc]
    exact q
theorem by_ok (c : CodT T b) {k : Nat} : ∀ {n : Nat} {S : Sto} {d : D} {Q : WQ}, okv n d → (enc d).length ≤ 10000000 → Q (octs (enc d)) S → callW T (k + 3 + n) (b + 3) [d] S Q := by
  have leaf : ∀ {j n : Nat} {S : Sto} {d : D} {Q : WQ}, okv n d → (∀ xs, d ≠ .tup xs) → Q (octs (enc d)) S → callW T (j + 3) (b + 3) [d] S Q := by
    intro j n S d Q h hd q
    refine callW_at c.t3 rfl ?_
    show wB _ (bBy b) [some d, none, none, none, none] _ _
    unfold bBy
    have e : isiD d "tuple" = some false := by
      cases d with
      | tup xs => exact absurd rfl (hd xs)
      | lst _ => rfl
      | ref _ => cases n <;> exact False.elim h
      | scr _ => cases n <;> exact False.elim h
      | _ => rfl
    walk_at "wp"
    rw [e]
    walk_at "wp"
    exact plain_ok c h hd (rt_of q)
  intro n
  induction n with
  | zero =>
    intro S d Q h hl q
    refine leaf (n := 0) h (fun xs e => ?_) q
    subst e
    exact h
  | succ n ih =>
    intro S d Q h hl q
    by_cases hd : ∀ xs, d ≠ .tup xs
    · rw [show k + 3 + (n + 1) = k + (n + 1) + 3 by omega]
      exact leaf (j := k + (n + 1)) h hd q
    · obtain ⟨xs, rfl⟩ : ∃ xs, d = .tup xs := by
        refine Classical.byContradiction fun g => hd fun xs e => g ⟨xs, e⟩
      unfold enc at hl q
      refine callW_at c.t3 rfl ?_
      show wB _ (bBy b) [some (.tup xs), none, none, none, none] _ _
      unfold bBy
      have hx := h.1
      walk_at "wp"
      refine ⟨by decide, by decide, by decide, by decide, ?_⟩
      have e0 : xs = xs.map id := (List.map_id xs).symm
      conv in lcLoop _ _ xs _ _ _ => rw [e0]
      refine lc_mapm (f := fun d => octs (enc d)) trivial (fun x hx kk hk => ih (h.2 x hx) ?_ hk) ?_
      · have := enc_mem hx
        simp only [List.length_cons] at hl
        show (enc x).length ≤ _
        omega
      · simp only [List.length_cons] at hl
        refine ⟨by rw [List.nil_append, List.length_map]; walk_at "sd", ?_⟩
        have e1 : ([D.tup [D.int 4, D.int (((xs.map id).length : Int) / 256), D.int (((xs.map id).length : Int) % 256)]] ++ ([] ++ xs.map (fun d => octs (enc d)))) = ([4, ((xs.length / 256 : Nat) : Int), ((xs.length % 256 : Nat) : Int)] :: xs.map enc).map octs := by
          rw [List.map_id, List.nil_append, List.map_cons, List.map_map]
          rfl
        rw [e1]
        have e2 : ∀ xs : List D, (xs.map enc).flatten = encs xs := fun xs => by
          induction xs with
          | nil => rfl
          | cons x xs ih => rw [List.map_cons, List.flatten_cons, ih, encs_cons]
        refine lcL2_flat ?_ ?_
        · rw [List.flatten_cons, e2]
          simp only [List.length_append, List.length_cons, List.length_nil]
          walk_at "sd"
        · rw [List.flatten_cons, e2, List.nil_append]
          exact rt_of q
/-! ### back -/
def numOf (ns : List Int) : Int := ns.foldl (fun a o => 256 * a + o) 0
theorem numOf_snoc {ns : List Int} {o : Int} : numOf (ns ++ [o]) = 256 * numOf ns + o := by
  unfold numOf
  rw [List.foldl_append]
  rfl
def octets (os : List Int) : Prop := ∀ o ∈ os, 0 ≤ o ∧ o ≤ 255
theorem number_ok (c : CodT T b) {k : Nat} {S : Sto} {ns : List Int} {Q : WQ} (q : Q (.int (numOf ns)) S) : callW T (k + 1) (b + 1) [octs ns] S Q := by
  refine callW_at c.t1 rfl ?_
  show wB _ bNum [some (octs ns), none, none] _ _
  unfold bNum
  walk_at "wp"
  refine for_pre (all := ns) (fun p σ S' => S' = S ∧ ∃ s2, σ = [some (octs ns), some (.int (numOf p)), s2]) (fun _ _ _ _ => trivial) (pre := []) rfl ⟨rfl, _, rfl⟩ ?_ ?_
  · rintro p o r hal σ S' ⟨rfl, s2, rfl⟩ E' nx - - -
    unfold bNumL
    walk_at "wp"
    refine ⟨.inl (by decide), nx _ _ ⟨rfl, some (.int o), ?_⟩⟩
    rw [numOf_snoc]
  · rintro σ S' ⟨rfl, s2, rfl⟩
    walk_at "wp"
    exact rt_of q
def manyAt (os : List Int) (at' : Nat) (e : Int) : Int := if at' + 1 < os.length then os.getD (at' + 1) 0 else e
def partAt (os : List Int) (at' : Nat) (many : Int) : List Int := (os.drop (at' + 2)).take many.toNat
def numAt (os : List Int) (at' : Nat) : Option (D × Nat) :=
  if manyAt os at' 99 > 5 ∨ ((partAt os at' (manyAt os at' 99)).length : Int) < manyAt os at' 99 ∨ (partAt os at' (manyAt os at' 99)).take 1 = [0] ∨ (os.getD at' 0 = 2 ∧ manyAt os at' 99 = 0) then none
  else if numOf (partAt os at' (manyAt os at' 99)) > 1000000000000 then none
  else some (.int (if os.getD at' 0 = 1 then numOf (partAt os at' (manyAt os at' 99)) else -numOf (partAt os at' (manyAt os at' 99))), at' + 2 + (manyAt os at' 99).toNat)
def pairD : Option (D × Nat) → D
  | some (d, i) => .tup [d, .int (i : Int)]
  | none => .non
theorem many_pos {os : List Int} (h : octets os) {at' : Nat} {e : Int} (he : 0 ≤ e) : 0 ≤ manyAt os at' e := by
  unfold manyAt
  split
  · next hl =>
    rw [List.getD_eq_getElem?_getD, List.getElem?_eq_getElem hl]
    exact (h _ (List.getElem_mem hl)).1
  · exact he
theorem cutL_mid {α : Type} {xs : List α} {i j : Nat} : cutL xs (some (i : Int)) (some ((i + j : Nat) : Int)) = (xs.drop i).take j := by
  unfold cutL
  rw [HT.sIx_nat, HT.sIx_nat]
  by_cases h : i ≤ xs.length
  · rw [Nat.min_eq_left h]
    by_cases h2 : i + j ≤ xs.length
    · rw [Nat.min_eq_left h2, show i + j - i = j by omega]
    · rw [Nat.min_eq_right (by omega), List.take_of_length_le (by rw [List.length_drop]; omega), List.take_of_length_le (by rw [List.length_drop]; omega)]
  · rw [List.drop_of_length_le (by omega), List.drop_of_length_le (by omega)]
    simp
theorem at_get {os : List Int} {i : Nat} (h : i < os.length) : atI (os.map D.int) ((i : Nat) : Int) = some (.int (os.getD i 0)) := by
  refine atI_nat (j := i) ?_
  rw [List.getElem?_map, List.getElem?_eq_getElem h, List.getD_eq_getElem?_getD, List.getElem?_eq_getElem h]
  rfl
theorem num_ok (c : CodT T b) {k : Nat} {S : Sto} {os : List Int} {at' : Nat} {Q : WQ} (ho : octets os) (ha : at' < os.length) (q : Q (pairD (numAt os at')) S) : callW T (k + 2) (b + 4) [octs os, .int (at' : Int)] S Q := by
  refine callW_at c.t4 rfl ?_
  show wB _ (bNat b) [some (octs os), some (.int (at' : Int)), none, none, none] _ _
  unfold bNat
  have hm := many_pos ho (at' := at') (e := 99) (by decide)
  have e1 : ∀ (P : D → Prop), (if ((at' : Int) + 1 < (os.length : Int)) then opt (atI (os.map D.int) ((at' : Int) + 1)) P else P (.int 99)) = P (.int (manyAt os at' 99)) := fun P => by
    unfold manyAt
    by_cases hl : at' + 1 < os.length
    · rw [if_pos (by omega), if_pos hl, show (at' : Int) + 1 = ((at' + 1 : Nat) : Int) by omega, at_get hl]
      rfl
    · rw [if_neg (by omega), if_neg hl]
  rw [wB_seq]
  walk_at "wp"
  rw [e1 fun d => wB (callW T (k + 1)) (bNatR b) [some (octs os), some (.int (at' : Int)), some d, none, none] S _]
  unfold numAt at q
  generalize manyAt os at' 99 = m at q hm
  unfold bNatR
  have ee : (at' : Int) + 2 + m = ((at' + 2 + m.toNat : Nat) : Int) := by omega
  walk_at "wp"
  rw [ee, show (at' : Int) + 2 = ((at' + 2 : Nat) : Int) by omega, cutL_map, cutL_mid]
  rw [show (os.drop (at' + 2)).take m.toNat = partAt os at' m from rfl]
  generalize partAt os at' m = ds at q
  rw [at_get ha]
  walk_at "wp"
  generalize os.getD at' 0 = o at q
  rw [show (some (1 : Int)) = some ((1 : Nat) : Int) from rfl, cutL_to, ← List.map_take, show [D.int 0] = [(0 : Int)].map D.int from rfl, c_ints]
  walk_at "wp"
  have fin : ¬ (m > 5 ∨ (ds.length : Int) < m ∨ ds.take 1 = [0] ∨ (o = 2 ∧ m = 0)) → callW T (k + 1) (b + 1) [D.tup (List.map D.int ds)] S fun d S1 =>
        opt (cmpD CmpOp.Gt d (D.int 1000000000000)) fun z =>
          if z = true then ∃ S2 : Sto, S2.le S1 ∧ Q D.non S2
          else
            if o = 1 then 0 + 1 + 1 ≤ sizeLine ∧ ∃ S2 : Sto, S2.le S1 ∧ Q (D.tup [d, D.int ↑(at' + 2 + m.toNat)]) S2
            else
              match d with
              | D.int i =>
                0 + 1 + 1 ≤ sizeLine ∧ ∃ S2 : Sto, S2.le S1 ∧ Q (D.tup [D.int (-i), D.int ↑(at' + 2 + m.toNat)]) S2
              | D.bl k =>
                0 + 1 + 1 ≤ sizeLine ∧ ∃ S2 : Sto, S2.le S1 ∧ Q (D.tup [D.int (-if k = true then 1 else 0), D.int ↑(at' + 2 + m.toNat)]) S2
              | x => False := fun h => by
    rw [if_neg h] at q
    refine number_ok c ?_
    walk_at "wp"
    by_cases h1 : numOf ds > 1000000000000
    · rw [if_pos h1] at q
      rw [if_pos h1]
      exact rt_of q
    · rw [if_neg h1] at q
      rw [if_neg h1]
      by_cases h2 : o = 1
      · rw [if_pos h2] at q
        rw [if_pos h2]
        exact ⟨by decide, rt_of q⟩
      · rw [if_neg h2] at q
        rw [if_neg h2]
        exact ⟨by decide, rt_of q⟩
  by_cases h1 : 5 < m
  · rw [if_pos h1]
    rw [if_pos (.inl h1)] at q
    exact rt_of q
  rw [if_neg h1]
  by_cases h2 : (ds.length : Int) < m
  · rw [if_pos h2]
    rw [if_pos (.inr (.inl h2))] at q
    exact rt_of q
  rw [if_neg h2]
  refine ⟨by decide, ?_⟩
  by_cases h3 : ds.take 1 = [0]
  · rw [if_pos h3]
    rw [if_pos (.inr (.inr (.inl h3)))] at q
    exact rt_of q
  rw [if_neg h3]
  by_cases h4 : o = 2
  · rw [if_pos h4]
    by_cases h5 : m = 0
    · rw [if_pos h5]
      rw [if_pos (.inr (.inr (.inr ⟨h4, h5⟩)))] at q
      exact rt_of q
    · rw [if_neg h5]
      exact fin fun g => by
        rcases g with g | g | g | g
        · exact h1 g
        · exact h2 g
        · exact h3 g
        · exact h5 g.2
  · rw [if_neg h4]
    exact fin fun g => by
      rcases g with g | g | g | g
      · exact h1 g
      · exact h2 g
      · exact h3 g
      · exact h4 g.1
theorem join_signs (cs : List Nat) : Txt.join (Str.ofString "") (cs.map fun c => (⟨#[c]⟩ : Str)) = ⟨cs.toArray⟩ := by
  have key : ∀ (cs : List Nat) (acc : Array Nat), (cs.map fun c => (⟨#[c]⟩ : Str)).foldl (fun acc (p : Str) => acc ++ (Str.ofString "").cps ++ p.cps) acc = acc ++ cs.toArray := by
    intro cs
    induction cs with
    | nil => intro acc; simp
    | cons c r ih =>
      intro acc
      rw [List.map_cons, List.foldl_cons, ih]
      have e : (Str.ofString "").cps = #[] := rfl
      rw [e]
      apply Array.ext'
      simp
  show (⟨((cs.map fun c => (⟨#[c]⟩ : Str)).drop 1).foldl (fun acc (p : Str) => acc ++ (Str.ofString "").cps ++ p.cps) ((cs.map fun c => (⟨#[c]⟩ : Str)).headD Str.empty).cps⟩ : Str) = _
  cases cs with
  | nil => rfl
  | cons c r =>
    rw [List.map_cons, List.drop_succ_cons, List.drop_zero, List.headD_cons, key]
    congr 1
    apply Array.ext'
    simp
theorem strsOf_map (ys : List Str) : strsOf (ys.map D.str) = some ys := by
  induction ys with
  | nil => rfl
  | cons n r ih =>
    rw [List.map_cons]
    unfold strsOf
    rw [ih]
    rfl
theorem boolsOf_map (ys : List Bool) : boolsOf (ys.map D.bl) = some ys := by
  induction ys with
  | nil => rfl
  | cons n r ih =>
    rw [List.map_cons]
    unfold boolsOf
    rw [ih]
    rfl
theorem sg_get : ∀ i, i < 36 → sg[i]? = some (sg.getD i 0) := by decide +kernel
/-- the sign of an octet -/
def chr (o : Int) : D := .str ⟨#[sg.getD (o - 1).toNat 0]⟩
def txtAt (os : List Int) (at' : Nat) : Option (D × Nat) :=
  if manyAt os at' 999 > 100 ∨ ((partAt os at' (manyAt os at' 999)).length : Int) < manyAt os at' 999 ∨ ¬ ((partAt os at' (manyAt os at' 999)).all fun s => decide (1 ≤ s ∧ s ≤ 36)) = true then none
  else some (.str ⟨((partAt os at' (manyAt os at' 999)).map fun o => sg.getD (o - 1).toNat 0).toArray⟩, at' + 2 + (manyAt os at' 999).toNat)
theorem txt_ok (c : CodT T b) {k : Nat} {S : Sto} {os : List Int} {at' : Nat} {Q : WQ} (ho : octets os) (ha : at' < os.length) (q : Q (pairD (txtAt os at')) S) : callW T (k + 2) (b + 5) [octs os, .int (at' : Int)] S Q := by
  refine callW_at c.t5 rfl ?_
  show wB _ bTxt [some (octs os), some (.int (at' : Int)), none, none, none] _ _
  unfold bTxt
  have hm := many_pos ho (at' := at') (e := 999) (by decide)
  have e1 : ∀ (P : D → Prop), (if ((at' : Int) + 1 < (os.length : Int)) then opt (atI (os.map D.int) ((at' : Int) + 1)) P else P (.int 999)) = P (.int (manyAt os at' 999)) := fun P => by
    unfold manyAt
    by_cases hl : at' + 1 < os.length
    · rw [if_pos (by omega), if_pos hl, show (at' : Int) + 1 = ((at' + 1 : Nat) : Int) by omega, at_get hl]
      rfl
    · rw [if_neg (by omega), if_neg hl]
  rw [wB_seq]
  walk_at "wp"
  rw [e1 fun d => wB (callW T (k + 1)) bTxtR [some (octs os), some (.int (at' : Int)), some d, none, none] S _]
  unfold txtAt at q
  generalize manyAt os at' 999 = m at q hm
  unfold bTxtR
  have ee : (at' : Int) + 2 + m = ((at' + 2 + m.toNat : Nat) : Int) := by omega
  walk_at "wp"
  rw [ee, show (at' : Int) + 2 = ((at' + 2 : Nat) : Int) by omega, cutL_map, cutL_mid]
  rw [show (os.drop (at' + 2)).take m.toNat = partAt os at' m from rfl]
  have hdl : (partAt os at' m).length ≤ m.toNat := by
    unfold partAt
    rw [List.length_take]
    omega
  generalize partAt os at' m = ds at q hdl
  walk_at "wp"
  by_cases h1 : 100 < m
  · rw [if_pos h1]
    rw [if_pos (.inl h1)] at q
    exact rt_of q
  rw [if_neg h1]
  by_cases h2 : (ds.length : Int) < m
  · rw [if_pos h2]
    rw [if_pos (.inr (.inl h2))] at q
    exact rt_of q
  rw [if_neg h2]
  refine lc_mapm (g := D.int) (f := fun s => .bl (decide (1 ≤ s ∧ s ≤ 36))) trivial (fun s hs kk hk => ?_) ?_
  · have e2 : (Str.ofString "0123456789abcdefghijklmnopqrstuvwxyz").length = 36 := by decide +kernel
    rw [e2]
    walk_at "wp"
    by_cases g1 : 1 ≤ s
    · by_cases g2 : s ≤ 36
      · have : decide (1 ≤ s ∧ s ≤ 36) = true := decide_eq_true ⟨g1, g2⟩
        rw [this] at hk
        simp only [g1, if_true]
        refine ⟨by decide, ?_⟩
        rw [show decide (s ≤ ((36 : Nat) : Int)) = true from decide_eq_true g2]
        exact hk
      · have : decide (1 ≤ s ∧ s ≤ 36) = false := decide_eq_false fun h => g2 h.2
        rw [this] at hk
        simp only [g1, if_true]
        refine ⟨by decide, ?_⟩
        rw [show decide (s ≤ ((36 : Nat) : Int)) = false from decide_eq_false g2]
        exact hk
    · have : decide (1 ≤ s ∧ s ≤ 36) = false := decide_eq_false fun h => g1 h.1
      rw [this] at hk
      simp only [g1, if_false]
      exact hk
  · rw [List.nil_append]
    walk_at "wp"
    rw [show ds.map (fun s => D.bl (decide (1 ≤ s ∧ s ≤ 36))) = (ds.map fun s => decide (1 ≤ s ∧ s ≤ 36)).map D.bl by rw [List.map_map]; rfl, boolsOf_map]
    walk_at "wp"
    rw [List.all_map]
    by_cases h3 : (ds.all fun s => decide (1 ≤ s ∧ s ≤ 36)) = true
    · have hn : ¬ (m > 100 ∨ (ds.length : Int) < m ∨ ¬ (ds.all fun s => decide (1 ≤ s ∧ s ≤ 36)) = true) := fun g => by
        rcases g with g | g | g
        · exact h1 g
        · exact h2 g
        · exact g h3
      rw [if_neg hn] at q
      have h4 : ds.all (id ∘ fun s => decide (1 ≤ s ∧ s ≤ 36)) = true := h3
      rw [h4]
      walk_at "wp"
      refine lc_mapm (g := D.int) (f := chr) trivial (fun s hs kk hk => ?_) ?_
      · have hb := of_decide_eq_true (List.all_eq_true.mp h3 s hs)
        walk_at "wp"
        have e3 : idxD S (D.str (Str.ofString "0123456789abcdefghijklmnopqrstuvwxyz")) (.int (s - 1)) = some (chr s) := by
          show (if (Str.ofString "0123456789abcdefghijklmnopqrstuvwxyz").length ≤ sizeLine then (atI sg (s - 1)).map _ else none) = _
          rw [if_pos (by decide +kernel), show s - 1 = (((s - 1).toNat : Nat) : Int) by omega, atI_nat (sg_get (s - 1).toNat (by omega))]
          rfl
        rw [e3]
        exact hk
      · rw [List.nil_append, show ds.map chr = (ds.map fun o => (⟨#[sg.getD (o - 1).toNat 0]⟩ : Str)).map D.str by rw [List.map_map]; rfl]
        rw [m_join (strsOf_map _) ?_]
        · rw [show (ds.map fun o => (⟨#[sg.getD (o - 1).toNat 0]⟩ : Str)) = (ds.map fun o => sg.getD (o - 1).toNat 0).map fun c => (⟨#[c]⟩ : Str) by rw [List.map_map]; rfl, join_signs]
          exact ⟨by decide, rt_of q⟩
        · have e0 : (Str.ofString "").length = 0 := rfl
          have e1 : ∀ xs : List Int, ((xs.map fun o => (⟨#[sg.getD (o - 1).toNat 0]⟩ : Str)).map (·.length)).sum = xs.length := fun xs => by
            induction xs with
            | nil => rfl
            | cons x r ih =>
              rw [List.map_cons, List.map_cons, List.sum_cons, ih, List.length_cons]
              show 1 + r.length = _
              omega
          rw [e0, Nat.mul_zero, Nat.add_zero, e1]
          omega
    · rw [if_pos (.inr (.inr h3))] at q
      have h4 : ds.all (id ∘ fun s => decide (1 ≤ s ∧ s ≤ 36)) = false := by simpa using h3
      rw [h4]
      walk_at "wp"
      exact rt_of q
/-- so many values, one after the other -/
def loopAt (f : Nat → Option (D × Nat)) : Nat → Nat → List D → Option (List D × Nat)
  | 0, i, acc => some (acc, i)
  | n + 1, i, acc => match f i with
    | some (d, j) => loopAt f n j (acc ++ [d])
    | none => none
def manyIn (os : List Int) (at' : Nat) : Int := numOf ((os.drop (at' + 1)).take 2)
def itsAt (f : Nat → Option (D × Nat)) (os : List Int) (at' : Nat) : Option (D × Nat) :=
  if at' + 3 > os.length ∨ manyIn os at' > 10000 then none else match loopAt f (manyIn os at').toNat (at' + 3) [] with
    | some (xs, i) => some (.tup xs, i)
    | none => none
/-- one value's head: `it` is what its items give -/
def vh (os : List Int) (at' : Nat) (it : Option (D × Nat)) : Option (D × Nat) :=
  if at' ≥ os.length then none else if os.getD at' 0 > 6 then none else if os.getD at' 0 = 0 then some (.non, at' + 1) else if os.getD at' 0 = 5 then some (.bl true, at' + 1) else if os.getD at' 0 = 6 then some (.bl false, at' + 1)
    else if os.getD at' 0 = 1 then numAt os at' else if os.getD at' 0 = 2 then numAt os at' else if os.getD at' 0 = 3 then txtAt os at' else it
def valAt (os : List Int) : Nat → Nat → Option (D × Nat)
  | 0, at' => vh os at' none
  | n + 1, at' => vh os at' (itsAt (valAt os n) os at')
theorem numOf_pos : ∀ {ns : List Int}, (∀ o ∈ ns, 0 ≤ o) → ∀ {a : Int}, 0 ≤ a → 0 ≤ ns.foldl (fun a o => 256 * a + o) a
  | [], _, _, h => h
  | n :: r, h, a, ha => by
    rw [List.foldl_cons]
    have := h n List.mem_cons_self
    exact numOf_pos (fun o ho => h o (List.mem_cons_of_mem _ ho)) (by omega)
theorem turn_ok {k : Nat} {os : List Int} {n i : Nat} {p : Addr} {d1 d3 : D} {s4 s7 : Option D} {S' : Sto} {acc : List D} {E : En} (f : Nat → Option (D × Nat)) (hf : ∀ (S : Sto) (i : Nat) (Q : WQ), Q (pairD (f i)) S → callW T (k + 1) (b + 7) [octs os, .int (i : Int), .int (n : Int)] S Q)
    (h1 : S' p = some (.lst acc)) (hl : acc.length < 100000) (q : match f i with
      | some (d, j) => ∀ s7, E.nx [some (octs os), some d1, some (.int ((n + 1 : Nat) : Int)), some d3, s4, some (.ref p), some (.int (j : Int)), s7] (S'.put p (.lst (acc ++ [d])))
      | none => E.rt .non S') : wB (callW T (k + 1)) (bItsL b) [some (octs os), some d1, some (.int ((n + 1 : Nat) : Int)), some d3, s4, some (.ref p), some (.int (i : Int)), s7] S' E := by
  unfold bItsL
  walk_at "wp"
  rw [show ((n + 1 : Nat) : Int) - 1 = (n : Int) by omega]
  refine hf S' i _ ?_
  cases e : f i with
  | none =>
    rw [e] at q
    unfold pairD
    walk_at "wp"
    exact q
  | some r =>
    obtain ⟨d, j⟩ := r
    rw [e] at q
    unfold pairD
    walk_at "wp"
    rw [lstAt_ref h1]
    refine ⟨trivial, appS_ref h1 (by walk_at "sd") ?_⟩
    exact q _
theorem loop_ok {k : Nat} {S : Sto} {os : List Int} {n : Nat} {p : Addr} {d1 d3 : D} {E : En} (hp : S p = none) (f : Nat → Option (D × Nat)) (hf : ∀ (S : Sto) (i : Nat) (Q : WQ), Q (pairD (f i)) S → callW T (k + 1) (b + 7) [octs os, .int (i : Int), .int (n : Int)] S Q) :
    ∀ (L : List Nat) (acc : List D) (i : Nat) (s4 s7 : Option D) (S' : Sto), S' p = some (.lst acc) → S.le S' → acc.length + L.length ≤ 100000 →
      (match loopAt f L.length i acc with
        | some (xs, j) => ∀ s4 s7 S1, S1 p = some (.lst xs) → S.le S1 → E.nx [some (octs os), some d1, some (.int ((n + 1 : Nat) : Int)), some d3, s4, some (.ref p), some (.int (j : Int)), s7] S1
        | none => ∀ S1, S.le S1 → E.rt .non S1) →
      forLoop (fun _ => True) (fun x σ S E => wB (callW T (k + 1)) (bItsL b) (List.set σ 4 (some x)) S E) E (L.map fun k : Nat => D.int (0 + (k : Int))) [some (octs os), some d1, some (.int ((n + 1 : Nat) : Int)), some d3, s4, some (.ref p), some (.int (i : Int)), s7] S'
  | [], acc, i, s4, s7, S', h1, h2, _, q => ⟨trivial, q s4 s7 S' h1 h2⟩
  | x :: L, acc, i, s4, s7, S', h1, h2, hl, q => by
    refine ⟨trivial, ?_⟩
    rw [List.length_cons] at q hl
    refine turn_ok f hf h1 (by omega) ?_
    unfold loopAt at q
    cases e : f i with
    | none =>
      rw [e] at q
      exact q _ h2
    | some r =>
      obtain ⟨d, j⟩ := r
      rw [e] at q
      intro s7
      exact loop_ok hp f hf L (acc ++ [d]) j _ _ _ Sto.put_same (le_put2 h2 hp) (by rw [List.length_append]; simp; omega) q
theorem its_ok (c : CodT T b) {k : Nat} {S : Sto} {os : List Int} {at' n : Nat} {Q : WQ} (ho : octets os) (f : Nat → Option (D × Nat)) (hf : ∀ (S : Sto) (i : Nat) (Q : WQ), Q (pairD (f i)) S → callW T (k + 1) (b + 7) [octs os, .int (i : Int), .int (n : Int)] S Q)
    (q : Q (pairD (itsAt f os at')) S) : callW T (k + 2) (b + 6) [octs os, .int (at' : Int), .int ((n + 1 : Nat) : Int)] S Q := by
  refine callW_at c.t6 rfl ?_
  show wB _ (bIts b) [some (octs os), some (.int (at' : Int)), some (.int ((n + 1 : Nat) : Int)), none, none, none, none, none] _ _
  unfold bIts
  walk_at "wp"
  rw [show (at' : Int) + 1 = ((at' + 1 : Nat) : Int) by omega, show (at' : Int) + 3 = ((at' + 1 + 2 : Nat) : Int) by omega, cutL_map, cutL_mid]
  refine number_ok c ?_
  walk_at "wp"
  unfold itsAt at q
  rw [show numOf ((os.drop (at' + 1)).take 2) = manyIn os at' from rfl]
  have hm0 : 0 ≤ manyIn os at' := numOf_pos (fun o h => (ho o (List.mem_of_mem_drop (List.mem_of_mem_take h))).1) (Int.le_refl 0)
  generalize manyIn os at' = m at q hm0
  rw [if_neg (by omega)]
  by_cases h1 : at' + 3 > os.length
  · rw [if_pos (by omega)]
    rw [if_pos (.inl h1)] at q
    exact rt_of q
  rw [if_neg (by omega)]
  by_cases h2 : m > 10000
  · rw [if_pos h2]
    rw [if_pos (.inr h2)] at q
    exact rt_of q
  rw [if_neg h2]
  rw [if_neg (fun g => g.elim h1 h2)] at q
  refine ⟨by decide, fun p hp => ⟨by omega, by omega, ?_⟩⟩
  refine loop_ok (S := S) hp f hf (List.range m.toNat) [] (at' + 1 + 2) none none _ Sto.put_same (Sto.le_put hp) (by simp; omega) ?_
  rw [List.length_range]
  cases e : loopAt f m.toNat (at' + 3) [] with
  | none =>
    rw [e] at q
    exact fun S1 h => rt_le h q
  | some r =>
    obtain ⟨xs, j⟩ := r
    rw [e] at q
    intro s4 s7 S1 h3 h4
    walk_at "wp"
    rw [f_tupr h3]
    walk_at "wp"
    exact ⟨by decide, rt_le h4 q⟩
theorem its_ok0 (c : CodT T b) {k : Nat} {S : Sto} {os : List Int} {at' : Nat} {Q : WQ} (q : Q .non S) : callW T (k + 2) (b + 6) [octs os, .int (at' : Int), .int 0] S Q := by
  refine callW_at c.t6 rfl ?_
  show wB _ (bIts b) [some (octs os), some (.int (at' : Int)), some (.int 0), none, none, none, none, none] _ _
  unfold bIts
  walk_at "wp"
  rw [show (at' : Int) + 1 = ((at' + 1 : Nat) : Int) by omega, show (at' : Int) + 3 = ((at' + 1 + 2 : Nat) : Int) by omega, cutL_map, cutL_mid]
  refine number_ok c ?_
  walk_at "wp"
  exact rt_of q
theorem eqD_ii {x y : Int} : eqD (.int x) (.int y) = (x == y) := by unfold eqD; rfl
theorem any3 {o : Int} : ([D.int 0, D.int 5, D.int 6].any fun y => eqD y (.int o)) = ((0 : Int) == o || ((5 : Int) == o || ((6 : Int) == o || false))) := by
  simp only [List.any_cons, List.any_nil, eqD_ii]
theorem any2 {o : Int} : ([D.int 1, D.int 2].any fun y => eqD y (.int o)) = ((1 : Int) == o || ((2 : Int) == o || false)) := by
  simp only [List.any_cons, List.any_nil, eqD_ii]
theorem vh_ok (c : CodT T b) {os : List Int} (ho : octets os) {k n : Nat} {S : Sto} {at' : Nat} {Q : WQ} (it : Option (D × Nat)) (hi : ∀ Q : WQ, Q (pairD it) S → callW T (k + 2) (b + 6) [octs os, .int (at' : Int), .int (n : Int)] S Q) (q : Q (pairD (vh os at' it)) S) :
    callW T (k + 3) (b + 7) [octs os, .int (at' : Int), .int (n : Int)] S Q := by
  refine callW_at c.t7 rfl ?_
  show wB _ (bVal b) [some (octs os), some (.int (at' : Int)), some (.int (n : Int))] _ _
  unfold bVal
  unfold vh at q
  walk_at "wp"
  by_cases h0 : at' ≥ os.length
  · rw [if_pos (by omega)]
    rw [if_pos h0] at q
    exact rt_of q
  rw [if_neg (by omega)]
  rw [if_neg h0] at q
  rw [at_get (by omega)]
  have hnum := fun {Q : WQ} => num_ok (Q := Q) c (k := k) (S := S) ho (show at' < os.length by omega)
  have htxt := fun {Q : WQ} => txt_ok (Q := Q) c (k := k) (S := S) ho (show at' < os.length by omega)
  generalize os.getD at' 0 = o at q
  walk_at "wp"
  by_cases h1 : o > 6
  · rw [if_pos h1]
    rw [if_pos h1] at q
    exact rt_of q
  rw [if_neg h1]
  rw [if_neg h1] at q
  refine ⟨by decide, ⟨rfl, rfl⟩, ?_⟩
  rw [any3]
  have okc : okD 50 (.int o) = true ∧ okD 60 (.tup [D.int 1, D.int 2]) = true := ⟨rfl, rfl⟩
  by_cases h2 : o = 0
  · rw [if_pos h2] at q
    rw [if_pos (by subst h2; rfl), if_pos h2]
    exact ⟨by decide, rt_of q⟩
  rw [if_neg h2] at q
  by_cases h3 : o = 5
  · rw [if_pos h3] at q
    rw [if_pos (by subst h3; rfl), if_neg h2, show decide (o = 5) = true from decide_eq_true h3]
    exact ⟨by decide, rt_of q⟩
  rw [if_neg h3] at q
  by_cases h4 : o = 6
  · rw [if_pos h4] at q
    rw [if_pos (by subst h4; rfl), if_neg h2, show decide (o = 5) = false from decide_eq_false h3]
    exact ⟨by decide, rt_of q⟩
  rw [if_neg h4] at q
  have n3 : ((0 : Int) == o || ((5 : Int) == o || ((6 : Int) == o || false))) = false := by
    simp only [Bool.or_eq_false_iff, beq_eq_false_iff_ne, ne_eq]
    exact ⟨fun e => h2 e.symm, fun e => h3 e.symm, fun e => h4 e.symm, trivial⟩
  rw [n3, if_neg Bool.false_ne_true, any2]
  refine ⟨by decide, okc, ?_⟩
  by_cases h5 : o = 1
  · rw [if_pos h5] at q
    rw [if_pos (by subst h5; rfl)]
    exact hnum (rt_of q)
  rw [if_neg h5] at q
  by_cases h6 : o = 2
  · rw [if_pos h6] at q
    rw [if_pos (by subst h6; rfl)]
    exact hnum (rt_of q)
  rw [if_neg h6] at q
  have n2 : ((1 : Int) == o || ((2 : Int) == o || false)) = false := by
    simp only [Bool.or_eq_false_iff, beq_eq_false_iff_ne, ne_eq]
    exact ⟨fun e => h5 e.symm, fun e => h6 e.symm, trivial⟩
  rw [n2, if_neg Bool.false_ne_true]
  by_cases h7 : o = 3
  · rw [if_pos h7] at q
    rw [if_pos h7]
    exact htxt (rt_of q)
  · rw [if_neg h7] at q
    rw [if_neg h7]
    exact hi _ (rt_of q)
theorem val_ok (c : CodT T b) {os : List Int} (ho : octets os) : ∀ (n : Nat) {k : Nat} (S : Sto) (at' : Nat) (Q : WQ), Q (pairD (valAt os n at')) S → callW T (k + 3 + 2 * n) (b + 7) [octs os, .int (at' : Int), .int (n : Int)] S Q := by
  intro n
  induction n with
  | zero => exact fun {k} S at' Q q => vh_ok c ho (n := 0) none (fun Q q => its_ok0 c q) q
  | succ n ih =>
    intro k S at' Q q
    rw [show k + 3 + 2 * (n + 1) = (k + 2 + 2 * n) + 3 by omega]
    refine vh_ok c ho (n := n + 1) (itsAt (valAt os n) os at') (fun Q q => ?_) q
    refine its_ok c ho (valAt os n) (fun S i Q q => ?_) q
    rw [show k + 2 + 2 * n + 1 = k + 3 + 2 * n by omega]
    exact ih S i Q q
end PL.Cod
/-! PL: values as octets: what is read back. -/
namespace PL.Cod
open PySem L2 PL
/-! ### a row that stands behind another -/
section
variable {pre l : List Int} {i : Nat}
def shift (k : Nat) : Option (D × Nat) → Option (D × Nat)
  | some (d, j) => some (d, k + j)
  | none => none
theorem getD_sh : (pre ++ l).getD (pre.length + i) 0 = l.getD i 0 := by
  rw [List.getD_eq_getElem?_getD, List.getD_eq_getElem?_getD, List.getElem?_append_right (by omega)]
  congr 2
  omega
theorem drop_sh : (pre ++ l).drop (pre.length + i) = l.drop i := by
  rw [List.drop_append, List.drop_of_length_le (by omega), List.nil_append]
  congr 1
  omega
theorem many_sh {e : Int} : manyAt (pre ++ l) (pre.length + i) e = manyAt l i e := by
  unfold manyAt
  rw [List.length_append, Nat.add_assoc, getD_sh]
  by_cases h : i + 1 < l.length
  · rw [if_pos (by omega), if_pos h]
  · rw [if_neg (by omega), if_neg h]
theorem part_sh {m : Int} : partAt (pre ++ l) (pre.length + i) m = partAt l i m := by
  unfold partAt
  rw [Nat.add_assoc, drop_sh]
theorem num_sh : numAt (pre ++ l) (pre.length + i) = shift pre.length (numAt l i) := by
  unfold numAt
  rw [many_sh, part_sh, getD_sh]
  split
  · rfl
  · split
    · rfl
    · simp only [shift, Nat.add_assoc]
theorem txt_sh : txtAt (pre ++ l) (pre.length + i) = shift pre.length (txtAt l i) := by
  unfold txtAt
  rw [many_sh, part_sh]
  split
  · rfl
  · simp only [shift, Nat.add_assoc]
theorem vh_sh {it : Option (D × Nat)} : vh (pre ++ l) (pre.length + i) (shift pre.length it) = shift pre.length (vh l i it) := by
  unfold vh
  rw [getD_sh, num_sh, txt_sh, List.length_append]
  by_cases h : i ≥ l.length
  · rw [if_pos (by omega), if_pos h]
    rfl
  · rw [if_neg (by omega), if_neg h]
    repeat' split
    all_goals first | rfl | simp only [shift, Nat.add_assoc]
theorem loop_sh {f g : Nat → Option (D × Nat)} (h : ∀ j, f (pre.length + j) = shift pre.length (g j)) : ∀ {n i : Nat} {acc : List D}, loopAt f n (pre.length + i) acc = match loopAt g n i acc with
    | some (xs, j) => some (xs, pre.length + j)
    | none => none
  | 0, i, acc => rfl
  | n + 1, i, acc => by
    unfold loopAt
    rw [h]
    cases e : g i with
    | none => rfl
    | some r =>
      obtain ⟨d, j⟩ := r
      exact loop_sh h
theorem its_sh {f g : Nat → Option (D × Nat)} (h : ∀ j, f (pre.length + j) = shift pre.length (g j)) : itsAt f (pre ++ l) (pre.length + i) = shift pre.length (itsAt g l i) := by
  unfold itsAt
  rw [show manyIn (pre ++ l) (pre.length + i) = manyIn l i by unfold manyIn; rw [Nat.add_assoc, drop_sh], List.length_append]
  by_cases h1 : i + 3 > l.length ∨ manyIn l i > 10000
  · rw [if_pos (by omega), if_pos h1]
    rfl
  · rw [if_neg (by omega), if_neg h1, Nat.add_assoc, loop_sh h]
    cases loopAt g (manyIn l i).toNat (i + 3) [] with
    | none => rfl
    | some r => rfl
end
theorem val_sh {pre l : List Int} : ∀ {n i : Nat}, valAt (pre ++ l) n (pre.length + i) = shift pre.length (valAt l n i)
  | 0, i => by
    unfold valAt
    exact vh_sh (it := none)
  | n + 1, i => by
    unfold valAt
    rw [its_sh fun j => val_sh, vh_sh]

/-! ### what was put is read back -/
theorem numOf_digs (n : Nat) : numOf (digs n) = n := by
  induction n using Nat.strongRecOn with
  | ind n ih =>
    by_cases h : n = 0
    · rw [h, digs_zero]
      rfl
    · rw [digs_pos h, numOf_snoc, ih (n / 256) (by omega)]
      omega
theorem digs_head : ∀ (n : Nat), (digs n).take 1 ≠ [0] := by
  intro n
  induction n using Nat.strongRecOn with
  | ind n ih =>
    by_cases h : n = 0
    · rw [h, digs_zero]
      exact fun e => nomatch e
    · rw [digs_pos h]
      by_cases h2 : n / 256 = 0
      · rw [h2, digs_zero]
        intro e
        have : ((n % 256 : Nat) : Int) = 0 := by simpa using e
        omega
      · have := ih (n / 256) (by omega)
        rw [List.take_append_of_le_length]
        · exact this
        · rw [digs_pos h2]
          simp
theorem digs_nil {n : Nat} : (digs n).length = 0 ↔ n = 0 := by
  constructor
  · intro h
    refine Classical.byContradiction fun e => ?_
    rw [digs_pos e] at h
    simp at h
  · intro h
    rw [h, digs_zero]
    rfl
theorem num_back {i : Int} (h : i.natAbs ≤ 10 ^ 12) (r : List Int) : numAt (enc (.int i) ++ r) 0 = some (.int i, (enc (.int i)).length) := by
  have hl := digs_len 5 i.natAbs (by omega)
  have e : enc (.int i) = (if 0 ≤ i then 1 else 2) :: ((digs i.natAbs).length : Int) :: digs i.natAbs := by unfold enc; rfl
  have hm : manyAt (enc (.int i) ++ r) 0 99 = ((digs i.natAbs).length : Int) := by
    rw [e]
    unfold manyAt
    rw [if_pos (by simp)]
    rfl
  have hp : partAt (enc (.int i) ++ r) 0 ((digs i.natAbs).length : Int) = digs i.natAbs := by
    rw [e]
    unfold partAt
    show (digs i.natAbs ++ r).take ((digs i.natAbs).length : Int).toNat = _
    rw [Int.toNat_natCast, List.take_left']
    rfl
  have h0 : (enc (.int i) ++ r).getD 0 0 = if 0 ≤ i then 1 else 2 := by
    rw [e]
    rfl
  unfold numAt
  rw [hm, hp, h0, numOf_digs]
  have hz := @digs_nil i.natAbs
  rw [if_neg, if_neg (by omega), e]
  · simp only [List.length_cons, Int.toNat_natCast]
    by_cases h2 : 0 ≤ i
    · rw [if_pos h2, if_pos rfl]
      congr 2
      · congr 1
        omega
      · omega
    · rw [if_neg h2, if_neg (by decide)]
      congr 2
      · congr 1
        omega
      · omega
  · intro g
    rcases g with g | g | g | ⟨g1, g2⟩
    · omega
    · omega
    · exact digs_head _ g
    · by_cases h2 : 0 ≤ i
      · rw [if_pos h2] at g1
        exact absurd g1 (by decide)
      · have := hz.mp (by omega)
        omega
theorem txt_back {z : Str} (h : z.length ≤ 100) (hs : ∀ c ∈ z.cps.toList, c ∈ sg) (r : List Int) : txtAt (enc (.str z) ++ r) 0 = some (.str z, (enc (.str z)).length) := by
  have e : enc (.str z) = 3 :: (z.length : Int) :: z.cps.toList.map cod := by unfold enc; rfl
  have hl : (z.cps.toList.map cod).length = z.length := by rw [List.length_map, Array.length_toList]; rfl
  have hm : manyAt (enc (.str z) ++ r) 0 999 = (z.length : Int) := by
    rw [e]
    unfold manyAt
    rw [if_pos (by simp)]
    rfl
  have hp : partAt (enc (.str z) ++ r) 0 (z.length : Int) = z.cps.toList.map cod := by
    rw [e]
    unfold partAt
    show (z.cps.toList.map cod ++ r).take (z.length : Int).toNat = _
    rw [Int.toNat_natCast, ← hl, List.take_left']
    rfl
  have hc : ∀ c ∈ sg, 1 ≤ cod c ∧ cod c ≤ 36 ∧ sg.getD (cod c - 1).toNat 0 = c := by decide +kernel
  unfold txtAt
  rw [hm, hp, hl]
  rw [if_neg]
  · have e2 : (z.cps.toList.map cod).map (fun o => sg.getD (o - 1).toNat 0) = z.cps.toList := by
      rw [List.map_map]
      conv => rhs; rw [← List.map_id z.cps.toList]
      exact List.map_congr_left fun c hcm => (hc c (hs c hcm)).2.2
    rw [e2, e]
    congr 2
    simp only [List.length_cons, Int.toNat_natCast, hl]
    omega
  · intro g
    rcases g with g | g | g
    · omega
    · omega
    · refine g (List.all_eq_true.mpr fun o ho => ?_)
      rw [List.mem_map] at ho
      obtain ⟨c, hcm, rfl⟩ := ho
      have := hc c (hs c hcm)
      exact decide_eq_true ⟨this.1, this.2.1⟩
theorem loop_back {n : Nat} (ih : ∀ d, okv n d → ∀ r, valAt (enc d ++ r) n 0 = some (d, (enc d).length)) : ∀ (xs : List D) (pre r : List Int) (acc : List D), (∀ x ∈ xs, okv n x) → loopAt (valAt (pre ++ (encs xs ++ r)) n) xs.length pre.length acc = some (acc ++ xs, pre.length + (encs xs).length)
  | [], pre, r, acc, _ => by
    show some _ = some _
    rw [List.append_nil]
    rfl
  | x :: xs, pre, r, acc, h => by
    rw [List.length_cons]
    unfold loopAt
    rw [encs_cons, List.append_assoc]
    have e1 := val_sh (pre := pre) (l := enc x ++ (encs xs ++ r)) (n := n) (i := 0)
    rw [Nat.add_zero, ih x (h x List.mem_cons_self)] at e1
    rw [e1]
    have e2 := loop_back ih xs (pre ++ enc x) r (acc ++ [x]) fun y hy => h y (List.mem_cons_of_mem _ hy)
    rw [List.append_assoc, List.length_append] at e2
    show loopAt _ xs.length (pre.length + (enc x).length) (acc ++ [x]) = _
    rw [e2, List.append_assoc, List.length_append, Nat.add_assoc]
    rfl
theorem many_in {xs : List D} {r : List Int} : manyIn (enc (.tup xs) ++ r) 0 = (xs.length : Int) := by
  have e : enc (.tup xs) = 4 :: ((xs.length / 256 : Nat) : Int) :: ((xs.length % 256 : Nat) : Int) :: encs xs := by
    conv => lhs; unfold enc
  rw [e]
  show numOf [((xs.length / 256 : Nat) : Int), ((xs.length % 256 : Nat) : Int)] = _
  show 256 * (256 * 0 + ((xs.length / 256 : Nat) : Int)) + ((xs.length % 256 : Nat) : Int) = _
  omega
theorem enc_tup {xs : List D} : enc (.tup xs) = [4, ((xs.length / 256 : Nat) : Int), ((xs.length % 256 : Nat) : Int)] ++ encs xs := by
  conv => lhs; unfold enc
  rfl
theorem val_flat {n : Nat} {d : D} (h : okv n d) (hd : ∀ xs, d ≠ .tup xs) {it : Option (D × Nat)} {r : List Int} : vh (enc d ++ r) 0 it = some (d, (enc d).length) := by
  cases d with
  | non => rfl
  | bl v => cases v <;> rfl
  | int i =>
    have h : i.natAbs ≤ 10 ^ 12 := by cases n <;> exact h
    have e := num_back h r
    have h0 : (enc (.int i) ++ r).getD 0 0 = if 0 ≤ i then 1 else 2 := by
      unfold enc
      rfl
    have hl : ¬ 0 ≥ (enc (.int i) ++ r).length := by
      unfold enc
      simp
    unfold vh
    rw [if_neg hl, h0]
    by_cases h2 : 0 ≤ i
    · rw [if_pos h2]
      exact e
    · rw [if_neg h2]
      exact e
  | str z =>
    have h : z.length ≤ 100 ∧ ∀ c ∈ z.cps.toList, c ∈ sg := by cases n <;> exact h
    have e := txt_back h.1 h.2 r
    have h0 : (enc (.str z) ++ r).getD 0 0 = 3 := by
      unfold enc
      rfl
    have hl : ¬ 0 ≥ (enc (.str z) ++ r).length := by
      unfold enc
      simp
    unfold vh
    rw [if_neg hl, h0]
    exact e
  | tup xs => exact absurd rfl (hd xs)
  | lst _ => cases n <;> exact False.elim h
  | ref _ => cases n <;> exact False.elim h
  | scr _ => cases n <;> exact False.elim h
theorem val_back : ∀ (n : Nat) (d : D), okv n d → ∀ r, valAt (enc d ++ r) n 0 = some (d, (enc d).length)
  | 0, d, h, r => by
    unfold valAt
    refine val_flat h fun xs e => ?_
    subst e
    exact h
  | n + 1, d, h, r => by
    unfold valAt
    by_cases hd : ∀ xs, d ≠ .tup xs
    · exact val_flat h hd
    · obtain ⟨xs, rfl⟩ : ∃ xs, d = .tup xs := Classical.byContradiction fun g => hd fun xs e => g ⟨xs, e⟩
      have h0 : (enc (.tup xs) ++ r).getD 0 0 = 4 := by
        rw [enc_tup]
        rfl
      have hl : ¬ 0 ≥ (enc (.tup xs) ++ r).length := by
        rw [enc_tup]
        simp
      unfold vh
      rw [if_neg hl, h0]
      show itsAt _ _ 0 = _
      unfold itsAt
      rw [many_in, Int.toNat_natCast, enc_tup, List.append_assoc]
      have e := loop_back (val_back n) xs [4, ((xs.length / 256 : Nat) : Int), ((xs.length % 256 : Nat) : Int)] r [] h.2
      rw [if_neg]
      · show (match loopAt (valAt _ n) xs.length 3 [] with | some (xs, i) => some (D.tup xs, i) | none => none) = _
        rw [show (3 : Nat) = [4, ((xs.length / 256 : Nat) : Int), ((xs.length % 256 : Nat) : Int)].length from rfl, e]
        rw [List.length_append]
        rfl
      · have := h.1
        rw [List.length_append]
        simp only [List.length_cons, List.length_nil]
        omega
/-! ### a row that is torn -/
theorem part_len {os : List Int} {m : Int} : (partAt os 0 m).length ≤ os.length - 2 := by
  unfold partAt
  rw [List.length_take, List.length_drop]
  omega
theorem vh_nil {it : Option (D × Nat)} : vh [] 0 it = none := rfl
theorem num_cut {s n : Int} {p q : List Int} (h : (n :: p).length ≤ n) : numAt (s :: n :: p) 0 = none := by
  have hm : manyAt (s :: n :: p) 0 99 = n := by
    unfold manyAt
    rw [if_pos (by simp)]
    rfl
  unfold numAt
  rw [hm, if_pos]
  have := part_len (os := s :: n :: p) (m := n)
  simp only [List.length_cons] at this h
  exact .inr (.inl (by omega))
theorem txt_cut {s n : Int} {p : List Int} (h : (n :: p).length ≤ n) : txtAt (s :: n :: p) 0 = none := by
  have hm : manyAt (s :: n :: p) 0 999 = n := by
    unfold manyAt
    rw [if_pos (by simp)]
    rfl
  unfold txtAt
  rw [hm, if_pos]
  have := part_len (os := s :: n :: p) (m := n)
  simp only [List.length_cons] at this h
  exact .inr (.inl (by omega))
theorem flat_cut {n : Nat} {d : D} (h : okv n d) (hd : ∀ xs, d ≠ .tup xs) {it : Option (D × Nat)} {p q : List Int} (e : enc d = p ++ q) (hq : q ≠ []) : vh p 0 it = none := by
  have two : ∀ {s m : Int} {r : List Int}, s :: m :: r = p ++ q → p = [] ∨ p = [s] ∨ ∃ p', p = s :: m :: p' ∧ r = p' ++ q := fun {s m r} e => by
    match p, e with
    | [], _ => exact .inl rfl
    | [a], e =>
      rw [List.cons_append] at e
      injection e with e1 e2
      exact .inr (.inl (by rw [e1]))
    | a :: b :: p', e =>
      rw [List.cons_append, List.cons_append] at e
      injection e with e1 e2
      injection e2 with e2 e3
      exact .inr (.inr ⟨p', by rw [e1, e2], e3⟩)
  have one : ∀ {s : Int}, [s] = p ++ q → p = [] := fun {s} e => by
    match p, e with
    | [], _ => rfl
    | a :: p', e =>
      rw [List.cons_append] at e
      injection e with e1 e2
      exact absurd (List.append_eq_nil_iff.mp e2.symm).2 hq
  have qp : 0 < q.length := List.length_pos_iff.mpr hq
  cases d with
  | non => rw [one e]; rfl
  | bl v => cases v <;> (rw [one e]; rfl)
  | int i =>
    unfold enc at e
    rcases two e with rfl | rfl | ⟨p', rfl, e2⟩
    · rfl
    · by_cases h2 : 0 ≤ i
      · rw [if_pos h2]; rfl
      · rw [if_neg h2]; rfl
    · have hn := num_cut (s := if 0 ≤ i then 1 else 2) (n := ((digs i.natAbs).length : Int)) (p := p') (q := q) (by rw [e2, List.length_append, List.length_cons]; omega)
      by_cases h2 : 0 ≤ i
      · rw [if_pos h2] at hn ⊢
        exact hn
      · rw [if_neg h2] at hn ⊢
        exact hn
  | str z =>
    unfold enc at e
    have hl : (z.cps.toList.map cod).length = z.length := by rw [List.length_map, Array.length_toList]; rfl
    rcases two e with rfl | rfl | ⟨p', rfl, e2⟩
    · rfl
    · rfl
    · exact txt_cut (s := 3) (n := (z.length : Int)) (p := p') (by rw [e2, List.length_append] at hl; rw [List.length_cons]; omega)
  | tup xs => exact absurd rfl (hd xs)
  | lst _ => cases n <;> exact False.elim h
  | ref _ => cases n <;> exact False.elim h
  | scr _ => cases n <;> exact False.elim h
theorem loop_cut {n : Nat} (ih : ∀ d, okv n d → ∀ p q, enc d = p ++ q → q ≠ [] → valAt p n 0 = none) : ∀ (xs : List D) (pre p q : List Int) (acc : List D), (∀ x ∈ xs, okv n x) → encs xs = p ++ q → q ≠ [] → loopAt (valAt (pre ++ p) n) xs.length pre.length acc = none
  | [], pre, p, q, acc, _, e, hq => absurd (List.append_eq_nil_iff.mp e.symm).2 hq
  | x :: xs, pre, p, q, acc, h, e, hq => by
    rw [List.length_cons]
    unfold loopAt
    rw [encs_cons] at e
    have e1 := val_sh (pre := pre) (l := p) (n := n) (i := 0)
    rw [Nat.add_zero] at e1
    rw [e1]
    rcases List.append_eq_append_iff.mp e with ⟨p', rfl, e3⟩ | ⟨q', e3, e4⟩
    · rw [val_back n x (h x List.mem_cons_self)]
      have e2 := loop_cut ih xs (pre ++ enc x) p' q (acc ++ [x]) (fun y hy => h y (List.mem_cons_of_mem _ hy)) e3 hq
      rw [List.append_assoc, List.length_append] at e2
      exact e2
    · by_cases hq' : q' = []
      · subst hq'
        rw [List.append_nil] at e3
        rw [List.nil_append] at e4
        have e5 := val_back n x (h x List.mem_cons_self) []
        rw [List.append_nil] at e5
        rw [← e3, e5]
        have e2 := loop_cut ih xs (pre ++ enc x) [] q (acc ++ [x]) (fun y hy => h y (List.mem_cons_of_mem _ hy)) e4.symm hq
        rw [List.append_nil, List.length_append] at e2
        exact e2
      · rw [ih x (h x List.mem_cons_self) p q' e3 hq']
        rfl
theorem val_cut : ∀ (n : Nat) (d : D), okv n d → ∀ p q, enc d = p ++ q → q ≠ [] → valAt p n 0 = none
  | 0, d, h, p, q, e, hq => by
    unfold valAt
    refine flat_cut h (fun xs e => ?_) e hq
    subst e
    exact h
  | n + 1, d, h, p, q, e, hq => by
    unfold valAt
    by_cases hd : ∀ xs, d ≠ .tup xs
    · exact flat_cut h hd e hq
    · obtain ⟨xs, rfl⟩ : ∃ xs, d = .tup xs := Classical.byContradiction fun g => hd fun xs e => g ⟨xs, e⟩
      rw [enc_tup] at e
      have cutc : ∀ p', encs xs = p' ++ q → vh ([4, ((xs.length / 256 : Nat) : Int), ((xs.length % 256 : Nat) : Int)] ++ p') 0 (itsAt (valAt ([4, ((xs.length / 256 : Nat) : Int), ((xs.length % 256 : Nat) : Int)] ++ p') n) ([4, ((xs.length / 256 : Nat) : Int), ((xs.length % 256 : Nat) : Int)] ++ p') 0) = none := fun p' e3 => by
        have hi : itsAt (valAt ([4, ((xs.length / 256 : Nat) : Int), ((xs.length % 256 : Nat) : Int)] ++ p') n) ([4, ((xs.length / 256 : Nat) : Int), ((xs.length % 256 : Nat) : Int)] ++ p') 0 = none := by
          have hmi : manyIn ([4, ((xs.length / 256 : Nat) : Int), ((xs.length % 256 : Nat) : Int)] ++ p') 0 = (xs.length : Int) := by
            show 256 * (256 * 0 + ((xs.length / 256 : Nat) : Int)) + ((xs.length % 256 : Nat) : Int) = _
            omega
          unfold itsAt
          rw [hmi, Int.toNat_natCast]
          have e5 := loop_cut (val_cut n) xs [4, ((xs.length / 256 : Nat) : Int), ((xs.length % 256 : Nat) : Int)] p' q [] h.2 e3 hq
          show (if _ then none else match loopAt (valAt _ n) xs.length 3 [] with | some (xs, i) => some (D.tup xs, i) | none => none) = none
          rw [show (3 : Nat) = [4, ((xs.length / 256 : Nat) : Int), ((xs.length % 256 : Nat) : Int)].length from rfl, e5]
          exact ite_self _
        exact hi
      rcases List.append_eq_append_iff.mp e with ⟨p', rfl, e3⟩ | ⟨q', e3, e4⟩
      · exact cutc p' e3
      · have : p.length ≤ 3 := by
          have := congrArg List.length e3
          rw [List.length_append] at this
          simp only [List.length_cons, List.length_nil] at this
          omega
        by_cases hq' : q' = []
        · subst hq'
          rw [List.append_nil] at e3
          rw [← e3]
          have := cutc [] (by rw [List.nil_append] at e4; rw [List.nil_append]; exact e4.symm)
          rw [List.append_nil] at this
          exact this
        · have h2 : p.length < 3 := by
            have := congrArg List.length e3
            rw [List.length_append] at this
            have h4 := List.length_pos_iff.mpr hq'
            simp only [List.length_cons, List.length_nil] at this
            omega
          match p, e3, h2 with
          | [], _, _ => rfl
          | [a], e3, _ =>
            injection e3 with e1 _
            subst e1
            rfl
          | [a, b], e3, _ =>
            injection e3 with e1 _
            subst e1
            rfl
end PL.Cod
/-! PL: the laws' own helpers for values and their octets. -/
namespace PL.Cod
open PySem L2 PL
local macro_rules | `(tactic| walk_at "wp") => `(tactic| try simp only [decide_true, decide_false, Bool.not_true, Bool.not_false, Bool.false_eq_true, if_true, if_false, true_and, and_true, not_true, not_false_iff, wB, wS, PL.wE, PL.wT, wL, wXs, wPo, wG, wGs, wI, gv0, gvS, opt_some, opt_none, opt_ifc, opt_ite, opt_map, setAll, Gs.len, atI0, atI1, List.length_map, List.length_append, List.length_cons, List.length_nil, wipeD, List.map_cons, List.map_nil, i_tt, i_ti, i_ts, i_tb, i_tn, i_bi, i_bs, i_bb, i_bn, i_ii, i_is, i_ib, i_in, i_si, i_ss, i_sb, i_sn, c_eqb, c_neb, n_int, n_str, n_bl, n_tup, n_non, c_sl, beq_self_eq_true, bne_self_eq_false, ls_tup, ls_lst, ls_scr, m_starts, is_str, ite_dec, ite_ndec, List.set_cons_succ, List.set_cons_zero, tru_bl, tru_int, tru_tup, tru_lst, tru_non, b_add, b_sub, b_mul, b_rep, b_fdv, b_mod, b_pow, b_adds, b_addt, c_eq, c_ne, c_lt, c_le, c_gt, c_ge, c_eqs, c_nes, c_isn, c_ins, c_isb, c_isb2, c_int, c_nint, c_inl, c_ninl, f_abs, f_int, f_intb, f_str, f_lens, f_lent, f_lenl, f_tupl, f_tupt, f_max2, f_min2, f_suml, f_alll, f_anyl, x_tup, x_lst, sq_tup, sq_lst, sq_scr, it_lst, atI2, atI3, atI4, atI5, atIm1, atIm2, atIm3, atIm4])
local macro_rules | `(tactic| walk_at "sd") => `(tactic| first | decide | exact .inr (by decide) | exact .inl (by decide) | (simp only [sizeLine] at *; omega))
local macro_rules | `(tactic| walk_at "tl") => `(tactic| repeat' first | assumption | exact tl_non | exact tl_bl | exact tl_nil | apply tl_one | apply tl_cons | apply Tell.tup | apply Tell.lst | (apply tl_str; decide +kernel) | (apply tl_int; first | decide | omega))
local macro_rules | `(tactic| walk_at "tell") => `(tactic| exact Tell.mono (by walk_at "tl") (by first | decide | omega) (by first | decide | omega))
def bValsL (b : Nat) : Bk := (.cons (.asg (.nam 1) (.bin .Add (.var 1) (.call (b + 3) (.cons (.var 2) .nil))))
    .nil)
def bVals (b : Nat) : Bk := (.cons (.asg (.nam 1) (.tup .nil))
    (.cons (.for_ (.nam 2) (.tup (.var 0)) (bValsL b))
    (.cons (.ret (.var 1))
    .nil)))
def bReadL (b : Nat) : Bk := (.cons (.expr (.app (.var 2) (.idx (.var 1) (.lit (.int 0)))))
    (.cons (.asg (.nam 3) (.idx (.var 1) (.lit (.int 1))))
    (.cons (.asg (.nam 1) (.call (b + 7) (.cons (.var 0) (.cons (.var 3) (.cons (.glo "DEEPEST" (.int 40)) .nil)))))
    .nil)))
def bRead (b : Nat) : Bk := (.cons (.par [2, 3] (.cons (.new (.dsp .nil)) (.cons (.lit (.int 0)) .nil)))
    (.cons (.asg (.nam 1) (.call (b + 7) (.cons (.var 0) (.cons (.lit (.int 0)) (.cons (.glo "DEEPEST" (.int 40)) .nil)))))
    (.cons (.whl (.cmp .IsNot (.var 1) (.lit (.non))) (bReadL b))
    (.cons (.ret (.tup (.cons (.fn .tuple (.cons (.var 2) .nil)) (.cons (.var 3) .nil))))
    .nil))))
def bLDigL : Bk := (.cons (.asg (.nam 1) (.frz (.cat (.frz (.dsp (.cons (.bin .Sub (.var 0) (.bin .Mult (.bin .FloorDiv (.var 0) (.lit (.int 256))) (.lit (.int 256)))) .nil))) (.var 1))))
    (.cons (.asg (.nam 0) (.bin .FloorDiv (.var 0) (.lit (.int 256))))
    .nil))
def bLDig : Bk := (.cons (.asg (.nam 1) (.frz (.dsp .nil)))
    (.cons (.whl (.cmp .Gt (.var 0) (.lit (.int 0))) bLDigL)
    (.cons (.ret (.var 1))
    .nil)))
def bLOctL (l : Nat) : Bk := (.cons (.asg (.nam 2) (.frz (.cat (.var 2) (.call (l + 4) (.cons (.var 3) .nil)))))
    .nil)
def bLOct (l : Nat) : Bk := (.cons (.ite (.or (.cmp .Is (.var 0) (.lit (.non))) (.val (.isi (.var 0) "bool"))) (.cons (.ret (.frz (.dsp (.cons (.ite (.cmp .Is (.var 0) (.lit (.non))) (.lit (.int 0)) (.ite (.val (.var 0)) (.lit (.int 5)) (.lit (.int 6)))) .nil))))
    .nil) .nil)
    (.cons (.ite (.val (.isi (.var 0) "str")) (.cons (.ret (.frz (.cat (.frz (.dsp (.cons (.lit (.int 3)) (.cons (.fn .len (.cons (.var 0) .nil)) .nil)))) (.frz (.lc [("sign", 4)] (.nam 4) (.str (.var 0)) .yes (.bin .Add (.mtd .index (.lit (.str "0123456789abcdefghijklmnopqrstuvwxyz")) (.cons (.var 4) .nil)) (.lit (.int 1))))))))
    .nil) .nil)
    (.cons (.ite (.val (.isi (.var 0) "tuple")) (.cons (.asg (.nam 2) (.frz (.dsp (.cons (.lit (.int 4)) (.cons (.bin .FloorDiv (.fn .len (.cons (.var 0) .nil)) (.lit (.int 256))) (.cons (.bin .Sub (.fn .len (.cons (.var 0) .nil)) (.bin .Mult (.bin .FloorDiv (.fn .len (.cons (.var 0) .nil)) (.lit (.int 256))) (.lit (.int 256)))) .nil))))))
    (.cons (.for_ (.nam 3) (.tup (.var 0)) (bLOctL l))
    (.cons (.ret (.var 2))
    .nil))) .nil)
    (.cons (.asg (.nam 1) (.call (l + 3) (.cons (.fn .abs (.cons (.var 0) .nil)) .nil)))
    (.cons (.ret (.frz (.cat (.frz (.dsp (.cons (.ite (.cmp .GtE (.var 0) (.lit (.int 0))) (.lit (.int 1)) (.lit (.int 2))) (.cons (.fn .len (.cons (.var 1) .nil)) .nil)))) (.var 1))))
    .nil)))))
def bLTxt (l : Nat) : Bk := (.cons (.ret (.mtd .join (.lit (.str "")) (.cons (.frz (.lc [("turn", 2)] (.nam 2) (.rng1 (.call (l + 1) (.cons (.var 0) (.cons (.bin .Add (.var 1) (.lit (.int 1))) .nil)))) .yes (.call (l + 2) (.cons (.var 0) (.cons (.frz (.lst (.lit (.str "09abyz")))) .nil))))) .nil)))
    .nil)
def bLNum (l : Nat) : Bk := (.cons (.asg (.nam 1) (.call (l + 1) (.cons (.var 0) (.cons (.lit (.int 4)) .nil))))
    (.cons (.ite (.cmp .Eq (.var 1) (.lit (.int 0))) (.cons (.ret (.bin .Sub (.call (l + 1) (.cons (.var 0) (.cons (.lit (.int 5)) .nil))) (.lit (.int 1))))
    .nil) .nil)
    (.cons (.ite (.cmp .Eq (.var 1) (.lit (.int 1))) (.cons (.ret (.bin .Mult (.call (l + 2) (.cons (.var 0) (.cons (.frz (.dsp (.cons (.lit (.int 255)) (.cons (.lit (.int 256)) (.cons (.lit (.int 257)) (.cons (.lit (.int 65535)) (.cons (.lit (.int 65536)) (.cons (.lit (.int 16777216)) (.cons (.bin .Pow (.lit (.int 10)) (.lit (.int 12))) (.cons (.bin .Sub (.bin .Pow (.lit (.int 10)) (.lit (.int 12))) (.lit (.int 1))) (.cons (.lit (.int 0)) .nil))))))))))) .nil))) (.call (l + 2) (.cons (.var 0) (.cons (.frz (.dsp (.cons (.lit (.int 1)) (.cons (.lit (.int 1)) (.cons (.neg (.lit (.int 1))) .nil))))) .nil)))))
    .nil) .nil)
    (.cons (.ret (.bin .Mult (.bin .Add (.bin .Mult (.call (l + 1) (.cons (.var 0) (.cons (.bin .Pow (.lit (.int 10)) (.lit (.int 6))) .nil))) (.call (l + 1) (.cons (.var 0) (.cons (.bin .Pow (.lit (.int 10)) (.lit (.int 6))) .nil)))) (.var 1)) (.call (l + 2) (.cons (.var 0) (.cons (.frz (.dsp (.cons (.lit (.int 1)) (.cons (.lit (.int 1)) (.cons (.lit (.int 1)) (.cons (.neg (.lit (.int 1))) .nil)))))) .nil)))))
    .nil))))
def bLVal (l : Nat) : Bk := (.cons (.asg (.nam 2) (.call (l + 1) (.cons (.var 0) (.cons (.lit (.int 6)) .nil))))
    (.cons (.ite (.cmp .Eq (.var 2) (.lit (.int 0))) (.cons (.ret (.call (l + 2) (.cons (.var 0) (.cons (.frz (.dsp (.cons (.lit (.non)) (.cons (.lit (.bl true)) (.cons (.lit (.bl false)) .nil))))) .nil))))
    .nil) .nil)
    (.cons (.ite (.or (.cmp .Lt (.var 2) (.lit (.int 3))) (.cmp .Eq (.var 1) (.lit (.int 0)))) (.cons (.ret (.ite (.cmp .Lt (.var 2) (.lit (.int 5))) (.call (l + 6) (.cons (.var 0) .nil)) (.call (l + 5) (.cons (.var 0) (.cons (.lit (.int 9)) .nil)))))
    .nil) .nil)
    (.cons (.ite (.cmp .Eq (.var 2) (.lit (.int 3))) (.cons (.ret (.call (l + 5) (.cons (.var 0) (.cons (.lit (.int 9)) .nil))))
    .nil) .nil)
    (.cons (.ret (.fn .tuple (.cons (.frz (.lc [("item", 3)] (.nam 3) (.rng1 (.call (l + 1) (.cons (.var 0) (.cons (.lit (.int 5)) .nil)))) .yes (.call (l + 7) (.cons (.var 0) (.cons (.bin .Sub (.var 1) (.lit (.int 1))) .nil))))) .nil)))
    .nil)))))
def bLSame (l : Nat) : Bk := (.cons (.ite (.val (.isi (.var 1) "tuple")) (.cons (.asg (.nam 2) (.andv (.isi (.var 0) "tuple") (.cmp .Eq (.fn .len (.cons (.var 0) .nil)) (.fn .len (.cons (.var 1) .nil)))))
    (.cons (.ret (.andv (.var 2) (.cmp .Eq (.frz (.lc [("k", 3)] (.nam 3) (.rng1 (.fn .len (.cons (.var 1) .nil))) (.not (.val (.call (l + 8) (.cons (.idx (.var 0) (.var 3)) (.cons (.idx (.var 1) (.var 3)) .nil))))) (.var 3))) (.frz (.dsp .nil)))))
    .nil)) .nil)
    (.cons (.ite (.or (.cmp .Is (.var 1) (.lit (.non))) (.cmp .NotEq (.isi (.var 0) "bool") (.isi (.var 1) "bool"))) (.cons (.ret (.andv (.cmp .Is (.var 0) (.lit (.non))) (.cmp .Is (.var 1) (.lit (.non)))))
    .nil) .nil)
    (.cons (.ret (.andv (.cmp .Eq (.isi (.var 0) "str") (.isi (.var 1) "str")) (.andv (.cmp .Eq (.isi (.var 0) "int") (.isi (.var 1) "int")) (.cmp .Eq (.var 0) (.var 1)))))
    .nil)))
def bLManyL (l : Nat) : Bk := (.cons (.asg (.nam 1) (.frz (.cat (.var 1) (.call (l + 4) (.cons (.var 2) .nil)))))
    .nil)
def bLMany (l : Nat) : Bk := (.cons (.asg (.nam 1) (.frz (.dsp .nil)))
    (.cons (.for_ (.nam 2) (.tup (.var 0)) (bLManyL l))
    (.cons (.ret (.fn .tuple (.cons (.var 1) .nil)))
    .nil)))
theorem for_preD {all : List D} {G : Sto → Prop} {body : D → Ev → Sto → En → Prop} {E : En} (I : List D → Ev → Sto → Prop) (hG : ∀ p σ S, I p σ S → G S) {items pre : List D} {σ : Ev} {S : Sto} (h0 : all = pre ++ items) (i0 : I pre σ S)
    (h : ∀ p x r, all = p ++ x :: r → ∀ σ S, I p σ S → ∀ E' : En, (∀ σ S, I (p ++ [x]) σ S → E'.nx σ S) → (∀ σ S, I (p ++ [x]) σ S → E'.ct σ S) → (∀ σ S, E.nx σ S → E'.bk σ S) → (∀ d S, E.rt d S → E'.rt d S) → body x σ S E') (q : ∀ σ S, I all σ S → E.nx σ S) : forLoop G body E items σ S := by
  have := for_pre (g := id) (body := body) (E := E) I hG h0 i0 h q
  rw [List.map_id] at this
  exact this
structure LawT (T : List Fd) (b l : Nat) : Prop extends CodT T b where
  t8 : T[b + 8]? = some ⟨1, 3, bVals b⟩
  t9 : T[b + 9]? = some ⟨1, 4, bRead b⟩
  l0 : T[l + 0]? = some ⟨1, 2, bCup⟩
  l1 : T[l + 1]? = some ⟨2, 4, bRoll⟩
  l2 : T[l + 2]? = some ⟨2, 2, bSome (l + 1)⟩
  l3 : T[l + 3]? = some ⟨1, 2, bLDig⟩
  l4 : T[l + 4]? = some ⟨1, 5, bLOct l⟩
  l5 : T[l + 5]? = some ⟨2, 3, bLTxt l⟩
  l6 : T[l + 6]? = some ⟨1, 2, bLNum l⟩
  l7 : T[l + 7]? = some ⟨2, 4, bLVal l⟩
  l8 : T[l + 8]? = some ⟨2, 4, bLSame l⟩
  l9 : T[l + 9]? = some ⟨1, 3, bLMany l⟩
variable {T : List Fd} {b l : Nat}
theorem vals_ok (c : LawT T b l) {k n : Nat} {S : Sto} {xs : List D} {Q : WQ} (h : ∀ x ∈ xs, okv n x) (hl : (encs xs).length ≤ 10000000) (q : Q (octs (encs xs)) S) : callW T (k + 4 + n) (b + 8) [.tup xs] S Q := by
  rw [show k + 4 + n = (k + 3 + n) + 1 by omega]
  refine callW_at c.t8 rfl ?_
  show wB _ (bVals b) [some (.tup xs), none, none] _ _
  unfold bVals
  walk_at "wp"
  refine ⟨by decide, ?_⟩
  refine for_preD (all := xs) (fun p σ S' => S' = S ∧ ∃ s2, σ = [some (.tup xs), some (octs (encs p)), s2]) (fun _ _ _ _ => trivial) (pre := []) rfl ⟨rfl, _, rfl⟩ ?_ ?_
  · rintro p x r hal σ S' ⟨rfl, s2, rfl⟩ E' nx - - -
    obtain ⟨hx, hp, hpl⟩ := pre_mem hal
    unfold bValsL
    walk_at "wp"
    have hlen : (encs p).length + (enc x).length ≤ 10000000 := by
      rw [hal, encs_app, encs_cons] at hl
      simp only [List.length_append] at hl
      omega
    refine by_ok c.toCodT (h x hx) (by omega) ?_
    walk_at "wp"
    refine ⟨by walk_at "sd", nx _ _ ⟨rfl, some x, ?_⟩⟩
    rw [encs_app, encs_cons, show encs [] = [] from rfl, List.append_nil, octs, List.map_append]
  · rintro σ S' ⟨rfl, s2, rfl⟩
    walk_at "wp"
    exact rt_of q
theorem read_ok (c : LawT T b l) {k : Nat} {S : Sto} {xs : List D} {os r : List Int} {Q : WQ} (ho : octets os) (e : os = encs xs ++ r) (h : ∀ x ∈ xs, okv 40 x) (hr : valAt r 40 0 = none) (hl : xs.length ≤ 100000) (q : Q (.tup [.tup xs, .int ((encs xs).length : Int)]) S) : callW T (k + 84) (b + 9) [octs os] S Q := by
  refine callW_at c.t9 rfl ?_
  show wB _ (bRead b) [some (octs os), none, none, none] _ _
  unfold bRead
  walk_at "wp"
  have hv : ∀ (S : Sto) (i : Nat) (Q : WQ), Q (pairD (valAt os 40 i)) S → callW T (k + 83) (b + 7) [octs os, .int (i : Int), .int 40] S Q := fun S i Q q => val_ok c.toCodT ho 40 (k := k) S i Q q
  have nxt : ∀ p x r', xs = p ++ x :: r' → valAt os 40 (encs p).length = some (x, (encs (p ++ [x])).length) := fun p x r' hx => by
    have e1 := val_sh (pre := encs p) (l := enc x ++ (encs r' ++ r)) (n := 40) (i := 0)
    rw [Nat.add_zero, val_back 40 x (h x (by rw [hx]; simp))] at e1
    rw [e, hx, encs_app, encs_cons, List.append_assoc, List.append_assoc, e1, encs_app, encs_cons]
    show some _ = some _
    rw [show encs [] = [] from rfl, List.append_nil, List.length_append]
  have stop : valAt os 40 (encs xs).length = none := by
    have e1 := val_sh (pre := encs xs) (l := r) (n := 40) (i := 0)
    rw [Nat.add_zero, hr] at e1
    rw [e, e1]
    rfl
  refine ⟨by decide, fun p hp => ?_⟩
  refine hv _ 0 _ ?_
  walk_at "wp"
  refine whl_meas (fun m σ S' => ∃ pr re, xs = pr ++ re ∧ m = re.length ∧ σ = [some (octs os), some (pairD (valAt os 40 (encs pr).length)), some (.ref p), some (.int ((encs pr).length : Int))] ∧ S' p = some (.lst pr) ∧ S.le S') ?_ (m := xs.length) ⟨[], xs, rfl, rfl, rfl, Sto.put_same, Sto.le_put hp⟩
  rintro m σ S' ⟨pr, re, hx, hm, rfl, h1, h2⟩ E' nx - - -
  walk_at "wp"
  cases re with
  | nil =>
    rw [List.append_nil] at hx
    subst hx
    rw [stop]
    unfold pairD
    walk_at "wp"
    rw [f_tupr h1]
    exact ⟨by decide, rt_le h2 q⟩
  | cons x re =>
    rw [nxt pr x re hx]
    unfold pairD
    walk_at "wp"
    unfold bReadL
    walk_at "wp"
    rw [lstAt_ref h1]
    have : pr.length ≤ xs.length := by rw [hx]; simp
    refine ⟨trivial, appS_ref h1 (by walk_at "sd") ?_⟩
    refine hv _ (encs (pr ++ [x])).length _ ?_
    exact nx re.length (by rw [hm]; simp) _ _ ⟨pr ++ [x], re, by rw [hx]; simp, rfl, rfl, Sto.put_same, le_put2 h2 hp⟩
/-- what the laws draw and compare: no list, no object; at most so many deep and wide -/
def okd : Nat → D → Prop
  | _, .non => True
  | _, .bl _ => True
  | _, .int _ => True
  | _, .str _ => True
  | n + 1, .tup xs => xs.length ≤ 2000000 ∧ ∀ x ∈ xs, okd n x
  | _, _ => False
theorem okv_okd : ∀ {n : Nat} {d : D}, okv n d → okd n d
  | n, .non, _ => by cases n <;> trivial
  | n, .bl _, _ => by cases n <;> trivial
  | n, .int _, _ => by cases n <;> trivial
  | n, .str _, _ => by cases n <;> trivial
  | n + 1, .tup xs, h => ⟨by have := h.1; omega, fun x hx => okv_okd (h.2 x hx)⟩
  | 0, .tup xs, h => False.elim h
  | n, .lst _, h => by cases n <;> exact False.elim h
  | n, .ref _, h => by cases n <;> exact False.elim h
  | n, .scr _, h => by cases n <;> exact False.elim h
theorem same_ok (c : LawT T b l) {k : Nat} : ∀ (n : Nat) {S : Sto} {d : D} {Q : WQ}, okd n d → Q (.bl true) S → callW T (k + n + 1) (l + 8) [d, d] S Q := by
  have leaf : ∀ (k n : Nat) {S : Sto} {d : D} {Q : WQ}, okd n d → (∀ xs, d ≠ .tup xs) → Q (.bl true) S → callW T (k + 1) (l + 8) [d, d] S Q := by
    intro k n S d Q h hd q
    refine callW_at c.l8 rfl ?_
    show wB _ (bLSame l) [some d, some d, none, none] _ _
    unfold bLSame
    cases d with
    | non =>
      walk_at "wp"
      exact rt_of q
    | bl v =>
      walk_at "wp"
      exact rt_of q
    | int i =>
      walk_at "wp"
      exact rt_of q
    | str z =>
      walk_at "wp"
      exact rt_of q
    | tup xs => exact False.elim (hd xs rfl)
    | lst _ => cases n <;> exact False.elim h
    | ref _ => cases n <;> exact False.elim h
    | scr _ => cases n <;> exact False.elim h
  intro n
  induction n with
  | zero =>
    intro S d Q h q
    refine leaf _ 0 h (fun xs e => ?_) q
    subst e
    exact h
  | succ n ih =>
    intro S d Q h q
    by_cases hd : ∀ xs, d ≠ .tup xs
    · exact leaf _ _ h hd q
    · obtain ⟨xs, rfl⟩ : ∃ xs, d = .tup xs := Classical.byContradiction fun g => hd fun xs e => g ⟨xs, e⟩
      have hl := h.1
      refine callW_at c.l8 rfl ?_
      show wB _ (bLSame l) [some (.tup xs), some (.tup xs), none, none] _ _
      unfold bLSame
      walk_at "wp"
      refine ⟨by omega, by omega, ?_⟩
      refine lc_filterm (f := fun _ : Nat => none) trivial (fun j hj kk hk => ?_) ?_
      · have hj' : j < xs.length := by simpa using hj
        rw [show (0 : Int) + (j : Int) = (j : Int) by omega, x_tup, atI_nat (List.getElem?_eq_getElem hj')]
        walk_at "wp"
        refine ih (h.2 _ (List.getElem_mem hj')) ?_
        walk_at "wp"
        exact hk
      · rw [show [] ++ List.filterMap (fun _ : Nat => (none : Option D)) (List.range ((xs.length : Int)).toNat) = [] by simp]
        rw [c_nilL rfl]
        walk_at "wp"
        exact ⟨by decide, rt_of q⟩
theorem ldig_ok (c : LawT T b l) {k : Nat} {S : Sto} {n : Nat} {Q : WQ} (h : n < 256 ^ 8) (q : Q (.lst ((digs n).map .int)) S) : callW T (k + 1) (l + 3) [.int (n : Int)] S Q := by
  refine callW_at c.l3 rfl ?_
  show wB _ bLDig [some (.int (n : Int)), none] _ _
  unfold bLDig
  walk_at "wp"
  refine ⟨by decide, ?_⟩
  refine whl_meas (fun m σ S' => ∃ xs : List Int, S' = S ∧ σ = [some (.int (m : Int)), some (.lst (xs.map .int))] ∧ m ≤ n ∧ digs n = digs m ++ xs) ?_ (m := n) ⟨[], rfl, rfl, Nat.le_refl _, by simp⟩
  rintro m σ S' ⟨xs, rfl, rfl, hm, e⟩ E' nx - - -
  walk_at "wp"
  have hl := digs_len 8 n h
  rw [e, List.length_append] at hl
  by_cases hz : (0 : Int) < (m : Int)
  · simp only [hz, if_true]
    unfold bLDigL
    walk_at "wp"
    refine ⟨by decide, .inr (by decide), by decide, by walk_at "sd", by decide, ?_⟩
    have hm0 : m ≠ 0 := by omega
    refine nx (m / 256) (by omega) _ _ ⟨((m % 256 : Nat) : Int) :: xs, rfl, ?_, by omega, ?_⟩
    · rw [show (m : Int) - (m : Int) / 256 * 256 = ((m % 256 : Nat) : Int) by omega, show ((m / 256 : Nat) : Int) = (m : Int) / 256 by omega]
      rfl
    · rw [e, digs_pos hm0, List.append_assoc]
      rfl
  · simp only [hz, if_false]
    have : m = 0 := by omega
    subst this
    rw [digs_zero, List.nil_append] at e
    rw [← e]
    exact rt_of q
theorem loct_ok (c : LawT T b l) : ∀ (n : Nat) {k : Nat} {S : Sto} {d : D} {Q : WQ}, okv n d → (enc d).length ≤ 10000000 → Q (.lst ((enc d).map .int)) S → callW T (k + 2 + n) (l + 4) [d] S Q := by
  have leaf : ∀ (k n : Nat) {S : Sto} {d : D} {Q : WQ}, okv n d → (∀ xs, d ≠ .tup xs) → Q (.lst ((enc d).map .int)) S → callW T (k + 2) (l + 4) [d] S Q := by
    intro k n S d Q h hd q
    cases d with
    | non =>
      refine callW_at c.l4 rfl ?_
      show wB _ (bLOct l) [some (.non), none, none, none, none] _ _
      unfold bLOct
      walk_at "wp"
      exact ⟨by decide, rt_of q⟩
    | bl v =>
      refine callW_at c.l4 rfl ?_
      show wB _ (bLOct l) [some (.bl v), none, none, none, none] _ _
      unfold bLOct
      cases v
      · walk_at "wp"
        exact ⟨by decide, rt_of q⟩
      · walk_at "wp"
        exact ⟨by decide, rt_of q⟩
    | int i =>
      refine callW_at c.l4 rfl ?_
      show wB _ (bLOct l) [some (.int i), none, none, none, none] _ _
      unfold bLOct
      have h : i.natAbs ≤ 10 ^ 12 := by cases n <;> exact h
      walk_at "wp"
      rw [show (if i < 0 then -i else i) = ((i.natAbs : Nat) : Int) by split <;> omega]
      refine ldig_ok c (by omega) ?_
      walk_at "wp"
      have hl := digs_len 8 i.natAbs (by omega)
      unfold enc at q
      by_cases h0 : 0 ≤ i
      · simp only [h0, if_true] at q ⊢
        walk_at "wp"
        exact ⟨by decide, by walk_at "sd", rt_of q⟩
      · simp only [h0, if_false] at q ⊢
        walk_at "wp"
        exact ⟨by decide, by walk_at "sd", rt_of q⟩
    | str z =>
      refine callW_at c.l4 rfl ?_
      show wB _ (bLOct l) [some (.str z), none, none, none, none] _ _
      unfold bLOct
      have h : z.length ≤ 100 ∧ ∀ c ∈ z.cps.toList, c ∈ sg := by cases n <;> exact h
      walk_at "wp"
      unfold enc at q
      refine ⟨by walk_at "sd", by decide, by walk_at "sd", ?_⟩
      refine lc_mapm (f := fun c => .int (cod c)) trivial (fun c0 hc kk hk => ?_) ?_
      · rw [m_index (a := SG) (sg_occ c0 (h.2 c0 hc))]
        walk_at "wp"
        exact hk
      · rw [List.nil_append]
        walk_at "wp"
        refine ⟨?_, rt_of ?_⟩
        · rw [Array.length_toList]
          have : z.cps.size ≤ 100 := h.1
          walk_at "sd"
        · have e : (3 :: (z.length : Int) :: z.cps.toList.map cod).map D.int = [.int 3, .int (z.length : Int)] ++ z.cps.toList.map fun c => .int (cod c) := by
            show (D.int 3 :: .int (z.length : Int) :: (z.cps.toList.map cod).map .int) = _
            rw [List.map_map]
            rfl
          rw [e] at q
          exact q
    | tup xs => exact False.elim (hd xs rfl)
    | lst _ => cases n <;> exact False.elim h
    | ref _ => cases n <;> exact False.elim h
    | scr _ => cases n <;> exact False.elim h
  intro n
  induction n with
  | zero =>
    intro k S d Q h hl q
    refine leaf _ 0 h (fun xs e => ?_) q
    subst e
    exact h
  | succ n ih =>
    intro k S d Q h hl q
    by_cases hd : ∀ xs, d ≠ .tup xs
    · rw [show k + 2 + (n + 1) = k + (n + 1) + 2 by omega]
      exact leaf _ _ h hd q
    · obtain ⟨xs, rfl⟩ : ∃ xs, d = .tup xs := Classical.byContradiction fun g => hd fun xs e => g ⟨xs, e⟩
      have hx := h.1
      rw [enc_tup] at hl q
      refine callW_at c.l4 rfl ?_
      show wB _ (bLOct l) [some (.tup xs), none, none, none, none] _ _
      unfold bLOct
      walk_at "wp"
      rw [show isiD (.tup xs) "bool" = some false from rfl, show isiD (.tup xs) "str" = some false from rfl]
      walk_at "wp"
      refine ⟨by decide, by decide, .inr (by decide), by decide, ?_⟩
      refine for_preD (all := xs) (fun p σ S' => S' = S ∧ ∃ s3, σ = [some (.tup xs), none, some (.lst (([4, ((xs.length / 256 : Nat) : Int), ((xs.length % 256 : Nat) : Int)] ++ encs p).map .int)), s3, none]) (fun _ _ _ _ => trivial) (pre := []) rfl ⟨rfl, none, ?_⟩ ?_ ?_
      · rw [show (xs.length : Int) - (xs.length : Int) / 256 * 256 = ((xs.length % 256 : Nat) : Int) by omega, show ((xs.length / 256 : Nat) : Int) = (xs.length : Int) / 256 by omega]
        rfl
      · rintro p x r hal σ S' ⟨rfl, s3, rfl⟩ E' nx - - -
        obtain ⟨hxm, hp, hpl⟩ := pre_mem hal
        unfold bLOctL
        walk_at "wp"
        have hlen : (encs p).length + (enc x).length ≤ 10000000 := by
          rw [List.length_append, hal, encs_app, encs_cons] at hl
          simp only [List.length_append] at hl
          omega
        refine ih (h.2 x hxm) (by omega) ?_
        walk_at "wp"
        refine ⟨by walk_at "sd", nx _ _ ⟨rfl, some x, ?_⟩⟩
        rw [encs_app, encs_cons, show encs [] = [] from rfl, List.append_nil, ← List.map_append, List.append_assoc]
      · rintro σ S' ⟨rfl, s3, rfl⟩
        walk_at "wp"
        exact rt_of q
theorem lmany_ok (c : LawT T b l) {k n : Nat} {S : Sto} {xs : List D} {Q : WQ} (h : ∀ x ∈ xs, okv n x) (hl : (encs xs).length ≤ 10000000) (q : Q (octs (encs xs)) S) : callW T (k + 3 + n) (l + 9) [.tup xs] S Q := by
  rw [show k + 3 + n = (k + 2 + n) + 1 by omega]
  refine callW_at c.l9 rfl ?_
  show wB _ (bLMany l) [some (.tup xs), none, none] _ _
  unfold bLMany
  walk_at "wp"
  refine ⟨by decide, ?_⟩
  refine for_preD (all := xs) (fun p σ S' => S' = S ∧ ∃ s2, σ = [some (.tup xs), some (.lst ((encs p).map .int)), s2]) (fun _ _ _ _ => trivial) (pre := []) rfl ⟨rfl, _, rfl⟩ ?_ ?_
  · rintro p x r hal σ S' ⟨rfl, s2, rfl⟩ E' nx - - -
    obtain ⟨hx, hp, hpl⟩ := pre_mem hal
    unfold bLManyL
    walk_at "wp"
    have hlen : (encs p).length + (enc x).length ≤ 10000000 := by
      rw [hal, encs_app, encs_cons] at hl
      simp only [List.length_append] at hl
      omega
    refine loct_ok c n (h x hx) (by omega) ?_
    walk_at "wp"
    refine ⟨by walk_at "sd", nx _ _ ⟨rfl, some x, ?_⟩⟩
    rw [encs_app, encs_cons, show encs [] = [] from rfl, List.append_nil, List.map_append]
  · rintro σ S' ⟨rfl, s2, rfl⟩
    walk_at "wp"
    exact rt_of q
/-! ### what the laws draw -/
theorem sg_few : ∀ c ∈ (Str.ofString "09abyz").cps.toList, c ∈ sg := by decide +kernel
/-- texts of so many signs of the program's own -/
def txt (n : Nat) (d : D) : Prop := ∃ z, d = .str z ∧ z.length ≤ n ∧ ∀ c ∈ z.cps.toList, c ∈ sg
theorem ltxt_ok (c : LawT T b l) {k : Nat} {cu : Addr} {S : Sto} {x y most : Int} {Q : WQ} (h0 : 0 ≤ most) (h1 : most ≤ 100) (hS : S cu = some (cupO x y)) (q : ∀ d x' y', txt most.toNat d → Q d (S.put cu (cupO x' y'))) : callW T (k + 3) (l + 5) [.ref cu, .int most] S Q := by
  refine callW_at c.l5 rfl ?_
  show wB _ (bLTxt l) [some (.ref cu), some (.int most), none] _ _
  unfold bLTxt
  walk_at "wp"
  refine roll_ok c.l1 hS (by omega) (by omega) fun r x y hr0 hr1 => ⟨by omega, by omega, ?_⟩
  refine lc_count (fun n acc S' => (∃ cs : List Nat, acc = cs.map (fun c => D.str ⟨#[c]⟩) ∧ cs.length = n ∧ ∀ c ∈ cs, c ∈ sg) ∧ ∃ x y, S' = S.put cu (cupO x y)) (fun _ _ _ _ => trivial) (n := 0) ⟨⟨[], rfl, rfl, by simp⟩, _, _, rfl⟩ ?_ ?_
  · rintro i d - acc S' ⟨⟨cs, rfl, hc, hm⟩, x, y, rfl⟩ kk hk
    walk_at "wp"
    rw [ls_str _ _ (by decide)]
    walk_at "wp"
    refine some_lst c.l2 c.l1 Sto.put_same (by decide) (by decide) fun d x y hd => ?_
    rw [put_put]
    rw [List.mem_map] at hd
    obtain ⟨c0, hc0, rfl⟩ := hd
    refine hk (some _) _ ⟨⟨cs ++ [c0], by simp, by simp [hc], ?_⟩, _, _, rfl⟩
    intro z hz
    rcases List.mem_append.mp hz with hz | hz
    · exact hm z hz
    · rw [List.mem_singleton] at hz
      subst hz
      exact sg_few _ hc0
  · rintro acc S' ⟨⟨cs, rfl, hc, hm⟩, x, y, rfl⟩
    simp only [List.length_map, List.length_range] at hc
    have e1 : cs.map (fun c => D.str ⟨#[c]⟩) = (cs.map fun c => (⟨#[c]⟩ : Str)).map D.str := by rw [List.map_map]; rfl
    have e2 : ∀ xs : List Nat, ((xs.map fun c => (⟨#[c]⟩ : Str)).map (·.length)).sum = xs.length := fun xs => by
      induction xs with
      | nil => rfl
      | cons x r ih =>
        rw [List.map_cons, List.map_cons, List.sum_cons, ih, List.length_cons]
        show 1 + r.length = _
        omega
    rw [e1, m_join (strsOf_map _) (by
      have e0 : (Str.ofString "").length = 0 := rfl
      rw [e0, Nat.mul_zero, Nat.add_zero, e2]
      omega), join_signs]
    refine rt_of (q _ _ _ ⟨_, rfl, ?_, ?_⟩)
    · show cs.toArray.size ≤ _
      rw [List.size_toArray]
      omega
    · simpa using hm
theorem lnum_ok (c : LawT T b l) {k : Nat} {cu : Addr} {S : Sto} {x y : Int} {Q : WQ} (hS : S cu = some (cupO x y)) (q : ∀ i x' y', Int.natAbs i ≤ 10 ^ 12 → Q (.int i) (S.put cu (cupO x' y'))) : callW T (k + 3) (l + 6) [.ref cu] S Q := by
  refine callW_at c.l6 rfl ?_
  show wB _ (bLNum l) [some (.ref cu), none] _ _
  unfold bLNum
  walk_at "wp"
  refine roll_ok c.l1 hS (by decide) (by decide) fun w x y hw0 hw1 => ?_
  walk_at "wp"
  by_cases h0 : w = 0
  · simp only [h0, if_true]
    refine roll_ok c.l1 Sto.put_same (by decide) (by decide) fun r x y hr0 hr1 => ?_
    walk_at "wp"
    rw [put_put]
    exact rt_of (q _ _ _ (by omega))
  · simp only [h0, if_false]
    by_cases h1 : w = 1
    · simp only [h1, if_true]
      refine ⟨by decide, by decide, by decide, ?_⟩
      refine some_lst c.l2 c.l1 Sto.put_same (show 0 < 9 by decide) (show 9 < 1073741824 by decide) fun d x y hd => ⟨by decide, ?_⟩
      refine some_lst c.l2 c.l1 Sto.put_same (show 0 < 3 by decide) (show 3 < 1073741824 by decide) fun e x y he => ?_
      obtain ⟨i, rfl, hi⟩ : ∃ i : Int, d = .int i ∧ i.natAbs ≤ 10 ^ 12 := by
        simp only [List.mem_cons, List.mem_nil_iff, or_false] at hd
        rcases hd with rfl | rfl | rfl | rfl | rfl | rfl | rfl | rfl | rfl
        all_goals exact ⟨_, rfl, by decide⟩
      obtain ⟨g, rfl, hg⟩ : ∃ g : Int, e = .int g ∧ (g = 1 ∨ g = -1) := by
        simp only [List.mem_cons, List.mem_nil_iff, or_false] at he
        rcases he with rfl | rfl | rfl
        · exact ⟨_, rfl, .inl rfl⟩
        · exact ⟨_, rfl, .inl rfl⟩
        · exact ⟨_, rfl, .inr rfl⟩
      walk_at "wp"
      rw [put_put, put_put]
      have e64 : (2 : Int) ^ 64 = 18446744073709551616 := by decide
      refine ⟨.inr ?_, rt_of (q _ _ _ ?_)⟩
      · rw [e64]
        omega
      · rcases hg with rfl | rfl
        · omega
        · omega
    · simp only [h1, if_false]
      have e6 : (10 : Int) ^ Int.toNat 6 = 1000000 := by decide
      rw [e6]
      refine ⟨by decide, ?_⟩
      refine roll_ok c.l1 Sto.put_same (by decide) (by decide) fun r1 x y ha0 ha1 => ⟨by decide, ?_⟩
      refine roll_ok c.l1 Sto.put_same (by decide) (by decide) fun r2 x y hb0 hb1 => ?_
      have hm0 : 0 ≤ r1 * r2 := Int.mul_nonneg ha0 hb0
      have hm1 : r1 * r2 ≤ 999999 * 999999 := Int.mul_le_mul (by omega) (by omega) hb0 (by decide)
      walk_at "wp"
      have e64 : (2 : Int) ^ 64 = 18446744073709551616 := by decide
      refine ⟨.inr (by rw [e64]; omega), by decide, ?_⟩
      refine some_lst c.l2 c.l1 Sto.put_same (show 0 < 4 by decide) (show 4 < 1073741824 by decide) fun e x y he => ?_
      obtain ⟨g, rfl, hg⟩ : ∃ g : Int, e = .int g ∧ (g = 1 ∨ g = -1) := by
        simp only [List.mem_cons, List.mem_nil_iff, or_false] at he
        rcases he with rfl | rfl | rfl | rfl
        · exact ⟨_, rfl, .inl rfl⟩
        · exact ⟨_, rfl, .inl rfl⟩
        · exact ⟨_, rfl, .inl rfl⟩
        · exact ⟨_, rfl, .inr rfl⟩
      walk_at "wp"
      rw [put_put, put_put, put_put]
      refine ⟨.inr (by rw [e64]; omega), rt_of (q _ _ _ ?_)⟩
      rcases hg with rfl | rfl
      · omega
      · omega
/-- a value that the laws draw: at most n deep, with a bound on its octets -/
def dr (n : Nat) (d : D) : Prop := okv n d ∧ (enc d).length ≤ 12 * 5 ^ n
theorem okv_int {n : Nat} {i : Int} (h : i.natAbs ≤ 10 ^ 12) : okv n (.int i) := by cases n <;> exact h
theorem okv_str {n : Nat} {z : Str} (h : z.length ≤ 100 ∧ ∀ c ∈ z.cps.toList, c ∈ sg) : okv n (.str z) := by cases n <;> exact h
theorem five (n : Nat) : 1 ≤ 5 ^ n := Nat.one_le_pow _ _ (by decide)
theorem dr_int {n : Nat} {i : Int} (h : i.natAbs ≤ 10 ^ 12) : dr n (.int i) := by
  refine ⟨okv_int h, ?_⟩
  have hl := digs_len 5 i.natAbs (by omega)
  have := five n
  unfold enc
  simp only [List.length_cons]
  omega
theorem dr_txt {n : Nat} {d : D} (h : txt 9 d) : dr n d := by
  obtain ⟨z, rfl, h1, h2⟩ := h
  refine ⟨okv_str ⟨by omega, h2⟩, ?_⟩
  have := five n
  have e : z.cps.toList.length = z.length := by rw [Array.length_toList]; rfl
  unfold enc
  simp only [List.length_cons, List.length_map, e]
  omega
theorem dr_tup {n : Nat} {xs : List D} (h : ∀ x ∈ xs, dr n x) (l : xs.length ≤ 4) : dr (n + 1) (.tup xs) := by
  refine ⟨⟨by omega, fun x hx => (h x hx).1⟩, ?_⟩
  have e : ∀ ys : List D, (∀ x ∈ ys, dr n x) → (encs ys).length ≤ ys.length * (12 * 5 ^ n) := fun ys => by
    induction ys with
    | nil => intro _; exact Nat.zero_le _
    | cons y r ih =>
      intro hy
      have h1 := (hy y List.mem_cons_self).2
      have h2 := ih fun x hx => hy x (List.mem_cons_of_mem _ hx)
      rw [encs_cons, List.length_append, List.length_cons, Nat.succ_mul]
      omega
  have e1 := e xs h
  have e2 : xs.length * (12 * 5 ^ n) ≤ 4 * (12 * 5 ^ n) := Nat.mul_le_mul_right _ l
  have := five n
  rw [enc_tup, List.length_append, Nat.pow_succ]
  simp only [List.length_cons, List.length_nil]
  omega
theorem lval_ok (c : LawT T b l) {cu : Addr} : ∀ (n : Nat) {k : Nat} {S : Sto} {x y : Int} {Q : WQ}, S cu = some (cupO x y) → (∀ d x' y', dr n d → Q d (S.put cu (cupO x' y'))) → callW T (k + 4 + n) (l + 7) [.ref cu, .int (n : Int)] S Q := by
  intro n
  induction n with
  | zero =>
    intro k S x y Q hS q
    rw [Nat.add_zero]
    refine callW_at c.l7 rfl ?_
    show wB _ (bLVal l) [some (.ref cu), some (.int 0), none, none] _ _
    unfold bLVal
    walk_at "wp"
    refine roll_ok c.l1 hS (by decide) (by decide) fun w x y hw0 hw1 => ?_
    walk_at "wp"
    by_cases h0 : w = 0
    · simp only [h0, if_true]
      refine ⟨by decide, ?_⟩
      refine some_lst c.l2 c.l1 Sto.put_same (show 0 < 3 by decide) (show 3 < 1073741824 by decide) fun d x y hd => ?_
      rw [put_put]
      refine rt_of (q _ _ _ ?_)
      simp only [List.mem_cons, List.mem_nil_iff, or_false] at hd
      rcases hd with rfl | rfl | rfl <;> exact ⟨trivial, by decide⟩
    · simp only [h0, if_false]
      have num : callW T (k + 3) (l + 6) [.ref cu] (S.put cu (cupO x y)) fun d S' => ∃ S2 : Sto, S2.le S' ∧ Q d S2 :=
        lnum_ok c Sto.put_same fun i x y hi => by
          rw [put_put]
          exact rt_of (q _ _ _ (dr_int hi))
      have tx : callW T (k + 3) (l + 5) [.ref cu, .int 9] (S.put cu (cupO x y)) fun d S' => ∃ S2 : Sto, S2.le S' ∧ Q d S2 :=
        ltxt_ok c (by decide) (by decide) Sto.put_same fun d x y hd => by
          rw [put_put]
          exact rt_of (q _ _ _ (dr_txt hd))
      repeat' split
      all_goals first | exact num | exact tx
  | succ n ih =>
    intro k S x y Q hS q
    rw [show k + 4 + (n + 1) = (k + 4 + n) + 1 by omega]
    refine callW_at c.l7 rfl ?_
    show wB _ (bLVal l) [some (.ref cu), some (.int ((n + 1 : Nat) : Int)), none, none] _ _
    unfold bLVal
    walk_at "wp"
    rw [show k + 4 + n = (k + n + 3) + 1 by omega]
    refine roll_ok c.l1 hS (by decide) (by decide) fun w x y hw0 hw1 => ?_
    walk_at "wp"
    by_cases h0 : w = 0
    · simp only [h0, if_true]
      refine ⟨by decide, ?_⟩
      refine some_lst (k := k + n + 2) c.l2 c.l1 Sto.put_same (show 0 < 3 by decide) (show 3 < 1073741824 by decide) fun d x y hd => ?_
      rw [put_put]
      refine rt_of (q _ _ _ ?_)
      have := five (n + 1)
      simp only [List.mem_cons, List.mem_nil_iff, or_false] at hd
      rcases hd with rfl | rfl | rfl <;> exact ⟨trivial, by show 1 ≤ _; omega⟩
    · simp only [h0, if_false]
      have num : callW T (k + n + 3 + 1) (l + 6) [.ref cu] (S.put cu (cupO x y)) fun d S' => ∃ S2 : Sto, S2.le S' ∧ Q d S2 :=
        lnum_ok (k := k + n + 1) c Sto.put_same fun i x y hi => by
          rw [put_put]
          exact rt_of (q _ _ _ (dr_int hi))
      have tx : callW T (k + n + 3 + 1) (l + 5) [.ref cu, .int 9] (S.put cu (cupO x y)) fun d S' => ∃ S2 : Sto, S2.le S' ∧ Q d S2 :=
        ltxt_ok (k := k + n + 1) c (by decide) (by decide) Sto.put_same fun d x y hd => by
          rw [put_put]
          exact rt_of (q _ _ _ (dr_txt hd))
      by_cases h3 : w < 3
      · rw [if_pos h3]
        split
        · exact num
        · exact tx
      rw [if_neg h3, if_neg (by omega)]
      by_cases h4 : w = 3
      · rw [if_pos h4]
        exact tx
      rw [if_neg h4]
      refine roll_ok c.l1 Sto.put_same (by decide) (by decide) fun m x y hm0 hm1 => ⟨by omega, by omega, ?_⟩
      rw [put_put]
      refine lc_count (fun i acc S' => (acc.length = i ∧ ∀ d ∈ acc, dr n d) ∧ ∃ x y, S' = S.put cu (cupO x y)) (fun _ _ _ _ => trivial) (n := 0) ⟨⟨rfl, by simp⟩, _, _, rfl⟩ ?_ ?_
      · rintro i d - acc S' ⟨⟨hl, hm⟩, x, y, rfl⟩ kk hk
        rw [show ((n + 1 : Nat) : Int) - 1 = (n : Int) by omega, show k + n + 3 + 1 = k + 4 + n by omega]
        refine ih Sto.put_same fun d x y hd => ?_
        rw [put_put]
        refine hk (some d) _ ⟨⟨by rw [List.length_append, hl]; rfl, ?_⟩, _, _, rfl⟩
        intro z hz
        rcases List.mem_append.mp hz with hz | hz
        · exact hm z hz
        · rw [List.mem_singleton] at hz
          subst hz
          exact hd
      · rintro acc S' ⟨⟨hl, hm⟩, x, y, rfl⟩
        simp only [List.length_map, List.length_range] at hl
        exact rt_of (q _ _ _ (dr_tup hm (by omega)))
theorem digs_oct : ∀ (n : Nat), octets (digs n) := by
  intro n
  induction n using Nat.strongRecOn with
  | ind n ih =>
    by_cases h : n = 0
    · rw [h, digs_zero]
      intro o ho
      cases ho
    · rw [digs_pos h]
      intro o ho
      rcases List.mem_append.mp ho with ho | ho
      · exact ih (n / 256) (by omega) o ho
      · rw [List.mem_singleton] at ho
        subst ho
        omega
theorem oct_cons {o : Int} {os : List Int} (h : 0 ≤ o ∧ o ≤ 255) (t : octets os) : octets (o :: os) := fun x hx => by
  rcases List.mem_cons.mp hx with rfl | hx
  · exact h
  · exact t x hx
theorem oct_app {os us : List Int} (h : octets os) (t : octets us) : octets (os ++ us) := fun x hx => (List.mem_append.mp hx).elim (h x) (t x)
theorem oct_nil : octets [] := fun _ h => by cases h
theorem encs_oct {n : Nat} (ih : ∀ d, okv n d → octets (enc d)) : ∀ {xs : List D}, (∀ x ∈ xs, okv n x) → octets (encs xs)
  | [], _ => oct_nil
  | x :: xs, h => by
    rw [encs_cons]
    exact oct_app (ih x (h x List.mem_cons_self)) (encs_oct ih fun y hy => h y (List.mem_cons_of_mem _ hy))
theorem enc_oct : ∀ (n : Nat) (d : D), okv n d → octets (enc d) := by
  have leaf : ∀ (n : Nat) (d : D), okv n d → (∀ xs, d ≠ .tup xs) → octets (enc d) := by
    intro n d h hd
    cases d with
    | non => exact oct_cons (by decide) oct_nil
    | bl v => cases v <;> exact oct_cons (by decide) oct_nil
    | int i =>
      have h : i.natAbs ≤ 10 ^ 12 := by cases n <;> exact h
      have hl := digs_len 5 i.natAbs (by omega)
      unfold enc
      refine oct_cons (by split <;> decide) (oct_cons (by omega) (digs_oct _))
    | str z =>
      have h : z.length ≤ 100 ∧ ∀ c ∈ z.cps.toList, c ∈ sg := by cases n <;> exact h
      have hc : ∀ c ∈ sg, 0 ≤ cod c ∧ cod c ≤ 255 := by decide +kernel
      unfold enc
      refine oct_cons (by decide) (oct_cons (by omega) fun o ho => ?_)
      rw [List.mem_map] at ho
      obtain ⟨c, hcm, rfl⟩ := ho
      exact hc c (h.2 c hcm)
    | tup xs => exact absurd rfl (hd xs)
    | lst _ => cases n <;> exact False.elim h
    | ref _ => cases n <;> exact False.elim h
    | scr _ => cases n <;> exact False.elim h
  intro n
  induction n with
  | zero =>
    intro d h
    refine leaf 0 d h fun xs e => ?_
    subst e
    exact h
  | succ n ih =>
    intro d h
    by_cases hd : ∀ xs, d ≠ .tup xs
    · exact leaf _ d h hd
    · obtain ⟨xs, rfl⟩ : ∃ xs, d = .tup xs := Classical.byContradiction fun g => hd fun xs e => g ⟨xs, e⟩
      have hl := h.1
      rw [enc_tup]
      refine oct_app (oct_cons (by decide) (oct_cons (by omega) (oct_cons (by omega) oct_nil))) (encs_oct ih h.2)
end PL.Cod
/-! PL: drawn words and texts of mails, the functions at free places. -/
namespace PL.Mail
open PySem L2 PL PL.Cod
local macro_rules | `(tactic| walk_at "wp") => `(tactic| try simp -implicitDefEqProofs only [wB_seq, decide_true, decide_false, Bool.not_true, Bool.not_false, Bool.false_eq_true, if_true, if_false, true_and, and_true, not_true, not_false_iff, wB, wS, PL.wE, PL.wT, wL, wXs, wPo, wG, wGs, wI, gv0, gvS, opt_some, opt_none, opt_ifc, opt_ite, opt_map, setAll, Gs.len, atI0, atI1, List.length_map, List.length_append, List.length_cons, List.length_nil, wipeD, List.map_cons, List.map_nil, i_tt, i_ti, i_ts, i_tb, i_tn, i_bi, i_bs, i_bb, i_bn, i_ii, i_is, i_ib, i_in, i_si, i_ss, i_sb, i_sn, c_eqb, c_neb, n_int, n_str, n_bl, n_tup, n_non, c_sl, beq_self_eq_true, bne_self_eq_false, ls_tup, ls_lst, ls_scr, m_starts, is_str, ite_dec, ite_ndec, List.set_cons_succ, List.set_cons_zero, tru_bl, tru_int, tru_tup, tru_lst, tru_non, b_add, b_sub, b_mul, b_rep, b_mulz, b_fdv, b_mod, b_pow, b_adds, b_addt, c_eq, c_ne, c_lt, c_le, c_gt, c_ge, c_eqs, c_nes, c_isn, c_ins, c_isb, c_isb2, c_int, c_nint, c_inl, c_ninl, f_abs, f_int, f_intb, f_str, f_lens, f_lent, f_lenl, f_tupl, f_tupt, f_max2, f_min2, f_suml, f_alll, f_anyl, x_tup, x_lst, sq_tup, sq_lst, sq_scr, it_lst, atI2, atI3, atI4, atI5, atIm1, atIm2, atIm3, atIm4])
local macro_rules | `(tactic| walk_at "sd") => `(tactic| first | decide | exact .inr (by decide) | exact .inl (by decide) | (simp only [sizeLine] at *; omega))
local macro_rules | `(tactic| walk_at "tl") => `(tactic| repeat' first | assumption | exact tl_non | exact tl_bl | exact tl_nil | apply tl_one | apply tl_cons | apply Tell.tup | apply Tell.lst | (apply tl_str; decide +kernel) | (apply tl_int; first | decide | omega))
local macro_rules | `(tactic| walk_at "tell") => `(tactic| exact Tell.mono (by walk_at "tl") (by first | decide | omega) (by first | decide | omega))
def mWord (r s : Nat) : Bk := (.cons (.ite (.cmp .Gt (.call r (.cons (.var 0) (.cons (.lit (.int 4)) .nil))) (.lit (.int 0))) (.cons (.ret (.call s (.cons (.var 0) (.cons (.frz (.dsp (.cons (.lit (.str "a")) (.cons (.lit (.str "ann")) (.cons (.lit (.str "re")) (.cons (.lit (.str "fw")) (.cons (.lit (.str "7")) (.cons (.lit (.str "007")) (.cons (.lit (.str "from")) (.cons (.lit (.str "to")) (.cons (.lit (.str "about")) (.cons (.lit (.str "own")) (.cons (.lit (.str "body")) (.cons (.lit (.str "number")) (.cons (.lit (.str "or")) (.cons (.lit (.str "and")) (.cons (.lit (.str "not")) (.cons (.lit (.str "has")) (.cons (.lit (.str "abcdefgh")) .nil))))))))))))))))))) .nil))))
    .nil) .nil)
    (.cons (.ret (.mtd .join (.lit (.str "")) (.cons (.frz (.lc [("turn", 1)] (.nam 1) (.rng1 (.bin .Add (.lit (.int 1)) (.call r (.cons (.var 0) (.cons (.lit (.int 8)) .nil))))) .yes (.call s (.cons (.var 0) (.cons (.frz (.lst (.lit (.str "079abyz")))) .nil))))) .nil)))
    .nil))
def mWords (r s w : Nat) : Bk := (.cons (.ret (.fn .tuple (.cons (.frz (.lc [("turn", 2)] (.nam 2) (.rng1 (.call s (.cons (.var 0) (.cons (.frz (.dsp (.cons (.lit (.int 0)) (.cons (.var 1) (.cons (.call r (.cons (.var 0) (.cons (.bin .Add (.var 1) (.lit (.int 1))) .nil))) .nil))))) .nil)))) .yes (.call w (.cons (.var 0) .nil)))) .nil)))
    .nil)
def mMail (r s w ws : Nat) : Bk := (.cons (.par [2, 3] (.cons (.call s (.cons (.var 0) (.cons (.frz (.dsp (.cons (.lit (.non)) (.cons (.call w (.cons (.var 0) .nil)) .nil)))) .nil))) (.cons (.call s (.cons (.var 0) (.cons (.frz (.dsp (.cons (.lit (.non)) (.cons (.call w (.cons (.var 0) .nil)) .nil)))) .nil))) .nil)))
    (.cons (.asg (.nam 1) (.call s (.cons (.var 0) (.cons (.frz (.dsp (.cons (.lit (.non)) (.cons (.lit (.int 0)) (.cons (.lit (.int 7)) (.cons (.lit (.int 10)) (.cons (.lit (.int 999)) (.cons (.call r (.cons (.var 0) (.cons (.lit (.int 1000)) .nil))) .nil)))))))) .nil))))
    (.cons (.ret (.tup (.cons (.var 2) (.cons (.call ws (.cons (.var 0) (.cons (.lit (.int 4)) .nil))) (.cons (.call ws (.cons (.var 0) (.cons (.lit (.int 4)) .nil))) (.cons (.var 3) (.cons (.call ws (.cons (.var 0) (.cons (.lit (.int 3)) .nil))) (.cons (.var 1) (.cons (.call ws (.cons (.var 0) (.cons (.lit (.int 12)) .nil))) .nil)))))))))
    .nil)))
structure MailT (T : List Fd) (r s w ws m : Nat) : Prop where
  r0 : T[r]? = some ⟨2, 4, bRoll⟩
  s0 : T[s]? = some ⟨2, 2, bSome r⟩
  w0 : T[w]? = some ⟨1, 2, mWord r s⟩
  w1 : T[ws]? = some ⟨2, 3, mWords r s w⟩
  m0 : T[m]? = some ⟨1, 4, mMail r s w ws⟩
variable {T : List Fd} {r s w ws m : Nat}
/-- a word -/
def Wd (z : Str) : Prop := 1 ≤ z.length ∧ z.length ≤ 8 ∧ ∀ c ∈ z.cps.toList, c ∈ sg
def wdB (z : Str) : Bool := decide (1 ≤ z.length ∧ z.length ≤ 8) && z.cps.toList.all fun c => decide (c ∈ sg)
theorem wdB_iff {z : Str} : wdB z = true ↔ Wd z := by
  unfold wdB Wd
  rw [Bool.and_eq_true, decide_eq_true_eq, List.all_eq_true]
  constructor
  · rintro ⟨⟨h1, h2⟩, h3⟩
    exact ⟨h1, h2, fun c hc => of_decide_eq_true (h3 c hc)⟩
  · rintro ⟨h1, h2, h3⟩
    exact ⟨⟨h1, h2⟩, fun c hc => decide_eq_true (h3 c hc)⟩
theorem sg_few7 : ∀ c ∈ (Str.ofString "079abyz").cps.toList, c ∈ sg := by decide +kernel
theorem few17 : ([("a" : Str), "ann", "re", "fw", "7", "007", "from", "to", "about", "own", "body", "number", "or", "and", "not", "has", "abcdefgh"].all wdB) = true := by decide +kernel
theorem word_ok (c : MailT T r s w ws m) {k : Nat} {cu : Addr} {S : Sto} {x y : Int} {Q : WQ} (hS : S cu = some (cupO x y)) (q : ∀ z x' y', Wd z → Q (.str z) (S.put cu (cupO x' y'))) : callW T (k + 3) w [.ref cu] S Q := by
  refine callW_at c.w0 rfl ?_
  show wB _ (mWord r s) [some (.ref cu), none] _ _
  unfold mWord
  walk_at "wp"
  refine roll_ok c.r0 hS (by decide) (by decide) fun v x y hv0 hv1 => ?_
  walk_at "wp"
  by_cases hv : 0 < v
  · rw [if_pos hv]
    refine ⟨by decide, ?_⟩
    refine some_lst c.s0 c.r0 Sto.put_same (show 0 < 17 by decide) (show 17 < 1073741824 by decide) fun d x y hd => ?_
    rw [put_put]
    obtain ⟨z, rfl, hz⟩ : ∃ z, d = .str z ∧ z ∈ [("a" : Str), "ann", "re", "fw", "7", "007", "from", "to", "about", "own", "body", "number", "or", "and", "not", "has", "abcdefgh"] := by
      have hd : d ∈ [("a" : Str), "ann", "re", "fw", "7", "007", "from", "to", "about", "own", "body", "number", "or", "and", "not", "has", "abcdefgh"].map D.str := hd
      obtain ⟨z, hz, rfl⟩ := List.mem_map.mp hd
      exact ⟨z, rfl, hz⟩
    exact rt_of (q _ _ _ (wdB_iff.mp (List.all_eq_true.mp few17 z hz)))
  rw [if_neg hv]
  refine roll_ok c.r0 Sto.put_same (by decide) (by decide) fun n x y hn0 hn1 => ?_
  rw [put_put]
  walk_at "wp"
  refine ⟨by omega, by omega, ?_⟩
  refine lc_count (fun n acc S' => (∃ cs : List Nat, acc = cs.map (fun c => D.str ⟨#[c]⟩) ∧ cs.length = n ∧ ∀ c ∈ cs, c ∈ sg) ∧ ∃ x y, S' = S.put cu (cupO x y)) (fun _ _ _ _ => trivial) (n := 0) ⟨⟨[], rfl, rfl, by simp⟩, _, _, rfl⟩ ?_ ?_
  · rintro i d - acc S' ⟨⟨cs, rfl, hc, hm⟩, x, y, rfl⟩ kk hk
    walk_at "wp"
    rw [ls_str _ _ (by decide)]
    walk_at "wp"
    refine some_lst c.s0 c.r0 Sto.put_same (by decide) (by decide) fun d x y hd => ?_
    rw [put_put]
    rw [List.mem_map] at hd
    obtain ⟨c0, hc0, rfl⟩ := hd
    refine hk (some _) _ ⟨⟨cs ++ [c0], by simp, by simp [hc], ?_⟩, _, _, rfl⟩
    intro z hz
    rcases List.mem_append.mp hz with hz | hz
    · exact hm z hz
    · rw [List.mem_singleton] at hz
      subst hz
      exact sg_few7 _ hc0
  · rintro acc S' ⟨⟨cs, rfl, hc, hm⟩, x, y, rfl⟩
    simp only [List.length_map, List.length_range] at hc
    have e1 : cs.map (fun c => D.str ⟨#[c]⟩) = (cs.map fun c => (⟨#[c]⟩ : Str)).map D.str := by rw [List.map_map]; rfl
    have e2 : ∀ xs : List Nat, ((xs.map fun c => (⟨#[c]⟩ : Str)).map (·.length)).sum = xs.length := fun xs => by
      induction xs with
      | nil => rfl
      | cons x r ih =>
        rw [List.map_cons, List.map_cons, List.sum_cons, ih, List.length_cons]
        show 1 + r.length = _
        omega
    rw [e1, m_join (strsOf_map _) (by
      have e0 : (Str.ofString "").length = 0 := rfl
      rw [e0, Nat.mul_zero, Nat.add_zero, e2]
      omega), join_signs]
    have hl : (⟨cs.toArray⟩ : Str).length = cs.length := by
      show cs.toArray.size = _
      rw [List.size_toArray]
    exact rt_of (q _ _ _ ⟨by omega, by omega, by simpa using hm⟩)
def Wds (n : Nat) (d : D) : Prop := ∃ zs : List Str, d = .tup (zs.map D.str) ∧ zs.length ≤ n ∧ ∀ z ∈ zs, Wd z
theorem words_ok (c : MailT T r s w ws m) {k n : Nat} {cu : Addr} {S : Sto} {x y : Int} {Q : WQ} (hn : n ≤ 100) (hS : S cu = some (cupO x y)) (q : ∀ d x' y', Wds n d → Q d (S.put cu (cupO x' y'))) : callW T (k + 4) ws [.ref cu, .int (n : Int)] S Q := by
  refine callW_at c.w1 rfl ?_
  show wB _ (mWords r s w) [some (.ref cu), some (.int (n : Int)), none] _ _
  unfold mWords
  walk_at "wp"
  refine roll_ok c.r0 hS (by omega) (by omega) fun v x y hv0 hv1 => ?_
  refine ⟨by decide, ?_⟩
  refine some_lst c.s0 c.r0 Sto.put_same (show 0 < 3 by decide) (show 3 < 1073741824 by decide) fun d x y hd => ?_
  rw [put_put]
  obtain ⟨i, rfl, hi⟩ : ∃ i : Int, d = .int i ∧ 0 ≤ i ∧ i ≤ n := by
    simp only [List.mem_cons, List.mem_nil_iff, or_false] at hd
    rcases hd with rfl | rfl | rfl
    · exact ⟨_, rfl, by omega, by omega⟩
    · exact ⟨_, rfl, by omega, by omega⟩
    · exact ⟨_, rfl, by omega, by omega⟩
  walk_at "wp"
  refine ⟨by omega, by omega, ?_⟩
  refine lc_count (fun n acc S' => (∃ zs : List Str, acc = zs.map D.str ∧ zs.length = n ∧ ∀ z ∈ zs, Wd z) ∧ ∃ x y, S' = S.put cu (cupO x y)) (fun _ _ _ _ => trivial) (n := 0) ⟨⟨[], rfl, rfl, by simp⟩, _, _, rfl⟩ ?_ ?_
  · rintro i d - acc S' ⟨⟨zs, rfl, hc, hm⟩, x, y, rfl⟩ kk hk
    walk_at "wp"
    refine word_ok c Sto.put_same fun z x y hz => ?_
    rw [put_put]
    refine hk (some _) _ ⟨⟨zs ++ [z], by simp, by simp [hc], ?_⟩, _, _, rfl⟩
    intro y hy
    rcases List.mem_append.mp hy with hy | hy
    · exact hm y hy
    · rw [List.mem_singleton] at hy
      exact hy ▸ hz
  · rintro acc S' ⟨⟨zs, rfl, hc, hm⟩, x, y, rfl⟩
    simp only [List.length_map, List.length_range] at hc
    exact rt_of (q _ _ _ ⟨zs, rfl, by omega, hm⟩)
/-- None or a word -/
def WN (d : D) : Prop := d = .non ∨ ∃ z, d = .str z ∧ Wd z
def NN (d : D) : Prop := d = .non ∨ ∃ i : Int, d = .int i ∧ 0 ≤ i ∧ i ≤ 999
theorem mail_ok (c : MailT T r s w ws m) {k : Nat} {cu : Addr} {S : Sto} {x y : Int} {Q : WQ} (hS : S cu = some (cupO x y)) (q : ∀ a b c d e f g x' y', WN a → Wds 4 b → Wds 4 c → WN d → Wds 3 e → NN f → Wds 12 g → Q (.tup [a, b, c, d, e, f, g]) (S.put cu (cupO x' y'))) : callW T (k + 5) m [.ref cu] S Q := by
  refine callW_at c.m0 rfl ?_
  show wB _ (mMail r s w ws) [some (.ref cu), none, none, none] _ _
  unfold mMail
  have two : ∀ {z : Str} {d : D}, Wd z → d ∈ [D.non, .str z] → WN d := fun {z d} hz hd => by
    simp only [List.mem_cons, List.mem_nil_iff, or_false] at hd
    rcases hd with rfl | rfl
    · exact .inl rfl
    · exact .inr ⟨z, rfl, hz⟩
  walk_at "wp"
  refine word_ok c hS fun z1 x y hz1 => ⟨by decide, ?_⟩
  refine some_lst c.s0 c.r0 Sto.put_same (show 0 < 2 by decide) (show 2 < 1073741824 by decide) fun a x y ha => ?_
  refine word_ok c Sto.put_same fun z2 x y hz2 => ⟨by decide, ?_⟩
  refine some_lst c.s0 c.r0 Sto.put_same (show 0 < 2 by decide) (show 2 < 1073741824 by decide) fun d x y hd => ?_
  rw [put_put, put_put, put_put]
  refine roll_ok c.r0 Sto.put_same (by decide) (by decide) fun v x y hv0 hv1 => ⟨by decide, ?_⟩
  refine some_lst c.s0 c.r0 Sto.put_same (show 0 < 6 by decide) (show 6 < 1073741824 by decide) fun f x y hf => ?_
  rw [put_put, put_put]
  have nf : NN f := by
    simp only [List.mem_cons, List.mem_nil_iff, or_false] at hf
    rcases hf with rfl | rfl | rfl | rfl | rfl | rfl
    · exact .inl rfl
    · exact .inr ⟨_, rfl, by omega, by omega⟩
    · exact .inr ⟨_, rfl, by omega, by omega⟩
    · exact .inr ⟨_, rfl, by omega, by omega⟩
    · exact .inr ⟨_, rfl, by omega, by omega⟩
    · exact .inr ⟨_, rfl, by omega, by omega⟩
  refine words_ok c (n := 4) (by decide) Sto.put_same fun b x y hb => ?_
  refine words_ok c (n := 4) (by decide) Sto.put_same fun cc x y hcc => ?_
  refine words_ok c (n := 3) (by decide) Sto.put_same fun e x y he => ?_
  refine words_ok c (n := 12) (by decide) Sto.put_same fun g x y hg => ?_
  rw [put_put, put_put, put_put, put_put]
  exact ⟨by decide, rt_of (q a b cc d e f g x y (two hz1 ha) hb hcc (two hz2 hd) he nf hg)⟩
end PL.Mail
namespace K13
open PySem L2 PL
def topS (i : Nat) : Stmt := PySem.Challenge.pw_mailhall_k13_printed_strings.main.body.getD i (.Pass ⟨0, 0, 0, 0⟩)
/-! text 0 field 1 found 2 -/
def b0 : Bk := (.cons (.asg (.nam 2) (.idx (.var 0) (.kdx "PLACES" [("from", .int 0), ("to", .int 1), ("about", .int 2), ("own", .int 3), ("answers", .int 4), ("body", .int 6)] (.var 1))))
    (.cons (.ite (.val (.isi (.var 2) "tuple")) (.cons (.ret (.var 2))
    .nil) .nil)
    (.cons (.ret (.ite (.cmp .Is (.var 2) (.lit (.non))) (.tup .nil) (.tup (.cons (.var 2) .nil))))
    .nil)))
def f0 : Fs := ⟨"words_of", ["text", "field", "found"], ["text", "field"], b0, topS 2⟩
/-! text 0 field 1 -/
def b1 : Bk := (.cons (.ite (.cmp .NotEq (.var 1) (.lit (.str "number"))) (.cons (.ret (.frz (.lst (.call 0 (.cons (.var 0) (.cons (.var 1) .nil))))))
    .nil) .nil)
    (.cons (.ret (.ite (.cmp .Is (.idx (.var 0) (.lit (.int 5))) (.lit (.non))) (.frz (.dsp .nil)) (.frz (.dsp (.cons (.fn .str (.cons (.idx (.var 0) (.lit (.int 5))) .nil)) .nil)))))
    .nil))
def f1 : Fs := ⟨"field_words", ["text", "field"], ["text", "field"], b1, topS 5⟩
/-! text 0 found 1 field 2 words 3 -/
def b2_1 : Bk := (.cons (.asg (.nam 3) (.call 1 (.cons (.var 0) (.cons (.var 2) .nil))))
    (.cons (.ite (.val (.var 3)) (.cons (.expr (.app (.var 1) (.bin .Add (.mtd .join (.lit (.str " ")) (.cons (.frz (.cat (.frz (.dsp (.cons (.var 2) .nil))) (.var 3))) .nil)) (.lit (.str ";")))))
    .nil) .nil)
    .nil))
def b2 : Bk := (.cons (.asg (.nam 1) (.new (.dsp .nil)))
    (.cons (.for_ (.nam 2) (.tup (.glo "FIELDS_mailtexts" (.tup [.str "from", .str "to", .str "about", .str "own", .str "answers", .str "number", .str "body"]))) b2_1)
    (.cons (.ret (.ite (.val (.var 1)) (.bin .Add (.bin .Add (.lit (.str "{ ")) (.mtd .join (.lit (.str " ")) (.cons (.var 1) .nil))) (.lit (.str " }"))) (.lit (.str "{}"))))
    .nil)))
def f2 : Fs := ⟨"mail_string", ["text", "found", "field", "words"], ["text"], b2, topS 6⟩
/-! test 0 least 1 found 2 -/
def b3 : Bk := (.cons (.asg (.nam 2) (.call 5 (.cons (.var 0) .nil)))
    (.cons (.ret (.ite (.cmp .GtE (.kdg "LEVELS" [("or", .int 1), ("and", .int 2)] (.cons (.idx (.var 0) (.lit (.int 0))) (.cons (.glo "UNIT" (.int 3)) .nil))) (.var 1)) (.var 2) (.bin .Add (.bin .Add (.lit (.str "(")) (.var 2)) (.lit (.str ")")))))
    .nil))
def f3 : Fs := ⟨"inner_string", ["test", "least", "found"], ["test", "least"], b3, topS 13⟩
/-! leaf 0 word 1 -/
def b4 : Bk := (.cons (.asg (.nam 1) (.idx (.var 0) (.lit (.int 0))))
    (.cons (.ite (.cmp .In (.var 1) (.glo "PLAIN" (.tup [.str "asleep", .str "sent"]))) (.cons (.ret (.var 1))
    .nil) .nil)
    (.cons (.ite (.cmp .In (.var 1) (.glo "FIELDS_picktests" (.tup [.str "from", .str "own", .str "to", .str "about", .str "answers", .str "body"]))) (.cons (.ret (.bin .Add (.bin .Add (.bin .Add (.var 1) (.lit (.str " "))) (.idx (.var 0) (.lit (.int 1)))) (.ite (.val (.idx (.var 0) (.lit (.int 2)))) (.lit (.str "*")) (.lit (.str "")))))
    .nil) .nil)
    (.cons (.ite (.cmp .In (.var 1) (.glo "PLACED" (.tup [.str "in", .str "under"]))) (.cons (.ret (.bin .Add (.bin .Add (.bin .Add (.bin .Add (.var 1) (.lit (.str " "))) (.fn .str (.cons (.idx (.idx (.var 0) (.lit (.int 1))) (.lit (.int 0))) .nil))) (.lit (.str "."))) (.fn .str (.cons (.idx (.idx (.var 0) (.lit (.int 1))) (.lit (.int 1))) .nil))))
    .nil) .nil)
    (.cons (.ret (.bin .Add (.bin .Add (.var 1) (.lit (.str " "))) (.fn .str (.cons (.idx (.var 0) (.lit (.int 1))) .nil))))
    .nil)))))
def f4 : Fs := ⟨"leaf_string", ["leaf", "word"], ["leaf"], b4, topS 14⟩
/-! test 0 word 1 level 2 -/
def b5 : Bk := (.cons (.asg (.nam 1) (.idx (.var 0) (.lit (.int 0))))
    (.cons (.ite (.cmp .In (.var 1) (.tup (.cons (.lit (.str "and")) (.cons (.lit (.str "or")) .nil)))) (.cons (.asg (.nam 2) (.kdx "LEVELS" [("or", .int 1), ("and", .int 2)] (.var 1)))
    (.cons (.ret (.bin .Add (.bin .Add (.bin .Add (.bin .Add (.call 3 (.cons (.idx (.var 0) (.lit (.int 1))) (.cons (.var 2) .nil))) (.lit (.str " "))) (.var 1)) (.lit (.str " "))) (.call 3 (.cons (.idx (.var 0) (.lit (.int 2))) (.cons (.bin .Add (.var 2) (.lit (.int 1))) .nil)))))
    .nil)) .nil)
    (.cons (.ite (.cmp .In (.var 1) (.tup (.cons (.lit (.str "not")) (.cons (.lit (.str "thread")) .nil)))) (.cons (.ret (.bin .Add (.bin .Add (.var 1) (.lit (.str " "))) (.call 3 (.cons (.idx (.var 0) (.lit (.int 1))) (.cons (.glo "UNIT" (.int 3)) .nil)))))
    .nil) .nil)
    (.cons (.ret (.call 4 (.cons (.var 0) .nil)))
    .nil))))
def f5 : Fs := ⟨"bare_string", ["test", "word", "level"], ["test"], b5, topS 15⟩
/-! test 0 -/
def b6 : Bk := (.cons (.ret (.bin .Add (.call 5 (.cons (.var 0) .nil)) (.lit (.str ";"))))
    .nil)
def f6 : Fs := ⟨"test_string", ["test"], ["test"], b6, topS 16⟩
/-! script 0 cell 1 -/
def b7 : Bk := (.cons (.asg (.nam 1) (.fn .abs (.cons (.idx (.frz (.cat (.frz (.lst (.var 0))) (.frz (.dsp (.cons (.lit (.int 0)) .nil))))) (.lit (.int 0))) .nil)))
    (.cons (.ret (.new (.dsp (.cons (.ite (.cmp .GtE (.var 1) (.bin .Pow (.lit (.int 10)) (.lit (.int 18)))) (.bin .FloorDiv (.var 1) (.lit (.int 67))) (.lit (.int 0))) (.cons (.bin .Add (.bin .Mod (.fn .int (.cons (.bin .Add (.bin .Mult (.var 1) (.lit (.int 277))) (.lit (.int 2609))) .nil)) (.lit (.int 2077503167))) (.lit (.int 163))) .nil)))))
    .nil))
def f7 : Fs := ⟨"_law_cup", ["script", "cell"], ["script"], b7, topS 18⟩
/-! cup 0 many 1 deep 2 found 3 -/
def b8 : Bk := (.cons (.ite (.cmp .Gt (.idx (.var 0) (.lit (.int 0))) (.lit (.int 0))) (.cons (.asg (.nam 3) (.bin .Mod (.fn .int (.cons (.idx (.var 0) (.lit (.int 0))) .nil)) (.var 1)))
    (.cons (.asg (.sub (.var 0) (.lit (.int 0))) (.bin .FloorDiv (.idx (.var 0) (.lit (.int 0))) (.var 1)))
    (.cons (.ret (.var 3))
    .nil))) .nil)
    (.cons (.asg (.sub (.var 0) (.lit (.int 1))) (.bin .Mod (.fn .int (.cons (.bin .Add (.bin .Mult (.idx (.var 0) (.lit (.int 1))) (.lit (.int 31051))) (.lit (.int 7993))) .nil)) (.lit (.int 2147483543))))
    (.cons (.asg (.nam 2) (.bin .Mod (.fn .int (.cons (.bin .Mult (.idx (.var 0) (.lit (.int 1))) (.bin .Add (.idx (.var 0) (.lit (.int 1))) (.lit (.int 229)))) .nil)) (.lit (.int 2147483587))))
    (.cons (.ret (.bin .Mod (.fn .int (.cons (.bin .FloorDiv (.var 2) (.lit (.int 821))) .nil)) (.var 1)))
    .nil))))
def f8 : Fs := ⟨"_law_roll", ["cup", "many", "deep", "found"], ["cup", "many"], b8, topS 19⟩
/-! cup 0 things 1 -/
def b9 : Bk := (.cons (.ret (.idx (.var 1) (.call 8 (.cons (.var 0) (.cons (.fn .len (.cons (.var 1) .nil)) .nil)))))
    .nil)
def f9 : Fs := ⟨"_law_some", ["cup", "things"], ["cup", "things"], b9, topS 20⟩
/-! one 0 other 1 -/
def b10 : Bk := (.cons (.ret (.cmp .Eq (.fn .repr (.cons (.var 0) .nil)) (.fn .repr (.cons (.var 1) .nil))))
    .nil)
def f10 : Fs := ⟨"_law_like", ["one", "other"], ["one", "other"], b10, topS 21⟩
/-! cup 0 turn 1 -/
def b11 : Bk := (.cons (.ite (.cmp .Gt (.call 8 (.cons (.var 0) (.cons (.lit (.int 4)) .nil))) (.lit (.int 0))) (.cons (.ret (.call 9 (.cons (.var 0) (.cons (.frz (.dsp (.cons (.lit (.str "a")) (.cons (.lit (.str "ann")) (.cons (.lit (.str "re")) (.cons (.lit (.str "fw")) (.cons (.lit (.str "7")) (.cons (.lit (.str "007")) (.cons (.lit (.str "from")) (.cons (.lit (.str "to")) (.cons (.lit (.str "about")) (.cons (.lit (.str "own")) (.cons (.lit (.str "body")) (.cons (.lit (.str "number")) (.cons (.lit (.str "or")) (.cons (.lit (.str "and")) (.cons (.lit (.str "not")) (.cons (.lit (.str "has")) (.cons (.lit (.str "abcdefgh")) .nil))))))))))))))))))) .nil))))
    .nil) .nil)
    (.cons (.ret (.mtd .join (.lit (.str "")) (.cons (.frz (.lc [("turn", 1)] (.nam 1) (.rng1 (.bin .Add (.lit (.int 1)) (.call 8 (.cons (.var 0) (.cons (.lit (.int 8)) .nil))))) .yes (.call 9 (.cons (.var 0) (.cons (.frz (.lst (.lit (.str "079abyz")))) .nil))))) .nil)))
    .nil))
def f11 : Fs := ⟨"_law_word", ["cup", "turn"], ["cup"], b11, topS 22⟩
/-! cup 0 -/
def b12 : Bk := (.cons (.ret (.tup (.cons (.call 9 (.cons (.var 0) (.cons (.frz (.dsp (.cons (.lit (.int 0)) (.cons (.lit (.int 0)) (.cons (.lit (.int 100)) (.cons (.lit (.int 101)) (.cons (.lit (.int 102)) .nil))))))) .nil))) (.cons (.call 9 (.cons (.var 0) (.cons (.frz (.dsp (.cons (.lit (.int 0)) (.cons (.lit (.int 1)) (.cons (.lit (.int 2)) (.cons (.lit (.int 3)) (.cons (.lit (.int 4)) (.cons (.lit (.int 5)) .nil)))))))) .nil))) .nil))))
    .nil)
def f12 : Fs := ⟨"_law_key", ["cup"], ["cup"], b12, topS 23⟩
/-! cup 0 most 1 turn 2 -/
def b13 : Bk := (.cons (.ret (.fn .tuple (.cons (.frz (.lc [("turn", 2)] (.nam 2) (.rng1 (.call 9 (.cons (.var 0) (.cons (.frz (.dsp (.cons (.lit (.int 0)) (.cons (.var 1) (.cons (.call 8 (.cons (.var 0) (.cons (.bin .Add (.var 1) (.lit (.int 1))) .nil))) .nil))))) .nil)))) .yes (.call 11 (.cons (.var 0) .nil)))) .nil)))
    .nil)
def f13 : Fs := ⟨"_law_words", ["cup", "most", "turn"], ["cup", "most"], b13, topS 24⟩
/-! cup 0 number 1 sender 2 own 3 -/
def b14 : Bk := (.cons (.par [2, 3] (.cons (.call 9 (.cons (.var 0) (.cons (.frz (.dsp (.cons (.lit (.non)) (.cons (.call 11 (.cons (.var 0) .nil)) .nil)))) .nil))) (.cons (.call 9 (.cons (.var 0) (.cons (.frz (.dsp (.cons (.lit (.non)) (.cons (.call 11 (.cons (.var 0) .nil)) .nil)))) .nil))) .nil)))
    (.cons (.asg (.nam 1) (.call 9 (.cons (.var 0) (.cons (.frz (.dsp (.cons (.lit (.non)) (.cons (.lit (.int 0)) (.cons (.lit (.int 7)) (.cons (.lit (.int 10)) (.cons (.lit (.int 999)) (.cons (.call 8 (.cons (.var 0) (.cons (.lit (.int 1000)) .nil))) .nil)))))))) .nil))))
    (.cons (.ret (.tup (.cons (.var 2) (.cons (.call 13 (.cons (.var 0) (.cons (.lit (.int 4)) .nil))) (.cons (.call 13 (.cons (.var 0) (.cons (.lit (.int 4)) .nil))) (.cons (.var 3) (.cons (.call 13 (.cons (.var 0) (.cons (.lit (.int 3)) .nil))) (.cons (.var 1) (.cons (.call 13 (.cons (.var 0) (.cons (.lit (.int 12)) .nil))) .nil)))))))))
    .nil)))
def f14 : Fs := ⟨"_law_mail", ["cup", "number", "sender", "own"], ["cup"], b14, topS 25⟩
/-! cup 0 way 1 -/
def b15 : Bk := (.cons (.asg (.nam 1) (.call 8 (.cons (.var 0) (.cons (.lit (.int 8)) .nil))))
    (.cons (.ite (.cmp .Lt (.var 1) (.lit (.int 3))) (.cons (.ret (.tup (.cons (.call 9 (.cons (.var 0) (.cons (.frz (.dsp (.cons (.lit (.str "from")) (.cons (.lit (.str "own")) (.cons (.lit (.str "to")) (.cons (.lit (.str "about")) (.cons (.lit (.str "answers")) (.cons (.lit (.str "body")) .nil)))))))) .nil))) (.cons (.call 11 (.cons (.var 0) .nil)) (.cons (.cmp .Eq (.call 8 (.cons (.var 0) (.cons (.lit (.int 2)) .nil))) (.lit (.int 0))) .nil)))))
    .nil) .nil)
    (.cons (.ite (.cmp .Eq (.var 1) (.lit (.int 3))) (.cons (.ret (.tup (.cons (.call 9 (.cons (.var 0) (.cons (.frz (.dsp (.cons (.lit (.str "has")) (.cons (.lit (.str "lacks")) .nil)))) .nil))) (.cons (.call 9 (.cons (.var 0) (.cons (.frz (.dsp (.cons (.lit (.str "a")) (.cons (.lit (.str "d")) (.cons (.lit (.str "f")) (.cons (.lit (.str "j")) (.cons (.lit (.str "s")) (.cons (.lit (.str "x")) .nil)))))))) .nil))) .nil))))
    .nil) .nil)
    (.cons (.ite (.cmp .Eq (.var 1) (.lit (.int 4))) (.cons (.ret (.tup (.cons (.call 9 (.cons (.var 0) (.cons (.frz (.dsp (.cons (.lit (.str "in")) (.cons (.lit (.str "under")) .nil)))) .nil))) (.cons (.call 9 (.cons (.var 0) (.cons (.frz (.dsp (.cons (.call 12 (.cons (.var 0) .nil)) (.cons (.tup (.cons (.lit (.int 102)) (.cons (.lit (.int 9999)) .nil))) (.cons (.tup (.cons (.lit (.int 0)) (.cons (.lit (.int 10)) .nil))) .nil))))) .nil))) .nil))))
    .nil) .nil)
    (.cons (.ite (.cmp .Eq (.var 1) (.lit (.int 5))) (.cons (.ret (.tup (.cons (.lit (.str "young")) (.cons (.call 9 (.cons (.var 0) (.cons (.frz (.dsp (.cons (.lit (.int 0)) (.cons (.lit (.int 1)) (.cons (.lit (.int 10)) (.cons (.lit (.int 1000)) (.cons (.call 8 (.cons (.var 0) (.cons (.lit (.int 1001)) .nil))) .nil))))))) .nil))) .nil))))
    .nil) .nil)
    (.cons (.ret (.ite (.cmp .Eq (.var 1) (.lit (.int 6))) (.tup (.cons (.lit (.str "least")) (.cons (.call 9 (.cons (.var 0) (.cons (.frz (.dsp (.cons (.lit (.int 0)) (.cons (.lit (.int 7)) (.cons (.lit (.int 10)) (.cons (.lit (.int 999)) .nil)))))) .nil))) .nil))) (.tup (.cons (.call 9 (.cons (.var 0) (.cons (.frz (.dsp (.cons (.lit (.str "asleep")) (.cons (.lit (.str "sent")) .nil)))) .nil))) .nil))))
    .nil))))))
def f15 : Fs := ⟨"_law_leaf", ["cup", "way"], ["cup"], b15, topS 26⟩
/-! cup 0 leaves 1 around 2 threads 3 way 4 one 5 -/
def b16 : Bk := (.cons (.asg (.nam 4) (.call 8 (.cons (.var 0) (.cons (.lit (.int 7)) .nil))))
    (.cons (.ite (.and (.cmp .Lt (.var 4) (.lit (.int 2))) (.cmp .Gt (.var 2) (.lit (.int 0)))) (.cons (.ret (.tup (.cons (.lit (.str "not")) (.cons (.call 16 (.cons (.var 0) (.cons (.var 1) (.cons (.bin .Sub (.var 2) (.lit (.int 1))) (.cons (.var 3) .nil))))) .nil))))
    .nil) .nil)
    (.cons (.ite (.and (.cmp .Eq (.var 4) (.lit (.int 2))) (.and (.cmp .Gt (.var 2) (.lit (.int 0))) (.cmp .Gt (.var 3) (.lit (.int 0))))) (.cons (.ret (.tup (.cons (.lit (.str "thread")) (.cons (.call 16 (.cons (.var 0) (.cons (.var 1) (.cons (.bin .Sub (.var 2) (.lit (.int 1))) (.cons (.bin .Sub (.var 3) (.lit (.int 1))) .nil))))) .nil))))
    .nil) .nil)
    (.cons (.ite (.or (.cmp .Lt (.var 1) (.lit (.int 2))) (.cmp .Lt (.var 4) (.lit (.int 4)))) (.cons (.ret (.call 15 (.cons (.var 0) .nil)))
    .nil) .nil)
    (.cons (.asg (.nam 5) (.bin .Add (.lit (.int 1)) (.call 8 (.cons (.var 0) (.cons (.bin .Sub (.var 1) (.lit (.int 1))) .nil)))))
    (.cons (.ret (.tup (.cons (.call 9 (.cons (.var 0) (.cons (.frz (.dsp (.cons (.lit (.str "and")) (.cons (.lit (.str "or")) .nil)))) .nil))) (.cons (.call 16 (.cons (.var 0) (.cons (.var 5) (.cons (.var 2) (.cons (.var 3) .nil))))) (.cons (.call 16 (.cons (.var 0) (.cons (.bin .Sub (.var 1) (.var 5)) (.cons (.var 2) (.cons (.var 3) .nil))))) .nil)))))
    .nil))))))
def f16 : Fs := ⟨"_law_test", ["cup", "leaves", "around", "threads", "way", "one"], ["cup", "leaves", "around", "threads"], b16, topS 27⟩
/-! cup 0 kind 1 -/
def b17 : Bk := (.cons (.ret (.ite (.cmp .Eq (.var 1) (.lit (.str "mail"))) (.call 14 (.cons (.var 0) .nil)) (.call 16 (.cons (.var 0) (.cons (.call 9 (.cons (.var 0) (.cons (.frz (.dsp (.cons (.lit (.int 1)) (.cons (.lit (.int 3)) (.cons (.lit (.int 6)) .nil))))) .nil))) (.cons (.call 9 (.cons (.var 0) (.cons (.frz (.dsp (.cons (.lit (.int 1)) (.cons (.lit (.int 6)) .nil)))) .nil))) (.cons (.lit (.int 2)) .nil)))))))
    .nil)
def f17 : Fs := ⟨"_law_thing", ["cup", "kind"], ["cup", "kind"], b17, topS 28⟩
/-! test 0 least 1 text 2 -/
def b18 : Bk := (.cons (.asg (.nam 2) (.call 19 (.cons (.var 0) .nil)))
    (.cons (.ret (.ite (.cmp .GtE (.ddg [("or", .int 1), ("and", .int 2)] (.cons (.idx (.var 0) (.lit (.int 0))) (.cons (.lit (.int 3)) .nil))) (.var 1)) (.var 2) (.bin .Add (.bin .Add (.lit (.str "(")) (.var 2)) (.lit (.str ")")))))
    .nil))
def f18 : Fs := ⟨"_law_inner", ["test", "least", "text"], ["test", "least"], b18, topS 29⟩
/-! test 0 word 1 level 2 -/
def b19 : Bk := (.cons (.asg (.nam 1) (.idx (.var 0) (.lit (.int 0))))
    (.cons (.ite (.cmp .In (.var 1) (.frz (.dsp (.cons (.lit (.str "and")) (.cons (.lit (.str "or")) .nil))))) (.cons (.asg (.nam 2) (.ite (.cmp .Eq (.var 1) (.lit (.str "or"))) (.lit (.int 1)) (.lit (.int 2))))
    (.cons (.ret (.bin .Add (.bin .Add (.bin .Add (.bin .Add (.call 18 (.cons (.idx (.var 0) (.lit (.int 1))) (.cons (.var 2) .nil))) (.lit (.str " "))) (.var 1)) (.lit (.str " "))) (.call 18 (.cons (.idx (.var 0) (.lit (.int 2))) (.cons (.bin .Add (.var 2) (.lit (.int 1))) .nil)))))
    .nil)) .nil)
    (.cons (.ite (.cmp .In (.var 1) (.frz (.dsp (.cons (.lit (.str "not")) (.cons (.lit (.str "thread")) .nil))))) (.cons (.ret (.bin .Add (.bin .Add (.var 1) (.lit (.str " "))) (.call 18 (.cons (.idx (.var 0) (.lit (.int 1))) (.cons (.lit (.int 3)) .nil)))))
    .nil) .nil)
    (.cons (.ite (.cmp .Eq (.fn .len (.cons (.var 0) .nil)) (.lit (.int 1))) (.cons (.ret (.var 1))
    .nil) .nil)
    (.cons (.ite (.cmp .Eq (.fn .len (.cons (.var 0) .nil)) (.lit (.int 3))) (.cons (.ret (.bin .Add (.bin .Add (.bin .Add (.var 1) (.lit (.str " "))) (.idx (.var 0) (.lit (.int 1)))) (.ite (.val (.idx (.var 0) (.lit (.int 2)))) (.lit (.str "*")) (.lit (.str "")))))
    .nil) .nil)
    (.cons (.ret (.bin .Add (.bin .Add (.var 1) (.lit (.str " "))) (.ite (.cmp .In (.var 1) (.frz (.dsp (.cons (.lit (.str "in")) (.cons (.lit (.str "under")) .nil))))) (.bin .Add (.bin .Add (.fn .str (.cons (.idx (.idx (.var 0) (.lit (.int 1))) (.lit (.int 0))) .nil)) (.lit (.str "."))) (.fn .str (.cons (.idx (.idx (.var 0) (.lit (.int 1))) (.lit (.int 1))) .nil))) (.fn .str (.cons (.idx (.var 0) (.lit (.int 1))) .nil)))))
    .nil))))))
def f19 : Fs := ⟨"_law_bare", ["test", "word", "level"], ["test"], b19, topS 30⟩
/-! thing 0 kind 1 k 2 found 3 fields 4 words 5 -/
def b20_1 : Bk := (.cons (.asg (.nam 5) (.ite (.val (.isi (.idx (.var 0) (.var 2)) "tuple")) (.frz (.lst (.idx (.var 0) (.var 2)))) (.ite (.cmp .Is (.idx (.var 0) (.var 2)) (.lit (.non))) (.frz (.dsp .nil)) (.frz (.dsp (.cons (.fn .str (.cons (.idx (.var 0) (.var 2)) .nil)) .nil))))))
    (.cons (.asg (.nam 3) (.frz (.cat (.var 3) (.ite (.cmp .Gt (.fn .len (.cons (.var 5) .nil)) (.lit (.int 0))) (.frz (.dsp (.cons (.bin .Add (.mtd .join (.lit (.str " ")) (.cons (.frz (.cat (.frz (.dsp (.cons (.idx (.var 4) (.var 2)) .nil))) (.var 5))) .nil)) (.lit (.str ";"))) .nil))) (.frz (.dsp .nil))))))
    .nil))
def b20 : Bk := (.cons (.ite (.cmp .Eq (.var 1) (.lit (.str "test"))) (.cons (.ret (.bin .Add (.call 19 (.cons (.var 0) .nil)) (.lit (.str ";"))))
    .nil) .nil)
    (.cons (.par [3, 4] (.cons (.frz (.dsp .nil)) (.cons (.frz (.dsp (.cons (.lit (.str "from")) (.cons (.lit (.str "to")) (.cons (.lit (.str "about")) (.cons (.lit (.str "own")) (.cons (.lit (.str "answers")) (.cons (.lit (.str "number")) (.cons (.lit (.str "body")) .nil))))))))) .nil)))
    (.cons (.for_ (.nam 2) (.rng1 (.lit (.int 7))) b20_1)
    (.cons (.ret (.ite (.cmp .Gt (.fn .len (.cons (.var 3) .nil)) (.lit (.int 0))) (.bin .Add (.bin .Add (.lit (.str "{ ")) (.mtd .join (.lit (.str " ")) (.cons (.var 3) .nil))) (.lit (.str " }"))) (.lit (.str "{}"))))
    .nil))))
def f20 : Fs := ⟨"_law_print", ["thing", "kind", "k", "found", "fields", "words"], ["thing", "kind"], b20, topS 31⟩
/-! script 0 cup 1 turn 2 text 3 test 4 -/
def b21_1 : Bk := (.cons (.par [3, 4] (.cons (.call 14 (.cons (.var 1) .nil)) (.cons (.call 17 (.cons (.var 1) (.cons (.lit (.str "test")) .nil))) .nil)))
    (.cons (.ite (.or (.not (.val (.call 10 (.cons (.call 2 (.cons (.var 3) .nil)) (.cons (.call 20 (.cons (.var 3) (.cons (.lit (.str "mail")) .nil))) .nil))))) (.not (.val (.call 10 (.cons (.call 6 (.cons (.var 4) .nil)) (.cons (.call 20 (.cons (.var 4) (.cons (.lit (.str "test")) .nil))) .nil)))))) (.cons (.ret (.lit (.bl false)))
    .nil) .nil)
    .nil))
def b21 : Bk := (.cons (.asg (.nam 1) (.call 7 (.cons (.var 0) .nil)))
    (.cons (.for_ (.nam 2) (.rng1 (.lit (.int 4))) b21_1)
    (.cons (.ret (.call 10 (.cons (.call 2 (.cons (.tup (.cons (.lit (.non)) (.cons (.tup .nil) (.cons (.tup .nil) (.cons (.lit (.non)) (.cons (.tup .nil) (.cons (.lit (.non)) (.cons (.tup .nil) .nil)))))))) .nil)) (.cons (.lit (.str "{}")) .nil))))
    .nil)))
def f21 : Fs := ⟨"law", ["script", "cup", "turn", "text", "test"], ["script"], b21, topS 32⟩
def fs : List Fs := [f0, f1, f2, f3, f4, f5, f6, f7, f8, f9, f10, f11, f12, f13, f14, f15, f16, f17, f18, f19, f20, f21]
def cs : List (Str × D) := [("FIELDS_mailtexts", .tup [.str "from", .str "to", .str "about", .str "own", .str "answers", .str "number", .str "body"]), ("FIELDS_picktests", .tup [.str "from", .str "own", .str "to", .str "about", .str "answers", .str "body"]), ("PLACED", .tup [.str "in", .str "under"]), ("PLAIN", .tup [.str "asleep", .str "sent"]), ("UNIT", .int 3)]
def ks : List (Str × List (Str × D)) := [("PLACES", [("from", .int 0), ("to", .int 1), ("about", .int 2), ("own", .int 3), ("answers", .int 4), ("body", .int 6)]), ("LEVELS", [("or", .int 1), ("and", .int 2)])]
theorem ok : fs.all (chkF (tbOf fs cs ks)) = true := by decide +kernel
end K13
namespace K13
open PySem L2 PL PL.Cod PL.Mail
local macro_rules | `(tactic| walk_at "wp") => `(tactic| try simp -implicitDefEqProofs only [wB_seq, decide_true, decide_false, Bool.not_true, Bool.not_false, Bool.false_eq_true, if_true, if_false, true_and, and_true, not_true, not_false_iff, wB, wS, PL.wE, PL.wT, wL, wXs, wPo, wG, wGs, wI, gv0, gvS, opt_some, opt_none, opt_ifc, opt_ite, opt_map, setAll, Gs.len, atI0, atI1, List.length_map, List.length_append, List.length_cons, List.length_nil, wipeD, List.map_cons, List.map_nil, i_tt, i_ti, i_ts, i_tb, i_tn, i_bi, i_bs, i_bb, i_bn, i_ii, i_is, i_ib, i_in, i_si, i_ss, i_sb, i_sn, c_eqb, c_neb, n_int, n_str, n_bl, n_tup, n_non, c_sl, beq_self_eq_true, bne_self_eq_false, ls_tup, ls_lst, ls_scr, m_starts, is_str, ite_dec, ite_ndec, List.set_cons_succ, List.set_cons_zero, tru_bl, tru_int, tru_tup, tru_lst, tru_non, b_add, b_sub, b_mul, b_rep, b_mulz, b_fdv, b_mod, b_pow, b_adds, b_addt, c_eq, c_ne, c_lt, c_le, c_gt, c_ge, c_eqs, c_nes, c_isn, c_ins, c_isb, c_isb2, f_abs, f_int, f_intb, f_str, f_lens, f_lent, f_lenl, f_tupl, f_tupt, f_max2, f_min2, f_suml, f_alll, f_anyl, x_tup, x_lst, sq_tup, sq_lst, sq_scr, it_lst, atI2, atI3, atI4, atI5, atIm1, atIm2, atIm3, atIm4])
local macro_rules | `(tactic| walk_at "sd") => `(tactic| first | decide | exact .inr (by decide) | exact .inl (by decide) | (simp only [sizeLine] at *; omega))
local macro_rules | `(tactic| walk_at "tl") => `(tactic| repeat' first | assumption | exact tl_non | exact tl_bl | exact tl_nil | apply tl_one | apply tl_cons | apply Tell.tup | apply Tell.lst | (apply tl_str; decide +kernel) | (apply tl_int; first | decide | omega))
local macro_rules | `(tactic| walk_at "tell") => `(tactic| exact Tell.mono (by walk_at "tl") (by first | decide | omega) (by first | decide | omega))
abbrev T : List Fd := fs.map Fs.fd
theorem cM : MailT T 8 9 11 13 14 := ⟨rfl, rfl, rfl, rfl, rfl⟩
/-! texts of bounded length -/
def Ok (n : Nat) (z : Str) : Prop := z.length ≤ n ∧ sok z
theorem lap (x y : Str) : (x ++ y).length = x.length + y.length := by
  show (x.cps ++ y.cps).size = _
  exact Array.size_append
theorem acps (a b : Str) : (a ++ b).cps.toList = a.cps.toList ++ b.cps.toList := by
  show (a.cps ++ b.cps).toList = _
  exact Array.toList_append
theorem Ok.app {n m : Nat} {x y : Str} (h : Ok n x) (g : Ok m y) : Ok (n + m) (x ++ y) := by
  refine ⟨by rw [lap]; have := h.1; have := g.1; omega, fun c hc => ?_⟩
  rw [acps] at hc
  exact (List.mem_append.mp hc).elim (h.2 c) (g.2 c)
theorem Ok.le {n m : Nat} {x : Str} (h : Ok n x) (l : n ≤ m) : Ok m x := ⟨Nat.le_trans h.1 l, h.2⟩
theorem sok_lit (s : String) : sok (Str.ofString s) := by
  intro c hc
  rw [PyProof.Rows.signs_ofString] at hc
  obtain ⟨ch, -, rfl⟩ := List.mem_map.mp hc
  have := ch.valid
  unfold UInt32.isValidChar Nat.isValidChar at this
  show ch.val.toNat < _
  omega
theorem Ok.lit {n : Nat} (s : String) (h : (Str.ofString s).length ≤ n) : Ok n (Str.ofString s) := ⟨h, sok_lit s⟩
theorem Ok.wd {z : Str} (h : Wd z) : Ok 8 z := ⟨h.2.1, fun c hc => (sg_at c (h.2.2 c hc)).2.2⟩
theorem len_int {i : Int} (h0 : 0 ≤ i) (h1 : i < 10 ^ 10) : (Str.ofString (toString i)).length ≤ 10 := by
  have := PyProof.Rows.toString_length_le h0 (k := 10) (by decide) h1
  exact this
theorem str_app (x y z : Str) : (x ++ y) ++ z = x ++ (y ++ z) := by
  show (⟨(x.cps ++ y.cps) ++ z.cps⟩ : Str) = ⟨x.cps ++ (y.cps ++ z.cps)⟩
  rw [Array.append_assoc]
theorem join_ok {m : Nat} {sep : Str} (hs : Ok 1 sep) : ∀ {ps : List Str}, (∀ p ∈ ps, Ok m p) → Ok (ps.length * (m + 1)) (Txt.join sep ps) := by
  have key : ∀ (ps : List Str) (acc : Array Nat) (n : Nat), (∀ p ∈ ps, Ok m p) → acc.size ≤ n → (∀ c ∈ acc.toList, c < 0x110000) →
      (ps.foldl (fun acc (p : Str) => acc ++ sep.cps ++ p.cps) acc).size ≤ n + ps.length * (m + 1) ∧ ∀ c ∈ (ps.foldl (fun acc (p : Str) => acc ++ sep.cps ++ p.cps) acc).toList, c < 0x110000 := by
    intro ps
    induction ps with
    | nil => exact fun acc n _ h1 h2 => ⟨by simpa using h1, h2⟩
    | cons p ps ih =>
      intro acc n h h1 h2
      rw [List.foldl_cons]
      have hp := h p List.mem_cons_self
      have l1 : sep.cps.size ≤ 1 := hs.1
      have l2 : p.cps.size ≤ m := hp.1
      obtain ⟨a, b⟩ := ih (acc ++ sep.cps ++ p.cps) (n + (m + 1)) (fun q hq => h q (List.mem_cons_of_mem _ hq)) (by rw [Array.size_append, Array.size_append]; omega) (fun c hc => by
        rw [Array.toList_append, Array.toList_append] at hc
        rcases List.mem_append.mp hc with hc | hc
        · rcases List.mem_append.mp hc with hc | hc
          · exact h2 c hc
          · exact hs.2 c hc
        · exact hp.2 c hc)
      refine ⟨?_, b⟩
      rw [List.length_cons, Nat.succ_mul]
      omega
  intro ps h
  cases ps with
  | nil => exact ⟨by show (#[] : Array Nat).size ≤ _; exact Nat.zero_le _, fun c hc => by cases hc⟩
  | cons p ps =>
    have hp := h p List.mem_cons_self
    have := key ps p.cps m (fun q hq => h q (List.mem_cons_of_mem _ hq)) hp.1 hp.2
    refine ⟨?_, this.2⟩
    rw [List.length_cons, Nat.succ_mul]
    have h1 := this.1
    show (ps.foldl (fun acc (p : Str) => acc ++ sep.cps ++ p.cps) p.cps).size ≤ _
    omega
theorem Ok.tell {n : Nat} {z : Str} (h : Ok n z) : Tell 0 n (.str z) := Tell.str (sok_of h.2) h.1
/-! words at the head of a test -/
abbrev W18 : List Str := ["from", "own", "to", "about", "answers", "body", "has", "lacks", "in", "under", "young", "least", "asleep", "sent", "not", "thread", "and", "or"]
theorem tPl : ∀ f ∈ W18, cmpD .In (.str f) (.tup [.str "asleep", .str "sent"]) = some (decide (f ∈ ([("asleep" : Str), "sent"] : List Str))) := by decide +kernel
theorem tFi : ∀ f ∈ W18, cmpD .In (.str f) (.tup [.str "from", .str "own", .str "to", .str "about", .str "answers", .str "body"]) = some (decide (f ∈ ([("from" : Str), "own", "to", "about", "answers", "body"] : List Str))) := by decide +kernel
theorem tPd : ∀ f ∈ W18, cmpD .In (.str f) (.tup [.str "in", .str "under"]) = some (decide (f ∈ ([("in" : Str), "under"] : List Str))) := by decide +kernel
theorem tPdL : ∀ f ∈ W18, cmpD .In (.str f) (.lst [.str "in", .str "under"]) = some (decide (f ∈ ([("in" : Str), "under"] : List Str))) := by decide +kernel
theorem tAO : ∀ f ∈ W18, cmpD .In (.str f) (.tup [.str "and", .str "or"]) = some (decide (f ∈ ([("and" : Str), "or"] : List Str))) := by decide +kernel
theorem tAOL : ∀ f ∈ W18, cmpD .In (.str f) (.lst [.str "and", .str "or"]) = some (decide (f ∈ ([("and" : Str), "or"] : List Str))) := by decide +kernel
theorem tNT : ∀ f ∈ W18, cmpD .In (.str f) (.tup [.str "not", .str "thread"]) = some (decide (f ∈ ([("not" : Str), "thread"] : List Str))) := by decide +kernel
theorem tNTL : ∀ f ∈ W18, cmpD .In (.str f) (.lst [.str "not", .str "thread"]) = some (decide (f ∈ ([("not" : Str), "thread"] : List Str))) := by decide +kernel
theorem wOk : ∀ f ∈ W18, f.length ≤ 7 ∧ f.cps.toList.all (fun c => decide (c < 0x110000)) = true := by decide +kernel
theorem Ok.w {f : Str} (h : f ∈ W18) : Ok 7 f := ⟨(wOk f h).1, fun c hc => of_decide_eq_true (List.all_eq_true.mp (wOk f h).2 c hc)⟩
def lv (f : Str) : Int := if f = "or" then 1 else if f = "and" then 2 else 3
theorem lv_eq (f : Str) : (List.lookup f [(Str.ofString "or", D.int 1), (Str.ofString "and", D.int 2)]).getD (.int 3) = .int (lv f) := by
  unfold lv
  by_cases h1 : f = "or"
  · rw [if_pos h1, h1]
    rfl
  · rw [if_neg h1, List.lookup_cons, beq_eq_false_iff_ne.mpr h1]
    by_cases h2 : f = "and"
    · rw [if_pos h2, h2]
      rfl
    · rw [if_neg h2, List.lookup_cons, beq_eq_false_iff_ne.mpr h2]
      rfl
theorem Lsp : (Str.ofString " ").length = 1 := by decide
theorem Lst : (Str.ofString "*").length = 1 := by decide
theorem Lem : (Str.ofString "").length = 0 := by decide
theorem Ldt : (Str.ofString ".").length = 1 := by decide
theorem Lop : (Str.ofString "(").length = 1 := by decide
theorem Lcl : (Str.ofString ")").length = 1 := by decide
theorem Lsc : (Str.ofString ";").length = 1 := by decide
theorem Lob : (Str.ofString "{ ").length = 2 := by decide
theorem Lcb : (Str.ofString " }").length = 2 := by decide
local macro_rules | `(tactic| walk_at "szs") => `(tactic| (simp only [lap, Lsp, Lst, Lem, Ldt, Lop, Lcl, Lsc, Lob, Lcb, sizeLine]; omega))
structure Bo (p n : Nat) (d : D) (z : Str) : Prop where
  ok : Ok n z
  b5 : ∀ (k : Nat) (S : Sto) (Q : WQ), Q (.str z) S → callW T (k + p) 5 [d] S Q
  b19 : ∀ (k : Nat) (S : Sto) (Q : WQ), Q (.str z) S → callW T (k + p) 19 [d] S Q
  hd : ∃ f r, d = .tup (.str f :: r) ∧ f ∈ W18
def Both (p n : Nat) (d : D) : Prop := ∃ z, Bo p n d z
theorem Both.le {p n p' n' : Nat} {d : D} (h : Both p n d) (hp : p ≤ p') (hn : n ≤ n') : Both p' n' d := by
  obtain ⟨z, h⟩ := h
  refine ⟨z, h.ok.le hn, fun k S Q q => ?_, fun k S Q q => ?_, h.hd⟩
  · rw [show k + p' = (k + (p' - p)) + p by omega]
    exact h.b5 _ S Q q
  · rw [show k + p' = (k + (p' - p)) + p by omega]
    exact h.b19 _ S Q q
abbrev FI : List Str := ["from", "own", "to", "about", "answers", "body"]
abbrev PD : List Str := ["in", "under"]
abbrev PLA : List Str := ["asleep", "sent"]
abbrev AO : List Str := ["and", "or"]
abbrev NT : List Str := ["not", "thread"]
def Leaf (d : D) : Prop :=
  (∃ f z b, d = .tup [.str f, .str z, .bl b] ∧ f ∈ FI ∧ Wd z) ∨ (∃ f z, d = .tup [.str f, .str z] ∧ f ∈ ([("has" : Str), "lacks"] : List Str) ∧ z ∈ ([("a" : Str), "d", "f", "j", "s", "x"] : List Str)) ∨
  (∃ f i j, d = .tup [.str f, .tup [.int i, .int j]] ∧ f ∈ PD ∧ (0 ≤ i ∧ i < 10 ^ 10) ∧ 0 ≤ j ∧ j < 10 ^ 10) ∨ (∃ f i, d = .tup [.str f, .int i] ∧ f ∈ ([("young" : Str), "least"] : List Str) ∧ 0 ≤ i ∧ i < 10 ^ 10) ∨
  (∃ f, d = .tup [.str f] ∧ f ∈ PLA)
theorem fFI : ∀ f ∈ FI, f ∈ W18 ∧ f ∉ AO ∧ f ∉ NT ∧ f ∉ PLA := by decide +kernel
theorem fHL : ∀ f ∈ ([("has" : Str), "lacks"] : List Str), f ∈ W18 ∧ f ∉ AO ∧ f ∉ NT ∧ f ∉ PLA ∧ f ∉ FI ∧ f ∉ PD := by decide +kernel
theorem fYL : ∀ f ∈ ([("young" : Str), "least"] : List Str), f ∈ W18 ∧ f ∉ AO ∧ f ∉ NT ∧ f ∉ PLA ∧ f ∉ FI ∧ f ∉ PD := by decide +kernel
theorem fPD : ∀ f ∈ PD, f ∈ W18 ∧ f ∉ AO ∧ f ∉ NT ∧ f ∉ PLA ∧ f ∉ FI := by decide +kernel
theorem fPLA : ∀ f ∈ PLA, f ∈ W18 ∧ f ∉ AO ∧ f ∉ NT := by decide +kernel
theorem fAO : ∀ f ∈ AO, f ∈ W18 := by decide +kernel
theorem fNT : ∀ f ∈ NT, f ∈ W18 ∧ f ∉ AO := by decide +kernel
theorem fFlag : ∀ z ∈ ([("a" : Str), "d", "f", "j", "s", "x"] : List Str), z.length ≤ 1 ∧ z.cps.toList.all (fun c => decide (c < 0x110000)) = true := by decide +kernel
theorem f_strs (S : Sto) (z : Str) : fnD S .str [.str z] = some (.str z) := rfl
theorem log_small {i : Int} (h0 : 0 ≤ i) (h1 : i < 10 ^ 10) : i.natAbs.log2 < 1920 := by
  by_cases h : i.natAbs = 0
  · rw [h]; decide
  · refine (Nat.log2_lt h).mpr (Nat.lt_of_lt_of_le (show i.natAbs < 2 ^ 64 by omega) ?_)
    exact Nat.pow_le_pow_right (by decide) (by decide)
theorem leaf_both {d : D} (h : Leaf d) : Both 2 40 d := by
  have go : ∀ {d : D} {f : Str} {r : List D} {z : Str}, d = .tup (.str f :: r) → f ∈ W18 → f ∉ AO → f ∉ NT → Ok 40 z → (∀ (k : Nat) (S : Sto) (Q : WQ), Q (.str z) S → callW T (k + 1) 4 [d] S Q) → (∀ (k : Nat) (S : Sto) (Q : WQ), Q (.str z) S → callW T (k + 2) 19 [d] S Q) → Both 2 40 d := by
    intro d f r z e hw h1 h2 ok p4 p19
    refine ⟨z, ok, fun k S Q q => ?_, p19, f, r, e, hw⟩
    subst e
    refine callW_at (fd := ⟨1, 3, b5⟩) rfl rfl ?_
    show wB _ b5 [some (.tup (.str f :: r)), none, none] _ _
    unfold b5
    walk_at "wp"
    rw [tAO f hw]
    walk_at "wp"
    rw [if_neg h1]
    refine ⟨by decide, ?_⟩
    rw [tNT f hw]
    walk_at "wp"
    rw [if_neg h2]
    exact ⟨by decide, p4 k S (fun d S' => ∃ S2 : Sto, S2.le S' ∧ Q d S2) (rt_of q)⟩
  rcases h with ⟨f, z, b, rfl, hf, hz⟩ | ⟨f, z, rfl, hf, hz⟩ | ⟨f, i, j, rfl, hf, ⟨hi0, hi1⟩, hj0, hj1⟩ | ⟨f, i, rfl, hf, hi0, hi1⟩ | ⟨f, rfl, hf⟩
  · obtain ⟨hw, h1, h2, h3⟩ := fFI f hf
    have of := Ok.w hw
    have oz := Ok.wd hz
    have l1 := of.1
    have l2 := oz.1
    refine go (z := f ++ Str.ofString " " ++ z ++ (if b = true then Str.ofString "*" else Str.ofString "")) rfl hw h1 h2 ?_ ?_ ?_
    · refine Ok.le (Ok.app (Ok.app (Ok.app of (Ok.lit (n := 1) " " (by decide))) oz) (m := 1) ?_) (by decide)
      cases b
      · exact Ok.lit "" (by decide)
      · exact Ok.lit "*" (by decide)
    · intro k S Q q
      refine callW_at (fd := ⟨1, 2, b4⟩) rfl rfl ?_
      show wB _ b4 [some (.tup [.str f, .str z, .bl b]), none] _ _
      unfold b4
      walk_at "wp"
      rw [tPl f hw]
      walk_at "wp"
      rw [if_neg h3, tFi f hw]
      walk_at "wp"
      rw [if_pos hf]
      refine ⟨by walk_at "szs", by walk_at "szs", ?_⟩
      cases b
      · exact ⟨by walk_at "szs", rt_of q⟩
      · exact ⟨by walk_at "szs", rt_of q⟩
    · intro k S Q q
      refine callW_at (fd := ⟨1, 3, b19⟩) rfl rfl ?_
      show wB _ b19 [some (.tup [.str f, .str z, .bl b]), none, none] _ _
      unfold b19
      walk_at "wp"
      refine ⟨by decide, ?_⟩
      rw [tAOL f hw]
      walk_at "wp"
      rw [if_neg h1]
      refine ⟨by decide, ?_⟩
      rw [tNTL f hw]
      walk_at "wp"
      rw [if_neg h2, if_neg (by decide), if_pos (by decide)]
      refine ⟨by walk_at "szs", by walk_at "szs", ?_⟩
      cases b
      · exact ⟨by walk_at "szs", rt_of q⟩
      · exact ⟨by walk_at "szs", rt_of q⟩
  · obtain ⟨hw, h1, h2, h3, h4, h5⟩ := fHL f hf
    have of := Ok.w hw
    have oz : Ok 1 z := ⟨(fFlag z hz).1, fun c hc => of_decide_eq_true (List.all_eq_true.mp (fFlag z hz).2 c hc)⟩
    have l1 := of.1
    have l2 := oz.1
    refine go (z := f ++ Str.ofString " " ++ z) rfl hw h1 h2 ?_ ?_ ?_
    · exact Ok.le (Ok.app (Ok.app of (Ok.lit (n := 1) " " (by decide))) oz) (by decide)
    · intro k S Q q
      refine callW_at (fd := ⟨1, 2, b4⟩) rfl rfl ?_
      show wB _ b4 [some (.tup [.str f, .str z]), none] _ _
      unfold b4
      walk_at "wp"
      rw [tPl f hw]
      walk_at "wp"
      rw [if_neg h3, tFi f hw]
      walk_at "wp"
      rw [if_neg h4, tPd f hw]
      walk_at "wp"
      rw [if_neg h5]
      refine ⟨by walk_at "szs", ?_⟩
      rw [f_strs]
      walk_at "wp"
      exact ⟨by walk_at "szs", rt_of q⟩
    · intro k S Q q
      refine callW_at (fd := ⟨1, 3, b19⟩) rfl rfl ?_
      show wB _ b19 [some (.tup [.str f, .str z]), none, none] _ _
      unfold b19
      walk_at "wp"
      refine ⟨by decide, ?_⟩
      rw [tAOL f hw]
      walk_at "wp"
      rw [if_neg h1]
      refine ⟨by decide, ?_⟩
      rw [tNTL f hw]
      walk_at "wp"
      rw [if_neg h2, if_neg (by decide), if_neg (by decide)]
      refine ⟨by walk_at "szs", by decide, ?_⟩
      rw [tPdL f hw]
      walk_at "wp"
      rw [if_neg h5, f_strs]
      walk_at "wp"
      exact ⟨by walk_at "szs", rt_of q⟩
  · obtain ⟨hw, h1, h2, h3, h4⟩ := fPD f hf
    have of := Ok.w hw
    have oi : Ok 10 (Str.ofString (toString i)) := ⟨len_int hi0 hi1, sok_lit _⟩
    have oj : Ok 10 (Str.ofString (toString j)) := ⟨len_int hj0 hj1, sok_lit _⟩
    have l1 := of.1
    have l2 := oi.1
    have l3 := oj.1
    refine go (z := f ++ Str.ofString " " ++ Str.ofString (toString i) ++ Str.ofString "." ++ Str.ofString (toString j)) rfl hw h1 h2 ?_ ?_ ?_
    · exact Ok.le (Ok.app (Ok.app (Ok.app (Ok.app of (Ok.lit (n := 1) " " (by decide))) oi) (Ok.lit (n := 1) "." (by decide))) oj) (by decide)
    · intro k S Q q
      refine callW_at (fd := ⟨1, 2, b4⟩) rfl rfl ?_
      show wB _ b4 [some (.tup [.str f, .tup [.int i, .int j]]), none] _ _
      unfold b4
      walk_at "wp"
      rw [tPl f hw]
      walk_at "wp"
      rw [if_neg h3, tFi f hw]
      walk_at "wp"
      rw [if_neg h4, tPd f hw]
      walk_at "wp"
      rw [if_pos hf]
      exact ⟨by walk_at "szs", log_small hi0 hi1, by walk_at "szs", by walk_at "szs", log_small hj0 hj1, by walk_at "szs", rt_of q⟩
    · intro k S Q q
      refine callW_at (fd := ⟨1, 3, b19⟩) rfl rfl ?_
      show wB _ b19 [some (.tup [.str f, .tup [.int i, .int j]]), none, none] _ _
      unfold b19
      walk_at "wp"
      refine ⟨by decide, ?_⟩
      rw [tAOL f hw]
      walk_at "wp"
      rw [if_neg h1]
      refine ⟨by decide, ?_⟩
      rw [tNTL f hw]
      walk_at "wp"
      rw [if_neg h2, if_neg (by decide), if_neg (by decide)]
      refine ⟨by walk_at "szs", by decide, ?_⟩
      rw [tPdL f hw]
      walk_at "wp"
      rw [if_pos hf]
      refine ⟨log_small hi0 hi1, by walk_at "szs", log_small hj0 hj1, by walk_at "szs", by walk_at "szs", ?_⟩
      rw [str_app (f ++ Str.ofString " " ++ Str.ofString (toString i)), str_app (f ++ Str.ofString " ")] at q
      rw [str_app (Str.ofString (toString i))]
      exact rt_of q
  · obtain ⟨hw, h1, h2, h3, h4, h5⟩ := fYL f hf
    have of := Ok.w hw
    have oi : Ok 10 (Str.ofString (toString i)) := ⟨len_int hi0 hi1, sok_lit _⟩
    have l1 := of.1
    have l2 := oi.1
    refine go (z := f ++ Str.ofString " " ++ Str.ofString (toString i)) rfl hw h1 h2 ?_ ?_ ?_
    · exact Ok.le (Ok.app (Ok.app of (Ok.lit (n := 1) " " (by decide))) oi) (by decide)
    · intro k S Q q
      refine callW_at (fd := ⟨1, 2, b4⟩) rfl rfl ?_
      show wB _ b4 [some (.tup [.str f, .int i]), none] _ _
      unfold b4
      walk_at "wp"
      rw [tPl f hw]
      walk_at "wp"
      rw [if_neg h3, tFi f hw]
      walk_at "wp"
      rw [if_neg h4, tPd f hw]
      walk_at "wp"
      rw [if_neg h5]
      exact ⟨by walk_at "szs", log_small hi0 hi1, by walk_at "szs", rt_of q⟩
    · intro k S Q q
      refine callW_at (fd := ⟨1, 3, b19⟩) rfl rfl ?_
      show wB _ b19 [some (.tup [.str f, .int i]), none, none] _ _
      unfold b19
      walk_at "wp"
      refine ⟨by decide, ?_⟩
      rw [tAOL f hw]
      walk_at "wp"
      rw [if_neg h1]
      refine ⟨by decide, ?_⟩
      rw [tNTL f hw]
      walk_at "wp"
      rw [if_neg h2, if_neg (by decide), if_neg (by decide)]
      refine ⟨by walk_at "szs", by decide, ?_⟩
      rw [tPdL f hw]
      walk_at "wp"
      rw [if_neg h5]
      exact ⟨log_small hi0 hi1, by walk_at "szs", rt_of q⟩
  · obtain ⟨hw, h1, h2⟩ := fPLA f hf
    have of := Ok.w hw
    refine go (z := f) rfl hw h1 h2 (of.le (by decide)) ?_ ?_
    · intro k S Q q
      refine callW_at (fd := ⟨1, 2, b4⟩) rfl rfl ?_
      show wB _ b4 [some (.tup [.str f]), none] _ _
      unfold b4
      walk_at "wp"
      rw [tPl f hw]
      walk_at "wp"
      rw [if_pos hf]
      exact rt_of q
    · intro k S Q q
      refine callW_at (fd := ⟨1, 3, b19⟩) rfl rfl ?_
      show wB _ b19 [some (.tup [.str f]), none, none] _ _
      unfold b19
      walk_at "wp"
      refine ⟨by decide, ?_⟩
      rw [tAOL f hw]
      walk_at "wp"
      rw [if_neg h1]
      refine ⟨by decide, ?_⟩
      rw [tNTL f hw]
      walk_at "wp"
      rw [if_neg h2, if_pos (by decide)]
      exact rt_of q
theorem inner_ok {p n : Nat} {d : D} {z : Str} (h : Bo p n d z) (hn : n ≤ 100000) (m : Int) : ∃ z', Ok (n + 2) z' ∧ (∀ (k : Nat) (S : Sto) (Q : WQ), Q (.str z') S → callW T (k + p + 1) 3 [d, .int m] S Q) ∧ ∀ (k : Nat) (S : Sto) (Q : WQ), Q (.str z') S → callW T (k + p + 1) 18 [d, .int m] S Q := by
  obtain ⟨ok, h5, h19, f, r, rfl, hw⟩ := h
  have l1 := ok.1
  refine ⟨if m ≤ lv f then z else Str.ofString "(" ++ z ++ Str.ofString ")", ?_, fun k S Q q => ?_, fun k S Q q => ?_⟩
  · split
    · exact ok.le (by omega)
    · exact Ok.le (Ok.app (Ok.app (Ok.lit (n := 1) "(" (by decide)) ok) (Ok.lit (n := 1) ")" (by decide))) (by omega)
  · refine callW_at (fd := ⟨2, 3, b3⟩) rfl rfl ?_
    show wB _ b3 [some (.tup (.str f :: r)), some (.int m), none] _ _
    unfold b3
    walk_at "wp"
    refine h5 k S _ ?_
    walk_at "wp"
    rw [lv_eq]
    walk_at "wp"
    by_cases hm : m ≤ lv f
    · rw [if_pos hm] at q
      rw [if_pos hm]
      exact rt_of q
    · rw [if_neg hm] at q
      rw [if_neg hm]
      exact ⟨by walk_at "szs", by walk_at "szs", rt_of q⟩
  · refine callW_at (fd := ⟨2, 3, b18⟩) rfl rfl ?_
    show wB _ b18 [some (.tup (.str f :: r)), some (.int m), none] _ _
    unfold b18
    walk_at "wp"
    refine h19 k S _ ?_
    walk_at "wp"
    rw [lv_eq]
    walk_at "wp"
    by_cases hm : m ≤ lv f
    · rw [if_pos hm] at q
      rw [if_pos hm]
      exact rt_of q
    · rw [if_neg hm] at q
      rw [if_neg hm]
      exact ⟨by walk_at "szs", by walk_at "szs", rt_of q⟩
theorem one_both {p n : Nat} {d : D} {w : Str} (hw : w ∈ NT) (h : Both p n d) (hn : n ≤ 100000) : Both (p + 2) (n + 20) (.tup [.str w, d]) := by
  obtain ⟨z, h⟩ := h
  obtain ⟨w18, hao⟩ := fNT w hw
  have ow := Ok.w w18
  obtain ⟨z', ok', h3, h18⟩ := inner_ok h hn 3
  have l1 := ow.1
  have l2 := ok'.1
  refine ⟨w ++ Str.ofString " " ++ z', Ok.le (Ok.app (Ok.app ow (Ok.lit (n := 1) " " (by decide))) ok') (by omega), fun k S Q q => ?_, fun k S Q q => ?_, w, [d], rfl, w18⟩
  · refine callW_at (fd := ⟨1, 3, b5⟩) rfl rfl ?_
    show wB _ b5 [some (.tup [.str w, d]), none, none] _ _
    unfold b5
    walk_at "wp"
    rw [tAO w w18]
    walk_at "wp"
    rw [if_neg hao]
    refine ⟨by decide, ?_⟩
    rw [tNT w w18]
    walk_at "wp"
    rw [if_pos hw]
    refine ⟨by decide, by walk_at "szs", ?_⟩
    refine h3 k S _ ?_
    walk_at "wp"
    exact ⟨by walk_at "szs", rt_of q⟩
  · refine callW_at (fd := ⟨1, 3, b19⟩) rfl rfl ?_
    show wB _ b19 [some (.tup [.str w, d]), none, none] _ _
    unfold b19
    walk_at "wp"
    refine ⟨by decide, ?_⟩
    rw [tAOL w w18]
    walk_at "wp"
    rw [if_neg hao]
    refine ⟨by decide, ?_⟩
    rw [tNTL w w18]
    walk_at "wp"
    rw [if_pos hw]
    refine ⟨by walk_at "szs", ?_⟩
    refine h18 k S _ ?_
    walk_at "wp"
    exact ⟨by walk_at "szs", rt_of q⟩
theorem two_both {p n m : Nat} {a b : D} {w : Str} (hw : w ∈ AO) (ha : Both p n a) (hb : Both p m b) (hn : n ≤ 100000) (hm : m ≤ 100000) : Both (p + 2) (n + m + 20) (.tup [.str w, a, b]) := by
  obtain ⟨za, ha⟩ := ha
  obtain ⟨zb, hb⟩ := hb
  have w18 := fAO w hw
  have ow := Ok.w w18
  obtain ⟨z1, ok1, a3, a18⟩ := inner_ok ha hn (if w = "or" then 1 else 2)
  obtain ⟨z2, ok2, c3, c18⟩ := inner_ok hb hm ((if w = "or" then 1 else 2) + 1)
  have l0 := ow.1
  have l1 := ok1.1
  have l2 := ok2.1
  have hl : List.lookup w [(Str.ofString "or", D.int 1), (Str.ofString "and", D.int 2)] = some (.int (if w = "or" then 1 else 2)) := by
    simp only [List.mem_cons, List.mem_nil_iff, or_false] at hw
    rcases hw with rfl | rfl
    · rfl
    · rfl
  refine ⟨z1 ++ Str.ofString " " ++ w ++ Str.ofString " " ++ z2, Ok.le (Ok.app (Ok.app (Ok.app (Ok.app ok1 (Ok.lit (n := 1) " " (by decide))) ow) (Ok.lit (n := 1) " " (by decide))) ok2) (by omega), fun k S Q q => ?_, fun k S Q q => ?_, w, [a, b], rfl, w18⟩
  · refine callW_at (fd := ⟨1, 3, b5⟩) rfl rfl ?_
    show wB _ b5 [some (.tup [.str w, a, b]), none, none] _ _
    unfold b5
    walk_at "wp"
    rw [tAO w w18]
    walk_at "wp"
    rw [if_pos hw]
    refine ⟨by decide, ?_⟩
    rw [hl]
    walk_at "wp"
    refine a3 k S _ ?_
    walk_at "wp"
    refine ⟨by walk_at "szs", by walk_at "szs", by walk_at "szs", ?_⟩
    refine c3 k S _ ?_
    walk_at "wp"
    exact ⟨by walk_at "szs", rt_of q⟩
  · refine callW_at (fd := ⟨1, 3, b19⟩) rfl rfl ?_
    show wB _ b19 [some (.tup [.str w, a, b]), none, none] _ _
    unfold b19
    walk_at "wp"
    refine ⟨by decide, ?_⟩
    rw [tAOL w w18]
    walk_at "wp"
    rw [if_pos hw]
    by_cases ho : w = "or"
    · rw [if_pos ho] at a18 c18
      rw [if_pos ho]
      refine a18 k S _ ?_
      walk_at "wp"
      refine ⟨by walk_at "szs", by walk_at "szs", by walk_at "szs", ?_⟩
      refine c18 k S _ ?_
      walk_at "wp"
      exact ⟨by walk_at "szs", rt_of q⟩
    · rw [if_neg ho] at a18 c18
      rw [if_neg ho]
      refine a18 k S _ ?_
      walk_at "wp"
      refine ⟨by walk_at "szs", by walk_at "szs", by walk_at "szs", ?_⟩
      refine c18 k S _ ?_
      walk_at "wp"
      exact ⟨by walk_at "szs", rt_of q⟩
/-! drawn tests -/
theorem of_strs {d : D} {l : List Str} (h : d ∈ l.map D.str) : ∃ z, d = .str z ∧ z ∈ l := by
  obtain ⟨z, hz, rfl⟩ := List.mem_map.mp h
  exact ⟨z, rfl, hz⟩
theorem key_ok {k : Nat} {cu : Addr} {S : Sto} {x y : Int} {Q : WQ} (hS : S cu = some (cupO x y)) (q : ∀ i j x' y', (0 ≤ i ∧ i < 10 ^ 10) → (0 ≤ j ∧ j < 10 ^ 10) → Q (.tup [.int i, .int j]) (S.put cu (cupO x' y'))) : callW T (k + 3) 12 [.ref cu] S Q := by
  refine callW_at (fd := ⟨1, 1, b12⟩) rfl rfl ?_
  show wB _ b12 [some (.ref cu)] _ _
  unfold b12
  walk_at "wp"
  refine ⟨by decide, ?_⟩
  refine some_lst cM.s0 cM.r0 hS (show 0 < 5 by decide) (show 5 < 1073741824 by decide) fun d x y hd => ⟨by decide, ?_⟩
  refine some_lst cM.s0 cM.r0 Sto.put_same (show 0 < 6 by decide) (show 6 < 1073741824 by decide) fun e x y he => ?_
  rw [put_put]
  obtain ⟨i, rfl, hi⟩ : ∃ i : Int, d = .int i ∧ 0 ≤ i ∧ i < 10 ^ 10 := by
    simp only [List.mem_cons, List.mem_nil_iff, or_false] at hd
    rcases hd with rfl | rfl | rfl | rfl | rfl <;> exact ⟨_, rfl, by decide, by decide⟩
  obtain ⟨j, rfl, hj⟩ : ∃ i : Int, e = .int i ∧ 0 ≤ i ∧ i < 10 ^ 10 := by
    simp only [List.mem_cons, List.mem_nil_iff, or_false] at he
    rcases he with rfl | rfl | rfl | rfl | rfl | rfl <;> exact ⟨_, rfl, by decide, by decide⟩
  exact ⟨by decide, rt_of (q i j x y hi hj)⟩
theorem lleaf_ok {k : Nat} {cu : Addr} {S : Sto} {x y : Int} {Q : WQ} (hS : S cu = some (cupO x y)) (q : ∀ d x' y', Leaf d → Q d (S.put cu (cupO x' y'))) : callW T (k + 4) 15 [.ref cu] S Q := by
  refine callW_at (fd := ⟨1, 2, b15⟩) rfl rfl ?_
  show wB _ b15 [some (.ref cu), none] _ _
  unfold b15
  walk_at "wp"
  refine roll_ok cM.r0 hS (by decide) (by decide) fun w x y hw0 hw1 => ?_
  walk_at "wp"
  by_cases h3 : w < 3
  · rw [if_pos h3]
    refine ⟨by decide, ?_⟩
    refine some_lst cM.s0 cM.r0 Sto.put_same (show 0 < 6 by decide) (show 6 < 1073741824 by decide) fun d x y hd => ?_
    obtain ⟨f, rfl, hf⟩ := of_strs (l := FI) hd
    refine word_ok cM Sto.put_same fun z x y hz => ?_
    refine roll_ok cM.r0 Sto.put_same (by decide) (by decide) fun v x y hv0 hv1 => ?_
    walk_at "wp"
    rw [put_put, put_put, put_put]
    exact ⟨by decide, rt_of (q _ x y (.inl ⟨f, z, _, rfl, hf, hz⟩))⟩
  rw [if_neg h3]
  by_cases h4 : w = 3
  · rw [if_pos h4]
    refine ⟨by decide, ?_⟩
    refine some_lst cM.s0 cM.r0 Sto.put_same (show 0 < 2 by decide) (show 2 < 1073741824 by decide) fun d x y hd => ⟨by decide, ?_⟩
    obtain ⟨f, rfl, hf⟩ := of_strs (l := ["has", "lacks"]) hd
    refine some_lst cM.s0 cM.r0 Sto.put_same (show 0 < 6 by decide) (show 6 < 1073741824 by decide) fun e x y he => ?_
    obtain ⟨z, rfl, hz⟩ := of_strs (l := ["a", "d", "f", "j", "s", "x"]) he
    rw [put_put, put_put]
    exact ⟨by decide, rt_of (q _ x y (.inr (.inl ⟨f, z, rfl, hf, hz⟩)))⟩
  rw [if_neg h4]
  by_cases h5 : w = 4
  · rw [if_pos h5]
    refine ⟨by decide, ?_⟩
    refine some_lst cM.s0 cM.r0 Sto.put_same (show 0 < 2 by decide) (show 2 < 1073741824 by decide) fun d x y hd => ?_
    obtain ⟨f, rfl, hf⟩ := of_strs (l := PD) hd
    refine key_ok (k := k) Sto.put_same fun i j x y hi hj => ⟨by decide, by decide, by decide, ?_⟩
    refine some_lst cM.s0 cM.r0 Sto.put_same (show 0 < 3 by decide) (show 3 < 1073741824 by decide) fun e x y he => ?_
    rw [put_put, put_put, put_put]
    refine ⟨by decide, rt_of (q _ x y (.inr (.inr (.inl ?_))))⟩
    simp only [List.mem_cons, List.mem_nil_iff, or_false] at he
    rcases he with rfl | rfl | rfl
    · exact ⟨f, i, j, rfl, hf, hi, hj⟩
    · exact ⟨f, _, _, rfl, hf, ⟨by decide, by decide⟩, by decide, by decide⟩
    · exact ⟨f, _, _, rfl, hf, ⟨by decide, by decide⟩, by decide, by decide⟩
  rw [if_neg h5]
  by_cases h6 : w = 5
  · rw [if_pos h6]
    refine roll_ok cM.r0 Sto.put_same (by decide) (by decide) fun v x y hv0 hv1 => ⟨by decide, ?_⟩
    refine some_lst cM.s0 cM.r0 Sto.put_same (show 0 < 5 by decide) (show 5 < 1073741824 by decide) fun e x y he => ?_
    rw [put_put, put_put]
    refine ⟨by decide, rt_of (q _ x y (.inr (.inr (.inr (.inl ?_)))))⟩
    have hy : ("young" : Str) ∈ ([("young" : Str), "least"] : List Str) := List.mem_cons_self
    simp only [List.mem_cons, List.mem_nil_iff, or_false] at he
    rcases he with rfl | rfl | rfl | rfl | rfl
    all_goals exact ⟨_, _, rfl, hy, by omega, by omega⟩
  rw [if_neg h6]
  by_cases h7 : w = 6
  · rw [if_pos h7]
    refine ⟨by decide, ?_⟩
    refine some_lst cM.s0 cM.r0 Sto.put_same (show 0 < 4 by decide) (show 4 < 1073741824 by decide) fun e x y he => ?_
    rw [put_put]
    refine ⟨by decide, rt_of (q _ x y (.inr (.inr (.inr (.inl ?_)))))⟩
    have hy : ("least" : Str) ∈ ([("young" : Str), "least"] : List Str) := List.mem_cons_of_mem _ List.mem_cons_self
    simp only [List.mem_cons, List.mem_nil_iff, or_false] at he
    rcases he with rfl | rfl | rfl | rfl
    all_goals exact ⟨_, _, rfl, hy, by omega, by omega⟩
  rw [if_neg h7]
  refine ⟨by decide, ?_⟩
  refine some_lst cM.s0 cM.r0 Sto.put_same (show 0 < 2 by decide) (show 2 < 1073741824 by decide) fun e x y he => ?_
  obtain ⟨f, rfl, hf⟩ := of_strs (l := PLA) he
  rw [put_put]
  exact ⟨by decide, rt_of (q _ x y (.inr (.inr (.inr (.inr ⟨f, rfl, hf⟩)))))⟩
def Gd (l a : Nat) (d : D) : Prop := ∃ p n, Both p n d ∧ p ≤ 2 + 2 * (l + a) ∧ n + 20 ≤ 60 * (2 * l + l * a)
theorem gd_leaf {l a : Nat} {d : D} (hl : 1 ≤ l) (h : Leaf d) : Gd l a d := by
  refine ⟨2, 40, leaf_both h, by omega, ?_⟩
  have : 0 ≤ l * a := Nat.zero_le _
  omega
theorem gd_one {l a : Nat} {d : D} {w : Str} (hw : w ∈ NT) (hl : 1 ≤ l) (hb : l ≤ 6 ∧ a ≤ 5) (h : Gd l a d) : Gd l (a + 1) (.tup [.str w, d]) := by
  obtain ⟨p, n, h, h1, h2⟩ := h
  have hb2 : l * a ≤ 6 * 5 := Nat.mul_le_mul hb.1 hb.2
  refine ⟨p + 2, n + 20, one_both hw h (by omega), by omega, ?_⟩
  rw [Nat.mul_succ]
  omega
theorem gd_two {l m a : Nat} {d e : D} {w : Str} (hw : w ∈ AO) (hl : 1 ≤ l) (hm : 1 ≤ m) (hb : l + m ≤ 6 ∧ a ≤ 6) (h : Gd l a d) (g : Gd m a e) : Gd (l + m) a (.tup [.str w, d, e]) := by
  obtain ⟨p, n, h, h1, h2⟩ := h
  obtain ⟨p', n', g, g1, g2⟩ := g
  have hb2 : l * a ≤ 6 * 6 := Nat.mul_le_mul (by omega) hb.2
  have hb3 : m * a ≤ 6 * 6 := Nat.mul_le_mul (by omega) hb.2
  refine ⟨max p p' + 2, n + n' + 20, two_both hw (h.le (by omega) (Nat.le_refl _)) (g.le (by omega) (Nat.le_refl _)) (by omega) (by omega), by omega, ?_⟩
  rw [Nat.add_mul]
  omega
def b16C : Bk := (.cons (.ite (.or (.cmp .Lt (.var 1) (.lit (.int 2))) (.cmp .Lt (.var 4) (.lit (.int 4)))) (.cons (.ret (.call 15 (.cons (.var 0) .nil)))
    .nil) .nil)
    (.cons (.asg (.nam 5) (.bin .Add (.lit (.int 1)) (.call 8 (.cons (.var 0) (.cons (.bin .Sub (.var 1) (.lit (.int 1))) .nil)))))
    (.cons (.ret (.tup (.cons (.call 9 (.cons (.var 0) (.cons (.frz (.dsp (.cons (.lit (.str "and")) (.cons (.lit (.str "or")) .nil)))) .nil))) (.cons (.call 16 (.cons (.var 0) (.cons (.var 5) (.cons (.var 2) (.cons (.var 3) .nil))))) (.cons (.call 16 (.cons (.var 0) (.cons (.bin .Sub (.var 1) (.var 5)) (.cons (.var 2) (.cons (.var 3) .nil))))) .nil)))))
    .nil)))
def b16B : Bk := (.cons (.ite (.and (.cmp .Eq (.var 4) (.lit (.int 2))) (.and (.cmp .Gt (.var 2) (.lit (.int 0))) (.cmp .Gt (.var 3) (.lit (.int 0))))) (.cons (.ret (.tup (.cons (.lit (.str "thread")) (.cons (.call 16 (.cons (.var 0) (.cons (.var 1) (.cons (.bin .Sub (.var 2) (.lit (.int 1))) (.cons (.bin .Sub (.var 3) (.lit (.int 1))) .nil))))) .nil))))
    .nil) .nil)
    b16C)
def b16A : Bk := (.cons (.ite (.and (.cmp .Lt (.var 4) (.lit (.int 2))) (.cmp .Gt (.var 2) (.lit (.int 0)))) (.cons (.ret (.tup (.cons (.lit (.str "not")) (.cons (.call 16 (.cons (.var 0) (.cons (.var 1) (.cons (.bin .Sub (.var 2) (.lit (.int 1))) (.cons (.var 3) .nil))))) .nil))))
    .nil) .nil)
    b16B)
theorem b16_eq : b16 = (.cons (.asg (.nam 4) (.call 8 (.cons (.var 0) (.cons (.lit (.int 7)) .nil))))
    b16A) := rfl
theorem test_ok {cu : Addr} : ∀ (m : Nat) {k l a th : Nat} {S : Sto} {x y : Int} {Q : WQ}, l + a ≤ m → 1 ≤ l → l ≤ 6 → a ≤ 6 → S cu = some (cupO x y) → (∀ d x' y', Gd l a d → Q d (S.put cu (cupO x' y'))) → callW T (k + 5 + m) 16 [.ref cu, .int (l : Int), .int (a : Int), .int (th : Int)] S Q := by
  intro m
  induction m with
  | zero => exact fun h1 h2 => by omega
  | succ m ih =>
    intro k l a th S x y Q hm hl hl6 ha6 hS q
    rw [show k + 5 + (m + 1) = (k + m + 5) + 1 by omega]
    refine callW_at (fd := ⟨4, 6, b16⟩) rfl rfl ?_
    show wB _ b16 [some (.ref cu), some (.int (l : Int)), some (.int (a : Int)), some (.int (th : Int)), none, none] _ _
    rw [b16_eq]
    walk_at "wp"
    refine roll_ok cM.r0 hS (by decide) (by decide) fun w x y hw0 hw1 => ?_
    have nt : ("not" : Str) ∈ NT := List.mem_cons_self
    have th' : ("thread" : Str) ∈ NT := List.mem_cons_of_mem _ List.mem_cons_self
    have C : wB (callW T (k + m + 5)) b16C [some (.ref cu), some (.int (l : Int)), some (.int (a : Int)), some (.int (th : Int)), some (.int w), none] (S.put cu (cupO x y)) ⟨fun _ S' => ∃ S2 : Sto, S2.le S' ∧ Q .non S2, fun d S' => ∃ S2 : Sto, S2.le S' ∧ Q d S2, fun _ _ => False, fun _ _ => False⟩ := by
      have lf : callW T (k + m + 5) 15 [D.ref cu] (S.put cu (cupO x y)) fun d S' => ∃ S2 : Sto, S2.le S' ∧ Q d S2 := by
        refine lleaf_ok (k := k + m + 1) Sto.put_same fun d x y hd => ?_
        rw [put_put]
        exact rt_of (q d x y (gd_leaf hl hd))
      unfold b16C
      walk_at "wp"
      by_cases h1 : (l : Int) < 2
      · rw [if_pos h1]
        exact lf
      rw [if_neg h1]
      by_cases h2 : w < 4
      · rw [if_pos h2]
        exact lf
      rw [if_neg h2]
      refine roll_ok (k := k + m + 4) cM.r0 Sto.put_same (by omega) (by omega) fun v x y hv0 hv1 => ?_
      walk_at "wp"
      refine ⟨by decide, ?_⟩
      refine some_lst (k := k + m + 3) cM.s0 cM.r0 Sto.put_same (show 0 < 2 by decide) (show 2 < 1073741824 by decide) fun d x y hd => ?_
      obtain ⟨f, rfl, hf⟩ := of_strs (l := AO) hd
      rw [put_put, put_put]
      rw [show (1 : Int) + v = ((1 + v.toNat : Nat) : Int) by omega]
      rw [show k + m + 5 = k + 5 + m by omega]
      refine ih (l := 1 + v.toNat) (by omega) (by omega) (by omega) ha6 Sto.put_same fun d1 x y h1 => ?_
      walk_at "wp"
      rw [put_put, show (l : Int) - ((1 + v.toNat : Nat) : Int) = ((l - (1 + v.toNat) : Nat) : Int) by omega]
      refine ih (l := l - (1 + v.toNat)) (by omega) (by omega) (by omega) ha6 Sto.put_same fun d2 x y h2 => ?_
      rw [put_put]
      have := gd_two hf (by omega) (by omega) (by omega) h1 h2
      rw [show 1 + v.toNat + (l - (1 + v.toNat)) = l by omega] at this
      exact ⟨by decide, rt_of (q _ x y this)⟩
    have B : wB (callW T (k + m + 5)) b16B [some (.ref cu), some (.int (l : Int)), some (.int (a : Int)), some (.int (th : Int)), some (.int w), none] (S.put cu (cupO x y)) ⟨fun _ S' => ∃ S2 : Sto, S2.le S' ∧ Q .non S2, fun d S' => ∃ S2 : Sto, S2.le S' ∧ Q d S2, fun _ _ => False, fun _ _ => False⟩ := by
      unfold b16B
      walk_at "wp"
      by_cases h1 : w = 2
      · rw [if_pos h1]
        by_cases h2 : (0 : Int) < (a : Int)
        · rw [if_pos h2]
          by_cases h3 : (0 : Int) < (th : Int)
          · rw [if_pos h3]
            obtain ⟨a', rfl⟩ : ∃ a', a = a' + 1 := ⟨a - 1, by omega⟩
            rw [show ((a' + 1 : Nat) : Int) - 1 = (a' : Int) by omega, show (th : Int) - 1 = ((th - 1 : Nat) : Int) by omega, show k + m + 5 = k + 5 + m by omega]
            refine ih (by omega) hl hl6 (by omega) Sto.put_same fun d x y hd => ?_
            rw [put_put]
            exact ⟨by decide, rt_of (q _ x y (gd_one th' hl ⟨hl6, by omega⟩ hd))⟩
          · rw [if_neg h3]
            exact C
        · rw [if_neg h2]
          exact C
      · rw [if_neg h1]
        exact C
    unfold b16A
    walk_at "wp"
    by_cases h1 : w < 2
    · rw [if_pos h1]
      by_cases h2 : (0 : Int) < (a : Int)
      · rw [if_pos h2]
        obtain ⟨a', rfl⟩ : ∃ a', a = a' + 1 := ⟨a - 1, by omega⟩
        rw [show ((a' + 1 : Nat) : Int) - 1 = (a' : Int) by omega, show k + m + 5 = k + 5 + m by omega]
        refine ih (by omega) hl hl6 (by omega) Sto.put_same fun d x y hd => ?_
        rw [put_put]
        exact ⟨by decide, rt_of (q _ x y (gd_one nt hl ⟨hl6, by omega⟩ hd))⟩
      · rw [if_neg h2]
        exact B
    · rw [if_neg h1]
      exact B
theorem thing_ok {k : Nat} {cu : Addr} {S : Sto} {x y : Int} {Q : WQ} (hS : S cu = some (cupO x y)) (q : ∀ d x' y', Both 26 3000 d → Q d (S.put cu (cupO x' y'))) : callW T (k + 18) 17 [.ref cu, .str "test"] S Q := by
  refine callW_at (fd := ⟨2, 2, b17⟩) rfl rfl ?_
  show wB _ b17 [some (.ref cu), some (.str "test")] _ _
  unfold b17
  walk_at "wp"
  rw [if_neg (by decide)]
  refine ⟨by decide, ?_⟩
  refine some_lst cM.s0 cM.r0 hS (show 0 < 3 by decide) (show 3 < 1073741824 by decide) fun d x y hd => ⟨by decide, ?_⟩
  refine some_lst cM.s0 cM.r0 Sto.put_same (show 0 < 2 by decide) (show 2 < 1073741824 by decide) fun e x y he => ?_
  rw [put_put]
  obtain ⟨l, rfl, hl0, hl⟩ : ∃ l : Nat, d = .int (l : Int) ∧ 1 ≤ l ∧ l ≤ 6 := by
    simp only [List.mem_cons, List.mem_nil_iff, or_false] at hd
    rcases hd with rfl | rfl | rfl
    · exact ⟨1, rfl, by decide, by decide⟩
    · exact ⟨3, rfl, by decide, by decide⟩
    · exact ⟨6, rfl, by decide, by decide⟩
  obtain ⟨a, rfl, ha⟩ : ∃ a : Nat, e = .int (a : Int) ∧ a ≤ 6 := by
    simp only [List.mem_cons, List.mem_nil_iff, or_false] at he
    rcases he with rfl | rfl
    · exact ⟨1, rfl, by decide⟩
    · exact ⟨6, rfl, by decide⟩
  refine test_ok 12 (k := k) (th := 2) (by omega) hl0 hl ha Sto.put_same fun d x y hd => ?_
  rw [put_put]
  obtain ⟨p, n, h, h1, h2⟩ := hd
  have : l * a ≤ 6 * 6 := Nat.mul_le_mul hl ha
  exact rt_of (q d x y (h.le (by omega) (by omega)))
/-! texts of mails -/
def Comp (d : D) (ws : List Str) : Prop := ((∃ zs : List Str, d = .tup (zs.map D.str) ∧ ws = zs) ∨ (d = .non ∧ ws = []) ∨ (∃ z, d = .str z ∧ ws = [z]) ∨ ∃ i : Int, d = .int i ∧ (0 ≤ i ∧ i < 10 ^ 10) ∧ ws = [Str.ofString (toString i)]) ∧ ws.length ≤ 12 ∧ ∀ w ∈ ws, Ok 10 w
abbrev FS : List Str := ["from", "to", "about", "own", "answers", "number", "body"]
def line (f : Str) (ws : List Str) : Str := Txt.join (Str.ofString " ") (f :: ws) ++ Str.ofString ";"
def linesOf (rows : List (Str × D × List Str)) : List Str := (rows.filter fun r => !r.2.2.isEmpty).map fun r => line r.1 r.2.2
structure Rows (xs : List D) (rows : List (Str × D × List Str)) : Prop where
  len : rows.length = 7
  f : rows.map (·.1) = FS
  d : rows.map (·.2.1) = xs
  c : ∀ r ∈ rows, Comp r.2.1 r.2.2
  fw : ∀ r ∈ rows, ∀ (k : Nat) (S : Sto) (Q : WQ), Q (.lst (r.2.2.map D.str)) S → callW T (k + 2) 1 [.tup xs, .str r.1] S Q
theorem fs_ok : ∀ f ∈ FS, Ok 10 f := fun f hf => by
  have : ∀ f ∈ FS, f.length ≤ 10 ∧ f.cps.toList.all (fun c => decide (c < 0x110000)) = true := by decide +kernel
  exact ⟨(this f hf).1, fun c hc => of_decide_eq_true (List.all_eq_true.mp (this f hf).2 c hc)⟩
theorem line_ok {f : Str} {ws : List Str} (hf : Ok 10 f) (hl : ws.length ≤ 12) (h : ∀ w ∈ ws, Ok 10 w) : Ok 150 (line f ws) := by
  have : Ok ((f :: ws).length * (10 + 1)) (Txt.join (Str.ofString " ") (f :: ws)) := join_ok (Ok.lit " " (by decide)) fun p hp => by
    rcases List.mem_cons.mp hp with rfl | hp
    · exact hf
    · exact h p hp
  refine Ok.le (Ok.app this (Ok.lit (n := 1) ";" (by decide))) ?_
  rw [List.length_cons]
  omega
theorem lines_ok {xs : List D} {rows : List (Str × D × List Str)} (R : Rows xs rows) : ∀ {rs : List (Str × D × List Str)}, (∀ r ∈ rs, r ∈ rows) → ∀ z ∈ linesOf rs, Ok 150 z := fun {rs} h z hz => by
  obtain ⟨r, hr, rfl⟩ := List.mem_map.mp hz
  have hm := h r (List.mem_filter.mp hr).1
  have hc := R.c r hm
  exact line_ok (fs_ok _ (by rw [← R.f]; exact List.mem_map_of_mem hm)) hc.2.1 hc.2.2
theorem lines_len (rs : List (Str × D × List Str)) : (linesOf rs).length ≤ rs.length := by
  unfold linesOf
  rw [List.length_map]
  exact List.length_filter_le _ _
theorem lines_snoc (rs : List (Str × D × List Str)) (r : Str × D × List Str) : linesOf (rs ++ [r]) = linesOf rs ++ (if r.2.2.isEmpty = true then [] else [line r.1 r.2.2]) := by
  unfold linesOf
  rw [List.filter_append, List.map_append]
  congr 1
  cases h : r.2.2.isEmpty
  · simp [List.filter_cons, h]
  · simp [List.filter_cons, h]
theorem tru_ref {S : Sto} {a : Addr} {xs : List D} (h : S a = some (.lst xs)) : truD S (.ref a) = some !xs.isEmpty := by
  show (match S a with | some (.lst xs) => some !xs.isEmpty | _ => none) = _
  rw [h]
theorem m_joinr {S : Sto} {a : Str} {p : Addr} {xs : List D} {ys : List Str} (h : S p = some (.lst xs)) (e : strsOf xs = some ys) (hl : (ys.map (·.length)).sum + ys.length * a.length ≤ 16777216) : mtD S .join (.str a) [.ref p] = some (.str (Txt.join a ys)) := by
  have e0 : seqD S (.ref p) = some xs := by
    show itemsD S (.ref p) = _
    exact it_ref h
  unfold mtD
  simp only [e0, Option.bind_some, e]
  rw [if_pos hl]
theorem sum_len {n : Nat} : ∀ {ys : List Str}, (∀ y ∈ ys, Ok n y) → (ys.map (·.length)).sum ≤ n * ys.length
  | [], _ => Nat.zero_le _
  | y :: ys, h => by
    rw [List.map_cons, List.sum_cons, List.length_cons, Nat.mul_succ]
    have := (h y List.mem_cons_self).1
    have := sum_len fun z hz => h z (List.mem_cons_of_mem y hz)
    omega
theorem emp_map (ws : List Str) : (ws.map D.str).isEmpty = ws.isEmpty := by cases ws <;> rfl
def mailS (rows : List (Str × D × List Str)) : Str := if (linesOf rows).isEmpty = true then Str.ofString "{}" else Str.ofString "{ " ++ Txt.join (Str.ofString " ") (linesOf rows) ++ Str.ofString " }"
theorem mail_len {xs : List D} {rows : List (Str × D × List Str)} (R : Rows xs rows) : Ok 1100 (Txt.join (Str.ofString " ") (linesOf rows)) := by
  have h := join_ok (m := 150) (sep := Str.ofString " ") (Ok.lit " " (by decide)) (lines_ok R (rs := rows) fun r h => h)
  refine h.le ?_
  have := lines_len rows
  have := R.len
  have : (linesOf rows).length * (150 + 1) ≤ 7 * 151 := Nat.mul_le_mul (by omega) (by decide)
  omega
theorem mailS_ok {xs : List D} {rows : List (Str × D × List Str)} (R : Rows xs rows) : Ok 1200 (mailS rows) := by
  unfold mailS
  split
  · exact Ok.lit "{}" (by decide)
  · exact Ok.le (Ok.app (Ok.app (Ok.lit (n := 2) "{ " (by decide)) (mail_len R)) (Ok.lit (n := 2) " }" (by decide))) (by decide)
theorem mail_p {xs : List D} {rows : List (Str × D × List Str)} (R : Rows xs rows) {k : Nat} {S : Sto} {Q : WQ} (q : Q (.str (mailS rows)) S) : callW T (k + 3) 2 [.tup xs] S Q := by
  refine callW_at (fd := ⟨1, 4, b2⟩) rfl rfl ?_
  show wB _ b2 [some (.tup xs), none, none, none] _ _
  unfold b2
  walk_at "wp"
  refine ⟨by decide, fun p hp => ?_⟩
  have e : ([.str "from", .str "to", .str "about", .str "own", .str "answers", .str "number", .str "body"] : List D) = rows.map fun r => D.str r.1 := by
    rw [show (rows.map fun r => D.str r.1) = (rows.map (·.1)).map D.str by rw [List.map_map]; rfl, R.f]
    rfl
  rw [e]
  refine for_pre (all := rows) (g := fun r => D.str r.1) (fun pr σ S' => ∃ s2 s3, σ = [some (.tup xs), some (.ref p), s2, s3] ∧ S' p = some (.lst ((linesOf pr).map D.str)) ∧ S.le S') (fun _ _ _ _ => trivial) (pre := []) rfl ⟨_, _, rfl, Sto.put_same, Sto.le_put hp⟩ ?_ ?_
  · rintro pr r re hal σ S' ⟨s2, s3, rfl, h1, h2⟩ E' nx - - -
    obtain ⟨hr, hpr, hpl⟩ := pre_mem hal
    have hc := R.c r hr
    have hf := fs_ok r.1 (by rw [← R.f]; exact List.mem_map_of_mem hr)
    unfold b2_1
    walk_at "wp"
    refine R.fw r hr k S' _ ?_
    walk_at "wp"
    rw [emp_map]
    have hll := lines_len pr
    cases hw : r.2.2.isEmpty with
    | true =>
      walk_at "wp"
      refine nx _ _ ⟨_, _, rfl, ?_, h2⟩
      rw [lines_snoc, if_pos hw, List.append_nil]
      exact h1
    | false =>
      walk_at "wp"
      rw [lstAt_ref h1]
      have hlen : (pr.length : Nat) < 7 := by rw [← R.len]; exact hpl
      have hsum := sum_len (n := 10) (ys := r.1 :: r.2.2) fun y hy => by
        rcases List.mem_cons.mp hy with rfl | hy
        · exact hf
        · exact hc.2.2 y hy
      have hw12 := hc.2.1
      have hj := line_ok hf hc.2.1 hc.2.2
      rw [show ([D.str r.1] ++ List.map D.str r.2.2) = (r.1 :: r.2.2).map D.str from rfl, m_join (strsOf_map _) (by rw [Lsp]; simp only [List.length_cons] at hsum ⊢; omega)]
      have hjl : (Txt.join (Str.ofString " ") (r.1 :: r.2.2)).length + 1 ≤ 150 := by
        have := hj.1
        unfold line at this
        rw [lap, Lsc] at this
        exact this
      walk_at "wp"
      refine ⟨by decide, by walk_at "sd", by rw [Lsc]; walk_at "sd", appS_ref h1 (by rw [List.length_map]; walk_at "sd") ?_⟩
      refine nx _ _ ⟨_, _, rfl, ?_, le_put2 h2 hp⟩
      rw [Sto.put_same, lines_snoc, if_neg (by rw [hw]; exact Bool.false_ne_true), List.map_append]
      rfl
  · rintro σ S' ⟨s2, s3, rfl, h1, h2⟩
    walk_at "wp"
    rw [tru_ref h1, emp_map]
    unfold mailS at q
    cases hw : (linesOf rows).isEmpty with
    | true =>
      rw [hw, if_pos rfl] at q
      walk_at "wp"
      exact rt_le h2 q
    | false =>
      rw [hw, if_neg Bool.false_ne_true] at q
      have hsum := sum_len (n := 150) (lines_ok R (rs := rows) fun r h => h)
      have := lines_len rows
      have := R.len
      have hj := (mail_len R).1
      walk_at "wp"
      rw [m_joinr h1 (strsOf_map _) (by rw [Lsp]; omega)]
      walk_at "wp"
      exact ⟨by walk_at "szs", by walk_at "szs", rt_le h2 q⟩
def b20_1T : Bk := (.cons (.asg (.nam 3) (.frz (.cat (.var 3) (.ite (.cmp .Gt (.fn .len (.cons (.var 5) .nil)) (.lit (.int 0))) (.frz (.dsp (.cons (.bin .Add (.mtd .join (.lit (.str " ")) (.cons (.frz (.cat (.frz (.dsp (.cons (.idx (.var 4) (.var 2)) .nil))) (.var 5))) .nil)) (.lit (.str ";"))) .nil))) (.frz (.dsp .nil))))))
    .nil)
theorem b20_1_eq : b20_1 = (.cons (.asg (.nam 5) (.ite (.val (.isi (.idx (.var 0) (.var 2)) "tuple")) (.frz (.lst (.idx (.var 0) (.var 2)))) (.ite (.cmp .Is (.idx (.var 0) (.var 2)) (.lit (.non))) (.frz (.dsp .nil)) (.frz (.dsp (.cons (.fn .str (.cons (.idx (.var 0) (.var 2)) .nil)) .nil))))))
    b20_1T) := rfl
theorem mail_l {xs : List D} {rows : List (Str × D × List Str)} (R : Rows xs rows) {k : Nat} {S : Sto} {Q : WQ} (q : Q (.str (mailS rows)) S) : callW T (k + 1) 20 [.tup xs, .str "mail"] S Q := by
  refine callW_at (fd := ⟨2, 6, b20⟩) rfl rfl ?_
  show wB _ b20 [some (.tup xs), some (.str "mail"), none, none, none, none] _ _
  unfold b20
  walk_at "wp"
  rw [if_neg (by decide)]
  refine ⟨by decide, by decide, by decide, by decide, ?_⟩
  generalize hfl : ([D.str (Str.ofString "from"), D.str (Str.ofString "to"), D.str (Str.ofString "about"), D.str (Str.ofString "own"), D.str (Str.ofString "answers"), D.str (Str.ofString "number"), D.str (Str.ofString "body")] : List D) = fl
  refine for_count (fun n σ S' => S' = S ∧ ∃ s2 s5, σ = [some (.tup xs), some (.str "mail"), s2, some (.lst ((linesOf (rows.take n)).map D.str)), some (.lst fl), s5]) (fun _ _ _ _ => trivial) (n := 0) ⟨rfl, none, none, ?_⟩ ?_ ?_
  · rw [List.take_zero]
    rfl
  · rintro i x hix σ S' ⟨rfl, s2, s5, rfl⟩ E' nx - - -
    rw [List.getElem?_map, Option.map_eq_some_iff] at hix
    obtain ⟨j, hj, rfl⟩ := hix
    have hi : i < 7 := by
      have := (List.getElem?_eq_some_iff.mp hj).1
      rw [List.length_range] at this
      exact this
    have hj2 : j = i := by
      rw [List.getElem?_range (by exact hi)] at hj
      injection hj with hj
      exact hj.symm
    subst hj2
    have hrl : j < rows.length := by rw [R.len]; exact hi
    have hr : rows[j] ∈ rows := List.getElem_mem hrl
    have hc := R.c _ hr
    have hf := fs_ok rows[j].1 (by rw [← R.f]; exact List.mem_map_of_mem hr)
    have hx : atI xs (0 + (j : Int)) = some rows[j].2.1 := by
      rw [Int.zero_add]
      refine atI_nat ?_
      rw [← R.d, List.getElem?_map, List.getElem?_eq_getElem hrl]
      rfl
    have hfx : atI fl (0 + (j : Int)) = some (.str rows[j].1) := by
      rw [Int.zero_add, ← hfl]
      show atI (FS.map D.str) (j : Int) = _
      refine atI_nat ?_
      rw [← R.f, List.map_map, List.getElem?_map, List.getElem?_eq_getElem hrl]
      rfl
    have htk : rows.take (0 + j + 1) = rows.take j ++ [rows[j]] := by
      rw [Nat.zero_add, List.take_succ, List.getElem?_eq_getElem hrl]
      rfl
    have hll := lines_len (rows.take j)
    have htl : (rows.take j).length ≤ 7 := by rw [List.length_take]; omega
    generalize rows[j] = r at *
    obtain ⟨f, d, ws⟩ := r
    dsimp only at hc hf hx hfx htk
    have fin : wB (callW T k) b20_1T [some (.tup xs), some (.str "mail"), some (.int (0 + (j : Int))), some (.lst ((linesOf (rows.take (0 + j))).map D.str)), some (.lst fl), some (.lst (ws.map D.str))] S' E' := by
      have hw12 := hc.2.1
      have hsn := lines_snoc (rows.take j) (f, d, ws)
      rw [← htk] at hsn
      dsimp only at hsn
      unfold b20_1T
      walk_at "wp"
      rw [show rows.take (0 + j) = rows.take j by rw [Nat.zero_add]]
      by_cases hw : (0 : Int) < (ws.length : Int)
      · rw [if_pos hw, hfx]
        have hwe : ws.isEmpty = false := by
          cases ws with
          | nil => exact absurd hw (by decide)
          | cons _ _ => rfl
        have hsum := sum_len (n := 10) (ys := f :: ws) fun y hy => by
          rcases List.mem_cons.mp hy with rfl | hy
          · exact hf
          · exact hc.2.2 y hy
        have hj := line_ok hf hc.2.1 hc.2.2
        have hjl : (Txt.join (Str.ofString " ") (f :: ws)).length + 1 ≤ 150 := by
          have := hj.1
          unfold line at this
          rw [lap, Lsc] at this
          exact this
        walk_at "wp"
        rw [show ([D.str f] ++ List.map D.str ws) = (f :: ws).map D.str from rfl, m_join (strsOf_map _) (by rw [Lsp]; simp only [List.length_cons] at hsum ⊢; omega)]
        walk_at "wp"
        refine ⟨by decide, by walk_at "sd", by rw [Lsc]; walk_at "sd", by decide, Nat.le_trans (show _ ≤ 20 by omega) (by decide), ?_⟩
        refine nx _ _ ⟨rfl, some (.int (0 + (j : Int))), some (.lst (ws.map D.str)), ?_⟩
        rw [hsn, hwe, if_neg Bool.false_ne_true, List.map_append]
        rfl
      · rw [if_neg hw]
        have hwe : ws.isEmpty = true := by
          cases ws with
          | nil => rfl
          | cons _ _ => exact absurd (by simp : (0 : Int) < ((_ :: _ : List Str).length : Int)) hw
        refine ⟨by decide, Nat.le_trans (show _ ≤ 20 by omega) (by decide), ?_⟩
        refine nx _ _ ⟨rfl, some (.int (0 + (j : Int))), some (.lst (ws.map D.str)), ?_⟩
        rw [hsn, hwe, if_pos rfl, List.append_nil, List.append_nil]
    rw [b20_1_eq]
    walk_at "wp"
    rw [hx]
    walk_at "wp"
    rcases hc.1 with ⟨zs, rfl, rfl⟩ | ⟨rfl, rfl⟩ | ⟨z, rfl, rfl⟩ | ⟨i, rfl, ⟨hi0, hi1⟩, rfl⟩
    · walk_at "wp"
      exact fin
    · walk_at "wp"
      exact ⟨by decide, fin⟩
    · walk_at "wp"
      rw [f_strs]
      walk_at "wp"
      exact ⟨by decide, fin⟩
    · walk_at "wp"
      exact ⟨log_small hi0 hi1, by decide, fin⟩
  · rintro σ S' ⟨rfl, s2, s5, rfl⟩
    walk_at "wp"
    rw [show rows.take (0 + (List.range (Int.toNat 7)).length) = rows by
      rw [Nat.zero_add, List.length_range]
      exact List.take_of_length_le (by rw [R.len]; decide)]
    unfold mailS at q
    have hl7 := lines_len rows
    have := R.len
    have hj := (mail_len R).1
    cases hw : (linesOf rows) with
    | nil =>
      rw [hw] at q
      rw [if_neg (by decide)]
      exact rt_of q
    | cons z0 zs =>
      have q : Q (.str (Str.ofString "{ " ++ Txt.join (Str.ofString " ") (linesOf rows) ++ Str.ofString " }")) S' := by
        rw [hw] at q ⊢
        exact q
      rw [← hw]
      rw [if_pos (by rw [hw, List.length_cons]; omega)]
      have hsum := sum_len (n := 150) (lines_ok R (rs := rows) fun r h => h)
      rw [m_join (strsOf_map _) (by rw [Lsp]; omega)]
      walk_at "wp"
      exact ⟨by walk_at "szs", by walk_at "szs", rt_of q⟩
/-! what the law draws -/
theorem wd_ok10 {z : Str} (h : Wd z) : Ok 10 z := (Ok.wd h).le (by decide)
theorem comp_wn {d : D} (h : WN d) : ∃ ws, Comp d ws ∧ (d = .non ∨ ∃ y, d = .str y) := by
  rcases h with rfl | ⟨z, rfl, hz⟩
  · exact ⟨[], ⟨.inr (.inl ⟨rfl, rfl⟩), by decide, by simp⟩, .inl rfl⟩
  · refine ⟨[z], ⟨.inr (.inr (.inl ⟨z, rfl, rfl⟩)), by simp, fun w hw => ?_⟩, .inr ⟨z, rfl⟩⟩
    rw [List.mem_singleton] at hw
    exact hw ▸ wd_ok10 hz
theorem comp_wds {n : Nat} {d : D} (h : Wds n d) (hn : n ≤ 12) : ∃ ws : List Str, Comp d ws ∧ d = .tup (ws.map D.str) := by
  obtain ⟨zs, rfl, hl, hz⟩ := h
  exact ⟨zs, ⟨.inl ⟨zs, rfl, rfl⟩, by omega, fun w hw => wd_ok10 (hz w hw)⟩, rfl⟩
theorem comp_nn {d : D} (h : NN d) : ∃ ws, Comp d ws := by
  rcases h with rfl | ⟨i, rfl, h0, h1⟩
  · exact ⟨[], .inr (.inl ⟨rfl, rfl⟩), by decide, by simp⟩
  · refine ⟨[Str.ofString (toString i)], .inr (.inr (.inr ⟨i, rfl, ⟨h0, by omega⟩, rfl⟩)), by simp, fun w hw => ?_⟩
    rw [List.mem_singleton] at hw
    exact hw ▸ ⟨len_int h0 (by omega), sok_lit _⟩
/-- the words of a field that is no number -/
theorem fw_ok {xs : List D} {f : Str} {j : Int} {d : D} {ws : List Str} (hn : f ≠ "number") (hk : List.lookup f [(Str.ofString "from", D.int 0), (Str.ofString "to", .int 1), (Str.ofString "about", .int 2), (Str.ofString "own", .int 3), (Str.ofString "answers", .int 4), (Str.ofString "body", .int 6)] = some (.int j)) (hx : atI xs j = some d)
    (h : Comp d ws) (hi : ∀ i, d ≠ .int i) (k : Nat) (S : Sto) (Q : WQ) (q : Q (.lst (ws.map D.str)) S) : callW T (k + 2) 1 [.tup xs, .str f] S Q := by
  refine callW_at (fd := ⟨2, 2, b1⟩) rfl rfl ?_
  show wB _ b1 [some (.tup xs), some (.str f)] _ _
  unfold b1
  walk_at "wp"
  rw [if_neg hn]
  refine callW_at (fd := ⟨2, 3, b0⟩) rfl rfl ?_
  show wB _ b0 [some (.tup xs), some (.str f), none] _ _
  unfold b0
  walk_at "wp"
  rw [hk]
  walk_at "wp"
  rw [hx]
  walk_at "wp"
  rcases h.1 with ⟨zs, rfl, rfl⟩ | ⟨rfl, rfl⟩ | ⟨z, rfl, rfl⟩ | ⟨i, rfl, -⟩
  · walk_at "wp"
    exact ⟨_, Sto.le_refl _, rt_of q⟩
  · walk_at "wp"
    exact ⟨by decide, _, Sto.le_refl _, rt_of q⟩
  · walk_at "wp"
    exact ⟨by decide, _, Sto.le_refl _, rt_of q⟩
  · exact absurd rfl (hi i)
theorem fn_ok {xs : List D} {d : D} {ws : List Str} (hx : atI xs 5 = some d) (hd : NN d) (h : Comp d ws) (k : Nat) (S : Sto) (Q : WQ) (q : Q (.lst (ws.map D.str)) S) : callW T (k + 2) 1 [.tup xs, .str "number"] S Q := by
  refine callW_at (fd := ⟨2, 2, b1⟩) rfl rfl ?_
  show wB _ b1 [some (.tup xs), some (.str "number")] _ _
  unfold b1
  walk_at "wp"
  rw [hx]
  walk_at "wp"
  rcases h.1 with ⟨zs, rfl, rfl⟩ | ⟨rfl, rfl⟩ | ⟨z, rfl, rfl⟩ | ⟨i, rfl, ⟨h0, h1⟩, rfl⟩
  · rcases hd with e | ⟨i, e, -⟩ <;> exact D.noConfusion e
  · walk_at "wp"
    exact ⟨by decide, rt_of q⟩
  · rcases hd with e | ⟨i, e, -⟩ <;> exact D.noConfusion e
  · walk_at "wp"
    exact ⟨log_small h0 h1, by decide, rt_of q⟩
theorem nn1 : ("from" : Str) ≠ "number" := by decide
theorem nn2 : ("to" : Str) ≠ "number" := by decide
theorem nn3 : ("about" : Str) ≠ "number" := by decide
theorem nn4 : ("own" : Str) ≠ "number" := by decide
theorem nn5 : ("answers" : Str) ≠ "number" := by decide
theorem nn6 : ("body" : Str) ≠ "number" := by decide
theorem comp_n0 : Comp .non [] := ⟨.inr (.inl ⟨rfl, rfl⟩), by decide, by simp⟩
theorem comp_t0 : Comp (.tup []) [] := ⟨.inl ⟨[], rfl, rfl⟩, by decide, by simp⟩
abbrev rows0 : List (Str × D × List Str) := [("from", .non, []), ("to", .tup [], []), ("about", .tup [], []), ("own", .non, []), ("answers", .tup [], []), ("number", .non, []), ("body", .tup [], [])]
theorem R0 : Rows [.non, .tup [], .tup [], .non, .tup [], .non, .tup []] rows0 := by
  refine ⟨rfl, rfl, rfl, fun r hr => ?_, fun r hr => ?_⟩
  · simp only [List.mem_cons, List.mem_nil_iff, or_false] at hr
    rcases hr with rfl | rfl | rfl | rfl | rfl | rfl | rfl <;> first | exact comp_n0 | exact comp_t0
  · simp only [List.mem_cons, List.mem_nil_iff, or_false] at hr
    rcases hr with rfl | rfl | rfl | rfl | rfl | rfl | rfl
    · exact fw_ok (j := 0) nn1 rfl rfl comp_n0 (fun i e => by cases e)
    · exact fw_ok (j := 1) nn2 rfl rfl comp_t0 (fun i e => by cases e)
    · exact fw_ok (j := 2) nn3 rfl rfl comp_t0 (fun i e => by cases e)
    · exact fw_ok (j := 3) nn4 rfl rfl comp_n0 (fun i e => by cases e)
    · exact fw_ok (j := 4) nn5 rfl rfl comp_t0 (fun i e => by cases e)
    · exact fn_ok rfl (.inl rfl) comp_n0
    · exact fw_ok (j := 6) nn6 rfl rfl comp_t0 (fun i e => by cases e)
theorem rows_of {a b c d e f g : D} (ha : WN a) (hb : Wds 4 b) (hc : Wds 4 c) (hd : WN d) (he : Wds 3 e) (hf : NN f) (hg : Wds 12 g) : ∃ rows, Rows [a, b, c, d, e, f, g] rows := by
  obtain ⟨wa, ca, na⟩ := comp_wn ha
  obtain ⟨wb, cb, nb⟩ := comp_wds hb (by decide)
  obtain ⟨wc, cc, nc⟩ := comp_wds hc (by decide)
  obtain ⟨wd, cd, nd⟩ := comp_wn hd
  obtain ⟨we, ce, ne⟩ := comp_wds he (by decide)
  obtain ⟨wf, cf⟩ := comp_nn hf
  obtain ⟨wg, cg, ng⟩ := comp_wds hg (by decide)
  have ni : ∀ {d : D}, (d = .non ∨ ∃ y, d = .str y) → ∀ i, d ≠ .int i := fun h i e => by
    rcases h with h | ⟨y, h⟩ <;> (rw [h] at e; cases e)
  have nt : ∀ {d : D} {ws : List Str}, d = .tup (ws.map D.str) → ∀ i, d ≠ .int i := fun h i e => by rw [h] at e; cases e
  refine ⟨[("from", a, wa), ("to", b, wb), ("about", c, wc), ("own", d, wd), ("answers", e, we), ("number", f, wf), ("body", g, wg)], rfl, rfl, rfl, fun r hr => ?_, fun r hr => ?_⟩
  · simp only [List.mem_cons, List.mem_nil_iff, or_false] at hr
    rcases hr with rfl | rfl | rfl | rfl | rfl | rfl | rfl <;> assumption
  · simp only [List.mem_cons, List.mem_nil_iff, or_false] at hr
    rcases hr with rfl | rfl | rfl | rfl | rfl | rfl | rfl
    · exact fw_ok (j := 0) nn1 rfl rfl ca (ni na)
    · exact fw_ok (j := 1) nn2 rfl rfl cb (nt nb)
    · exact fw_ok (j := 2) nn3 rfl rfl cc (nt nc)
    · exact fw_ok (j := 3) nn4 rfl rfl cd (ni nd)
    · exact fw_ok (j := 4) nn5 rfl rfl ce (nt ne)
    · exact fn_ok rfl hf cf
    · exact fw_ok (j := 6) nn6 rfl rfl cg (nt ng)
theorem like_ok {k : Nat} {S : Sto} {n w : Nat} {d : D} {Q : WQ} (h : Tell n w d) (hn : n ≤ 60) (hw : w ≤ 1000000) (q : Q (.bl true) S) : callW T (k + 1) 10 [d, d] S Q := by
  refine callW_at (fd := ⟨2, 2, b10⟩) rfl rfl ?_
  show wB _ b10 [some d, some d] _ _
  unfold b10
  walk_at "wp"
  rw [fn_repr h]
  walk_at "wp"
  exact rt_of q
theorem law_ok : LawOk fs 21 100 := by
  intro ns S hns
  refine callW_at (fd := ⟨1, 5, b21⟩) rfl rfl ?_
  show wB _ b21 [some (.scr ns), none, none, none, none] _ _
  unfold b21
  walk_at "wp"
  refine cup_ok (f := 7) rfl hns fun cu x y hcu => ?_
  refine ⟨by decide, by decide, ?_⟩
  refine for_inv (fun σ S' => ∃ s2 s3 s4 x y, σ = [some (.scr ns), some (.ref cu), s2, s3, s4] ∧ S' = S.put cu (cupO x y)) (fun _ _ _ => trivial) ⟨_, _, _, x, y, rfl, rfl⟩ ?_ ?_
  · rintro z hz σ S' ⟨s2, s3, s4, x, y, rfl, rfl⟩ E' nx - - -
    unfold b21_1
    walk_at "wp"
    refine mail_ok cM (k := 94) Sto.put_same fun a b c d e f g x y ha hb hc hd he hf hg => ?_
    rw [put_put]
    refine thing_ok (k := 81) Sto.put_same fun t x y ht => ?_
    rw [put_put]
    obtain ⟨rows, R⟩ := rows_of ha hb hc hd he hf hg
    refine mail_p (k := 96) R ?_
    refine mail_l (k := 98) R ?_
    refine like_ok (k := 98) (mailS_ok R).tell (by decide) (by decide) ?_
    walk_at "wp"
    obtain ⟨z, ht⟩ := ht
    have lz := ht.ok.1
    have p6 : ∀ (S : Sto) (Q : WQ), Q (.str (z ++ Str.ofString ";")) S → callW T 99 6 [t] S Q := fun S Q q => by
      refine callW_at (fd := ⟨1, 1, b6⟩) rfl rfl ?_
      show wB _ b6 [some t] _ _
      unfold b6
      walk_at "wp"
      refine ht.b5 72 S _ ?_
      walk_at "wp"
      exact ⟨by walk_at "szs", rt_of q⟩
    have p20 : ∀ (S : Sto) (Q : WQ), Q (.str (z ++ Str.ofString ";")) S → callW T 99 20 [t, .str "test"] S Q := fun S Q q => by
      refine callW_at (fd := ⟨2, 6, b20⟩) rfl rfl ?_
      show wB _ b20 [some t, some (.str "test"), none, none, none, none] _ _
      unfold b20
      walk_at "wp"
      refine ht.b19 72 S _ ?_
      walk_at "wp"
      exact ⟨by walk_at "szs", rt_of q⟩
    refine p6 _ _ ?_
    refine p20 _ _ ?_
    refine like_ok (k := 98) (Ok.app ht.ok (Ok.lit (n := 1) ";" (by decide))).tell (by decide) (by decide) ?_
    walk_at "wp"
    exact nx _ _ ⟨_, _, _, x, y, rfl, rfl⟩
  · rintro σ S' ⟨s2, s3, s4, x, y, rfl, rfl⟩
    walk_at "wp"
    refine ⟨by decide, by decide, by decide, by decide, by decide, ?_⟩
    refine mail_p (k := 96) R0 ?_
    rw [show mailS rows0 = Str.ofString "{}" from rfl]
    exact like_ok (k := 98) (Ok.lit (n := 2) "{}" (by decide)).tell (by decide) (by decide) ⟨_, Sto.le_refl _, rfl⟩
end K13
open PySem PySem.W PyProof.Rows
set_option maxHeartbeats 0 in
theorem PySem.Challenge.cw_mailhall_k13_printed_strings_holds : PySem.Challenge.rw_mailhall_k13_printed_strings.Holds := by
  w_on; o_law; k_head; (case hw => w_witness2)
  k_fill
  refine PL.walkG (l := PySem.Challenge.rw_mailhall_k13_printed_strings) (x := "script") (fs := K13.fs) (cs := K13.cs) (law := 21) (kk := 100) (f := K13.f21) rfl rfl ⟨rfl, by decide, by decide⟩ (fun w h Y => PySem.W.kIn_of Y) K13.ok rfl rfl rfl K13.law_ok ?F
  case F =>
    intro w mg fa h KX G hmg
    refine' ⟨?fn, ?bi, ?cs, ?ks⟩
    case ks =>
      refine' PL.all_cons (PL.ks_mk KX G ?kx0 ?kl0 ?kk0 ?kw0 ?kf0) ?kr0
      (case kx0 => k_is); (case kl0 => k_is)
      (case kk0 => repeat' first | exact trivial | refine ⟨⟨_, _, rfl, rfl⟩, ?_⟩)
      (case kw0 => rfl)
      (case kf0 =>
        refine' PL.en_cons rfl ?kb0_0 ?kc0_0
        (case kb0_0 =>
          exact PL.wr_int _ _)
        refine' PL.en_cons rfl ?kb0_1 ?kc0_1
        (case kb0_1 =>
          exact PL.wr_int _ _)
        refine' PL.en_cons rfl ?kb0_2 ?kc0_2
        (case kb0_2 =>
          exact PL.wr_int _ _)
        refine' PL.en_cons rfl ?kb0_3 ?kc0_3
        (case kb0_3 =>
          exact PL.wr_int _ _)
        refine' PL.en_cons rfl ?kb0_4 ?kc0_4
        (case kb0_4 =>
          exact PL.wr_int _ _)
        refine' PL.en_cons rfl ?kb0_5 ?kc0_5
        (case kb0_5 =>
          exact PL.wr_int _ _)
        exact PL.Ents.nil)
      refine' PL.all_cons (PL.ks_mk KX G ?kx1 ?kl1 ?kk1 ?kw1 ?kf1) ?kr1
      (case kx1 => k_is); (case kl1 => k_is)
      (case kk1 => repeat' first | exact trivial | refine ⟨⟨_, _, rfl, rfl⟩, ?_⟩)
      (case kw1 => rfl)
      (case kf1 =>
        refine' PL.en_cons rfl ?kb1_0 ?kc1_0
        (case kb1_0 =>
          exact PL.wr_int _ _)
        refine' PL.en_cons rfl ?kb1_1 ?kc1_1
        (case kb1_1 =>
          exact PL.wr_int _ _)
        exact PL.Ents.nil)
      exact PL.all_nil
    case bi =>
      refine' PL.all_cons (PL.bi_mk KX G ?b0) (PL.all_cons (PL.bi_mk KX G ?b1) (PL.all_cons (PL.bi_mk KX G ?b2) (PL.all_cons (PL.bi_mk KX G ?b3) (PL.all_cons (PL.bi_mk KX G ?b4) (PL.all_cons (PL.bi_mk KX G ?b5) (PL.all_cons (PL.bi_mk KX G ?b6) (PL.all_cons (PL.bi_mk KX G ?b7) (PL.all_cons (PL.bi_mk KX G ?b8) (PL.all_cons (PL.bi_mk KX G ?b9) (PL.all_cons (PL.bi_mk KX G ?b10) (PL.all_cons (PL.bi_mk KX G ?b11) (PL.all_cons (PL.bi_mk KX G ?b12) (PL.all_cons (PL.bi_mk KX G ?b13) (PL.all_cons (PL.bi_mk KX G ?b14) (PL.all_nil)))))))))))))))
      all_goals k_is
    case cs =>
      refine' PL.all_cons (PL.cs_wr KX G ?cx0 ?cw0) ?cr0
      (case cx0 => k_is)
      (case cw0 =>
        refine' PL.wr_tup ?wl1 ?wt1 ?wz1
        (case wl1 => k_is)
        (case wt1 =>
          refine' PL.WrDs.cons ?wx1_0 ?wr1_0
          (case wx1_0 =>
            exact PL.wr_str _ _)
          refine' PL.WrDs.cons ?wx1_1 ?wr1_1
          (case wx1_1 =>
            exact PL.wr_str _ _)
          refine' PL.WrDs.cons ?wx1_2 ?wr1_2
          (case wx1_2 =>
            exact PL.wr_str _ _)
          refine' PL.WrDs.cons ?wx1_3 ?wr1_3
          (case wx1_3 =>
            exact PL.wr_str _ _)
          refine' PL.WrDs.cons ?wx1_4 ?wr1_4
          (case wx1_4 =>
            exact PL.wr_str _ _)
          refine' PL.WrDs.cons ?wx1_5 ?wr1_5
          (case wx1_5 =>
            exact PL.wr_str _ _)
          refine' PL.WrDs.cons ?wx1_6 ?wr1_6
          (case wx1_6 =>
            exact PL.wr_str _ _)
          exact PL.WrDs.nil)
        (case wz1 => exact (by decide)))
      refine' PL.all_cons (PL.cs_wr KX G ?cx1 ?cw1) ?cr1
      (case cx1 => k_is)
      (case cw1 =>
        refine' PL.wr_tup ?wl2 ?wt2 ?wz2
        (case wl2 => k_is)
        (case wt2 =>
          refine' PL.WrDs.cons ?wx2_0 ?wr2_0
          (case wx2_0 =>
            exact PL.wr_str _ _)
          refine' PL.WrDs.cons ?wx2_1 ?wr2_1
          (case wx2_1 =>
            exact PL.wr_str _ _)
          refine' PL.WrDs.cons ?wx2_2 ?wr2_2
          (case wx2_2 =>
            exact PL.wr_str _ _)
          refine' PL.WrDs.cons ?wx2_3 ?wr2_3
          (case wx2_3 =>
            exact PL.wr_str _ _)
          refine' PL.WrDs.cons ?wx2_4 ?wr2_4
          (case wx2_4 =>
            exact PL.wr_str _ _)
          refine' PL.WrDs.cons ?wx2_5 ?wr2_5
          (case wx2_5 =>
            exact PL.wr_str _ _)
          exact PL.WrDs.nil)
        (case wz2 => exact (by decide)))
      refine' PL.all_cons (PL.cs_wr KX G ?cx2 ?cw2) ?cr2
      (case cx2 => k_is)
      (case cw2 =>
        refine' PL.wr_tup ?wl3 ?wt3 ?wz3
        (case wl3 => k_is)
        (case wt3 =>
          refine' PL.WrDs.cons ?wx3_0 ?wr3_0
          (case wx3_0 =>
            exact PL.wr_str _ _)
          refine' PL.WrDs.cons ?wx3_1 ?wr3_1
          (case wx3_1 =>
            exact PL.wr_str _ _)
          exact PL.WrDs.nil)
        (case wz3 => exact (by decide)))
      refine' PL.all_cons (PL.cs_wr KX G ?cx3 ?cw3) ?cr3
      (case cx3 => k_is)
      (case cw3 =>
        refine' PL.wr_tup ?wl4 ?wt4 ?wz4
        (case wl4 => k_is)
        (case wt4 =>
          refine' PL.WrDs.cons ?wx4_0 ?wr4_0
          (case wx4_0 =>
            exact PL.wr_str _ _)
          refine' PL.WrDs.cons ?wx4_1 ?wr4_1
          (case wx4_1 =>
            exact PL.wr_str _ _)
          exact PL.WrDs.nil)
        (case wz4 => exact (by decide)))
      refine' PL.all_cons (PL.cs_wr KX G ?cx4 ?cw4) ?cr4
      (case cx4 => k_is)
      (case cw4 =>
        exact PL.wr_int _ _)
      exact PL.all_nil
    case fn =>
      refine' PL.all_cons (PL.ff_mk (f := K13.f0) KX G ?fa0 ?fl0 ?fc0 ?fk0 fun _ _ _ _ _ _ us hl => match us, hl with | [_, _], _ => rfl) ?fr0
      (case fa0 => k_is); (case fl0 => k_is); (case fc0 => k_is); (case fk0 => k_is)
      refine' PL.all_cons (PL.ff_mk (f := K13.f1) KX G ?fa1 ?fl1 ?fc1 ?fk1 fun _ _ _ _ _ _ us hl => match us, hl with | [_, _], _ => rfl) ?fr1
      (case fa1 => k_is); (case fl1 => k_is); (case fc1 => k_is); (case fk1 => k_is)
      refine' PL.all_cons (PL.ff_mk (f := K13.f2) KX G ?fa2 ?fl2 ?fc2 ?fk2 fun _ _ _ _ _ _ us hl => match us, hl with | [_], _ => rfl) ?fr2
      (case fa2 => k_is); (case fl2 => k_is); (case fc2 => k_is); (case fk2 => k_is)
      refine' PL.all_cons (PL.ff_mk (f := K13.f3) KX G ?fa3 ?fl3 ?fc3 ?fk3 fun _ _ _ _ _ _ us hl => match us, hl with | [_, _], _ => rfl) ?fr3
      (case fa3 => k_is); (case fl3 => k_is); (case fc3 => k_is); (case fk3 => k_is)
      refine' PL.all_cons (PL.ff_mk (f := K13.f4) KX G ?fa4 ?fl4 ?fc4 ?fk4 fun _ _ _ _ _ _ us hl => match us, hl with | [_], _ => rfl) ?fr4
      (case fa4 => k_is); (case fl4 => k_is); (case fc4 => k_is); (case fk4 => k_is)
      refine' PL.all_cons (PL.ff_mk (f := K13.f5) KX G ?fa5 ?fl5 ?fc5 ?fk5 fun _ _ _ _ _ _ us hl => match us, hl with | [_], _ => rfl) ?fr5
      (case fa5 => k_is); (case fl5 => k_is); (case fc5 => k_is); (case fk5 => k_is)
      refine' PL.all_cons (PL.ff_mk (f := K13.f6) KX G ?fa6 ?fl6 ?fc6 ?fk6 fun _ _ _ _ _ _ us hl => match us, hl with | [_], _ => rfl) ?fr6
      (case fa6 => k_is); (case fl6 => k_is); (case fc6 => k_is); (case fk6 => k_is)
      refine' PL.all_cons (PL.ff_mk (f := K13.f7) KX G ?fa7 ?fl7 ?fc7 ?fk7 fun _ _ _ _ _ _ us hl => match us, hl with | [_], _ => rfl) ?fr7
      (case fa7 => k_is); (case fl7 => k_is); (case fc7 => k_is); (case fk7 => k_is)
      refine' PL.all_cons (PL.ff_mk (f := K13.f8) KX G ?fa8 ?fl8 ?fc8 ?fk8 fun _ _ _ _ _ _ us hl => match us, hl with | [_, _], _ => rfl) ?fr8
      (case fa8 => k_is); (case fl8 => k_is); (case fc8 => k_is); (case fk8 => k_is)
      refine' PL.all_cons (PL.ff_mk (f := K13.f9) KX G ?fa9 ?fl9 ?fc9 ?fk9 fun _ _ _ _ _ _ us hl => match us, hl with | [_, _], _ => rfl) ?fr9
      (case fa9 => k_is); (case fl9 => k_is); (case fc9 => k_is); (case fk9 => k_is)
      refine' PL.all_cons (PL.ff_mk (f := K13.f10) KX G ?fa10 ?fl10 ?fc10 ?fk10 fun _ _ _ _ _ _ us hl => match us, hl with | [_, _], _ => rfl) ?fr10
      (case fa10 => k_is); (case fl10 => k_is); (case fc10 => k_is); (case fk10 => k_is)
      refine' PL.all_cons (PL.ff_mk (f := K13.f11) KX G ?fa11 ?fl11 ?fc11 ?fk11 fun _ _ _ _ _ _ us hl => match us, hl with | [_], _ => rfl) ?fr11
      (case fa11 => k_is); (case fl11 => k_is); (case fc11 => k_is); (case fk11 => k_is)
      refine' PL.all_cons (PL.ff_mk (f := K13.f12) KX G ?fa12 ?fl12 ?fc12 ?fk12 fun _ _ _ _ _ _ us hl => match us, hl with | [_], _ => rfl) ?fr12
      (case fa12 => k_is); (case fl12 => k_is); (case fc12 => k_is); (case fk12 => k_is)
      refine' PL.all_cons (PL.ff_mk (f := K13.f13) KX G ?fa13 ?fl13 ?fc13 ?fk13 fun _ _ _ _ _ _ us hl => match us, hl with | [_, _], _ => rfl) ?fr13
      (case fa13 => k_is); (case fl13 => k_is); (case fc13 => k_is); (case fk13 => k_is)
      refine' PL.all_cons (PL.ff_mk (f := K13.f14) KX G ?fa14 ?fl14 ?fc14 ?fk14 fun _ _ _ _ _ _ us hl => match us, hl with | [_], _ => rfl) ?fr14
      (case fa14 => k_is); (case fl14 => k_is); (case fc14 => k_is); (case fk14 => k_is)
      refine' PL.all_cons (PL.ff_mk (f := K13.f15) KX G ?fa15 ?fl15 ?fc15 ?fk15 fun _ _ _ _ _ _ us hl => match us, hl with | [_], _ => rfl) ?fr15
      (case fa15 => k_is); (case fl15 => k_is); (case fc15 => k_is); (case fk15 => k_is)
      refine' PL.all_cons (PL.ff_mk (f := K13.f16) KX G ?fa16 ?fl16 ?fc16 ?fk16 fun _ _ _ _ _ _ us hl => match us, hl with | [_, _, _, _], _ => rfl) ?fr16
      (case fa16 => k_is); (case fl16 => k_is); (case fc16 => k_is); (case fk16 => k_is)
      refine' PL.all_cons (PL.ff_mk (f := K13.f17) KX G ?fa17 ?fl17 ?fc17 ?fk17 fun _ _ _ _ _ _ us hl => match us, hl with | [_, _], _ => rfl) ?fr17
      (case fa17 => k_is); (case fl17 => k_is); (case fc17 => k_is); (case fk17 => k_is)
      refine' PL.all_cons (PL.ff_mk (f := K13.f18) KX G ?fa18 ?fl18 ?fc18 ?fk18 fun _ _ _ _ _ _ us hl => match us, hl with | [_, _], _ => rfl) ?fr18
      (case fa18 => k_is); (case fl18 => k_is); (case fc18 => k_is); (case fk18 => k_is)
      refine' PL.all_cons (PL.ff_mk (f := K13.f19) KX G ?fa19 ?fl19 ?fc19 ?fk19 fun _ _ _ _ _ _ us hl => match us, hl with | [_], _ => rfl) ?fr19
      (case fa19 => k_is); (case fl19 => k_is); (case fc19 => k_is); (case fk19 => k_is)
      refine' PL.all_cons (PL.ff_mk (f := K13.f20) KX G ?fa20 ?fl20 ?fc20 ?fk20 fun _ _ _ _ _ _ us hl => match us, hl with | [_, _], _ => rfl) ?fr20
      (case fa20 => k_is); (case fl20 => k_is); (case fc20 => k_is); (case fk20 => k_is)
      refine' PL.all_cons (PL.ff_mk (f := K13.f21) KX G ?fa21 ?fl21 ?fc21 ?fk21 fun _ _ _ _ _ _ us hl => match us, hl with | [_], _ => rfl) ?fr21
      (case fa21 => k_is); (case fl21 => k_is); (case fc21 => k_is); (case fk21 => k_is)
      exact PL.all_nil
