import PyProof.Rows.All
import Wide.All
import OpenK.AllK
import Wide.FinOn
import HandS.ForMost
import HandS.TupAny
import HandS.TupMul
import HandS.Wide
import HandS.WideMore
import HandS.Deep
import HandS.IsInst
import HandS.Flow
import HandS.Style
import HandS.SortInts
import HandS.Conv
import HandS.Zip
import KE.GoesEnum
import HandS.NoneIn
import HandS.Ends
import HandS.More
import HandS.Words
import HandS.WordsExc
import HandS.Defaults
import HandS.Head0
import HandS.Head1
import HandS.Head2
import HandS.HeadEnd
import HandS.HeadHook1
import HandS.HeadHook2
import KE.KStateDown
import Lean
import PySem.Challenge.RW_rodsandbeads_k06_quarter_squares_and_tri
set_option Elab.async false
set_option linter.all false
/-! KA: a small plain language (expressions, statements over slots), run over plain data. -/
namespace KX
open PySem L2

abbrev D := PyData
/-- a slot: nothing yet; a value (never changed); a list of one's own; a list that was handed in to be changed -/
inductive Sl where | un | v (d : D) | o (xs : List D) | io (xs : List D)
/-- a result: a value; a new list that nobody else holds -/
inductive Rs where | v (d : D) | o (xs : List D)
def Rs.d : Rs → D | .v d => d | .o xs => .list xs
def Rs.sl : Rs → Sl | .v d => .v d | .o xs => .o xs
abbrev Ev := List Sl
abbrev CT := Nat → List Sl → Option (Rs × List Sl)

inductive BOp where | add | sub | mul | fdiv | mod | shl | shr
  deriving DecidableEq
inductive COp where | lt | le | gt | ge | eq | ne | is_ | isn | inn | nin
  deriving DecidableEq
inductive B1 where | len | abs | int | sum | all | any | tup | lst | sorted | max | min | str
  deriving DecidableEq
inductive B2 where | max | min
  deriving DecidableEq
inductive M1 where | count | join | index
  deriving DecidableEq
inductive Ty where | int | bool | str | tuple | list
  deriving DecidableEq

mutual
inductive E where
  | con (d : D)
  | var (i : Nat)
  | glo (x : Str) (d : D)
  | bin (op : BOp) (a b : E)
  | neg (a : E)
  | not (a : E) | and (a b : E) | or (a b : E)
  | ite (c a b : E)
  | cmp (op : COp) (a b : E)
  | chain (p q : COp) (a b c : E)
  | chain3 (p q r : COp) (a b c d : E)
  | tup (es : Es) | lst (es : Es) | rep (es : Es) (n : E)
  | idx (a i : E)
  | slice (a : E) (lo hi : O)
  | rev (a : E)
  | call (f : Nat) (as : As) (dv : List D)
  | b1 (f : B1) (a : E)
  | b2 (f : B2) (a b : E)
  | m1 (f : M1) (a b : E)
  | isI (a : E) (t : Ty)
  | lrng (tup : Bool) (it : It)
  | comp (elt : E) (tg : Tg) (it : It) (cond : O) (own : List Nat)
inductive Es where | nil | cons (e : E) (es : Es)
inductive As where | nil | val (e : E) (as : As) | io (i : Nat) (as : As)
inductive O where | none | some (e : E)
inductive It where | seq (e : E) | r1 (a : E) | r2 (a b : E) | r3 (a b c : E) | enm (e : E) | zip (a b : E) | zip3 (a b c : E)
inductive Tg where | nm (i : Nat) | tup (ts : Tgs)
inductive Tgs where | nil | cons (t : Tg) (ts : Tgs)
end
mutual
def Tg.slots : Tg → List Nat
  | .nm i => [i]
  | .tup ts => ts.slots
def Tgs.slots : Tgs → List Nat
  | .nil => []
  | .cons t ts => t.slots ++ ts.slots
end
inductive Ta where | nm (i : Nat) | sub (i : Nat) (ix : E)
mutual
inductive S where
  | asg (i : Nat) (e : E)
  | par (is : List Nat) (es : Es)
  | stp (ts : List Ta) (es : Es)
  | unp (t : Tg) (e : E)
  | aug (i : Nat) (op : BOp) (e : E)
  | st (i : Nat) (ix e : E)
  | augS (i : Nat) (ix : E) (op : BOp) (e : E)
  | app (i : Nat) (e : E) | ext (i : Nat) (e : E)
  | expr (e : E)
  | ite (c : E) (a b : Ss) | whl (c : E) (b : Ss) | for_ (t : Tg) (it : It) (b : Ss)
  | ret (e : E) | retN | pass | brk | cont | raise
inductive Ss where | nil | cons (s : S) (ss : Ss)
end

/-! ### values -/
def big : Nat := 2 ^ 4000
theorem big_ge : 2 ^ 250 ≤ big := by unfold big; exact Nat.pow_le_pow_right (by decide) (by decide)
theorem lt_big {a : Nat} (h : a < 2 ^ 250) : a < big := Nat.lt_of_lt_of_le h big_ge
def mulOk (a b : Int) : Bool := decide (a.natAbs < 2 ^ 64) || decide (b.natAbs < 2 ^ 64) || (decide (a.natAbs < big) && decide (b.natAbs < big))
def binD : BOp → D → D → Option D
  | .add, .int a, .int b => some (.int (a + b))
  | .add, .str a, .str b => if a.length + b.length ≤ sizeLine then some (.str (a ++ b)) else none
  | .add, .tuple a, .tuple b => if a.length + b.length ≤ sizeLine then some (.tuple (a ++ b)) else none
  | .sub, .int a, .int b => some (.int (a - b))
  | .mul, .int a, .int b => if mulOk a b then some (.int (a * b)) else none
  | .mul, .tuple a, .int k => if a.isEmpty = false ∧ 2 ≤ k ∧ k ≤ 1000 ∧ a.length ≤ 1000 then some (.tuple (List.replicate k.toNat a).flatten) else none
  | .fdiv, .int a, .int b => if 0 < b ∧ b.natAbs < big then some (.int (a / b)) else if b ≠ 0 ∧ b.natAbs < 2 ^ 29 then some (.int (a.fdiv b)) else none
  | .mod, .int a, .int b => if 0 < b then some (.int (a % b)) else if b ≠ 0 then some (.int (a.fmod b)) else none
  | .shl, .int a, .int b => if 0 ≤ b ∧ b ≤ 1000000 ∧ a.natAbs < 2 ^ 64 then some (.int (a * 2 ^ b.toNat)) else none
  | .shr, .int a, .int b => if 0 ≤ b then some (.int (a / 2 ^ b.toNat)) else none
  | _, _, _ => none
/-- lists give a new list -/
def binR : BOp → D → D → Option Rs
  | .add, .list a, .list b => if a.length + b.length ≤ sizeLine then some (.o (a ++ b)) else none
  | op, a, b => (binD op a b).map .v
/-- a display times a number -/
def repR (xs : List D) : D → Option Rs
  | .int k => if -(2 ^ 63) ≤ k ∧ k < 2 ^ 63 ∧ xs.length * k.toNat ≤ sizeLine then some (.o (List.replicate k.toNat xs).flatten) else none
  | _ => none
def eqD (a b : D) : Option Bool := if SeqAt.shaped a = true ∧ SeqAt.shaped b = true then some (PyData.eqv a b) else none
def flat : D → Bool
  | .none | .bool _ | .int _ | .str _ => true
  | _ => false
def inD (a : D) : D → Option Bool
  | .list ds => if SeqAt.shaped a = true ∧ SeqAt.shaped (.list ds) = true then some (ds.any fun z => PyData.eqv z a) else none
  | .tuple ds => if SeqAt.shaped a = true ∧ SeqAt.shaped (.tuple ds) = true then some (ds.any fun z => PyData.eqv z a) else none
  | _ => none
def isNonD : D → Bool
  | .none => true
  | _ => false
def cmpD : COp → D → D → Option Bool
  | .eq, a, b => eqD a b
  | .ne, a, b => (eqD a b).map (!·)
  | .lt, .int a, .int b => some (decide (a < b))
  | .le, .int a, .int b => some (decide (a ≤ b))
  | .gt, .int a, .int b => some (decide (b < a))
  | .ge, .int a, .int b => some (decide (b ≤ a))
  | .is_, a, .none => some (isNonD a)
  | .isn, a, .none => some (!isNonD a)
  | .inn, a, b => inD a b
  | .nin, a, b => (inD a b).map (!·)
  | _, _, _ => none
def truD : D → Option Bool
  | .none => some false
  | .bool b => some b
  | .int i => some (i != 0)
  | .str s => if s.length ≤ sizeLine then some ((s.length : Int) != 0) else none
  | .list xs => some (!xs.isEmpty)
  | .tuple xs => some (!xs.isEmpty)
  | .dict _ => none
def D.int? : D → Option Int
  | .int i => some i
  | _ => none
def D.bool? : D → Option Bool
  | .bool i => some i
  | _ => none
def intsOf : List D → Option (List Int)
  | [] => some []
  | .int i :: r => (intsOf r).map (i :: ·)
  | _ => none
def boolsOf : List D → Option (List Bool)
  | [] => some []
  | .bool i :: r => (boolsOf r).map (i :: ·)
  | _ => none
def seqOf : D → Option (List D)
  | .list xs => some xs
  | .tuple xs => some xs
  | _ => none
def maxL : Int → List Int → Int
  | m, [] => m
  | m, x :: r => maxL (if x > m then x else m) r
def minL : Int → List Int → Int
  | m, [] => m
  | m, x :: r => minL (if x < m then x else m) r
def maxI : List Int → Option Int
  | [] => none
  | x :: r => some (maxL x r)
def minI : List Int → Option Int
  | [] => none
  | x :: r => some (minL x r)
def insI (x : Int) : List Int → List Int
  | [] => [x]
  | y :: r => if x ≤ y then x :: y :: r else y :: insI x r
def sortI : List Int → List Int
  | [] => []
  | x :: r => insI x (sortI r)
def b1R : B1 → D → Option Rs
  | .len, .list xs => some (.v (.int xs.length))
  | .len, .tuple xs => some (.v (.int xs.length))
  | .len, .str s => if s.length ≤ sizeLine then some (.v (.int s.length)) else none
  | .abs, .int i => some (.v (.int (if i < 0 then -i else i)))
  | .int, .int i => some (.v (.int i))
  | .int, .bool b => some (.v (.int (if b then 1 else 0)))
  | .sum, .list xs => (intsOf xs).map fun ns => .v (.int ns.sum)
  | .all, .list xs => (boolsOf xs).map fun bs => .v (.bool (bs.all id))
  | .any, .list xs => (boolsOf xs).map fun bs => .v (.bool (bs.any id))
  | .tup, .list xs => some (.v (.tuple xs))
  | .tup, .tuple xs => some (.v (.tuple xs))
  | .lst, .list xs => some (.o xs)
  | .lst, .tuple xs => some (.o xs)
  | .sorted, .list xs => (intsOf xs).map fun ns => .o ((sortI ns).map .int)
  | .max, .list xs => (intsOf xs).bind fun ns => (maxI ns).map fun m => .v (.int m)
  | .min, .list xs => (intsOf xs).bind fun ns => (minI ns).map fun m => .v (.int m)
  | .str, .int i => if i.natAbs < 2 ^ 200 then some (.v (.str (Str.ofString (toString i)))) else none
  | _, _ => none
def b2R : B2 → D → D → Option D
  | .max, .int i, .int j => some (.int (if j > i then j else i))
  | .min, .int i, .int j => some (.int (if j < i then j else i))
  | _, _, _ => none
def m1R : M1 → D → D → Option D
  | _, _, _ => none
def isD : D → Ty → Bool
  | .int _, .int => true | .bool _, .int => true | .bool _, .bool => true | .str _, .str => true | .tuple _, .tuple => true | .list _, .list => true
  | _, _ => false
def cutL {α : Type} (xs : List α) (lo hi : Option Int) : List α := (xs.drop (HT.sIx xs.length 0 lo)).take (HT.sIx xs.length xs.length hi - HT.sIx xs.length 0 lo)
def idxD : D → D → Option D
  | .list xs, .int i => atI xs i
  | .tuple xs, .int i => atI xs i
  | .str z, .int i => if z.length ≤ sizeLine then (atI z.cps.toList i).map fun c => .str ⟨#[c]⟩ else none
  | _, _ => none
def sliceR : D → Option Int → Option Int → Option Rs
  | .list xs, lo, hi => some (.o (cutL xs lo hi))
  | .tuple xs, lo, hi => some (.v (.tuple (cutL xs lo hi)))
  | .str z, lo, hi => if z.length ≤ sizeLine then some (.v (.str ⟨(cutL z.cps.toList lo hi).toArray⟩)) else none
  | _, _, _ => none
def revR : D → Option Rs
  | .list xs => some (.o xs.reverse)
  | .tuple xs => some (.v (.tuple xs.reverse))
  | _ => none
def ranges (lo step : Int) : Nat → List D
  | 0 => []
  | n + 1 => .int lo :: ranges (lo + step) step n
def rngOk (i : Int) : Bool := decide (-(2 ^ 62) ≤ i ∧ i < 2 ^ 62)
def rng2 (lo hi : Int) : Option (List D) := if rngOk lo && rngOk hi then some (ranges lo 1 (hi - lo).toNat) else none
def rng3 (lo hi st : Int) : Option (List D) := if rngOk lo && rngOk hi && decide (st = -1) then some (ranges lo (-1) (lo - hi).toNat) else none
def enmL : Nat → List D → List D
  | _, [] => []
  | k, x :: r => .tuple [.int k, x] :: enmL (k + 1) r
def zipL : List D → List D → List D
  | x :: r, y :: s => .tuple [x, y] :: zipL r s
  | _, _ => []
def zipL3 : List D → List D → List D → List D
  | x :: r, y :: s, z :: t => .tuple [x, y, z] :: zipL3 r s t
  | _, _, _ => []

/-! ### slots -/
inductive Hn where | sl (i : Nat) | v (d : D)
def slD : Option Sl → Option D
  | some (.v d) => some d
  | some (.o xs) => some (.list xs)
  | some (.io xs) => some (.list xs)
  | _ => none
def Hn.get : Hn → Ev → Option D
  | .sl i, env => slD env[i]?
  | .v d, _ => some d
def E.var? : E → Option Nat
  | .var i => some i
  | _ => none
/-- a read that lets the value out -/
def rd (i : Nat) (env : Ev) : Option (Rs × Ev) :=
  match env[i]? with
  | some (.v d) => some (.v d, env)
  | some (.o xs) => some (.v (.list xs), env.set i (.v (.list xs)))
  | _ => none
def asgS (i : Nat) (s : Sl) (env : Ev) : Option Ev :=
  match env[i]? with
  | some (.io _) => none
  | some _ => some (env.set i s)
  | none => none
def wipeE (env : Ev) : List Nat → Option Ev
  | [] => some env
  | i :: r => (wipeE env r).bind fun e => match e[i]? with
    | some .un => some e
    | some (.v _) => some (e.set i .un)
    | _ => none
def backE (old env : Ev) : List Nat → Ev
  | [] => env
  | i :: r => (backE old env r).set i (old[i]?.getD .un)
mutual
def bindT : Tg → D → Ev → Option Ev
  | .nm i, d, env => asgS i (.v d) env
  | .tup ts, .tuple xs, env => bindTs ts xs env
  | .tup ts, .list xs, env => bindTs ts xs env
  | _, _, _ => none
def bindTs : Tgs → List D → Ev → Option Ev
  | .nil, [], env => some env
  | .cons t ts, x :: xs, env => (bindT t x env).bind (bindTs ts xs)
  | _, _, _ => none
end
def opd (iv : Option Nat) (f : Ev → Option (Rs × Ev)) (env : Ev) : Option (Hn × Ev) :=
  match iv with
  | some i => (slD env[i]?).map fun _ => (.sl i, env)
  | none => (f env).map fun p => (.v p.1.d, p.2)
def op1 {α : Type} (iv : Option Nat) (f : Ev → Option (Rs × Ev)) (k : D → Ev → Option α) (env : Ev) : Option α := do
  let (h, e1) ← opd iv f env
  k (← h.get e1) e1
def op2 {α : Type} (iv : Option Nat) (f : Ev → Option (Rs × Ev)) (jv : Option Nat) (g : Ev → Option (Rs × Ev)) (k : D → D → Ev → Option α) (env : Ev) : Option α := do
  let (h, e1) ← opd iv f env
  let (h', e2) ← opd jv g e1
  k (← h.get e2) (← h'.get e2) e2
def withE (e : Ev) (r : Option Rs) : Option (Rs × Ev) := r.map fun r => (r, e)

/-! ### calls -/
def argSl (env : Ev) : List (Sum D Nat) → Option (List Sl)
  | [] => some []
  | .inl d :: r => (argSl env r).map (.v d :: ·)
  | .inr i :: r => match env[i]? with
    | some (.o xs) => (argSl env r).map (.io xs :: ·)
    | some (.io xs) => (argSl env r).map (.io xs :: ·)
    | _ => none
def ioOf : List (Sum D Nat) → List Nat
  | [] => []
  | .inl _ :: r => ioOf r
  | .inr i :: r => i :: ioOf r
def backA (env : Ev) : List (Sum D Nat) → List Sl → Option Ev
  | [], _ => some env
  | .inl _ :: r, _ :: os => backA env r os
  | .inr i :: r, .io xs :: os => match env[i]? with
    | some (.o _) => backA (env.set i (.o xs)) r os
    | some (.io _) => backA (env.set i (.io xs)) r os
    | _ => none
  | _, _ => none
def callE (C : CT) (f : Nat) (as : List (Sum D Nat)) (env : Ev) : Option (Rs × Ev) :=
  if (ioOf as).Nodup then
    (argSl env as).bind fun sl => (C f sl).bind fun p => (backA env as p.2).map fun e2 => (p.1, e2)
  else none

/-! ### running -/
def compL (tgt : D → Ev → Option Ev) (own : List Nat) (test : Ev → Option (Bool × Ev)) (elt : Ev → Option (Rs × Ev)) : List D → List D → Ev → Option (List D × Ev)
  | [], acc, env => some (acc, env)
  | x :: r, acc, env => (wipeE env own).bind fun e0 => (tgt x e0).bind fun e1 => (test e1).bind fun p =>
      if p.1 then (elt p.2).bind fun q => if acc.length < sizeLine then compL tgt own test elt r (acc ++ [q.1.d]) q.2 else none
      else compL tgt own test elt r acc p.2

/-- the slot holds something -/
def baseS {α : Type} (i : Nat) (env : Ev) (o : Option α) : Option α := (slD env[i]?).bind fun _ => o
/-- a result as a test -/
def fin (t : Bool) (o : Option (Rs × Ev)) : Option (Rs × Ev) := if t then o.bind fun p => (truD p.1.d).map fun b => (.v (.bool b), p.2) else o
def asB (o : Option (Rs × Ev)) : Option (Bool × Ev) := o.bind fun p => match p.1 with | .v (.bool b) => some (b, p.2) | _ => none
def ofB (o : Option (Bool × Ev)) : Option (Rs × Ev) := o.map fun p => (.v (.bool p.1), p.2)
def bindB {α : Type} (o : Option (Bool × Ev)) (f h : Ev → Option α) : Option α := o.bind fun p => if p.1 then f p.2 else h p.2
def chainE (p q : COp) (iv jv kv : Option Nat) (fa fb fc : Ev → Option (Rs × Ev)) (env : Ev) : Option (Rs × Ev) := do
  let (ha, e1) ← opd iv fa env
  let (hb, e2) ← opd jv fb e1
  if ← cmpD p (← ha.get e2) (← hb.get e2) then do
    let (hc, e3) ← opd kv fc e2
    some (.v (.bool (← cmpD q (← hb.get e3) (← hc.get e3))), e3)
  else some (.v (.bool false), e2)
def chain3E (p q r : COp) (iv jv kv lv : Option Nat) (fa fb fc fd : Ev → Option (Rs × Ev)) (env : Ev) : Option (Rs × Ev) := do
  let (ha, e1) ← opd iv fa env
  let (hb, e2) ← opd jv fb e1
  if ← cmpD p (← ha.get e2) (← hb.get e2) then do
    let (hc, e3) ← opd kv fc e2
    if ← cmpD q (← hb.get e3) (← hc.get e3) then do
      let (hd, e4) ← opd lv fd e3
      some (.v (.bool (← cmpD r (← hc.get e4) (← hd.get e4))), e4)
    else some (.v (.bool false), e3)
  else some (.v (.bool false), e2)
def compE (tgt : D → Ev → Option Ev) (own : List Nat) (test : Ev → Option (Bool × Ev)) (elt : Ev → Option (Rs × Ev)) (src : Option (List D × Ev)) : Option (Rs × Ev) :=
  src.bind fun s => (compL tgt own test elt s.1 [] s.2).bind fun q => (wipeE q.2 own).map fun e4 => (.o q.1, backE s.2 e4 own)
def sizeE (f : List D → Rs) (o : Option (List D × Ev)) : Option (Rs × Ev) := o.bind fun p => if p.1.length ≤ sizeLine then some (f p.1, p.2) else none

mutual
/-- an expression's run: as a value, or as a test -/
def evX (C : CT) : E → Bool → Ev → Option (Rs × Ev)
  | .con d, t, env => fin t (some (.v d, env))
  | .var i, t, env => if t then ((slD env[i]?).bind truD).map fun b => (.v (.bool b), env) else rd i env
  | .glo _ d, t, env => fin t (some (.v d, env))
  | .bin op a b, t, env => fin t (op2 a.var? (evX C a false) b.var? (evX C b false) (fun x y e => withE e (binR op x y)) env)
  | .neg a, t, env => fin t (op1 a.var? (evX C a false) (fun x e => withE e ((D.int? x).map fun i => .v (.int (-i)))) env)
  | .not a, t, env => if t then ofB ((asB (evX C a true env)).map fun p => (!p.1, p.2))
    else op1 a.var? (evX C a false) (fun x e => (truD x).map fun b => (.v (.bool (!b)), e)) env
  | .and a b, t, env => if t then bindB (asB (evX C a true env)) (evX C b true) (fun e => some (.v (.bool false), e))
    else (evX C a false env).bind fun p => (truD p.1.d).bind fun c => if c then evX C b false p.2 else some (.v p.1.d, p.2)
  | .or a b, t, env => if t then bindB (asB (evX C a true env)) (fun e => some (.v (.bool true), e)) (evX C b true)
    else (evX C a false env).bind fun p => (truD p.1.d).bind fun c => if c then some (.v p.1.d, p.2) else evX C b false p.2
  | .ite c a b, t, env => bindB (asB (evX C c true env)) (evX C a t) (evX C b t)
  | .cmp op a b, _, env => op2 a.var? (evX C a false) b.var? (evX C b false) (fun x y e => withE e ((cmpD op x y).map fun b => .v (.bool b))) env
  | .chain p q a b c, _, env => chainE p q a.var? b.var? c.var? (evX C a false) (evX C b false) (evX C c false) env
  | .chain3 p q r a b c d, _, env => chain3E p q r a.var? b.var? c.var? d.var? (evX C a false) (evX C b false) (evX C c false) (evX C d false) env
  | .tup es, t, env => fin t (sizeE (fun xs => .v (.tuple xs)) (evEs C es env))
  | .lst es, t, env => fin t (sizeE .o (evEs C es env))
  | .rep es n, t, env => fin t ((evEs C es env).bind fun p => if p.1.length ≤ sizeLine then op1 n.var? (evX C n false) (fun y e2 => withE e2 (repR p.1 y)) p.2 else none)
  | .idx a i, t, env => fin t (op2 a.var? (evX C a false) i.var? (evX C i false) (fun x y e => withE e ((idxD x y).map .v)) env)
  | .slice a lo hi, t, env => fin t ((opd a.var? (evX C a false) env).bind fun p => (evO C lo p.2).bind fun l => (evO C hi l.2).bind fun h => (p.1.get h.2).bind fun x => withE h.2 (sliceR x l.1 h.1))
  | .rev a, t, env => fin t (op1 a.var? (evX C a false) (fun x e => withE e (revR x)) env)
  | .call f as dv, t, env => fin t ((evAs C as env).bind fun p => callE C f (p.1 ++ dv.map .inl) p.2)
  | .b1 f a, t, env => fin t (op1 a.var? (evX C a false) (fun x e => withE e (b1R f x)) env)
  | .b2 f a b, t, env => fin t (op2 a.var? (evX C a false) b.var? (evX C b false) (fun x y e => withE e ((b2R f x y).map .v)) env)
  | .m1 f a b, t, env => fin t (op2 a.var? (evX C a false) b.var? (evX C b false) (fun x y e => withE e ((m1R f x y).map .v)) env)
  | .isI a ty, _, env => op1 a.var? (evX C a false) (fun x e => some (.v (.bool (isD x ty)), e)) env
  | .lrng tup it, t, env => fin t (sizeE (fun xs => if tup then .v (.tuple xs) else .o xs) (evIt C it env))
  | .comp elt tg it cond own, t, env => fin t (compE (bindT tg) own (fun e => match cond with | .none => some (true, e) | .some c => asB (evX C c true e)) (evX C elt false) (evIt C it env))
def evEs (C : CT) : Es → Ev → Option (List D × Ev)
  | .nil, env => some ([], env)
  | .cons e es, env => (evX C e false env).bind fun p => (evEs C es p.2).map fun q => (p.1.d :: q.1, q.2)
def evAs (C : CT) : As → Ev → Option (List (Sum D Nat) × Ev)
  | .nil, env => some ([], env)
  | .val e as, env => (evX C e false env).bind fun p => (evAs C as p.2).map fun q => (.inl p.1.d :: q.1, q.2)
  | .io i as, env => baseS i env ((evAs C as env).map fun q => (.inr i :: q.1, q.2))
def evO (C : CT) : O → Ev → Option (Option Int × Ev)
  | .none, env => some (none, env)
  | .some e, env => op1 e.var? (evX C e false) (fun x e => (D.int? x).map fun i => (some i, e)) env
def evIt (C : CT) : It → Ev → Option (List D × Ev)
  | .seq e, env => (evX C e false env).bind fun p => (seqOf p.1.d).map fun xs => (xs, p.2)
  | .r1 a, env => op1 a.var? (evX C a false) (fun x e => (D.int? x).bind fun i => (rng2 0 i).map fun xs => (xs, e)) env
  | .r2 a b, env => op2 a.var? (evX C a false) b.var? (evX C b false) (fun x y e => (D.int? x).bind fun i => (D.int? y).bind fun j => (rng2 i j).map fun xs => (xs, e)) env
  | .r3 a b c, env => (opd a.var? (evX C a false) env).bind fun p => op2 b.var? (evX C b false) c.var? (evX C c false) (fun y z e =>
      (p.1.get e).bind fun x => (D.int? x).bind fun i => (D.int? y).bind fun j => (D.int? z).bind fun k => (rng3 i j k).map fun xs => (xs, e)) p.2
  | .enm e, env => (evX C e false env).bind fun p => match p.1.d with | .list xs => some (enmL 0 xs, p.2) | .tuple xs => some (enmL 0 xs, p.2) | _ => none
  | .zip a b, env => (evX C a false env).bind fun p => (evX C b false p.2).bind fun q => match p.1.d, q.1.d with | .list xs, .list ys => some (zipL xs ys, q.2) | .tuple xs, .tuple ys => some (zipL xs ys, q.2) | _, _ => none
  | .zip3 a b c, env => (evX C a false env).bind fun p => (evX C b false p.2).bind fun q => (evX C c false q.2).bind fun r =>
      (seqOf p.1.d).bind fun xs => (seqOf q.1.d).bind fun ys => (seqOf r.1.d).map fun zs => (zipL3 xs ys zs, r.2)
end
abbrev evE (C : CT) (e : E) : Ev → Option (Rs × Ev) := evX C e false
abbrev evT (C : CT) (e : E) (env : Ev) : Option (Bool × Ev) := asB (evX C e true env)

inductive Out where | nx (e : Ev) | rt (r : Rs) (e : Ev) | bk (e : Ev) | ct (e : Ev)
/-- one statement behind another -/
def seqO (o : Option Out) (f : Ev → Option Out) : Option Out := o.bind fun o => match o with
  | .nx e => f e
  | .rt r e => some (.rt r e)
  | .bk e => some (.bk e)
  | .ct e => some (.ct e)
/-- a turn's end -/
def turnO (o : Option Out) (f : Ev → Option Out) : Option Out := o.bind fun o => match o with
  | .nx e => f e
  | .ct e => f e
  | .bk e => some (.nx e)
  | .rt r e => some (.rt r e)
def whl (t : Ev → Option (Bool × Ev)) (b : Ev → Option Out) : Nat → Ev → Option Out
  | 0, _ => none
  | n + 1, env => (t env).bind fun p => if p.1 then turnO (b p.2) (whl t b n) else some (.nx p.2)
def forl (g : D → Ev → Option Ev) (b : Ev → Option Out) : List D → Ev → Option Out
  | [], env => some (.nx env)
  | x :: r, env => (g x env).bind fun e1 => turnO (b e1) (forl g b r)
def evRs (C : CT) : Es → Ev → Option (List Rs × Ev)
  | .nil, env => some ([], env)
  | .cons e es, env => (evX C e false env).bind fun p => (evRs C es p.2).map fun q => (p.1 :: q.1, q.2)
/-- what stands at a place of a slot's list is changed -/
def putIx (i : Nat) (k : Int) (d : D) (env : Ev) : Option Ev :=
  match env[i]? with
  | some (.o xs) => (ixN xs.length k).map fun j => env.set i (.o (xs.set j d))
  | some (.io xs) => (ixN xs.length k).map fun j => env.set i (.io (xs.set j d))
  | _ => none
def addL (i : Nat) (ys : List D) (env : Ev) : Option Ev :=
  match env[i]? with
  | some (.o xs) => if xs.length + ys.length ≤ sizeLine then some (env.set i (.o (xs ++ ys))) else none
  | some (.io xs) => if xs.length + ys.length ≤ sizeLine then some (env.set i (.io (xs ++ ys))) else none
  | _ => none
def putNs : List Nat → List Rs → Ev → Option Ev
  | [], [], env => some env
  | i :: is, r :: rs, env => (asgS i r.sl env).bind (putNs is rs)
  | _, _, _ => none
/-- the slot holds a list of one's own -/
def ownS {α : Type} (i : Nat) (env : Ev) (o : Option α) : Option α := match env[i]? with
  | some (.o _) => o
  | some (.io _) => o
  | _ => none
def putTa (C : CT) : Ta → D → Ev → Option Ev
  | .nm i, d, env => asgS i (.v d) env
  | .sub i ix, d, env => baseS i env (op1 ix.var? (evX C ix false) (fun x e => (D.int? x).bind fun k => putIx i k d e) env)
def putTas (C : CT) : List Ta → List D → Ev → Option Ev
  | [], [], env => some env
  | t :: ts, r :: rs, env => (putTa C t r env).bind (putTas C ts rs)
  | _, _, _ => none
/-- name op= value -/
def augD : BOp → D → D → Option D
  | .add, .int a, .int b => some (.int (a + b))
  | .add, .str a, .str b => if a.length + b.length ≤ sizeLine then some (.str (a ++ b)) else none
  | .sub, .int a, .int b => some (.int (a - b))
  | .mul, .int a, .int b => if a.natAbs < 2 ^ 64 ∨ b.natAbs < 2 ^ 64 then some (.int (a * b)) else none
  | .fdiv, .int a, .int b => if 0 < b ∧ b.natAbs < big then some (.int (a / b)) else none
  | .mod, .int a, .int b => if 0 < b then some (.int (a % b)) else none
  | .shl, .int a, .int b => if 0 ≤ b ∧ b ≤ 1000000 ∧ a.natAbs < 2 ^ 64 then some (.int (a * 2 ^ b.toNat)) else none
  | .shr, .int a, .int b => if 0 ≤ b then some (.int (a / 2 ^ b.toNat)) else none
  | _, _, _ => none
def W : Nat := 2 ^ 64
def retV (i : Nat) (env : Ev) : Option Out :=
  match env[i]? with
  | some (.v d) => some (.rt (.v d) env)
  | some (.o xs) => some (.rt (.o xs) (env.set i .un))
  | _ => none
mutual
def evS (C : CT) : S → Ev → Option Out
  | .asg i e, env => (evX C e false env).bind fun p => (asgS i p.1.sl p.2).map .nx
  | .par is es, env => (evRs C es env).bind fun p => (putNs is p.1 p.2).map .nx
  | .stp ts es, env => (evEs C es env).bind fun p => if p.1.length ≤ sizeLine then (putTas C ts p.1 p.2).map .nx else none
  | .unp t e, env => (evX C e false env).bind fun p => (bindT t p.1.d p.2).map .nx
  | .aug i op e, env => match env[i]? with
    | some (.v x) => op1 e.var? (evX C e false) (fun y e2 => (augD op x y).bind fun d => (asgS i (.v d) e2).map .nx) env
    | _ => none
  | .st i ix e, env => (evX C e false env).bind fun p => baseS i p.2 ((op1 ix.var? (evX C ix false) (fun x e2 => (D.int? x).bind fun k => putIx i k p.1.d e2) p.2).map .nx)
  | .augS i ix op e, env => op1 ix.var? (evX C ix false) (fun k e1 => (slD e1[i]?).bind fun l => (idxD l k).bind fun old =>
      op1 e.var? (evX C e false) (fun y e2 => (D.int? k).bind fun k => (augD op old y).bind fun d => (putIx i k d e2).map .nx) e1) env
  | .app i e, env => ownS i env ((evX C e false env).bind fun p => (addL i [p.1.d] p.2).map .nx)
  | .ext i e, env => ownS i env ((evX C e false env).bind fun p => match p.1 with
    | .o ys => (addL i ys p.2).map .nx
    | _ => none)
  | .expr e, env => (evX C e false env).map fun p => .nx p.2
  | .ite c a b, env => (asB (evX C c true env)).bind fun p => if p.1 then evSs C a p.2 else evSs C b p.2
  | .whl c b, env => whl (fun e => asB (evX C c true e)) (evSs C b) W env
  | .for_ t it b, env => (evIt C it env).bind fun p => forl (bindT t) (evSs C b) p.1 p.2
  | .ret e, env => match e.var? with
    | some i => retV i env
    | none => (evX C e false env).map fun p => .rt p.1 p.2
  | .retN, env => some (.rt (.v .none) env)
  | .pass, env => some (.nx env)
  | .brk, env => some (.bk env)
  | .cont, env => some (.ct env)
  | .raise, _ => none
def evSs (C : CT) : Ss → Ev → Option Out
  | .nil, env => some (.nx env)
  | .cons s ss, env => seqO (evS C s env) (evSs C ss)
end
/-- a def: how many parameters, how many slots, the body -/
structure Fn where
  np : Nat
  ns : Nat
  body : Ss
def runFn (C : CT) (f : Fn) (args : List Sl) : Option (Rs × List Sl) :=
  if args.length = f.np then
    match evSs C f.body (args ++ List.replicate (f.ns - f.np) .un) with
    | some (.nx e) => some (.v .none, e.take f.np)
    | some (.rt r e) => some (r, e.take f.np)
    | _ => none
  else none
def callT (T : List Fn) : Nat → CT
  | 0, _, _ => none
  | n + 1, i, args => match T[i]? with
    | some f => runFn (callT T n) f args
    | none => none
end KX

set_option Elab.async false
set_option linter.all false
set_option maxHeartbeats 1000000
/-! KB1: plain data held by the heap: what is frozen (F), what is one's own, what is others' (G). -/
namespace KX
open PySem PySem.Spec L2

abbrev St := L2.St
mutual
/-- a value and the plain data it is; lists stand where they are read from -/
inductive Rp (K : PySem.W.Frag) (H : Hp) : V → PyData → Prop
  | non : Rp K H .non .none
  | bl (b : Bool) : Rp K H (.bl b) (.bool b)
  | int (i : Int) : Rp K H (.int i) (.int i)
  | str (x : Str) : Rp K H (.str x) (.str x)
  | lst {a : Addr} {xs : List V} {ds : List PyData} : SqL K H a xs → Rps K H xs ds → Rp K H (.ref a) (.list ds)
  | tup {a : Addr} {xs : List V} {ds : List PyData} : SqT K H a xs → Rps K H xs ds → Rp K H (.ref a) (.tuple ds)
inductive Rps (K : PySem.W.Frag) (H : Hp) : List V → List PyData → Prop
  | nil : Rps K H [] []
  | cons {v : V} {vs : List V} {d : PyData} {ds : List PyData} : Rp K H v d → Rps K H vs ds → Rps K H (v :: vs) (d :: ds)
end
mutual
theorem Rp.dp {K : PySem.W.Frag} {H : Hp} : ∀ {v : V} {d : PyData}, Rp K H v d → Dp K H v d
  | _, _, .non => .non
  | _, _, .bl b => .bl b
  | _, _, .int i => .int i
  | _, _, .str x => .str x
  | _, _, .lst s a => .lst s a.dp
  | _, _, .tup s a => .tup s a.dp
theorem Rps.dp {K : PySem.W.Frag} {H : Hp} : ∀ {vs : List V} {ds : List PyData}, Rps K H vs ds → DpAll K H vs ds
  | _, _, .nil => .nil
  | _, _, .cons h t => .cons h.dp t.dp
end
structure Gh where
  G : Hp
  F0 : Hp
  io : Nat → Option Addr
def Own (env : Ev) (i : Nat) : Prop := (∃ xs, env[i]? = some (.o xs)) ∨ ∃ xs, env[i]? = some (.io xs)
def OwnAt (K : PySem.W.Frag) (g : Gh) (F H : Hp) (a : Addr) (xs : List D) : Prop := ∃ vs, H a = some (.lst vs) ∧ F a = none ∧ g.G a = none ∧ Rps K F vs xs
def SlOk (K : PySem.W.Frag) (g : Gh) (F : Hp) (σ : St) (H : Hp) (i : Nat) : Sl → Prop
  | .un => True
  | .v d => ∃ v, σ[i]? = some (some v) ∧ Rp K F v d
  | .o xs => ∃ a, σ[i]? = some (some (.ref a)) ∧ (∀ j, g.io j ≠ some a) ∧ OwnAt K g F H a xs
  | .io xs => ∃ a, σ[i]? = some (some (.ref a)) ∧ g.io i = some a ∧ OwnAt K g F H a xs
structure OK (K : PySem.W.Frag) (g : Gh) (F : Hp) (env : Ev) (σ : St) (H : Hp) : Prop where
  fH : Same F H
  gH : Same g.G H
  f0 : Same g.F0 F
  gro : ∀ b o, F b = some o → g.F0 b = some o ∨ (g.G b = none ∧ ∀ i, g.io i ≠ some b)
  len : env.length = σ.length
  slot : ∀ i s, env[i]? = some s → SlOk K g F σ H i s
  dist : ∀ i j a, Own env i → Own env j → σ[i]? = some (some (.ref a)) → σ[j]? = some (some (.ref a)) → i = j
  ios : ∀ i a, g.io i = some a → ∃ xs, env[i]? = some (.io xs)
def RsOK (K : PySem.W.Frag) (g : Gh) (F : Hp) (env : Ev) (σ : St) (H : Hp) (v : V) : Rs → Prop
  | .v d => Rp K F v d
  | .o xs => ∃ a, v = .ref a ∧ (∀ j, g.io j ≠ some a) ∧ OwnAt K g F H a xs ∧ ∀ i, Own env i → σ[i]? ≠ some (some (.ref a))

theorem Same.rd {H H' : Hp} {a : Addr} {u : HO} (e : Same H H') (h : Rd H a u) : Rd H' a u := by
  rcases h with h | ⟨o, h⟩
  · exact .inl (e _ _ h)
  · exact .inr ⟨o, e _ _ h⟩
theorem Same.seqL {K : PySem.W.Frag} {H H' : Hp} {a : Addr} {xs : List V} (e : Same H H') (h : SqL K H a xs) : SqL K H' a xs := by
  rcases h with h | h
  · exact .inl (Same.rd e h)
  · exact .inr h
theorem Same.seqT {K : PySem.W.Frag} {H H' : Hp} {a : Addr} {xs : List V} (e : Same H H') (h : SqT K H a xs) : SqT K H' a xs := by
  rcases h with (h | ⟨o, h⟩) | h
  · exact .inl (.inl (e _ _ h))
  · exact .inl (.inr ⟨o, e _ _ h⟩)
  · exact .inr h
mutual
theorem dp_mono {K : PySem.W.Frag} {H H' : Hp} (e : Same H H') : ∀ {v : V} {d : PyData}, Rp K H v d → Rp K H' v d
  | _, _, .non => .non
  | _, _, .bl b => .bl b
  | _, _, .int i => .int i
  | _, _, .str x => .str x
  | _, _, .lst s a => .lst (Same.seqL e s) (dps_mono e a)
  | _, _, .tup s a => .tup (Same.seqT e s) (dps_mono e a)
theorem dps_mono {K : PySem.W.Frag} {H H' : Hp} (e : Same H H') : ∀ {vs : List V} {ds : List PyData}, Rps K H vs ds → Rps K H' vs ds
  | _, _, .nil => .nil
  | _, _, .cons h t => .cons (dp_mono e h) (dps_mono e t)
end
section
variable {K : PySem.W.Frag} {F H H' : Hp}
theorem dps_len : ∀ {vs : List V} {ds : List PyData}, Rps K H vs ds → vs.length = ds.length
  | _, _, .nil => rfl
  | _, _, .cons _ t => congrArg Nat.succ (dps_len t)
theorem dps_get : ∀ {vs : List V} {ds : List PyData} {i : Nat} {d : PyData}, Rps K H vs ds → ds[i]? = some d → ∃ v, vs[i]? = some v ∧ Rp K H v d
  | _, _, _, _, .nil, e => by simp at e
  | _, _, 0, _, .cons h _, e => by simp at e; subst e; exact ⟨_, rfl, h⟩
  | _, _, i + 1, d, .cons _ t, e => by
    obtain ⟨v, h1, h2⟩ := dps_get (i := i) (d := d) t (by simpa using e)
    exact ⟨v, by simpa using h1, h2⟩
theorem dps_append : ∀ {vs ws : List V} {ds es : List PyData}, Rps K H vs ds → Rps K H ws es → Rps K H (vs ++ ws) (ds ++ es)
  | _, _, _, _, .nil, s => s
  | _, _, _, _, .cons h t, s => .cons h (dps_append t s)
theorem dps_take : ∀ {vs : List V} {ds : List PyData} (n : Nat), Rps K H vs ds → Rps K H (vs.take n) (ds.take n)
  | _, _, 0, _ => by simp; exact .nil
  | _, _, _ + 1, .nil => by simp; exact .nil
  | _, _, n + 1, .cons h t => by simp; exact .cons h (dps_take n t)
theorem dps_drop : ∀ {vs : List V} {ds : List PyData} (n : Nat), Rps K H vs ds → Rps K H (vs.drop n) (ds.drop n)
  | _, _, 0, r => r
  | _, _, _ + 1, .nil => .nil
  | _, _, n + 1, .cons _ t => dps_drop n t
theorem dps_set : ∀ {vs : List V} {ds : List PyData} (i : Nat) {v : V} {d : PyData}, Rps K H vs ds → Rp K H v d → Rps K H (vs.set i v) (ds.set i d)
  | _, _, _, _, _, .nil, _ => .nil
  | _, _, 0, _, _, .cons _ t, q => .cons q t
  | _, _, i + 1, _, _, .cons h t, q => .cons h (dps_set i t q)
theorem dps_reverse {vs : List V} {ds : List PyData} (h : Rps K H vs ds) : Rps K H vs.reverse ds.reverse := by
  induction ds generalizing vs with
  | nil => cases h; exact .nil
  | cons d ds ih =>
    cases h with
    | cons h t => simp only [List.reverse_cons]; exact dps_append (ih t) (.cons h .nil)
theorem dps_replicate {vs : List V} {ds : List PyData} (h : Rps K H vs ds) : ∀ n : Nat, Rps K H (List.replicate n vs).flatten (List.replicate n ds).flatten
  | 0 => .nil
  | n + 1 => by simp only [List.replicate_succ, List.flatten_cons]; exact dps_append h (dps_replicate h n)
theorem dps_ints : ∀ {vs : List V} {ds : List PyData} {ns : List Int}, Rps K H vs ds → intsOf ds = some ns → vs = ns.map V.int
  | _, _, ns, .nil, e => by simp [intsOf] at e; subst e; rfl
  | _, _, ns, .cons (d := d) (ds := ds) h t, e => by
    cases h with
    | int i =>
      simp only [intsOf, Option.map_eq_some_iff] at e
      obtain ⟨r, e1, rfl⟩ := e
      rw [dps_ints t e1]; rfl
    | _ => simp [intsOf] at e
theorem dps_bools : ∀ {vs : List V} {ds : List PyData} {ns : List Bool}, Rps K H vs ds → boolsOf ds = some ns → vs = ns.map V.bl
  | _, _, ns, .nil, e => by simp [boolsOf] at e; subst e; rfl
  | _, _, ns, .cons (d := d) (ds := ds) h t, e => by
    cases h with
    | bl i =>
      simp only [boolsOf, Option.map_eq_some_iff] at e
      obtain ⟨r, e1, rfl⟩ := e
      rw [dps_bools t e1]; rfl
    | _ => simp [boolsOf] at e
theorem dp_intsI (ns : List Int) : Rps K H (ns.map V.int) (ns.map PyData.int) := by
  induction ns with
  | nil => exact .nil
  | cons n ns ih => exact .cons (.int n) ih
end

theorem same_upd {H : Hp} {p : Addr} {o : HO} (h : H p = none) : Same H (upd H p o) := fun b x e => by
  rw [upd_ne (ne_of_none e h)]
  exact e
section
variable {K : PySem.W.Frag} {g : Gh} {F F' H H' : Hp} {env env' : Ev} {σ : St} {p a : Addr} {o : HO} {v : V} {d : D}

theorem Own.lt {i : Nat} (h : Own env i) : i < env.length := by
  rcases h with ⟨xs, h⟩ | ⟨xs, h⟩ <;> exact (List.getElem?_eq_some_iff.mp h).1
theorem OK.own (k : OK K g F env σ H) {i : Nat} (h : Own env i) : ∃ a vs, σ[i]? = some (some (.ref a)) ∧ H a = some (.lst vs) ∧ F a = none ∧ g.G a = none := by
  rcases h with ⟨xs, h⟩ | ⟨xs, h⟩
  · obtain ⟨a, e, _, vs, h1, h2, h3, _⟩ := k.slot i _ h
    exact ⟨a, vs, e, h1, h2, h3⟩
  · obtain ⟨a, e, _, vs, h1, h2, h3, _⟩ := k.slot i _ h
    exact ⟨a, vs, e, h1, h2, h3⟩
theorem OK.fF (k : OK K g F env σ H) (h : H p = none) : F p = none := Same.free k.fH h
theorem OK.fG (k : OK K g F env σ H) (h : H p = none) : g.G p = none := Same.free k.gH h
theorem OK.fio (k : OK K g F env σ H) (h : H p = none) : ∀ j, g.io j ≠ some p := fun j e => by
  obtain ⟨xs, q⟩ := k.ios j p e
  obtain ⟨a, e1, e2, vs, h1, _⟩ := k.slot j _ q
  rw [e] at e2; cases e2; rw [h] at h1; cases h1
theorem OK.fown (k : OK K g F env σ H) (h : H p = none) : ∀ i, Own env i → σ[i]? ≠ some (some (.ref p)) := fun i hi e => by
  obtain ⟨a, vs, e1, h1, _⟩ := k.own hi
  rw [e] at e1; cases e1; rw [h] at h1; cases h1

theorem SlOk.mono {i : Nat} {s : Sl} (h : SlOk K g F σ H i s) (f : Same F F') (keep : ∀ a vs, H a = some (.lst vs) → F a = none → g.G a = none → σ[i]? = some (some (.ref a)) → (∃ xs, s = .o xs) ∨ (∃ xs, s = .io xs) → H' a = some (.lst vs) ∧ F' a = none) : SlOk K g F' σ H' i s := by
  cases s with
  | un => trivial
  | v d => obtain ⟨v, e, h⟩ := h; exact ⟨v, e, dp_mono f h⟩
  | o xs =>
    obtain ⟨a, e, hj, vs, h1, h2, h3, h4⟩ := h
    obtain ⟨q1, q2⟩ := keep a vs h1 h2 h3 e (.inl ⟨xs, rfl⟩)
    exact ⟨a, e, hj, vs, q1, q2, h3, dps_mono f h4⟩
  | io xs =>
    obtain ⟨a, e, hj, vs, h1, h2, h3, h4⟩ := h
    obtain ⟨q1, q2⟩ := keep a vs h1 h2 h3 e (.inr ⟨xs, rfl⟩)
    exact ⟨a, e, hj, vs, q1, q2, h3, dps_mono f h4⟩

/-- the heap grows by what is not told -/
theorem OK.alloc (k : OK K g F env σ H) (h : H p = none) : OK K g F env σ (upd H p o) :=
  ⟨k.fH.trans (same_upd h), k.gH.trans (same_upd h), k.f0, k.gro, k.len, fun i s e => (k.slot i s e).mono (Same.refl _) fun a vs h1 h2 _ _ _ => ⟨same_upd h _ _ h1, h2⟩, k.dist, k.ios⟩
/-- a new frozen object -/
theorem OK.allocF (k : OK K g F env σ H) (h : H p = none) : OK K g (upd F p o) env σ (upd H p o) where
  fH := fun b x e => by
    by_cases hb : b = p
    · subst hb; rw [upd_same] at e ⊢; exact e
    · rw [upd_ne hb] at e ⊢; exact k.fH b x e
  gH := k.gH.trans (same_upd h)
  f0 := k.f0.trans (same_upd (k.fF h))
  gro := fun b x e => by
    by_cases hb : b = p
    · subst hb; exact .inr ⟨k.fG h, k.fio h⟩
    · rw [upd_ne hb] at e; exact k.gro b x e
  len := k.len
  slot := fun i s e => (k.slot i s e).mono (same_upd (k.fF h)) fun a vs h1 h2 _ _ _ => ⟨same_upd h _ _ h1, by rw [upd_ne (ne_of_none h1 h)]; exact h2⟩
  dist := k.dist
  ios := k.ios
/-- an own thing that no slot holds is frozen -/
theorem OK.freeze (k : OK K g F env σ H) {vs : List V} (h : H a = some (.lst vs)) (hf : F a = none) (hg : g.G a = none) (hio : ∀ j, g.io j ≠ some a) (hs : ∀ i, Own env i → σ[i]? ≠ some (some (.ref a))) :
    OK K g (upd F a (.lst vs)) env σ H where
  fH := fun b x e => by
    by_cases hb : b = a
    · subst hb; rw [upd_same] at e; rw [h]; exact e
    · rw [upd_ne hb] at e; exact k.fH b x e
  gH := k.gH
  f0 := k.f0.trans (same_upd hf)
  gro := fun b x e => by
    by_cases hb : b = a
    · subst hb; exact .inr ⟨hg, hio⟩
    · rw [upd_ne hb] at e; exact k.gro b x e
  len := k.len
  slot := fun i s e => (k.slot i s e).mono (same_upd hf) fun b ws h1 h2 _ hσ ho => ⟨h1, by
    by_cases hb : b = a
    · subst hb
      exact absurd hσ (hs i (by rcases ho with ⟨xs, rfl⟩ | ⟨xs, rfl⟩; exact .inl ⟨xs, e⟩; exact .inr ⟨xs, e⟩))
    · rw [upd_ne hb]; exact h2⟩
  dist := k.dist
  ios := k.ios
theorem RsOK.frz {r : Rs} (h : RsOK K g F env σ H v r) (k : OK K g F env σ H) : ∃ F', OK K g F' env σ H ∧ Same F F' ∧ Rp K F' v r.d := by
  cases r with
  | v d => exact ⟨F, k, Same.refl _, h⟩
  | o xs =>
    obtain ⟨a, rfl, hj, ⟨vs, h1, h2, h3, h4⟩, hs⟩ := h
    exact ⟨_, k.freeze h1 h2 h3 hj hs, same_upd h2, .lst (.inl (.inl upd_same)) (dps_mono (same_upd h2) h4)⟩
/-- what a list's slot is set to -/
theorem own_set {i j : Nat} {s : Sl} (h : Own (env.set i s) j) : (j = i ∧ ((∃ xs, s = .o xs) ∨ ∃ xs, s = .io xs)) ∨ (j ≠ i ∧ Own env j) := by
  by_cases e : j = i
  · subst e
    left
    refine ⟨rfl, ?_⟩
    have hl := h.lt
    rw [List.length_set] at hl
    rcases h with ⟨xs, h⟩ | ⟨xs, h⟩
    · rw [List.getElem?_set_self hl] at h; cases h; exact .inl ⟨xs, rfl⟩
    · rw [List.getElem?_set_self hl] at h; cases h; exact .inr ⟨xs, rfl⟩
  · right
    refine ⟨e, ?_⟩
    rcases h with ⟨xs, h⟩ | ⟨xs, h⟩
    · rw [List.getElem?_set_ne (Ne.symm e)] at h; exact .inl ⟨xs, h⟩
    · rw [List.getElem?_set_ne (Ne.symm e)] at h; exact .inr ⟨xs, h⟩
theorem SlOk.set {i j : Nat} {s : Sl} {w : Option V} (h : SlOk K g F σ H j s) (e : j ≠ i) : SlOk K g F (σ.set i w) H j s := by
  cases s with
  | un => trivial
  | v d => obtain ⟨v, e1, h⟩ := h; exact ⟨v, by rw [List.getElem?_set_ne (Ne.symm e)]; exact e1, h⟩
  | o xs => obtain ⟨v, e1, h⟩ := h; exact ⟨v, by rw [List.getElem?_set_ne (Ne.symm e)]; exact e1, h⟩
  | io xs => obtain ⟨v, e1, h⟩ := h; exact ⟨v, by rw [List.getElem?_set_ne (Ne.symm e)]; exact e1, h⟩
/-- a slot (not one that was handed in to be changed) is stored -/
theorem OK.put (k : OK K g F env σ H) {i : Nat} {r : Rs} {env' : Ev} (h : RsOK K g F env σ H v r) (e : asgS i r.sl env = some env') : OK K g F env' (σ.set i (some v)) H := by
  unfold asgS at e
  have hi : i < env.length ∧ (∀ xs, env[i]? ≠ some (.io xs)) ∧ env' = env.set i r.sl := by
    split at e
    · cases e
    · rename_i s hs hn
      exact ⟨(List.getElem?_eq_some_iff.mp hn).1, fun xs q => by rw [q] at hn; exact hs xs (Option.some.inj hn).symm, (Option.some.inj e).symm⟩
    · cases e
  obtain ⟨hi, hnio, rfl⟩ := hi
  have hσ : i < σ.length := by rw [← k.len]; exact hi
  have niv : ∀ j a, g.io j = some a → j ≠ i := fun j a q z => by
    subst z
    obtain ⟨xs, q'⟩ := k.ios j a q
    exact hnio xs q'
  refine ⟨k.fH, k.gH, k.f0, k.gro, by simp [k.len], fun j s ej => ?_, fun j1 j2 a o1 o2 e1 e2 => ?_, fun j a q => ?_⟩
  · by_cases hj : j = i
    · subst hj
      rw [List.getElem?_set_self hi] at ej
      cases ej
      cases r with
      | v d => exact ⟨v, by rw [List.getElem?_set_self hσ], h⟩
      | o xs =>
        obtain ⟨a, rfl, hj, ho, _⟩ := h
        exact ⟨a, by rw [List.getElem?_set_self hσ], hj, ho⟩
    · rw [List.getElem?_set_ne (Ne.symm hj)] at ej
      exact (k.slot j s ej).set hj
  · rcases own_set o1 with ⟨z1, w1⟩ | ⟨z1, w1⟩
    · rcases own_set o2 with ⟨z2, w2⟩ | ⟨z2, w2⟩
      · rw [z1, z2]
      · subst z1
        rw [List.getElem?_set_self hσ] at e1
        rw [List.getElem?_set_ne (Ne.symm z2)] at e2
        cases r with
        | v d => rcases w1 with ⟨xs, w⟩ | ⟨xs, w⟩ <;> cases w
        | o xs =>
          obtain ⟨b, rfl, _, _, hs⟩ := h
          cases e1
          exact absurd e2 (hs j2 w2)
    · rcases own_set o2 with ⟨z2, w2⟩ | ⟨z2, w2⟩
      · subst z2
        rw [List.getElem?_set_self hσ] at e2
        rw [List.getElem?_set_ne (Ne.symm z1)] at e1
        cases r with
        | v d => rcases w2 with ⟨xs, w⟩ | ⟨xs, w⟩ <;> cases w
        | o xs =>
          obtain ⟨b, rfl, _, _, hs⟩ := h
          cases e2
          exact absurd e1 (hs j1 w1)
      · rw [List.getElem?_set_ne (Ne.symm z1)] at e1
        rw [List.getElem?_set_ne (Ne.symm z2)] at e2
        exact k.dist j1 j2 a w1 w2 e1 e2
  · obtain ⟨xs, q'⟩ := k.ios j a q
    exact ⟨xs, by rw [List.getElem?_set_ne (Ne.symm (niv j a q))]; exact q'⟩
/-- the list of a slot is changed -/
theorem OK.change (k : OK K g F env σ H) {i : Nat} {s' : Sl} {vs' : List V} {xs' : List D} (hs : (s' = .o xs' ∧ ∃ xs, env[i]? = some (.o xs)) ∨ (s' = .io xs' ∧ ∃ xs, env[i]? = some (.io xs)))
    (ha : σ[i]? = some (some (.ref a))) (hd : Rps K F vs' xs') : OK K g F (env.set i s') σ (upd H a (.lst vs')) := by
  have ow : Own env i := by rcases hs with ⟨_, h⟩ | ⟨_, h⟩; exact .inl h; exact .inr h
  have hi := ow.lt
  obtain ⟨a', vs, e1, h1, h2, h3⟩ := k.own ow
  rw [ha] at e1; cases e1
  have ne : ∀ b o, b ≠ a → H b = some o → (upd H a (.lst vs')) b = some o := fun b o z q => by rw [upd_ne z]; exact q
  refine ⟨fun b o q => ne b o (fun z => by subst z; rw [h2] at q; cases q) (k.fH b o q), fun b o q => ne b o (fun z => by subst z; rw [h3] at q; cases q) (k.gH b o q), k.f0, k.gro, by simp [k.len], fun j s ej => ?_, fun j1 j2 b o1 o2 q1 q2 => ?_, fun j b q => ?_⟩
  · by_cases hj : j = i
    · subst hj
      rw [List.getElem?_set_self hi] at ej
      cases ej
      rcases hs with ⟨rfl, xs, h⟩ | ⟨rfl, xs, h⟩
      · obtain ⟨b, q1, q2, _⟩ := k.slot j _ h
        rw [ha] at q1; cases q1
        exact ⟨a, ha, q2, vs', upd_same, h2, h3, hd⟩
      · obtain ⟨b, q1, q2, _⟩ := k.slot j _ h
        rw [ha] at q1; cases q1
        exact ⟨a, ha, q2, vs', upd_same, h2, h3, hd⟩
    · rw [List.getElem?_set_ne (Ne.symm hj)] at ej
      refine (k.slot j s ej).mono (Same.refl _) fun b ws q1 q2 _ qσ qo => ⟨ne b _ (fun z => ?_) q1, q2⟩
      subst z
      exact hj (k.dist j i b (by rcases qo with ⟨xs, rfl⟩ | ⟨xs, rfl⟩; exact .inl ⟨xs, ej⟩; exact .inr ⟨xs, ej⟩) ow qσ ha)
  · have back : ∀ j, Own (env.set i s') j → Own env j := fun j h => by
      rcases own_set h with ⟨z, _⟩ | ⟨_, z⟩
      · rw [z]; exact ow
      · exact z
    exact k.dist j1 j2 b (back _ o1) (back _ o2) q1 q2
  · obtain ⟨xs, q'⟩ := k.ios j b q
    by_cases hj : j = i
    · subst hj
      rcases hs with ⟨_, ys, h⟩ | ⟨rfl, ys, h⟩
      · rw [h] at q'; cases q'
      · exact ⟨xs', by rw [List.getElem?_set_self hi]⟩
    · exact ⟨xs, by rw [List.getElem?_set_ne (Ne.symm hj)]; exact q'⟩
/-- a slot's own list becomes a value -/
theorem OK.flip (k : OK K g F env σ H) {i : Nat} {xs : List D} (h : env[i]? = some (.o xs)) : ∃ v F', σ[i]? = some (some v) ∧ OK K g F' (env.set i (.v (.list xs))) σ H ∧ Same F F' ∧ Rp K F' v (.list xs) := by
  obtain ⟨a, e, hj, vs, h1, h2, h3, h4⟩ := k.slot i _ h
  have hi : i < env.length := (List.getElem?_eq_some_iff.mp h).1
  have dp : Rp K (upd F a (.lst vs)) (.ref a) (.list xs) := .lst (.inl (.inl upd_same)) (dps_mono (same_upd h2) h4)
  refine ⟨.ref a, upd F a (.lst vs), e, ?_, same_upd h2, dp⟩
  have back : ∀ j, Own (env.set i (.v (.list xs))) j → j ≠ i ∧ Own env j := fun j q => by
    rcases own_set q with ⟨_, ⟨_, z⟩ | ⟨_, z⟩⟩ | z
    · cases z
    · cases z
    · exact z
  refine ⟨fun b x q => ?_, k.gH, k.f0.trans (same_upd h2), fun b x q => ?_, by simp [k.len], fun j s ej => ?_, fun j1 j2 b o1 o2 q1 q2 => k.dist j1 j2 b (back _ o1).2 (back _ o2).2 q1 q2, fun j b q => ?_⟩
  · by_cases hb : b = a
    · subst hb; rw [upd_same] at q; rw [h1]; exact q
    · rw [upd_ne hb] at q; exact k.fH b x q
  · by_cases hb : b = a
    · subst hb; exact .inr ⟨h3, hj⟩
    · rw [upd_ne hb] at q; exact k.gro b x q
  · by_cases hji : j = i
    · subst hji
      rw [List.getElem?_set_self hi] at ej
      cases ej
      exact ⟨.ref a, e, dp⟩
    · rw [List.getElem?_set_ne (Ne.symm hji)] at ej
      refine (k.slot j s ej).mono (same_upd h2) fun b ws q1 q2 _ qσ qo => ⟨q1, ?_⟩
      by_cases hb : b = a
      · subst hb
        exact absurd (k.dist j i b (by rcases qo with ⟨xs, rfl⟩ | ⟨xs, rfl⟩; exact .inl ⟨xs, ej⟩; exact .inr ⟨xs, ej⟩) (.inl ⟨xs, h⟩) qσ e) hji
      · rw [upd_ne hb]; exact q2
  · obtain ⟨ys, q'⟩ := k.ios j b q
    refine ⟨ys, ?_⟩
    rw [List.getElem?_set_ne ?_]
    · exact q'
    · intro z; subst z; rw [h] at q'; cases q'

/-! ### operands -/
def HnOK (K : PySem.W.Frag) (F : Hp) (σ : St) : Hn → V → Prop
  | .sl i, v => σ[i]? = some (some v)
  | .v d, v => Rp K F v d
theorem HnOK.mono {h : Hn} (q : HnOK K F σ h v) (f : Same F F') : HnOK K F' σ h v := by
  cases h with
  | sl i => exact q
  | v d => exact dp_mono f q
/-- a value that is frozen, or a list whose items are -/
def BRep (K : PySem.W.Frag) (F H : Hp) (v : V) (d : D) : Prop := Rp K F v d ∨ ∃ a vs xs, v = .ref a ∧ d = .list xs ∧ H a = some (.lst vs) ∧ Rps K F vs xs
theorem BRep.rp (b : BRep K F H v d) (f : Same F H) : Rp K H v d := by
  rcases b with b | ⟨a, vs, xs, rfl, rfl, h1, h2⟩
  · exact dp_mono f b
  · exact .lst (.inl (.inl h1)) (dps_mono f h2)
theorem OK.brep (k : OK K g F env σ H) {h : Hn} (q : HnOK K F σ h v) (e : h.get env = some d) : BRep K F H v d := by
  cases h with
  | v d' => cases e; exact .inl q
  | sl i =>
    have e : slD env[i]? = some d := e
    cases es : env[i]? with
    | none => rw [es] at e; cases e
    | some s =>
      rw [es] at e
      have q : σ[i]? = some (some v) := q
      cases s with
      | un => cases e
      | v d' =>
        cases e
        obtain ⟨w, q1, q2⟩ := k.slot i _ es
        rw [q] at q1; cases q1; exact .inl q2
      | o xs =>
        cases e
        obtain ⟨a, q1, _, vs, h1, _, _, h4⟩ := k.slot i _ es
        rw [q] at q1; cases q1; exact .inr ⟨a, vs, xs, rfl, rfl, h1, h4⟩
      | io xs =>
        cases e
        obtain ⟨a, q1, _, vs, h1, _, _, h4⟩ := k.slot i _ es
        rw [q] at q1; cases q1; exact .inr ⟨a, vs, xs, rfl, rfl, h1, h4⟩
theorem BRep.int {i : Int} (b : BRep K F H v (.int i)) : v = .int i := by
  rcases b with b | ⟨_, _, _, _, e, _⟩
  · cases b; rfl
  · cases e
theorem BRep.str {i : Str} (b : BRep K F H v (.str i)) : v = .str i := by
  rcases b with b | ⟨_, _, _, _, e, _⟩
  · cases b; rfl
  · cases e
theorem BRep.bool {i : Bool} (b : BRep K F H v (.bool i)) : v = .bl i := by
  rcases b with b | ⟨_, _, _, _, e, _⟩
  · cases b; rfl
  · cases e
theorem BRep.none (b : BRep K F H v .none) : v = .non := by
  rcases b with b | ⟨_, _, _, _, e, _⟩
  · cases b; rfl
  · cases e
theorem BRep.list {xs : List D} (b : BRep K F H v (.list xs)) (f : Same F H) : ∃ a vs, v = .ref a ∧ SqL K H a vs ∧ Rps K F vs xs := by
  rcases b with b | ⟨a, vs, ys, e1, e, h1, h2⟩
  · cases b with
    | lst s h => exact ⟨_, _, rfl, Same.seqL f s, h⟩
  · cases e; exact ⟨a, vs, e1, .inl (.inl h1), h2⟩
theorem BRep.tup {xs : List D} (b : BRep K F H v (.tuple xs)) (f : Same F H) : ∃ a vs, v = .ref a ∧ SqT K H a vs ∧ SqT K F a vs ∧ Rps K F vs xs := by
  rcases b with b | ⟨a, vs, ys, e1, e, h1, h2⟩
  · cases b with
    | tup s h => exact ⟨_, _, rfl, Same.seqT f s, s, h⟩
  · cases e
/-- what is wanted of a result -/
def Fin (K : PySem.W.Frag) (g : Gh) (F : Hp) (env : Ev) (σ : St) (Q : VK) (r : Rs) : Prop := ∀ v F' H', OK K g F' env σ H' → Same F F' → RsOK K g F' env σ H' v r → Q v H'
theorem Fin.val {Q : VK} (q : Fin K g F env σ Q (.v d)) (k : OK K g F env σ H) (h : Rp K F v d) : Q v H := q v F H k (Same.refl _) h
/-- a new tuple -/
theorem Fin.newT {Q : VK} {xs : List D} {vs : List V} (q : Fin K g F env σ Q (.v (.tuple xs))) (k : OK K g F env σ H) (h : Rps K F vs xs) (hp : H p = none) : Q (.ref p) (upd H p (.tup vs)) :=
  q _ _ _ (k.allocF hp) (same_upd (k.fF hp)) (.tup (.inl (.inl upd_same)) (dps_mono (same_upd (k.fF hp)) h))
/-- a new list -/
theorem Fin.newL {Q : VK} {xs : List D} {vs : List V} (q : Fin K g F env σ Q (.o xs)) (k : OK K g F env σ H) (h : Rps K F vs xs) (hp : H p = none) : Q (.ref p) (upd H p (.lst vs)) :=
  q _ _ _ (k.alloc hp) (Same.refl _) ⟨p, rfl, k.fio hp, ⟨vs, upd_same, k.fF hp, k.fG hp, h⟩, k.fown hp⟩
end
end KX

set_option Elab.async false
set_option linter.all false
set_option maxHeartbeats 1000000
/-! KB2: the operations by values. -/
namespace KX
open PySem PySem.Spec PyProof.Rows L2
abbrev Op2 := D → D → Option Rs
abbrev Op1 := D → Option Rs
abbrev R1 := V → Hp → VK → Prop
def Res2 (K : PySem.W.Frag) (r : R2) (op : Op2) : Prop := ∀ (g : Gh) (F : Hp) (env : Ev) (σ : St) (H : Hp) (x y : V) (d e : D) (r' : Rs) (Q : VK),
  OK K g F env σ H → BRep K F H x d → BRep K F H y e → op d e = some r' → Fin K g F env σ Q r' → r x y H Q
def Res1 (K : PySem.W.Frag) (r : R1) (op : Op1) : Prop := ∀ (g : Gh) (F : Hp) (env : Ev) (σ : St) (H : Hp) (x : V) (d : D) (r' : Rs) (Q : VK),
  OK K g F env σ H → BRep K F H x d → op d = some r' → Fin K g F env σ Q r' → r x H Q
section
variable {X : Cx}
def rCatR (K : PySem.W.Frag) : R2 := fun x y H Q => ∃ l b xs zs, x = .ref l ∧ y = .ref b ∧ SqL K H l xs ∧ SqL K H b zs ∧ xs.length + zs.length ≤ sizeLine ∧ ∀ p, H p = none → Q (.ref p) (upd H p (.lst (xs ++ zs)))
theorem op_catR : OpR X (binaryOp .Add) (rCatR X.K) := by
  intro pins s σ H x y v u Q I rx ry h
  obtain ⟨l, b, xs, zs, rfl, rfl, hl, hb, hz, q⟩ := h
  cases rx; cases ry
  obtain ⟨its, rv, pl, _⟩ := I.list hl
  obtain ⟨its2, rv2, pl2, _⟩ := I.list hb
  have l1 := rv.length
  have l2 := rv2.length
  obtain ⟨⟨cls, dd, data, sll⟩, n, ho, hc, hx, hd⟩ := pl
  obtain ⟨⟨cls2, dd2, data2, sl2⟩, n2, ho2, hc2, hx2, hd2⟩ := pl2
  simp only at hc hd hc2 hd2
  subst hc hd hc2 hd2
  refine concat_meets ⟨_, ho, rfl⟩ ⟨_, ho2, rfl⟩ noFill_list_add seq_list_add PySem.F.slot_list_add PySem.F.entry_list_add (PySem.F.args_list_add_2 _ _) (list_addW l b its.toArray its2.toArray n n2 dd dd2 sll sl2 (by simp only [List.size_toArray]; omega)) ⟨ho, ho2, ?_⟩
  rw [show its.toArray ++ its2.toArray = (its ++ its2).toArray by simp]
  exact ⟨V.ref _, _, I.lnew (t' := s.toks) (rv.append rv2) (by rw [List.length_append]; exact hz), rfl, q _ I.fresh⟩
def rInT (K : PySem.W.Frag) (neg : Bool) : R2 := fun x y H Q => ∃ d ds, Dp K H x d ∧ Dp K H y (.tuple ds) ∧ SeqAt.shaped d = true ∧ SeqAt.shaped (.tuple ds) = true ∧ Q (.bl (if neg then !ds.any fun z => PyData.eqv z d else ds.any fun z => PyData.eqv z d)) H
theorem op_inT (hu : X.A.units + 65 < cLine) : OpR X (compareOp .In) (rInT X.K false) := by
  intro pins s σ H x y v u Q I rx ry h
  obtain ⟨d, ds, hd, he, sd, se, q⟩ := h
  obtain ⟨as, a1⟩ := Dp.reads I _ _ _ hd rx
  obtain ⟨bs, a2⟩ := Dp.reads I _ _ _ he ry
  exact SeqAt.in_tuple_reads a2 a1 (SeqAt.canLay_of_shaped se) (SeqAt.canLay_of_shaped sd) (room_in_shaped sd hu) ⟨V.bl _, _, I, rfl, q⟩
theorem op_notInT (hu : X.A.units + 65 < cLine) : OpR X (compareOp .NotIn) (rInT X.K true) := by
  intro pins s σ H x y v u Q I rx ry h
  obtain ⟨d, ds, hd, he, sd, se, q⟩ := h
  obtain ⟨as, a1⟩ := Dp.reads I _ _ _ hd rx
  obtain ⟨bs, a2⟩ := Dp.reads I _ _ _ he ry
  exact SeqAt.notIn_tuple_reads a2 a1 (SeqAt.canLay_of_shaped se) (SeqAt.canLay_of_shaped sd) (room_in_shaped sd hu) ⟨V.bl _, _, I, rfl, q⟩
end
structure Op2Ok (X : Cx) (f : Value → Value → Sem Value) (op : Op2) : Prop where
  ex : ∃ r, OpR X f r ∧ Res2 X.K r op
structure Op1Ok (X : Cx) (f : Value) (op : Op1) : Prop where
  ex : ∃ r, CallR X f (fun xs H Q => ∃ x, xs = [x] ∧ r x H Q) ∧ Res1 X.K r op

/-! ### two places -/
theorem mulOk_of {i j : Int} (h : mulOk i j = true) : CMul i j ∨ CMulW i j := by
  unfold mulOk at h
  simp only [Bool.or_eq_true, Bool.and_eq_true, decide_eq_true_eq] at h
  unfold CMul
  rcases h with (h | h) | ⟨h1, h2⟩
  · exact .inl (.inl (by omega))
  · exact .inl (.inr (by omega))
  · exact .inr (wide_mul h1 h2 (by decide) (by decide) (by decide))
section
variable {X : Cx}
theorem o_add : Op2Ok X (binaryOp .Add) (binR .add) := by
  refine ⟨_, op_add.or (op_add_str.or (op_catA.or op_catR)), fun g F env σ H x y d e r Q k bx by' ho f => ?_⟩
  cases d <;> cases e <;> simp [binR, binD] at ho
  · rename_i i j
    subst ho
    cases bx.int; cases by'.int
    exact .inl ⟨i, j, rfl, rfl, f.val k (.int _)⟩
  · rename_i i j
    obtain ⟨hz, rfl⟩ := ho
    cases bx.str; cases by'.str
    exact .inr (.inl ⟨i, j, rfl, rfl, hz, f.val k (.str _)⟩)
  · rename_i ds es
    obtain ⟨hz, rfl⟩ := ho
    obtain ⟨a, vs, rfl, s1, p1⟩ := bx.list k.fH
    obtain ⟨b, ws, rfl, s2, p2⟩ := by'.list k.fH
    refine .inr (.inr (.inr ⟨a, b, vs, ws, rfl, rfl, s1, s2, by rw [dps_len p1, dps_len p2]; exact hz, fun p hp => ?_⟩))
    exact f.newL k (dps_append p1 p2) hp
  · rename_i ds es
    obtain ⟨hz, rfl⟩ := ho
    obtain ⟨a, vs, rfl, s1, s1', p1⟩ := bx.tup k.fH
    obtain ⟨b, ws, rfl, s2, s2', p2⟩ := by'.tup k.fH
    refine .inr (.inr (.inl ⟨a, b, vs, ws, rfl, rfl, s1, s2, by rw [dps_len p1, dps_len p2]; exact hz, fun h => ?_, fun h h' => ?_, fun _ _ p hp => f.newT k (dps_append p1 p2) hp⟩))
    · subst h
      cases p1
      exact f.val k (.tup s2' p2)
    · subst h'
      cases p2
      rw [List.append_nil] at f
      exact f.val k (.tup s1' p1)
theorem o_sub : Op2Ok X (binaryOp .Sub) (binR .sub) := by
  refine ⟨_, op_sub, fun g F env σ H x y d e r Q k bx by' ho f => ?_⟩
  cases d <;> cases e <;> simp [binR, binD] at ho
  rename_i i j
  subst ho
  cases bx.int; cases by'.int
  exact ⟨i, j, rfl, rfl, f.val k (.int _)⟩
theorem o_mul : Op2Ok X (binaryOp .Mult) (binR .mul) := by
  refine ⟨_, op_mul.or (op_mulW.or op_repT), fun g F env σ H x y d e r Q k bx by' ho f => ?_⟩
  cases d <;> cases e <;> simp [binR, binD] at ho
  · rename_i i j
    obtain ⟨hm, rfl⟩ := ho
    cases bx.int; cases by'.int
    rcases mulOk_of hm with h | h
    · exact .inl ⟨i, j, rfl, rfl, h, f.val k (.int _)⟩
    · exact .inr (.inl ⟨i, j, rfl, rfl, h, f.val k (.int _)⟩)
  · rename_i ds j
    obtain ⟨⟨h1, h2, h3, h4⟩, rfl⟩ := ho
    obtain ⟨a, vs, rfl, s1, s1', p1⟩ := bx.tup k.fH
    cases by'.int
    have l1 := dps_len p1
    refine .inr (.inr ⟨a, j, vs, rfl, rfl, s1, fun e => ?_, h2, h3, by omega, fun p hp => f.newT k (dps_replicate p1 _) hp⟩)
    subst e
    cases p1
    exact h1 rfl
theorem o_fdiv : Op2Ok X (binaryOp .FloorDiv) (binR .fdiv) := by
  refine ⟨_, op_fdivW.or op_fdivN, fun g F env σ H x y d e r Q k bx by' ho f => ?_⟩
  cases d <;> cases e <;> simp only [binR, binD, Option.map_none] at ho <;> try (cases ho; done)
  rename_i i j
  cases bx.int; cases by'.int
  split at ho
  · rename_i h
    cases ho
    exact .inl ⟨i, j, rfl, rfl, wide_div (b := 4000) h.1 h.2 (by decide) (by decide), f.val k (.int _)⟩
  · split at ho
    · rename_i h
      cases ho
      exact .inr ⟨i, j, rfl, rfl, ⟨h.1, by omega⟩, f.val k (.int _)⟩
    · cases ho
theorem o_mod : Op2Ok X (binaryOp .Mod) (binR .mod) := by
  refine ⟨_, op_mod.or op_modN, fun g F env σ H x y d e r Q k bx by' ho f => ?_⟩
  cases d <;> cases e <;> simp only [binR, binD, Option.map_none] at ho <;> try (cases ho; done)
  rename_i i j
  cases bx.int; cases by'.int
  split at ho
  · rename_i h
    cases ho
    exact .inl ⟨i, j, rfl, rfl, h, f.val k (.int _)⟩
  · split at ho
    · rename_i h
      cases ho
      exact .inr ⟨i, j, rfl, rfl, h, f.val k (.int _)⟩
    · cases ho
theorem o_shl : Op2Ok X (binaryOp .LShift) (binR .shl) := by
  refine ⟨_, op_shl, fun g F env σ H x y d e r Q k bx by' ho f => ?_⟩
  cases d <;> cases e <;> simp only [binR, binD, Option.map_none] at ho <;> try (cases ho; done)
  rename_i i j
  cases bx.int; cases by'.int
  split at ho
  · rename_i h
    cases ho
    exact ⟨i, j, rfl, rfl, h, f.val k (.int _)⟩
  · cases ho
theorem o_shr : Op2Ok X (binaryOp .RShift) (binR .shr) := by
  refine ⟨_, op_shr, fun g F env σ H x y d e r Q k bx by' ho f => ?_⟩
  cases d <;> cases e <;> simp only [binR, binD, Option.map_none] at ho <;> try (cases ho; done)
  rename_i i j
  cases bx.int; cases by'.int
  split at ho
  · rename_i h
    cases ho
    exact ⟨i, j, rfl, rfl, h, f.val k (.int _)⟩
  · cases ho
def bopOf : BOp → Operator
  | .add => .Add | .sub => .Sub | .mul => .Mult | .fdiv => .FloorDiv | .mod => .Mod | .shl => .LShift | .shr => .RShift
theorem o_bin (op : BOp) : Op2Ok X (binaryOp (bopOf op)) (binR op) := by
  cases op
  · exact o_add
  · exact o_sub
  · exact o_mul
  · exact o_fdiv
  · exact o_mod
  · exact o_shl
  · exact o_shr
/-! ### comparisons -/
def cmpR (op : COp) : Op2 := fun d e => (cmpD op d e).map fun b => .v (.bool b)
theorem eqD_of {a b : D} {c : Bool} (h : eqD a b = some c) : SeqAt.shaped a = true ∧ SeqAt.shaped b = true ∧ PyData.eqv a b = c := by
  unfold eqD at h
  split at h
  · rename_i z; exact ⟨z.1, z.2, Option.some.inj h⟩
  · cases h
theorem o_eq (hu : X.A.units + 65 < cLine) : Op2Ok X (compareOp .Eq) (cmpR .eq) := by
  refine ⟨_, op_eqD (by omega), fun g F env σ H x y d e r Q k bx by' ho f => ?_⟩
  simp only [cmpR, cmpD, Option.map_eq_some_iff] at ho
  obtain ⟨c, h, rfl⟩ := ho
  obtain ⟨h1, h2, rfl⟩ := eqD_of h
  exact ⟨d, e, (bx.rp k.fH).dp, (by'.rp k.fH).dp, h1, h2, f.val k (.bl _)⟩
theorem o_ne (hu : X.A.units + 65 < cLine) : Op2Ok X (compareOp .NotEq) (cmpR .ne) := by
  refine ⟨_, op_neD (by omega), fun g F env σ H x y d e r Q k bx by' ho f => ?_⟩
  simp only [cmpR, cmpD, Option.map_eq_some_iff] at ho
  obtain ⟨c, ⟨c', h, rfl⟩, rfl⟩ := ho
  obtain ⟨h1, h2, rfl⟩ := eqD_of h
  exact ⟨d, e, (bx.rp k.fH).dp, (by'.rp k.fH).dp, h1, h2, f.val k (.bl _)⟩
theorem o_lt : Op2Ok X (compareOp .Lt) (cmpR .lt) := by
  refine ⟨_, op_lt, fun g F env σ H x y d e r Q k bx by' ho f => ?_⟩
  cases d <;> cases e <;> simp [cmpR, cmpD] at ho
  subst ho
  cases bx.int; cases by'.int
  exact ⟨_, _, rfl, rfl, f.val k (.bl _)⟩
theorem o_le : Op2Ok X (compareOp .LtE) (cmpR .le) := by
  refine ⟨_, op_le, fun g F env σ H x y d e r Q k bx by' ho f => ?_⟩
  cases d <;> cases e <;> simp [cmpR, cmpD] at ho
  subst ho
  cases bx.int; cases by'.int
  exact ⟨_, _, rfl, rfl, f.val k (.bl _)⟩
theorem o_gt : Op2Ok X (compareOp .Gt) (cmpR .gt) := by
  refine ⟨_, op_gt, fun g F env σ H x y d e r Q k bx by' ho f => ?_⟩
  cases d <;> cases e <;> simp [cmpR, cmpD] at ho
  subst ho
  cases bx.int; cases by'.int
  exact ⟨_, _, rfl, rfl, f.val k (.bl _)⟩
theorem o_ge : Op2Ok X (compareOp .GtE) (cmpR .ge) := by
  refine ⟨_, op_ge, fun g F env σ H x y d e r Q k bx by' ho f => ?_⟩
  cases d <;> cases e <;> simp [cmpR, cmpD] at ho
  subst ho
  cases bx.int; cases by'.int
  exact ⟨_, _, rfl, rfl, f.val k (.bl _)⟩
theorem brep_non {K : PySem.W.Frag} {F H : Hp} {x : V} {d : D} (b : BRep K F H x d) : decide (x = .non) = isNonD d := by
  rcases b with b | ⟨a, vs, xs, rfl, rfl, _⟩
  · cases b <;> rfl
  · rfl
theorem o_is : Op2Ok X (compareOp .Is) (cmpR .is_) := by
  refine ⟨_, op_isN, fun g F env σ H x y d e r Q k bx by' ho f => ?_⟩
  cases e <;> simp only [cmpR, cmpD, Option.map_none, Option.map_some] at ho <;> try (cases ho; done)
  cases ho
  cases by'.none
  refine ⟨rfl, ?_⟩
  rw [brep_non bx]
  exact f.val k (.bl _)
theorem o_isn : Op2Ok X (compareOp .IsNot) (cmpR .isn) := by
  refine ⟨_, op_notN, fun g F env σ H x y d e r Q k bx by' ho f => ?_⟩
  cases e <;> simp only [cmpR, cmpD, Option.map_none, Option.map_some] at ho <;> try (cases ho; done)
  cases ho
  cases by'.none
  refine ⟨rfl, ?_⟩
  rw [brep_non bx]
  exact f.val k (.bl _)
theorem inD_of {a b : D} {c : Bool} (h : inD a b = some c) : SeqAt.shaped a = true ∧ SeqAt.shaped b = true ∧ ∃ ds, (b = .list ds ∨ b = .tuple ds) ∧ (ds.any fun z => PyData.eqv z a) = c := by
  unfold inD at h
  split at h
  · split at h
    · rename_i z; exact ⟨z.1, z.2, _, .inl rfl, Option.some.inj h⟩
    · cases h
  · split at h
    · rename_i z; exact ⟨z.1, z.2, _, .inr rfl, Option.some.inj h⟩
    · cases h
  · cases h
theorem o_in (hu : X.A.units + 65 < cLine) : Op2Ok X (compareOp .In) (cmpR .inn) := by
  refine ⟨_, (op_inD hu).or (op_inT hu), fun g F env σ H x y d e r Q k bx by' ho f => ?_⟩
  simp only [cmpR, cmpD, Option.map_eq_some_iff] at ho
  obtain ⟨c, h, rfl⟩ := ho
  obtain ⟨h1, h2, ds, rfl | rfl, rfl⟩ := inD_of h
  · exact .inl ⟨d, ds, (bx.rp k.fH).dp, (by'.rp k.fH).dp, h1, h2, f.val k (.bl _)⟩
  · exact .inr ⟨d, ds, (bx.rp k.fH).dp, (by'.rp k.fH).dp, h1, h2, f.val k (.bl _)⟩
theorem o_nin (hu : X.A.units + 65 < cLine) : Op2Ok X (compareOp .NotIn) (cmpR .nin) := by
  refine ⟨_, (op_notInD hu).or (op_notInT hu), fun g F env σ H x y d e r Q k bx by' ho f => ?_⟩
  simp only [cmpR, cmpD, Option.map_eq_some_iff] at ho
  obtain ⟨c, ⟨c', h, rfl⟩, rfl⟩ := ho
  obtain ⟨h1, h2, ds, rfl | rfl, rfl⟩ := inD_of h
  · exact .inl ⟨d, ds, (bx.rp k.fH).dp, (by'.rp k.fH).dp, h1, h2, f.val k (.bl _)⟩
  · exact .inr ⟨d, ds, (bx.rp k.fH).dp, (by'.rp k.fH).dp, h1, h2, f.val k (.bl _)⟩
def copOf : COp → CmpOp
  | .lt => .Lt | .le => .LtE | .gt => .Gt | .ge => .GtE | .eq => .Eq | .ne => .NotEq | .is_ => .Is | .isn => .IsNot | .inn => .In | .nin => .NotIn
theorem o_cmp (hu : X.A.units + 65 < cLine) (op : COp) : Op2Ok X (compareOp (copOf op)) (cmpR op) := by
  cases op
  · exact o_lt
  · exact o_le
  · exact o_gt
  · exact o_ge
  · exact o_eq hu
  · exact o_ne hu
  · exact o_is
  · exact o_isn
  · exact o_in hu
  · exact o_nin hu
end
/-! ### places -/
section
variable {X : Cx}
theorem atI_map {α β : Type} {R : α → β → Prop} {xs : List α} {ys : List β} {i : Int} {y : β} (hl : xs.length = ys.length) (h : ∀ (j : Nat) (y : β), ys[j]? = some y → ∃ x, xs[j]? = some x ∧ R x y) (e : atI ys i = some y) : ∃ x, atI xs i = some x ∧ R x y := by
  unfold atI at e ⊢
  rw [hl]
  cases q : ixN ys.length i with
  | none => rw [q] at e; cases e
  | some j => rw [q] at e; exact h j y e
theorem o_idx : ∃ r, IxR X r ∧ Res2 X.K r (fun d e => (idxD d e).map .v) := by
  refine ⟨_, ix_seq, fun g F env σ H x y d e r Q k bx by' ho f => ?_⟩
  cases d <;> cases e <;> simp only [idxD, Option.map_none] at ho <;> try (cases ho; done)
  · rename_i z i
    cases bx.str; cases by'.int
    split at ho
    · rename_i hz
      simp only [Option.map_eq_some_iff] at ho
      obtain ⟨_, ⟨c, h, rfl⟩, rfl⟩ := ho
      exact .inr (.inr ⟨z, i, c, rfl, rfl, hz, h, f.val k (.str _)⟩)
    · cases ho
  · rename_i ds i
    simp only [Option.map_eq_some_iff] at ho
    obtain ⟨d, h, rfl⟩ := ho
    obtain ⟨a, vs, rfl, s1, p1⟩ := bx.list k.fH
    cases by'.int
    obtain ⟨v, h1, h2⟩ := atI_map (dps_len p1) (fun j y e => dps_get p1 e) h
    exact .inl ⟨a, vs, i, v, rfl, rfl, s1, h1, f.val k h2⟩
  · rename_i ds i
    simp only [Option.map_eq_some_iff] at ho
    obtain ⟨d, h, rfl⟩ := ho
    obtain ⟨a, vs, rfl, s1, s1', p1⟩ := bx.tup k.fH
    cases by'.int
    obtain ⟨v, h1, h2⟩ := atI_map (dps_len p1) (fun j y e => dps_get p1 e) h
    exact .inr (.inl ⟨a, vs, i, v, rfl, rfl, s1, h1, f.val k h2⟩)
theorem cutL_rps {K : PySem.W.Frag} {H : Hp} {vs : List V} {ds : List D} {lo hi : Option Int} (h : Rps K H vs ds) : Rps K H (cutV vs lo hi) (cutL ds lo hi) := by
  unfold cutV cutL
  rw [dps_len h]
  exact dps_take _ (dps_drop _ h)
def ResS (K : PySem.W.Frag) (r : V → Option Int → Option Int → Hp → VK → Prop) (op : D → Option Int → Option Int → Option Rs) : Prop := ∀ (g : Gh) (F : Hp) (env : Ev) (σ : St) (H : Hp) (x : V) (d : D) (lo hi : Option Int) (r' : Rs) (Q : VK),
  OK K g F env σ H → BRep K F H x d → op d lo hi = some r' → Fin K g F env σ Q r' → r x lo hi H Q
theorem o_slice : ∃ r, SlR X r ∧ ResS X.K r sliceR := by
  refine ⟨_, sl_list.or (sl_tupA.or sl_str), fun g F env σ H x d lo hi r Q k bx ho f => ?_⟩
  cases d <;> simp only [sliceR] at ho <;> try (cases ho; done)
  · rename_i z
    split at ho
    · rename_i hz
      cases ho
      cases bx.str
      exact .inr (.inr ⟨z, rfl, hz, f.val k (.str _)⟩)
    · cases ho
  · rename_i ds
    cases ho
    obtain ⟨a, vs, rfl, s1, p1⟩ := bx.list k.fH
    exact .inl ⟨a, vs, rfl, s1, fun p hp => f.newL k (cutL_rps p1) hp⟩
  · rename_i ds
    cases ho
    obtain ⟨a, vs, rfl, s1, s1', p1⟩ := bx.tup k.fH
    refine .inr (.inl ⟨a, vs, rfl, s1, fun h => ?_, fun _ p hp => f.newT k (cutL_rps p1) hp⟩)
    have e : cutL ds lo hi = ds := by
      unfold cutL
      rw [← dps_len p1, h.1, h.2]
      simp [dps_len p1]
    rw [e] at f
    exact f.val k (.tup s1' p1)
end
end KX

set_option Elab.async false
set_option linter.all false
set_option maxHeartbeats 1000000
/-! KB3: built-in functions by values. -/
namespace KX
open PySem PySem.Spec PyProof.Rows L2
/-- a built-in function of one value -/
def B1Ok (X : Cx) (f : Value) (op : Op1) : Prop := ∃ r : List V → Hp → VK → Prop, CallR X f r ∧ ∀ (g : Gh) (F : Hp) (env : Ev) (σ : St) (H : Hp) (x : V) (d : D) (r' : Rs) (Q : VK),
  OK X.K g F env σ H → BRep X.K F H x d → op d = some r' → Fin X.K g F env σ Q r' → r [x] H Q
def B2Ok (X : Cx) (f : Value) (op : Op2) : Prop := ∃ r : List V → Hp → VK → Prop, CallR X f r ∧ ∀ (g : Gh) (F : Hp) (env : Ev) (σ : St) (H : Hp) (x y : V) (d e : D) (r' : Rs) (Q : VK),
  OK X.K g F env σ H → BRep X.K F H x d → BRep X.K F H y e → op d e = some r' → Fin X.K g F env σ Q r' → r [x, y] H Q

/-! ### the greatest, the least, sorting -/
theorem maxL_spec : ∀ (r : List Int) (m : Int), (maxL m r = m ∨ maxL m r ∈ r) ∧ m ≤ maxL m r ∧ ∀ y ∈ r, y ≤ maxL m r
  | [], m => ⟨.inl rfl, Int.le_refl _, fun _ h => nomatch h⟩
  | x :: r, m => by
    obtain ⟨h1, h2, h3⟩ := maxL_spec r (if x > m then x else m)
    show (maxL (if x > m then x else m) r = m ∨ maxL (if x > m then x else m) r ∈ x :: r) ∧ m ≤ maxL (if x > m then x else m) r ∧ ∀ y ∈ x :: r, y ≤ maxL (if x > m then x else m) r
    refine ⟨?_, ?_, fun y hy => ?_⟩
    · rcases h1 with h1 | h1
      · rw [h1]; split
        · right; exact List.mem_cons_self
        · left; rfl
      · right; exact List.mem_cons_of_mem _ h1
    · split at h2 <;> split <;> omega
    · rcases List.mem_cons.mp hy with rfl | hy
      · split at h2 <;> split <;> omega
      · exact h3 y hy
theorem minL_spec : ∀ (r : List Int) (m : Int), (minL m r = m ∨ minL m r ∈ r) ∧ minL m r ≤ m ∧ ∀ y ∈ r, minL m r ≤ y
  | [], m => ⟨.inl rfl, Int.le_refl _, fun _ h => nomatch h⟩
  | x :: r, m => by
    obtain ⟨h1, h2, h3⟩ := minL_spec r (if x < m then x else m)
    show (minL (if x < m then x else m) r = m ∨ minL (if x < m then x else m) r ∈ x :: r) ∧ minL (if x < m then x else m) r ≤ m ∧ ∀ y ∈ x :: r, minL (if x < m then x else m) r ≤ y
    refine ⟨?_, ?_, fun y hy => ?_⟩
    · rcases h1 with h1 | h1
      · rw [h1]; split
        · right; exact List.mem_cons_self
        · left; rfl
      · right; exact List.mem_cons_of_mem _ h1
    · split at h2 <;> split <;> omega
    · rcases List.mem_cons.mp hy with rfl | hy
      · split at h2 <;> split <;> omega
      · exact h3 y hy
theorem insI_perm (x : Int) : ∀ l : List Int, (insI x l).Perm (x :: l)
  | [] => .refl _
  | y :: r => by
    unfold insI
    split
    · exact .refl _
    · exact ((insI_perm x r).cons y).trans (.swap x y r)
theorem sortI_perm : ∀ l : List Int, (sortI l).Perm l
  | [] => .refl _
  | x :: r => (insI_perm x _).trans ((sortI_perm r).cons x)
theorem insI_sorted (x : Int) : ∀ l : List Int, l.Pairwise (· ≤ ·) → (insI x l).Pairwise (· ≤ ·)
  | [], _ => by simp [insI]
  | y :: r, h => by
    unfold insI
    rw [List.pairwise_cons] at h
    split
    · rename_i hxy
      refine List.pairwise_cons.mpr ⟨fun z hz => ?_, List.pairwise_cons.mpr h⟩
      rcases List.mem_cons.mp hz with rfl | hz
      · exact hxy
      · exact Int.le_trans hxy (h.1 z hz)
    · rename_i hxy
      refine List.pairwise_cons.mpr ⟨fun z hz => ?_, insI_sorted x r h.2⟩
      rcases List.mem_cons.mp ((insI_perm x r).mem_iff.mp hz) with rfl | hz
      · omega
      · exact h.1 z hz
theorem sortI_sorted : ∀ l : List Int, (sortI l).Pairwise (· ≤ ·)
  | [] => .nil
  | x :: r => insI_sorted x _ (sortI_sorted r)
theorem sorted_one : ∀ {l m : List Int}, l.Perm m → l.Pairwise (· ≤ ·) → m.Pairwise (· ≤ ·) → l = m
  | [], m, p, _, _ => p.nil_eq
  | x :: l, m, p, h1, h2 => by
    cases m with
    | nil => exact absurd p.symm.nil_eq (by simp)
    | cons y m =>
      rw [List.pairwise_cons] at h1 h2
      have e : x = y := by
        have a : x ∈ y :: m := p.mem_iff.mp List.mem_cons_self
        have b : y ∈ x :: l := p.mem_iff.mpr List.mem_cons_self
        rcases List.mem_cons.mp a with a | a
        · exact a
        · rcases List.mem_cons.mp b with b | b
          · exact b.symm
          · have := h1.1 y b; have := h2.1 x a; omega
      subst e
      rw [sorted_one (p.cons_inv) h1.2 h2.2]

section
variable {X : Cx}
theorem f_len : B1Ok X (.builtin "len") (b1R .len) := by
  refine ⟨_, call_len_seq.or call_len_str, fun g F env σ H x d r Q k bx ho f => ?_⟩
  cases d <;> simp only [b1R] at ho <;> try (cases ho; done)
  · rename_i z
    split at ho
    · cases ho; cases bx.str
      exact .inr ⟨z, rfl, by assumption, f.val k (.int _)⟩
    · cases ho
  · cases ho
    obtain ⟨a, vs, rfl, s1, p1⟩ := bx.list k.fH
    refine .inl ⟨a, vs, rfl, .inl s1, ?_⟩
    rw [dps_len p1]
    exact f.val k (.int _)
  · cases ho
    obtain ⟨a, vs, rfl, s1, _, p1⟩ := bx.tup k.fH
    refine .inl ⟨a, vs, rfl, .inr s1, ?_⟩
    rw [dps_len p1]
    exact f.val k (.int _)
theorem f_abs : B1Ok X (.builtin "abs") (b1R .abs) := by
  refine ⟨_, call_abs, fun g F env σ H x d r Q k bx ho f => ?_⟩
  cases d <;> simp only [b1R] at ho <;> try (cases ho; done)
  cases ho; cases bx.int
  exact ⟨_, rfl, f.val k (.int _)⟩
theorem f_int : B1Ok X (.type "int") (b1R .int) := by
  refine ⟨_, call_int1, fun g F env σ H x d r Q k bx ho f => ?_⟩
  cases d <;> simp only [b1R] at ho <;> try (cases ho; done)
  · cases ho; cases bx.bool
    exact .inr ⟨_, rfl, f.val k (.int _)⟩
  · cases ho; cases bx.int
    exact .inl ⟨_, rfl, f.val k (.int _)⟩
theorem f_sum (hc : X.calm = true) : B1Ok X (.builtin "sum") (b1R .sum) := by
  refine ⟨_, cr_sum hc, fun g F env σ H x d r Q k bx ho f => ?_⟩
  cases d <;> simp only [b1R, Option.map_eq_some_iff] at ho <;> try (cases ho; done)
  obtain ⟨ns, e, rfl⟩ := ho
  obtain ⟨a, vs, rfl, s1, p1⟩ := bx.list k.fH
  rw [dps_ints p1 e] at s1
  exact ⟨a, ns, rfl, s1, f.val k (.int _)⟩
theorem f_all (hc : X.calm = true) : B1Ok X (.builtin "all") (b1R .all) := by
  refine ⟨_, cr_all hc, fun g F env σ H x d r Q k bx ho f => ?_⟩
  cases d <;> simp only [b1R, Option.map_eq_some_iff] at ho <;> try (cases ho; done)
  obtain ⟨ns, e, rfl⟩ := ho
  obtain ⟨a, vs, rfl, s1, p1⟩ := bx.list k.fH
  rw [dps_bools p1 e] at s1
  exact ⟨a, ns, rfl, s1, f.val k (.bl _)⟩
theorem f_any (hc : X.calm = true) : B1Ok X (.builtin "any") (b1R .any) := by
  refine ⟨_, cr_any hc, fun g F env σ H x d r Q k bx ho f => ?_⟩
  cases d <;> simp only [b1R, Option.map_eq_some_iff] at ho <;> try (cases ho; done)
  obtain ⟨ns, e, rfl⟩ := ho
  obtain ⟨a, vs, rfl, s1, p1⟩ := bx.list k.fH
  rw [dps_bools p1 e] at s1
  exact ⟨a, ns, rfl, s1, f.val k (.bl _)⟩
theorem f_tup : B1Ok X (.type "tuple") (b1R .tup) := by
  refine ⟨_, call_tuple_of, fun g F env σ H x d r Q k bx ho f => ?_⟩
  cases d <;> simp only [b1R] at ho <;> try (cases ho; done)
  · cases ho
    obtain ⟨a, vs, rfl, s1, p1⟩ := bx.list k.fH
    exact ⟨a, vs, rfl, .inl ⟨s1, fun p hp => f.newT k p1 hp⟩⟩
  · cases ho
    obtain ⟨a, vs, rfl, s1, s1', p1⟩ := bx.tup k.fH
    exact ⟨a, vs, rfl, .inr ⟨s1, f.val k (.tup s1' p1)⟩⟩
theorem f_lst : B1Ok X (.type "list") (b1R .lst) := by
  refine ⟨_, call_list_of, fun g F env σ H x d r Q k bx ho f => ?_⟩
  cases d <;> simp only [b1R] at ho <;> try (cases ho; done)
  · cases ho
    obtain ⟨a, vs, rfl, s1, p1⟩ := bx.list k.fH
    exact ⟨a, vs, rfl, .inl s1, fun p hp => f.newL k p1 hp⟩
  · cases ho
    obtain ⟨a, vs, rfl, s1, s1', p1⟩ := bx.tup k.fH
    exact ⟨a, vs, rfl, .inr s1, fun p hp => f.newL k p1 hp⟩
theorem f_sorted : B1Ok X (.builtin "sorted") (b1R .sorted) := by
  refine ⟨_, cr_sortedI, fun g F env σ H x d r Q k bx ho f => ?_⟩
  cases d <;> simp only [b1R, Option.map_eq_some_iff] at ho <;> try (cases ho; done)
  obtain ⟨ns, e, rfl⟩ := ho
  obtain ⟨a, vs, rfl, s1, p1⟩ := bx.list k.fH
  rw [dps_ints p1 e] at s1
  refine ⟨a, ns, rfl, s1, fun ns' p h1 h2 hp => ?_⟩
  rw [sorted_one (h1.trans (sortI_perm ns).symm) h2 (sortI_sorted ns)]
  exact f.newL k (dp_intsI _) hp
theorem maxI_spec {ns : List Int} {m : Int} (h : maxI ns = some m) : 0 < ns.length ∧ m ∈ ns ∧ ∀ y ∈ ns, y ≤ m := by
  cases ns with
  | nil => cases h
  | cons x r =>
    cases h
    obtain ⟨h1, h2, h3⟩ := maxL_spec r x
    refine ⟨Nat.succ_pos _, ?_, fun y hy => ?_⟩
    · rcases h1 with h1 | h1
      · rw [h1]; exact List.mem_cons_self
      · exact List.mem_cons_of_mem _ h1
    · rcases List.mem_cons.mp hy with rfl | hy
      · exact h2
      · exact h3 y hy
theorem minI_spec {ns : List Int} {m : Int} (h : minI ns = some m) : 0 < ns.length ∧ m ∈ ns ∧ ∀ y ∈ ns, m ≤ y := by
  cases ns with
  | nil => cases h
  | cons x r =>
    cases h
    obtain ⟨h1, h2, h3⟩ := minL_spec r x
    refine ⟨Nat.succ_pos _, ?_, fun y hy => ?_⟩
    · rcases h1 with h1 | h1
      · rw [h1]; exact List.mem_cons_self
      · exact List.mem_cons_of_mem _ h1
    · rcases List.mem_cons.mp hy with rfl | hy
      · exact h2
      · exact h3 y hy
theorem f_max (hc : X.calm = true) : B1Ok X (.builtin "max") (b1R .max) := by
  refine ⟨_, cr_max hc, fun g F env σ H x d r Q k bx ho f => ?_⟩
  cases d <;> simp only [b1R, Option.bind_eq_some_iff, Option.map_eq_some_iff] at ho <;> try (cases ho; done)
  obtain ⟨ns, e, m, hm, rfl⟩ := ho
  obtain ⟨a, vs, rfl, s1, p1⟩ := bx.list k.fH
  rw [dps_ints p1 e] at s1
  obtain ⟨h0, h1, h2⟩ := maxI_spec hm
  refine ⟨a, ns, rfl, s1, h0, fun m' h3 h4 => ?_⟩
  rw [show m' = m by have := h4 m h1; have := h2 m' h3; omega]
  exact f.val k (.int _)
theorem f_min (hc : X.calm = true) : B1Ok X (.builtin "min") (b1R .min) := by
  refine ⟨_, cr_min hc, fun g F env σ H x d r Q k bx ho f => ?_⟩
  cases d <;> simp only [b1R, Option.bind_eq_some_iff, Option.map_eq_some_iff] at ho <;> try (cases ho; done)
  obtain ⟨ns, e, m, hm, rfl⟩ := ho
  obtain ⟨a, vs, rfl, s1, p1⟩ := bx.list k.fH
  rw [dps_ints p1 e] at s1
  obtain ⟨h0, h1, h2⟩ := minI_spec hm
  refine ⟨a, ns, rfl, s1, h0, fun m' h3 h4 => ?_⟩
  rw [show m' = m by have := h4 m h1; have := h2 m' h3; omega]
  exact f.val k (.int _)
theorem f_str : B1Ok X (.type "str") (b1R .str) := by
  refine ⟨_, call_str_int, fun g F env σ H x d r Q k bx ho f => ?_⟩
  cases d <;> simp only [b1R] at ho <;> try (cases ho; done)
  split at ho
  · rename_i i h
    cases ho; cases bx.int
    refine ⟨_, rfl, ?_, f.val k (.str _)⟩
    exact Nat.lt_of_lt_of_le (PySem.Flt.log2_lt_of (k := 200) (by decide) h) (by decide)
  · cases ho
theorem f_max2 (hc : X.calm = true) : B2Ok X (.builtin "max") (fun d e => (b2R .max d e).map .v) := by
  refine ⟨_, call_max2 hc, fun g F env σ H x y d e r Q k bx by' ho f => ?_⟩
  cases d <;> cases e <;> simp only [b2R, Option.map_none, Option.map_some] at ho <;> try (cases ho; done)
  cases ho; cases bx.int; cases by'.int
  exact ⟨_, _, rfl, f.val k (.int _)⟩
theorem f_min2 (hc : X.calm = true) : B2Ok X (.builtin "min") (fun d e => (b2R .min d e).map .v) := by
  refine ⟨_, call_min2 hc, fun g F env σ H x y d e r Q k bx by' ho f => ?_⟩
  cases d <;> cases e <;> simp only [b2R, Option.map_none, Option.map_some] at ho <;> try (cases ho; done)
  cases ho; cases bx.int; cases by'.int
  exact ⟨_, _, rfl, f.val k (.int _)⟩
def tyName : Ty → String
  | .int => "int" | .bool => "bool" | .str => "str" | .tuple => "tuple" | .list => "list"
def dName : D → String
  | .none => "NoneType" | .bool _ => "bool" | .int _ => "int" | .str _ => "str" | .list _ => "list" | .tuple _ => "tuple" | .dict _ => "dict"
theorem kitNN : ∀ t : Ty, kitB "NoneType" (tyName t) = some false := by intro t; cases t <;> decide +kernel
theorem kitB' : ∀ t : Ty, kitB "bool" (tyName t) = some (isD (.bool true) t) := by intro t; cases t <;> decide +kernel
theorem kitI : ∀ t : Ty, kitB "int" (tyName t) = some (isD (.int 0) t) := by intro t; cases t <;> decide +kernel
theorem kitS : ∀ t : Ty, kitB "str" (tyName t) = some (isD (.str Str.empty) t) := by intro t; cases t <;> decide +kernel
theorem kitL : ∀ t : Ty, kitB "list" (tyName t) = some (isD (.list []) t) := by intro t; cases t <;> decide +kernel
theorem kitT : ∀ t : Ty, kitB "tuple" (tyName t) = some (isD (.tuple []) t) := by intro t; cases t <;> decide +kernel
theorem tyx_of {K : PySem.W.Frag} {F H : Hp} {x : V} {d : D} {t : Ty} (b : BRep K F H x d) (f : Same F H) : ∃ T, TyX K H x (.type T) ∧ kitB T (tyName t) = some (isD d t) := by
  rcases b with b | ⟨a, vs, xs, rfl, rfl, h, _⟩
  · cases b with
    | non => exact ⟨_, .base .non, by rw [kitNN]; cases t <;> rfl⟩
    | bl c => exact ⟨_, .base (.bl c), by rw [kitB']; cases t <;> rfl⟩
    | int i => exact ⟨_, .base (.int i), by rw [kitI]; cases t <;> rfl⟩
    | str z => exact ⟨_, .base (.str z), by rw [kitS]; cases t <;> rfl⟩
    | lst h _ =>
      rcases h with (h | ⟨o, h⟩) | ⟨o, its, n, h1, h2, _⟩
      · exact ⟨_, .base (.lst (f _ _ h)), by rw [kitL]; cases t <;> rfl⟩
      · exact ⟨_, .base (.frz (f _ _ h)), by rw [kitL]; cases t <;> rfl⟩
      · exact ⟨_, .kList h1 h2, by rw [kitL]; cases t <;> rfl⟩
    | tup h _ =>
      rcases h with (h | ⟨o, h⟩) | ⟨o, its, n, h1, h2, _⟩
      · exact ⟨_, .base (.tup (f _ _ h)), by rw [kitT]; cases t <;> rfl⟩
      · exact ⟨_, .fTuple (f _ _ h), by rw [kitT]; cases t <;> rfl⟩
      · exact ⟨_, .kTuple h1 h2, by rw [kitT]; cases t <;> rfl⟩
  · exact ⟨_, .base (.lst h), by rw [kitL]; cases t <;> rfl⟩
theorem f_isi (t : Ty) : ∃ r : List V → Hp → VK → Prop, CallR X (.builtin "isinstance") r ∧ ∀ (F H : Hp) (x : V) (d : D) (Q : VK), Same F H → BRep X.K F H x d → Q (.bl (isD d t)) H → r [x, .ty (tyName t)] H Q := by
  refine ⟨_, call_isi, fun F H x d Q f b q => ?_⟩
  obtain ⟨T, h1, h2⟩ := tyx_of (t := t) b f
  exact ⟨x, .ty (tyName t), _, _, _, rfl, .ty _, h1, kit_ty h2, q⟩
theorem u_neg : ∃ r : R1, UnR X (unaryOp .USub) r ∧ Res1 X.K r (fun d => (D.int? d).map fun i => .v (.int (-i))) := by
  refine ⟨_, un_neg, fun g F env σ H x d r Q k bx ho f => ?_⟩
  cases d <;> simp only [D.int?, Option.map_none, Option.map_some] at ho <;> try (cases ho; done)
  cases ho; cases bx.int
  exact ⟨_, rfl, f.val k (.int _)⟩
/-- a value's truth -/
theorem tru_of {K : PySem.W.Frag} {F H : Hp} {x : V} {d : D} {b : Bool} (h : BRep K F H x d) (f : Same F H) (e : truD d = some b) : TruV K x H b := by
  cases d <;> simp only [truD] at e <;> try (cases e; done)
  · cases h.none; cases e; rfl
  · cases h.bool; cases e; rfl
  · cases h.int; cases e; rfl
  · cases h.str
    split at e
    · cases e; exact ⟨by assumption, rfl⟩
    · cases e
  · cases e
    obtain ⟨a, vs, rfl, s1, p1⟩ := h.list f
    exact .inl ⟨vs, s1, by cases p1 <;> rfl⟩
  · cases e
    obtain ⟨a, vs, rfl, s1, _, p1⟩ := h.tup f
    exact .inr (.inl ⟨vs, s1, by cases p1 <;> rfl⟩)
end
end KX

set_option Elab.async false
set_option linter.all false
set_option maxHeartbeats 1000000
/-! KB4: expressions: what each form's run says of the machine. -/
namespace KX
open PySem PySem.Spec PyProof.Rows L2
def FinH (K : PySem.W.Frag) (g : Gh) (F : Hp) (env : Ev) (σ : St) (Q : VK) (h : Hn) : Prop := ∀ v F' H', OK K g F' env σ H' → Same F F' → HnOK K F' σ h v → Q v H'
def tE (K : PySem.W.Frag) (c : Ev → Option (Rs × Ev)) : TE := fun σ H Q => ∃ g F env r env', OK K g F env σ H ∧ c env = some (r, env') ∧ Fin K g F env' σ Q r
def tH (K : PySem.W.Frag) (c : Ev → Option (Hn × Ev)) : TE := fun σ H Q => ∃ g F env h env', OK K g F env σ H ∧ c env = some (h, env') ∧ FinH K g F env' σ Q h
def tBo (K : PySem.W.Frag) (c : Ev → Option (Bool × Ev)) : TT := fun σ H Q => ∃ g F env b env', OK K g F env σ H ∧ c env = some (b, env') ∧ ∀ F' H', OK K g F' env' σ H' → Same F F' → Q b H'
/-- a list of frozen values -/
def tAs (K : PySem.W.Frag) (c : Ev → Option (List D × Ev)) : TA := fun σ H Q => ∃ g F env ds env', OK K g F env σ H ∧ c env = some (ds, env') ∧ ∀ vs F' H', OK K g F' env' σ H' → Same F F' → Rps K F' vs ds → Q vs H'
section
variable {X : Cx} {e a b c : Expr} {pos : Pos}
theorem pe_w {t t' : TE} (h : PE X e t) (w : ∀ σ H Q, t' σ H Q → t σ H Q) : PE X e t' := ⟨fun pins s σ H Q I hw => h.run pins s σ H Q I (w σ H Q hw)⟩
theorem pt_w {t t' : TT} (h : PT X e t) (w : ∀ σ H Q, t' σ H Q → t σ H Q) : PT X e t' := ⟨fun pins s σ H Q I hw => h.run pins s σ H Q I (w σ H Q hw)⟩
theorem pw_w {t t' : TT} (h : PW X e t) (w : ∀ σ H Q, t' σ H Q → t σ H Q) : PW X e t' := ⟨fun wh pins s σ H Q I hw => h.run wh pins s σ H Q I (w σ H Q hw)⟩
theorem pa_w {es : List Expr} {t t' : TA} (h : PA X es t) (w : ∀ σ H Q, t' σ H Q → t σ H Q) : PA X es t' := ⟨fun p pins s σ H Q I hw => h.run p pins s σ H Q I (w σ H Q hw)⟩
theorem Fin.mono {K : PySem.W.Frag} {g : Gh} {F F' : Hp} {env : Ev} {σ : St} {Q : VK} {r : Rs} (f : Fin K g F env σ Q r) (s : Same F F') : Fin K g F' env σ Q r :=
  fun v F2 H' k s2 h => f v F2 H' k (s.trans s2) h
/-! ### operands -/
theorem n_opd {cc : Ev → Option (Rs × Ev)} (h : PE X e (tE X.K cc)) : PE X e (tH X.K (opd none cc)) := pe_w h fun σ H Q ⟨g, F, env, hn, env', k, ec, f⟩ => by
  simp only [opd, Option.map_eq_some_iff] at ec
  obtain ⟨⟨r, e1⟩, ec, e2⟩ := ec
  cases e2
  refine ⟨g, F, env, r, e1, k, ec, fun v F' H' k' s h' => ?_⟩
  obtain ⟨F2, k2, s2, d⟩ := h'.frz k'
  exact f v F2 H' k2 (s.trans s2) d
theorem n_varH {i : Nat} {cc : Ev → Option (Rs × Ev)} (h : PE X e (tVar i)) : PE X e (tH X.K (opd (some i) cc)) := pe_w h fun σ H Q ⟨g, F, env, hn, env', k, ec, f⟩ => by
  simp only [opd, Option.map_eq_some_iff] at ec
  obtain ⟨d, ec, e2⟩ := ec
  cases e2
  cases es : env[i]? with
  | none => rw [es] at ec; cases ec
  | some s =>
    have q := k.slot i s es
    rw [es] at ec
    have : ∃ v, σ[i]? = some (some v) := by
      cases s with
      | un => cases ec
      | v d => obtain ⟨v, h, _⟩ := q; exact ⟨v, h⟩
      | o d => obtain ⟨v, h, _⟩ := q; exact ⟨_, h⟩
      | io d => obtain ⟨v, h, _⟩ := q; exact ⟨_, h⟩
    obtain ⟨v, hv⟩ := this
    exact ⟨v, hv, f v F H k (Same.refl _) hv⟩
theorem n_var {i : Nat} (h : PE X e (tVar i)) : PE X e (tE X.K (rd i)) := pe_w h fun σ H Q ⟨g, F, env, r, env', k, ec, f⟩ => by
  unfold rd at ec
  split at ec
  · rename_i d es
    cases ec
    obtain ⟨v, hv, hd⟩ := k.slot i _ es
    exact ⟨v, hv, f.val k hd⟩
  · rename_i xs es
    cases ec
    obtain ⟨v, F', hv, k', s, hd⟩ := k.flip es
    exact ⟨v, hv, f v F' H k' s hd⟩
  · cases ec
theorem n_varT {i : Nat} (h : PE X e (tVar i)) (he : ∀ whole, isTrue e X.env whole = (do let v ← whole; standAt e.pos; holding [v] (truthy v))) :
    PT X e (tBo X.K (fun env => ((slD env[i]?).bind truD).map fun b => (b, env))) := pt_w (pt_truth (n_varH (i := i) (cc := fun _ => none) h) he) fun σ H Q ⟨g, F, env, b, env', k, ec, f⟩ => by
  simp only [Option.map_eq_some_iff, Option.bind_eq_some_iff] at ec
  obtain ⟨b', ⟨d, h1, h2⟩, ec⟩ := ec
  cases ec
  refine ⟨g, F, env, .sl i, env, k, by simp only [opd, h1, Option.map_some], fun v F' H' k' s hv => ?_⟩
  exact ⟨b, tru_of (k'.brep hv (show Hn.get (.sl i) env = some d from h1)) k'.fH h2, f F' H' k' s⟩
theorem n_val {d : D} {v : V} (h : PE X e (tC v)) (hd : ∀ F, Rp X.K F v d) : PE X e (tE X.K (fun env => some (.v d, env))) := pe_w h fun σ H Q ⟨g, F, env, r, env', k, ec, f⟩ => by
  cases ec
  exact f.val k (hd F)
/-! ### tests -/
theorem RsOK.brep {K : PySem.W.Frag} {g : Gh} {F H : Hp} {env : Ev} {σ : St} {v : V} {r : Rs} (h : RsOK K g F env σ H v r) : BRep K F H v r.d := by
  cases r with
  | v d => exact .inl h
  | o xs =>
    obtain ⟨a, rfl, _, ⟨vs, h1, _, _, h2⟩, _⟩ := h
    exact .inr ⟨a, vs, xs, rfl, rfl, h1, h2⟩
theorem n_test {cc : Ev → Option (Rs × Ev)} (h : PE X e (tE X.K cc)) (he : ∀ whole, isTrue e X.env whole = (do let v ← whole; standAt e.pos; holding [v] (truthy v))) :
    PT X e (tBo X.K (fun env => asB (fin true (cc env)))) := pt_w (pt_truth h he) fun σ H Q ⟨g, F, env, b, env', k, ec, f⟩ => by
  simp only [asB, fin, if_true, Option.bind_eq_some_iff, Option.map_eq_some_iff] at ec
  obtain ⟨p, ⟨⟨r, e1⟩, h1, ⟨b', h2, h3⟩⟩, h4⟩ := ec
  subst h3
  simp only [Option.some.injEq, Prod.mk.injEq] at h4
  obtain ⟨rfl, rfl⟩ := h4
  refine ⟨g, F, env, r, e1, k, h1, fun v F' H' k' s hv => ⟨b', tru_of hv.brep k'.fH h2, f F' H' k' s⟩⟩
/-! ### two operands -/
theorem op2_some {α : Type} {iv jv : Option Nat} {fa fb : Ev → Option (Rs × Ev)} {kk : D → D → Ev → Option α} {env : Ev} {r : α} (h : op2 iv fa jv fb kk env = some r) :
    ∃ ha e1 hb e2 x y, opd iv fa env = some (ha, e1) ∧ opd jv fb e1 = some (hb, e2) ∧ ha.get e2 = some x ∧ hb.get e2 = some y ∧ kk x y e2 = some r := by
  unfold op2 at h
  simp only [Option.bind_eq_bind, Option.bind_eq_some_iff] at h
  obtain ⟨⟨ha, e1⟩, h1, ⟨hb, e2⟩, h2, x, h3, y, h4, h5⟩ := h
  exact ⟨ha, e1, hb, e2, x, y, h1, h2, h3, h4, h5⟩
theorem op1_some {α : Type} {iv : Option Nat} {fa : Ev → Option (Rs × Ev)} {kk : D → Ev → Option α} {env : Ev} {r : α} (h : op1 iv fa kk env = some r) :
    ∃ ha e1 x, opd iv fa env = some (ha, e1) ∧ ha.get e1 = some x ∧ kk x e1 = some r := by
  unfold op1 at h
  simp only [Option.bind_eq_bind, Option.bind_eq_some_iff] at h
  obtain ⟨⟨ha, e1⟩, h1, x, h3, h5⟩ := h
  exact ⟨ha, e1, x, h1, h3, h5⟩
/-- two operands, then an operation on their values -/
theorem two_ops {iv jv : Option Nat} {fa fb : Ev → Option (Rs × Ev)} {op : Op2} {r2 : R2} (hr : Res2 X.K r2 op) {σ : St} {H : Hp} {Q : VK}
    (h : tE X.K (fun env => op2 iv fa jv fb (fun x y e => withE e (op x y)) env) σ H Q) : tOp r2 (tH X.K (opd iv fa)) (tH X.K (opd jv fb)) σ H Q := by
  obtain ⟨g, F, env, r, env', k, ec, f⟩ := h
  obtain ⟨ha, e1, hb, e2, x, y, h1, h2, h3, h4, h5⟩ := op2_some ec
  simp only [withE, Option.map_eq_some_iff] at h5
  obtain ⟨r', h5, h6⟩ := h5
  cases h6
  refine ⟨g, F, env, ha, e1, k, h1, fun v F1 H1 k1 s1 q1 => ⟨g, F1, e1, hb, _, k1, h2, fun u F2 H2 k2 s2 q2 => ?_⟩⟩
  exact hr g F2 _ σ H2 v u x y r Q k2 (k2.brep (q1.mono s2) h3) (k2.brep q2 h4) h5 (f.mono (s1.trans s2))
theorem n_bin {iv jv : Option Nat} {fa fb : Ev → Option (Rs × Ev)} (op : BOp) (ha : PE X a (tH X.K (opd iv fa))) (hb : PE X b (tH X.K (opd jv fb))) :
    PE X (.BinOp a (bopOf op) b pos) (tE X.K (fun env => op2 iv fa jv fb (fun x y e => withE e (binR op x y)) env)) := by
  obtain ⟨r, h1, h2⟩ := (o_bin (X := X) op).ex
  exact pe_w (pe_op h1 ha hb) fun σ H Q => two_ops h2
theorem behind_of {op : COp} {b : Expr} (h : ∀ es k p, b ≠ .Set es k p) : behindInMarks (copOf op) b = false := by
  cases b <;> first | rfl | (exact absurd rfl (h _ _ _))
theorem n_cmp {iv jv : Option Nat} {fa fb : Ev → Option (Rs × Ev)} (hu : X.A.units + 65 < cLine) (op : COp) (ha : PE X a (tH X.K (opd iv fa))) (hb : PE X b (tH X.K (opd jv fb))) (hs : ∀ es k p, b ≠ .Set es k p) :
    PE X (.Compare a [copOf op] [b] pos) (tE X.K (fun env => op2 iv fa jv fb (fun x y e => withE e ((cmpD op x y).map fun b => .v (.bool b))) env)) := by
  obtain ⟨r, h1, h2⟩ := (o_cmp (X := X) hu op).ex
  exact pe_w (pe_cmpR h1 ha hb (behind_of hs)) fun σ H Q => two_ops (op := cmpR op) h2
theorem bool_of {K : PySem.W.Frag} {g : Gh} {F H : Hp} {env : Ev} {σ : St} {v : V} {b : Bool} (h : RsOK K g F env σ H v (.v (.bool b))) : v = .bl b := by
  cases (show Rp K F v (.bool b) from h); rfl
/-- a bool's run as a test -/
theorem asB_some {o : Option (Rs × Ev)} {b : Bool} {e' : Ev} (h : asB o = some (b, e')) : o = some (.v (.bool b), e') := by
  unfold asB at h
  simp only [Option.bind_eq_some_iff] at h
  obtain ⟨⟨r, e1⟩, h1, h2⟩ := h
  rw [h1]
  cases r with
  | o xs => cases h2
  | v d => cases d <;> first | (cases h2; rfl) | cases h2
theorem n_cmpT {iv jv : Option Nat} {fa fb : Ev → Option (Rs × Ev)} (hu : X.A.units + 65 < cLine) (op : COp) (ha : PE X a (tH X.K (opd iv fa))) (hb : PE X b (tH X.K (opd jv fb))) (hs : ∀ es k p, b ≠ .Set es k p) :
    PT X (.Compare a [copOf op] [b] pos) (tBo X.K (fun env => asB (op2 iv fa jv fb (fun x y e => withE e ((cmpD op x y).map fun b => .v (.bool b))) env))) := by
  obtain ⟨r, h1, h2⟩ := (o_cmp (X := X) hu op).ex
  refine pt_w (pt_cmpR h1 ha hb (behind_of hs)) fun σ H Q ⟨g, F, env, b, env', k, ec, f⟩ => two_ops (op := cmpR op) h2 ⟨g, F, env, .v (.bool b), env', k, asB_some ec, fun v F' H' k' s hv => ⟨b, bool_of hv, f F' H' k' s⟩⟩
theorem n_idx {iv jv : Option Nat} {fa fb : Ev → Option (Rs × Ev)} (ha : PE X a (tH X.K (opd iv fa))) (hb : PE X b (tH X.K (opd jv fb))) (hs : PlainIx b) :
    PE X (.Subscript a b pos) (tE X.K (fun env => op2 iv fa jv fb (fun x y e => withE e ((idxD x y).map .v)) env)) := by
  obtain ⟨r, h1, h2⟩ := o_idx (X := X)
  exact pe_w (pe_ix h1 ha hb hs) fun σ H Q => two_ops (op := fun d e => (idxD d e).map .v) h2
/-! ### chains -/
theorem ite_b {A B : Prop} {b : Bool} (h1 : b = true → A) (h2 : b = false → B) : if b = true then A else B := by
  cases b with
  | true => rw [if_pos rfl]; exact h1 rfl
  | false => rw [if_neg (by decide)]; exact h2 rfl
theorem chain_ops {iv jv kv : Option Nat} {fa fb fc : Ev → Option (Rs × Ev)} {p q : COp} {r r' : R2} (hr : Res2 X.K r (cmpR p)) (hr' : Res2 X.K r' (cmpR q)) {σ : St} {H : Hp} {Q : VK}
    (h : tE X.K (chainE p q iv jv kv fa fb fc) σ H Q) : tChain r r' (tH X.K (opd iv fa)) (tH X.K (opd jv fb)) (tH X.K (opd kv fc)) σ H Q := by
  obtain ⟨g, F, env, rr, env', k, ec, f⟩ := h
  unfold chainE at ec
  simp only [Option.bind_eq_bind, Option.bind_eq_some_iff] at ec
  obtain ⟨⟨ha, e1⟩, h1, ⟨hb, e2⟩, h2, x, h3, y, h4, t, h5, ec⟩ := ec
  refine ⟨g, F, env, ha, e1, k, h1, fun v F1 H1 k1 s1 q1 => ⟨g, F1, e1, hb, e2, k1, h2, fun u F2 H2 k2 s2 q2 => ?_⟩⟩
  refine hr g F2 _ σ H2 v u x y (.v (.bool t)) _ k2 (k2.brep (q1.mono s2) h3) (k2.brep q2 h4) (by simp only [cmpR, h5, Option.map_some]) fun z F3 H3 k3 s3 hz => ⟨t, bool_of hz, ite_b (fun et => ?_) (fun et => ?_)⟩
  · subst et
    simp only [if_true, Option.bind_eq_some_iff] at ec
    obtain ⟨⟨hc, e3⟩, h6, y', h7, w, h8, t', h9, ec⟩ := ec
    cases ec
    refine ⟨g, F3, e2, hc, e3, k3, h6, fun w' F4 H4 k4 s4 q4 => ?_⟩
    exact hr' g F4 _ σ H4 u w' y' w (.v (.bool t')) Q k4 (k4.brep (q2.mono (s3.trans s4)) h7) (k4.brep q4 h8) (by simp only [cmpR, h9, Option.map_some]) (f.mono (s1.trans (s2.trans (s3.trans s4))))
  · subst et
    simp only [Bool.false_eq_true, if_false, Option.some.injEq, Prod.mk.injEq] at ec
    obtain ⟨rfl, rfl⟩ := ec
    exact (f.mono (s1.trans (s2.trans s3))).val k3 (.bl _)
theorem n_chain {iv jv kv : Option Nat} {fa fb fc : Ev → Option (Rs × Ev)} (hu : X.A.units + 65 < cLine) (p q : COp) (ha : PE X a (tH X.K (opd iv fa))) (hb : PE X b (tH X.K (opd jv fb))) (hc : PE X c (tH X.K (opd kv fc)))
    (hm : lastMarks [copOf p, copOf q] [b, c] = false) : PE X (.Compare a [copOf p, copOf q] [b, c] pos) (tE X.K (chainE p q iv jv kv fa fb fc)) := by
  obtain ⟨r, h1, h2⟩ := (o_cmp (X := X) hu p).ex
  obtain ⟨r', h1', h2'⟩ := (o_cmp (X := X) hu q).ex
  exact pe_w (pe_chain h1 h1' ha hb hc hm) fun σ H Q => chain_ops h2 h2'
theorem n_chainT {iv jv kv : Option Nat} {fa fb fc : Ev → Option (Rs × Ev)} (hu : X.A.units + 65 < cLine) (p q : COp) (ha : PE X a (tH X.K (opd iv fa))) (hb : PE X b (tH X.K (opd jv fb))) (hc : PE X c (tH X.K (opd kv fc)))
    (hm : lastMarks [copOf p, copOf q] [b, c] = false) : PT X (.Compare a [copOf p, copOf q] [b, c] pos) (tBo X.K (fun env => asB (chainE p q iv jv kv fa fb fc env))) := by
  obtain ⟨r, h1, h2⟩ := (o_cmp (X := X) hu p).ex
  obtain ⟨r', h1', h2'⟩ := (o_cmp (X := X) hu q).ex
  exact pt_w (pt_chain h1 h1' ha hb hc hm) fun σ H Q ⟨g, F, env, b, env', k, ec, f⟩ => chain_ops h2 h2' ⟨g, F, env, .v (.bool b), env', k, asB_some ec, fun v F' H' k' s hv => ⟨b, bool_of hv, f F' H' k' s⟩⟩
/-! ### three comparisons -/
def tChain3 (r r' r'' : R2) (ta tb tc td : TE) : TE := fun σ H Q => ta σ H fun x H1 => tb σ H1 fun y H2 => r x y H2 fun z H3 => ∃ k, z = .bl k ∧
  (if k = true then tc σ H3 fun w' H4 => r' y w' H4 fun z2 H5 => ∃ k2, z2 = .bl k2 ∧ (if k2 = true then td σ H5 fun u' H6 => r'' w' u' H6 Q else Q (.bl false) H5) else Q (.bl false) H3)
theorem pe_chain3 {op op' op'' : CmpOp} {r r' r'' : R2} {ta tb tc td : TE} {d : Expr} (ho : OpR X (compareOp op) r) (ho' : OpR X (compareOp op') r') (ho'' : OpR X (compareOp op'') r'') (ha : PE X a ta) (hb : PE X b tb) (hc : PE X c tc) (hd : PE X d td)
    (hm : lastMarks [op, op', op''] [b, c, d] = false) : PE X (.Compare a [op, op', op''] [b, c, d] pos) (tChain3 r r' r'' ta tb tc td) := by
  refine ⟨fun pins s σ H Q I h => ?_⟩
  refine Compare_chain (thn (ha.run pins s σ H _ I h) fun v s1 ⟨x, H1, I1, r1, q1⟩ => chain_link (thn (hb.run pins s1 σ H1 _ I1 q1) fun u s2 ⟨y, H2, I2, r2, q2⟩ =>
    thn (ho pins s2 σ H2 x y v u _ I2 r1 r2 q2) fun d s3 ⟨z, H3, I3, r3, k, e, q3⟩ => ?_)) hm
  subst e
  cases r3
  refine wpAny_truthy_bool ?_
  cases k with
  | false => exact ite_ff ⟨.bl false, H3, I3, rfl, q3⟩
  | true =>
    refine ite_tt (chain_link (thn (hc.run pins s3 σ H3 _ I3 q3) fun w' s4 ⟨z', H4, I4, r4, q4⟩ => thn (ho' pins s4 σ H4 y z' u w' _ I4 r2 r4 q4) fun d' s5 ⟨z2, H5, I5, r5, k2, e2, q5⟩ => ?_))
    subst e2
    cases r5
    refine wpAny_truthy_bool ?_
    cases k2 with
    | false => exact ite_ff ⟨.bl false, H5, I5, rfl, q5⟩
    | true => exact ite_tt (chain_last (thn (hd.run pins s5 σ H5 _ I5 q5) fun u' s6 ⟨z3, H6, I6, r6, q6⟩ => ho'' pins s6 σ H6 z' z3 w' u' Q I6 r4 r6 q6))
theorem pt_chain3 {op op' op'' : CmpOp} {r r' r'' : R2} {ta tb tc td : TE} {d : Expr} (ho : OpR X (compareOp op) r) (ho' : OpR X (compareOp op') r') (ho'' : OpR X (compareOp op'') r'') (ha : PE X a ta) (hb : PE X b tb) (hc : PE X c tc) (hd : PE X d td)
    (hm : lastMarks [op, op', op''] [b, c, d] = false) : PT X (.Compare a [op, op', op''] [b, c, d] pos) (tTest (tChain3 r r' r'' ta tb tc td)) := by
  refine ⟨fun pins s σ H Q I h => ?_⟩
  refine isTrue_chain (thn (ha.run pins s σ H _ I h) fun v s1 ⟨x, H1, I1, r1, q1⟩ => test_link (thn (hb.run pins s1 σ H1 _ I1 q1) fun u s2 ⟨y, H2, I2, r2, q2⟩ =>
    thn (ho pins s2 σ H2 x y v u _ I2 r1 r2 q2) fun d s3 ⟨z, H3, I3, r3, k, e, q3⟩ => ?_)) hm
  subst e
  cases r3
  refine wpAny_truthy_bool ?_
  cases k with
  | false =>
    obtain ⟨k', e', q'⟩ := q3
    cases e'
    exact ite_ff ⟨H3, I3, q'⟩
  | true =>
    refine ite_tt (test_link (thn (hc.run pins s3 σ H3 _ I3 q3) fun w' s4 ⟨z', H4, I4, r4, q4⟩ => thn (ho' pins s4 σ H4 y z' u w' _ I4 r2 r4 q4) fun d' s5 ⟨z2, H5, I5, r5, k2, e2, q5⟩ => ?_))
    subst e2
    cases r5
    refine wpAny_truthy_bool ?_
    cases k2 with
    | false =>
      obtain ⟨k', e', q'⟩ := q5
      cases e'
      exact ite_ff ⟨H5, I5, q'⟩
    | true =>
      refine ite_tt (test_last (thn (hd.run pins s5 σ H5 _ I5 q5) fun u' s6 ⟨z3, H6, I6, r6, q6⟩ => thn (ho'' pins s6 σ H6 z' z3 w' u' _ I6 r4 r6 q6) fun d' s7 ⟨z4, H7, I7, r7, k3, e3, q7⟩ => ?_))
      subst e3
      cases r7
      exact wpAny_truthy_bool ⟨H7, I7, q7⟩
theorem chain3_ops {iv jv kv lv : Option Nat} {fa fb fc fd : Ev → Option (Rs × Ev)} {p q w : COp} {r r' r'' : R2} (hr : Res2 X.K r (cmpR p)) (hr' : Res2 X.K r' (cmpR q)) (hr'' : Res2 X.K r'' (cmpR w)) {σ : St} {H : Hp} {Q : VK}
    (h : tE X.K (chain3E p q w iv jv kv lv fa fb fc fd) σ H Q) : tChain3 r r' r'' (tH X.K (opd iv fa)) (tH X.K (opd jv fb)) (tH X.K (opd kv fc)) (tH X.K (opd lv fd)) σ H Q := by
  obtain ⟨g, F, env, rr, env', k, ec, f⟩ := h
  unfold chain3E at ec
  simp only [Option.bind_eq_bind, Option.bind_eq_some_iff] at ec
  obtain ⟨⟨ha, e1⟩, h1, ⟨hb, e2⟩, h2, x, h3, y, h4, t, h5, ec⟩ := ec
  refine ⟨g, F, env, ha, e1, k, h1, fun v F1 H1 k1 s1 q1 => ⟨g, F1, e1, hb, e2, k1, h2, fun u F2 H2 k2 s2 q2 => ?_⟩⟩
  refine hr g F2 _ σ H2 v u x y (.v (.bool t)) _ k2 (k2.brep (q1.mono s2) h3) (k2.brep q2 h4) (by simp only [cmpR, h5, Option.map_some]) fun z F3 H3 k3 s3 hz => ⟨t, bool_of hz, ite_b (fun et => ?_) (fun et => ?_)⟩
  · subst et
    simp only [if_true, Option.bind_eq_some_iff] at ec
    obtain ⟨⟨hc, e3⟩, h6, y', h7, w0, h8, t', h9, ec⟩ := ec
    refine ⟨g, F3, e2, hc, e3, k3, h6, fun w' F4 H4 k4 s4 q4 => ?_⟩
    refine hr' g F4 _ σ H4 u w' y' w0 (.v (.bool t')) _ k4 (k4.brep (q2.mono (s3.trans s4)) h7) (k4.brep q4 h8) (by simp only [cmpR, h9, Option.map_some]) fun z2 F5 H5 k5 s5 hz2 => ⟨t', bool_of hz2, ite_b (fun et => ?_) (fun et => ?_)⟩
    · subst et
      simp only [if_true, Option.bind_eq_some_iff] at ec
      obtain ⟨⟨hd, e4⟩, h10, w1, h11, v1, h12, t2, h13, ec⟩ := ec
      cases ec
      refine ⟨g, F5, e3, hd, e4, k5, h10, fun u' F6 H6 k6 s6 q6 => ?_⟩
      exact hr'' g F6 _ σ H6 w' u' w1 v1 (.v (.bool t2)) Q k6 (k6.brep (q4.mono (s5.trans s6)) h11) (k6.brep q6 h12) (by simp only [cmpR, h13, Option.map_some]) (f.mono (s1.trans (s2.trans (s3.trans (s4.trans (s5.trans s6))))))
    · subst et
      simp only [Bool.false_eq_true, if_false, Option.some.injEq, Prod.mk.injEq] at ec
      obtain ⟨rfl, rfl⟩ := ec
      exact (f.mono (s1.trans (s2.trans (s3.trans (s4.trans s5))))).val k5 (.bl _)
  · subst et
    simp only [Bool.false_eq_true, if_false, Option.some.injEq, Prod.mk.injEq] at ec
    obtain ⟨rfl, rfl⟩ := ec
    exact (f.mono (s1.trans (s2.trans s3))).val k3 (.bl _)
theorem n_chain3 {iv jv kv lv : Option Nat} {fa fb fc fd : Ev → Option (Rs × Ev)} {d : Expr} (hu : X.A.units + 65 < cLine) (p q w : COp) (ha : PE X a (tH X.K (opd iv fa))) (hb : PE X b (tH X.K (opd jv fb))) (hc : PE X c (tH X.K (opd kv fc))) (hd : PE X d (tH X.K (opd lv fd)))
    (hm : lastMarks [copOf p, copOf q, copOf w] [b, c, d] = false) : PE X (.Compare a [copOf p, copOf q, copOf w] [b, c, d] pos) (tE X.K (chain3E p q w iv jv kv lv fa fb fc fd)) := by
  obtain ⟨r, h1, h2⟩ := (o_cmp (X := X) hu p).ex
  obtain ⟨r', h1', h2'⟩ := (o_cmp (X := X) hu q).ex
  obtain ⟨r'', h1'', h2''⟩ := (o_cmp (X := X) hu w).ex
  exact pe_w (pe_chain3 h1 h1' h1'' ha hb hc hd hm) fun σ H Q => chain3_ops h2 h2' h2''
theorem n_chain3T {iv jv kv lv : Option Nat} {fa fb fc fd : Ev → Option (Rs × Ev)} {d : Expr} (hu : X.A.units + 65 < cLine) (p q w : COp) (ha : PE X a (tH X.K (opd iv fa))) (hb : PE X b (tH X.K (opd jv fb))) (hc : PE X c (tH X.K (opd kv fc))) (hd : PE X d (tH X.K (opd lv fd)))
    (hm : lastMarks [copOf p, copOf q, copOf w] [b, c, d] = false) : PT X (.Compare a [copOf p, copOf q, copOf w] [b, c, d] pos) (tBo X.K (fun env => asB (chain3E p q w iv jv kv lv fa fb fc fd env))) := by
  obtain ⟨r, h1, h2⟩ := (o_cmp (X := X) hu p).ex
  obtain ⟨r', h1', h2'⟩ := (o_cmp (X := X) hu q).ex
  obtain ⟨r'', h1'', h2''⟩ := (o_cmp (X := X) hu w).ex
  exact pt_w (pt_chain3 h1 h1' h1'' ha hb hc hd hm) fun σ H Q ⟨g, F, env, b, env', k, ec, f⟩ => chain3_ops h2 h2' h2'' ⟨g, F, env, .v (.bool b), env', k, asB_some ec, fun v F' H' k' s hv => ⟨b, bool_of hv, f F' H' k' s⟩⟩
/-! ### not, and, or, if -/
theorem n_not {ct : Ev → Option (Bool × Ev)} (h : PT X a (tBo X.K ct)) : PT X (.UnaryOp .Not a pos) (tBo X.K (fun env => (ct env).map fun p => (!p.1, p.2))) :=
  pt_w (pt_not h) fun σ H Q ⟨g, F, env, b, env', k, ec, f⟩ => by
    simp only [Option.map_eq_some_iff] at ec
    obtain ⟨⟨b', e1⟩, h1, h2⟩ := ec
    cases h2
    exact ⟨g, F, env, b', e1, k, h1, f⟩
end
/-! ### xs[::-1], of a tuple, too -/
section
variable {prog : Program} {w : World} {A : Around} {E : Value → Shared → Prop} {s : Shared}
theorem rv_adj (n : Nat) : Builtin.Slice.sliceAdjust none none (-1) (n : Int) = ((n : Int) - 1, -1) := rfl
theorem rv_places (n : Nat) : Builtin.Slice.slicePlaces ((n : Int) - 1) (-1) (-1) = n := by
  unfold Builtin.Slice.slicePlaces
  rw [if_neg (show ¬ ((-1 : Int) > 0) by decide), Int.neg_neg, Int.ediv_one]
  split <;> omega
theorem rv_applied {sc : Addr} {vs : Value} {n : Nat} {Q : Int × Int × Nat → Shared → Prop} (hS : s.heap.IsSliceOf sc .none .none vs) (ps : IsPart vs (some (-1))) (h : Q ((n : Int) - 1, -1, n) s) :
    wpAny (model prog w) A (Builtin.Slice.sliceApplied (.ref sc) (pure (n : Int))) Q E s := by
  obtain ⟨ob, q1, q2, q3⟩ := id hS
  unfold Builtin.Slice.sliceApplied Builtin.Slice.sliceFields
  have f0 : ∀ {R : Value × Value × Value → Shared → Prop}, R (.none, .none, vs) s → wpAny (model prog w) A (do return (← field (.ref sc) 0, ← field (.ref sc) 1, ← field (.ref sc) 2)) R E s := fun r =>
    wpAny_bind (wpAny_field q1 q3 (x := Value.none) rfl (wpAny_bind (wpAny_field q1 q3 (x := Value.none) rfl (wpAny_bind (wpAny_field q1 q3 (x := vs) rfl (wpAny_pure r))))))
  refine wpAny_bind (f0 (wpAny_bind (HT.slicePart_ ps ?_)))
  show wpAny _ _ (if ((-1 : Int) == 0) = true then _ else _) _ _ s
  rw [if_neg (show ¬ ((-1 : Int) == 0) = true by decide)]
  refine wpAny_bind (slicePart_none (wpAny_bind (slicePart_none (wpAny_bind (wpAny_pure ?_)))))
  show wpAny _ _ (pure ((n : Int) - 1, (-1 : Int), Builtin.Slice.slicePlaces ((n : Int) - 1) (-1) (-1))) _ _ s
  rw [rv_places]; exact wpAny_pure h
theorem rv_pick (xs : List Value) : ((List.range xs.length).filterMap fun (m : Nat) => xs.toArray[(((xs.length : Nat) : Int) - 1 + (m : Int) * -1).toNat]?) = xs.reverse := by
  have key : ∀ k, k ≤ xs.length → ((List.range k).filterMap fun (m : Nat) => xs.toArray[(((xs.length : Nat) : Int) - 1 + (m : Int) * -1).toNat]?) = xs.reverse.take k := by
    intro k
    induction k with
    | zero => intro _; rfl
    | succ k ih =>
      intro hk
      have e : (((xs.length : Nat) : Int) - 1 + (k : Int) * -1).toNat = xs.length - 1 - k := by omega
      have hl : xs.length - 1 - k < xs.length := by omega
      rw [List.range_succ, List.filterMap_append, ih (by omega), List.take_succ]
      congr 1
      rw [List.filterMap_cons, List.filterMap_nil, e]
      rw [List.getElem?_reverse (by omega)]
      simp [hl]
  have := key xs.length (Nat.le_refl _)
  rw [this, List.take_of_length_le (by rw [List.length_reverse]; exact Nat.le_refl _)]
theorem rv_get {tp sc : Addr} {its : List Value} {vs : Value} {Q : Value → Shared → Prop} (hT : IsTup s.heap tp its.toArray) (hS : s.heap.IsSliceOf sc .none .none vs) (ps : IsPart vs (some (-1)))
    (h : Q (.ref s.heap.objs.size) { s with heap := s.heap.push { cls := .type "tuple", data := .seq its.reverse.toArray } }) (hz : its.length ≤ sizeLine) : wpAny (model prog w) A (getItem (.ref tp) (.ref sc)) Q E s := by
  have okz : sizeOk (.seq its.reverse.toArray) := by
    show its.reverse.toArray.size ≤ sizeLine
    rw [List.size_toArray, List.length_reverse]; exact hz
  obtain ⟨ob, q1, q2, q3⟩ := id hS
  have hC : s.TypeIs (.ref sc) "slice" := ⟨ob, q1, q2⟩
  unfold getItem; try with_reducible refine wpAny_holding ?_
  first | (refine wpAny_bind (wpAny_pure ?_)) | skip
  refine wpAny_bind (wpAny_sequenceKey hT.typeIs (by decide) (wpAny_bind ?_))
  refine wpAny_callSpecial?_slot (name := Str.ofString "__getitem__") hT.typeIs PyProof.Rows.slot_tuple_getitem (wpAny_call_entry PyProof.Rows.slot_tuple_getitem hT.typeIs entry_tuple_getitem ?_ (args_tuple_getitem _ _))
  show wpAny _ _ (Builtin.Tuple.tupleItemsOf (.ref tp) >>= _) _ _ s
  refine wpAny_bind (tupleItemsOf_ hT (wpAny_bind (wpAny_typeOf hC ?_)))
  rw [if_pos (by decide)]
  have e0 : its.toArray.size = its.length := List.size_toArray ..
  refine wpAny_bind (rv_applied hS ps ?_)
  show wpAny _ _ (if ((((its.toArray.size : Nat) : Int) - 1) == 0 && (-1 : Int) == 1 && its.toArray.size == its.toArray.size) = true then _ else _) _ _ s
  rw [if_neg (by rw [show ((-1 : Int) == 1) = false from rfl, Bool.and_false, Bool.false_and]; exact Bool.false_ne_true), e0, rv_pick]
  first
    | exact wpAny_bind (m := Builtin.Tuple.tupleExact _) (wpAny_newObj_type (wpAny_pure ⟨_, rfl, wpAny_pure h⟩) okz)
    | exact wpAny_bind (m := Builtin.Tuple.tupleExact _) (wpAny_newObj_type (wpAny_bind (wpAny_pure (wpAny_pure ⟨_, rfl, wpAny_pure h⟩))) okz)
    | exact wpAny_bind (wpAny_bind (m := Builtin.Tuple.tupleExact _) (wpAny_newObj_type (wpAny_pure (wpAny_pure ⟨_, rfl, wpAny_pure h⟩)) okz))
    | exact wpAny_bind (wpAny_bind (m := Builtin.Tuple.tupleExact _) (wpAny_newObj_type (wpAny_pure ⟨_, rfl, wpAny_pure h⟩) okz))
end
section
variable {X : Cx}
def tRevA (K : PySem.W.Frag) (te : TE) : TE := fun σ H Q => te σ H fun x H1 => ∃ a xs, x = .ref a ∧ ((SqL K H1 a xs ∧ ∀ p, H1 p = none → Q (.ref p) (upd H1 p (.lst xs.reverse))) ∨ (SqT K H1 a xs ∧ ∀ p, H1 p = none → Q (.ref p) (upd H1 p (.tup xs.reverse))))
theorem pe_revA {e : Expr} {te : TE} {k : Nat} {p1 p2 p3 pos : Pos} (he : PE X e te) : PE X (.Subscript e (.Slice none none (some (.UnaryOp .USub (.Constant (.int 1) k p1) p2)) p3) pos) (tRevA X.K te) := by
  refine ⟨fun pins s σ H Q I h => Subscript_ (thn (he.run pins s σ H _ I h) fun v s1 ⟨x, H1, I1, rx, hq⟩ => ?_)⟩
  obtain ⟨a, xs, rfl, hq⟩ := hq
  cases rx
  have hm : PO X (some (.UnaryOp .USub (.Constant (.int 1) k p1) p2)) (tPart (tUn (rU fun i => .int (-i)) (tC (.int 1)))) := po_some (pe_un un_neg pe_int)
  refine wpAny_Slice (thn (po_none.run pins s1 σ H1 (fun o G => o = none ∧ G = H1) I1 ⟨rfl, rfl⟩) fun vl s2 ⟨l, G2, I2, pl, e1, e2⟩ => ?_)
  subst e1 e2
  refine thn (po_none.run pins s2 σ G2 (fun o G => o = none ∧ G = G2) I2 ⟨rfl, rfl⟩) fun vu s3 ⟨u, G3, I3, pu, e1, e2⟩ => ?_
  subst e1 e2
  refine thn (hm.run pins s3 σ G3 (fun o G => o = some (-1) ∧ G = G3) I3 ⟨1, rfl, -1, rfl, rfl, rfl⟩) fun vs s4 ⟨o, G4, I4, ps, e1, e2⟩ => ?_
  subst e1 e2
  have J : Inv X pins σ G4 { s4 with heap := s4.heap.push { cls := .type "slice", data := .fields #[vl, vu, vs] } } := I4.kept (t' := s4.toks) fun b ob q => Heap.get?_push_of_some _ q
  show wpAny (model X.prog X.w) X.A (subscriptTail e (.Slice none none (some (.UnaryOp .USub (.Constant (.int 1) k p1) p2)) p3) (.ref a) (.ref s4.heap.objs.size)) (EP X pins σ Q) X.xe { s4 with heap := s4.heap.push { cls := .type "slice", data := .fields #[vl, vu, vs] } }
  rcases hq with ⟨hx, q⟩ | ⟨hx, q⟩
  · obtain ⟨its, r, ht, hz⟩ := J.list hx
    have hlen := r.length
    refine tail_any (ops := [.ref a, .ref s4.heap.objs.size]) ht.isList.typeIs (PySem.slot_list_getitem.lookup) (wpAny_getItem_list_slice ht.isList (Heap.IsSliceOf.new _ vl vu vs) pl pu ps (by decide) ?_ (by rw [List.size_toArray]; omega)) (by with_unfolding_all rfl)
    rw [PySem.W.krv_pick]
    refine ⟨.ref _, _, J.laid (t' := s4.toks) (o := .lst xs.reverse) (fun b ob q => Heap.get?_push_of_some _ q) (Nat.le_refl _) ⟨by rw [List.length_reverse]; exact hz, _, 0, r.reverse, Heap.get?_push_size _ rfl⟩, rfl, q _ (J.hok.fresh (Nat.le_refl _))⟩
  · obtain ⟨its, r, ht, hz⟩ := J.tuple hx
    have hlen := r.length
    cases pl
    cases pu
    refine tail_any (ops := [.ref a, .ref s4.heap.objs.size]) ht.typeIs (PyProof.Rows.slot_tuple_getitem.lookup) (rv_get ht (Heap.IsSliceOf.new _ .none .none vs) ps ?_ (by omega)) (by with_unfolding_all rfl)
    refine ⟨.ref _, _, J.laid (t' := s4.toks) (o := .tup xs.reverse) (fun b ob q => Heap.get?_push_of_some _ q) (Nat.le_refl _) ⟨by rw [List.length_reverse]; exact hz, _, r.reverse, IsTup.new _ _⟩, rfl, q _ (J.hok.fresh (Nat.le_refl _))⟩
end
end KX

set_option Elab.async false
set_option linter.all false
set_option maxHeartbeats 1000000
/-! KB5: expressions further: and, or, if, displays, slices, built-in calls, what a for walks. -/
namespace KX
open PySem PySem.Spec PyProof.Rows L2
section
variable {X : Cx} {e a b c : Expr} {pos : Pos} {rest : List Expr}
theorem bindB_some {α : Type} {o : Option (Bool × Ev)} {f h : Ev → Option α} {r : α} (q : bindB o f h = some r) : ∃ b e1, o = some (b, e1) ∧ (if b then f e1 else h e1) = some r := by
  unfold bindB at q
  simp only [Option.bind_eq_some_iff] at q
  obtain ⟨⟨b, e1⟩, h1, h2⟩ := q
  exact ⟨b, e1, h1, h2⟩
/-! tests: two ways -/
theorem n_andT {fa fb : Ev → Option (Rs × Ev)} (ha : PT X a (tBo X.K (fun env => asB (fa env)))) (hb : PW X (.BoolOp .And (b :: rest) pos) (tBo X.K (fun env => asB (fb env)))) :
    PW X (.BoolOp .And (a :: b :: rest) pos) (tBo X.K (fun env => asB (bindB (asB (fa env)) fb (fun e => some (.v (.bool false), e))))) :=
  pw_w (pw_and ha hb) fun σ H Q ⟨g, F, env, b, env', k, ec, f⟩ => by
    obtain ⟨t, e1, h1, h2⟩ := bindB_some (asB_some ec)
    refine ⟨g, F, env, t, e1, k, h1, fun F' H' k' s => ite_b (fun et => ?_) (fun et => ?_)⟩
    · subst et
      rw [if_pos rfl] at h2
      exact ⟨g, F', e1, b, env', k', by simp only [h2]; rfl, fun F2 H2 k2 s2 => f F2 H2 k2 (s.trans s2)⟩
    · subst et
      rw [if_neg (by decide)] at h2
      cases h2
      exact f F' H' k' s
theorem n_orT {fa fb : Ev → Option (Rs × Ev)} (ha : PT X a (tBo X.K (fun env => asB (fa env)))) (hb : PW X (.BoolOp .Or (b :: rest) pos) (tBo X.K (fun env => asB (fb env)))) :
    PW X (.BoolOp .Or (a :: b :: rest) pos) (tBo X.K (fun env => asB (bindB (asB (fa env)) (fun e => some (.v (.bool true), e)) fb))) :=
  pw_w (pw_or ha hb) fun σ H Q ⟨g, F, env, b, env', k, ec, f⟩ => by
    obtain ⟨t, e1, h1, h2⟩ := bindB_some (asB_some ec)
    refine ⟨g, F, env, t, e1, k, h1, fun F' H' k' s => ite_b (fun et => ?_) (fun et => ?_)⟩
    · subst et
      rw [if_pos rfl] at h2
      cases h2
      exact f F' H' k' s
    · subst et
      rw [if_neg (by decide)] at h2
      exact ⟨g, F', e1, b, env', k', by simp only [h2]; rfl, fun F2 H2 k2 s2 => f F2 H2 k2 (s.trans s2)⟩
theorem pw_of {op : BoolOp} {es : List Expr} {t : TT} (h : PT X (.BoolOp op es pos) t) : PW X (.BoolOp op es pos) t := ⟨fun _ pins s σ H Q I hw => h.run pins s σ H Q I hw⟩
theorem n_iteT {fc fa fb : Ev → Option (Rs × Ev)} (hc : PT X c (tBo X.K (fun env => asB (fc env)))) (ha : PT X a (tBo X.K (fun env => asB (fa env)))) (hb : PT X b (tBo X.K (fun env => asB (fb env)))) :
    PT X (.IfExp c a b pos) (tBo X.K (fun env => asB (bindB (asB (fc env)) fa fb))) := by
  refine ⟨fun pins s σ H Q I ⟨g, F, env, t, env', k, ec, f⟩ => ?_⟩
  obtain ⟨u, e1, h1, h2⟩ := bindB_some (asB_some ec)
  refine isTrue_IfExp (thn (hc.run pins s σ H (fun d H1 => d = u ∧ ∃ F1, OK X.K g F1 e1 σ H1 ∧ Same F F1) I ⟨g, F, env, u, e1, k, h1, fun F1 H1 k1 s1 => ⟨rfl, F1, k1, s1⟩⟩) fun d s1 ⟨H1, I1, hd, F1, k1, w1⟩ => ?_)
  subst hd
  cases d with
  | true => exact ha.run pins s1 σ H1 Q I1 ⟨g, F1, e1, t, env', k1, by simp only [if_true] at h2; simp only [h2]; rfl, fun F2 H2 k2 w2 => f F2 H2 k2 (w1.trans w2)⟩
  | false => exact hb.run pins s1 σ H1 Q I1 ⟨g, F1, e1, t, env', k1, by simp only [Bool.false_eq_true, if_false] at h2; simp only [h2]; rfl, fun F2 H2 k2 w2 => f F2 H2 k2 (w1.trans w2)⟩
/-! values: two ways -/
theorem n_ite {fc fa fb : Ev → Option (Rs × Ev)} (hc : PT X c (tBo X.K (fun env => asB (fc env)))) (ha : PE X a (tE X.K fa)) (hb : PE X b (tE X.K fb)) :
    PE X (.IfExp c a b pos) (tE X.K (fun env => bindB (asB (fc env)) fa fb)) :=
  pe_w (pe_ifExp hc ha hb) fun σ H Q ⟨g, F, env, r, env', k, ec, f⟩ => by
    obtain ⟨t, e1, h1, h2⟩ := bindB_some ec
    refine ⟨g, F, env, t, e1, k, h1, fun F' H' k' s => ite_b (fun et => ?_) (fun et => ?_)⟩
    · subst et
      exact ⟨g, F', e1, r, env', k', by simpa using h2, f.mono s⟩
    · subst et
      exact ⟨g, F', e1, r, env', k', by simpa using h2, f.mono s⟩
theorem n_and {fa fb : Ev → Option (Rs × Ev)} (ha : PE X a (tE X.K fa)) (hb : PE X (.BoolOp .And (b :: rest) pos) (tE X.K fb)) :
    PE X (.BoolOp .And (a :: b :: rest) pos) (tE X.K (fun env => (fa env).bind fun p => (truD p.1.d).bind fun c => if c then fb p.2 else some (.v p.1.d, p.2))) :=
  pe_w (pe_andT ha hb) fun σ H Q ⟨g, F, env, r, env', k, ec, f⟩ => by
    simp only [Option.bind_eq_some_iff] at ec
    obtain ⟨⟨r1, e1⟩, h1, t, h2, h3⟩ := ec
    refine ⟨g, F, env, r1, e1, k, h1, fun v F' H' k' s hv => ⟨t, tru_of hv.brep k'.fH h2, ite_b (fun et => ?_) (fun et => ?_)⟩⟩
    · subst et
      exact ⟨g, F', e1, r, env', k', by simpa using h3, f.mono s⟩
    · subst et
      simp only [Bool.false_eq_true, if_false, Option.some.injEq, Prod.mk.injEq] at h3
      obtain ⟨rfl, rfl⟩ := h3
      obtain ⟨F2, k2, s2, d2⟩ := hv.frz k'
      exact f v F2 H' k2 (s.trans s2) d2
theorem n_or {fa fb : Ev → Option (Rs × Ev)} (ha : PE X a (tE X.K fa)) (hb : PE X (.BoolOp .Or (b :: rest) pos) (tE X.K fb)) :
    PE X (.BoolOp .Or (a :: b :: rest) pos) (tE X.K (fun env => (fa env).bind fun p => (truD p.1.d).bind fun c => if c then some (.v p.1.d, p.2) else fb p.2)) :=
  pe_w (pe_orT ha hb) fun σ H Q ⟨g, F, env, r, env', k, ec, f⟩ => by
    simp only [Option.bind_eq_some_iff] at ec
    obtain ⟨⟨r1, e1⟩, h1, t, h2, h3⟩ := ec
    refine ⟨g, F, env, r1, e1, k, h1, fun v F' H' k' s hv => ⟨t, tru_of hv.brep k'.fH h2, ite_b (fun et => ?_) (fun et => ?_)⟩⟩
    · subst et
      simp only [if_true, Option.some.injEq, Prod.mk.injEq] at h3
      obtain ⟨rfl, rfl⟩ := h3
      obtain ⟨F2, k2, s2, d2⟩ := hv.frz k'
      exact f v F2 H' k2 (s.trans s2) d2
    · subst et
      exact ⟨g, F', e1, r, env', k', by simpa using h3, f.mono s⟩
theorem n_notV {iv : Option Nat} {fa : Ev → Option (Rs × Ev)} (h : PE X a (tH X.K (opd iv fa))) : PE X (.UnaryOp .Not a pos) (tE X.K (fun env => op1 iv fa (fun x e => (truD x).map fun b => (.v (.bool (!b)), e)) env)) :=
  pe_w (pe_notT h) fun σ H Q ⟨g, F, env, r, env', k, ec, f⟩ => by
    obtain ⟨ha, e1, x, h1, h3, h5⟩ := op1_some ec
    simp only [Option.map_eq_some_iff] at h5
    obtain ⟨b, h5, h6⟩ := h5
    cases h6
    exact ⟨g, F, env, ha, _, k, h1, fun v F1 H1 k1 s1 q1 => ⟨b, tru_of (k1.brep q1 h3) k1.fH h5, f _ F1 H1 k1 s1 (.bl _)⟩⟩
/-! ### one operand -/
theorem one_op {iv : Option Nat} {fa : Ev → Option (Rs × Ev)} {op : Op1} {r1 : R1} (hr : Res1 X.K r1 op) {σ : St} {H : Hp} {Q : VK}
    (h : tE X.K (fun env => op1 iv fa (fun x e => withE e (op x)) env) σ H Q) : tUn r1 (tH X.K (opd iv fa)) σ H Q := by
  obtain ⟨g, F, env, r, env', k, ec, f⟩ := h
  obtain ⟨ha, e1, x, h1, h3, h5⟩ := op1_some ec
  simp only [withE, Option.map_eq_some_iff] at h5
  obtain ⟨r', h5, h6⟩ := h5
  cases h6
  exact ⟨g, F, env, ha, _, k, h1, fun v F1 H1 k1 s1 q1 => hr g F1 _ σ H1 v x r Q k1 (k1.brep q1 h3) h5 (f.mono s1)⟩
theorem n_neg {iv : Option Nat} {fa : Ev → Option (Rs × Ev)} (ha : PE X a (tH X.K (opd iv fa))) : PE X (.UnaryOp .USub a pos) (tE X.K (fun env => op1 iv fa (fun x e => withE e ((D.int? x).map fun i => .v (.int (-i)))) env)) := by
  obtain ⟨r, h1, h2⟩ := u_neg (X := X)
  exact pe_w (pe_un h1 ha) fun σ H Q => one_op (op := fun d => (D.int? d).map fun i => .v (.int (-i))) h2
/-! ### displays -/
theorem n_nil : PA X [] (tAs X.K (fun env => some ([], env))) := pa_w pa_nil fun σ H Q ⟨g, F, env, ds, env', k, ec, f⟩ => by
  cases ec
  exact f [] F H k (Same.refl _) .nil
theorem n_cons {fa : Ev → Option (Rs × Ev)} {fs : Ev → Option (List D × Ev)} (ha : PE X a (tE X.K fa)) (hr : PA X rest (tAs X.K fs)) (hs : starEach (a :: rest) X.env = (false, eval a X.env) :: starEach rest X.env) :
    PA X (a :: rest) (tAs X.K (fun env => (fa env).bind fun p => (fs p.2).map fun q => (p.1.d :: q.1, q.2))) :=
  pa_w (pa_cons ha hr hs) fun σ H Q ⟨g, F, env, ds, env', k, ec, f⟩ => by
    simp only [Option.bind_eq_some_iff, Option.map_eq_some_iff] at ec
    obtain ⟨⟨r, e1⟩, h1, ⟨ds2, e2⟩, h2, h3⟩ := ec
    cases h3
    refine ⟨g, F, env, r, e1, k, h1, fun v F' H' k' s hv => ?_⟩
    obtain ⟨F2, k2, s2, d2⟩ := hv.frz k'
    exact ⟨g, F2, e1, ds2, _, k2, h2, fun vs F3 H3 k3 s3 h3 => f (v :: vs) F3 H3 k3 (s.trans (s2.trans s3)) (.cons (dp_mono s3 d2) h3)⟩
theorem sizeE_some {f : List D → Rs} {o : Option (List D × Ev)} {r : Rs} {e' : Ev} (h : sizeE f o = some (r, e')) : ∃ ds, o = some (ds, e') ∧ ds.length ≤ sizeLine ∧ r = f ds := by
  unfold sizeE at h
  simp only [Option.bind_eq_some_iff] at h
  obtain ⟨⟨ds, e1⟩, h1, h2⟩ := h
  split at h2
  · cases h2
    exact ⟨ds, h1, by assumption, rfl⟩
  · cases h2
theorem n_tup {fs : Ev → Option (List D × Ev)} {kk : Nat} (h : PA X rest (tAs X.K fs)) : PE X (.Tuple rest kk pos) (tE X.K (fun env => sizeE (fun xs => .v (.tuple xs)) (fs env))) :=
  pe_w (pe_tup h) fun σ H Q ⟨g, F, env, r, env', k, ec, f⟩ => by
    obtain ⟨ds, h1, hz, rfl⟩ := sizeE_some ec
    refine ⟨g, F, env, ds, env', k, h1, fun vs F' H' k' s hv => ⟨by rw [dps_len hv]; exact hz, fun p hp => ?_⟩⟩
    exact (f.mono s).newT k' hv hp
theorem n_lst {fs : Ev → Option (List D × Ev)} (h : PA X rest (tAs X.K fs)) : PE X (.List rest pos) (tE X.K (fun env => sizeE .o (fs env))) :=
  pe_w (pe_lst h) fun σ H Q ⟨g, F, env, r, env', k, ec, f⟩ => by
    obtain ⟨ds, h1, hz, rfl⟩ := sizeE_some ec
    refine ⟨g, F, env, ds, env', k, h1, fun vs F' H' k' s hv => ⟨by rw [dps_len hv]; exact hz, fun p hp => ?_⟩⟩
    exact (f.mono s).newL k' hv hp
theorem n_rep {fs : Ev → Option (List D × Ev)} {iv : Option Nat} {fb : Ev → Option (Rs × Ev)} {p2 : Pos} (h : PA X rest (tAs X.K fs)) (hb : PE X b (tH X.K (opd iv fb))) :
    PE X (.BinOp (.List rest pos) .Mult b p2) (tE X.K (fun env => (fs env).bind fun p => if p.1.length ≤ sizeLine then op1 iv fb (fun y e2 => withE e2 (repR p.1 y)) p.2 else none)) :=
  pe_w (pe_op op_rep (pe_lst h) hb) fun σ H Q ⟨g, F, env, r, env', k, ec, f⟩ => by
    simp only [Option.bind_eq_some_iff] at ec
    obtain ⟨⟨ds, e1⟩, h1, h2⟩ := ec
    split at h2
    · rename_i hz
      obtain ⟨hb, e2, y, h3, h4, h5⟩ := op1_some h2
      simp only [withE, Option.map_eq_some_iff] at h5
      obtain ⟨r', h5, h6⟩ := h5
      cases h6
      refine ⟨g, F, env, ds, e1, k, h1, fun vs F' H' k' s hv => ⟨by rw [dps_len hv]; exact hz, fun p hp => ?_⟩⟩
      have k2 := k'.allocF (o := .lst vs) hp
      have sp := same_upd (o := HO.lst vs) (k'.fF hp)
      refine ⟨g, _, e1, hb, _, k2, h3, fun u F3 H3 k3 s3 q3 => ?_⟩
      have by' := k3.brep q3 h4
      cases y <;> simp only [repR] at h5 <;> try (cases h5; done)
      rename_i n
      split at h5
      · rename_i hn
        cases h5
        cases by'.int
        refine ⟨p, n, vs, rfl, rfl, k3.fH _ _ (s3 _ _ upd_same), hn.1, hn.2.1, by rw [dps_len hv]; exact hn.2.2, fun q hq => ?_⟩
        exact (f.mono (s.trans (sp.trans s3))).newL k3 (dps_replicate (dps_mono (sp.trans s3) hv) _) hq
      · cases h5
    · cases h2
/-! ### slices -/
def tOo (K : PySem.W.Frag) (c : Ev → Option (Option Int × Ev)) : TO := fun σ H Q => ∃ g F env o env', OK K g F env σ H ∧ c env = some (o, env') ∧ ∀ F' H', OK K g F' env' σ H' → Same F F' → Q o H'
theorem po_w {o : Option Expr} {t t' : TO} (h : PO X o t) (w : ∀ σ H Q, t' σ H Q → t σ H Q) : PO X o t' := ⟨fun pins s σ H Q I hw => h.run pins s σ H Q I (w σ H Q hw)⟩
theorem n_ono : PO X none (tOo X.K (fun env => some (none, env))) := po_w po_none fun σ H Q ⟨g, F, env, o, env', k, ec, f⟩ => by
  cases ec
  exact f F H k (Same.refl _)
theorem n_oso {iv : Option Nat} {fa : Ev → Option (Rs × Ev)} (ha : PE X a (tH X.K (opd iv fa))) : PO X (some a) (tOo X.K (fun env => op1 iv fa (fun x e => (D.int? x).map fun i => (some i, e)) env)) :=
  po_w (po_some ha) fun σ H Q ⟨g, F, env, o, env', k, ec, f⟩ => by
    obtain ⟨ha, e1, x, h1, h3, h5⟩ := op1_some ec
    cases x <;> simp only [D.int?, Option.map_none, Option.map_some] at h5 <;> try (cases h5; done)
    cases h5
    exact ⟨g, F, env, ha, _, k, h1, fun v F' H' k' s hv => ⟨_, (k'.brep hv h3).int, f F' H' k' s⟩⟩
theorem n_slice {iv : Option Nat} {fa : Ev → Option (Rs × Ev)} {fl fh : Ev → Option (Option Int × Ev)} {lo hi : Option Expr} {p2 : Pos} (ha : PE X a (tH X.K (opd iv fa))) (hl : PO X lo (tOo X.K fl)) (hh : PO X hi (tOo X.K fh)) :
    PE X (.Subscript a (.Slice lo hi none p2) pos) (tE X.K (fun env => (opd iv fa env).bind fun p => (fl p.2).bind fun l => (fh l.2).bind fun h => (p.1.get h.2).bind fun x => withE h.2 (sliceR x l.1 h.1))) := by
  obtain ⟨r, h1, h2⟩ := o_slice (X := X)
  refine pe_w (pe_slice h1 ha hl hh) fun σ H Q ⟨g, F, env, rr, env', k, ec, f⟩ => ?_
  simp only [Option.bind_eq_some_iff, withE, Option.map_eq_some_iff] at ec
  obtain ⟨⟨ha, e1⟩, q1, ⟨l, e2⟩, q2, ⟨h, e3⟩, q3, x, q4, r', q5, q6⟩ := ec
  cases q6
  refine ⟨g, F, env, ha, e1, k, q1, fun v F1 H1 k1 s1 w1 => ⟨g, F1, e1, l, e2, k1, q2, fun F2 H2 k2 s2 => ⟨g, F2, e2, h, _, k2, q3, fun F3 H3 k3 s3 => ?_⟩⟩⟩
  exact h2 g F3 _ σ H3 v x l h rr Q k3 (k3.brep (w1.mono (s2.trans s3)) q4) q5 (f.mono (s1.trans (s2.trans s3)))
theorem n_rev {iv : Option Nat} {fa : Ev → Option (Rs × Ev)} {kc : Nat} {p1 p2 p3 : Pos} (ha : PE X a (tH X.K (opd iv fa))) :
    PE X (.Subscript a (.Slice none none (some (.UnaryOp .USub (.Constant (.int 1) kc p1) p2)) p3) pos) (tE X.K (fun env => op1 iv fa (fun x e => withE e (revR x)) env)) :=
  pe_w (pe_revA ha) fun σ H Q ⟨g, F, env, r, env', k, ec, f⟩ => by
    obtain ⟨ha, e1, x, h1, h3, h5⟩ := op1_some ec
    simp only [withE, Option.map_eq_some_iff] at h5
    obtain ⟨r', h5, h6⟩ := h5
    cases h6
    refine ⟨g, F, env, ha, _, k, h1, fun v F' H' k' s hv => ?_⟩
    have bx := k'.brep hv h3
    cases x <;> simp only [revR] at h5 <;> try (cases h5; done)
    · cases h5
      obtain ⟨a, vs, rfl, s1, p1⟩ := bx.list k'.fH
      exact ⟨a, vs, rfl, .inl ⟨s1, fun p hp => (f.mono s).newL k' (dps_reverse p1) hp⟩⟩
    · cases h5
      obtain ⟨a, vs, rfl, s1, s1', p1⟩ := bx.tup k'.fH
      exact ⟨a, vs, rfl, .inr ⟨s1, fun p hp => (f.mono s).newT k' (dps_reverse p1) hp⟩⟩
/-! ### calls of what is built in -/
theorem hp_of {pos : Pos} {env : Env} : (backTo pos (starEach [] env)).any (·.1) = false := rfl
theorem pa_one {t : TE} (h : PE X a t) (hs : starEach [a] X.env = [(false, eval a X.env)]) : PA X [a] (tCons t tNil) := pa_cons h pa_nil hs
theorem call1_w {iv : Option Nat} {fa : Ev → Option (Rs × Ev)} {f : Value} {op : Op1} (hb : B1Ok X f op) (mk : ∀ r, CallR X f r → PE X e (tCB r (tCons (tH X.K (opd iv fa)) tNil))) :
    PE X e (tE X.K (fun env => op1 iv fa (fun x e => withE e (op x)) env)) := by
  obtain ⟨r, h1, h2⟩ := hb
  exact pe_w (mk r h1) fun σ H Q h => one_op (r1 := fun x H Q => r [x] H Q) (op := op) (fun g F env σ H x d r' Q => h2 g F env σ H x d r' Q) h
theorem call2_w {iv jv : Option Nat} {fa fb : Ev → Option (Rs × Ev)} {f : Value} {op : Op2} (hb : B2Ok X f op) (mk : ∀ r, CallR X f r → PE X e (tCB r (tCons (tH X.K (opd iv fa)) (tCons (tH X.K (opd jv fb)) tNil)))) :
    PE X e (tE X.K (fun env => op2 iv fa jv fb (fun x y e => withE e (op x y)) env)) := by
  obtain ⟨r, h1, h2⟩ := hb
  exact pe_w (mk r h1) fun σ H Q h => two_ops (r2 := fun x y H Q => r [x, y] H Q) (op := op) (fun g F env σ H x y d e r' Q => h2 g F env σ H x y d e r' Q) h
end
end KX

set_option Elab.async false
set_option linter.all false
set_option maxHeartbeats 1000000
/-! KB6: calls of the text's own defs; targets; loops' sources; comprehensions. -/
namespace KX
open PySem PySem.Spec PyProof.Rows L2
def ArgOK (K : PySem.W.Frag) (F H : Hp) (v : V) : Sl → Prop
  | .v d => Rp K F v d
  | .io xs => ∃ a ws, v = .ref a ∧ H a = some (.lst ws) ∧ F a = none ∧ Rps K F ws xs
  | _ => False
structure CallPre (K : PySem.W.Frag) (F H : Hp) (vs : List V) (args : List Sl) : Prop where
  fH : Same F H
  len : vs.length = args.length
  arg : ∀ (i : Nat) v s, vs[i]? = some v → args[i]? = some s → ArgOK K F H v s
  dist : ∀ (i j : Nat) a xs ys, args[i]? = some (.io xs) → args[j]? = some (.io ys) → vs[i]? = some (V.ref a) → vs[j]? = some (V.ref a) → i = j
def RetOK (K : PySem.W.Frag) (H F' H' : Hp) (v : V) : Rs → Prop
  | .v d => Rp K F' v d
  | .o xs => ∃ a ws, v = .ref a ∧ H' a = some (.lst ws) ∧ F' a = none ∧ H a = none ∧ Rps K F' ws xs
structure CallPost (K : PySem.W.Frag) (F H : Hp) (vs : List V) (args : List Sl) (r : Rs) (outs : List Sl) (v : V) (F' H' : Hp) : Prop where
  ff : Same F F'
  fH : Same F' H'
  keep : ∀ b o, H b = some o → (∀ (i : Nat) xs, args[i]? = some (.io xs) → vs[i]? ≠ some (V.ref b)) → H' b = some o
  gro : ∀ b o, F' b = some o → F b = some o ∨ H b = none
  ret : RetOK K H F' H' v r
  out : ∀ (i : Nat) xs a, args[i]? = some (.io xs) → vs[i]? = some (V.ref a) → ∃ xs' ws', outs[i]? = some (.io xs') ∧ H' a = some (.lst ws') ∧ F' a = none ∧ Rps K F' ws' xs'
/-- a def's promise: it runs as c says -/
def spF (K : PySem.W.Frag) (c : List Sl → Option (Rs × List Sl)) : Sp := fun vs H Q _ => ∃ F args r outs, CallPre K F H vs args ∧ c args = some (r, outs) ∧ ∀ v F' H', CallPost K F H vs args r outs v F' H' → Q v H'

/-! ### arguments -/
inductive AsOK (K : PySem.W.Frag) (F : Hp) (σ : St) : List V → List (Sum D Nat) → Prop
  | nil : AsOK K F σ [] []
  | val {v d vs as} : Rp K F v d → AsOK K F σ vs as → AsOK K F σ (v :: vs) (.inl d :: as)
  | io {v i vs as} : σ[i]? = some (some v) → AsOK K F σ vs as → AsOK K F σ (v :: vs) (.inr i :: as)
section
variable {K : PySem.W.Frag} {g : Gh} {F F' H H' : Hp} {env env' : Ev} {σ : St} {v : V} {vs : List V} {as : List (Sum D Nat)}
theorem AsOK.mono (f : Same F F') : ∀ {vs : List V} {as : List (Sum D Nat)}, AsOK K F σ vs as → AsOK K F' σ vs as
  | _, _, .nil => .nil
  | _, _, .val h t => .val (dp_mono f h) (t.mono f)
  | _, _, .io h t => .io h (t.mono f)
theorem AsOK.len : ∀ {vs : List V} {as : List (Sum D Nat)}, AsOK K F σ vs as → vs.length = as.length
  | _, _, .nil => rfl
  | _, _, .val _ t => congrArg Nat.succ t.len
  | _, _, .io _ t => congrArg Nat.succ t.len
theorem AsOK.app {ws : List V} {ds : List D} (q : Rps K F ws ds) : ∀ {vs : List V} {as : List (Sum D Nat)}, AsOK K F σ vs as → AsOK K F σ (vs ++ ws) (as ++ ds.map .inl)
  | _, _, .nil => by
    show AsOK K F σ ws (ds.map .inl)
    induction ds generalizing ws with
    | nil => cases q; exact .nil
    | cons d ds ih => cases q with | cons h t => exact .val h (ih t)
  | _, _, .val h t => .val h (t.app q)
  | _, _, .io h t => .io h (t.app q)
theorem AsOK.inl : ∀ {vs : List V} {as : List (Sum D Nat)} {p : Nat} {d : D} {v : V}, AsOK K F σ vs as → as[p]? = some (.inl d) → vs[p]? = some v → Rp K F v d
  | _, _, _, _, _, .nil, h, _ => by simp at h
  | _, _, 0, _, _, .val h t, e, e' => by simp at e e'; subst e e'; exact h
  | _, _, 0, _, _, .io h t, e, e' => by simp at e
  | _, _, p + 1, _, _, .val h t, e, e' => t.inl (p := p) (by simpa using e) (by simpa using e')
  | _, _, p + 1, _, _, .io h t, e, e' => t.inl (p := p) (by simpa using e) (by simpa using e')
theorem AsOK.inr : ∀ {vs : List V} {as : List (Sum D Nat)} {p : Nat} {i : Nat} {v : V}, AsOK K F σ vs as → as[p]? = some (.inr i) → vs[p]? = some v → σ[i]? = some (some v)
  | _, _, _, _, _, .nil, h, _ => by simp at h
  | _, _, 0, _, _, .val h t, e, e' => by simp at e
  | _, _, 0, _, _, .io h t, e, e' => by simp at e e'; subst e e'; exact h
  | _, _, p + 1, _, _, .val h t, e, e' => t.inr (p := p) (by simpa using e) (by simpa using e')
  | _, _, p + 1, _, _, .io h t, e, e' => t.inr (p := p) (by simpa using e) (by simpa using e')
theorem argSl_at : ∀ {as : List (Sum D Nat)} {sl : List Sl}, argSl env as = some sl → sl.length = as.length ∧ ∀ (p : Nat) s, sl[p]? = some s → (∃ d, as[p]? = some (.inl d) ∧ s = .v d) ∨ ∃ i xs, as[p]? = some (.inr i) ∧ s = .io xs ∧ (env[i]? = some (.o xs) ∨ env[i]? = some (.io xs))
  | [], sl, h => by cases h; exact ⟨rfl, fun p s e => by simp at e⟩
  | .inl d :: r, sl, h => by
    simp only [argSl, Option.map_eq_some_iff] at h
    obtain ⟨sl', h1, rfl⟩ := h
    obtain ⟨q1, q2⟩ := argSl_at h1
    refine ⟨congrArg Nat.succ q1, fun p s e => ?_⟩
    cases p with
    | zero => simp at e; subst e; exact .inl ⟨d, rfl, rfl⟩
    | succ p => simpa using q2 p s (by simpa using e)
  | .inr i :: r, sl, h => by
    simp only [argSl] at h
    have key : ∃ xs sl', (env[i]? = some (.o xs) ∨ env[i]? = some (.io xs)) ∧ argSl env r = some sl' ∧ sl = .io xs :: sl' := by
      split at h
      · rename_i xs hx
        simp only [Option.map_eq_some_iff] at h
        obtain ⟨sl', h1, rfl⟩ := h
        exact ⟨xs, sl', .inl hx, h1, rfl⟩
      · rename_i xs hx
        simp only [Option.map_eq_some_iff] at h
        obtain ⟨sl', h1, rfl⟩ := h
        exact ⟨xs, sl', .inr hx, h1, rfl⟩
      · cases h
    obtain ⟨xs, sl', hx, h1, rfl⟩ := key
    obtain ⟨q1, q2⟩ := argSl_at h1
    refine ⟨congrArg Nat.succ q1, fun p s e => ?_⟩
    cases p with
    | zero => simp at e; subst e; exact .inr ⟨i, xs, rfl, rfl, hx⟩
    | succ p => simpa using q2 p s (by simpa using e)
theorem mem_ioOf : ∀ {as : List (Sum D Nat)} {i : Nat}, i ∈ ioOf as ↔ ∃ p : Nat, as[p]? = some (.inr i)
  | [], i => by simp [ioOf]
  | .inl d :: r, i => by
    rw [show ioOf (Sum.inl d :: r : List (Sum D Nat)) = ioOf r from rfl, mem_ioOf]
    constructor
    · rintro ⟨p, h⟩; exact ⟨p + 1, by simpa using h⟩
    · rintro ⟨p, h⟩
      cases p with
      | zero => simp at h
      | succ p => exact ⟨p, by simpa using h⟩
  | .inr j :: r, i => by
    rw [show ioOf (Sum.inr j :: r : List (Sum D Nat)) = j :: ioOf r from rfl, List.mem_cons, mem_ioOf]
    constructor
    · rintro (rfl | ⟨p, h⟩)
      · exact ⟨0, rfl⟩
      · exact ⟨p + 1, by simpa using h⟩
    · rintro ⟨p, h⟩
      cases p with
      | zero => simp at h; exact .inl h.symm
      | succ p => exact .inr ⟨p, by simpa using h⟩
theorem ioOf_inj : ∀ {as : List (Sum D Nat)} {p q i : Nat}, (ioOf as).Nodup → as[p]? = some (.inr i) → as[q]? = some (.inr i) → p = q
  | [], p, q, i, _, h, _ => by simp at h
  | .inl d :: r, p, q, i, n, h, h' => by
    cases p with
    | zero => simp at h
    | succ p =>
      cases q with
      | zero => simp at h'
      | succ q => exact congrArg Nat.succ (ioOf_inj (as := r) (p := p) (q := q) (i := i) n (by simpa using h) (by simpa using h'))
  | .inr j :: r, p, q, i, n, h, h' => by
    rw [show ioOf (Sum.inr j :: r : List (Sum D Nat)) = j :: ioOf r from rfl, List.nodup_cons] at n
    cases p with
    | zero =>
      simp at h; subst h
      cases q with
      | zero => rfl
      | succ q => exact absurd (mem_ioOf.mpr ⟨q, by simpa using h'⟩) n.1
    | succ p =>
      cases q with
      | zero => simp at h'; subst h'; exact absurd (mem_ioOf.mpr ⟨p, by simpa using h⟩) n.1
      | succ q => exact congrArg Nat.succ (ioOf_inj (as := r) (p := p) (q := q) (i := i) n.2 (by simpa using h) (by simpa using h'))
theorem backA_at : ∀ {as : List (Sum D Nat)} {outs : List Sl} {env e2 : Ev}, (ioOf as).Nodup → backA env as outs = some e2 → e2.length = env.length ∧ (∀ j, j ∉ ioOf as → e2[j]? = env[j]?) ∧
    ∀ (p i : Nat), as[p]? = some (.inr i) → ∃ xs', outs[p]? = some (.io xs') ∧ (((∃ ys, env[i]? = some (.o ys)) ∧ e2[i]? = some (.o xs')) ∨ ((∃ ys, env[i]? = some (.io ys)) ∧ e2[i]? = some (.io xs')))
  | [], outs, env, e2, _, h => by
    simp only [backA, Option.some.injEq] at h
    subst h
    exact ⟨rfl, fun _ _ => rfl, fun p i h => by simp at h⟩
  | .inl d :: r, [], env, e2, _, h => by simp [backA] at h
  | .inl d :: r, o :: os, env, e2, n, h => by
    simp only [backA] at h
    obtain ⟨q1, q2, q3⟩ := backA_at (as := r) n h
    refine ⟨q1, q2, fun p i hp => ?_⟩
    cases p with
    | zero => simp at hp
    | succ p => simpa using q3 p i (by simpa using hp)
  | .inr j :: r, outs, env, e2, n, h => by
    have n' := List.nodup_cons.mp (show (j :: ioOf r).Nodup from n)
    have key : ∃ xs os s, outs = .io xs :: os ∧ backA (env.set j s) r os = some e2 ∧ ((s = .o xs ∧ ∃ ys, env[j]? = some (.o ys)) ∨ (s = .io xs ∧ ∃ ys, env[j]? = some (.io ys))) := by
      cases outs with
      | nil => simp [backA] at h
      | cons o os =>
        cases o with
        | io xs =>
          simp only [backA] at h
          split at h
          · rename_i ys hy; exact ⟨xs, os, _, rfl, h, .inl ⟨rfl, ys, hy⟩⟩
          · rename_i ys hy; exact ⟨xs, os, _, rfl, h, .inr ⟨rfl, ys, hy⟩⟩
          · cases h
        | _ => simp [backA] at h
    obtain ⟨xs, os, s, rfl, h, hs⟩ := key
    obtain ⟨q1, q2, q3⟩ := backA_at (as := r) n'.2 h
    have hj : j < env.length := by rcases hs with ⟨_, ys, z⟩ | ⟨_, ys, z⟩ <;> exact (List.getElem?_eq_some_iff.mp z).1
    have ej : e2[j]? = some s := by rw [q2 j n'.1, List.getElem?_set_self hj]
    refine ⟨by rw [q1, List.length_set], fun i hi => ?_, fun p i hp => ?_⟩
    · have hi' : i ∉ j :: ioOf r := hi
      simp only [List.mem_cons, not_or] at hi'
      rw [q2 i hi'.2, List.getElem?_set_ne (Ne.symm hi'.1)]
    · cases p with
      | zero =>
        simp at hp
        subst hp
        refine ⟨xs, rfl, ?_⟩
        rcases hs with ⟨rfl, z⟩ | ⟨rfl, z⟩
        · exact .inl ⟨z, ej⟩
        · exact .inr ⟨z, ej⟩
      | succ p =>
        have hp' : r[p]? = some (.inr i) := by simpa using hp
        have ne : i ≠ j := fun z => by subst z; exact n'.1 (mem_ioOf.mpr ⟨p, hp'⟩)
        obtain ⟨xs', h1, h2⟩ := q3 p i hp'
        refine ⟨xs', by simpa using h1, ?_⟩
        rwa [List.getElem?_set_ne (Ne.symm ne)] at h2
/-- ahead of a call -/
theorem OK.pre (k : OK K g F env σ H) (ha : AsOK K F σ vs as) (n : (ioOf as).Nodup) {sl : List Sl} (hs : argSl env as = some sl) : CallPre K F H vs sl := by
  obtain ⟨l1, l2⟩ := argSl_at hs
  have own : ∀ (p : Nat) xs, sl[p]? = some (.io xs) → ∃ i, as[p]? = some (.inr i) ∧ (env[i]? = some (.o xs) ∨ env[i]? = some (.io xs)) := fun p xs e => by
    rcases l2 p _ e with ⟨d, _, z⟩ | ⟨i, ys, h1, z, h2⟩
    · cases z
    · cases z; exact ⟨i, h1, h2⟩
  refine ⟨k.fH, by rw [ha.len, l1], fun p v s e1 e2 => ?_, fun p q a xs ys e1 e2 e3 e4 => ?_⟩
  · rcases l2 p _ e2 with ⟨d, h1, rfl⟩ | ⟨i, xs, h1, rfl, h2⟩
    · exact ha.inl h1 e1
    · have hσ := ha.inr h1 e1
      rcases h2 with h2 | h2
      · obtain ⟨a, z1, _, ws, z2, z3, _, z5⟩ := k.slot i _ h2
        rw [hσ] at z1; cases z1; exact ⟨a, ws, rfl, z2, z3, z5⟩
      · obtain ⟨a, z1, _, ws, z2, z3, _, z5⟩ := k.slot i _ h2
        rw [hσ] at z1; cases z1; exact ⟨a, ws, rfl, z2, z3, z5⟩
  · obtain ⟨i, h1, w1⟩ := own p xs e1
    obtain ⟨j, h2, w2⟩ := own q ys e2
    have o1 : Own env i := by rcases w1 with w | w; exact .inl ⟨_, w⟩; exact .inr ⟨_, w⟩
    have o2 : Own env j := by rcases w2 with w | w; exact .inl ⟨_, w⟩; exact .inr ⟨_, w⟩
    have := k.dist i j a o1 o2 (ha.inr h1 e3) (ha.inr h2 e4)
    subst this
    exact ioOf_inj n h1 h2
/-- behind a call -/
theorem OK.post (k : OK K g F env σ H) (ha : AsOK K F σ vs as) (n : (ioOf as).Nodup) {sl outs : List Sl} {e2 : Ev} {r : Rs} (hs : argSl env as = some sl) (hb : backA env as outs = some e2) (c : CallPost K F H vs sl r outs v F' H') :
    OK K g F' e2 σ H' ∧ RsOK K g F' e2 σ H' v r := by
  obtain ⟨l1, l2⟩ := argSl_at hs
  obtain ⟨b1, b2, b3⟩ := backA_at n hb
  -- an io argument's slot
  have ioS : ∀ (p : Nat) xs b, sl[p]? = some (.io xs) → vs[p]? = some (V.ref b) → ∃ i, i ∈ ioOf as ∧ Own env i ∧ σ[i]? = some (some (.ref b)) := fun p xs b e1 e2 => by
    rcases l2 p _ e1 with ⟨d, _, z⟩ | ⟨i, ys, h1, z, h2⟩
    · cases z
    · refine ⟨i, mem_ioOf.mpr ⟨p, h1⟩, ?_, ha.inr h1 e2⟩
      rcases h2 with w | w; exact .inl ⟨_, w⟩; exact .inr ⟨_, w⟩
  have own2 : ∀ j, Own e2 j → Own env j := fun j hj => by
    by_cases m : j ∈ ioOf as
    · obtain ⟨p, hp⟩ := mem_ioOf.mp m
      obtain ⟨xs', _, ⟨z, _⟩ | ⟨z, _⟩⟩ := b3 p j hp
      · exact .inl z
      · exact .inr z
    · unfold Own at hj ⊢
      rw [b2 j m] at hj
      exact hj
  have kp : ∀ b o, H b = some o → (∀ i, i ∈ ioOf as → Own env i → σ[i]? ≠ some (some (.ref b))) → H' b = some o := fun b o e h => c.keep b o e fun p xs e1 e2 => by
    obtain ⟨i, m, ow, z⟩ := ioS p xs b e1 e2
    exact h i m ow z
  have hF' : ∀ a vs', H a = some (.lst vs') → F a = none → F' a = none := fun a vs' h1 h2 => by
    cases q : F' a with
    | none => rfl
    | some o =>
      rcases c.gro a o q with z | z
      · rw [h2] at z; cases z
      · rw [h1] at z; cases z
  have okk : OK K g F' e2 σ H' := by
    refine ⟨c.fH, fun b o e => kp b o (k.gH b o e) fun i m ow z => ?_, k.f0.trans c.ff, fun b o e => ?_, by rw [b1]; exact k.len, fun j s ej => ?_, fun i j a o1 o2 => k.dist i j a (own2 i o1) (own2 j o2), fun i a e => ?_⟩
    · obtain ⟨a, vs', z1, _, _, z4⟩ := k.own ow
      rw [z] at z1; cases z1; rw [e] at z4; cases z4
    · rcases c.gro b o e with z | z
      · exact k.gro b o z
      · exact .inr ⟨k.fG z, k.fio z⟩
    · by_cases m : j ∈ ioOf as
      · obtain ⟨p, hp⟩ := mem_ioOf.mp m
        obtain ⟨xs', ho, hk⟩ := b3 p j hp
        have hpl : p < vs.length := by rw [ha.len]; exact (List.getElem?_eq_some_iff.mp hp).1
        have hsl : p < sl.length := by rw [l1]; exact (List.getElem?_eq_some_iff.mp hp).1
        have es : sl[p]? = some sl[p] := List.getElem?_eq_getElem hsl
        obtain ⟨xs, hxs⟩ : ∃ xs, sl[p]? = some (.io xs) := by
          rcases l2 p _ es with ⟨d, z, _⟩ | ⟨i, ys, z, z2, _⟩
          · rw [hp] at z; cases z
          · exact ⟨ys, by rw [es, z2]⟩
        have hσ := ha.inr hp (List.getElem?_eq_getElem hpl)
        rcases hk with ⟨⟨ys, hy⟩, he⟩ | ⟨⟨ys, hy⟩, he⟩
        · rw [he] at ej; cases ej
          obtain ⟨a, z1, z2, ws, _, _, z5, _⟩ := k.slot j _ hy
          rw [hσ] at z1
          have hv : vs[p]? = some (V.ref a) := by rw [List.getElem?_eq_getElem hpl]; exact Option.some.inj z1
          obtain ⟨xs2, ws', q1, q2, q3, q4⟩ := c.out p xs a hxs hv
          rw [ho] at q1; cases q1
          exact ⟨a, by rw [hσ]; exact z1, z2, ws', q2, q3, z5, q4⟩
        · rw [he] at ej; cases ej
          obtain ⟨a, z1, z2, ws, _, _, z5, _⟩ := k.slot j _ hy
          rw [hσ] at z1
          have hv : vs[p]? = some (V.ref a) := by rw [List.getElem?_eq_getElem hpl]; exact Option.some.inj z1
          obtain ⟨xs2, ws', q1, q2, q3, q4⟩ := c.out p xs a hxs hv
          rw [ho] at q1; cases q1
          exact ⟨a, by rw [hσ]; exact z1, z2, ws', q2, q3, z5, q4⟩
      · rw [b2 j m] at ej
        refine (k.slot j s ej).mono c.ff fun a vs' h1 h2 _ hσ ho => ⟨kp a _ h1 fun i mi ow z => ?_, hF' a vs' h1 h2⟩
        have oj : Own env j := by rcases ho with ⟨xs, rfl⟩ | ⟨xs, rfl⟩; exact .inl ⟨xs, ej⟩; exact .inr ⟨xs, ej⟩
        have := k.dist i j a ow oj z hσ
        subst this
        exact m mi
    · obtain ⟨xs, q⟩ := k.ios i a e
      by_cases m : i ∈ ioOf as
      · obtain ⟨p, hp⟩ := mem_ioOf.mp m
        obtain ⟨xs', _, ⟨⟨ys, z⟩, _⟩ | ⟨_, z⟩⟩ := b3 p i hp
        · rw [q] at z; cases z
        · exact ⟨xs', z⟩
      · exact ⟨xs, by rw [b2 i m]; exact q⟩
  refine ⟨okk, ?_⟩
  have := c.ret
  cases r with
  | v d => exact this
  | o xs =>
    obtain ⟨a, ws, rfl, h1, h2, h3, h4⟩ := this
    exact ⟨a, rfl, k.fio h3, ⟨ws, h1, h2, k.fG h3, h4⟩, fun i hi => k.fown h3 i (own2 i hi)⟩
end
def tAa (K : PySem.W.Frag) (c : Ev → Option (List (Sum D Nat) × Ev)) : TA := fun σ H Q => ∃ g F env as env', OK K g F env σ H ∧ c env = some (as, env') ∧ ∀ vs F' H', OK K g F' env' σ H' → Same F F' → AsOK K F' σ vs as → Q vs H'
section
variable {X : Cx} {e a b c : Expr} {pos p : Pos} {rest es : List Expr}
theorem n_anil : PA X [] (tAa X.K (fun env => some ([], env))) := pa_w pa_nil fun σ H Q ⟨g, F, env, ds, env', k, ec, f⟩ => by
  cases ec
  exact f [] F H k (Same.refl _) .nil
theorem n_aval {fa : Ev → Option (Rs × Ev)} {fs : Ev → Option (List (Sum D Nat) × Ev)} (ha : PE X a (tE X.K fa)) (hr : PA X rest (tAa X.K fs)) (hs : starEach (a :: rest) X.env = (false, eval a X.env) :: starEach rest X.env) :
    PA X (a :: rest) (tAa X.K (fun env => (fa env).bind fun p => (fs p.2).map fun q => (.inl p.1.d :: q.1, q.2))) :=
  pa_w (pa_cons ha hr hs) fun σ H Q ⟨g, F, env, ds, env', k, ec, f⟩ => by
    simp only [Option.bind_eq_some_iff, Option.map_eq_some_iff] at ec
    obtain ⟨⟨r, e1⟩, h1, ⟨ds2, e2⟩, h2, h3⟩ := ec
    cases h3
    refine ⟨g, F, env, r, e1, k, h1, fun v F' H' k' s hv => ?_⟩
    obtain ⟨F2, k2, s2, d2⟩ := hv.frz k'
    exact ⟨g, F2, e1, ds2, _, k2, h2, fun vs F3 H3 k3 s3 h3 => f (v :: vs) F3 H3 k3 (s.trans (s2.trans s3)) (.val (dp_mono s3 d2) h3)⟩
theorem argSl_has {env : Ev} : ∀ {as : List (Sum D Nat)} {sl : List Sl}, argSl env as = some sl → ∀ i, .inr i ∈ as → Own env i := fun {as sl} h i hi => by
  obtain ⟨l1, l2⟩ := argSl_at h
  obtain ⟨p, hp, e⟩ := List.getElem_of_mem hi
  have hs : p < sl.length := by rw [l1]; exact hp
  rcases l2 p _ (List.getElem?_eq_getElem hs) with ⟨d, z, _⟩ | ⟨j, xs, z, _, w⟩
  · rw [List.getElem?_eq_getElem hp, e] at z; cases z
  · rw [List.getElem?_eq_getElem hp, e] at z; cases z
    rcases w with w | w; exact .inl ⟨_, w⟩; exact .inr ⟨_, w⟩
theorem n_call {k : Nat} {f : Addr} {fd : FuncData} {ps : List Str} {x : Str} {ds : List Value} {dvs : List V} {C : CT} {j : Nat} {dv : List D} {fs : Ev → Option (List (Sum D Nat) × Ev)}
    (F : FnOk X.prog X.w X.K X.mg X.base CX0 k f fd ps (spF X.K (C j))) (hr : Room k X.A) (hg : Gl X x) (hm : X.mg x = some (.ref f)) (hk : PySem.W.keepIn X.K (.ref f) = true) (hb : Binds X.K fd ps ds) (hd : Vals dvs ds) (hdv : ∀ F, Rps X.K F dvs dv)
    (ha : PA X (a :: es) (tAa X.K fs)) (hdb : (x == ("__debug__" : Str)) = false) (he : starEach (a :: es) X.env = (false, eval a X.env) :: starEach es X.env) (hpl : (backTo pos (starEach es X.env)).any (·.1) = false) :
    PE X (.Call (.Name x p) (a :: es) [] pos) (tE X.K (fun env => (fs env).bind fun p => callE C j (p.1 ++ dv.map .inl) p.2)) :=
  pe_w (pe_call F hr hg hm hk hb hd pass0 ha hdb he hpl) fun σ H Q ⟨g, F0, env, r, env', k0, ec, q⟩ => by
    simp only [Option.bind_eq_some_iff] at ec
    obtain ⟨⟨as, e1⟩, h1, h2⟩ := ec
    unfold callE at h2
    split at h2
    · rename_i nd
      simp only [Option.bind_eq_some_iff, Option.map_eq_some_iff] at h2
      obtain ⟨sl, h3, ⟨r', outs⟩, h4, e2, h5, h6⟩ := h2
      cases h6
      refine ⟨g, F0, env, as, e1, k0, h1, fun vs F1 H1 k1 s1 ha1 => ?_⟩
      have ha2 := ha1.app (hdv F1)
      refine ⟨F1, sl, _, outs, k1.pre ha2 nd h3, h4, fun v F' H' c => ?_⟩
      obtain ⟨q1, q2⟩ := k1.post ha2 nd h3 h5 c
      exact q v F' H' q1 (s1.trans c.ff) q2
    · cases h2
/-- of no argument -/
theorem n_call0 {k : Nat} {f : Addr} {fd : FuncData} {ps : List Str} {x : Str} {ds : List Value} {dvs : List V} {C : CT} {j : Nat} {dv : List D}
    (F : FnOk X.prog X.w X.K X.mg X.base CX0 k f fd ps (spF X.K (C j))) (hr : Room k X.A) (hg : Gl X x) (hm : X.mg x = some (.ref f)) (hk : PySem.W.keepIn X.K (.ref f) = true) (hb : Binds X.K fd ps ds) (hd : Vals dvs ds) (hdv : ∀ F, Rps X.K F dvs dv)
    (hdb : (x == ("__debug__" : Str)) = false) :
    PE X (.Call (.Name x p) [] [] pos) (tE X.K (fun env => callE C j (dv.map .inl) env)) :=
  pe_w (pe_call0 (E := E0) F hr hg hm hk hb hd pass0 hdb) fun σ H Q ⟨g, F0, env, r, env', k0, h2, q⟩ => by
    unfold callE at h2
    split at h2
    · rename_i nd
      simp only [Option.bind_eq_some_iff, Option.map_eq_some_iff] at h2
      obtain ⟨sl, h3, ⟨r', outs⟩, h4, e2, h5, h6⟩ := h2
      cases h6
      have ha2 := (AsOK.nil (K := X.K) (F := F0) (σ := σ)).app (hdv F0)
      refine ⟨F0, sl, _, outs, k0.pre ha2 nd h3, h4, fun v F' H' c => ?_⟩
      obtain ⟨q1, q2⟩ := k0.post ha2 nd h3 h5 c
      exact q v F' H' q1 c.ff q2
    · cases h2
end
end KX

set_option Elab.async false
set_option linter.all false
set_option maxHeartbeats 1000000
/-! KB7: what a loop walks; comprehensions; targets. -/
namespace KX
open PySem PySem.Spec PyProof.Rows L2
theorem en_end {prog : Program} {w : World} {A : Around} {E : Value → Shared → Prop} {s : Shared} {e it a : Addr} {i : Nat} {items : Array Value} {old : Value} {Q : Option Value → Shared → Prop} (hh : A.handled = none) (he : IsEnum s.heap e it i old) (hit : s.heap.IsTupleIter it a i) (ht : s.heap.IsTuple a items) (hx : items[i]? = none)
    (hQ : ∀ h', Heap.ExtBut it s.heap h' → Q none { s with heap := h' }) : wpAny (model prog w) A (pyNext (.ref e)) Q E s := by
  have tE : s.TypeIs (.ref e) "enumerate" := ⟨_, he, rfl⟩
  unfold pyNext
  refine wpAny_bind (wpAny_attempt (wpAny_callSpecial?_slot (name := Str.ofString "__next__") tE F.slot_enumerate_next (wpAny_call_entry F.slot_enumerate_next tE F.entry_enumerate_next ?_ (F.args_enumerate_next_1 _))))
  show wpAny _ _ (field (.ref e) 2 >>= fun _ => _) _ _ s
  refine wpAny_bind (wpAny_field he rfl (x := .ref it) rfl (wpAny_bind (wpAny_nextOf_tuple_end hh hit ht hx fun h' x he' hx' => ?_)))
  obtain ⟨o, ho, hc⟩ := hx'
  exact wpAny_bind (wpAny_isInstance (T := "StopIteration") (b := true) ⟨o, ho, hc⟩ isSubtype_stop (wpAny_pure (hQ _ he')))
/-! ### enumerate, of a tuple, too -/
section
variable {prog : Program} {w : World} {A : Around} {E : Value → Shared → Prop} {s : Shared}
set_option maxHeartbeats 2000000 in
set_option maxRecDepth 100000 in
theorem en_new {v : Value} {o : Obj} {G : Heap → Prop} (B : Begins v o G) :
    Meets (Builtin.«enumerate.__new__» ⟨[.type "enumerate", v], []⟩) (fun _ R s => G s.heap ∧
      R (.ok (.ret (.ref (s.heap.push o).objs.size))) { s with heap := (s.heap.push o).push { cls := .type "enumerate", data := .fields #[.none, .bool false, .ref s.heap.objs.size, rawInt 0, .none, .none] } }) :=
  .of_wp fun prog w A R s hh => by
    obtain ⟨hp, g, d, tk, os⟩ := s
    obtain ⟨g1, hr⟩ := hh
    have hsub := sub_enumerate
    have it : ∀ {A' : Around} {E : Value → Shared → Prop} {Q : Value → Shared → Prop}, Q (.ref hp.objs.size) ⟨hp.push o, g, d, tk, os⟩ → wpAny (model prog w) A' (pyIter v) Q E ⟨hp, g, d, tk, os⟩ := fun q => B.iter prog w _ _ ⟨hp, g, d, tk, os⟩ _ g1 q
    wp_walk using it
    refine wpAny_stack_any (fun stk => wpAny_pure ?_)
    split
    · rename_i c _ _ _ _ _
      cases (c == Value.type "enumerate") <;> (wp_walk using it; exact ⟨_, rfl, hr⟩)
    · wp_walk using it
      exact ⟨_, rfl, hr⟩
theorem en_call {v : Value} {o : Obj} {G : Heap → Prop} {Q : Value → Shared → Prop} (B : Begins v o G) (g1 : G s.heap)
    (h : ∀ h', IsEnum h' (s.heap.objs.size + 1) s.heap.objs.size 0 .none → h'.get? s.heap.objs.size = some o → (∀ b o, s.heap.get? b = some o → h'.get? b = some o) → Q (.ref (s.heap.objs.size + 1)) { s with heap := h' }) :
    wpAny (model prog w) A (call (.type "enumerate") [v]) Q E s := by
  refine callType_new F.called_enumerate (by decide) (F.typeCall_enumerate_1 _) (F.newCall_enumerate_1 _) (fun obj => F.args_object_init_2 obj _) F.entry_enumerate_new (en_new B) ⟨g1, ?_⟩
  have z : (s.heap.push o).objs.size = s.heap.objs.size + 1 := Heap.size_push ..
  show _ ∧ _
  rw [z]
  have he := Heap.get?_push_size (s.heap.push o) (o := { cls := .type "enumerate", data := .fields #[.none, .bool false, .ref s.heap.objs.size, rawInt 0, .none, .none] }) rfl
  rw [z] at he
  exact ⟨⟨_, he, rfl⟩, h _ he (Heap.get?_push_of_some _ (Heap.get?_push_size _ B.free)) fun b o x => Heap.get?_push_of_some _ (Heap.get?_push_of_some _ x)⟩
end
/-- the tuple at a, each item in a new pair -/
def IteT (K : PySem.W.Frag) (a : Addr) : L2.It :=
  ⟨fun i H => ∃ (xs : List V) (x : V), SqT K H a xs ∧ xs[i]? = some x, fun i H v H' => ∃ T x, v = .ref T ∧ H T = none ∧ H' = upd H T (.tup [.int (i : Nat), x]) ∧ ∀ xs, SqT K H a xs → xs[i]? = some x, fun i H => ∃ xs : List V, SqT K H a xs ∧ xs.length ≤ i⟩
theorem turn_enT {P : Program} {w : World} {K : PySem.W.Frag} {elts : List Expr} {kk : Nat} {tpos : Pos} (a e it : Addr) :
    Turn P w K (.Tuple elts kk tpos) (IteT K a) [e, it] e (fun i h => (∃ old, IsEnum h e it ((i : Nat) : Int) old) ∧ h.IsTupleIter it a i ∧ e ≠ it ∧ a ≠ it ∧ e ≠ a) where
  mem := by simp
  obj := fun i h st b hb => by
    obtain ⟨⟨old, he⟩, ⟨o, ho, hc, hd⟩, _⟩ := st
    rcases (show b = e ∨ b = it by simpa using hb) with rfl | rfl
    · exact ⟨_, he, fun v q => nomatch q⟩
    · exact ⟨o, ho, fun v q => by rw [hd] at q; cases q⟩
  keep := fun i h h' st k => let ⟨⟨old, he⟩, hi, r⟩ := st; ⟨⟨old, k e (by simp) _ he⟩, hi.at fun o q => k it (by simp) o q, r⟩
  item := by
    intro X hP hw hK hc i pins s σ H E I hf st hg
    subst hP hw hK
    obtain ⟨⟨old, he⟩, hit, n1, n2, n3⟩ := st
    obtain ⟨xs, x, hq, hx⟩ := hg
    obtain ⟨its, rv, p, hz⟩ := I.tuple hq
    obtain ⟨u, hu, ru⟩ := rv.get hx
    have hu' : its.toArray[i]? = some u := by simpa using hu
    have hi : i < its.toArray.size := by
      obtain ⟨q, _⟩ := Array.getElem?_eq_some_iff.mp hu'
      exact q
    have e1 : e < s.heap.objs.size := Heap.lt_size he
    have e2 : it < s.heap.objs.size := by
      obtain ⟨_, q, _⟩ := hit
      exact Heap.lt_size q
    have D := Draws.tuple (prog := X.prog) (w := X.w) (A := X.A.in1) (I.ok.hd hc) it a n2 its.toArray
    refine wpAny_pyNext_enum_itemD D he ⟨hit, p⟩ hi n1 (by simp [n1, n3]) fun y h' tk hy ho hit' hT hsz hk => ?_
    rw [hu'] at hy
    cases hy
    refine ⟨_, rfl, wpAny_letOwnedTupleGo_enum (s := { s with heap := h', toks := tk + 1 }) ho fun h'' he' sb => ?_⟩
    have t2 : h''.get? s.heap.objs.size = some { cls := .type "tuple", data := .seq #[.int i tk, u] } := (sb.2 _ (Nat.ne_of_gt e1)).trans hT
    have new : ObjOk X.prog X.w (upd H s.heap.objs.size (.tup [.int (i : Nat), x])) h'' s.heap.objs.size (.tup [.int (i : Nat), x]) := ⟨show (2 : Nat) ≤ sizeLine by decide, [.int i tk, u], .cons ⟨_, rfl⟩ (.cons ru .nil), ⟨_, t2, rfl, _, rfl⟩⟩
    have J : Inv X pins σ (upd H s.heap.objs.size (.tup [.int (i : Nat), x])) { s with heap := h'', toks := tk + 1 } := I.turnedNew (ch := [e, it]) (fun b ob hb q => (sb.2 b (fun z => hb (by simp [z]))).trans (hk b ob (fun z => hb (by simp [z])) (fun z => hb (by simp [z])) q)) hf (Nat.le_refl _) new
    refine ⟨.ref s.heap.objs.size, _, J, rfl, ⟨_, x, rfl, I.hok.fresh (Nat.le_refl _), rfl, fun ys hy => by rw [I.tuple_inj hy hq]; exact hx⟩, ⟨⟨u, ?_⟩, hit'.1.at fun o q => (sb.2 it (Ne.symm n1)).trans q, n1, n2, n3⟩, fun b hb => ?_⟩
    · rw [show ((i + 1 : Nat) : Int) = (i : Int) + 1 by omega]; exact he'
    · have hb' : b < s.heap.objs.size := by
        rcases (show b = e ∨ b = it by simpa using hb) with rfl | rfl
        · exact e1
        · exact e2
      rw [upd_ne (Nat.ne_of_lt hb')]; exact (hf b hb).1
  done := by
    intro X hP hw hK hc i pins s σ H E I hf st hg
    subst hP hw hK
    obtain ⟨⟨old, he⟩, hit, n1, n2, n3⟩ := st
    obtain ⟨xs, hq, hx⟩ := hg
    obtain ⟨its, rv, p, hz⟩ := I.tuple hq
    have hl := rv.length
    obtain ⟨f0, f1, f2, f3, f4, f5⟩ := hf it (by simp)
    exact en_end (I.ok.hd hc) he hit p (by simp; omega) fun h' eb => ⟨rfl, I.turned (t' := s.toks) (fun b o hb q => eb b o hb q) f0 f1 f3 f4 f5⟩
  self := fun A i s Q E st h => wpAny_pyIter_enum st.1.choose_spec h
def iEnumA (K : PySem.W.Frag) (ta : TA) : TI := fun σ H R => ta σ H fun vs H1 => ∃ a xs, vs = [.ref a] ∧ ((SqL K H1 a xs ∧ R (Ite K a) H1) ∨ (SqT K H1 a xs ∧ R (IteT K a) H1))
theorem pi_enumA {X : Cx} {e : Expr} {ta : TA} {p pos tpos : Pos} {elts : List Expr} {kk : Nat} (hg : Gl X "enumerate") (hm : X.mg "enumerate" = none) (ha : PA X [e] ta) (hs : starEach [e] X.env = [(false, eval e X.env)]) :
    PI X (.Tuple elts kk tpos) (.Call (.Name "enumerate" p) [e] [] pos) (iEnumA X.K ta) := by
  refine ⟨fun pins s σ H R I h => Call_ (ld_blt I hg hm boot_enumerate (PyProof.Rows.callWith_type1 (thn (ha.run pos pins s σ H _ I h) fun us s1 ⟨vs, H1, I1, r1, q1⟩ => ?_) hs rfl))⟩
  obtain ⟨a, xs, rfl, hq⟩ := q1
  obtain ⟨u, rfl, rfl⟩ : ∃ u, us = [u] ∧ u = Value.ref a := by
    cases r1 with
    | cons r rr => cases rr; exact ⟨_, rfl, r⟩
  have fp : ∀ b ∈ [s1.heap.objs.size + 1, s1.heap.objs.size], s1.heap.objs.size ≤ b := fun b hb => by
    rcases (show b = s1.heap.objs.size + 1 ∨ b = s1.heap.objs.size by simpa using hb) with rfl | rfl
    · exact Nat.le_add_right _ _
    · exact Nat.le_refl _
  rcases hq with ⟨hq, q⟩ | ⟨hq, q⟩
  · obtain ⟨its, rv, p', hz⟩ := I1.list hq
    refine call_enumerate_list p'.isList fun h' he hit hsz hk => wpAny_pyIter_enum he ?_
    have J : Inv X pins σ H1 { s1 with heap := h' } := I1.kept (t' := s1.toks) hk
    exact ⟨_, [s1.heap.objs.size + 1, s1.heap.objs.size], _, _, H1, rfl, J, turn_enum a _ s1.heap.objs.size, ⟨⟨.none, he⟩, hit, Nat.succ_ne_self _⟩, fun b hb => I1.fpOk (fp b hb) (I1.hok.fresh (fp b hb)), q⟩
  · obtain ⟨its, rv, p', hz⟩ := I1.tuple hq
    have la : a < s1.heap.objs.size := by
      obtain ⟨o, q, _⟩ := p'
      exact Heap.lt_size q
    refine en_call (begins_tuple a its.toArray) p' fun h' he hi hk => wpAny_pyIter_enum he ?_
    have J : Inv X pins σ H1 { s1 with heap := h' } := I1.kept (t' := s1.toks) hk
    exact ⟨_, [s1.heap.objs.size + 1, s1.heap.objs.size], _, _, H1, rfl, J, turn_enT a _ s1.heap.objs.size, ⟨⟨.none, he⟩, ⟨_, hi, rfl, rfl⟩, Nat.succ_ne_self _, Nat.ne_of_lt la, Nat.ne_of_gt (Nat.lt_succ_of_lt la)⟩, fun b hb => I1.fpOk (fp b hb) (I1.hok.fresh (fp b hb)), q⟩
abbrev It' := L2.It
/-- what a loop is to walk -/
structure JOK (K : PySem.W.Frag) (F : Hp) (items : List D) (J : It') : Prop where
  go : ∀ i H, Same F H → i < items.length → J.go i H
  stop : ∀ i H, Same F H → items.length ≤ i → J.stop i H
  yld : ∀ i H x H', Same F H → i < items.length → J.yld i H x H' → Same H H' ∧ ∃ d, items[i]? = some d ∧
    ∀ F2, Same F F2 → Same F2 H → ∃ F3, Same F2 F3 ∧ Same F3 H' ∧ Rp K F3 x d ∧ ∀ b o, F3 b = some o → F2 b = some o ∨ H b = none
section
variable {K : PySem.W.Frag} {g : Gh} {F F' H H' : Hp} {env : Ev} {σ : St}
theorem OK.grow (k : OK K g F env σ H) (f : Same F F') (fH : Same F' H') (h : Same H H') (gr : ∀ b o, F' b = some o → F b = some o ∨ H b = none) : OK K g F' env σ H' :=
  ⟨fH, k.gH.trans h, k.f0.trans f, fun b o e => by
    rcases gr b o e with z | z
    · exact k.gro b o z
    · exact .inr ⟨k.fG z, k.fio z⟩, k.len, fun i s e => (k.slot i s e).mono f fun a vs h1 h2 _ _ _ => ⟨h _ _ h1, by
      cases q : F' a with
      | none => rfl
      | some o =>
        rcases gr a o q with z | z
        · rw [h2] at z; cases z
        · rw [h1] at z; cases z⟩, k.dist, k.ios⟩
theorem jok_list {a : Addr} {vs : List V} {ds : List D} (r : SqL K F a vs) (p : Rps K F vs ds) : JOK K F ds (Itl K a) where
  go := fun i H s hi => by
    obtain ⟨v, h1, _⟩ := dps_get p (List.getElem?_eq_getElem hi)
    exact ⟨vs, v, (Same.seqL s r), h1⟩
  stop := fun i H s hi => ⟨vs, (Same.seqL s r), by rw [dps_len p]; exact hi⟩
  yld := fun i H x H' s hi y => by
    obtain ⟨rfl, y⟩ := y
    have hx := y vs ((Same.seqL s r))
    obtain ⟨v, h1, h2⟩ := dps_get p (List.getElem?_eq_getElem hi)
    rw [hx] at h1; cases h1
    exact ⟨Same.refl _, _, List.getElem?_eq_getElem hi, fun F2 s1 s2 => ⟨F2, Same.refl _, s2, dp_mono s1 h2, fun _ _ e => .inl e⟩⟩
theorem jok_tup {a : Addr} {vs : List V} {ds : List D} (r : SqT K F a vs) (p : Rps K F vs ds) : JOK K F ds (Itt K a) where
  go := fun i H s hi => by
    obtain ⟨v, h1, _⟩ := dps_get p (List.getElem?_eq_getElem hi)
    exact ⟨vs, v, Same.seqT s r, h1⟩
  stop := fun i H s hi => ⟨vs, Same.seqT s r, by rw [dps_len p]; exact hi⟩
  yld := fun i H x H' s hi y => by
    obtain ⟨rfl, y⟩ := y
    have hx := y vs (Same.seqT s r)
    obtain ⟨v, h1, h2⟩ := dps_get p (List.getElem?_eq_getElem hi)
    rw [hx] at h1; cases h1
    exact ⟨Same.refl _, _, List.getElem?_eq_getElem hi, fun F2 s1 s2 => ⟨F2, Same.refl _, s2, dp_mono s1 h2, fun _ _ e => .inl e⟩⟩
theorem ranges_len (lo st : Int) : ∀ n, (ranges lo st n).length = n
  | 0 => rfl
  | n + 1 => congrArg Nat.succ (ranges_len (lo + st) st n)
theorem ranges_get (st : Int) : ∀ (n i : Nat) (lo : Int), i < n → (ranges lo st n)[i]? = some (.int (lo + i * st))
  | 0, i, lo, h => by omega
  | n + 1, 0, lo, h => by simp [ranges]
  | n + 1, i + 1, lo, h => by
    have := ranges_get st n i (lo + st) (by omega)
    show (ranges (lo + st) st n)[i]? = _
    rw [this, show lo + st + (i : Int) * st = lo + ((i + 1 : Nat) : Int) * st by rw [Int.natCast_add, Int.add_mul]; simp; omega]
theorem jok_rng {lo : Int} {n : Nat} : JOK K F (ranges lo 1 n) (Itr lo n) where
  go := fun i H s hi => by rw [ranges_len] at hi; exact hi
  stop := fun i H s hi => by rw [ranges_len] at hi; exact hi
  yld := fun i H x H' s hi y => by
    obtain ⟨rfl, rfl⟩ := y
    rw [ranges_len] at hi
    refine ⟨Same.refl _, _, ranges_get 1 n i lo hi, fun F2 s1 s2 => ⟨F2, Same.refl _, s2, ?_, fun _ _ e => .inl e⟩⟩
    rw [Int.mul_one]
    exact .int _
theorem jok_rngC {lo c : Int} {n : Nat} : JOK K F (ranges lo c n) (Itc lo c n) where
  go := fun i H s hi => by rw [ranges_len] at hi; exact hi
  stop := fun i H s hi => by rw [ranges_len] at hi; exact hi
  yld := fun i H x H' s hi y => by
    obtain ⟨rfl, rfl⟩ := y
    rw [ranges_len] at hi
    exact ⟨Same.refl _, _, ranges_get c n i lo hi, fun F2 s1 s2 => ⟨F2, Same.refl _, s2, .int _, fun _ _ e => .inl e⟩⟩
theorem enmL_len : ∀ (ds : List D) (k : Nat), (enmL k ds).length = ds.length
  | [], _ => rfl
  | _ :: r, k => congrArg Nat.succ (enmL_len r (k + 1))
theorem enmL_get : ∀ (ds : List D) (k i : Nat) (d : D), ds[i]? = some d → (enmL k ds)[i]? = some (.tuple [.int ((k + i : Nat) : Int), d])
  | [], _, _, _, h => by simp at h
  | x :: r, k, 0, d, h => by simp at h; subst h; rfl
  | x :: r, k, i + 1, d, h => by
    have := enmL_get r (k + 1) i d (by simpa using h)
    show (enmL (k + 1) r)[i]? = _
    rw [this, show k + 1 + i = k + (i + 1) by omega]
/-- a pair made at a turn -/
theorem pair_grow {T : Addr} {xs : List V} {ds : List D} (nT : H T = none) (F2 : Hp) (s2 : Same F2 H) (p : Rps K F2 xs ds) :
    ∃ F3, Same F2 F3 ∧ Same F3 (upd H T (.tup xs)) ∧ Rp K F3 (.ref T) (.tuple ds) ∧ ∀ b o, F3 b = some o → F2 b = some o ∨ H b = none := by
  have n2 : F2 T = none := Same.free s2 nT
  refine ⟨upd F2 T (.tup xs), same_upd n2, fun b o e => ?_, .tup (.inl (.inl upd_same)) (dps_mono (same_upd n2) p), fun b o e => ?_⟩
  · by_cases hb : b = T
    · subst hb; rw [upd_same] at e ⊢; exact e
    · rw [upd_ne hb] at e ⊢; exact s2 b o e
  · by_cases hb : b = T
    · subst hb; exact .inr nT
    · rw [upd_ne hb] at e; exact .inl e
theorem jok_enm {a : Addr} {vs : List V} {ds : List D} (r : SqL K F a vs) (p : Rps K F vs ds) : JOK K F (enmL 0 ds) (Ite K a) where
  go := fun i H s hi => by
    rw [enmL_len] at hi
    obtain ⟨v, h1, _⟩ := dps_get p (List.getElem?_eq_getElem hi)
    exact ⟨vs, v, (Same.seqL s r), h1⟩
  stop := fun i H s hi => ⟨vs, (Same.seqL s r), by rw [enmL_len] at hi; rw [dps_len p]; exact hi⟩
  yld := fun i H x H' s hi y => by
    rw [enmL_len] at hi
    obtain ⟨T, z, rfl, nT, rfl, y⟩ := y
    have hx := y vs ((Same.seqL s r))
    obtain ⟨v, h1, h2⟩ := dps_get p (List.getElem?_eq_getElem hi)
    rw [hx] at h1; cases h1
    refine ⟨same_upd nT, _, enmL_get ds 0 i _ (List.getElem?_eq_getElem hi), fun F2 s1 s2 => ?_⟩
    rw [Nat.zero_add]
    exact pair_grow nT F2 s2 (.cons (.int _) (.cons (dp_mono s1 h2) .nil))
theorem jok_enmT {a : Addr} {vs : List V} {ds : List D} (r : SqT K F a vs) (p : Rps K F vs ds) : JOK K F (enmL 0 ds) (IteT K a) where
  go := fun i H s hi => by
    rw [enmL_len] at hi
    obtain ⟨v, h1, _⟩ := dps_get p (List.getElem?_eq_getElem hi)
    exact ⟨vs, v, (Same.seqT s r), h1⟩
  stop := fun i H s hi => ⟨vs, (Same.seqT s r), by rw [enmL_len] at hi; rw [dps_len p]; exact hi⟩
  yld := fun i H x H' s hi y => by
    rw [enmL_len] at hi
    obtain ⟨T, z, rfl, nT, rfl, y⟩ := y
    have hx := y vs ((Same.seqT s r))
    obtain ⟨v, h1, h2⟩ := dps_get p (List.getElem?_eq_getElem hi)
    rw [hx] at h1; cases h1
    refine ⟨same_upd nT, _, enmL_get ds 0 i _ (List.getElem?_eq_getElem hi), fun F2 s1 s2 => ?_⟩
    rw [Nat.zero_add]
    exact pair_grow nT F2 s2 (.cons (.int _) (.cons (dp_mono s1 h2) .nil))
theorem zipL_get : ∀ (ds es : List D) (i : Nat) (d e : D), ds[i]? = some d → es[i]? = some e → (zipL ds es)[i]? = some (.tuple [d, e])
  | [], _, _, _, _, h, _ => by simp at h
  | _ :: _, [], _, _, _, _, h => by simp at h
  | x :: r, y :: s, 0, d, e, h, h' => by simp at h h'; subst h h'; rfl
  | x :: r, y :: s, i + 1, d, e, h, h' => zipL_get r s i d e (by simpa using h) (by simpa using h')
theorem zipL_len : ∀ (ds es : List D), (zipL ds es).length = min ds.length es.length
  | [], es => by simp [zipL]
  | _ :: _, [] => by simp [zipL]
  | x :: r, y :: s => by simp [zipL, zipL_len r s]
theorem jok_zipL {a b : Addr} {vs ws : List V} {ds es : List D} (r : SqL K F a vs) (r' : SqL K F b ws) (p : Rps K F vs ds) (p' : Rps K F ws es) : JOK K F (zipL ds es) (Itz K a b) where
  go := fun i H s hi => by
    rw [zipL_len] at hi
    obtain ⟨v, h1, _⟩ := dps_get p (List.getElem?_eq_getElem (Nat.lt_of_lt_of_le hi (Nat.min_le_left _ _)))
    obtain ⟨w, h2, _⟩ := dps_get p' (List.getElem?_eq_getElem (Nat.lt_of_lt_of_le hi (Nat.min_le_right _ _)))
    exact ⟨vs, ws, v, w, (Same.seqL s r), (Same.seqL s r'), h1, h2⟩
  stop := fun i H s hi => ⟨vs, ws, (Same.seqL s r), (Same.seqL s r'), by rw [zipL_len] at hi; rw [dps_len p, dps_len p']; omega⟩
  yld := fun i H x H' s hi y => by
    rw [zipL_len] at hi
    obtain ⟨T, z, z', rfl, nT, rfl, y, y'⟩ := y
    have hx := y vs ((Same.seqL s r))
    have hy := y' ws ((Same.seqL s r'))
    obtain ⟨v, h1, h2⟩ := dps_get p (List.getElem?_eq_getElem (Nat.lt_of_lt_of_le hi (Nat.min_le_left _ _)))
    obtain ⟨w, h3, h4⟩ := dps_get p' (List.getElem?_eq_getElem (Nat.lt_of_lt_of_le hi (Nat.min_le_right _ _)))
    rw [hx] at h1; cases h1
    rw [hy] at h3; cases h3
    exact ⟨same_upd nT, _, zipL_get ds es i _ _ (List.getElem?_eq_getElem (Nat.lt_of_lt_of_le hi (Nat.min_le_left _ _))) (List.getElem?_eq_getElem (Nat.lt_of_lt_of_le hi (Nat.min_le_right _ _))), fun F2 s1 s2 => pair_grow nT F2 s2 (.cons (dp_mono s1 h2) (.cons (dp_mono s1 h4) .nil))⟩
theorem jok_zipT {a b : Addr} {vs ws : List V} {ds es : List D} (r : SqT K F a vs) (r' : SqT K F b ws) (p : Rps K F vs ds) (p' : Rps K F ws es) : JOK K F (zipL ds es) (RZ.ItzT K a b) where
  go := fun i H s hi => by
    rw [zipL_len] at hi
    obtain ⟨v, h1, _⟩ := dps_get p (List.getElem?_eq_getElem (Nat.lt_of_lt_of_le hi (Nat.min_le_left _ _)))
    obtain ⟨w, h2, _⟩ := dps_get p' (List.getElem?_eq_getElem (Nat.lt_of_lt_of_le hi (Nat.min_le_right _ _)))
    exact ⟨vs, ws, v, w, Same.seqT s r, Same.seqT s r', h1, h2⟩
  stop := fun i H s hi => ⟨vs, ws, Same.seqT s r, Same.seqT s r', by rw [zipL_len] at hi; rw [dps_len p, dps_len p']; omega⟩
  yld := fun i H x H' s hi y => by
    rw [zipL_len] at hi
    obtain ⟨T, z, z', rfl, nT, rfl, y, y'⟩ := y
    have hx := y vs (Same.seqT s r)
    have hy := y' ws (Same.seqT s r')
    obtain ⟨v, h1, h2⟩ := dps_get p (List.getElem?_eq_getElem (Nat.lt_of_lt_of_le hi (Nat.min_le_left _ _)))
    obtain ⟨w, h3, h4⟩ := dps_get p' (List.getElem?_eq_getElem (Nat.lt_of_lt_of_le hi (Nat.min_le_right _ _)))
    rw [hx] at h1; cases h1
    rw [hy] at h3; cases h3
    exact ⟨same_upd nT, _, zipL_get ds es i _ _ (List.getElem?_eq_getElem (Nat.lt_of_lt_of_le hi (Nat.min_le_left _ _))) (List.getElem?_eq_getElem (Nat.lt_of_lt_of_le hi (Nat.min_le_right _ _))), fun F2 s1 s2 => pair_grow nT F2 s2 (.cons (dp_mono s1 h2) (.cons (dp_mono s1 h4) .nil))⟩
end
def tIt (K : PySem.W.Frag) (c : Ev → Option (List D × Ev)) : TI := fun σ H R => ∃ g F env items env', OK K g F env σ H ∧ c env = some (items, env') ∧ ∀ J F' H', OK K g F' env' σ H' → Same F F' → JOK K F' items J → R J H'
section
variable {X : Cx} {e a b c tg : Expr} {pos p : Pos} {rest es : List Expr}
theorem pi_w {t t' : TI} (h : PI X tg e t) (w : ∀ σ H Q, t' σ H Q → t σ H Q) : PI X tg e t' := ⟨fun pins s σ H Q I hw => h.run pins s σ H Q I (w σ H Q hw)⟩
theorem n_iseq {fa : Ev → Option (Rs × Ev)} (h : PE X a (tE X.K fa)) : PI X tg a (tIt X.K (fun env => (fa env).bind fun p => (seqOf p.1.d).map fun xs => (xs, p.2))) := by
  refine ⟨fun pins s σ H R I ⟨g, F, env, items, env', k, ec, f⟩ => ?_⟩
  simp only [Option.bind_eq_some_iff, Option.map_eq_some_iff] at ec
  obtain ⟨⟨r, e1⟩, h1, xs, h2, h3⟩ := ec
  cases h3
  refine thn (h.run pins s σ H (fun v H1 => ∃ F1, OK X.K g F1 e1 σ H1 ∧ Same F F1 ∧ Rp X.K F1 v r.d) I ⟨g, F, env, r, _, k, h1, fun v F1 H1 k1 s1 hv => ?_⟩) fun v s1 ⟨x, H1, I1, r1, F1, k1, w1, d1⟩ => ?_
  · obtain ⟨F2, k2, s2, d2⟩ := hv.frz k1
    exact ⟨F2, k2, s1.trans s2, d2⟩
  · cases hd : r.d <;> rw [hd] at h2 d1 <;> simp only [seqOf] at h2 <;> try (cases h2; done)
    · cases h2
      cases d1 with
      | lst rd ps =>
        cases r1
        obtain ⟨its, rv, pl, hz⟩ := I1.list (Same.seqL k1.fH rd)
        exact wpAny_pyIter_list pl.isList (pi_one (tk := s1.toks) I1 _ (turn_list _ _) ⟨_, Heap.get?_push_size _ rfl, rfl, rfl⟩ (f _ F1 H1 k1 w1 (jok_list rd ps)))
    · cases h2
      cases d1 with
      | tup rd ps =>
        cases r1
        obtain ⟨its, rv, pl, hz⟩ := I1.tuple (Same.seqT k1.fH rd)
        exact wpAny_pyIter_tuple (show s1.heap.IsTuple _ its.toArray from pl) (pi_one (tk := s1.toks) I1 _ (turn_tuple _ _) ⟨_, Heap.get?_push_size _ rfl, rfl, rfl⟩ (f _ F1 H1 k1 w1 (jok_tup rd ps)))
theorem rngOk_of {i : Int} (h : rngOk i = true) : -(2 ^ 62) ≤ i ∧ i < 2 ^ 62 := of_decide_eq_true h
theorem n_ir1 {iv : Option Nat} {fa : Ev → Option (Rs × Ev)} (ha : PE X a (tH X.K (opd iv fa))) (hg : Gl X "range") (hm : X.mg "range" = none) (hs : starEach [a] X.env = [(false, eval a X.env)]) :
    PI X tg (.Call (.Name "range" p) [a] [] pos) (tIt X.K (fun env => op1 iv fa (fun x e => (D.int? x).bind fun i => (rng2 0 i).map fun xs => (xs, e)) env)) :=
  pi_w (pi_range1 hg hm (pa_one ha hs) hs) fun σ H R ⟨g, F, env, items, env', k, ec, f⟩ => by
    obtain ⟨ha, e1, x, h1, h3, h5⟩ := op1_some ec
    cases x <;> simp only [D.int?, Option.bind_none, Option.bind_some] at h5 <;> try (cases h5; done)
    rename_i n
    simp only [rng2, Option.map_eq_some_iff] at h5
    obtain ⟨xs, h5, h6⟩ := h5
    cases h6
    split at h5
    · rename_i hr
      cases h5
      simp only [Bool.and_eq_true] at hr
      have := rngOk_of hr.2
      refine ⟨g, F, env, ha, _, k, h1, fun v F' H' k' s hv => ⟨n, by rw [(k'.brep hv h3).int], this.1, this.2, ?_⟩⟩
      have q := f (Itr 0 n.toNat) F' H' k' s (by rw [Int.sub_zero]; exact jok_rng)
      exact q
    · cases h5
theorem n_ir2 {iv jv : Option Nat} {fa fb : Ev → Option (Rs × Ev)} (ha : PE X a (tH X.K (opd iv fa))) (hb : PE X b (tH X.K (opd jv fb))) (hg : Gl X "range") (hm : X.mg "range" = none) (hs : starEach [a, b] X.env = [(false, eval a X.env), (false, eval b X.env)]) (hs2 : starEach [b] X.env = [(false, eval b X.env)]) :
    PI X tg (.Call (.Name "range" p) [a, b] [] pos) (tIt X.K (fun env => op2 iv fa jv fb (fun x y e => (D.int? x).bind fun i => (D.int? y).bind fun j => (rng2 i j).map fun xs => (xs, e)) env)) :=
  pi_w (pi_range2 hg hm (pa_cons ha (pa_cons hb pa_nil hs2) (by rw [hs, hs2])) hs hs2) fun σ H R ⟨g, F, env, items, env', k, ec, f⟩ => by
    obtain ⟨ha, e1, hb, e2, x, y, h1, h2, h3, h4, h5⟩ := op2_some ec
    cases x <;> simp only [D.int?, Option.bind_none, Option.bind_some] at h5 <;> try (cases h5; done)
    cases y <;> simp only [D.int?, Option.bind_none, Option.bind_some] at h5 <;> try (cases h5; done)
    rename_i i j
    simp only [rng2, Option.map_eq_some_iff] at h5
    obtain ⟨xs, h5, h6⟩ := h5
    cases h6
    split at h5
    · rename_i hr
      cases h5
      simp only [Bool.and_eq_true] at hr
      have z1 := rngOk_of hr.1
      have z2 := rngOk_of hr.2
      refine ⟨g, F, env, ha, e1, k, h1, fun v F1 H1 k1 s1 hv => ⟨g, F1, e1, hb, _, k1, h2, fun u F2 H2 k2 s2 hu => ⟨i, j, ?_, ⟨z1.1, z1.2, z2.1, z2.2⟩, f _ F2 H2 k2 (s1.trans s2) jok_rng⟩⟩⟩
      rw [(k2.brep (hv.mono s2) h3).int, (k2.brep hu h4).int]
    · cases h5
theorem n_ir3 {c : Expr} {iv jv kv : Option Nat} {fa fb fc : Ev → Option (Rs × Ev)} (ha : PE X a (tH X.K (opd iv fa))) (hb : PE X b (tH X.K (opd jv fb))) (hc : PE X c (tH X.K (opd kv fc))) (hg : Gl X "range") (hm : X.mg "range" = none)
    (hs : starEach [a, b, c] X.env = (false, eval a X.env) :: starEach [b, c] X.env) (hs2 : starEach [b, c] X.env = (false, eval b X.env) :: starEach [c] X.env) (hs3 : starEach [c] X.env = [(false, eval c X.env)]) :
    PI X tg (.Call (.Name "range" p) [a, b, c] [] pos) (tIt X.K (fun env => (opd iv fa env).bind fun p => op2 jv fb kv fc (fun y z e =>
      (p.1.get e).bind fun x => (D.int? x).bind fun i => (D.int? y).bind fun j => (D.int? z).bind fun k => (rng3 i j k).map fun xs => (xs, e)) p.2)) :=
  pi_w (pi_range3 hg hm (pa_cons ha (pa_cons hb (pa_cons hc pa_nil hs3) hs2) hs) hs (by rw [hs2, hs3]; rfl)) fun σ H R ⟨g, F, env, items, env', k, ec, f⟩ => by
    simp only [Option.bind_eq_some_iff] at ec
    obtain ⟨⟨ha, e1⟩, h1, ec⟩ := ec
    obtain ⟨hb, e2, hc, e3, y, z, h2, h3, h4, h5, ec⟩ := op2_some ec
    simp only [Option.bind_eq_some_iff] at ec
    obtain ⟨x, h6, ec⟩ := ec
    cases x <;> simp only [D.int?, Option.bind_none, Option.bind_some] at ec <;> try (obtain ⟨_, ec, _⟩ := ec; cases ec; done)
    cases y <;> simp only [D.int?, Option.bind_none, Option.bind_some] at ec <;> try (obtain ⟨_, _, _, ec, _⟩ := ec; cases ec; done)
    cases z <;> simp only [D.int?, Option.bind_none, Option.bind_some] at ec <;> try (obtain ⟨_, _, _, _, _, ec, _⟩ := ec; cases ec; done)
    rename_i i j c
    simp only [Option.some.injEq, exists_eq_left', rng3, Option.map_eq_some_iff] at ec
    obtain ⟨xs, h7, h8⟩ := ec
    cases h8
    split at h7
    · rename_i hr
      cases h7
      simp only [Bool.and_eq_true, decide_eq_true_eq] at hr
      obtain ⟨⟨r1, r2⟩, rfl⟩ := hr
      have z1 := rngOk_of r1
      have z2 := rngOk_of r2
      refine ⟨g, F, env, ha, e1, k, h1, fun v F1 H1 k1 s1 hv => ⟨g, F1, e1, hb, _, k1, h2, fun u F2 H2 k2 s2 hu => ⟨g, F2, e2, hc, _, k2, h3, fun w F3 H3 k3 s3 hw => ⟨i, j, -1, _, ?_, .neg z1.1 z1.2 z2.1 z2.2, f _ F3 H3 k3 (s1.trans (s2.trans s3)) jok_rngC⟩⟩⟩⟩
      rw [(k3.brep (hv.mono (s2.trans s3)) h6).int, (k3.brep (hu.mono s3) h4).int, (k3.brep hw h5).int]
    · cases h7
theorem n_ienm {fa : Ev → Option (Rs × Ev)} {elts : List Expr} {kk : Nat} {tpos : Pos} (ha : PE X a (tE X.K fa)) (hg : Gl X "enumerate") (hm : X.mg "enumerate" = none) (hs : starEach [a] X.env = [(false, eval a X.env)]) :
    PI X (.Tuple elts kk tpos) (.Call (.Name "enumerate" p) [a] [] pos) (tIt X.K (fun env => (fa env).bind fun p => match p.1.d with | .list xs => some (enmL 0 xs, p.2) | .tuple xs => some (enmL 0 xs, p.2) | _ => none)) :=
  pi_w (pi_enumA hg hm (pa_one ha hs) hs) fun σ H R ⟨g, F, env, items, env', k, ec, f⟩ => by
    simp only [Option.bind_eq_some_iff] at ec
    obtain ⟨⟨r, e1⟩, h1, h2⟩ := ec
    dsimp only at h2
    split at h2
    · rename_i xs hd
      cases h2
      refine ⟨g, F, env, r, _, k, h1, fun v F1 H1 k1 s1 hv => ?_⟩
      obtain ⟨F2, k2, s2, d2⟩ := hv.frz k1
      rw [hd] at d2
      cases d2 with
      | lst rd ps => exact ⟨_, _, rfl, .inl ⟨Same.seqL k2.fH rd, f _ F2 H1 k2 (s1.trans s2) (jok_enm rd ps)⟩⟩
    · rename_i xs hd
      cases h2
      refine ⟨g, F, env, r, _, k, h1, fun v F1 H1 k1 s1 hv => ?_⟩
      obtain ⟨F2, k2, s2, d2⟩ := hv.frz k1
      rw [hd] at d2
      cases d2 with
      | tup rd ps => exact ⟨_, _, rfl, .inr ⟨Same.seqT k2.fH rd, f _ F2 H1 k2 (s1.trans s2) (jok_enmT rd ps)⟩⟩
    · cases h2
theorem n_izip {fa fb : Ev → Option (Rs × Ev)} {elts : List Expr} {kk : Nat} {tpos : Pos} (ha : PE X a (tE X.K fa)) (hb : PE X b (tE X.K fb)) (hg : Gl X "zip") (hm : X.mg "zip" = none) (hs : starEach [a, b] X.env = (false, eval a X.env) :: starEach [b] X.env) (hs2 : starEach [b] X.env = [(false, eval b X.env)]) :
    PI X (.Tuple elts kk tpos) (.Call (.Name "zip" p) [a, b] [] pos) (tIt X.K (fun env => (fa env).bind fun p => (fb p.2).bind fun q => match p.1.d, q.1.d with | .list xs, .list ys => some (zipL xs ys, q.2) | .tuple xs, .tuple ys => some (zipL xs ys, q.2) | _, _ => none)) :=
  pi_w (RZ.pi_zipA hg hm (pa_cons ha (pa_cons hb pa_nil hs2) hs) hs (by rw [hs2]; rfl)) fun σ H R ⟨g, F, env, items, env', k, ec, f⟩ => by
    simp only [Option.bind_eq_some_iff] at ec
    obtain ⟨⟨r, e1⟩, h1, ⟨r', e2⟩, h2, h3⟩ := ec
    dsimp only at h3
    refine ⟨g, F, env, r, e1, k, h1, fun v F1 H1 k1 s1 hv => ?_⟩
    obtain ⟨F2, k2, s2, d2⟩ := hv.frz k1
    refine ⟨g, F2, e1, r', e2, k2, h2, fun u F3 H3 k3 s3 hu => ?_⟩
    obtain ⟨F4, k4, s4, d4⟩ := hu.frz k3
    have d2 := dp_mono (s3.trans s4) d2
    split at h3
    · rename_i xs ys q1 q2
      cases h3
      rw [q1] at d2; rw [q2] at d4
      cases d2 with
      | lst rd ps =>
        cases d4 with
        | lst rd' ps' => exact ⟨_, _, _, _, rfl, .inl ⟨Same.seqL k4.fH rd, Same.seqL k4.fH rd', f _ F4 H3 k4 (s1.trans (s2.trans (s3.trans s4))) (jok_zipL rd rd' ps ps')⟩⟩
    · rename_i xs ys q1 q2
      cases h3
      rw [q1] at d2; rw [q2] at d4
      cases d2 with
      | tup rd ps =>
        cases d4 with
        | tup rd' ps' => exact ⟨_, _, _, _, rfl, .inr ⟨Same.seqT k4.fH rd, Same.seqT k4.fH rd', f _ F4 H3 k4 (s1.trans (s2.trans (s3.trans s4))) (jok_zipT rd rd' ps ps')⟩⟩
    · cases h3
theorem rgV_rps {K : PySem.W.Frag} {F : Hp} (a b : Int) : Rps K F (rgV a b) (ranges a 1 (b - a).toNat) := by
  unfold rgV
  generalize (b - a).toNat = n
  induction n generalizing a with
  | zero => exact .nil
  | succ n ih =>
    rw [List.range_succ_eq_map, List.map_cons, List.map_map]
    refine .cons (by simpa using Rp.int a) ?_
    have := ih (a + 1)
    have e : (List.range n).map ((fun i : Nat => V.int (a + (i : Int))) ∘ Nat.succ) = (List.range n).map (fun i : Nat => V.int (a + 1 + (i : Int))) := by
      refine List.map_congr_left fun i _ => ?_
      simp only [Function.comp]
      congr 1
      rw [show ((Nat.succ i : Nat) : Int) = (i : Int) + 1 from by simp]
      omega
    rw [e]
    exact this
theorem rng2_some {i j : Int} {xs : List D} (h : rng2 i j = some xs) : (-(2 ^ 62) ≤ i ∧ i < 2 ^ 62) ∧ (-(2 ^ 62) ≤ j ∧ j < 2 ^ 62) ∧ xs = ranges i 1 (j - i).toNat := by
  unfold rng2 at h
  split at h
  · rename_i hr
    simp only [Bool.and_eq_true] at hr
    cases h
    exact ⟨rngOk_of hr.1, rngOk_of hr.2, rfl⟩
  · cases h
theorem n_lrng1 {iv : Option Nat} {fa : Ev → Option (Rs × Ev)} {p2 pos2 : Pos} (hc : X.calm = true) (tup : Bool) (ha : PE X a (tH X.K (opd iv fa))) (hg : Gl X "range") (hm : X.mg "range" = none) (hg' : Gl X (if tup then "tuple" else "list")) (hm' : X.mg (if tup then "tuple" else "list") = none) (hs : starEach [a] X.env = [(false, eval a X.env)]) :
    PE X (.Call (.Name (if tup then "tuple" else "list") p2) [.Call (.Name "range" p) [a] [] pos] [] pos2) (tE X.K (fun env => sizeE (fun xs => if tup then .v (.tuple xs) else .o xs) (op1 iv fa (fun x e => (D.int? x).bind fun i => (rng2 0 i).map fun xs => (xs, e)) env))) := by
  have key : ∀ (σ : St) (H : Hp) (Q : VK), tE X.K (fun env => sizeE (fun xs => if tup then .v (.tuple xs) else .o xs) (op1 iv fa (fun x e => (D.int? x).bind fun i => (rng2 0 i).map fun xs => (xs, e)) env)) σ H Q →
      tRg1 (tH X.K (opd iv fa)) σ H (fun i j H1 => RgOk i j ∧ ∀ q, H1 q = none → Q (.ref q) (upd H1 q (if tup then .tup (rgV i j) else .lst (rgV i j)))) := fun σ H Q ⟨g, F, env, r, env', k, ec, f⟩ => by
    obtain ⟨ds, h0, hz, rfl⟩ := sizeE_some ec
    obtain ⟨ha, e1, x, h1, h3, h5⟩ := op1_some h0
    cases x <;> simp only [D.int?, Option.bind_none, Option.bind_some] at h5 <;> try (cases h5; done)
    rename_i n
    simp only [Option.map_eq_some_iff] at h5
    obtain ⟨xs, h5, h6⟩ := h5
    cases h6
    obtain ⟨z1, z2, rfl⟩ := rng2_some h5
    refine ⟨g, F, env, ha, _, k, h1, fun v F' H' k' s hv => ⟨n, (k'.brep hv h3).int, ⟨z1.1, z1.2, z2.1, z2.2, ?_⟩, fun q hq => ?_⟩⟩
    · rw [ranges_len] at hz
      exact hz
    · cases tup with
      | true => exact (f.mono s).newT k' (rgV_rps 0 n) hq
      | false => exact (f.mono s).newL k' (rgV_rps 0 n) hq
  cases tup with
  | true => exact pe_w (pe_tupRg hc hg' hm' (prg_1 hg hm ha hs) rfl) key
  | false => exact pe_w (pe_listRg hc hg' hm' (prg_1 hg hm ha hs) rfl) key
theorem n_lrng2 {iv jv : Option Nat} {fa fb : Ev → Option (Rs × Ev)} {p2 pos2 : Pos} (hc : X.calm = true) (tup : Bool) (ha : PE X a (tH X.K (opd iv fa))) (hb : PE X b (tH X.K (opd jv fb))) (hg : Gl X "range") (hm : X.mg "range" = none) (hg' : Gl X (if tup then "tuple" else "list")) (hm' : X.mg (if tup then "tuple" else "list") = none)
    (hs : starEach [a, b] X.env = (false, eval a X.env) :: starEach [b] X.env) (hs2 : starEach [b] X.env = [(false, eval b X.env)]) :
    PE X (.Call (.Name (if tup then "tuple" else "list") p2) [.Call (.Name "range" p) [a, b] [] pos] [] pos2) (tE X.K (fun env => sizeE (fun xs => if tup then .v (.tuple xs) else .o xs) (op2 iv fa jv fb (fun x y e => (D.int? x).bind fun i => (D.int? y).bind fun j => (rng2 i j).map fun xs => (xs, e)) env))) := by
  have key : ∀ (σ : St) (H : Hp) (Q : VK), tE X.K (fun env => sizeE (fun xs => if tup then .v (.tuple xs) else .o xs) (op2 iv fa jv fb (fun x y e => (D.int? x).bind fun i => (D.int? y).bind fun j => (rng2 i j).map fun xs => (xs, e)) env)) σ H Q →
      tRg2 (tH X.K (opd iv fa)) (tH X.K (opd jv fb)) σ H (fun i j H1 => RgOk i j ∧ ∀ q, H1 q = none → Q (.ref q) (upd H1 q (if tup then .tup (rgV i j) else .lst (rgV i j)))) := fun σ H Q ⟨g, F, env, r, env', k, ec, f⟩ => by
    obtain ⟨ds, h0, hz, rfl⟩ := sizeE_some ec
    obtain ⟨ha, e1, hb, e2, x, y, h1, h2, h3, h4, h5⟩ := op2_some h0
    cases x <;> simp only [D.int?, Option.bind_none, Option.bind_some] at h5 <;> try (cases h5; done)
    cases y <;> simp only [D.int?, Option.bind_none, Option.bind_some] at h5 <;> try (cases h5; done)
    rename_i i j
    simp only [Option.map_eq_some_iff] at h5
    obtain ⟨xs, h5, h6⟩ := h5
    cases h6
    obtain ⟨z1, z2, rfl⟩ := rng2_some h5
    refine ⟨g, F, env, ha, e1, k, h1, fun v F1 H1 k1 s1 hv => ⟨g, F1, e1, hb, _, k1, h2, fun u F2 H2 k2 s2 hu => ⟨i, j, (k2.brep (hv.mono s2) h3).int, (k2.brep hu h4).int, ⟨z1.1, z1.2, z2.1, z2.2, ?_⟩, fun q hq => ?_⟩⟩⟩
    · rw [ranges_len] at hz
      exact hz
    · cases tup with
      | true => exact (f.mono (s1.trans s2)).newT k2 (rgV_rps i j) hq
      | false => exact (f.mono (s1.trans s2)).newL k2 (rgV_rps i j) hq
  cases tup with
  | true => exact pe_w (pe_tupRg hc hg' hm' (prg_2 hg hm ha hb hs hs2 (by rw [hs2]; rfl)) rfl) key
  | false => exact pe_w (pe_listRg hc hg' hm' (prg_2 hg hm ha hb hs hs2 (by rw [hs2]; rfl)) rfl) key
end
end KX

set_option Elab.async false
set_option linter.all false
set_option maxHeartbeats 1000000
/-! KB8: targets; comprehensions. -/
namespace KX
open PySem PySem.Spec PyProof.Rows L2
/-- a target: σ' is σ but at the target's slots -/
def tTg (K : PySem.W.Frag) (c : D → Ev → Option Ev) (sl : List Nat) : TG := fun v σ H Q => ∃ g F env d env', OK K g F env σ H ∧ Rp K F v d ∧ c d env = some env' ∧ ∀ σ', OK K g F env' σ' H → (∀ vs, (∀ i ∈ sl, i ∈ vs) → wipe σ' vs = wipe σ vs) → Q σ' H
def tTgs (K : PySem.W.Frag) (c : List D → Ev → Option Ev) (sl : List Nat) : TGs := fun v σ H Q => ∃ g F env d env', OK K g F env σ H ∧ Rps K F v d ∧ c d env = some env' ∧ ∀ σ', OK K g F env' σ' H → (∀ vs, (∀ i ∈ sl, i ∈ vs) → wipe σ' vs = wipe σ vs) → Q σ' H
theorem wipe_at {σ : St} {i : Nat} : ∀ {vs : List Nat}, (wipe σ vs)[i]? = if i ∈ vs ∧ i < σ.length then some none else σ[i]?
  | [] => by simp [wipe]
  | v :: vs => by
    show ((wipe σ vs).set v none)[i]? = _
    by_cases e : v = i
    · subst e
      by_cases h : v < σ.length
      · rw [List.getElem?_set_self (by rw [wipe_length]; exact h), if_pos ⟨List.mem_cons_self, h⟩]
      · rw [if_neg (fun z => h z.2)]
        rw [List.getElem?_eq_none (by rw [List.length_set, wipe_length]; omega), List.getElem?_eq_none (by omega)]
    · rw [List.getElem?_set_ne e, wipe_at (vs := vs)]
      simp only [List.mem_cons, Ne.symm e, false_or]
theorem wipe_eq {σ σ' : St} {vs : List Nat} (hl : σ'.length = σ.length) (h : ∀ i, i ∉ vs → σ'[i]? = σ[i]?) : wipe σ' vs = wipe σ vs := by
  apply List.ext_getElem?
  intro i
  rw [wipe_at, wipe_at, hl]
  by_cases m : i ∈ vs
  · by_cases l : i < σ.length
    · rw [if_pos ⟨m, l⟩, if_pos ⟨m, l⟩]
    · rw [if_neg (fun z => l z.2), if_neg (fun z => l z.2), List.getElem?_eq_none (by omega), List.getElem?_eq_none (by omega)]
  · rw [if_neg (fun z => m z.1), if_neg (fun z => m z.1)]
    exact h i m
theorem wipe_wipe {σ : St} {own : List Nat} : wipe (wipe σ own) own = wipe σ own := wipe_eq (wipe_length _ _) fun j hj => by rw [wipe_at, if_neg fun z => hj z.1]
section
variable {X : Cx} {e a b c tg : Expr} {pos p : Pos} {rest es : List Expr}
theorem pg_w {t t' : TG} (h : PG X e t) (w : ∀ v σ H Q, t' v σ H Q → t v σ H Q) : PG X e t' := ⟨fun pins s σ H v u Q I r hw => h.run pins s σ H v u Q I r (w v σ H Q hw)⟩
theorem pgs_w {t t' : TGs} (h : PGs X es t) (w : ∀ v σ H Q, t' v σ H Q → t v σ H Q) : PGs X es t' := ⟨fun pins s σ H v u Q I r hw => h.run pins s σ H v u Q I r (w v σ H Q hw)⟩
theorem n_gnm {i : Nat} (h : PG X e (gName i)) : PG X e (tTg X.K (fun d env => asgS i (.v d) env) [i]) := pg_w h fun v σ H Q ⟨g, F, env, d, env', k, hd, ec, f⟩ => by
  refine f _ (k.put (r := .v d) hd ec) fun vs hv => wipe_eq (by simp) fun j hj => ?_
  rw [List.getElem?_set_ne]
  rintro rfl
  exact hj (hv i (by simp))
theorem pg_either {t1 t2 : TG} (h1 : PG X e t1) (h2 : PG X e t2) : PG X e (fun v σ H Q => t1 v σ H Q ∨ t2 v σ H Q) := ⟨fun pins s σ H v u Q I r hw => hw.elim (h1.run pins s σ H v u Q I r) (h2.run pins s σ H v u Q I r)⟩
theorem n_gtup {c : List D → Ev → Option Ev} {sl : List Nat} {kk n : Nat} (h : PG X (.Tuple es kk pos) (gTup X.K n (tTgs X.K c sl))) (h' : PG X (.Tuple es kk pos) (gUnl X.K n (tTgs X.K c sl))) (hn : ∀ ds env env', c ds env = some env' → ds.length = n) :
    PG X (.Tuple es kk pos) (tTg X.K (fun d env => match d with | .tuple xs => c xs env | .list xs => c xs env | _ => none) sl) := pg_w (pg_either h h') fun v σ H Q ⟨g, F, env, d, env', k, hd, ec, f⟩ => by
  dsimp only at ec
  split at ec
  · rename_i xs
    cases hd with
    | tup s ps => exact .inl ⟨_, _, rfl, Same.seqT k.fH s, by rw [dps_len ps]; exact hn _ _ _ ec, g, F, env, xs, env', k, ps, ec, f⟩
  · rename_i xs
    cases hd with
    | lst s ps => exact .inr ⟨_, _, rfl, Same.seqL k.fH s, by rw [dps_len ps]; exact hn _ _ _ ec, g, F, env, xs, env', k, ps, ec, f⟩
  · cases ec
theorem n_gnil : PGs X [] (tTgs X.K (fun ds env => match ds with | [] => some env | _ => none) []) := pgs_w pgs_nil fun v σ H Q ⟨g, F, env, d, env', k, hd, ec, f⟩ => by
  cases d with
  | nil => cases hd; cases ec; exact ⟨rfl, f σ k fun _ _ => rfl⟩
  | cons x xs => cases ec
theorem n_gcons {c1 : D → Ev → Option Ev} {c2 : List D → Ev → Option Ev} {s1 s2 : List Nat} (h1 : PG X e (tTg X.K c1 s1)) (h2 : PGs X es (tTgs X.K c2 s2)) (hs : (assignEach (e :: es) X.env).map (·.2) = assign e X.env :: (assignEach es X.env).map (·.2)) :
    PGs X (e :: es) (tTgs X.K (fun ds env => match ds with | [] => none | x :: xs => (c1 x env).bind (c2 xs)) (s1 ++ s2)) := pgs_w (pgs_cons h1 h2 hs) fun v σ H Q ⟨g, F, env, d, env', k, hd, ec, f⟩ => by
  cases d with
  | nil => cases ec
  | cons x xs =>
    simp only [Option.bind_eq_some_iff] at ec
    obtain ⟨e1, q1, q2⟩ := ec
    cases hd with
    | cons p ps =>
      refine ⟨_, _, rfl, g, F, env, x, e1, k, p, q1, fun σ' k' w' => ⟨g, F, e1, xs, env', k', ps, q2, fun σ2 k2 w2 => f σ2 k2 fun vs hv => ?_⟩⟩
      exact (w2 vs fun i hi => hv i (List.mem_append_right _ hi)).trans (w' vs fun i hi => hv i (List.mem_append_left _ hi))
end
/-! ### comprehensions -/
def addG (g : Gh) (a : Addr) (o : HO) : Gh := { g with G := upd g.G a o }
section
variable {K : PySem.W.Frag} {g : Gh} {F F' H H' : Hp} {env e0 env' : Ev} {σ : St} {own : List Nat} {a : Addr}
theorem wipeE_at : ∀ {own : List Nat} {env e0 : Ev}, wipeE env own = some e0 → e0.length = env.length ∧ (∀ i, i ∉ own → e0[i]? = env[i]?) ∧ ∀ i, i ∈ own → e0[i]? = some .un ∧ (env[i]? = some .un ∨ ∃ d, env[i]? = some (.v d))
  | [], env, e0, h => by cases h; exact ⟨rfl, fun _ _ => rfl, fun _ h => nomatch h⟩
  | j :: r, env, e0, h => by
    simp only [wipeE, Option.bind_eq_some_iff] at h
    obtain ⟨e, h1, h2⟩ := h
    obtain ⟨q1, q2, q3⟩ := wipeE_at h1
    have key : e0.length = e.length ∧ (∀ i, i ≠ j → e0[i]? = e[i]?) ∧ e0[j]? = some .un ∧ (e[j]? = some .un ∨ ∃ d, e[j]? = some (.v d)) := by
      split at h2
      · rename_i hj; cases h2; exact ⟨rfl, fun _ _ => rfl, hj, .inl hj⟩
      · rename_i d hj
        cases h2
        exact ⟨by simp, fun i hi => List.getElem?_set_ne (Ne.symm hi), List.getElem?_set_self (List.getElem?_eq_some_iff.mp hj).1, .inr ⟨d, hj⟩⟩
      · cases h2
    obtain ⟨k1, k2, k3, k4⟩ := key
    refine ⟨by rw [k1, q1], fun i hi => ?_, fun i hi => ?_⟩
    · simp only [List.mem_cons, not_or] at hi
      rw [k2 i hi.1, q2 i hi.2]
    · by_cases hj : i = j
      · subst hj
        refine ⟨k3, ?_⟩
        by_cases m : i ∈ r
        · exact (q3 i m).2
        · rw [q2 i m] at k4; exact k4
      · have m : i ∈ r := (List.mem_cons.mp hi).resolve_left hj
        rw [k2 i hj]
        exact q3 i m
theorem OK.wipe (k : OK K g F env σ H) (h : wipeE env own = some e0) : OK K g F e0 (L2.wipe σ own) H := by
  obtain ⟨q1, q2, q3⟩ := wipeE_at h
  have out : ∀ i, i ∉ own → (L2.wipe σ own)[i]? = σ[i]? := fun i m => by rw [wipe_at, if_neg fun z => m z.1]
  have ow : ∀ i, Own e0 i → i ∉ own ∧ Own env i := fun i hi => by
    by_cases m : i ∈ own
    · rcases hi with ⟨xs, z⟩ | ⟨xs, z⟩ <;> (rw [(q3 i m).1] at z; cases z)
    · refine ⟨m, ?_⟩
      unfold Own at hi ⊢
      rw [q2 i m] at hi; exact hi
  refine ⟨k.fH, k.gH, k.f0, k.gro, by rw [q1, wipe_length]; exact k.len, fun i s e => ?_, fun i j b o1 o2 e1 e2 => ?_, fun i b e => ?_⟩
  · by_cases m : i ∈ own
    · rw [(q3 i m).1] at e; cases e; trivial
    · rw [q2 i m] at e
      have := k.slot i s e
      unfold SlOk at this ⊢
      rw [out i m]
      exact this
  · rw [out i (ow i o1).1] at e1
    rw [out j (ow j o2).1] at e2
    exact k.dist i j b (ow i o1).2 (ow j o2).2 e1 e2
  · obtain ⟨xs, z⟩ := k.ios i b e
    by_cases m : i ∈ own
    · rcases (q3 i m).2 with w | ⟨d, w⟩ <;> (rw [w] at z; cases z)
    · exact ⟨xs, by rw [q2 i m]; exact z⟩
theorem backE_at (old : Ev) : ∀ {own : List Nat} {env : Ev}, (backE old env own).length = env.length ∧ (∀ i, i ∉ own → (backE old env own)[i]? = env[i]?) ∧ ∀ i, i ∈ own → i < env.length → (backE old env own)[i]? = some (old[i]?.getD .un)
  | [], env => ⟨rfl, fun _ _ => rfl, fun _ h => nomatch h⟩
  | j :: r, env => by
    obtain ⟨q1, q2, q3⟩ := backE_at old (own := r) (env := env)
    refine ⟨by unfold backE; rw [List.length_set, q1], fun i hi => ?_, fun i hi hl => ?_⟩
    · simp only [List.mem_cons, not_or] at hi
      unfold backE
      rw [List.getElem?_set_ne (Ne.symm hi.1), q2 i hi.2]
    · unfold backE
      by_cases hj : j = i
      · subst hj
        rw [List.getElem?_set_self (by rw [q1]; exact hl)]
      · rw [List.getElem?_set_ne hj]
        exact q3 i ((List.mem_cons.mp hi).resolve_left (Ne.symm hj)) hl
/-- the list that is being made stands apart -/
theorem OK.guard (k : OK K g F env σ H) {o : HO} (h : H a = none) : OK K (addG g a o) F env σ (upd H a o) := by
  have k1 := k.alloc (o := o) h
  refine ⟨k1.fH, fun b u e => ?_, k1.f0, fun b u e => ?_, k1.len, fun i s e => ?_, k1.dist, k1.ios⟩
  · have e : (upd g.G a o) b = some u := e
    by_cases hb : b = a
    · subst hb; rw [upd_same] at e ⊢; exact e
    · rw [upd_ne hb] at e; exact k1.gH b u e
  · rcases k1.gro b u e with z | z
    · exact .inl z
    · refine .inr ⟨?_, z.2⟩
      show (upd g.G a o) b = none
      rw [upd_ne]
      · exact z.1
      · rintro rfl; rw [k.fF h] at e; cases e
  · have ne : ∀ b vs, H b = some (.lst vs) → b ≠ a := fun b vs q => ne_of_none q h
    cases s with
    | un => trivial
    | v d => exact k.slot i _ e
    | o xs =>
      obtain ⟨b, e1, e2, vs, h1, h2, h3, h4⟩ := k.slot i _ e
      exact ⟨b, e1, e2, vs, same_upd h _ _ h1, h2, by show (upd g.G a o) b = none; rw [upd_ne (ne b vs h1)]; exact h3, h4⟩
    | io xs =>
      obtain ⟨b, e1, e2, vs, h1, h2, h3, h4⟩ := k.slot i _ e
      exact ⟨b, e1, e2, vs, same_upd h _ _ h1, h2, by show (upd g.G a o) b = none; rw [upd_ne (ne b vs h1)]; exact h3, h4⟩
theorem addG_at {o : HO} : (addG g a o).G a = some o := upd_same
theorem OK.unguard {o : HO} (k : OK K (addG g a o) F env σ H) (hg : g.G a = none) (h0 : g.F0 a = none) : OK K g F env σ H ∧ H a = some o ∧ F a = none ∧ (∀ i, Own env i → σ[i]? ≠ some (some (.ref a))) := by
  have hH : H a = some o := k.gH a o addG_at
  have hF : F a = none := by
    cases q : F a with
    | none => rfl
    | some u =>
      rcases k.gro a u q with z | z
      · rw [show (addG g a o).F0 a = g.F0 a from rfl, h0] at z; cases z
      · rw [addG_at] at z; cases z.1
  have ne : ∀ b, (addG g a o).G b = none → b ≠ a ∧ g.G b = none := fun b z => by
    have hb : b ≠ a := by rintro rfl; rw [addG_at] at z; cases z
    refine ⟨hb, ?_⟩
    have z : (upd g.G a o) b = none := z
    rwa [upd_ne hb] at z
  refine ⟨⟨k.fH, fun b u e => k.gH b u (same_upd hg _ _ e), k.f0, fun b u e => ?_, k.len, fun i s e => ?_, k.dist, k.ios⟩, hH, hF, fun i hi e => ?_⟩
  · rcases k.gro b u e with z | z
    · exact .inl z
    · exact .inr ⟨(ne b z.1).2, z.2⟩
  · cases s with
    | un => trivial
    | v d => exact k.slot i _ e
    | o xs =>
      obtain ⟨b, e1, e2, vs, h1, h2, h3, h4⟩ := k.slot i _ e
      exact ⟨b, e1, e2, vs, h1, h2, (ne b h3).2, h4⟩
    | io xs =>
      obtain ⟨b, e1, e2, vs, h1, h2, h3, h4⟩ := k.slot i _ e
      exact ⟨b, e1, e2, vs, h1, h2, (ne b h3).2, h4⟩
  · obtain ⟨b, vs, z1, _, _, z4⟩ := k.own hi
    rw [e] at z1; cases z1
    exact (ne a z4).1 rfl
/-- what is made grows -/
theorem OK.reguard {o o' : HO} (k : OK K (addG g a o) F env σ H) (hg : g.G a = none) (h0 : g.F0 a = none) : OK K (addG g a o') F env σ (upd H a o') := by
  obtain ⟨k1, hH, hF, hs⟩ := k.unguard hg h0
  have ne : ∀ b, (addG g a o).G b = none → b ≠ a := fun b z e => by subst e; rw [addG_at] at z; cases z
  have G2 : ∀ b, b ≠ a → (addG g a o').G b = (addG g a o).G b := fun b hb => by
    show (upd g.G a o') b = (upd g.G a o) b
    rw [upd_ne hb, upd_ne hb]
  refine ⟨fun b u e => ?_, fun b u e => ?_, k.f0, fun b u e => ?_, k.len, fun i s e => ?_, k.dist, k.ios⟩
  · have hb : b ≠ a := by rintro rfl; rw [hF] at e; cases e
    rw [upd_ne hb]; exact k.fH b u e
  · by_cases hb : b = a
    · subst hb; rw [addG_at] at e; rw [upd_same]; exact e
    · rw [G2 b hb] at e; rw [upd_ne hb]; exact k.gH b u e
  · rcases k.gro b u e with z | z
    · exact .inl z
    · exact .inr ⟨by rw [G2 b (ne b z.1)]; exact z.1, z.2⟩
  · cases s with
    | un => trivial
    | v d => exact k.slot i _ e
    | o xs =>
      obtain ⟨b, e1, e2, vs, h1, h2, h3, h4⟩ := k.slot i _ e
      exact ⟨b, e1, e2, vs, by rw [upd_ne (ne b h3)]; exact h1, h2, by rw [G2 b (ne b h3)]; exact h3, h4⟩
    | io xs =>
      obtain ⟨b, e1, e2, vs, h1, h2, h3, h4⟩ := k.slot i _ e
      exact ⟨b, e1, e2, vs, by rw [upd_ne (ne b h3)]; exact h1, h2, by rw [G2 b (ne b h3)]; exact h3, h4⟩
/-- behind the block: its own names are as they were -/
theorem OK.back {F1 H1 : Hp} {e1 e4 w : Ev} (k1 : OK K g F1 e1 σ H1) (hw : wipeE e1 own = some w) (k : OK K g F e4 (L2.wipe σ own) H) (f : Same F1 F) (h4 : ∀ i, i ∈ own → e4[i]? = some .un) : OK K g F (backE e1 e4 own) σ H := by
  obtain ⟨q1, q2, q3⟩ := wipeE_at hw
  obtain ⟨b1, b2, b3⟩ := backE_at e1 (own := own) (env := e4)
  have out : ∀ i, i ∉ own → (L2.wipe σ own)[i]? = σ[i]? := fun i m => by rw [wipe_at, if_neg fun z => m z.1]
  have l4 : e4.length = σ.length := by rw [k.len, wipe_length]
  have old : ∀ i, i ∈ own → (backE e1 e4 own)[i]? = some .un ∨ ∃ d, (backE e1 e4 own)[i]? = some (.v d) ∧ e1[i]? = some (.v d) := fun i m => by
    have hl : i < e4.length := (List.getElem?_eq_some_iff.mp (h4 i m)).1
    rcases (q3 i m).2 with z | ⟨d, z⟩
    · left; rw [b3 i m hl, z]; rfl
    · right; exact ⟨d, by rw [b3 i m hl, z]; rfl, z⟩
  have ow : ∀ i, Own (backE e1 e4 own) i → i ∉ own ∧ Own e4 i := fun i hi => by
    by_cases m : i ∈ own
    · rcases old i m with z | ⟨d, z, _⟩
      · rcases hi with ⟨xs, y⟩ | ⟨xs, y⟩ <;> (rw [z] at y; cases y)
      · rcases hi with ⟨xs, y⟩ | ⟨xs, y⟩ <;> (rw [z] at y; cases y)
    · refine ⟨m, ?_⟩
      unfold Own at hi ⊢
      rw [b2 i m] at hi; exact hi
  refine ⟨k.fH, k.gH, k.f0, k.gro, by rw [b1, l4], fun i s e => ?_, fun i j b o1 o2 z1 z2 => ?_, fun i b e => ?_⟩
  · by_cases m : i ∈ own
    · rcases old i m with z | ⟨d, z, y⟩
      · rw [z] at e; cases e; trivial
      · rw [z] at e; cases e
        obtain ⟨v, h1, h2⟩ := k1.slot i _ y
        exact ⟨v, h1, dp_mono f h2⟩
    · rw [b2 i m] at e
      have := k.slot i s e
      unfold SlOk at this ⊢
      rw [out i m] at this
      exact this
  · obtain ⟨m1, w1⟩ := ow i o1
    obtain ⟨m2, w2⟩ := ow j o2
    exact k.dist i j b w1 w2 (by rw [out i m1]; exact z1) (by rw [out j m2]; exact z2)
  · obtain ⟨xs, z⟩ := k.ios i b e
    by_cases m : i ∈ own
    · rw [h4 i m] at z; cases z
    · exact ⟨xs, by rw [b2 i m]; exact z⟩
end
section
variable {X : Cx} {elt tg iter : Expr} {ifs : List Expr} {scope : Scope} {ownp : List (Str × Nat)} {pos : Pos}
theorem compL_wipe {tgt : D → Ev → Option Ev} {own : List Nat} {test : Ev → Option (Bool × Ev)} {ce : Ev → Option (Rs × Ev)} {xs acc ys : List D} {env e3 e4 : Ev} (h : compL tgt own test ce xs acc env = some (ys, e3)) (h4 : wipeE e3 own = some e4) : ∃ e0, wipeE env own = some e0 := by
  cases xs with
  | nil => cases h; exact ⟨_, h4⟩
  | cons x r =>
    simp only [compL, Option.bind_eq_some_iff] at h
    obtain ⟨e0, h1, _⟩ := h
    exact ⟨e0, h1⟩
theorem comp_read {cs : Ev → Option (List D × Ev)} {cg : D → Ev → Option Ev} {sl : List Nat} {ct : Ev → Option (Bool × Ev)} {ce : Ev → Option (Rs × Ev)} {own : List Nat} (hsl : ∀ i ∈ sl, i ∈ own) {σ : St} {H : Hp} {Q : VK}
    (h : tE X.K (fun env => compE cg own ct ce (cs env)) σ H Q) : tLc (tIt X.K cs) (tTg X.K cg sl) (tBo X.K ct) (tE X.K ce) own σ H Q := by
  obtain ⟨g, F, env, r, env', k, ec, f⟩ := h
  simp only [compE, Option.bind_eq_some_iff, Option.map_eq_some_iff] at ec
  obtain ⟨⟨items, e1⟩, h1, ⟨ys, e3⟩, h2, e4, h3, h4⟩ := ec
  simp only [Prod.mk.injEq] at h4
  obtain ⟨rfl, rfl⟩ := h4
  refine ⟨g, F, env, items, e1, k, h1, fun J F1 H1 k1 s1 jk Dd hD => ?_⟩
  obtain ⟨w1, hw1⟩ := compL_wipe h2 h3
  have gD : g.G Dd = none := k1.fG hD
  have f0D : g.F0 Dd = none := Same.free k1.f0 (k1.fF hD)
  have ioD := k1.fio hD
  refine ⟨fun i m H => m = items.length - i ∧ i ≤ items.length ∧ ∃ F2 env2 e0 acc vs, wipeE env2 own = some e0 ∧ OK X.K (addG g Dd (.lst vs)) F2 e0 (wipe σ own) H ∧ Same F1 F2 ∧ Rps X.K F2 vs acc ∧ compL cg own ct ce (items.drop i) acc env2 = some (ys, e3),
    ⟨items.length, by simp, by simp, F1, e1, w1, [], [], hw1, (k1.wipe hw1).guard hD, Same.refl _, .nil, h2⟩, ?_⟩
  rintro i m H2 ⟨rfl, hi, F2, env2, e0, acc, vs, hw, k2, s2, ps, hc⟩
  have kg := k2.unguard gD f0D
  by_cases hlt : i < items.length
  · refine .inr ⟨jk.go i H2 (s2.trans k2.fH) hlt, fun H' => i + 1 ≤ items.length ∧ ∃ F2 env2 e0 acc vs, wipeE env2 own = some e0 ∧ OK X.K (addG g Dd (.lst vs)) F2 e0 (wipe σ own) H' ∧ Same F1 F2 ∧ Rps X.K F2 vs acc ∧ compL cg own ct ce (items.drop (i + 1)) acc env2 = some (ys, e3),
      fun H' q => ⟨items.length - (i + 1), by omega, rfl, q⟩, fun x H' hy => ?_⟩
    rw [List.drop_eq_getElem_cons hlt] at hc
    simp only [compL, Option.bind_eq_some_iff] at hc
    obtain ⟨e0', q0, e5, q1, ⟨t, e6⟩, q2, q3⟩ := hc
    rw [hw] at q0; cases q0
    obtain ⟨sH, d, hd, hF⟩ := jk.yld i H2 x H' (s2.trans k2.fH) hlt hy
    rw [List.getElem?_eq_getElem hlt] at hd; cases hd
    obtain ⟨F3, s3, s3H, hx, gr⟩ := hF F2 s2 k2.fH
    have k3 := k2.grow s3 s3H sH gr
    refine ⟨_, F3, e0, _, e5, k3, hx, q1, fun σ' k4 hσ => ⟨?_, _, F3, e5, t, e6, k4, q2, fun F4 H4 k5 s4 => ite_b (fun et => ?_) (fun et => ?_)⟩⟩
    · rw [hσ own hsl, wipe_wipe]
    · subst et
      simp only [if_true, Option.bind_eq_some_iff] at q3
      obtain ⟨⟨ry, e7⟩, q4, q5⟩ := q3
      split at q5
      · rename_i hz
        refine ⟨_, F4, e6, ry, e7, k5, q4, fun y F5 H5 k6 s5 hy' => ?_⟩
        obtain ⟨F6, k7, s6, hd⟩ := hy'.frz k6
        have hDv : H5 Dd = some (.lst vs) := k7.gH _ _ addG_at
        have s26 : Same F2 F6 := s3.trans (s4.trans (s5.trans s6))
        obtain ⟨e0', hw'⟩ := compL_wipe q5 h3
        have k8 := (k7.reguard (o' := .lst (vs ++ [y])) gD f0D).wipe hw'
        rw [hσ own hsl] at k8
        rw [wipe_wipe] at k8
        exact ⟨vs, hDv, by rw [dps_len ps]; exact hz, by omega, F6, e7, e0', acc ++ [ry.d], vs ++ [y], hw', k8, s2.trans s26, dps_append (dps_mono s26 ps) (.cons hd .nil), q5⟩
      · cases q5
    · subst et
      simp only [Bool.false_eq_true, if_false] at q3
      have s24 : Same F2 F4 := s3.trans s4
      obtain ⟨e0', hw'⟩ := compL_wipe q3 h3
      have k8 := k5.wipe hw'
      rw [hσ own hsl] at k8
      rw [wipe_wipe] at k8
      exact ⟨by omega, F4, e6, e0', acc, vs, hw', k8, s2.trans s24, dps_mono s24 ps, q3⟩
  · have e : i = items.length := by omega
    subst e
    rw [List.drop_length] at hc
    simp only [compL, Option.some.injEq, Prod.mk.injEq] at hc
    obtain ⟨rfl, rfl⟩ := hc
    rw [hw] at h3; cases h3
    refine .inl ⟨jk.stop _ H2 (s2.trans k2.fH) (Nat.le_refl _), ?_⟩
    obtain ⟨k3, hH, hF, hs⟩ := kg
    have un := (wipeE_at hw).2.2
    have k4 := OK.back k1 hw1 k3 s2 fun i m => (un i m).1
    refine f _ F2 H2 k4 (s1.trans s2) ⟨Dd, rfl, ioD, ⟨vs, hH, hF, gD, ps⟩, fun j hj e => ?_⟩
    obtain ⟨b1, b2, b3⟩ := backE_at e1 (own := own) (env := e4)
    obtain ⟨bb, ws, z1, z2, z3, z4⟩ := k4.own hj
    rw [e] at z1; cases z1
    by_cases m : j ∈ own
    · have hl : j < e4.length := (List.getElem?_eq_some_iff.mp (un j m).1).1
      rcases ((wipeE_at hw1).2.2 j m).2 with z | ⟨d, z⟩
      · rcases hj with ⟨xs, y⟩ | ⟨xs, y⟩ <;> (rw [b3 j m hl, z] at y; cases y)
      · rcases hj with ⟨xs, y⟩ | ⟨xs, y⟩ <;> (rw [b3 j m hl, z] at y; cases y)
    · refine hs j ?_ (by rw [wipe_at, if_neg fun z => m z.1]; exact e)
      unfold Own at hj ⊢
      rw [b2 j m] at hj; exact hj
theorem n_comp {cs : Ev → Option (List D × Ev)} {cg : D → Ev → Option Ev} {sl : List Nat} {ct : Ev → Option (Bool × Ev)} {ce : Ev → Option (Rs × Ev)} (hc : X.calm = true) (hN : X.N.Nodup) (hi : PI X tg iter (tIt X.K cs)) (ok : BlkOk X.N X.env.scope scope ownp) (hsl : ∀ i ∈ sl, i ∈ ownp.map (·.2))
    (hg : ∀ (s : Shared) (H : Hp) (C : Addr) (cl : List (Str × Addr)) (fp : List Addr), PG (X.blk s H scope (compEnvC scope cl C X.env) fp) tg (tTg X.K cg sl)) (ht : ∀ (s : Shared) (H : Hp) (C : Addr) (cl : List (Str × Addr)) (fp : List Addr), PTs (X.blk s H scope (compEnvC scope cl C X.env) fp) ifs (tBo X.K ct))
    (he : ∀ (s : Shared) (H : Hp) (C : Addr) (cl : List (Str × Addr)) (fp : List Addr), PE (X.blk s H scope (compEnvC scope cl C X.env) fp) elt (tE X.K ce)) (hs : ∀ x, foldedSetIterable iter X.env x = pure x) :
    PE X (.ListComp elt [⟨tg, iter, ifs, 0⟩] scope pos) (tE X.K (fun env => compE cg (ownp.map (·.2)) ct ce (cs env))) :=
  pe_w (pe_lc hc hN hi ok hg ht he hs) fun σ H Q h => comp_read hsl h
end
end KX

set_option Elab.async false
set_option linter.all false
set_option maxHeartbeats 1000000
/-! KB9: statements. -/
namespace KX
open PySem PySem.Spec PyProof.Rows L2
def OutOK (K : PySem.W.Frag) (g : Gh) (F : Hp) (Dn : Ends) : Out → Prop
  | .nx e => ∀ σ' F' H', OK K g F' e σ' H' → Same F F' → Dn.nx σ' H'
  | .rt r e => ∀ v σ' F' H', OK K g F' e σ' H' → Same F F' → RsOK K g F' e σ' H' v r → Dn.rt v H'
  | .bk e => ∀ σ' F' H', OK K g F' e σ' H' → Same F F' → Dn.bk σ' H'
  | .ct e => ∀ σ' F' H', OK K g F' e σ' H' → Same F F' → Dn.ct σ' H'
theorem OutOK.mono {K : PySem.W.Frag} {g : Gh} {F F' : Hp} {Dn : Ends} {o : Out} (h : OutOK K g F Dn o) (s : Same F F') : OutOK K g F' Dn o := by
  cases o with
  | nx e => exact fun σ' F2 H' k w => h σ' F2 H' k (s.trans w)
  | rt r e => exact fun v σ' F2 H' k w => h v σ' F2 H' k (s.trans w)
  | bk e => exact fun σ' F2 H' k w => h σ' F2 H' k (s.trans w)
  | ct e => exact fun σ' F2 H' k w => h σ' F2 H' k (s.trans w)
def tS (K : PySem.W.Frag) (c : Ev → Option Out) : TS := fun Dn σ H => ∃ g F env o, OK K g F env σ H ∧ c env = some o ∧ OutOK K g F Dn o
/-- results in a row; new lists stand apart -/
structure RssOK (K : PySem.W.Frag) (g : Gh) (F : Hp) (env : Ev) (σ : St) (H : Hp) (vs : List V) (rs : List Rs) : Prop where
  len : vs.length = rs.length
  at_ : ∀ (p : Nat) v r, vs[p]? = some v → rs[p]? = some r → RsOK K g F env σ H v r
  dist : ∀ (p q : Nat) a xs ys, rs[p]? = some (.o xs) → rs[q]? = some (.o ys) → vs[p]? = some (V.ref a) → vs[q]? = some (V.ref a) → p = q
def tRs (K : PySem.W.Frag) (c : Ev → Option (List Rs × Ev)) : TA := fun σ H Q => ∃ g F env rs env', OK K g F env σ H ∧ c env = some (rs, env') ∧ ∀ vs F' H', OK K g F' env' σ H' → Same F F' → RssOK K g F' env' σ H' vs rs → Q vs H'
section
variable {K : PySem.W.Frag} {g : Gh} {F F' H H' : Hp} {env e0 env' : Ev} {σ : St} {a : Addr} {v : V}
theorem OK.guardAt (k : OK K g F env σ H) {o : HO} (h : H a = some o) (hF : F a = none) (hs : ∀ i, Own env i → σ[i]? ≠ some (some (.ref a))) : OK K (addG g a o) F env σ H := by
  refine ⟨k.fH, fun b u e => ?_, k.f0, fun b u e => ?_, k.len, fun i s e => ?_, k.dist, k.ios⟩
  · have e : (upd g.G a o) b = some u := e
    by_cases hb : b = a
    · subst hb; rw [upd_same] at e; rw [h]; exact e
    · rw [upd_ne hb] at e; exact k.gH b u e
  · rcases k.gro b u e with z | z
    · exact .inl z
    · refine .inr ⟨?_, z.2⟩
      show (upd g.G a o) b = none
      rw [upd_ne (by rintro rfl; rw [hF] at e; cases e)]
      exact z.1
  · have ne : ∀ b, σ[i]? = some (some (.ref b)) → Own env i → b ≠ a := fun b z w q => by subst q; exact hs i w z
    cases s with
    | un => trivial
    | v d => exact k.slot i _ e
    | o xs =>
      obtain ⟨b, e1, e2, vs, h1, h2, h3, h4⟩ := k.slot i _ e
      exact ⟨b, e1, e2, vs, h1, h2, by show (upd g.G a o) b = none; rw [upd_ne (ne b e1 (.inl ⟨xs, e⟩))]; exact h3, h4⟩
    | io xs =>
      obtain ⟨b, e1, e2, vs, h1, h2, h3, h4⟩ := k.slot i _ e
      exact ⟨b, e1, e2, vs, h1, h2, by show (upd g.G a o) b = none; rw [upd_ne (ne b e1 (.inr ⟨xs, e⟩))]; exact h3, h4⟩
theorem rs_cons {r : Rs} {rs : List Rs} {vs : List V} (h1 : RsOK K g F env σ H v r) (h2 : RssOK K g F env σ H vs rs) (hd : ∀ a xs, v = .ref a → r = .o xs → ∀ (q : Nat) ys, rs[q]? = some (.o ys) → vs[q]? ≠ some (V.ref a)) : RssOK K g F env σ H (v :: vs) (r :: rs) := by
  refine ⟨by simp [h2.len], fun p w s e1 e2 => ?_, fun p q a xs ys e1 e2 e3 e4 => ?_⟩
  · cases p with
    | zero => simp at e1 e2; subst e1 e2; exact h1
    | succ p => exact h2.at_ p w s (by simpa using e1) (by simpa using e2)
  · cases p with
    | zero =>
      simp at e1 e3
      subst e1 e3
      cases q with
      | zero => rfl
      | succ q => exact absurd (by simpa using e4) (hd a xs rfl rfl q ys (by simpa using e2))
    | succ p =>
      cases q with
      | zero =>
        simp at e2 e4
        subst e2 e4
        exact absurd (by simpa using e3) (hd a ys rfl rfl p xs (by simpa using e1))
      | succ q => rw [h2.dist p q a xs ys (by simpa using e1) (by simpa using e2) (by simpa using e3) (by simpa using e4)]
def setAll : St → List Nat → List V → St
  | σ, i :: is, v :: vs => setAll (σ.set i (some v)) is vs
  | σ, _, _ => σ
theorem OK.putAll : ∀ {is : List Nat} {rs : List Rs} {vs : List V} {env env' : Ev} {σ : St}, OK K g F env σ H → RssOK K g F env σ H vs rs → putNs is rs env = some env' → OK K g F env' (setAll σ is vs) H
  | [], [], vs, env, env', σ, k, h, e => by
    cases vs with
    | nil => simp only [putNs, Option.some.injEq] at e; subst e; exact k
    | cons v vs => have := h.len; simp at this
  | i :: is, r :: rs, [], env, env', σ, k, h, e => by have := h.len; simp at this
  | i :: is, r :: rs, v :: vs, env, env', σ, k, h, e => by
    simp only [putNs, Option.bind_eq_some_iff] at e
    obtain ⟨e1, h1, h2⟩ := e
    have hv := h.at_ 0 v r rfl rfl
    refine OK.putAll (is := is) (rs := rs) (vs := vs) (k.put hv h1) ⟨by have := h.len; simpa using this, fun p w s q1 q2 => ?_, fun p q a xs ys q1 q2 q3 q4 => ?_⟩ h2
    · have hw := h.at_ (p + 1) w s (by simpa using q1) (by simpa using q2)
      cases s with
      | v d => exact hw
      | o xs =>
        obtain ⟨b, rfl, hj, ho, hs⟩ := hw
        refine ⟨b, rfl, hj, ho, fun j hj2 e => ?_⟩
        unfold asgS at h1
        have ei : e1 = env.set i r.sl ∧ i < env.length := by
          split at h1
          · cases h1
          · rename_i s0 _ hn; exact ⟨(Option.some.inj h1).symm, (List.getElem?_eq_some_iff.mp hn).1⟩
          · cases h1
        obtain ⟨rfl, hi⟩ := ei
        have hσ : i < σ.length := by rw [← k.len]; exact hi
        rcases own_set hj2 with ⟨z1, z2⟩ | ⟨z1, z2⟩
        · subst z1
          rw [List.getElem?_set_self hσ] at e
          cases e
          cases r with
          | v d => rcases z2 with ⟨xs, z⟩ | ⟨xs, z⟩ <;> cases z
          | o zs => exact absurd (h.dist 0 (p + 1) b zs xs rfl (by simpa using q2) rfl (by simpa using q1)) (by omega)
        · rw [List.getElem?_set_ne (Ne.symm z1)] at e
          exact hs j z2 e
    · have := h.dist (p + 1) (q + 1) a xs ys (by simpa using q1) (by simpa using q2) (by simpa using q3) (by simpa using q4)
      omega
  | [], r :: rs, _, _, _, _, _, _, e => by simp [putNs] at e
  | i :: is, [], _, _, _, _, _, _, e => by simp [putNs] at e
end
section
variable {X : Cx} {e a b c tg : Expr} {pos p : Pos} {rest es : List Expr} {st : Stmt} {sts : List Stmt}
theorem ps_w {t t' : TS} (h : PS X st t) (w : ∀ Dn σ H, t' Dn σ H → t Dn σ H) : PS X st t' := ⟨fun pins s σ H Dn I hw => h.run pins s σ H Dn I (w Dn σ H hw)⟩
theorem pss_w {t t' : TS} (h : PSs X sts t) (w : ∀ Dn σ H, t' Dn σ H → t Dn σ H) : PSs X sts t' := ⟨fun pins s σ H Dn I hw => h.run pins s σ H Dn I (w Dn σ H hw)⟩
theorem n_rnil : PA X [] (tRs X.K (fun env => some ([], env))) := pa_w pa_nil fun σ H Q ⟨g, F, env, ds, env', k, ec, f⟩ => by
  cases ec
  exact f [] F H k (Same.refl _) ⟨rfl, fun p v r e => by simp at e, fun p q a xs ys e => by simp at e⟩
theorem n_rcons {fa : Ev → Option (Rs × Ev)} {fs : Ev → Option (List Rs × Ev)} (ha : PE X a (tE X.K fa)) (hr : PA X rest (tRs X.K fs)) (hs : starEach (a :: rest) X.env = (false, eval a X.env) :: starEach rest X.env) :
    PA X (a :: rest) (tRs X.K (fun env => (fa env).bind fun p => (fs p.2).map fun q => (p.1 :: q.1, q.2))) :=
  pa_w (pa_cons ha hr hs) fun σ H Q ⟨g, F, env, ds, env', k, ec, f⟩ => by
    simp only [Option.bind_eq_some_iff, Option.map_eq_some_iff] at ec
    obtain ⟨⟨r, e1⟩, h1, ⟨ds2, e2⟩, h2, h3⟩ := ec
    simp only [Prod.mk.injEq] at h3
    obtain ⟨rfl, rfl⟩ := h3
    refine ⟨g, F, env, r, e1, k, h1, fun v F1 H1 k1 s1 hv => ?_⟩
    cases r with
    | v d => exact ⟨g, F1, e1, ds2, e2, k1, h2, fun vs F3 H3 k3 s3 h3 => f (v :: vs) F3 H3 k3 (s1.trans s3) (rs_cons (r := .v d) (dp_mono s3 hv) h3 fun a xs _ z => nomatch z)⟩
    | o xs =>
      obtain ⟨a, rfl, hj, ⟨ws, w1, w2, w3, w4⟩, w5⟩ := hv
      have k2 := k1.guardAt w1 w2 w5
      refine ⟨addG g a (.lst ws), F1, e1, ds2, e2, k2, h2, fun vs F3 H3 k3 s3 h3 => ?_⟩
      have f0 : g.F0 a = none := Same.free k1.f0 w2
      obtain ⟨k4, z1, z2, z3⟩ := k3.unguard w3 f0
      have nG : ∀ b, (addG g a (.lst ws)).G b = none → b ≠ a ∧ g.G b = none := fun b z => by
        have hb : b ≠ a := by rintro rfl; rw [addG_at] at z; cases z
        have z : (upd g.G a (.lst ws)) b = none := z
        exact ⟨hb, by rwa [upd_ne hb] at z⟩
      refine f (.ref a :: vs) F3 H3 k4 (s1.trans s3) (rs_cons (r := .o xs) ⟨a, rfl, hj, ⟨ws, z1, z2, w3, dps_mono s3 w4⟩, z3⟩ ⟨h3.len, fun p v r q1 q2 => ?_, h3.dist⟩ fun b ys eb _ q zs q1 q2 => ?_)
      · have := h3.at_ p v r q1 q2
        cases r with
        | v d => exact this
        | o ys =>
          obtain ⟨b, rfl, y1, ⟨us, y2, y3, y4, y5⟩, y6⟩ := this
          exact ⟨b, rfl, y1, ⟨us, y2, y3, (nG b y4).2, y5⟩, y6⟩
      · cases eb
        have := h3.at_ q _ _ q2 q1
        obtain ⟨b, y0, y1, ⟨us, y2, y3, y4, y5⟩, y6⟩ := this
        cases y0
        exact (nG _ y4).1 rfl
/-! ### blocks -/
theorem s_nil : PSs X [] (tS X.K (fun env => some (.nx env))) := pss_w pss_nil fun Dn σ H ⟨g, F, env, o, k, ec, f⟩ => by
  cases ec
  exact f σ F H k (Same.refl _)
theorem s_cons {c1 c2 : Ev → Option Out} (h1 : PS X st (tS X.K c1)) (h2 : PSs X sts (tS X.K c2)) : PSs X (st :: sts) (tS X.K (fun env => seqO (c1 env) c2)) :=
  pss_w (pss_cons h1 h2) fun Dn σ H ⟨g, F, env, o, k, ec, f⟩ => by
    simp only [seqO, Option.bind_eq_some_iff] at ec
    obtain ⟨o1, q1, q2⟩ := ec
    refine ⟨g, F, env, o1, k, q1, ?_⟩
    cases o1 with
    | nx e1 => exact fun σ' F' H' k' s => ⟨g, F', e1, o, k', q2, f.mono s⟩
    | rt r e1 => cases q2; exact f
    | bk e1 => cases q2; exact f
    | ct e1 => cases q2; exact f
theorem s_pass : PS X (.Pass pos) (tS X.K (fun env => some (.nx env))) := ps_w ps_pass fun Dn σ H ⟨g, F, env, o, k, ec, f⟩ => by
  cases ec
  exact f σ F H k (Same.refl _)
theorem s_brk : PS X (.Break pos) (tS X.K (fun env => some (.bk env))) := ps_w ps_break fun Dn σ H ⟨g, F, env, o, k, ec, f⟩ => by
  cases ec
  exact f σ F H k (Same.refl _)
theorem s_cont : PS X (.Continue pos) (tS X.K (fun env => some (.ct env))) := ps_w ps_continue fun Dn σ H ⟨g, F, env, o, k, ec, f⟩ => by
  cases ec
  exact f σ F H k (Same.refl _)
theorem s_raise : PS X st (tS X.K (fun _ => none)) := ps_w ps_never fun Dn σ H ⟨g, F, env, o, k, ec, f⟩ => by cases ec
theorem s_retN : PS X (.Return none pos) (tS X.K (fun env => some (.rt (.v .none) env))) := ps_w ps_retN fun Dn σ H ⟨g, F, env, o, k, ec, f⟩ => by
  cases ec
  exact f .non σ F H k (Same.refl _) .non
theorem s_ret {ce : Ev → Option (Rs × Ev)} (h : PE X e (tE X.K ce)) : PS X (.Return (some e) pos) (tS X.K (fun env => (ce env).map fun p => .rt p.1 p.2)) :=
  ps_w (ps_ret h) fun Dn σ H ⟨g, F, env, o, k, ec, f⟩ => by
    simp only [Option.map_eq_some_iff] at ec
    obtain ⟨⟨r, e1⟩, q1, rfl⟩ := ec
    exact ⟨g, F, env, r, e1, k, q1, fun v F' H' k' s hv => f v σ F' H' k' s hv⟩
/-- a slot is let go -/
theorem OK.drop {K : PySem.W.Frag} {g : Gh} {F H : Hp} {env : Ev} {σ : St} {i : Nat} {xs : List D} (k : OK K g F env σ H) (h : env[i]? = some (.o xs)) : ∃ v, σ[i]? = some (some v) ∧ OK K g F (env.set i .un) σ H ∧ RsOK K g F (env.set i .un) σ H v (.o xs) := by
  obtain ⟨a, e, hj, ho⟩ := k.slot i _ h
  have hi : i < env.length := (List.getElem?_eq_some_iff.mp h).1
  have back : ∀ j, Own (env.set i .un) j → j ≠ i ∧ Own env j := fun j q => by
    rcases own_set q with ⟨_, ⟨_, z⟩ | ⟨_, z⟩⟩ | z
    · cases z
    · cases z
    · exact z
  refine ⟨.ref a, e, ⟨k.fH, k.gH, k.f0, k.gro, by simp [k.len], fun j s ej => ?_, fun j1 j2 b o1 o2 => k.dist j1 j2 b (back _ o1).2 (back _ o2).2, fun j b q => ?_⟩, a, rfl, hj, ho, fun j hj2 ej => ?_⟩
  · by_cases hji : j = i
    · subst hji; rw [List.getElem?_set_self hi] at ej; cases ej; trivial
    · rw [List.getElem?_set_ne (Ne.symm hji)] at ej; exact k.slot j s ej
  · obtain ⟨ys, q'⟩ := k.ios j b q
    refine ⟨ys, ?_⟩
    rw [List.getElem?_set_ne]
    · exact q'
    · rintro rfl; rw [h] at q'; cases q'
  · obtain ⟨h1, h2⟩ := back j hj2
    exact h1 (k.dist j i a h2 (.inl ⟨xs, h⟩) ej e)
theorem s_retV {i : Nat} (h : PE X e (tVar i)) : PS X (.Return (some e) pos) (tS X.K (retV i)) := ps_w (ps_ret h) fun Dn σ H ⟨g, F, env, o, k, ec, f⟩ => by
  unfold retV at ec
  split at ec
  · rename_i d es
    cases ec
    obtain ⟨v, hv, hd⟩ := k.slot i _ es
    exact ⟨v, hv, f v σ F H k (Same.refl _) hd⟩
  · rename_i xs es
    cases ec
    obtain ⟨v, hv, k', hr⟩ := k.drop es
    exact ⟨v, hv, f v σ F H k' (Same.refl _) hr⟩
  · cases ec
theorem s_if {cc : Ev → Option (Bool × Ev)} {c1 c2 : Ev → Option Out} {xs ys : List Stmt} (hc : PT X c (tBo X.K cc)) (h1 : PSs X xs (tS X.K c1)) (h2 : PSs X ys (tS X.K c2)) :
    PS X (.If c xs ys pos) (tS X.K (fun env => (cc env).bind fun p => if p.1 then c1 p.2 else c2 p.2)) := ps_w (ps_if hc h1 h2) fun Dn σ H ⟨g, F, env, o, k, ec, f⟩ => by
  simp only [Option.bind_eq_some_iff] at ec
  obtain ⟨⟨t, e1⟩, q1, q2⟩ := ec
  refine ⟨g, F, env, t, e1, k, q1, fun F' H' k' s => ite_b (fun et => ?_) (fun et => ?_)⟩
  · subst et
    exact ⟨g, F', e1, o, k', by simpa using q2, f.mono s⟩
  · subst et
    exact ⟨g, F', e1, o, k', by simpa using q2, f.mono s⟩
theorem s_expr {ce : Ev → Option (Rs × Ev)} (h : PE X e (tE X.K ce)) (hs : swapsWith e none pos.line X.env = pure false) : PS X (.Expr e pos) (tS X.K (fun env => (ce env).map fun p => .nx p.2)) :=
  ps_w (ps_expr h hs) fun Dn σ H ⟨g, F, env, o, k, ec, f⟩ => by
    simp only [Option.map_eq_some_iff] at ec
    obtain ⟨⟨r, e1⟩, q1, rfl⟩ := ec
    exact ⟨g, F, env, r, e1, k, q1, fun v F' H' k' s hv => f σ F' H' k' s⟩
/-! ### stores -/
theorem asg_read {te : TE} {ce : Ev → Option (Rs × Ev)} {i : Nat} (w : ∀ σ H Q, tE X.K ce σ H Q → te σ H Q) : ∀ Dn σ H, tS X.K (fun env => (ce env).bind fun p => (asgS i p.1.sl p.2).map .nx) Dn σ H → tAsg te (gName i) Dn σ H := fun Dn σ H ⟨g, F, env, o, k, ec, f⟩ => by
  simp only [Option.bind_eq_some_iff, Option.map_eq_some_iff] at ec
  obtain ⟨⟨r, e1⟩, q1, e2, q2, rfl⟩ := ec
  exact w σ H _ ⟨g, F, env, r, e1, k, q1, fun v F' H' k' s hv => f _ F' H' (k'.put hv q2) s⟩
theorem s_asg {ce : Ev → Option (Rs × Ev)} {i : Nat} {x : Str} {pos' : Pos} (h : PE X e (tE X.K ce)) (hN : X.N.Nodup) (hi : X.N[i]? = some x) (hx : Loc X.env.scope x) (hs : swapsWith e (some (.Name x pos')) pos.line X.env = pure false) (hf : X.fn x = true ∨ X.env.scope.names.lookup x = some .local) :
    PS X (.Assign [.Name x pos'] e pos) (tS X.K (fun env => (ce env).bind fun p => (asgS i p.1.sl p.2).map .nx)) := ps_w (ps_set hN hi hx h hs hf) (asg_read fun _ _ _ q => q)
theorem s_asgTg {ce : Ev → Option (Rs × Ev)} {cg : D → Ev → Option Ev} {sl : List Nat} (h : PE X e (tE X.K ce)) (hg : PG X tg (tTg X.K cg sl)) (hs : swapsWithSole [tg] e pos.line X.env = pure false) (hw : swappedStores [tg] e X.env = pure none) (h1 : (assignEach [tg] X.env).map (·.2) = [assign tg X.env]) :
    PS X (.Assign [tg] e pos) (tS X.K (fun env => (ce env).bind fun p => (cg p.1.d p.2).map .nx)) := ps_w (ps_asg h hg hs hw h1) fun Dn σ H ⟨g, F, env, o, k, ec, f⟩ => by
  simp only [Option.bind_eq_some_iff, Option.map_eq_some_iff] at ec
  obtain ⟨⟨r, e1⟩, q1, e2, q2, rfl⟩ := ec
  refine ⟨g, F, env, r, e1, k, q1, fun v F' H' k' s hv => ?_⟩
  obtain ⟨F2, k2, s2, d2⟩ := hv.frz k'
  exact ⟨g, F2, e1, r.d, e2, k2, d2, q2, fun σ' k3 _ => f σ' F2 H' k3 (s.trans s2)⟩
/-- places of lists -/
theorem OK.putIx {K : PySem.W.Frag} {g : Gh} {F H : Hp} {env e2 : Ev} {σ : St} {i : Nat} {n : Int} {v : V} {d : D} (k : OK K g F env σ H) (h : KX.putIx i n d env = some e2) (hd : Rp K F v d) :
    ∃ a vs j, σ[i]? = some (some (.ref a)) ∧ H a = some (.lst vs) ∧ ixN vs.length n = some j ∧ OK K g F e2 σ (upd H a (.lst (vs.set j v))) := by
  unfold KX.putIx at h
  split at h
  · rename_i xs es
    simp only [Option.map_eq_some_iff] at h
    obtain ⟨j, q1, rfl⟩ := h
    obtain ⟨a, e, hj, vs, h1, h2, h3, h4⟩ := k.slot i _ es
    exact ⟨a, vs, j, e, h1, by rw [dps_len h4]; exact q1, k.change (.inl ⟨rfl, xs, es⟩) e (dps_set j h4 hd)⟩
  · rename_i xs es
    simp only [Option.map_eq_some_iff] at h
    obtain ⟨j, q1, rfl⟩ := h
    obtain ⟨a, e, hj, vs, h1, h2, h3, h4⟩ := k.slot i _ es
    exact ⟨a, vs, j, e, h1, by rw [dps_len h4]; exact q1, k.change (.inr ⟨rfl, xs, es⟩) e (dps_set j h4 hd)⟩
  · cases h
theorem slot_has {K : PySem.W.Frag} {g : Gh} {F H : Hp} {env : Ev} {σ : St} {i : Nat} (k : OK K g F env σ H) (h : Own env i) : ∃ a, σ[i]? = some (some (.ref a)) := by
  obtain ⟨a, _, e, _⟩ := k.own h
  exact ⟨a, e⟩
theorem putIx_own {env e2 : Ev} {i : Nat} {n : Int} {d : D} (h : KX.putIx i n d env = some e2) : Own env i := by
  unfold KX.putIx at h
  split at h
  · rename_i xs es; exact .inl ⟨xs, es⟩
  · rename_i xs es; exact .inr ⟨xs, es⟩
  · cases h
end
end KX
namespace KX
open PySem PySem.Spec PyProof.Rows L2
theorem slot_val {K : PySem.W.Frag} {g : Gh} {F H : Hp} {env : Ev} {σ : St} {i : Nat} {d : D} (k : OK K g F env σ H) (h : slD env[i]? = some d) : ∃ v, σ[i]? = some (some v) := by
  cases es : env[i]? with
  | none => rw [es] at h; cases h
  | some s =>
    rw [es] at h
    have q := k.slot i s es
    cases s with
    | un => cases h
    | v d => obtain ⟨v, h, _⟩ := q; exact ⟨v, h⟩
    | o d => obtain ⟨v, h, _⟩ := q; exact ⟨_, h⟩
    | io d => obtain ⟨v, h, _⟩ := q; exact ⟨_, h⟩
def tSub (K : PySem.W.Frag) (c : D → Ev → Option Ev) : TG := fun v σ H Q => ∃ g F env d env', OK K g F env σ H ∧ Rp K F v d ∧ c d env = some env' ∧ ∀ σ' F' H', OK K g F' env' σ' H' → Same F F' → Q σ' H'
def tSubs (K : PySem.W.Frag) (c : List D → Ev → Option Ev) : TGs := fun v σ H Q => ∃ g F env d env', OK K g F env σ H ∧ Rps K F v d ∧ c d env = some env' ∧ ∀ σ' F' H', OK K g F' env' σ' H' → Same F F' → Q σ' H'
section
variable {X : Cx} {e a b c tg : Expr} {pos p : Pos} {rest es : List Expr} {st : Stmt} {sts : List Stmt}
/-- x[k] = e: the target -/
theorem n_gsub {i : Nat} {iv : Option Nat} {fa : Ev → Option (Rs × Ev)} (ho : PE X a (tVar i)) (hi : PE X b (tH X.K (opd iv fa))) (hb : ∀ l u s p, b ≠ .Slice l u s p) :
    PG X (.Subscript a b pos) (tSub X.K (fun d env => baseS i env (op1 iv fa (fun x e => (D.int? x).bind fun n => KX.putIx i n d e) env))) :=
  pg_w (pg_sub ho hi set_list (fun _ => by cases b <;> first | rfl | exact absurd rfl (hb _ _ _ _))) fun v σ H Q ⟨g, F, env, d, env', k, hd, ec, f⟩ => by
    simp only [baseS, Option.bind_eq_some_iff] at ec
    obtain ⟨d0, q0, ec⟩ := ec
    obtain ⟨h, e1, x, q1, q2, q3⟩ := op1_some ec
    cases x <;> simp only [D.int?, Option.bind_none, Option.bind_some] at q3 <;> try (cases q3; done)
    rename_i n
    obtain ⟨w, hw⟩ := slot_val k q0
    refine ⟨w, hw, g, F, env, h, e1, k, q1, fun u F' H' k' s hu => ?_⟩
    obtain ⟨a, vs, j, z1, z2, z3, z4⟩ := k'.putIx q3 (dp_mono s hd)
    rw [hw] at z1; cases z1
    exact ⟨a, vs, n, j, rfl, (k'.brep hu q2).int, z2, z3, f σ F' _ z4 s⟩
theorem n_gnmS {i : Nat} (h : PG X e (gName i)) : PG X e (tSub X.K (fun d env => asgS i (.v d) env)) := pg_w h fun v σ H Q ⟨g, F, env, d, env', k, hd, ec, f⟩ => f _ F H (k.put (r := .v d) hd ec) (Same.refl _)
theorem n_snil : PGs X [] (tSubs X.K (fun ds env => match ds with | [] => some env | _ => none)) := pgs_w pgs_nil fun v σ H Q ⟨g, F, env, d, env', k, hd, ec, f⟩ => by
  cases d with
  | nil => cases hd; cases ec; exact ⟨rfl, f σ F H k (Same.refl _)⟩
  | cons x xs => cases ec
theorem n_scons {c1 : D → Ev → Option Ev} {c2 : List D → Ev → Option Ev} (h1 : PG X e (tSub X.K c1)) (h2 : PGs X es (tSubs X.K c2)) (hs : (assignEach (e :: es) X.env).map (·.2) = assign e X.env :: (assignEach es X.env).map (·.2)) :
    PGs X (e :: es) (tSubs X.K (fun ds env => match ds with | [] => none | x :: xs => (c1 x env).bind (c2 xs))) := pgs_w (pgs_cons h1 h2 hs) fun v σ H Q ⟨g, F, env, d, env', k, hd, ec, f⟩ => by
  cases d with
  | nil => cases ec
  | cons x xs =>
    simp only [Option.bind_eq_some_iff] at ec
    obtain ⟨e1, q1, q2⟩ := ec
    cases hd with
    | cons p ps => exact ⟨_, _, rfl, g, F, env, x, e1, k, p, q1, fun σ' F' H' k' s => ⟨g, F', e1, xs, env', k', dps_mono s ps, q2, fun σ2 F2 H2 k2 s2 => f σ2 F2 H2 k2 (s.trans s2)⟩⟩
theorem s_st {ce : Ev → Option (Rs × Ev)} {cg : D → Ev → Option Ev} (h : PE X e (tE X.K ce)) (hg : PG X tg (tSub X.K cg)) (hs : swapsWithSole [tg] e pos.line X.env = pure false) (hw : swappedStores [tg] e X.env = pure none) (h1 : (assignEach [tg] X.env).map (·.2) = [assign tg X.env]) :
    PS X (.Assign [tg] e pos) (tS X.K (fun env => (ce env).bind fun p => (cg p.1.d p.2).map .nx)) := ps_w (ps_asg h hg hs hw h1) fun Dn σ H ⟨g, F, env, o, k, ec, f⟩ => by
  simp only [Option.bind_eq_some_iff, Option.map_eq_some_iff] at ec
  obtain ⟨⟨r, e1⟩, q1, e2, q2, rfl⟩ := ec
  refine ⟨g, F, env, r, e1, k, q1, fun v F' H' k' s hv => ?_⟩
  obtain ⟨F2, k2, s2, d2⟩ := hv.frz k'
  exact ⟨g, F2, e1, r.d, e2, k2, d2, q2, fun σ' F3 H3 k3 s3 => f σ' F3 H3 k3 (s.trans (s2.trans s3))⟩
/-- t1, t2, .. = e1, e2, .. by way of the tuple -/
theorem s_stp {fs : Ev → Option (List D × Ev)} {cg : List D → Ev → Option Ev} {kk k2 n : Nat} {pt pv : Pos} {ts : List Expr} (hc : X.calm = true) (h : PA X es (tAs X.K fs)) (hg : PGs X ts (tSubs X.K cg)) (hn : (assignEach ts X.env).length = n) (hst : (assignEach ts X.env).findIdx? (·.1) = none) (hl : ∀ ds env env', cg ds env = some env' → ds.length = n)
    (hs : swapsWithSole [.Tuple ts kk pt] (.Tuple es k2 pv) pos.line X.env = pure false) (hw : swappedStores [.Tuple ts kk pt] (.Tuple es k2 pv) X.env = pure none) :
    PS X (.Assign [.Tuple ts kk pt] (.Tuple es k2 pv) pos) (tS X.K (fun env => (fs env).bind fun p => if p.1.length ≤ sizeLine then (cg p.1 p.2).map .nx else none)) :=
  ps_w (ps_asg (pe_tup h) (pg_tup hc hg hn hst) hs hw rfl) fun Dn σ H ⟨g, F, env, o, k, ec, f⟩ => by
    simp only [Option.bind_eq_some_iff] at ec
    obtain ⟨⟨ds, e1⟩, q1, q2⟩ := ec
    split at q2
    · rename_i hz
      simp only [Option.map_eq_some_iff] at q2
      obtain ⟨e2, q2, rfl⟩ := q2
      refine ⟨g, F, env, ds, e1, k, q1, fun vs F' H' k' s hv => ⟨by rw [dps_len hv]; exact hz, fun T hT => ?_⟩⟩
      exact ⟨T, vs, rfl, .inl (.inl upd_same), by rw [dps_len hv]; exact hl _ _ _ q2, g, F', e1, ds, e2, k'.alloc hT, hv, q2, fun σ' F2 H2 k2 s2 => f σ' F2 H2 k2 (s.trans s2)⟩
    · cases q2
/-- names set one behind another -/
def tNms : List Nat → TGs
  | [] => gNil
  | i :: is => gCons (gName i) (tNms is)
theorem tNms_read {Q : St → Hp → Prop} {H : Hp} : ∀ {is : List Nat} {vs : List V} {σ : St}, vs.length = is.length → Q (setAll σ is vs) H → tNms is vs σ H Q
  | [], [], σ, _, q => ⟨rfl, q⟩
  | i :: is, v :: vs, σ, h, q => ⟨v, vs, rfl, tNms_read (by simpa using h) q⟩
  | [], v :: vs, σ, h, q => by simp at h
  | i :: is, [], σ, h, q => by simp at h
theorem putNs_len : ∀ {is : List Nat} {rs : List Rs} {env e2 : Ev}, putNs is rs env = some e2 → rs.length = is.length
  | [], [], _, _, _ => rfl
  | i :: is, r :: rs, env, e2, h => by
    simp only [putNs, Option.bind_eq_some_iff] at h
    obtain ⟨e1, _, h⟩ := h
    simp [putNs_len h]
  | [], r :: rs, _, _, h => by simp [putNs] at h
  | i :: is, [], _, _, h => by simp [putNs] at h
theorem par_read {cr : Ev → Option (List Rs × Ev)} {is : List Nat} {Dn : Ends} {σ : St} {H : Hp} (h : tS X.K (fun env => (cr env).bind fun p => (putNs is p.1 p.2).map .nx) Dn σ H) :
    tRs X.K cr σ H fun vs H1 => vs.length = is.length ∧ Dn.nx (setAll σ is vs) H1 ∧ (∀ T o, H1 T = none → Dn.nx (setAll σ is vs) (upd H1 T o)) := by
  obtain ⟨g, F, env, o, k, ec, f⟩ := h
  simp only [Option.bind_eq_some_iff, Option.map_eq_some_iff] at ec
  obtain ⟨⟨rs, e1⟩, q1, e2, q2, rfl⟩ := ec
  refine ⟨g, F, env, rs, e1, k, q1, fun vs F' H' k' s hv => ⟨by rw [hv.len]; exact putNs_len q2, f _ F' H' (k'.putAll hv q2) s, fun T u hT => ?_⟩⟩
  refine f _ F' _ ((k'.putAll hv q2).alloc hT) s
theorem s_par {cr : Ev → Option (List Rs × Ev)} {is : List Nat} {kk k2 : Nat} {pt pv : Pos} {ts : List Expr} (hc : X.calm = true) (hz : is.length ≤ 1000) (h : PA X es (tRs X.K cr)) (hg : PGs X ts (tNms is)) (hn : (assignEach ts X.env).length = is.length) (hst : (assignEach ts X.env).findIdx? (·.1) = none)
    (hs : swapsWithSole [.Tuple ts kk pt] (.Tuple es k2 pv) pos.line X.env = pure false) (hw : swappedStores [.Tuple ts kk pt] (.Tuple es k2 pv) X.env = pure none) :
    PS X (.Assign [.Tuple ts kk pt] (.Tuple es k2 pv) pos) (tS X.K (fun env => (cr env).bind fun p => (putNs is p.1 p.2).map .nx)) :=
  ps_w (ps_asg (pe_tup h) (pg_tup hc hg hn hst) hs hw rfl) fun Dn σ H hh => by
    obtain ⟨g, F, env, rs, e1, k, q1, f⟩ := par_read hh
    refine ⟨g, F, env, rs, e1, k, q1, fun vs F' H' k' s hv => ?_⟩
    obtain ⟨f1, f2, f3⟩ := f vs F' H' k' s hv
    exact ⟨by rw [f1]; exact Nat.le_of_lt (small1000 hz), fun T hT => ⟨T, vs, rfl, .inl (.inl upd_same), f1, tNms_read f1 (f3 T _ hT)⟩⟩
theorem s_par2 {cr : Ev → Option (List Rs × Ev)} {i j : Nat} {kk k2 : Nat} {pt pv px py : Pos} {x y : Str} (hc : X.calm = true) (hN : X.N.Nodup) (hi : X.N[i]? = some x) (hj : X.N[j]? = some y) (hij : i ≠ j) (hx : X.env.scope.names.lookup x = some .local) (hy : X.env.scope.names.lookup y = some .local)
    (h : PA X [a, b] (tRs X.K cr)) (hw : swappedStores [.Tuple [.Name x px, .Name y py] kk pt] (.Tuple [a, b] k2 pv) X.env = pure (some [x, y])) (hs : swapsWithSole [.Tuple [.Name x px, .Name y py] kk pt] (.Tuple [a, b] k2 pv) pos.line X.env = pure false) :
    PS X (.Assign [.Tuple [.Name x px, .Name y py] kk pt] (.Tuple [a, b] k2 pv) pos) (tS X.K (fun env => (cr env).bind fun p => (putNs [i, j] p.1 p.2).map .nx)) :=
  ps_w (ps_par hc hN hi hj hij hx hy h hw hs) fun Dn σ H hh => by
    obtain ⟨g, F, env, rs, e1, k, q1, f⟩ := par_read hh
    refine ⟨g, F, env, rs, e1, k, q1, fun vs F' H' k' s hv => ?_⟩
    obtain ⟨f1, f2, f3⟩ := f vs F' H' k' s hv
    match vs, f1 with
    | [v, w], _ => exact ⟨v, w, rfl, f2⟩
theorem s_par3 {cr : Ev → Option (List Rs × Ev)} {i j l : Nat} {kk k2 : Nat} {pt pv px py pz : Pos} {x y z : Str} (hc : X.calm = true) (hN : X.N.Nodup) (hi : X.N[i]? = some x) (hj : X.N[j]? = some y) (hl : X.N[l]? = some z) (hij : i ≠ j) (hil : i ≠ l) (hjl : j ≠ l)
    (hx : X.env.scope.names.lookup x = some .local) (hy : X.env.scope.names.lookup y = some .local) (hz : X.env.scope.names.lookup z = some .local)
    (h : PA X [a, b, c] (tRs X.K cr)) (hw : swappedStores [.Tuple [.Name x px, .Name y py, .Name z pz] kk pt] (.Tuple [a, b, c] k2 pv) X.env = pure (some [x, y, z])) (hs : swapsWithSole [.Tuple [.Name x px, .Name y py, .Name z pz] kk pt] (.Tuple [a, b, c] k2 pv) pos.line X.env = pure false) :
    PS X (.Assign [.Tuple [.Name x px, .Name y py, .Name z pz] kk pt] (.Tuple [a, b, c] k2 pv) pos) (tS X.K (fun env => (cr env).bind fun p => (putNs [i, j, l] p.1 p.2).map .nx)) :=
  ps_w (ps_par3 hc hN hi hj hl hij hil hjl hx hy hz h hw hs) fun Dn σ H hh => by
    obtain ⟨g, F, env, rs, e1, k, q1, f⟩ := par_read hh
    refine ⟨g, F, env, rs, e1, k, q1, fun vs F' H' k' s hv => ?_⟩
    obtain ⟨f1, f2, f3⟩ := f vs F' H' k' s hv
    match vs, f1 with
    | [u, v, w], _ => exact ⟨u, v, w, rfl, f2⟩
/-! ### name op= value -/
def ResI (K : PySem.W.Frag) (r : R2) (op : D → D → Option D) : Prop := ∀ (g : Gh) (F : Hp) (env : Ev) (σ : St) (H : Hp) (x y : V) (d e d' : D) (Q : VK),
  OK K g F env σ H → Rp K F x d → BRep K F H y e → op d e = some d' → (∀ v, (∀ F, Rp K F v d') → Q v H) → r x y H Q
theorem i_add : ∃ r, OpR X (inplaceOp .Add) r ∧ ResI X.K r (augD .add) := by
  refine ⟨_, iop_add.or iop_add_str, fun g F env σ H x y d e d' Q k bx by' ho f => ?_⟩
  cases d <;> cases e <;> simp only [augD] at ho <;> try (cases ho; done)
  · cases ho; cases bx; cases by'.int
    exact .inl ⟨_, _, rfl, rfl, f _ fun _ => .int _⟩
  · split at ho
    · cases ho; cases bx; cases by'.str
      exact .inr ⟨_, _, rfl, rfl, by assumption, f _ fun _ => .str _⟩
    · cases ho
theorem i_sub : ∃ r, OpR X (inplaceOp .Sub) r ∧ ResI X.K r (augD .sub) := by
  refine ⟨_, iop_sub, fun g F env σ H x y d e d' Q k bx by' ho f => ?_⟩
  cases d <;> cases e <;> simp only [augD] at ho <;> try (cases ho; done)
  cases ho; cases bx; cases by'.int
  exact ⟨_, _, rfl, rfl, f _ fun _ => .int _⟩
theorem i_mul : ∃ r, OpR X (inplaceOp .Mult) r ∧ ResI X.K r (augD .mul) := by
  refine ⟨_, iop_mul, fun g F env σ H x y d e d' Q k bx by' ho f => ?_⟩
  cases d <;> cases e <;> simp only [augD] at ho <;> try (cases ho; done)
  split at ho
  · rename_i h
    cases ho; cases bx; cases by'.int
    refine ⟨_, _, rfl, rfl, ?_, f _ fun _ => .int _⟩
    rcases h with h | h
    · exact .inl (by omega)
    · exact .inr (by omega)
  · cases ho
theorem i_fdiv : ∃ r, OpR X (inplaceOp .FloorDiv) r ∧ ResI X.K r (augD .fdiv) := by
  refine ⟨_, iop_fdivW, fun g F env σ H x y d e d' Q k bx by' ho f => ?_⟩
  cases d <;> cases e <;> simp only [augD] at ho <;> try (cases ho; done)
  split at ho
  · rename_i h
    cases ho; cases bx; cases by'.int
    exact ⟨_, _, rfl, rfl, wide_div (b := 4000) h.1 h.2 (by decide) (by decide), f _ fun _ => .int _⟩
  · cases ho
theorem i_mod : ∃ r, OpR X (inplaceOp .Mod) r ∧ ResI X.K r (augD .mod) := by
  refine ⟨_, iop_mod, fun g F env σ H x y d e d' Q k bx by' ho f => ?_⟩
  cases d <;> cases e <;> simp only [augD] at ho <;> try (cases ho; done)
  split at ho
  · rename_i h
    cases ho; cases bx; cases by'.int
    exact ⟨_, _, rfl, rfl, h, f _ fun _ => .int _⟩
  · cases ho
theorem i_shl : ∃ r, OpR X (inplaceOp .LShift) r ∧ ResI X.K r (augD .shl) := by
  refine ⟨_, iop_shl, fun g F env σ H x y d e d' Q k bx by' ho f => ?_⟩
  cases d <;> cases e <;> simp only [augD] at ho <;> try (cases ho; done)
  split at ho
  · rename_i h
    cases ho; cases bx; cases by'.int
    exact ⟨_, _, rfl, rfl, h, f _ fun _ => .int _⟩
  · cases ho
theorem i_shr : ∃ r, OpR X (inplaceOp .RShift) r ∧ ResI X.K r (augD .shr) := by
  refine ⟨_, iop_shr, fun g F env σ H x y d e d' Q k bx by' ho f => ?_⟩
  cases d <;> cases e <;> simp only [augD] at ho <;> try (cases ho; done)
  split at ho
  · rename_i h
    cases ho; cases bx; cases by'.int
    exact ⟨_, _, rfl, rfl, h, f _ fun _ => .int _⟩
  · cases ho
theorem i_op (op : BOp) : ∃ r, OpR X (inplaceOp (bopOf op)) r ∧ ResI X.K r (augD op) := by
  cases op
  · exact i_add
  · exact i_sub
  · exact i_mul
  · exact i_fdiv
  · exact i_mod
  · exact i_shl
  · exact i_shr
theorem s_aug {iv : Option Nat} {fa : Ev → Option (Rs × Ev)} {i : Nat} {x : Str} {pos' : Pos} (op : BOp) (h : PE X e (tH X.K (opd iv fa))) (hN : X.N.Nodup) (hi : X.N[i]? = some x) (hx : Loc X.env.scope x) (hf : X.fn x = true ∨ X.env.scope.names.lookup x = some .local) :
    PS X (.AugAssign (.Name x pos') (bopOf op) e pos) (tS X.K (fun env => match env[i]? with
      | some (.v x) => op1 iv fa (fun y e2 => (augD op x y).bind fun d => (asgS i (.v d) e2).map .nx) env
      | _ => none)) := by
  obtain ⟨r, h1, h2⟩ := i_op (X := X) op
  refine ps_w (ps_aug hN hi hx h h1 hf) fun Dn σ H ⟨g, F, env, o, k, ec, f⟩ => ?_
  dsimp only at ec
  split at ec
  · rename_i d es
    obtain ⟨hd, e1, y, q1, q2, q3⟩ := op1_some ec
    simp only [Option.bind_eq_some_iff, Option.map_eq_some_iff] at q3
    obtain ⟨d', q3, e2, q4, rfl⟩ := q3
    obtain ⟨v, hv, hdv⟩ := k.slot i _ es
    refine ⟨v, hv, g, F, env, hd, e1, k, q1, fun w F' H' k' s hw => ?_⟩
    exact h2 g F' e1 σ H' v w d y d' _ k' (dp_mono s hdv) (k'.brep hw q2) q3 fun z hz => f _ F' H' (k'.put (r := .v d') (hz F') q4) s
  · cases ec
/-! ### a list grows -/
theorem OK.addL {K : PySem.W.Frag} {g : Gh} {F H : Hp} {env e2 : Ev} {σ : St} {i : Nat} {ws : List V} {ys : List D} (k : OK K g F env σ H) (h : KX.addL i ys env = some e2) (hd : Rps K F ws ys) :
    ∃ a vs, σ[i]? = some (some (.ref a)) ∧ H a = some (.lst vs) ∧ vs.length + ws.length ≤ sizeLine ∧ OK K g F e2 σ (upd H a (.lst (vs ++ ws))) := by
  unfold KX.addL at h
  split at h
  · rename_i xs es
    split at h
    · rename_i hz
      cases h
      obtain ⟨a, e, hj, vs, h1, h2, h3, h4⟩ := k.slot i _ es
      exact ⟨a, vs, e, h1, by rw [dps_len h4, dps_len hd]; exact hz, k.change (.inl ⟨rfl, xs, es⟩) e (dps_append h4 hd)⟩
    · cases h
  · rename_i xs es
    split at h
    · rename_i hz
      cases h
      obtain ⟨a, e, hj, vs, h1, h2, h3, h4⟩ := k.slot i _ es
      exact ⟨a, vs, e, h1, by rw [dps_len h4, dps_len hd]; exact hz, k.change (.inr ⟨rfl, xs, es⟩) e (dps_append h4 hd)⟩
    · cases h
  · cases h
theorem addL_own {env e2 : Ev} {i : Nat} {ys : List D} (h : KX.addL i ys env = some e2) : Own env i := by
  unfold KX.addL at h
  split at h
  · rename_i xs es; exact .inl ⟨xs, es⟩
  · rename_i xs es; exact .inr ⟨xs, es⟩
  · cases h
end
end KX

set_option Elab.async false
set_option linter.all false
set_option maxHeartbeats 1000000
/-! KB10: append, extend; while; for. -/
namespace KX
open PySem PySem.Spec PyProof.Rows L2
theorem ownS_some {α : Type} {i : Nat} {env : Ev} {o : Option α} {r : α} (h : ownS i env o = some r) : Own env i ∧ o = some r := by
  unfold ownS at h
  split at h
  · rename_i xs es; exact ⟨.inl ⟨xs, es⟩, h⟩
  · rename_i xs es; exact ⟨.inr ⟨xs, es⟩, h⟩
  · cases h
section
variable {X : Cx} {e a b c tg iter : Expr} {pos p apos cpos : Pos} {rest es : List Expr} {st : Stmt} {sts : List Stmt}
theorem s_app {i : Nat} {x : Str} {ce : Ev → Option (Rs × Ev)} (h : PE X e (tE X.K ce)) (hv : PE X (.Name x p) (tVar i)) (hline : (apos.endLine == cpos.line) = true) (hs : starEach [e] X.env = [(false, eval e X.env)]) :
    PS X (.Expr (.Call (.Attribute (.Name x p) "append" apos) [e] [] cpos) pos) (tS X.K (fun env => ownS i env ((ce env).bind fun p => (addL i [p.1.d] p.2).map .nx))) := by
  have h1 := ps_expr (pos := pos) (pe_bm (apos := apos) (cpos := cpos) PySem.F.plainAttrs_list PySem.F.slot_list_append PySem.F.type_list_append mt_append hv (pa_one h hs) rfl (by rw [hs]; rfl) hline hs rfl) rfl
  refine ps_w h1 fun Dn σ H ⟨g, F, env, o, k, ec, f⟩ => ?_
  obtain ⟨ow, ec⟩ := ownS_some ec
  simp only [Option.bind_eq_some_iff, Option.map_eq_some_iff] at ec
  obtain ⟨⟨r, e1⟩, q1, e2, q2, rfl⟩ := ec
  obtain ⟨a, vs, hw, hl, _⟩ := k.own ow
  refine ⟨.ref a, hw, .inl ⟨rfl, vs, .inl (.inl hl)⟩, ⟨g, F, env, r, e1, k, q1, fun v F' H' k' s hv' => ?_⟩⟩
  obtain ⟨F2, k2, s2, d2⟩ := hv'.frz k'
  obtain ⟨a', us, z1, z2, z3, z4⟩ := k2.addL (ws := [v]) q2 (.cons d2 .nil)
  rw [hw] at z1; cases z1
  exact ⟨a, us, v, rfl, rfl, z2, z3, f σ F2 _ z4 (s.trans s2)⟩
theorem s_ext {i : Nat} {x : Str} {ce : Ev → Option (Rs × Ev)} (h : PE X e (tE X.K ce)) (hv : PE X (.Name x p) (tVar i)) (hline : (apos.endLine == cpos.line) = true) (hs : starEach [e] X.env = [(false, eval e X.env)]) :
    PS X (.Expr (.Call (.Attribute (.Name x p) "extend" apos) [e] [] cpos) pos) (tS X.K (fun env => ownS i env ((ce env).bind fun p => match p.1 with
      | .o ys => (addL i ys p.2).map .nx
      | _ => none))) := by
  have h1 := ps_expr (pos := pos) (pe_bm (apos := apos) (cpos := cpos) PySem.F.plainAttrs_list PySem.F.slot_list_extend PySem.F.type_list_extend mt_extend hv (pa_one h hs) rfl (by rw [hs]; rfl) hline hs rfl) rfl
  refine ps_w h1 fun Dn σ H ⟨g, F, env, o, k, ec, f⟩ => ?_
  obtain ⟨ow, ec⟩ := ownS_some ec
  simp only [Option.bind_eq_some_iff] at ec
  obtain ⟨⟨r, e1⟩, q1, q2⟩ := ec
  dsimp only at q2
  cases r with
  | v d => cases q2
  | o ys =>
    simp only [Option.map_eq_some_iff] at q2
    obtain ⟨e2, q2, rfl⟩ := q2
    obtain ⟨a, vs, hw, hl, _⟩ := k.own ow
    refine ⟨.ref a, hw, .inl ⟨rfl, vs, .inl (.inl hl)⟩, ⟨g, F, env, .o ys, e1, k, q1, fun v F' H' k' s hv' => ?_⟩⟩
    obtain ⟨b, rfl, _, ⟨ws, w1, w2, w3, w4⟩, _⟩ := hv'
    obtain ⟨a', us, z1, z2, z3, z4⟩ := k'.addL (ws := ws) q2 w4
    rw [hw] at z1; cases z1
    exact ⟨a, b, us, ws, rfl, rfl, z2, w1, z3, f σ F' _ z4 s⟩
/-! ### loops -/
theorem turn_some {o : Option Out} {f : Ev → Option Out} {r : Out} (h : turnO o f = some r) : ∃ o1, o = some o1 ∧ ((∃ e, (o1 = .nx e ∨ o1 = .ct e) ∧ f e = some r) ∨ (∃ e, o1 = .bk e ∧ r = .nx e) ∨ ∃ v e, o1 = .rt v e ∧ r = .rt v e) := by
  simp only [turnO, Option.bind_eq_some_iff] at h
  obtain ⟨o1, h1, h2⟩ := h
  refine ⟨o1, h1, ?_⟩
  cases o1 with
  | nx e => exact .inl ⟨e, .inl rfl, h2⟩
  | ct e => exact .inl ⟨e, .inr rfl, h2⟩
  | bk e => cases h2; exact .inr (.inl ⟨e, rfl, rfl⟩)
  | rt v e => cases h2; exact .inr (.inr ⟨v, e, rfl, rfl⟩)
/-- a turn's end, told by what the next turn wants -/
theorem turn_ok {K : PySem.W.Frag} {g : Gh} {F F1 : Hp} {Dn : Ends} {f : Ev → Option Out} {r : Out} {o1 : Out} {N : St → Hp → Prop} (hr : OutOK K g F Dn r) (s : Same F F1)
    (h : (∃ e, (o1 = .nx e ∨ o1 = .ct e) ∧ f e = some r) ∨ (∃ e, o1 = .bk e ∧ r = .nx e) ∨ ∃ v e, o1 = .rt v e ∧ r = .rt v e)
    (hN : ∀ e σ' F' H', f e = some r → OK K g F' e σ' H' → Same F1 F' → N σ' H') : OutOK K g F1 { Dn with nx := N, ct := N, bk := Dn.nx } o1 := by
  rcases h with ⟨e, rfl | rfl, h⟩ | ⟨e, rfl, rfl⟩ | ⟨v, e, rfl, rfl⟩
  · exact fun σ' F' H' k w => hN e σ' F' H' h k w
  · exact fun σ' F' H' k w => hN e σ' F' H' h k w
  · exact fun σ' F' H' k w => hr σ' F' H' k (s.trans w)
  · exact fun v σ' F' H' k w => hr v σ' F' H' k (s.trans w)
theorem s_whl {cc : Ev → Option (Bool × Ev)} {cb : Ev → Option Out} {n : Nat} (hxe : X.xe = fun _ _ => False) (hc : PT X c (tBo X.K cc)) (hb : PSs X sts (tS X.K cb)) : PS X (.While c sts [] pos) (tS X.K (whl cc cb n)) := by
  refine ps_w (ps_while (by rw [hxe]; exact PassesOwn.never) hc hb) fun Dn σ H ⟨g, F, env, o, k, ec, f⟩ => ?_
  refine ⟨fun m σ H => ∃ F1 env1, OK X.K g F1 env1 σ H ∧ Same F F1 ∧ whl cc cb m env1 = some o, ⟨n, F, env, k, Same.refl _, ec⟩, ?_⟩
  rintro m σ1 H1 ⟨F1, env1, k1, s1, e1⟩
  cases m with
  | zero => cases e1
  | succ m =>
    simp only [whl, Option.bind_eq_some_iff] at e1
    obtain ⟨⟨t, e2⟩, q1, q2⟩ := e1
    refine ⟨g, F1, env1, t, e2, k1, q1, fun F2 H2 k2 s2 => ite_b (fun et => ?_) (fun et => ?_)⟩
    · subst et
      simp only [if_true] at q2
      obtain ⟨o1, q3, q4⟩ := turn_some q2
      refine ⟨fun σ' H' => ∃ F3 e3, OK X.K g F3 e3 σ' H' ∧ Same F F3 ∧ whl cc cb m e3 = some o, fun σ' H' ⟨F3, e3, z1, z2, z3⟩ => ⟨m, Nat.lt_succ_self m, F3, e3, z1, z2, z3⟩, g, F2, e2, o1, k2, q3, ?_⟩
      exact turn_ok f (s1.trans s2) q4 fun e σ' F' H' he k' w => ⟨F', e, k', s1.trans (s2.trans w), he⟩
    · subst et
      simp only [Bool.false_eq_true, if_false, Option.some.injEq] at q2
      subst q2
      exact f σ1 F2 H2 k2 (s1.trans s2)
theorem s_for {ci : Ev → Option (List D × Ev)} {cg : D → Ev → Option Ev} {sl : List Nat} {cb : Ev → Option Out} (hxe : X.xe = fun _ _ => False) (hc : X.calm = true) (hi : PI X tg iter (tIt X.K ci)) (hg : PG X tg (tTg X.K cg sl)) (hb : PSs X sts (tS X.K cb)) (hs : ∀ x, foldedSetIterable iter X.env x = pure x) :
    PS X (.For tg iter sts [] pos) (tS X.K (fun env => (ci env).bind fun p => forl cg cb p.1 p.2)) := by
  refine ps_w (ps_for (by rw [hxe]; exact PassesOwn.never) hc hi hg hb hs) fun Dn σ H ⟨g, F, env, o, k, ec, f⟩ => ?_
  simp only [Option.bind_eq_some_iff] at ec
  obtain ⟨⟨items, e1⟩, h1, h2⟩ := ec
  refine ⟨g, F, env, items, e1, k, h1, fun J F1 H1 k1 s1 jk => ?_⟩
  refine ⟨fun i m σ H => m = items.length - i ∧ i ≤ items.length ∧ ∃ F2 e2, OK X.K g F2 e2 σ H ∧ Same F1 F2 ∧ forl cg cb (items.drop i) e2 = some o, ⟨items.length, by simp, by simp, F1, e1, k1, Same.refl _, h2⟩, ?_⟩
  rintro i m σ2 H2 ⟨rfl, hi, F2, e2, k2, s2, hc⟩
  by_cases hlt : i < items.length
  · refine .inr ⟨jk.go i H2 (s2.trans k2.fH) hlt, fun σ' H' => ∃ F3 e3, OK X.K g F3 e3 σ' H' ∧ Same F1 F3 ∧ forl cg cb (items.drop (i + 1)) e3 = some o, fun σ' H' ⟨F3, e3, z⟩ => ⟨items.length - (i + 1), by omega, rfl, hlt, F3, e3, z⟩, fun x H' hy => ?_⟩
    rw [List.drop_eq_getElem_cons hlt] at hc
    simp only [forl, Option.bind_eq_some_iff] at hc
    obtain ⟨e3, q1, q2⟩ := hc
    obtain ⟨o1, q3, q4⟩ := turn_some q2
    obtain ⟨sH, d, hd, hF⟩ := jk.yld i H2 x H' (s2.trans k2.fH) hlt hy
    rw [List.getElem?_eq_getElem hlt] at hd; cases hd
    obtain ⟨F3, s3, s3H, hx, gr⟩ := hF F2 s2 k2.fH
    refine ⟨g, F3, e2, _, e3, k2.grow s3 s3H sH gr, hx, q1, fun σ' k4 _ => ⟨g, F3, e3, o1, k4, q3, ?_⟩⟩
    exact turn_ok f (s1.trans (s2.trans s3)) q4 fun e σ' F' H' he k' w => ⟨F', e, k', s2.trans (s3.trans w), he⟩
  · have e : i = items.length := by omega
    subst e
    rw [List.drop_length] at hc
    simp only [forl, Option.some.injEq] at hc
    subst hc
    exact .inl ⟨jk.stop _ H2 (s2.trans k2.fH) (Nat.le_refl _), f σ2 F2 H2 k2 (s1.trans s2)⟩
end
end KX

set_option Elab.async false
set_option linter.all false
set_option maxHeartbeats 4000000
/-! KB11: a text's term and the plain language: which is which; the one theorem. -/
namespace KX
open PySem PySem.Spec PyProof.Rows L2
structure FnS where
  name : Str
  np : Nat
  dvs : List D
structure Sg where
  C : CT
  N : List Str
  sc : Scope
  fnm : Str → Bool
  fns : List FnS
  bl : List Str
  cs : List (Str × D)
mutual
def sameD : D → D → Bool
  | .none, .none => true
  | .bool a, .bool b => a == b
  | .int a, .int b => a == b
  | .str a, .str b => decide (a = b)
  | .tuple a, .tuple b => sameDs a b
  | .list a, .list b => sameDs a b
  | _, _ => false
def sameDs : List D → List D → Bool
  | [], [] => true
  | a :: r, b :: s => sameD a b && sameDs r s
  | _, _ => false
end
mutual
theorem sameD_eq : ∀ {a b : D}, sameD a b = true → a = b
  | .none, b, h => by cases b <;> first | rfl | (simp [sameD] at h)
  | .bool a, b, h => by cases b <;> simp [sameD] at h; rw [h]
  | .int a, b, h => by cases b <;> simp [sameD] at h; rw [h]
  | .str a, b, h => by cases b <;> simp [sameD] at h; rw [h]
  | .tuple a, b, h => by cases b <;> simp [sameD] at h; rw [sameDs_eq h]
  | .list a, b, h => by cases b <;> simp [sameD] at h; rw [sameDs_eq h]
  | .dict a, b, h => by cases b <;> simp [sameD] at h
theorem sameDs_eq : ∀ {a b : List D}, sameDs a b = true → a = b
  | [], [], _ => rfl
  | [], _ :: _, h => by simp [sameDs] at h
  | _ :: _, [], h => by simp [sameDs] at h
  | a :: r, b :: s, h => by
    simp only [sameDs, Bool.and_eq_true] at h
    rw [sameD_eq h.1, sameDs_eq h.2]
end
def visC (Γ : Sg) (x : Str) : Bool := match Γ.sc.names.lookup x with
  | some .local => true | some .cell => true | some .free => true | _ => false
def glC (Γ : Sg) (x : Str) : Bool := match Γ.sc.names.lookup x with
  | some .globalImplicit => true | _ => false
def stoC (Γ : Sg) (x : Str) : Bool := match Γ.sc.names.lookup x with
  | some .local => true | some .cell => Γ.fnm x | _ => false
def ndC (x : Str) : Bool := !(x == ("__debug__" : Str)) && !(x == ("__classdict__" : Str)) && !(x == ("__name__" : Str))
def slotC (Γ : Sg) (i : Nat) (x : Str) : Bool := decide (Γ.N[i]? = some x)
def bltC (Γ : Sg) (x : Str) : Bool := glC Γ x && decide (x ∈ Γ.bl) && ndC x
def conC : D → Const → Bool
  | .int i, .int j => i == j
  | .str s, .str t => decide (s = t)
  | .bool b, .bool c => b == c
  | .none, .none => true
  | _, _ => false
def bopC : BOp → Operator → Bool
  | .add, .Add => true | .sub, .Sub => true | .mul, .Mult => true | .fdiv, .FloorDiv => true | .mod, .Mod => true | .shl, .LShift => true | .shr, .RShift => true | _, _ => false
theorem bopC_eq {a : BOp} {b : Operator} (h : bopC a b = true) : b = bopOf a := by cases a <;> cases b <;> first | rfl | (simp [bopC] at h)
def copC : COp → CmpOp → Bool
  | .lt, .Lt => true | .le, .LtE => true | .gt, .Gt => true | .ge, .GtE => true | .eq, .Eq => true | .ne, .NotEq => true | .is_, .Is => true | .isn, .IsNot => true | .inn, .In => true | .nin, .NotIn => true | _, _ => false
theorem copC_eq {a : COp} {b : CmpOp} (h : copC a b = true) : b = copOf a := by cases a <;> cases b <;> first | rfl | (simp [copC] at h)
def b1N : B1 → Str
  | .len => "len" | .abs => "abs" | .int => "int" | .sum => "sum" | .all => "all" | .any => "any" | .tup => "tuple" | .lst => "list" | .sorted => "sorted" | .max => "max" | .min => "min" | .str => "str"
def b2N : B2 → Str
  | .max => "max" | .min => "min"
def lrN (tup : Bool) : Str := if tup then "tuple" else "list"
def isTup : Expr → Bool
  | .Tuple _ _ _ => true
  | _ => false
mutual
def okTg (Γ : Sg) : Tg → Expr → Bool
  | .nm i, .Name x _ => slotC Γ i x && stoC Γ x && ndC x
  | .tup ts, .Tuple es _ _ => okTgs Γ ts es
  | _, _ => false
def okTgs (Γ : Sg) : Tgs → List Expr → Bool
  | .nil, [] => true
  | .cons t ts, e :: es => okTg Γ t e && okTgs Γ ts es
  | _, _ => false
end
def asLen : As → Nat
  | .nil => 0
  | .val _ as => asLen as + 1
  | .io _ as => asLen as + 1
def blkG (Γ : Sg) (scope : Scope) : Sg := { Γ with sc := relS scope Γ.sc, fnm := fun x => scope.names.lookup x == some .cell }
/-- a comprehension's own names with their places -/
def ownP (Γ : Sg) (own : List Nat) : List (Str × Nat) := own.map fun i => ((Γ.N[i]?).getD Str.empty, i)
mutual
def okE (Γ : Sg) : E → Expr → Bool
  | .con d, e => (match e with | .Constant c _ _ => conC d c | _ => false)
  | .var i, e => (match e with | .Name x _ => slotC Γ i x && visC Γ x && ndC x | _ => false)
  | .glo x d, e => (match e with | .Name y _ => decide (x = y) && glC Γ x && ndC x && (match Γ.cs.lookup x with | some d' => sameD d d' | none => false) | _ => false)
  | .bin op a b, e => (match e with | .BinOp a' op' b' _ => bopC op op' && okE Γ a a' && okE Γ b b' | _ => false)
  | .neg a, e => (match e with | .UnaryOp .USub a' _ => okE Γ a a' | _ => false)
  | .not a, e => (match e with | .UnaryOp .Not a' _ => okE Γ a a' | _ => false)
  | .and a b, e => (match e with
    | .BoolOp .And [a', b'] _ => okE Γ a a' && okE Γ b b'
    | .BoolOp .And (a' :: b' :: c' :: r) p => okE Γ a a' && okE Γ b (.BoolOp .And (b' :: c' :: r) p)
    | _ => false)
  | .or a b, e => (match e with
    | .BoolOp .Or [a', b'] _ => okE Γ a a' && okE Γ b b'
    | .BoolOp .Or (a' :: b' :: c' :: r) p => okE Γ a a' && okE Γ b (.BoolOp .Or (b' :: c' :: r) p)
    | _ => false)
  | .ite c a b, e => (match e with | .IfExp c' a' b' _ => okE Γ c c' && okE Γ a a' && okE Γ b b' | _ => false)
  | .cmp op a b, e => (match e with | .Compare a' [op'] [b'] _ => copC op op' && okE Γ a a' && okE Γ b b' | _ => false)
  | .chain p q a b c, e => (match e with | .Compare a' [p', q'] [b', c'] _ => copC p p' && copC q q' && okE Γ a a' && okE Γ b b' && okE Γ c c' | _ => false)
  | .chain3 p q w a b c d, e => (match e with | .Compare a' [p', q', w'] [b', c', d'] _ => copC p p' && copC q q' && copC w w' && okE Γ a a' && okE Γ b b' && okE Γ c c' && okE Γ d d' | _ => false)
  | .tup es, e => (match e with | .Tuple es' _ _ => okEs Γ es es' | _ => false)
  | .lst es, e => (match e with | .List es' _ => okEs Γ es es' | _ => false)
  | .rep es n, e => (match e with | .BinOp (.List es' _) .Mult n' _ => okEs Γ es es' && okE Γ n n' | _ => false)
  | .idx a i, e => (match e with | .Subscript a' i' _ => okE Γ a a' && okE Γ i i' | _ => false)
  | .slice a lo hi, e => (match e with | .Subscript a' (.Slice lo' hi' none _) _ => okE Γ a a' && okO Γ lo lo' && okO Γ hi hi' | _ => false)
  | .rev a, e => (match e with | .Subscript a' (.Slice none none (some (.UnaryOp .USub (.Constant (.int 1) _ _) _)) _) _ => okE Γ a a' | _ => false)
  | .call f as dv, e => (match e with
    | .Call (.Name x _) (e1 :: es) [] _ => (match Γ.fns[f]? with
      | some s => decide (s.name = x) && glC Γ x && ndC x && okAs Γ as (e1 :: es) && decide ((e1 :: es).length ≤ s.np) && decide (s.np ≤ (e1 :: es).length + s.dvs.length) && sameDs dv (s.dvs.drop ((e1 :: es).length + s.dvs.length - s.np))
      | none => false)
    | .Call (.Name x _) [] [] _ => (match Γ.fns[f]? with
      | some s => decide (s.name = x) && glC Γ x && ndC x && okAs Γ as [] && decide (s.np ≤ s.dvs.length) && sameDs dv (s.dvs.drop (s.dvs.length - s.np))
      | none => false)
    | _ => false)
  | .b1 f a, e => (match e with | .Call (.Name x _) [a'] [] _ => decide (x = b1N f) && bltC Γ x && okE Γ a a' | _ => false)
  | .b2 f a b, e => (match e with | .Call (.Name x _) [a', b'] [] _ => decide (x = b2N f) && bltC Γ x && okE Γ a a' && okE Γ b b' | _ => false)
  | .m1 _ _ _, _ => false
  | .isI a t, e => (match e with | .Call (.Name x _) [a', .Name y _] [] _ => decide (x = ("isinstance" : Str)) && bltC Γ x && decide (y = Str.ofString (tyName t)) && bltC Γ y && okE Γ a a' | _ => false)
  | .lrng tup it, e => (match e with
    | .Call (.Name x _) [r] [] _ => decide (x = lrN tup) && bltC Γ x && okRg Γ it r
    | _ => false)
  | .comp elt tg it cond own, e => (match e with
    | .ListComp elt' [⟨tg', iter', ifs', 0⟩] scope _ => blkC Γ.N Γ.sc scope (ownP Γ own) && tg.slots.all (fun i => own.contains i) && okTg (blkG Γ scope) tg tg' && okIt Γ it (isTup tg') iter' && okE (blkG Γ scope) elt elt' && (match cond, ifs' with
      | .none, [] => true
      | .some c, [c'] => okE (blkG Γ scope) c c'
      | _, _ => false)
    | _ => false)
def okEs (Γ : Sg) : Es → List Expr → Bool
  | .nil, es => (match es with | [] => true | _ => false)
  | .cons c cs, es => (match es with | e :: r => okE Γ c e && okEs Γ cs r | _ => false)
def okAs (Γ : Sg) : As → List Expr → Bool
  | .nil, es => (match es with | [] => true | _ => false)
  | .val c cs, es => (match es with | e :: r => okE Γ c e && okAs Γ cs r | _ => false)
  | .io i cs, es => (match es with | (.Name x _) :: r => slotC Γ i x && visC Γ x && ndC x && okAs Γ cs r | _ => false)
def okO (Γ : Sg) : O → Option Expr → Bool
  | .none, o => (match o with | none => true | _ => false)
  | .some c, o => (match o with | some e => okE Γ c e | _ => false)
def okRg (Γ : Sg) : It → Expr → Bool
  | .r1 a, e => (match e with | .Call (.Name y _) [a'] [] _ => decide (y = ("range" : Str)) && bltC Γ y && okE Γ a a' | _ => false)
  | .r2 a b, e => (match e with | .Call (.Name y _) [a', b'] [] _ => decide (y = ("range" : Str)) && bltC Γ y && okE Γ a a' && okE Γ b b' | _ => false)
  | .r3 _ _ _, _ => false
  | .seq _, _ => false
  | .enm _, _ => false
  | .zip _ _, _ => false
  | .zip3 _ _ _, _ => false
def okIt (Γ : Sg) : It → Bool → Expr → Bool
  | .seq c, _, e => okE Γ c e
  | .r1 a, _, e => (match e with | .Call (.Name y _) [a'] [] _ => decide (y = ("range" : Str)) && bltC Γ y && okE Γ a a' | _ => false)
  | .r2 a b, _, e => (match e with | .Call (.Name y _) [a', b'] [] _ => decide (y = ("range" : Str)) && bltC Γ y && okE Γ a a' && okE Γ b b' | _ => false)
  | .r3 a b c, _, e => (match e with | .Call (.Name y _) [a', b', c'] [] _ => decide (y = ("range" : Str)) && bltC Γ y && okE Γ a a' && okE Γ b b' && okE Γ c c' | _ => false)
  | .enm a, tup, e => (match e with | .Call (.Name y _) [a'] [] _ => tup && decide (y = ("enumerate" : Str)) && bltC Γ y && okE Γ a a' | _ => false)
  | .zip a b, tup, e => (match e with | .Call (.Name y _) [a', b'] [] _ => tup && decide (y = ("zip" : Str)) && bltC Γ y && okE Γ a a' && okE Γ b b' | _ => false)
  | .zip3 _ _ _, _, _ => false
end
/-- what is known where a text runs -/
structure GOK (Γ : Sg) (X : Cx) : Prop where
  N : X.N = Γ.N
  nd : Γ.N.Nodup
  calm : X.calm = true
  xe : X.xe = fun _ _ => False
  sc : X.env.scope = Γ.sc
  kind : Γ.sc.kind = .function
  fnm : ∀ x, Γ.fnm x = true → X.fn x = true
  un : X.A.units + 65 < cLine
  bl : ∀ x ∈ Γ.bl, X.mg x = none
  cs : ∀ x d, Γ.cs.lookup x = some d → ∃ u v, X.mg x = some u ∧ RelV v u ∧ ∀ F, Rp X.K F v d
  fn : ∀ j s, Γ.fns[j]? = some s → ∃ k f fd ps, X.mg s.name = some (.ref f) ∧ PySem.W.keepIn X.K (.ref f) = true ∧ FnOk X.prog X.w X.K X.mg X.base CX0 k f fd ps (spF X.K (Γ.C j)) ∧ Room k X.A ∧
    ∀ n, n ≤ s.np → s.np ≤ n + s.dvs.length → ∃ ds dvs, Binds X.K fd ps ds ∧ Vals dvs ds ∧ ∀ F, Rps X.K F dvs (s.dvs.drop (n + s.dvs.length - s.np))
section
variable {Γ : Sg} {X : Cx}
theorem GOK.vis (G : GOK Γ X) {x : Str} (h : visC Γ x = true) : Vis X.env.scope x := by
  unfold visC at h
  unfold Vis
  rw [G.sc]
  split at h <;> simp_all
theorem GOK.gl (G : GOK Γ X) {x : Str} (h : glC Γ x = true) : Gl X x := by
  unfold glC at h
  show X.env.scope.names.lookup x = some .globalImplicit
  rw [G.sc]
  split at h <;> simp_all
theorem GOK.sto (G : GOK Γ X) {x : Str} (h : stoC Γ x = true) : L2.Loc X.env.scope x ∧ (X.fn x = true ∨ X.env.scope.names.lookup x = some .local) := by
  unfold stoC at h
  unfold L2.Loc
  rw [G.sc]
  split at h
  · rename_i q; exact ⟨.inl q, .inr q⟩
  · rename_i q; exact ⟨.inr q, .inl (G.fnm x h)⟩
  · cases h
theorem nd_of {x : Str} (h : ndC x = true) : (x == ("__debug__" : Str)) = false ∧ (x == ("__classdict__" : Str)) = false ∧ x ≠ "__name__" := by
  unfold ndC at h
  simp only [Bool.and_eq_true, Bool.not_eq_true'] at h
  exact ⟨h.1.1, h.1.2, fun e => by subst e; simp at h⟩
theorem GOK.slot (G : GOK Γ X) {i : Nat} {x : Str} (h : slotC Γ i x = true) : X.N[i]? = some x := by
  rw [G.N]; exact of_decide_eq_true h
theorem GOK.var (G : GOK Γ X) {i : Nat} {x : Str} {p : Pos} (h : (slotC Γ i x && visC Γ x && ndC x) = true) : PE X (.Name x p) (tVar i) := by
  simp only [Bool.and_eq_true] at h
  have n := nd_of h.2
  exact pe_var (G.slot h.1.1) (G.vis h.1.2) n.1 n.2.1
structure Blt (X : Cx) (x : Str) : Prop where
  gl : Gl X x
  mg : X.mg x = none
  nn : x ≠ "__name__"
  nd : (x == ("__debug__" : Str)) = false
theorem GOK.blt (G : GOK Γ X) {x : Str} (h : bltC Γ x = true) : Blt X x := by
  unfold bltC at h
  simp only [Bool.and_eq_true, decide_eq_true_eq] at h
  have n := nd_of h.2
  exact ⟨G.gl h.1.1, G.bl x h.1.2, n.2.2, n.1⟩
theorem GOK.pg (G : GOK Γ X) {i : Nat} {x : Str} {p : Pos} (h : (slotC Γ i x && stoC Γ x && ndC x) = true) : PG X (.Name x p) (gName i) := by
  simp only [Bool.and_eq_true] at h
  have s := G.sto h.1.2
  exact pg_name (by rw [G.N]; exact G.nd) (G.slot h.1.1) s.1 s.2
theorem GOK.blk (G : GOK Γ X) {scope : Scope} {ow : List (Str × Nat)} (h : blkC Γ.N Γ.sc scope ow = true) (s : Shared) (H : Hp) (C : Addr) (cl : List (Str × Addr)) (fp : List Addr) : GOK (blkG Γ scope) (X.blk s H scope (compEnvC scope cl C X.env) fp) where
  N := G.N
  nd := G.nd
  calm := G.calm
  xe := rfl
  sc := by
    show relabel scope X.env = relS scope Γ.sc
    rw [← G.sc]
    rfl
  kind := (blkOk_by h).kind
  fnm := fun x h => h
  un := G.un
  bl := G.bl
  cs := G.cs
  fn := G.fn
end
/-! ### forms that are no star -/
def noStar : Expr → Bool
  | .Starred _ _ => false
  | _ => true
theorem star1 {e : Expr} {es : List Expr} {env : Env} (h : noStar e = true) : starEach (e :: es) env = (false, eval e env) :: starEach es env := by
  cases e <;> first | rfl | cases h
theorem stars {pos : Pos} {env : Env} : ∀ {es : List Expr}, es.all noStar = true → (backTo pos (starEach es env)).any (·.1) = false
  | [], _ => rfl
  | e :: es, h => by
    simp only [List.all_cons, Bool.and_eq_true] at h
    rw [star1 h.1]
    show (false || (backTo pos (starEach es env)).any (·.1)) = false
    rw [stars h.2]; rfl
theorem asg1 {e : Expr} {es : List Expr} {env : Env} (h : noStar e = true) : (assignEach (e :: es) env).map (·.2) = assign e env :: (assignEach es env).map (·.2) := by
  cases e <;> first | rfl | cases h
theorem asgLen {env : Env} : ∀ {es : List Expr}, (assignEach es env).length = es.length
  | [] => rfl
  | e :: es => by cases e <;> exact congrArg Nat.succ (asgLen (es := es))
theorem asgNo {env : Env} : ∀ {es : List Expr}, es.all noStar = true → (assignEach es env).findIdx? (·.1) = none
  | [], _ => rfl
  | e :: es, h => by
    simp only [List.all_cons, Bool.and_eq_true] at h
    have ih := asgNo (env := env) (es := es) h.2
    have : ∃ f, assignEach (e :: es) env = (false, f) :: assignEach es env := by cases e <;> first | exact ⟨_, rfl⟩ | cases h.1
    obtain ⟨f, q⟩ := this
    rw [q, List.findIdx?_cons, ih]
    rfl
theorem okE_star {Γ : Sg} {c : E} {e : Expr} (h : okE Γ c e = true) : noStar e = true := by
  cases e <;> first | rfl | (cases c <;> simp [okE] at h)
theorem okEs_star {Γ : Sg} : ∀ {cs : Es} {es : List Expr}, okEs Γ cs es = true → es.all noStar = true
  | .nil, [], _ => rfl
  | .nil, _ :: _, h => by simp [okEs] at h
  | .cons c cs, [], h => by simp [okEs] at h
  | .cons c cs, e :: r, h => by
    simp only [okEs, Bool.and_eq_true] at h
    simp only [List.all_cons, Bool.and_eq_true]
    exact ⟨okE_star h.1, okEs_star h.2⟩
theorem okAs_star {Γ : Sg} : ∀ {cs : As} {es : List Expr}, okAs Γ cs es = true → es.all noStar = true
  | .nil, [], _ => rfl
  | .nil, _ :: _, h => by simp [okAs] at h
  | .val c cs, [], h => by simp [okAs] at h
  | .val c cs, e :: r, h => by
    simp only [okAs, Bool.and_eq_true] at h
    simp only [List.all_cons, Bool.and_eq_true]
    exact ⟨okE_star h.1, okAs_star h.2⟩
  | .io i cs, [], h => by simp [okAs] at h
  | .io i cs, e :: r, h => by
    cases e <;> simp [okAs] at h
    simp only [List.all_cons, Bool.and_eq_true]
    exact ⟨rfl, okAs_star h.2⟩
end KX

set_option Elab.async false
set_option linter.all false
set_option maxHeartbeats 4000000
/-! KB12: expressions: the one theorem. -/
namespace KX
open PySem PySem.Spec PyProof.Rows L2
section
variable {C : CT}
def finT : E → Bool
  | .con _ => true | .glo _ _ => true | .bin _ _ _ => true | .neg _ => true | .tup _ => true | .lst _ => true | .rep _ _ => true | .idx _ _ => true | .slice _ _ _ => true | .rev _ => true
  | .call _ _ _ => true | .b1 _ _ => true | .b2 _ _ _ => true | .m1 _ _ _ => true | .lrng _ _ => true | .comp _ _ _ _ _ => true | .isI _ _ => true
  | _ => false
theorem ev_fin {c : E} {env : Ev} (h : finT c = true) : evX C c true env = fin true (evX C c false env) := by
  cases c <;> first | (simp only [finT] at h; cases h; done) | (simp only [evX, fin]; rfl) | skip
  rename_i a t
  simp only [evX, op1]
  cases opd a.var? (evX C a false) env with
  | none => rfl
  | some p =>
    simp only [Option.bind_eq_bind, Option.bind_some]
    cases p.1.get p.2 with
    | none => rfl
    | some x => rfl
end
theorem tru_plain {e : Expr} {env : Env} (h : ∀ x p, e ≠ .UnaryOp .Not x p) (h2 : ∀ o v p, e ≠ .BoolOp o v p) (h3 : ∀ a b c p, e ≠ .IfExp a b c p) (h4 : ∀ a b c p, e ≠ .Compare a b c p) :
    ∀ whole, isTrue e env whole = (do let v ← whole; standAt e.pos; holding [v] (truthy v)) := by
  intro whole
  cases e <;> first
    | rfl
    | exact absurd rfl (h2 _ _ _)
    | exact absurd rfl (h3 _ _ _ _)
    | exact absurd rfl (h4 _ _ _ _)
    | skip
  rename_i op x p
  cases op <;> first | rfl | exact absurd rfl (h _ _)
theorem fold_plain {e : Expr} {env : Env} (h : ∀ es k p, e ≠ .Set es k p) : ∀ x, foldedSetIterable e env x = pure x := by
  intro x
  cases e <;> first | rfl | exact absurd rfl (h _ _ _)
theorem okE_set {Γ : Sg} {c : E} {e : Expr} (h : okE Γ c e = true) : ∀ es k p, e ≠ .Set es k p := by
  rintro es k p rfl
  cases c <;> simp [okE] at h
theorem okE_slice {Γ : Sg} {c : E} {e : Expr} (h : okE Γ c e = true) : ∀ l u s p, e ≠ .Slice l u s p := by
  rintro es k s p rfl
  cases c <;> simp [okE] at h
theorem okIt_set {Γ : Sg} {c : It} {t : Bool} {e : Expr} (h : okIt Γ c t e = true) : ∀ es k p, e ≠ .Set es k p := by
  rintro es k p rfl
  cases c <;> simp [okIt] at h
  exact okE_set h es k p rfl
theorem plainIx {e : Expr} (h : ∀ l u s p, e ≠ .Slice l u s p) : PlainIx e := by
  intro o i
  cases e <;> first | rfl | exact absurd rfl (h _ _ _ _)
theorem fin_plain {Γ : Sg} {c : E} {e : Expr} {env : Env} (h : okE Γ c e = true) (hf : finT c = true) : ∀ whole, isTrue e env whole = (do let v ← whole; standAt e.pos; holding [v] (truthy v)) := by
  refine tru_plain ?_ ?_ ?_ ?_
  · rintro x p rfl; cases c <;> first | (simp only [finT] at hf; cases hf; done) | simp [okE] at h
  · rintro o v p rfl; cases c <;> first | (simp only [finT] at hf; cases hf; done) | simp [okE] at h
  · rintro a b c' p rfl; cases c <;> first | (simp only [finT] at hf; cases hf; done) | simp [okE] at h
  · rintro a b c' p rfl; cases c <;> first | (simp only [finT] at hf; cases hf; done) | simp [okE] at h
theorem last_of {p q : COp} {b c : Expr} (h : ∀ es k p, c ≠ .Set es k p) : lastMarks [copOf p, copOf q] [b, c] = false := by
  show behindInMarks (copOf q) c = false
  exact behind_of h
section
variable {X : Cx} {Γ : Sg}
theorem sFin {c : E} {e : Expr} (h : okE Γ c e = true) (hf : finT c = true) (hE : PE X e (tE X.K (evX Γ.C c false))) : PT X e (tBo X.K (fun env => asB (evX Γ.C c true env))) := by
  have := n_test hE (fin_plain h hf)
  rwa [show (fun env => asB (evX Γ.C c true env)) = fun env => asB (fin true (evX Γ.C c false env)) from funext fun env => by rw [ev_fin hf]]
theorem sH {c : E} {e : Expr} (h : okE Γ c e = true) (G : GOK Γ X) (hE : PE X e (tE X.K (evX Γ.C c false))) : PE X e (tH X.K (opd c.var? (evX Γ.C c false))) := by
  cases hv : c.var? with
  | none => exact n_opd hE
  | some i =>
    cases c <;> simp only [E.var?] at hv <;> try (cases hv; done)
    cases hv
    simp only [okE] at h
    split at h
    · exact n_varH (G.var h)
    · cases h
theorem con_ok {d : D} {c : Const} {j : Nat} {p : Pos} (h : conC d c = true) : PE X (.Constant c j p) (tE X.K (fun env => some (.v d, env))) := by
  cases d <;> cases c <;> simp [conC] at h
  · exact n_val pe_non fun _ => .non
  · subst h; exact n_val pe_bl fun _ => .bl _
  · subst h; exact n_val pe_int fun _ => .int _
  · subst h; exact n_val pe_str fun _ => .str _
theorem b1_ok (f : B1) (hc : X.calm = true) (B : Blt X (b1N f)) {a : Expr} {p pos : Pos} {iv : Option Nat} {fa : Ev → Option (Rs × Ev)} (ha : PE X a (tH X.K (opd iv fa))) (hs : starEach [a] X.env = [(false, eval a X.env)]) :
    PE X (.Call (.Name (b1N f) p) [a] [] pos) (tE X.K (fun env => op1 iv fa (fun x e => withE e (b1R f x)) env)) := by
  cases f
  · exact call1_w f_len fun r hr => pe_callB hr B.gl B.mg (by decide +kernel) (pa_one ha hs) B.nn B.nd hs rfl
  · exact call1_w f_abs fun r hr => pe_callB hr B.gl B.mg (by decide +kernel) (pa_one ha hs) B.nn B.nd hs rfl
  · exact call1_w f_int fun r hr => pe_callTy hr B.gl B.mg (by decide +kernel) (pa_one ha hs) B.nn B.nd hs rfl
  · exact call1_w (f_sum hc) fun r hr => pe_callB hr B.gl B.mg (by decide +kernel) (pa_one ha hs) B.nn B.nd hs rfl
  · exact call1_w (f_all hc) fun r hr => pe_callB hr B.gl B.mg (by decide +kernel) (pa_one ha hs) B.nn B.nd hs rfl
  · exact call1_w (f_any hc) fun r hr => pe_callB hr B.gl B.mg (by decide +kernel) (pa_one ha hs) B.nn B.nd hs rfl
  · exact call1_w f_tup fun r hr => pe_callTy hr B.gl B.mg (by decide +kernel) (pa_one ha hs) B.nn B.nd hs rfl
  · exact call1_w f_lst fun r hr => pe_callTy hr B.gl B.mg (by decide +kernel) (pa_one ha hs) B.nn B.nd hs rfl
  · exact call1_w f_sorted fun r hr => pe_callB hr B.gl B.mg (by decide +kernel) (pa_one ha hs) B.nn B.nd hs rfl
  · exact call1_w (f_max hc) fun r hr => pe_callB hr B.gl B.mg (by decide +kernel) (pa_one ha hs) B.nn B.nd hs rfl
  · exact call1_w (f_min hc) fun r hr => pe_callB hr B.gl B.mg (by decide +kernel) (pa_one ha hs) B.nn B.nd hs rfl
  · exact call1_w f_str fun r hr => pe_callTy hr B.gl B.mg (by decide +kernel) (pa_one ha hs) B.nn B.nd hs rfl
theorem b2_ok (f : B2) (hc : X.calm = true) (B : Blt X (b2N f)) {a b : Expr} {p pos : Pos} {iv jv : Option Nat} {fa fb : Ev → Option (Rs × Ev)} (ha : PE X a (tH X.K (opd iv fa))) (hb : PE X b (tH X.K (opd jv fb)))
    (hs : starEach [a, b] X.env = (false, eval a X.env) :: starEach [b] X.env) (hs2 : starEach [b] X.env = [(false, eval b X.env)]) :
    PE X (.Call (.Name (b2N f) p) [a, b] [] pos) (tE X.K (fun env => op2 iv fa jv fb (fun x y e => withE e ((b2R f x y).map .v)) env)) := by
  cases f
  · exact call2_w (f_max2 hc) fun r hr => pe_callB hr B.gl B.mg (by decide +kernel) (pa_cons ha (pa_cons hb pa_nil hs2) hs) B.nn B.nd hs (by rw [hs2]; rfl)
  · exact call2_w (f_min2 hc) fun r hr => pe_callB hr B.gl B.mg (by decide +kernel) (pa_cons ha (pa_cons hb pa_nil hs2) hs) B.nn B.nd hs (by rw [hs2]; rfl)
theorem ty_boot (t : Ty) : bootBuiltins (Str.ofString (tyName t)) = some (.type (tyName t)) := by cases t <;> decide +kernel
theorem isi_ok (t : Ty) (B : Blt X "isinstance") (Bt : Blt X (Str.ofString (tyName t))) {a : Expr} {p p2 pos : Pos} {iv : Option Nat} {fa : Ev → Option (Rs × Ev)} (ha : PE X a (tH X.K (opd iv fa))) (hs : starEach [a, .Name (Str.ofString (tyName t)) p2] X.env = (false, eval a X.env) :: starEach [.Name (Str.ofString (tyName t)) p2] X.env) :
    PE X (.Call (.Name "isinstance" p) [a, .Name (Str.ofString (tyName t)) p2] [] pos) (tE X.K (fun env => op1 iv fa (fun x e => some (.v (.bool (isD x t)), e)) env)) := by
  obtain ⟨r, h1, h2⟩ := f_isi (X := X) t
  have hT : PE X (.Name (Str.ofString (tyName t)) p2) (tC (.ty (tyName t))) := pe_bltn Bt.gl Bt.mg (ty_boot t) rfl Bt.nn Bt.nd
  refine pe_w (pe_callB h1 B.gl B.mg (by decide +kernel) (pa_cons ha (pa_cons hT pa_nil rfl) hs) B.nn B.nd hs rfl) fun σ H Q ⟨g, F, env, rr, env', k, ec, f⟩ => ?_
  obtain ⟨hd, e1, x, q1, q2, q3⟩ := op1_some ec
  simp only [Option.some.injEq, Prod.mk.injEq] at q3
  obtain ⟨rfl, rfl⟩ := q3
  exact ⟨g, F, env, hd, _, k, q1, fun v F' H' k' s hv => h2 F' H' v x Q k'.fH (k'.brep hv q2) ((f.mono s).val k' (.bl _))⟩
theorem pts_w {ifs : List Expr} {t t' : TT} (h : PTs X ifs t) (w : ∀ σ H Q, t' σ H Q → t σ H Q) : PTs X ifs t' := ⟨fun pins s σ H Q I hw => h.run pins s σ H Q I (w σ H Q hw)⟩
theorem ptsNone : PTs X [] (tBo X.K (fun e => some (true, e))) := pts_w pts_nil fun σ H Q ⟨g, F, env, b, env', k, ec, f⟩ => by
  cases ec
  exact f F H k (Same.refl _)
theorem ownP_map (own : List Nat) : (ownP Γ own).map (·.2) = own := by
  unfold ownP
  rw [List.map_map]
  exact List.map_id _
/-! ### targets -/
def tsLen : Tgs → Nat
  | .nil => 0
  | .cons _ ts => tsLen ts + 1
theorem bindTs_len : ∀ {ts : Tgs} {ds : List D} {env env' : Ev}, bindTs ts ds env = some env' → ds.length = tsLen ts
  | .nil, [], _, _, _ => rfl
  | .nil, _ :: _, _, _, h => by simp [bindTs] at h
  | .cons t ts, [], _, _, h => by simp [bindTs] at h
  | .cons t ts, d :: ds, env, env', h => by
    simp only [bindTs, Option.bind_eq_some_iff] at h
    obtain ⟨e1, _, h⟩ := h
    simp [tsLen, bindTs_len h]
theorem okTg_star {t : Tg} {e : Expr} (h : okTg Γ t e = true) : noStar e = true := by
  cases e <;> first | rfl | (cases t <;> simp [okTg] at h)
theorem okTgs_star : ∀ {ts : Tgs} {es : List Expr}, okTgs Γ ts es = true → es.all noStar = true ∧ es.length = tsLen ts
  | .nil, [], _ => ⟨rfl, rfl⟩
  | .nil, _ :: _, h => by simp [okTgs] at h
  | .cons t ts, [], h => by simp [okTgs] at h
  | .cons t ts, e :: es, h => by
    simp only [okTgs, Bool.and_eq_true] at h
    have ih := okTgs_star h.2
    exact ⟨by simp only [List.all_cons, Bool.and_eq_true]; exact ⟨okTg_star h.1, ih.1⟩, by simp [tsLen, ih.2]⟩
end
mutual
theorem sTg : ∀ (t : Tg) (e : Expr) (Γ : Sg) (X : Cx), okTg Γ t e = true → GOK Γ X → PG X e (tTg X.K (bindT t) t.slots)
  | .nm i, .Name x p, Γ, X, h, G => by
    rw [show bindT (.nm i) = fun d env => asgS i (.v d) env from funext fun d => funext fun env => by simp only [bindT]]
    exact n_gnm (G.pg (by simpa only [okTg] using h))
  | .tup ts, .Tuple es kk p, Γ, X, h, G => by
    have h : okTgs Γ ts es = true := by simpa only [okTg] using h
    obtain ⟨h1, h2⟩ := okTgs_star h
    rw [show bindT (.tup ts) = fun d env => match d with | .tuple xs => bindTs ts xs env | .list xs => bindTs ts xs env | _ => none from funext fun d => funext fun env => by cases d <;> simp only [bindT]]
    exact n_gtup (pg_tup G.calm (sTgs ts es Γ X h G) asgLen (asgNo h1)) (pg_unl G.calm (sTgs ts es Γ X h G) asgLen (asgNo h1)) fun ds env env' q => by rw [bindTs_len q, h2]
  | .nm i, .BoolOp .., _, _, h, _ => by simp [okTg] at h
  | .nm i, .NamedExpr .., _, _, h, _ => by simp [okTg] at h
  | .nm i, .BinOp .., _, _, h, _ => by simp [okTg] at h
  | .nm i, .UnaryOp .., _, _, h, _ => by simp [okTg] at h
  | .nm i, .Lambda .., _, _, h, _ => by simp [okTg] at h
  | .nm i, .IfExp .., _, _, h, _ => by simp [okTg] at h
  | .nm i, .Dict .., _, _, h, _ => by simp [okTg] at h
  | .nm i, .Set .., _, _, h, _ => by simp [okTg] at h
  | .nm i, .ListComp .., _, _, h, _ => by simp [okTg] at h
  | .nm i, .SetComp .., _, _, h, _ => by simp [okTg] at h
  | .nm i, .DictComp .., _, _, h, _ => by simp [okTg] at h
  | .nm i, .GeneratorExp .., _, _, h, _ => by simp [okTg] at h
  | .nm i, .Await .., _, _, h, _ => by simp [okTg] at h
  | .nm i, .Yield .., _, _, h, _ => by simp [okTg] at h
  | .nm i, .YieldFrom .., _, _, h, _ => by simp [okTg] at h
  | .nm i, .Compare .., _, _, h, _ => by simp [okTg] at h
  | .nm i, .Call .., _, _, h, _ => by simp [okTg] at h
  | .nm i, .FormattedValue .., _, _, h, _ => by simp [okTg] at h
  | .nm i, .JoinedStr .., _, _, h, _ => by simp [okTg] at h
  | .nm i, .Constant .., _, _, h, _ => by simp [okTg] at h
  | .nm i, .Attribute .., _, _, h, _ => by simp [okTg] at h
  | .nm i, .Subscript .., _, _, h, _ => by simp [okTg] at h
  | .nm i, .Starred .., _, _, h, _ => by simp [okTg] at h
  | .nm i, .List .., _, _, h, _ => by simp [okTg] at h
  | .nm i, .Tuple .., _, _, h, _ => by simp [okTg] at h
  | .nm i, .Slice .., _, _, h, _ => by simp [okTg] at h
  | .tup i, .BoolOp .., _, _, h, _ => by simp [okTg] at h
  | .tup i, .NamedExpr .., _, _, h, _ => by simp [okTg] at h
  | .tup i, .BinOp .., _, _, h, _ => by simp [okTg] at h
  | .tup i, .UnaryOp .., _, _, h, _ => by simp [okTg] at h
  | .tup i, .Lambda .., _, _, h, _ => by simp [okTg] at h
  | .tup i, .IfExp .., _, _, h, _ => by simp [okTg] at h
  | .tup i, .Dict .., _, _, h, _ => by simp [okTg] at h
  | .tup i, .Set .., _, _, h, _ => by simp [okTg] at h
  | .tup i, .ListComp .., _, _, h, _ => by simp [okTg] at h
  | .tup i, .SetComp .., _, _, h, _ => by simp [okTg] at h
  | .tup i, .DictComp .., _, _, h, _ => by simp [okTg] at h
  | .tup i, .GeneratorExp .., _, _, h, _ => by simp [okTg] at h
  | .tup i, .Await .., _, _, h, _ => by simp [okTg] at h
  | .tup i, .Yield .., _, _, h, _ => by simp [okTg] at h
  | .tup i, .YieldFrom .., _, _, h, _ => by simp [okTg] at h
  | .tup i, .Compare .., _, _, h, _ => by simp [okTg] at h
  | .tup i, .Call .., _, _, h, _ => by simp [okTg] at h
  | .tup i, .FormattedValue .., _, _, h, _ => by simp [okTg] at h
  | .tup i, .JoinedStr .., _, _, h, _ => by simp [okTg] at h
  | .tup i, .Constant .., _, _, h, _ => by simp [okTg] at h
  | .tup i, .Attribute .., _, _, h, _ => by simp [okTg] at h
  | .tup i, .Subscript .., _, _, h, _ => by simp [okTg] at h
  | .tup i, .Starred .., _, _, h, _ => by simp [okTg] at h
  | .tup i, .List .., _, _, h, _ => by simp [okTg] at h
  | .tup i, .Name .., _, _, h, _ => by simp [okTg] at h
  | .tup i, .Slice .., _, _, h, _ => by simp [okTg] at h
theorem sTgs : ∀ (ts : Tgs) (es : List Expr) (Γ : Sg) (X : Cx), okTgs Γ ts es = true → GOK Γ X → PGs X es (tTgs X.K (bindTs ts) ts.slots)
  | .nil, [], Γ, X, h, G => by
    rw [show bindTs .nil = fun ds env => match ds with | [] => some env | _ => none from funext fun d => funext fun env => by cases d <;> simp only [bindTs]]
    exact n_gnil
  | .nil, _ :: _, _, _, h, _ => by simp [okTgs] at h
  | .cons t ts, [], _, _, h, _ => by simp [okTgs] at h
  | .cons t ts, e :: es, Γ, X, h, G => by
    simp only [okTgs, Bool.and_eq_true] at h
    rw [show bindTs (.cons t ts) = fun ds env => match ds with | [] => none | x :: xs => (bindT t x env).bind (bindTs ts xs) from funext fun d => funext fun env => by cases d <;> simp only [bindTs]]
    exact n_gcons (sTg t e Γ X h.1 G) (sTgs ts es Γ X h.2 G) (asg1 (okTg_star h.1))
end
end KX

set_option Elab.async false
set_option linter.all false
set_option maxHeartbeats 8000000
/-! KB13: expressions: the one theorem, its body. -/
namespace KX
open PySem PySem.Spec PyProof.Rows L2
theorem evs_nil {C : CT} : evEs C .nil = fun env => some ([], env) := funext fun env => by simp only [evEs]
theorem evs_cons {C : CT} {e : E} {es : Es} : evEs C (.cons e es) = fun env => (evX C e false env).bind fun p => (evEs C es p.2).map fun q => (p.1.d :: q.1, q.2) := funext fun env => by simp only [evEs]
theorem eva_nil {C : CT} : evAs C .nil = fun env => some ([], env) := funext fun env => by simp only [evAs]
theorem eva_val {C : CT} {e : E} {es : As} : evAs C (.val e es) = fun env => (evX C e false env).bind fun p => (evAs C es p.2).map fun q => (.inl p.1.d :: q.1, q.2) := funext fun env => by simp only [evAs]
theorem eva_io {C : CT} {i : Nat} {es : As} : evAs C (.io i es) = fun env => baseS i env ((evAs C es env).map fun q => (.inr i :: q.1, q.2)) := funext fun env => by simp only [evAs]
section
variable {X : Cx} {e a b c : Expr} {pos p : Pos} {rest es : List Expr}
theorem n_aio {i : Nat} {fs : Ev → Option (List (Sum D Nat) × Ev)} (ha : PE X a (tVar i)) (hr : PA X rest (tAa X.K fs)) (hs : starEach (a :: rest) X.env = (false, eval a X.env) :: starEach rest X.env) :
    PA X (a :: rest) (tAa X.K (fun env => baseS i env ((fs env).map fun q => (.inr i :: q.1, q.2)))) :=
  pa_w (pa_cons ha hr hs) fun σ H Q ⟨g, F, env, ds, env', k, ec, f⟩ => by
    simp only [baseS, Option.bind_eq_some_iff, Option.map_eq_some_iff] at ec
    obtain ⟨d0, q0, ⟨ds2, e2⟩, h2, h3⟩ := ec
    cases h3
    obtain ⟨v, hv⟩ := slot_val k q0
    exact ⟨v, hv, g, F, env, ds2, _, k, h2, fun vs F3 H3 k3 s3 h3 => f (v :: vs) F3 H3 k3 s3 (.io hv h3)⟩
end
theorem lrN_true : lrN true = "tuple" := rfl
theorem lrN_false : lrN false = "list" := rfl
mutual
theorem sE : ∀ (c : E) (e : Expr) (Γ : Sg) (X : Cx), okE Γ c e = true → GOK Γ X → PE X e (tE X.K (evX Γ.C c false))
  | .con d, e, Γ, X, h, G => by
    rw [show evX Γ.C (.con d) false = fun env => some (.v d, env) from funext fun env => by simp only [evX] <;> rfl]
    simp only [okE] at h
    split at h
    · exact con_ok h
    · cases h
  | .var i, e, Γ, X, h, G => by
    rw [show evX Γ.C (.var i) false = rd i from funext fun env => by simp only [evX] <;> rfl]
    simp only [okE] at h
    split at h
    · exact n_var (G.var h)
    · cases h
  | .glo x d, e, Γ, X, h, G => by
    rw [show evX Γ.C (.glo x d) false = fun env => some (.v d, env) from funext fun env => by simp only [evX] <;> rfl]
    simp only [okE] at h
    split at h
    · simp only [Bool.and_eq_true, decide_eq_true_eq] at h
      obtain ⟨⟨⟨rfl, h1⟩, h2⟩, h3⟩ := h
      split at h3
      · rename_i d' hd
        cases sameD_eq h3
        obtain ⟨u, v, q1, q2, q3⟩ := G.cs _ _ hd
        exact n_val (pe_glob (G.gl h1) q1 q2 (nd_of h2).1) q3
      · cases h3
    · cases h
  | .bin op a b, e, Γ, X, h, G => by
    rw [show evX Γ.C (.bin op a b) false = fun env => op2 a.var? (evX Γ.C a false) b.var? (evX Γ.C b false) (fun x y e => withE e (binR op x y)) env from funext fun env => by simp only [evX] <;> rfl]
    simp only [okE] at h
    split at h
    · simp only [Bool.and_eq_true] at h
      rw [bopC_eq h.1.1]
      exact n_bin op (sH h.1.2 G (sE a _ Γ X h.1.2 G)) (sH h.2 G (sE b _ Γ X h.2 G))
    · cases h
  | .neg a, e, Γ, X, h, G => by
    rw [show evX Γ.C (.neg a) false = fun env => op1 a.var? (evX Γ.C a false) (fun x e => withE e ((D.int? x).map fun i => .v (.int (-i)))) env from funext fun env => by simp only [evX] <;> rfl]
    simp only [okE] at h
    split at h
    · exact n_neg (sH h G (sE a _ Γ X h G))
    · cases h
  | .not a, e, Γ, X, h, G => by
    rw [show evX Γ.C (.not a) false = fun env => op1 a.var? (evX Γ.C a false) (fun x e => (truD x).map fun b => (.v (.bool (!b)), e)) env from funext fun env => by simp only [evX] <;> rfl]
    simp only [okE] at h
    split at h
    · exact n_notV (sH h G (sE a _ Γ X h G))
    · cases h
  | .and a b, e, Γ, X, h, G => by
    rw [show evX Γ.C (.and a b) false = fun env => (evX Γ.C a false env).bind fun p => (truD p.1.d).bind fun c => if c then evX Γ.C b false p.2 else some (.v p.1.d, p.2) from funext fun env => by simp only [evX] <;> rfl]
    simp only [okE] at h
    split at h
    · simp only [Bool.and_eq_true] at h
      exact n_and (sE a _ Γ X h.1 G) (pe_one (sE b _ Γ X h.2 G))
    · simp only [Bool.and_eq_true] at h
      exact n_and (sE a _ Γ X h.1 G) (sE b _ Γ X h.2 G)
    · cases h
  | .or a b, e, Γ, X, h, G => by
    rw [show evX Γ.C (.or a b) false = fun env => (evX Γ.C a false env).bind fun p => (truD p.1.d).bind fun c => if c then some (.v p.1.d, p.2) else evX Γ.C b false p.2 from funext fun env => by simp only [evX] <;> rfl]
    simp only [okE] at h
    split at h
    · simp only [Bool.and_eq_true] at h
      exact n_or (sE a _ Γ X h.1 G) (pe_one (sE b _ Γ X h.2 G))
    · simp only [Bool.and_eq_true] at h
      exact n_or (sE a _ Γ X h.1 G) (sE b _ Γ X h.2 G)
    · cases h
  | .ite c a b, e, Γ, X, h, G => by
    rw [show evX Γ.C (.ite c a b) false = fun env => bindB (asB (evX Γ.C c true env)) (evX Γ.C a false) (evX Γ.C b false) from funext fun env => by simp only [evX]]
    simp only [okE] at h
    split at h
    · simp only [Bool.and_eq_true] at h
      exact n_ite (sT c _ Γ X h.1.1 G) (sE a _ Γ X h.1.2 G) (sE b _ Γ X h.2 G)
    · cases h
  | .cmp op a b, e, Γ, X, h, G => by
    rw [show evX Γ.C (.cmp op a b) false = fun env => op2 a.var? (evX Γ.C a false) b.var? (evX Γ.C b false) (fun x y e => withE e ((cmpD op x y).map fun b => .v (.bool b))) env from funext fun env => by simp only [evX]]
    simp only [okE] at h
    split at h
    · simp only [Bool.and_eq_true] at h
      rw [copC_eq h.1.1]
      exact n_cmp G.un op (sH h.1.2 G (sE a _ Γ X h.1.2 G)) (sH h.2 G (sE b _ Γ X h.2 G)) (okE_set h.2)
    · cases h
  | .chain p q a b c, e, Γ, X, h, G => by
    rw [show evX Γ.C (.chain p q a b c) false = chainE p q a.var? b.var? c.var? (evX Γ.C a false) (evX Γ.C b false) (evX Γ.C c false) from funext fun env => by simp only [evX]]
    simp only [okE] at h
    split at h
    · simp only [Bool.and_eq_true] at h
      rw [copC_eq h.1.1.1.1, copC_eq h.1.1.1.2]
      exact n_chain G.un p q (sH h.1.1.2 G (sE a _ Γ X h.1.1.2 G)) (sH h.1.2 G (sE b _ Γ X h.1.2 G)) (sH h.2 G (sE c _ Γ X h.2 G)) (last_of (okE_set h.2))
    · cases h
  | .chain3 p q w a b c d, e, Γ, X, h, G => by
    rw [show evX Γ.C (.chain3 p q w a b c d) false = chain3E p q w a.var? b.var? c.var? d.var? (evX Γ.C a false) (evX Γ.C b false) (evX Γ.C c false) (evX Γ.C d false) from funext fun env => by simp only [evX]]
    simp only [okE] at h
    split at h
    · rename_i a0 p0 q0 w0 b0 c0 d0 pos0
      simp only [Bool.and_eq_true] at h
      obtain ⟨⟨⟨⟨⟨⟨h1, h2⟩, h3⟩, h4⟩, h5⟩, h6⟩, h7⟩ := h
      rw [copC_eq h1, copC_eq h2, copC_eq h3]
      exact n_chain3 G.un p q w (sH h4 G (sE a _ Γ X h4 G)) (sH h5 G (sE b _ Γ X h5 G)) (sH h6 G (sE c _ Γ X h6 G)) (sH h7 G (sE d _ Γ X h7 G)) (last_of (p := q) (q := w) (b := c0) (okE_set h7))
    · cases h
  | .tup es, e, Γ, X, h, G => by
    rw [show evX Γ.C (.tup es) false = fun env => sizeE (fun xs => .v (.tuple xs)) (evEs Γ.C es env) from funext fun env => by simp only [evX] <;> rfl]
    simp only [okE] at h
    split at h
    · exact n_tup (sEs es _ Γ X h G)
    · cases h
  | .lst es, e, Γ, X, h, G => by
    rw [show evX Γ.C (.lst es) false = fun env => sizeE .o (evEs Γ.C es env) from funext fun env => by simp only [evX] <;> rfl]
    simp only [okE] at h
    split at h
    · exact n_lst (sEs es _ Γ X h G)
    · cases h
  | .rep es n, e, Γ, X, h, G => by
    rw [show evX Γ.C (.rep es n) false = fun env => (evEs Γ.C es env).bind fun p => if p.1.length ≤ sizeLine then op1 n.var? (evX Γ.C n false) (fun y e2 => withE e2 (repR p.1 y)) p.2 else none from funext fun env => by simp only [evX] <;> rfl]
    simp only [okE] at h
    split at h
    · simp only [Bool.and_eq_true] at h
      exact n_rep (sEs es _ Γ X h.1 G) (sH h.2 G (sE n _ Γ X h.2 G))
    · cases h
  | .idx a i, e, Γ, X, h, G => by
    rw [show evX Γ.C (.idx a i) false = fun env => op2 a.var? (evX Γ.C a false) i.var? (evX Γ.C i false) (fun x y e => withE e ((idxD x y).map .v)) env from funext fun env => by simp only [evX] <;> rfl]
    simp only [okE] at h
    split at h
    · simp only [Bool.and_eq_true] at h
      exact n_idx (sH h.1 G (sE a _ Γ X h.1 G)) (sH h.2 G (sE i _ Γ X h.2 G)) (plainIx (okE_slice h.2))
    · cases h
  | .slice a lo hi, e, Γ, X, h, G => by
    rw [show evX Γ.C (.slice a lo hi) false = fun env => (opd a.var? (evX Γ.C a false) env).bind fun p => (evO Γ.C lo p.2).bind fun l => (evO Γ.C hi l.2).bind fun h => (p.1.get h.2).bind fun x => withE h.2 (sliceR x l.1 h.1) from funext fun env => by simp only [evX] <;> rfl]
    simp only [okE] at h
    split at h
    · simp only [Bool.and_eq_true] at h
      exact n_slice (sH h.1.1 G (sE a _ Γ X h.1.1 G)) (sO lo _ Γ X h.1.2 G) (sO hi _ Γ X h.2 G)
    · cases h
  | .rev a, e, Γ, X, h, G => by
    rw [show evX Γ.C (.rev a) false = fun env => op1 a.var? (evX Γ.C a false) (fun x e => withE e (revR x)) env from funext fun env => by simp only [evX] <;> rfl]
    simp only [okE] at h
    split at h
    · exact n_rev (sH h G (sE a _ Γ X h G))
    · cases h
  | .call f as dv, e, Γ, X, h, G => by
    rw [show evX Γ.C (.call f as dv) false = fun env => (evAs Γ.C as env).bind fun p => callE Γ.C f (p.1 ++ dv.map .inl) p.2 from funext fun env => by simp only [evX] <;> rfl]
    simp only [okE] at h
    split at h
    · rename_i x p1 a1 es1 p2
      split at h
      · rename_i s hs
        simp only [Bool.and_eq_true, decide_eq_true_eq] at h
        obtain ⟨⟨⟨⟨⟨⟨rfl, h1⟩, h2⟩, h3⟩, h4⟩, h5⟩, h6⟩ := h
        obtain ⟨k, fa, fd, ps, q1, q2, q3, q4, q5⟩ := G.fn f s hs
        obtain ⟨ds, dvs, w1, w2, w3⟩ := q5 _ h4 h5
        have st := okAs_star h3
        simp only [List.all_cons, Bool.and_eq_true] at st
        exact n_call q3 q4 (G.gl h1) q1 q2 w1 w2 (by rw [sameDs_eq h6]; exact w3) (sAs as _ Γ X h3 G) (nd_of h2).1 (star1 st.1) (stars st.2)
      · cases h
    · rename_i x p1 p2
      split at h
      · rename_i s hs
        simp only [Bool.and_eq_true, decide_eq_true_eq] at h
        obtain ⟨⟨⟨⟨⟨rfl, h1⟩, h2⟩, h3⟩, h5⟩, h6⟩ := h
        obtain ⟨k, fa, fd, ps, q1, q2, q3, q4, q5⟩ := G.fn f s hs
        obtain ⟨ds, dvs, w1, w2, w3⟩ := q5 0 (Nat.zero_le _) (by rw [Nat.zero_add]; exact h5)
        rw [Nat.zero_add] at w3
        have en : as = .nil := by
          cases as with
          | nil => rfl
          | val c r => simp [okAs] at h3
          | io i r => simp [okAs] at h3
        subst en
        rw [show (fun env => (evAs Γ.C .nil env).bind fun p => callE Γ.C f (p.1 ++ dv.map .inl) p.2) = fun env => callE Γ.C f (dv.map .inl) env from by rw [eva_nil]; rfl]
        exact n_call0 q3 q4 (G.gl h1) q1 q2 w1 w2 (by rw [sameDs_eq h6]; exact w3) (nd_of h2).1
      · cases h
    · cases h
  | .b1 f a, e, Γ, X, h, G => by
    rw [show evX Γ.C (.b1 f a) false = fun env => op1 a.var? (evX Γ.C a false) (fun x e => withE e (b1R f x)) env from funext fun env => by simp only [evX] <;> rfl]
    simp only [okE] at h
    split at h
    · simp only [Bool.and_eq_true, decide_eq_true_eq] at h
      obtain ⟨⟨rfl, h1⟩, h2⟩ := h
      exact b1_ok f G.calm (G.blt h1) (sH h2 G (sE a _ Γ X h2 G)) (star1 (okE_star h2))
    · cases h
  | .b2 f a b, e, Γ, X, h, G => by
    rw [show evX Γ.C (.b2 f a b) false = fun env => op2 a.var? (evX Γ.C a false) b.var? (evX Γ.C b false) (fun x y e => withE e ((b2R f x y).map .v)) env from funext fun env => by simp only [evX] <;> rfl]
    simp only [okE] at h
    split at h
    · simp only [Bool.and_eq_true, decide_eq_true_eq] at h
      obtain ⟨⟨⟨rfl, h1⟩, h2⟩, h3⟩ := h
      exact b2_ok f G.calm (G.blt h1) (sH h2 G (sE a _ Γ X h2 G)) (sH h3 G (sE b _ Γ X h3 G)) (star1 (okE_star h2)) (star1 (okE_star h3))
    · cases h
  | .m1 _ _ _, e, Γ, X, h, G => by simp [okE] at h
  | .isI a t, e, Γ, X, h, G => by
    rw [show evX Γ.C (.isI a t) false = fun env => op1 a.var? (evX Γ.C a false) (fun x e => some (.v (.bool (isD x t)), e)) env from funext fun env => by simp only [evX]]
    simp only [okE] at h
    split at h
    · simp only [Bool.and_eq_true, decide_eq_true_eq] at h
      obtain ⟨⟨⟨⟨rfl, h1⟩, rfl⟩, h2⟩, h3⟩ := h
      exact isi_ok t (G.blt h1) (G.blt h2) (sH h3 G (sE a _ Γ X h3 G)) (star1 (okE_star h3))
    · cases h
  | .lrng tup (.r1 a), e, Γ, X, h, G => by
    rw [show evX Γ.C (.lrng tup (.r1 a)) false = fun env => sizeE (fun xs => if tup then .v (.tuple xs) else .o xs) (op1 a.var? (evX Γ.C a false) (fun x e => (D.int? x).bind fun i => (rng2 0 i).map fun xs => (xs, e)) env) from funext fun env => by simp only [evX, evIt]; rfl]
    simp only [okE, okRg] at h
    split at h
    · simp only [Bool.and_eq_true, decide_eq_true_eq] at h
      obtain ⟨⟨rfl, h1⟩, h2⟩ := h
      split at h2
      · simp only [Bool.and_eq_true, decide_eq_true_eq] at h2
        obtain ⟨⟨rfl, h3⟩, h4⟩ := h2
        have B1 := G.blt h1
        have B2 := G.blt h3
        cases tup with
        | true => exact n_lrng1 G.calm true (sH h4 G (sE a _ Γ X h4 G)) B2.gl B2.mg B1.gl B1.mg (star1 (okE_star h4))
        | false => exact n_lrng1 G.calm false (sH h4 G (sE a _ Γ X h4 G)) B2.gl B2.mg B1.gl B1.mg (star1 (okE_star h4))
      · cases h2
    · cases h
  | .lrng tup (.r2 a b), e, Γ, X, h, G => by
    rw [show evX Γ.C (.lrng tup (.r2 a b)) false = fun env => sizeE (fun xs => if tup then .v (.tuple xs) else .o xs) (op2 a.var? (evX Γ.C a false) b.var? (evX Γ.C b false) (fun x y e => (D.int? x).bind fun i => (D.int? y).bind fun j => (rng2 i j).map fun xs => (xs, e)) env) from funext fun env => by simp only [evX, evIt]; rfl]
    simp only [okE, okRg] at h
    split at h
    · simp only [Bool.and_eq_true, decide_eq_true_eq] at h
      obtain ⟨⟨rfl, h1⟩, h2⟩ := h
      split at h2
      · simp only [Bool.and_eq_true, decide_eq_true_eq] at h2
        obtain ⟨⟨⟨rfl, h3⟩, h4⟩, h5⟩ := h2
        have B1 := G.blt h1
        have B2 := G.blt h3
        cases tup with
        | true => exact n_lrng2 G.calm true (sH h4 G (sE a _ Γ X h4 G)) (sH h5 G (sE b _ Γ X h5 G)) B2.gl B2.mg B1.gl B1.mg (star1 (okE_star h4)) (star1 (okE_star h5))
        | false => exact n_lrng2 G.calm false (sH h4 G (sE a _ Γ X h4 G)) (sH h5 G (sE b _ Γ X h5 G)) B2.gl B2.mg B1.gl B1.mg (star1 (okE_star h4)) (star1 (okE_star h5))
      · cases h2
    · cases h
  | .lrng tup (.seq _), e, Γ, X, h, G => by simp only [okE, okRg, Bool.and_false] at h; split at h <;> cases h
  | .lrng tup (.r3 _ _ _), e, Γ, X, h, G => by simp only [okE, okRg, Bool.and_false] at h; split at h <;> cases h
  | .lrng tup (.enm _), e, Γ, X, h, G => by simp only [okE, okRg, Bool.and_false] at h; split at h <;> cases h
  | .lrng tup (.zip _ _), e, Γ, X, h, G => by simp only [okE, okRg, Bool.and_false] at h; split at h <;> cases h
  | .lrng tup (.zip3 _ _ _), e, Γ, X, h, G => by simp only [okE, okRg, Bool.and_false] at h; split at h <;> cases h
  | .comp elt tg it .none own, e, Γ, X, h, G => by
    rw [show evX Γ.C (.comp elt tg it .none own) false = fun env => compE (bindT tg) own (fun e => some (true, e)) (evX Γ.C elt false) (evIt Γ.C it env) from funext fun env => by simp only [evX] <;> rfl]
    unfold okE at h
    split at h
    · rename_i elt' tg' iter' ifs' scope pos
      simp only [Bool.and_eq_true, List.all_eq_true, List.contains_iff_mem] at h
      obtain ⟨⟨⟨⟨⟨h1, h2⟩, h3⟩, h4⟩, h5⟩, h6⟩ := h
      split at h6
      · have := n_comp (X := X) (pos := pos) (ownp := ownP Γ own) (sl := tg.slots) (ct := fun e => some (true, e)) (ce := evX Γ.C elt false) (cg := bindT tg) G.calm (by rw [G.N]; exact G.nd) (sIt it iter' tg' Γ X h4 G) (by rw [G.N, G.sc]; exact blkOk_by h1) (by rw [ownP_map]; exact h2)
          (fun s H C cl fp => sTg tg tg' (blkG Γ scope) _ h3 (G.blk h1 s H C cl fp)) (fun s H C cl fp => ptsNone) (fun s H C cl fp => sE elt elt' (blkG Γ scope) _ h5 (G.blk h1 s H C cl fp)) (fold_plain (okIt_set h4))
        rwa [ownP_map] at this
      · exact absurd ‹O.none = O.some _› (by intro hh; cases hh)
      · cases h6
    · cases h
  | .comp elt tg it (.some c) own, e, Γ, X, h, G => by
    rw [show evX Γ.C (.comp elt tg it (.some c) own) false = fun env => compE (bindT tg) own (fun e => asB (evX Γ.C c true e)) (evX Γ.C elt false) (evIt Γ.C it env) from funext fun env => by simp only [evX] <;> rfl]
    unfold okE at h
    split at h
    · rename_i elt' tg' iter' ifs' scope pos
      simp only [Bool.and_eq_true, List.all_eq_true, List.contains_iff_mem] at h
      obtain ⟨⟨⟨⟨⟨h1, h2⟩, h3⟩, h4⟩, h5⟩, h6⟩ := h
      split at h6
      · exact absurd ‹O.some _ = O.none› (by intro hh; cases hh)
      · rename_i c' hcc
        cases hcc
        have := n_comp (X := X) (pos := pos) (ownp := ownP Γ own) (sl := tg.slots) (ct := fun e => asB (evX Γ.C c true e)) (ce := evX Γ.C elt false) (cg := bindT tg) G.calm (by rw [G.N]; exact G.nd) (sIt it iter' tg' Γ X h4 G) (by rw [G.N, G.sc]; exact blkOk_by h1) (by rw [ownP_map]; exact h2)
          (fun s H C cl fp => sTg tg tg' (blkG Γ scope) _ h3 (G.blk h1 s H C cl fp)) (fun s H C cl fp => pts_one (sT c c' (blkG Γ scope) _ h6 (G.blk h1 s H C cl fp))) (fun s H C cl fp => sE elt elt' (blkG Γ scope) _ h5 (G.blk h1 s H C cl fp)) (fold_plain (okIt_set h4))
        rwa [ownP_map] at this
      · cases h6
    · cases h
theorem sT : ∀ (c : E) (e : Expr) (Γ : Sg) (X : Cx), okE Γ c e = true → GOK Γ X → PT X e (tBo X.K (fun env => asB (evX Γ.C c true env)))
  | .var i, e, Γ, X, h, G => by
    rw [show (fun env => asB (evX Γ.C (.var i) true env)) = fun env => ((slD env[i]?).bind truD).map fun b => (b, env) from funext fun env => by
      simp only [evX, if_true]
      cases (slD env[i]?).bind truD <;> rfl]
    simp only [okE] at h
    split at h
    · exact n_varT (G.var h) fun _ => rfl
    · cases h
  | .not a, e, Γ, X, h, G => by
    rw [show (fun env => asB (evX Γ.C (.not a) true env)) = fun env => ((fun env => asB (evX Γ.C a true env)) env).map fun p => (!p.1, p.2) from funext fun env => by
      simp only [evX, if_true]
      cases asB (evX Γ.C a true env) <;> rfl]
    simp only [okE] at h
    split at h
    · exact n_not (sT a _ Γ X h G)
    · cases h
  | .and a b, e, Γ, X, h, G => by
    rw [show (fun env => asB (evX Γ.C (.and a b) true env)) = fun env => asB (bindB (asB (evX Γ.C a true env)) (evX Γ.C b true) (fun e => some (.v (.bool false), e))) from funext fun env => by simp only [evX, if_true]]
    simp only [okE] at h
    split at h
    · simp only [Bool.and_eq_true] at h
      exact (n_andT (sT a _ Γ X h.1 G) (pw_and1 (sT b _ Γ X h.2 G))).pt
    · simp only [Bool.and_eq_true] at h
      exact (n_andT (sT a _ Γ X h.1 G) (pw_of (sT b _ Γ X h.2 G))).pt
    · cases h
  | .or a b, e, Γ, X, h, G => by
    rw [show (fun env => asB (evX Γ.C (.or a b) true env)) = fun env => asB (bindB (asB (evX Γ.C a true env)) (fun e => some (.v (.bool true), e)) (evX Γ.C b true)) from funext fun env => by simp only [evX, if_true]]
    simp only [okE] at h
    split at h
    · simp only [Bool.and_eq_true] at h
      exact (n_orT (sT a _ Γ X h.1 G) (pw_or1 (sT b _ Γ X h.2 G))).pt
    · simp only [Bool.and_eq_true] at h
      exact (n_orT (sT a _ Γ X h.1 G) (pw_of (sT b _ Γ X h.2 G))).pt
    · cases h
  | .ite c a b, e, Γ, X, h, G => by
    rw [show (fun env => asB (evX Γ.C (.ite c a b) true env)) = fun env => asB (bindB (asB (evX Γ.C c true env)) (evX Γ.C a true) (evX Γ.C b true)) from funext fun env => by simp only [evX]]
    simp only [okE] at h
    split at h
    · simp only [Bool.and_eq_true] at h
      exact n_iteT (sT c _ Γ X h.1.1 G) (sT a _ Γ X h.1.2 G) (sT b _ Γ X h.2 G)
    · cases h
  | .cmp op a b, e, Γ, X, h, G => by
    rw [show (fun env => asB (evX Γ.C (.cmp op a b) true env)) = fun env => asB (op2 a.var? (evX Γ.C a false) b.var? (evX Γ.C b false) (fun x y e => withE e ((cmpD op x y).map fun b => .v (.bool b))) env) from funext fun env => by simp only [evX]]
    simp only [okE] at h
    split at h
    · simp only [Bool.and_eq_true] at h
      rw [copC_eq h.1.1]
      exact n_cmpT G.un op (sH h.1.2 G (sE a _ Γ X h.1.2 G)) (sH h.2 G (sE b _ Γ X h.2 G)) (okE_set h.2)
    · cases h
  | .chain p q a b c, e, Γ, X, h, G => by
    rw [show (fun env => asB (evX Γ.C (.chain p q a b c) true env)) = fun env => asB (chainE p q a.var? b.var? c.var? (evX Γ.C a false) (evX Γ.C b false) (evX Γ.C c false) env) from funext fun env => by simp only [evX]]
    simp only [okE] at h
    split at h
    · simp only [Bool.and_eq_true] at h
      rw [copC_eq h.1.1.1.1, copC_eq h.1.1.1.2]
      exact n_chainT G.un p q (sH h.1.1.2 G (sE a _ Γ X h.1.1.2 G)) (sH h.1.2 G (sE b _ Γ X h.1.2 G)) (sH h.2 G (sE c _ Γ X h.2 G)) (last_of (okE_set h.2))
    · cases h
  | .chain3 p q w a b c d, e, Γ, X, h, G => by
    rw [show (fun env => asB (evX Γ.C (.chain3 p q w a b c d) true env)) = fun env => asB (chain3E p q w a.var? b.var? c.var? d.var? (evX Γ.C a false) (evX Γ.C b false) (evX Γ.C c false) (evX Γ.C d false) env) from funext fun env => by simp only [evX]]
    simp only [okE] at h
    split at h
    · rename_i a0 p0 q0 w0 b0 c0 d0 pos0
      simp only [Bool.and_eq_true] at h
      obtain ⟨⟨⟨⟨⟨⟨h1, h2⟩, h3⟩, h4⟩, h5⟩, h6⟩, h7⟩ := h
      rw [copC_eq h1, copC_eq h2, copC_eq h3]
      exact n_chain3T G.un p q w (sH h4 G (sE a _ Γ X h4 G)) (sH h5 G (sE b _ Γ X h5 G)) (sH h6 G (sE c _ Γ X h6 G)) (sH h7 G (sE d _ Γ X h7 G)) (last_of (p := q) (q := w) (b := c0) (okE_set h7))
    · cases h
  | .con d, e, Γ, X, h, G => sFin h rfl (sE (.con d) e Γ X h G)
  | .glo x d, e, Γ, X, h, G => sFin h rfl (sE (.glo x d) e Γ X h G)
  | .bin op a b, e, Γ, X, h, G => sFin h rfl (sE (.bin op a b) e Γ X h G)
  | .neg a, e, Γ, X, h, G => sFin h rfl (sE (.neg a) e Γ X h G)
  | .tup es, e, Γ, X, h, G => sFin h rfl (sE (.tup es) e Γ X h G)
  | .lst es, e, Γ, X, h, G => sFin h rfl (sE (.lst es) e Γ X h G)
  | .rep es n, e, Γ, X, h, G => sFin h rfl (sE (.rep es n) e Γ X h G)
  | .idx a i, e, Γ, X, h, G => sFin h rfl (sE (.idx a i) e Γ X h G)
  | .slice a lo hi, e, Γ, X, h, G => sFin h rfl (sE (.slice a lo hi) e Γ X h G)
  | .rev a, e, Γ, X, h, G => sFin h rfl (sE (.rev a) e Γ X h G)
  | .call f as dv, e, Γ, X, h, G => sFin h rfl (sE (.call f as dv) e Γ X h G)
  | .b1 f a, e, Γ, X, h, G => sFin h rfl (sE (.b1 f a) e Γ X h G)
  | .b2 f a b, e, Γ, X, h, G => sFin h rfl (sE (.b2 f a b) e Γ X h G)
  | .m1 f a b, e, Γ, X, h, G => by simp [okE] at h
  | .isI a t, e, Γ, X, h, G => sFin h rfl (sE (.isI a t) e Γ X h G)
  | .lrng t it, e, Γ, X, h, G => sFin h rfl (sE (.lrng t it) e Γ X h G)
  | .comp elt tg it cond own, e, Γ, X, h, G => sFin h rfl (sE (.comp elt tg it cond own) e Γ X h G)
theorem sEs : ∀ (cs : Es) (es : List Expr) (Γ : Sg) (X : Cx), okEs Γ cs es = true → GOK Γ X → PA X es (tAs X.K (evEs Γ.C cs))
  | .nil, [], Γ, X, h, G => by rw [evs_nil]; exact n_nil
  | .nil, _ :: _, Γ, X, h, G => by simp [okEs] at h
  | .cons c cs, [], Γ, X, h, G => by simp [okEs] at h
  | .cons c cs, e :: es, Γ, X, h, G => by
    simp only [okEs, Bool.and_eq_true] at h
    rw [evs_cons]
    exact n_cons (sE c e Γ X h.1 G) (sEs cs es Γ X h.2 G) (star1 (okE_star h.1))
theorem sAs : ∀ (cs : As) (es : List Expr) (Γ : Sg) (X : Cx), okAs Γ cs es = true → GOK Γ X → PA X es (tAa X.K (evAs Γ.C cs))
  | .nil, [], Γ, X, h, G => by rw [eva_nil]; exact n_anil
  | .nil, _ :: _, Γ, X, h, G => by simp [okAs] at h
  | .val c cs, [], Γ, X, h, G => by simp [okAs] at h
  | .val c cs, e :: es, Γ, X, h, G => by
    simp only [okAs, Bool.and_eq_true] at h
    rw [eva_val]
    exact n_aval (sE c e Γ X h.1 G) (sAs cs es Γ X h.2 G) (star1 (okE_star h.1))
  | .io i cs, es, Γ, X, h, G => by
    simp only [okAs] at h
    split at h
    · rw [Bool.and_eq_true] at h
      rw [eva_io]
      exact n_aio (G.var h.1) (sAs cs _ Γ X h.2 G) rfl
    · cases h
theorem sO : ∀ (c : O) (o : Option Expr) (Γ : Sg) (X : Cx), okO Γ c o = true → GOK Γ X → PO X o (tOo X.K (evO Γ.C c))
  | .none, none, Γ, X, h, G => by
    rw [show evO Γ.C .none = fun env => some (none, env) from funext fun env => by simp only [evO]]
    exact n_ono
  | .none, some _, Γ, X, h, G => by simp [okO] at h
  | .some c, none, Γ, X, h, G => by simp [okO] at h
  | .some c, some e, Γ, X, h, G => by
    rw [show evO Γ.C (.some c) = fun env => op1 c.var? (evX Γ.C c false) (fun x e => (D.int? x).map fun i => (some i, e)) env from funext fun env => by simp only [evO]]
    simp only [okO] at h
    exact n_oso (sH h G (sE c e Γ X h G))
theorem sIt : ∀ (c : It) (e : Expr) (tg : Expr) (Γ : Sg) (X : Cx), okIt Γ c (isTup tg) e = true → GOK Γ X → PI X tg e (tIt X.K (evIt Γ.C c))
  | .seq c, e, tg, Γ, X, h, G => by
    rw [show evIt Γ.C (.seq c) = fun env => (evX Γ.C c false env).bind fun p => (seqOf p.1.d).map fun xs => (xs, p.2) from funext fun env => by simp only [evIt]]
    simp only [okIt] at h
    exact n_iseq (sE c e Γ X h G)
  | .r1 a, e, tg, Γ, X, h, G => by
    rw [show evIt Γ.C (.r1 a) = fun env => op1 a.var? (evX Γ.C a false) (fun x e => (D.int? x).bind fun i => (rng2 0 i).map fun xs => (xs, e)) env from funext fun env => by simp only [evIt]]
    simp only [okIt] at h
    split at h
    · simp only [Bool.and_eq_true, decide_eq_true_eq] at h
      obtain ⟨⟨rfl, h1⟩, h2⟩ := h
      have B := G.blt h1
      exact n_ir1 (sH h2 G (sE a _ Γ X h2 G)) B.gl B.mg (star1 (okE_star h2))
    · cases h
  | .r2 a b, e, tg, Γ, X, h, G => by
    rw [show evIt Γ.C (.r2 a b) = fun env => op2 a.var? (evX Γ.C a false) b.var? (evX Γ.C b false) (fun x y e => (D.int? x).bind fun i => (D.int? y).bind fun j => (rng2 i j).map fun xs => (xs, e)) env from funext fun env => by simp only [evIt]]
    simp only [okIt] at h
    split at h
    · simp only [Bool.and_eq_true, decide_eq_true_eq] at h
      obtain ⟨⟨⟨rfl, h1⟩, h2⟩, h3⟩ := h
      have B := G.blt h1
      exact n_ir2 (sH h2 G (sE a _ Γ X h2 G)) (sH h3 G (sE b _ Γ X h3 G)) B.gl B.mg (by rw [star1 (okE_star h2), star1 (okE_star h3)]; rfl) (star1 (okE_star h3))
    · cases h
  | .r3 a b c, e, tg, Γ, X, h, G => by
    rw [show evIt Γ.C (.r3 a b c) = fun env => (opd a.var? (evX Γ.C a false) env).bind fun p => op2 b.var? (evX Γ.C b false) c.var? (evX Γ.C c false) (fun y z e =>
      (p.1.get e).bind fun x => (D.int? x).bind fun i => (D.int? y).bind fun j => (D.int? z).bind fun k => (rng3 i j k).map fun xs => (xs, e)) p.2 from funext fun env => by simp only [evIt]]
    simp only [okIt] at h
    split at h
    · simp only [Bool.and_eq_true, decide_eq_true_eq] at h
      obtain ⟨⟨⟨⟨rfl, h1⟩, h2⟩, h3⟩, h4⟩ := h
      have B := G.blt h1
      exact n_ir3 (sH h2 G (sE a _ Γ X h2 G)) (sH h3 G (sE b _ Γ X h3 G)) (sH h4 G (sE c _ Γ X h4 G)) B.gl B.mg (star1 (okE_star h2)) (star1 (okE_star h3)) (star1 (okE_star h4))
    · cases h
  | .enm a, e, tg, Γ, X, h, G => by
    rw [show evIt Γ.C (.enm a) = fun env => (evX Γ.C a false env).bind fun p => match p.1.d with | .list xs => some (enmL 0 xs, p.2) | .tuple xs => some (enmL 0 xs, p.2) | _ => none from funext fun env => by simp only [evIt] <;> rfl]
    simp only [okIt] at h
    split at h
    · simp only [Bool.and_eq_true, decide_eq_true_eq] at h
      obtain ⟨⟨⟨ht, rfl⟩, h1⟩, h2⟩ := h
      have B := G.blt h1
      cases tg <;> simp only [isTup] at ht <;> try (cases ht; done)
      exact n_ienm (sE a _ Γ X h2 G) B.gl B.mg (star1 (okE_star h2))
    · cases h
  | .zip a b, e, tg, Γ, X, h, G => by
    rw [show evIt Γ.C (.zip a b) = fun env => (evX Γ.C a false env).bind fun p => (evX Γ.C b false p.2).bind fun q => match p.1.d, q.1.d with | .list xs, .list ys => some (zipL xs ys, q.2) | .tuple xs, .tuple ys => some (zipL xs ys, q.2) | _, _ => none from funext fun env => by simp only [evIt] <;> rfl]
    simp only [okIt] at h
    split at h
    · simp only [Bool.and_eq_true, decide_eq_true_eq] at h
      obtain ⟨⟨⟨⟨ht, rfl⟩, h1⟩, h2⟩, h3⟩ := h
      have B := G.blt h1
      cases tg <;> simp only [isTup] at ht <;> try (cases ht; done)
      exact n_izip (sE a _ Γ X h2 G) (sE b _ Γ X h3 G) B.gl B.mg (star1 (okE_star h2)) (star1 (okE_star h3))
    · cases h
  | .zip3 _ _ _, e, tg, Γ, X, h, G => by simp [okIt] at h
end
end KX

set_option Elab.async false
set_option linter.all false
set_option maxHeartbeats 4000000
/-! KB14: statements: the checker; the one theorem. -/
namespace KX
open PySem PySem.Spec PyProof.Rows L2
def isLC : Expr → Bool
  | .ListComp _ _ _ _ => true
  | _ => false
def isTupE : Expr → Bool
  | .Tuple _ _ _ => true
  | _ => false
def isStar : Expr → Bool
  | .Starred .. => true
  | _ => false
def nmsE (kd : Str → Option NameKind) (line : Nat) (ts : List Expr) : List Str := ts.filterMap fun
    | .Name id pos => if kd id == some .local && pos.line == line then some id else none
    | _ => none
def nmsP (Γ : Sg) (line : Nat) (ts : List Expr) : List Str := nmsE (fun x => Γ.sc.names.lookup x) line ts
/-- the stores of a display: some none is the plain way, some (some names) the names set from the right -/
def swP (Γ : Sg) (ts vs : List Expr) : Option (Option (List Str)) :=
  if !(ts.length == 2 || ts.length == 3) || vs.length != ts.length then some none
  else if (nmsP Γ ((ts.head?.map (·.pos.line)).getD 0) ts).length != ts.length || (nmsP Γ ((ts.head?.map (·.pos.line)).getD 0) ts).eraseDups.length != (nmsP Γ ((ts.head?.map (·.pos.line)).getD 0) ts).length then some none
  else if vs.all (foldedForSure 8) then some none
  else if vs.all (constantsAlone 8) then none
  else some (some (nmsP Γ ((ts.head?.map (·.pos.line)).getD 0) ts))
theorem swP_ok {Γ : Sg} {ts vs : List Expr} {kk k2 : Nat} {pt pv : Pos} {env : Env} {r : Option (List Str)} (hs : env.scope = Γ.sc) (hk : Γ.sc.kind = .function) (hv : vs.any isStar = false) (h : swP Γ ts vs = some r) :
    swappedStores [.Tuple ts kk pt] (.Tuple vs k2 pv) env = pure r := by
  have hb : env.blockKind = .function := by unfold Env.blockKind; rw [hs, hk]; rfl
  have hkd : env.kindOf = fun x => Γ.sc.names.lookup x := funext fun x => by unfold Env.kindOf; rw [hs]
  unfold swP at h
  have hE : swappedStores [.Tuple ts kk pt] (.Tuple vs k2 pv) env = (
      if !(ts.length == 2 || ts.length == 3) || vs.length != ts.length || env.blockKind != .function then pure none
      else if vs.any isStar then pure none
      else if (nmsE env.kindOf ((ts.head?.map (·.pos.line)).getD 0) ts).length != ts.length || (nmsE env.kindOf ((ts.head?.map (·.pos.line)).getD 0) ts).eraseDups.length != (nmsE env.kindOf ((ts.head?.map (·.pos.line)).getD 0) ts).length then pure none
      else if vs.all (foldedForSure 8) then pure none
      else if vs.all (constantsAlone 8) then (do
        unsupported "assign.tuple-of-constant-expressions:order-of-the-stores"
        pure (some (nmsE env.kindOf ((ts.head?.map (·.pos.line)).getD 0) ts)))
      else pure (some (nmsE env.kindOf ((ts.head?.map (·.pos.line)).getD 0) ts))) := rfl
  rw [hE, hv, hb, hkd]
  unfold nmsP at h
  generalize hnn : nmsE (fun x => Γ.sc.names.lookup x) ((ts.head?.map (·.pos.line)).getD 0) ts = nn at h ⊢
  have e1 : ((ScopeKind.function != ScopeKind.function) = false) := rfl
  rw [e1, Bool.or_false]
  split at h
  · rename_i c; rw [if_pos c]; cases h; rfl
  · rename_i c; rw [if_neg c, if_neg (by decide)]
    split at h
    · rename_i c; rw [if_pos c]; cases h; rfl
    · rename_i c; rw [if_neg c]
      split at h
      · rename_i c; rw [if_pos c]; cases h; rfl
      · rename_i c; rw [if_neg c]
        split at h
        · cases h
        · rename_i c; rw [if_neg c]; cases h; rfl
theorem nostar_all {es : List Expr} (h : es.all noStar = true) : es.any isStar = false := by
  induction es with
  | nil => rfl
  | cons a r ih =>
    simp only [List.all_cons, Bool.and_eq_true] at h
    rw [List.any_cons, ih h.2]
    have := h.1
    cases a <;> first | rfl | cases this
def okNms (Γ : Sg) : List Nat → List Expr → Bool
  | [], [] => true
  | i :: is, .Name x _ :: es => slotC Γ i x && stoC Γ x && ndC x && okNms Γ is es
  | _, _ => false
def okTa (Γ : Sg) : Ta → Expr → Bool
  | .nm i, .Name x _ => slotC Γ i x && stoC Γ x && ndC x
  | .sub i ix, .Subscript (.Name x _) b _ => slotC Γ i x && visC Γ x && ndC x && okE Γ ix b
  | _, _ => false
def okTas (Γ : Sg) : List Ta → List Expr → Bool
  | [], [] => true
  | t :: ts, e :: es => okTa Γ t e && okTas Γ ts es
  | _, _ => false
def locC (Γ : Sg) (x : Str) : Bool := Γ.sc.names.lookup x == some .local
/-- names set from the right: two or three of them -/
def parC (Γ : Sg) (ns : List Str) : List Nat → List Expr → List Expr → Bool
  | [i, j], [.Name x _, .Name y _], [_, _] => decide (ns = [x, y]) && decide (i ≠ j) && locC Γ x && locC Γ y
  | [i, j, l], [.Name x _, .Name y _, .Name z _], [_, _, _] => decide (ns = [x, y, z]) && decide (i ≠ j) && decide (i ≠ l) && decide (j ≠ l) && locC Γ x && locC Γ y && locC Γ z
  | _, _, _ => false
/-- whether a comprehension's value goes to its name without a place of its own -/
def lcC (Γ : Sg) (x : Str) (p : Pos) : Expr → Bool
  | .ListComp _ _ scope pos => Γ.sc.names.lookup x == some .local && p.line == pos.line && !(scope.names.any fun (n, k) => n == x && (k == .local || k == .cell))
  | _ => false
mutual
def okS (Γ : Sg) : S → Stmt → Bool
  | .asg i c, st => (match st with | .Assign [.Name x _] e _ => slotC Γ i x && stoC Γ x && ndC x && okE Γ c e | _ => false)
  | .par is cs, st => (match st with
    | .Assign [.Tuple ts _ _] (.Tuple es _ _) _ => okNms Γ is ts && okEs Γ cs es && decide (is.length ≤ 1000) && (match swP Γ ts es with
      | some none => true
      | some (some ns) => parC Γ ns is ts es
      | none => false)
    | _ => false)
  | .stp tas cs, st => (match st with
    | .Assign [.Tuple ts _ _] (.Tuple es _ _) _ => okTas Γ tas ts && okEs Γ cs es && (match swP Γ ts es with
      | some none => true
      | _ => false)
    | _ => false)
  | .unp t c, st => (match st with | .Assign [.Tuple ts k p] e _ => okTg Γ t (.Tuple ts k p) && okE Γ c e && !isTupE e | _ => false)
  | .aug i op c, st => (match st with | .AugAssign (.Name x _) op' e _ => bopC op op' && slotC Γ i x && stoC Γ x && ndC x && okE Γ c e | _ => false)
  | .st i ix c, st => (match st with | .Assign [.Subscript (.Name x _) b _] e _ => slotC Γ i x && visC Γ x && ndC x && okE Γ ix b && okE Γ c e | _ => false)
  | .augS _ _ _ _, _ => false
  | .app i c, st => (match st with | .Expr (.Call (.Attribute (.Name x _) m apos) [e] [] cpos) _ => decide (m = ("append" : Str)) && (apos.endLine == cpos.line) && (slotC Γ i x && visC Γ x && ndC x) && okE Γ c e | _ => false)
  | .ext i c, st => (match st with | .Expr (.Call (.Attribute (.Name x _) m apos) [e] [] cpos) _ => decide (m = ("extend" : Str)) && (apos.endLine == cpos.line) && (slotC Γ i x && visC Γ x && ndC x) && okE Γ c e | _ => false)
  | .expr c, st => (match st with | .Expr e _ => okE Γ c e && !isLC e | _ => false)
  | .ite c a b, st => (match st with | .If e xs ys _ => okE Γ c e && okSs Γ a xs && okSs Γ b ys | _ => false)
  | .whl c b, st => (match st with | .While e xs [] _ => okE Γ c e && okSs Γ b xs | _ => false)
  | .for_ t it b, st => (match st with | .For tg iter xs [] _ => okTg Γ t tg && okIt Γ it (isTup tg) iter && okSs Γ b xs | _ => false)
  | .ret c, st => (match st with | .Return (some e) _ => okE Γ c e | _ => false)
  | .retN, st => (match st with | .Return none _ => true | _ => false)
  | .pass, st => (match st with | .Pass _ => true | _ => false)
  | .brk, st => (match st with | .Break _ => true | _ => false)
  | .cont, st => (match st with | .Continue _ => true | _ => false)
  | .raise, _ => true
def okSs (Γ : Sg) : Ss → List Stmt → Bool
  | .nil, sts => (match sts with | [] => true | _ => false)
  | .cons s ss, sts => (match sts with | st :: r => okS Γ s st && okSs Γ ss r | _ => false)
end
section
variable {Γ : Sg} {X : Cx}
theorem okNms_len : ∀ {is : List Nat} {ts : List Expr}, okNms Γ is ts = true → ts.length = is.length
  | [], [], _ => rfl
  | i :: is, e :: es, h => by
    cases e <;> simp only [okNms, Bool.and_eq_true] at h <;> try (cases h; done)
    simp [okNms_len h.2]
  | [], _ :: _, h => by simp [okNms] at h
  | _ :: _, [], h => by simp [okNms] at h
theorem okNms_star : ∀ {is : List Nat} {ts : List Expr}, okNms Γ is ts = true → ts.all noStar = true
  | [], [], _ => rfl
  | i :: is, e :: es, h => by
    cases e <;> simp only [okNms, Bool.and_eq_true] at h <;> try (cases h; done)
    simp only [List.all_cons, Bool.and_eq_true]
    exact ⟨rfl, okNms_star h.2⟩
  | [], _ :: _, h => by simp [okNms] at h
  | _ :: _, [], h => by simp [okNms] at h
theorem sNms : ∀ {is : List Nat} {ts : List Expr}, okNms Γ is ts = true → GOK Γ X → PGs X ts (tNms is)
  | [], [], _, _ => pgs_nil
  | i :: is, e :: es, h, G => by
    cases e <;> simp only [okNms, Bool.and_eq_true] at h <;> try (cases h; done)
    exact pgs_cons (G.pg (by simp only [Bool.and_eq_true]; exact h.1)) (sNms h.2 G) (asg1 rfl)
  | [], _ :: _, h, _ => by simp [okNms] at h
  | _ :: _, [], h, _ => by simp [okNms] at h
theorem okTas_len : ∀ {is : List Ta} {ts : List Expr}, okTas Γ is ts = true → ts.length = is.length
  | [], [], _ => rfl
  | i :: is, e :: es, h => by
    simp only [okTas, Bool.and_eq_true] at h
    simp [okTas_len h.2]
  | [], _ :: _, h => by simp [okTas] at h
  | _ :: _, [], h => by simp [okTas] at h
theorem okTa_star {t : Ta} {e : Expr} (h : okTa Γ t e = true) : noStar e = true := by
  cases e <;> first | rfl | (cases t <;> simp [okTa] at h)
theorem okTas_star : ∀ {is : List Ta} {ts : List Expr}, okTas Γ is ts = true → ts.all noStar = true
  | [], [], _ => rfl
  | i :: is, e :: es, h => by
    simp only [okTas, Bool.and_eq_true] at h
    simp only [List.all_cons, Bool.and_eq_true]
    exact ⟨okTa_star h.1, okTas_star h.2⟩
  | [], _ :: _, h => by simp [okTas] at h
  | _ :: _, [], h => by simp [okTas] at h
theorem putTas_len {C : CT} : ∀ {ts : List Ta} {ds : List D} {env e2 : Ev}, putTas C ts ds env = some e2 → ds.length = ts.length
  | [], [], _, _, _ => rfl
  | i :: is, r :: rs, env, e2, h => by
    simp only [putTas, Option.bind_eq_some_iff] at h
    obtain ⟨e1, _, h⟩ := h
    simp [putTas_len h]
  | [], r :: rs, _, _, h => by simp [putTas] at h
  | i :: is, [], _, _, h => by simp [putTas] at h
theorem sTa {t : Ta} {e : Expr} (h : okTa Γ t e = true) (G : GOK Γ X) : PG X e (tSub X.K (putTa Γ.C t)) := by
  cases t with
  | nm i =>
    cases e <;> simp only [okTa] at h <;> try (cases h; done)
    exact n_gnmS (G.pg h)
  | sub i ix =>
    cases e <;> simp only [okTa] at h <;> try (cases h; done)
    rename_i o b p
    cases o <;> simp only [okTa] at h <;> try (cases h; done)
    simp only [Bool.and_eq_true] at h
    exact n_gsub (G.var (by simp only [Bool.and_eq_true]; exact h.1)) (sH h.2 G (sE ix _ Γ X h.2 G)) (okE_slice h.2)
theorem sTas : ∀ {is : List Ta} {ts : List Expr}, okTas Γ is ts = true → GOK Γ X → PGs X ts (tSubs X.K (putTas Γ.C is))
  | [], [], _, _ => by
    rw [show putTas Γ.C [] = (fun ds env => match ds with | [] => some env | _ => none) from funext fun ds => funext fun env => by cases ds <;> rfl]
    exact n_snil
  | i :: is, e :: es, h, G => by
    simp only [okTas, Bool.and_eq_true] at h
    rw [show putTas Γ.C (i :: is) = (fun ds env => match ds with | [] => none | x :: xs => (putTa Γ.C i x env).bind (putTas Γ.C is xs)) from funext fun ds => funext fun env => by cases ds <;> rfl]
    exact n_scons (sTa h.1 G) (sTas h.2 G) (asg1 (okTa_star h.1))
  | [], _ :: _, h, _ => by simp [okTas] at h
  | _ :: _, [], h, _ => by simp [okTas] at h
theorem sRs : ∀ (cs : Es) (es : List Expr), okEs Γ cs es = true → GOK Γ X → PA X es (tRs X.K (evRs Γ.C cs))
  | .nil, es, h, G => by
    cases es <;> simp only [okEs] at h <;> try (cases h; done)
    rw [show evRs Γ.C .nil = fun env => some ([], env) from funext fun env => by simp only [evRs]]
    exact n_rnil
  | .cons c cs, es, h, G => by
    cases es <;> simp only [okEs] at h <;> try (cases h; done)
    simp only [Bool.and_eq_true] at h
    rw [show evRs Γ.C (.cons c cs) = fun env => (evX Γ.C c false env).bind fun p => (evRs Γ.C cs p.2).map fun q => (p.1 :: q.1, q.2) from funext fun env => by simp only [evRs]]
    exact n_rcons (sE c _ Γ X h.1 G) (sRs cs _ h.2 G) (star1 (okE_star h.1))
theorem sw_no {e : Expr} {t : Option Expr} {l : Nat} {env : Env} (h : isLC e = false) (h2 : ∀ Γ c, okE Γ c e = true → True) {Γ : Sg} {c : E} (h3 : okE Γ c e = true) : swapsWith e t l env = pure false := by
  cases e <;> first | rfl | (cases h; done) | (cases c <;> simp [okE] at h3; done)
theorem sw_tup {e : Expr} {ts : List Expr} {k : Nat} {p : Pos} {l : Nat} {env : Env} : swapsWithSole [.Tuple ts k p] e l env = pure false := by
  cases e <;> rfl
theorem sw_sub {e a b : Expr} {p : Pos} {l : Nat} {env : Env} : swapsWithSole [.Subscript a b p] e l env = pure false := by
  cases e <;> rfl
theorem ss_tup {e : Expr} {ts : List Expr} {k : Nat} {p : Pos} {env : Env} (h : isTupE e = false) : swappedStores [.Tuple ts k p] e env = pure none := by
  cases e <;> first | rfl | cases h
theorem sw_lc {elt : Expr} {gs : List Comprehension} {scope : Scope} {pos p : Pos} {x : Str} {l : Nat} {env : Env} (hs : env.scope = Γ.sc) (hk : Γ.sc.kind = .function) :
    swapsWith (.ListComp elt gs scope pos) (some (.Name x p)) l env = pure (lcC Γ x p (.ListComp elt gs scope pos)) := by
  have hb : env.blockKind = .function := by unfold Env.blockKind; rw [hs, hk]; rfl
  have hkd : env.kindOf = fun x => Γ.sc.names.lookup x := funext fun x => by unfold Env.kindOf; rw [hs]
  unfold swapsWith lcC
  dsimp only
  rw [hb, hkd]
  rfl
theorem par_swp {ns : List Str} {is : List Nat} {ts es : List Expr} {cs : Es} {k k2 : Nat} {pt pv pos : Pos} (G : GOK Γ X) (h1 : okNms Γ is ts = true) (h2 : okEs Γ cs es = true) (h : parC Γ ns is ts es = true) (hw : swappedStores [.Tuple ts k pt] (.Tuple es k2 pv) X.env = pure (some ns)) :
    PS X (.Assign [.Tuple ts k pt] (.Tuple es k2 pv) pos) (tS X.K (evS Γ.C (.par is cs))) := by
  rw [show evS Γ.C (.par is cs) = fun env => (evRs Γ.C cs env).bind fun p => (putNs is p.1 p.2).map .nx from funext fun env => by simp only [evS]]
  have lo : ∀ {x : Str}, locC Γ x = true → X.env.scope.names.lookup x = some .local := fun h => by rw [G.sc]; exact beq_iff_eq.mp h
  unfold parC at h
  split at h
  · simp only [Bool.and_eq_true, decide_eq_true_eq] at h
    simp only [okNms, Bool.and_eq_true] at h1
    obtain ⟨⟨⟨rfl, hij⟩, hx⟩, hy⟩ := h
    exact s_par2 G.calm (by rw [G.N]; exact G.nd) (G.slot h1.1.1.1) (G.slot h1.2.1.1.1) hij (lo hx) (lo hy) (sRs cs _ h2 G) hw sw_tup
  · simp only [Bool.and_eq_true, decide_eq_true_eq] at h
    simp only [okNms, Bool.and_eq_true] at h1
    obtain ⟨⟨⟨⟨⟨⟨rfl, hij⟩, hil⟩, hjl⟩, hx⟩, hy⟩, hz⟩ := h
    exact s_par3 G.calm (by rw [G.N]; exact G.nd) (G.slot h1.1.1.1) (G.slot h1.2.1.1.1) (G.slot h1.2.2.1.1.1) hij hil hjl (lo hx) (lo hy) (lo hz) (sRs cs _ h2 G) hw sw_tup
  · cases h
theorem s_asgLC {i : Nat} {x : Str} {p pos lp : Pos} {c : E} {elt : Expr} {gs : List Comprehension} {scope : Scope} (G : GOK Γ X) (hi : slotC Γ i x = true) (h : okE Γ c (.ListComp elt gs scope lp) = true) (hf : lcC Γ x p (.ListComp elt gs scope lp) = true) :
    PS X (.Assign [.Name x p] (.ListComp elt gs scope lp) pos) (tS X.K (fun env => (evX Γ.C c false env).bind fun p => (asgS i p.1.sl p.2).map .nx)) := by
  have hsw : swapsWith (.ListComp elt gs scope lp) (some (.Name x p)) pos.line X.env = pure true := by rw [sw_lc G.sc G.kind, hf]
  have hx : X.env.scope.names.lookup x = some .local := by
    simp only [lcC, Bool.and_eq_true] at hf
    rw [G.sc]; exact beq_iff_eq.mp hf.1.1
  have hN : X.N.Nodup := by rw [G.N]; exact G.nd
  cases c <;> try (simp [okE] at h; done)
  rename_i c0 tg it cond own
  unfold okE at h
  split at h
  · rename_i elt' tg' iter' ifs' sc' lp' he
    cases he
    simp only [Bool.and_eq_true, List.all_eq_true, List.contains_iff_mem] at h
    obtain ⟨⟨⟨⟨⟨h1, h2⟩, h3⟩, h4⟩, h5⟩, h6⟩ := h
    have hb : BlkOk X.N X.env.scope scope (ownP Γ own) := by rw [G.N, G.sc]; exact blkOk_by h1
    cases cond with
    | none =>
      rw [show evX Γ.C (.comp c0 tg it .none own) false = fun env => compE (bindT tg) own (fun e => some (true, e)) (evX Γ.C c0 false) (evIt Γ.C it env) from funext fun env => by simp only [evX] <;> rfl]
      cases ifs' with
      | nil =>
        refine ps_w (ps_setLc (tt := tBo X.K (fun e => some (true, e))) (te := tE X.K (evX Γ.C c0 false)) (g := tTg X.K (bindT tg) tg.slots) (wi := tIt X.K (evIt Γ.C it)) G.calm hN (G.slot hi) hx hsw (sIt it iter' tg' Γ X h4 G) hb
          (fun s H C cl fp => sTg tg tg' (blkG Γ scope) _ h3 (G.blk h1 s H C cl fp)) (fun s H C cl fp => ptsNone) (fun s H C cl fp => sE c0 elt (blkG Γ scope) _ h5 (G.blk h1 s H C cl fp)) (fold_plain (okIt_set h4))) ?_
        rw [ownP_map]
        exact asg_read fun σ H Q q => comp_read h2 q
      | cons a r => cases h6
    | some c =>
      rw [show evX Γ.C (.comp c0 tg it (.some c) own) false = fun env => compE (bindT tg) own (fun e => asB (evX Γ.C c true e)) (evX Γ.C c0 false) (evIt Γ.C it env) from funext fun env => by simp only [evX] <;> rfl]
      match ifs', h6 with
      | [c'], h6 =>
        refine ps_w (ps_setLc (tt := tBo X.K (fun e => asB (evX Γ.C c true e))) (te := tE X.K (evX Γ.C c0 false)) (g := tTg X.K (bindT tg) tg.slots) (wi := tIt X.K (evIt Γ.C it)) G.calm hN (G.slot hi) hx hsw (sIt it iter' tg' Γ X h4 G) hb
          (fun s H C cl fp => sTg tg tg' (blkG Γ scope) _ h3 (G.blk h1 s H C cl fp)) (fun s H C cl fp => pts_one (sT c c' (blkG Γ scope) _ h6 (G.blk h1 s H C cl fp))) (fun s H C cl fp => sE c0 elt (blkG Γ scope) _ h5 (G.blk h1 s H C cl fp)) (fold_plain (okIt_set h4))) ?_
        rw [ownP_map]
        exact asg_read fun σ H Q q => comp_read h2 q
  · cases h
end
theorem st_comm {i : Nat} {o : Ev → Option (Rs × Ev)} {f : D → Ev → Option Ev} : (fun env => (o env).bind fun p => (baseS i p.2 (f p.1.d p.2)).map Out.nx) = fun env => (o env).bind fun p => baseS i p.2 ((f p.1.d p.2).map Out.nx) := by
  funext env
  cases o env with
  | none => rfl
  | some p =>
    show (baseS i p.2 (f p.1.d p.2)).map Out.nx = baseS i p.2 ((f p.1.d p.2).map Out.nx)
    unfold baseS
    cases slD p.2[i]? <;> rfl
theorem op1_map {α β : Type} {iv : Option Nat} {f : Ev → Option (Rs × Ev)} {k : D → Ev → Option α} {g : α → β} {env : Ev} : (op1 iv f k env).map g = op1 iv f (fun x e => (k x e).map g) env := by
  unfold op1
  cases opd iv f env with
  | none => rfl
  | some p =>
    obtain ⟨h, e1⟩ := p
    show ((h.get e1).bind fun x => k x e1).map g = (h.get e1).bind fun x => (k x e1).map g
    cases h.get e1 <;> rfl
mutual
theorem sS : ∀ (s : S) (st : Stmt) (Γ : Sg) (X : Cx), okS Γ s st = true → GOK Γ X → PS X st (tS X.K (evS Γ.C s))
  | .asg i c, st, Γ, X, h, G => by
    rw [show evS Γ.C (.asg i c) = fun env => (evX Γ.C c false env).bind fun p => (asgS i p.1.sl p.2).map .nx from funext fun env => by simp only [evS]]
    simp only [okS] at h
    split at h
    · rename_i x p e pos
      simp only [Bool.and_eq_true] at h
      obtain ⟨⟨⟨h1, h2⟩, h3⟩, h4⟩ := h
      have so := G.sto h2
      have hN : X.N.Nodup := by rw [G.N]; exact G.nd
      by_cases hl : isLC e = true
      · cases e <;> simp only [isLC] at hl <;> try (cases hl; done)
        rename_i elt gs scope lp
        by_cases hf : lcC Γ x p (.ListComp elt gs scope lp) = true
        · exact s_asgLC G h1 h4 hf
        · exact s_asg (sE c _ Γ X h4 G) hN (G.slot h1) so.1 (by rw [sw_lc G.sc G.kind, Bool.eq_false_iff.mpr hf]) so.2
      · exact s_asg (sE c _ Γ X h4 G) hN (G.slot h1) so.1 (sw_no (Bool.eq_false_iff.mpr hl) (fun _ _ _ => trivial) h4) so.2
    · cases h
  | .par is cs, st, Γ, X, h, G => by
    simp only [okS] at h
    split at h
    · rename_i ts k pt es k2 pv pos
      simp only [Bool.and_eq_true, decide_eq_true_eq] at h
      obtain ⟨⟨⟨h1, h2⟩, h3⟩, h4⟩ := h
      have ns := nostar_all (okEs_star h2)
      split at h4
      · rename_i hsw
        rw [show evS Γ.C (.par is cs) = fun env => (evRs Γ.C cs env).bind fun p => (putNs is p.1 p.2).map .nx from funext fun env => by simp only [evS]]
        exact s_par G.calm h3 (sRs cs _ h2 G) (sNms h1 G) (by rw [asgLen, okNms_len h1]) (asgNo (okNms_star h1)) sw_tup (swP_ok G.sc G.kind ns hsw)
      · rename_i nn hsw
        exact par_swp G h1 h2 h4 (swP_ok G.sc G.kind ns hsw)
      · cases h4
    · cases h
  | .stp tas cs, st, Γ, X, h, G => by
    rw [show evS Γ.C (.stp tas cs) = fun env => (evEs Γ.C cs env).bind fun p => if p.1.length ≤ sizeLine then (putTas Γ.C tas p.1 p.2).map .nx else none from funext fun env => by simp only [evS]]
    simp only [okS] at h
    split at h
    · rename_i ts k pt es k2 pv pos
      simp only [Bool.and_eq_true, decide_eq_true_eq] at h
      obtain ⟨⟨h1, h2⟩, h4⟩ := h
      have ns := nostar_all (okEs_star h2)
      split at h4
      · rename_i hsw
        exact s_stp G.calm (sEs cs _ Γ X h2 G) (sTas h1 G) (by rw [asgLen, okTas_len h1]) (asgNo (okTas_star h1)) (fun ds env env' q => putTas_len q) sw_tup (swP_ok G.sc G.kind ns hsw)
      · cases h4
    · cases h
  | .unp t c, st, Γ, X, h, G => by
    rw [show evS Γ.C (.unp t c) = fun env => (evX Γ.C c false env).bind fun p => (bindT t p.1.d p.2).map .nx from funext fun env => by simp only [evS]]
    simp only [okS] at h
    split at h
    · simp only [Bool.and_eq_true, Bool.not_eq_true'] at h
      exact s_asgTg (sE c _ Γ X h.1.2 G) (sTg t _ Γ X h.1.1 G) sw_tup (ss_tup h.2) rfl
    · cases h
  | .aug i op c, st, Γ, X, h, G => by
    rw [show evS Γ.C (.aug i op c) = fun env => match env[i]? with | some (.v x) => op1 c.var? (evX Γ.C c false) (fun y e2 => (augD op x y).bind fun d => (asgS i (.v d) e2).map .nx) env | _ => none from funext fun env => by simp only [evS] <;> rfl]
    simp only [okS] at h
    split at h
    · simp only [Bool.and_eq_true] at h
      obtain ⟨⟨⟨⟨h1, h2⟩, h3⟩, h4⟩, h5⟩ := h
      have so := G.sto h3
      rw [bopC_eq h1]
      exact s_aug op (sH h5 G (sE c _ Γ X h5 G)) (by rw [G.N]; exact G.nd) (G.slot h2) so.1 so.2
    · cases h
  | .st i ix c, st, Γ, X, h, G => by
    rw [show evS Γ.C (.st i ix c) = fun env => (evX Γ.C c false env).bind fun p => (baseS i p.2 (op1 ix.var? (evX Γ.C ix false) (fun x e2 => (D.int? x).bind fun k => putIx i k p.1.d e2) p.2)).map .nx from by
      rw [st_comm (f := fun d e => op1 ix.var? (evX Γ.C ix false) (fun x e2 => (D.int? x).bind fun k => putIx i k d e2) e)]
      funext env; simp only [evS]]
    simp only [okS] at h
    split at h
    · simp only [Bool.and_eq_true] at h
      obtain ⟨⟨h1, h2⟩, h3⟩ := h
      exact s_st (cg := fun d env => baseS i env (op1 ix.var? (evX Γ.C ix false) (fun x e => (D.int? x).bind fun n => KX.putIx i n d e) env)) (sE c _ Γ X h3 G) (n_gsub (G.var (by simp only [Bool.and_eq_true]; exact h1)) (sH h2 G (sE ix _ Γ X h2 G)) (okE_slice h2)) sw_sub (by rfl) rfl
    · cases h
  | .augS _ _ _ _, _, Γ, X, h, G => by simp [okS] at h
  | .app i c, st, Γ, X, h, G => by
    rw [show evS Γ.C (.app i c) = fun env => ownS i env ((evX Γ.C c false env).bind fun p => (addL i [p.1.d] p.2).map .nx) from funext fun env => by simp only [evS]]
    simp only [okS] at h
    split at h
    · simp only [Bool.and_eq_true, decide_eq_true_eq] at h
      obtain ⟨⟨⟨rfl, h1⟩, h2⟩, h3⟩ := h
      exact s_app (sE c _ Γ X h3 G) (G.var (by simp only [Bool.and_eq_true]; exact h2)) h1 (star1 (okE_star h3))
    · cases h
  | .ext i c, st, Γ, X, h, G => by
    rw [show evS Γ.C (.ext i c) = fun env => ownS i env ((evX Γ.C c false env).bind fun p => match p.1 with
      | .o ys => (addL i ys p.2).map .nx
      | _ => none) from funext fun env => by simp only [evS] <;> rfl]
    simp only [okS] at h
    split at h
    · simp only [Bool.and_eq_true, decide_eq_true_eq] at h
      obtain ⟨⟨⟨rfl, h1⟩, h2⟩, h3⟩ := h
      exact s_ext (sE c _ Γ X h3 G) (G.var (by simp only [Bool.and_eq_true]; exact h2)) h1 (star1 (okE_star h3))
    · cases h
  | .expr c, st, Γ, X, h, G => by
    rw [show evS Γ.C (.expr c) = fun env => (evX Γ.C c false env).map fun p => .nx p.2 from funext fun env => by simp only [evS]]
    simp only [okS] at h
    split at h
    · simp only [Bool.and_eq_true, Bool.not_eq_true'] at h
      exact s_expr (sE c _ Γ X h.1 G) (sw_no h.2 (fun _ _ _ => trivial) h.1)
    · cases h
  | .ite c a b, st, Γ, X, h, G => by
    rw [show evS Γ.C (.ite c a b) = fun env => (asB (evX Γ.C c true env)).bind fun p => if p.1 then evSs Γ.C a p.2 else evSs Γ.C b p.2 from funext fun env => by simp only [evS]]
    simp only [okS] at h
    split at h
    · simp only [Bool.and_eq_true] at h
      exact s_if (sT c _ Γ X h.1.1 G) (sSs a _ Γ X h.1.2 G) (sSs b _ Γ X h.2 G)
    · cases h
  | .whl c b, st, Γ, X, h, G => by
    rw [show evS Γ.C (.whl c b) = whl (fun e => asB (evX Γ.C c true e)) (evSs Γ.C b) W from funext fun env => by simp only [evS]]
    simp only [okS] at h
    split at h
    · simp only [Bool.and_eq_true] at h
      exact s_whl G.xe (sT c _ Γ X h.1 G) (sSs b _ Γ X h.2 G)
    · cases h
  | .for_ t it b, st, Γ, X, h, G => by
    rw [show evS Γ.C (.for_ t it b) = fun env => (evIt Γ.C it env).bind fun p => forl (bindT t) (evSs Γ.C b) p.1 p.2 from funext fun env => by simp only [evS]]
    simp only [okS] at h
    split at h
    · simp only [Bool.and_eq_true] at h
      exact s_for G.xe G.calm (sIt it _ _ Γ X h.1.2 G) (sTg t _ Γ X h.1.1 G) (sSs b _ Γ X h.2 G) (fold_plain (okIt_set h.1.2))
    · cases h
  | .ret c, st, Γ, X, h, G => by
    simp only [okS] at h
    split at h
    · cases hv : c.var? with
      | none =>
        rw [show evS Γ.C (.ret c) = fun env => (evX Γ.C c false env).map fun p => .rt p.1 p.2 from funext fun env => by simp only [evS, hv]]
        exact s_ret (sE c _ Γ X h G)
      | some i =>
        rw [show evS Γ.C (.ret c) = retV i from funext fun env => by simp only [evS, hv]]
        cases c <;> simp only [E.var?] at hv <;> cases hv
        simp only [okE] at h
        split at h
        · exact s_retV (G.var h)
        · cases h
    · cases h
  | .retN, st, Γ, X, h, G => by
    rw [show evS Γ.C .retN = fun env => some (.rt (.v .none) env) from funext fun env => by simp only [evS]]
    simp only [okS] at h
    split at h
    · exact s_retN
    · cases h
  | .pass, st, Γ, X, h, G => by
    rw [show evS Γ.C .pass = fun env => some (.nx env) from funext fun env => by simp only [evS]]
    simp only [okS] at h
    split at h
    · exact s_pass
    · cases h
  | .brk, st, Γ, X, h, G => by
    rw [show evS Γ.C .brk = fun env => some (.bk env) from funext fun env => by simp only [evS]]
    simp only [okS] at h
    split at h
    · exact s_brk
    · cases h
  | .cont, st, Γ, X, h, G => by
    rw [show evS Γ.C .cont = fun env => some (.ct env) from funext fun env => by simp only [evS]]
    simp only [okS] at h
    split at h
    · exact s_cont
    · cases h
  | .raise, st, Γ, X, h, G => by
    rw [show evS Γ.C .raise = fun _ => none from funext fun env => by simp only [evS]]
    exact s_raise
theorem sSs : ∀ (ss : Ss) (sts : List Stmt) (Γ : Sg) (X : Cx), okSs Γ ss sts = true → GOK Γ X → PSs X sts (tS X.K (evSs Γ.C ss))
  | .nil, sts, Γ, X, h, G => by
    rw [show evSs Γ.C .nil = fun env => some (.nx env) from funext fun env => by simp only [evSs]]
    simp only [okSs] at h
    split at h
    · exact s_nil
    · cases h
  | .cons s ss, sts, Γ, X, h, G => by
    rw [show evSs Γ.C (.cons s ss) = fun env => seqO (evS Γ.C s env) (evSs Γ.C ss) from funext fun env => by simp only [evSs]]
    simp only [okSs] at h
    split at h
    · simp only [Bool.and_eq_true] at h
      exact s_cons (sS s _ Γ X h.1 G) (sSs ss _ Γ X h.2 G)
    · cases h
end
end KX

set_option Elab.async false
set_option linter.all false
set_option maxHeartbeats 4000000
/-! KB15: defs; the law's end. -/
namespace KX
open PySem PySem.Spec PyProof.Rows L2
structure FD where
  d : He.DefD
  N : List Str
  dv : List D
  fn : Fn
def FD.sig (f : FD) : FnS := ⟨f.d.name, f.fn.np, f.dv⟩
def sgC (Fs : List FD) (bl : List Str) (cs : List (Str × D)) (C : CT) (f : FD) : Sg := ⟨C, f.N, f.d.scope, fun _ => true, Fs.map FD.sig, bl, cs⟩
def lookC (sc : Scope) (x : Str) : Bool := match sc.names.lookup x with
  | some .local => true
  | some .cell => true
  | _ => false
def isFunK : ScopeKind → Bool
  | .function => true
  | _ => false
def isFreeK : NameKind → Bool
  | .free => true
  | _ => false
def scC (f : FD) : Bool := isFunK f.d.scope.kind && !f.d.scope.isCoroutine && !f.d.scope.isGenerator && decide f.N.Nodup && decide (f.fn.np ≤ f.N.length) && (f.N.take f.fn.np).all (lookC f.d.scope) && f.d.scope.names.all (fun y => !isFreeK y.2) && (f.fn.ns == f.N.length)
theorem sc_ok {f : FD} (h : scC f = true) : FnScope f.N (f.N.take f.fn.np) f.d.scope ∧ f.fn.np ≤ f.N.length ∧ f.fn.ns = f.N.length := by
  simp only [scC, Bool.and_eq_true, decide_eq_true_eq, List.all_eq_true, beq_iff_eq, Bool.not_eq_true'] at h
  obtain ⟨⟨⟨⟨⟨⟨⟨h1, h2⟩, h3⟩, h4⟩, h5⟩, h6⟩, h7⟩, h8⟩ := h
  refine ⟨⟨?_, h2, h3, h4, ?_, fun x hx => ?_, fun y hy e => ?_⟩, h5, h8⟩
  · generalize f.d.scope.kind = k at h1 ⊢
    cases k <;> first | rfl | cases h1
  · rw [List.length_take, Nat.min_eq_left h5]
  · have := h6 x hx
    unfold lookC at this
    split at this
    · rename_i q; exact .inl q
    · rename_i q; exact .inr q
    · cases this
  · have := h7 y hy
    rw [e] at this; cases this
/-- what the head says of a def -/
structure FF (K : PySem.W.Frag) (mg : Str → Option Value) (f : FD) (a : Addr) (fd : FuncData) : Prop where
  gl : mg f.d.name = some (.ref a)
  fn : FunD K f.d.name f.d.qual f.d.params f.d.body f.d.scope (f.d.dvs K) (f.d.kws K) a fd
  bd : ∀ n, n ≤ f.fn.np → f.fn.np ≤ n + f.dv.length → ∃ ds dvs, L2.Binds K fd (f.N.take f.fn.np) ds ∧ Vals dvs ds ∧ ∀ F, Rps K F dvs (f.dv.drop (n + f.dv.length - f.fn.np))
/-- of a def without defaults -/
theorem FF.of0 {K : PySem.W.Frag} {mg : Str → Option Value} {f : FD} {a : Addr} {fd : FuncData} (h : mg f.d.name = some (.ref a)) (F : FunD K f.d.name f.d.qual f.d.params f.d.body f.d.scope [] [] a fd) (h0 : f.dv = []) (h1 : f.d.dfl = []) (h2 : f.d.kwd = [])
    (hb : ∀ (kV doc pm : Value) (an : Option Addr) (cdv ct : Value) (us : List Value), us.length = (f.N.take f.fn.np).length → bindArgs (PySem.W.fnOf f.d.name f.d.qual f.d.params f.d.body f.d.scope .none kV doc pm an cdv ct) ⟨us, []⟩ = pure ((f.N.take f.fn.np).zip us)) : FF K mg f a fd := by
  refine ⟨h, ?_, fun n _ _ => ⟨[], [], F.bindsN hb, .nil, fun F => ?_⟩⟩
  · unfold He.DefD.dvs He.DefD.kws
    rw [h1, h2]; exact F
  · rw [h0, List.drop_nil]; exact .nil
/-- of a def with defaults -/
theorem FF.ofD {K : PySem.W.Frag} {mg : Str → Option Value} {f : FD} {a : Addr} {fd : FuncData} (h : mg f.d.name = some (.ref a)) (F : FunD K f.d.name f.d.qual f.d.params f.d.body f.d.scope (f.d.dvs K) (f.d.kws K) a fd) (hl : f.d.dfl.length = f.dv.length) (hne : f.d.dfl ≠ [])
    (hN : f.fn.np ≤ f.N.length) (hv : ∀ F, Rps K F (f.d.dvs K) f.dv)
    (hb : ∀ n, n ≤ f.fn.np → f.fn.np ≤ n + f.dv.length → ∀ (T : Addr) (kV doc pm : Value) (an : Option Addr) (cdv ct : Value) (us its : List Value), us.length = n → its.length = f.dv.length →
      ∃ k, bindArgs (PySem.W.fnOf f.d.name f.d.qual f.d.params f.d.body f.d.scope (.ref T) kV doc pm an cdv ct) ⟨us, []⟩ = seqItems? (.ref T) >>= k ∧ k (some its.toArray) = pure ((f.N.take f.fn.np).zip (us ++ its.drop (n + f.dv.length - f.fn.np)))) : FF K mg f a fd := by
  have hdl : (f.d.dvs K).length = f.dv.length := by unfold He.DefD.dvs; rw [List.length_map]; exact hl
  refine ⟨h, F, fun n h1 h2 => ?_⟩
  have hd0 : f.d.dvs K ≠ [] := by
    intro e
    have := congrArg List.length e
    rw [hdl, ← hl] at this
    exact hne (List.eq_nil_of_length_eq_zero this)
  obtain ⟨ds, q1, q2⟩ := F.binds1 (ps := f.N.take f.fn.np) n (n + f.dv.length - f.fn.np) hd0 (by rw [hdl, List.length_take]; omega) (fun T kV doc pm an cdv ct us its hu hi => hb n h1 h2 T kV doc pm an cdv ct us its hu (by rw [hi, hdl]))
  refine ⟨ds, _, q2, q1, fun F => ?_⟩
  have := hv F
  revert this
  generalize f.d.dvs K = xs
  generalize f.dv = ys
  generalize n + ys.length - f.fn.np = m
  intro this
  induction m generalizing xs ys with
  | zero => exact this
  | succ m ih => cases this with
    | nil => exact .nil
    | cons a b => exact ih _ _ b
/-! ### the entry -/
section
variable {K : PySem.W.Frag} {F H F' H' : Hp} {vs : List V} {args : List Sl} {N : List Str} {np ns : Nat}
open Classical in
noncomputable def ghO (F H : Hp) (vs : List V) (args : List Sl) : Gh where
  G := fun b => if ∃ (i : Nat) (xs : List D), args[i]? = some (.io xs) ∧ vs[i]? = some (V.ref b) then none else H b
  F0 := F
  io := fun i => if ∃ xs : List D, args[i]? = some (.io xs) then (match vs[i]? with | some (V.ref a) => some a | _ => none) else none
theorem ghO_io {i : Nat} {a : Addr} (h : (ghO F H vs args).io i = some a) : ∃ xs, args[i]? = some (.io xs) ∧ vs[i]? = some (V.ref a) := by
  unfold ghO at h
  dsimp only at h
  split at h
  · rename_i q
    obtain ⟨xs, q⟩ := q
    split at h
    · rename_i w; cases h; exact ⟨xs, q, w⟩
    · cases h
  · cases h
theorem ghO_ioI {i : Nat} {a : Addr} {xs : List D} (h : args[i]? = some (.io xs)) (h' : vs[i]? = some (V.ref a)) : (ghO F H vs args).io i = some a := by
  unfold ghO
  dsimp only
  rw [if_pos ⟨xs, h⟩, h']
theorem ghO_G {b : Addr} {o : HO} (h : (ghO F H vs args).G b = some o) : H b = some o := by
  unfold ghO at h
  dsimp only at h
  split at h
  · cases h
  · exact h
theorem ghO_Gn {b : Addr} (h : (ghO F H vs args).G b = none) (hi : ∀ i, (ghO F H vs args).io i ≠ some b) : H b = none := by
  unfold ghO at h
  dsimp only at h
  split at h
  · rename_i q
    obtain ⟨i, xs, q1, q2⟩ := q
    exact absurd (ghO_ioI q1 q2) (hi i)
  · exact h
theorem start_at {i : Nat} {v : V} (h : vs[i]? = some v) : (L2.start N vs)[i]? = some (some v) := by
  have hl : i < vs.length := (List.getElem?_eq_some_iff.mp h).1
  unfold L2.start
  rw [List.getElem?_append_left (by rw [List.length_map]; exact hl), List.getElem?_map, h]; rfl
theorem start_ref {i : Nat} {a : Addr} (h : (L2.start N vs)[i]? = some (some (V.ref a))) : vs[i]? = some (V.ref a) := by
  unfold L2.start at h
  by_cases hl : i < vs.length
  · rw [List.getElem?_append_left (by rw [List.length_map]; exact hl), List.getElem?_map] at h
    cases e : vs[i]? with
    | none => rw [e] at h; cases h
    | some v => rw [e] at h; simpa using h
  · rw [List.getElem?_append_right (by rw [List.length_map]; omega), List.getElem?_replicate] at h
    split at h <;> cases h
theorem env_at {i : Nat} {s : Sl} {n : Nat} (h : (args ++ List.replicate n Sl.un)[i]? = some s) : args[i]? = some s ∨ s = .un := by
  by_cases hl : i < args.length
  · rw [List.getElem?_append_left hl] at h; exact .inl h
  · rw [List.getElem?_append_right (by omega), List.getElem?_replicate] at h
    split at h
    · cases h; exact .inr rfl
    · cases h
theorem entry (p : CallPre K F H vs args) (hn : args.length = np) (h1 : np ≤ N.length) (h2 : ns = N.length) : OK K (ghO F H vs args) F (args ++ List.replicate (ns - np) .un) (L2.start N vs) H where
  fH := p.fH
  gH := fun b o e => ghO_G e
  f0 := Same.refl _
  gro := fun b o e => .inl e
  len := by
    unfold L2.start
    rw [List.length_append, List.length_append, List.length_map, List.length_replicate, List.length_replicate, p.len]
    omega
  slot := fun i s e => by
    rcases env_at e with e | rfl
    · have hl : i < vs.length := by rw [p.len]; exact (List.getElem?_eq_some_iff.mp e).1
      have hv : vs[i]? = some vs[i] := List.getElem?_eq_getElem hl
      have ha := p.arg i _ s hv e
      cases s with
      | un => trivial
      | v d => exact ⟨_, start_at hv, ha⟩
      | o xs => exact ha.elim
      | io xs =>
        obtain ⟨a, ws, e1, e2, e3, e4⟩ := ha
        rw [e1] at hv
        refine ⟨a, start_at hv, ghO_ioI e hv, ws, e2, e3, ?_, e4⟩
        unfold ghO
        dsimp only
        rw [if_pos ⟨i, xs, e, hv⟩]
    · trivial
  dist := fun i j a oi oj ei ej => by
    have key : ∀ {i : Nat}, Own (args ++ List.replicate (ns - np) .un) i → ∃ xs, args[i]? = some (.io xs) := fun {i} o => by
      rcases o with ⟨xs, e⟩ | ⟨xs, e⟩
      · rcases env_at e with e | e
        · have hl : i < vs.length := by rw [p.len]; exact (List.getElem?_eq_some_iff.mp e).1
          exact (p.arg i _ _ (List.getElem?_eq_getElem hl) e).elim
        · cases e
      · rcases env_at e with e | e
        · exact ⟨xs, e⟩
        · cases e
    obtain ⟨xs, x1⟩ := key oi
    obtain ⟨ys, y1⟩ := key oj
    exact p.dist i j a xs ys x1 y1 (start_ref ei) (start_ref ej)
  ios := fun i a e => by
    obtain ⟨xs, q, _⟩ := ghO_io e
    refine ⟨xs, ?_⟩
    rw [List.getElem?_append_left (List.getElem?_eq_some_iff.mp q).1]
    exact q
theorem leave {e : Ev} {σ : St} {r : Rs} {v : V} (p : CallPre K F H vs args) (hn : args.length = np) (k : OK K (ghO F H vs args) F' e σ H') (s : Same F F') (hr : RsOK K (ghO F H vs args) F' e σ H' v r) : CallPost K F H vs args r (e.take np) v F' H' where
  ff := s
  fH := k.fH
  keep := fun b o hb hi => by
    refine k.gH b o ?_
    unfold ghO
    dsimp only
    rw [if_neg fun ⟨i, xs, q1, q2⟩ => hi i xs q1 q2]
    exact hb
  gro := fun b o hb => by
    rcases k.gro b o hb with h | ⟨h1, h2⟩
    · exact .inl h
    · exact .inr (ghO_Gn h1 h2)
  ret := by
    cases r with
    | v d => exact hr
    | o xs =>
      obtain ⟨a, h1, h2, ⟨ws, q1, q2, q3, q4⟩, _⟩ := hr
      exact ⟨a, ws, h1, q1, q2, ghO_Gn q3 h2, q4⟩
  out := fun i xs a ha hv => by
    have io := ghO_ioI (F := F) (H := H) ha hv
    obtain ⟨xs', he⟩ := k.ios i a io
    obtain ⟨a', _, h2, ws', q1, q2, q3, q4⟩ := k.slot i _ he
    rw [io] at h2; cases h2
    have hi : i < np := by rw [← hn]; exact (List.getElem?_eq_some_iff.mp ha).1
    exact ⟨xs', ws', by rw [List.getElem?_take_of_lt hi]; exact he, q1, q2, q4⟩
end
/-! ### all defs of a text, one depth after the other -/
section
variable {P : Program} {w : World} {K : PySem.W.Frag} {mg : Str → Option Value} {base : Heap} {Fs : List FD} {bl : List Str} {cs : List (Str × D)} {T : List Fn}
structure TextOK (Fs : List FD) (bl : List Str) (cs : List (Str × D)) (T : List Fn) : Prop where
  T : T = Fs.map FD.fn
  sc : ∀ f ∈ Fs, scC f = true
  ok : ∀ C : CT, ∀ f ∈ Fs, okSs (sgC Fs bl cs C f) f.fn.body f.d.body = true
structure HeadOK (K : PySem.W.Frag) (mg : Str → Option Value) (Fs : List FD) (bl : List Str) (cs : List (Str × D)) : Prop where
  ff : ∀ f ∈ Fs, ∃ a fd, FF K mg f a fd
  bl : ∀ x ∈ bl, mg x = none
  cs : ∀ x d, cs.lookup x = some d → ∃ u v, mg x = some u ∧ RelV v u ∧ ∀ F, Rp K F v d
theorem fn_ok (X : TextOK Fs bl cs T) (Y : HeadOK K mg Fs bl cs) : ∀ (n j : Nat) (f : FD) (a : Addr) (fd : FuncData), Fs[j]? = some f → FF K mg f a fd → FnOk P w K mg base CX0 n a fd (f.N.take f.fn.np) (spF K (callT T n j)) := by
  intro n
  induction n with
  | zero =>
    intro j f a fd hj hf
    refine ⟨fun vs H Q E h => ?_, fun A outer s H args us vs Q E hr e0 hb r h => ?_⟩
    · obtain ⟨F, args, r, outs, _, h2, _⟩ := h; cases h2
    · obtain ⟨F, args, r, outs, _, h2, _⟩ := h; cases h2
  | succ n ih =>
    intro j f a fd hj hf
    have hm : f ∈ Fs := List.mem_of_getElem? hj
    obtain ⟨S, hnp, hns⟩ := sc_ok (X.sc f hm)
    have hT : T[j]? = some f.fn := by rw [X.T, List.getElem?_map, hj]; rfl
    have run : ∀ args, callT T (n + 1) j args = runFn (callT T n) f.fn args := fun args => by
      show (match T[j]? with | some f => runFn (callT T n) f args | none => none) = _
      rw [hT]
    have len : ∀ vs H Q E, spF K (callT T (n + 1) j) vs H Q E → vs.length = (f.N.take f.fn.np).length := fun vs H Q E h => by
      obtain ⟨F, args, r, outs, p, h2, _⟩ := h
      rw [run] at h2
      unfold runFn at h2
      split at h2
      · rename_i hl
        rw [p.len, hl, List.length_take, Nat.min_eq_left hnp]
      · cases h2
    refine hf.fn.ok S len fun cdv A outer s H vs Q E hr h => ⟨tS K (evSs (callT T n) f.fn.body), PSs.nox ?_, ?_⟩
    · refine sSs f.fn.body f.d.body (sgC Fs bl cs (callT T n) f) _ (X.ok _ f hm) ⟨rfl, S.nd, rfl, rfl, rfl, S.kind, fun x _ => rfl, ?_, Y.bl, Y.cs, fun i g hg => ?_⟩
      · have := hr.un
        show (A.deeper _).units + 65 < cLine
        omega
      · have hg : (Fs.map FD.sig)[i]? = some g := hg
        rw [List.getElem?_map] at hg
        cases hi : Fs[i]? with
        | none => rw [hi] at hg; cases hg
        | some f' =>
          rw [hi] at hg
          cases hg
          obtain ⟨a', fd', hf'⟩ := Y.ff f' (List.mem_of_getElem? hi)
          exact ⟨n, a', fd', _, hf'.gl, hf'.fn.kp, ih i f' a' fd' hi hf', hr, hf'.bd⟩
    · obtain ⟨F, args, r, outs, p, h2, hq⟩ := h
      rw [run] at h2
      unfold runFn at h2
      split at h2
      · rename_i hl
        split at h2
        · rename_i e he
          cases h2
          refine ⟨ghO F H vs args, F, _, _, entry p hl hnp hns, he, fun σ' F' H' k' s' => ?_⟩
          exact hq _ F' H' (leave p hl k' s' .non)
        · rename_i r' e he
          cases h2
          exact ⟨ghO F H vs args, F, _, _, entry p hl hnp hns, he, fun v σ' F' H' k' s' hv => hq v F' H' (leave p hl k' s' hv)⟩
        · cases h2
      · cases h2
end
theorem rps_ints {K : PySem.W.Frag} {F : Hp} : ∀ ns : List Int, Rps K F (ns.map V.int) (ns.map PyData.int)
  | [] => .nil
  | n :: ns => .cons (.int n) (rps_ints ns)
/-- the law's promise -/
theorem sp_law {K : PySem.W.Frag} {c : List Sl → Option (Rs × List Sl)} {H : Hp} {a : Addr} {ns : List Int} (hS : SqL K H a (ns.map V.int)) (h : ∃ outs, c [.v (.list (ns.map .int))] = some (.v (.bool true), outs)) : spF K c [.ref a] H (fun v _ => v = .bl true) fun _ _ _ => False := by
  obtain ⟨outs, h⟩ := h
  refine ⟨H, _, _, outs, ⟨Same.refl _, rfl, fun i v s hv hs => ?_, fun i j b xs ys hx => ?_⟩, h, fun v F' H' q => ?_⟩
  · match i with
    | 0 => simp at hv hs; subst hv hs; exact .lst hS (rps_ints ns)
    | i + 1 => simp at hv
  · match i with
    | 0 => simp at hx
    | i + 1 => simp at hx
  · have hr : Rp K F' v (.bool true) := q.ret
    cases hr; rfl
end KX

set_option Elab.async false
set_option linter.all false
set_option maxHeartbeats 4000000
/-! KC: the plain language's runs by rewriting: rows that fire on written forms only. -/
namespace KX
open PySem PySem.Spec PyProof.Rows L2
section
variable {C : CT} {s0 : Sl} {r : Ev} {t : Bool}
theorem y_con {d : D} : evX C (.con d) t (s0 :: r) = fin t (some (.v d, s0 :: r)) := by simp only [evX, evEs, evAs, evO, evIt, evRs, evS, evSs, putTas, putTa, if_true, if_false, Bool.false_eq_true]
theorem y_varF {i : Nat} : evX C (.var i) false (s0 :: r) = rd i (s0 :: r) := by simp only [evX, evEs, evAs, evO, evIt, evRs, evS, evSs, putTas, putTa, if_true, if_false, Bool.false_eq_true]
theorem y_varT {i : Nat} : evX C (.var i) true (s0 :: r) = ((slD (s0 :: r)[i]?).bind truD).map fun b => (.v (.bool b), s0 :: r) := by simp only [evX, evEs, evAs, evO, evIt, evRs, evS, evSs, putTas, putTa, if_true, if_false, Bool.false_eq_true]
theorem y_glo {z : Str} {d : D} : evX C (.glo z d) t (s0 :: r) = fin t (some (.v d, s0 :: r)) := by simp only [evX, evEs, evAs, evO, evIt, evRs, evS, evSs, putTas, putTa, if_true, if_false, Bool.false_eq_true]
theorem y_bin {op : BOp} {a b : E} : evX C (.bin op a b) t (s0 :: r) = fin t (op2 a.var? (evX C a false) b.var? (evX C b false) (fun x y e => withE e (binR op x y)) (s0 :: r)) := by simp only [evX, evEs, evAs, evO, evIt, evRs, evS, evSs, putTas, putTa, if_true, if_false, Bool.false_eq_true]
theorem y_neg {a : E} : evX C (.neg a) t (s0 :: r) = fin t (op1 a.var? (evX C a false) (fun x e => withE e ((D.int? x).map fun i => .v (.int (-i)))) (s0 :: r)) := by simp only [evX, evEs, evAs, evO, evIt, evRs, evS, evSs, putTas, putTa, if_true, if_false, Bool.false_eq_true]
theorem y_notT {a : E} : evX C (.not a) true (s0 :: r) = ofB ((asB (evX C a true (s0 :: r))).map fun p => (!p.1, p.2)) := by simp only [evX, evEs, evAs, evO, evIt, evRs, evS, evSs, putTas, putTa, if_true, if_false, Bool.false_eq_true]
theorem y_notF {a : E} : evX C (.not a) false (s0 :: r) = op1 a.var? (evX C a false) (fun x e => (truD x).map fun b => (.v (.bool (!b)), e)) (s0 :: r) := by simp only [evX, evEs, evAs, evO, evIt, evRs, evS, evSs, putTas, putTa, if_true, if_false, Bool.false_eq_true]
theorem y_andT {a b : E} : evX C (.and a b) true (s0 :: r) = bindB (asB (evX C a true (s0 :: r))) (evX C b true) (fun e => some (.v (.bool false), e)) := by simp only [evX, evEs, evAs, evO, evIt, evRs, evS, evSs, putTas, putTa, if_true, if_false, Bool.false_eq_true]
theorem y_andF {a b : E} : evX C (.and a b) false (s0 :: r) = (evX C a false (s0 :: r)).bind fun p => (truD p.1.d).bind fun c => if c then evX C b false p.2 else some (.v p.1.d, p.2) := by simp only [evX, evEs, evAs, evO, evIt, evRs, evS, evSs, putTas, putTa, if_true, if_false, Bool.false_eq_true]
theorem y_orT {a b : E} : evX C (.or a b) true (s0 :: r) = bindB (asB (evX C a true (s0 :: r))) (fun e => some (.v (.bool true), e)) (evX C b true) := by simp only [evX, evEs, evAs, evO, evIt, evRs, evS, evSs, putTas, putTa, if_true, if_false, Bool.false_eq_true]
theorem y_orF {a b : E} : evX C (.or a b) false (s0 :: r) = (evX C a false (s0 :: r)).bind fun p => (truD p.1.d).bind fun c => if c then some (.v p.1.d, p.2) else evX C b false p.2 := by simp only [evX, evEs, evAs, evO, evIt, evRs, evS, evSs, putTas, putTa, if_true, if_false, Bool.false_eq_true]
theorem y_ite {a b c : E} : evX C (.ite c a b) t (s0 :: r) = bindB (asB (evX C c true (s0 :: r))) (evX C a t) (evX C b t) := by simp only [evX, evEs, evAs, evO, evIt, evRs, evS, evSs, putTas, putTa, if_true, if_false, Bool.false_eq_true]
theorem y_cmp {op : COp} {a b : E} : evX C (.cmp op a b) t (s0 :: r) = op2 a.var? (evX C a false) b.var? (evX C b false) (fun x y e => withE e ((cmpD op x y).map fun b => .v (.bool b))) (s0 :: r) := by simp only [evX, evEs, evAs, evO, evIt, evRs, evS, evSs, putTas, putTa, if_true, if_false, Bool.false_eq_true]
theorem y_chain {p q : COp} {a b c : E} : evX C (.chain p q a b c) t (s0 :: r) = chainE p q a.var? b.var? c.var? (evX C a false) (evX C b false) (evX C c false) (s0 :: r) := by simp only [evX, evEs, evAs, evO, evIt, evRs, evS, evSs, putTas, putTa, if_true, if_false, Bool.false_eq_true]
theorem y_tup {es : Es} : evX C (.tup es) t (s0 :: r) = fin t (sizeE (fun xs => .v (.tuple xs)) (evEs C es (s0 :: r))) := by simp only [evX, evEs, evAs, evO, evIt, evRs, evS, evSs, putTas, putTa, if_true, if_false, Bool.false_eq_true]
theorem y_lst {es : Es} : evX C (.lst es) t (s0 :: r) = fin t (sizeE .o (evEs C es (s0 :: r))) := by simp only [evX, evEs, evAs, evO, evIt, evRs, evS, evSs, putTas, putTa, if_true, if_false, Bool.false_eq_true]
theorem y_rep {es : Es} {n : E} : evX C (.rep es n) t (s0 :: r) = fin t ((evEs C es (s0 :: r)).bind fun p => if p.1.length ≤ sizeLine then op1 n.var? (evX C n false) (fun y e2 => withE e2 (repR p.1 y)) p.2 else none) := by simp only [evX, evEs, evAs, evO, evIt, evRs, evS, evSs, putTas, putTa, if_true, if_false, Bool.false_eq_true]
theorem y_idx {a i : E} : evX C (.idx a i) t (s0 :: r) = fin t (op2 a.var? (evX C a false) i.var? (evX C i false) (fun x y e => withE e ((idxD x y).map .v)) (s0 :: r)) := by simp only [evX, evEs, evAs, evO, evIt, evRs, evS, evSs, putTas, putTa, if_true, if_false, Bool.false_eq_true]
theorem y_slice {a : E} {lo hi : O} : evX C (.slice a lo hi) t (s0 :: r) = fin t ((opd a.var? (evX C a false) (s0 :: r)).bind fun p => (evO C lo p.2).bind fun l => (evO C hi l.2).bind fun h => (p.1.get h.2).bind fun x => withE h.2 (sliceR x l.1 h.1)) := by simp only [evX, evEs, evAs, evO, evIt, evRs, evS, evSs, putTas, putTa, if_true, if_false, Bool.false_eq_true]
theorem y_rev {a : E} : evX C (.rev a) t (s0 :: r) = fin t (op1 a.var? (evX C a false) (fun x e => withE e (revR x)) (s0 :: r)) := by simp only [evX, evEs, evAs, evO, evIt, evRs, evS, evSs, putTas, putTa, if_true, if_false, Bool.false_eq_true]
theorem y_call {f : Nat} {as : As} {dv : List D} : evX C (.call f as dv) t (s0 :: r) = fin t ((evAs C as (s0 :: r)).bind fun p => callE C f (p.1 ++ dv.map .inl) p.2) := by simp only [evX, evEs, evAs, evO, evIt, evRs, evS, evSs, putTas, putTa, if_true, if_false, Bool.false_eq_true]
theorem y_b1 {f : B1} {a : E} : evX C (.b1 f a) t (s0 :: r) = fin t (op1 a.var? (evX C a false) (fun x e => withE e (b1R f x)) (s0 :: r)) := by simp only [evX, evEs, evAs, evO, evIt, evRs, evS, evSs, putTas, putTa, if_true, if_false, Bool.false_eq_true]
theorem y_b2 {f : B2} {a b : E} : evX C (.b2 f a b) t (s0 :: r) = fin t (op2 a.var? (evX C a false) b.var? (evX C b false) (fun x y e => withE e ((b2R f x y).map .v)) (s0 :: r)) := by simp only [evX, evEs, evAs, evO, evIt, evRs, evS, evSs, putTas, putTa, if_true, if_false, Bool.false_eq_true]
theorem y_isI {a : E} {ty : Ty} : evX C (.isI a ty) t (s0 :: r) = op1 a.var? (evX C a false) (fun x e => some (.v (.bool (isD x ty)), e)) (s0 :: r) := by simp only [evX, evEs, evAs, evO, evIt, evRs, evS, evSs, putTas, putTa, if_true, if_false, Bool.false_eq_true]
theorem y_lrng {tup : Bool} {it : It} : evX C (.lrng tup it) t (s0 :: r) = fin t (sizeE (fun xs => if tup then .v (.tuple xs) else .o xs) (evIt C it (s0 :: r))) := by simp only [evX, evEs, evAs, evO, evIt, evRs, evS, evSs, putTas, putTa, if_true, if_false, Bool.false_eq_true]
theorem y_compN {elt : E} {tg : Tg} {it : It} {own : List Nat} : evX C (.comp elt tg it .none own) t (s0 :: r) = fin t (compE (bindT tg) own (fun e => some (true, e)) (evX C elt false) (evIt C it (s0 :: r))) := by simp only [evX, evEs, evAs, evO, evIt, evRs, evS, evSs, putTas, putTa, if_true, if_false, Bool.false_eq_true]
theorem y_compS {elt c : E} {tg : Tg} {it : It} {own : List Nat} : evX C (.comp elt tg it (.some c) own) t (s0 :: r) = fin t (compE (bindT tg) own (fun e => asB (evX C c true e)) (evX C elt false) (evIt C it (s0 :: r))) := by simp only [evX, evEs, evAs, evO, evIt, evRs, evS, evSs, putTas, putTa, if_true, if_false, Bool.false_eq_true]
theorem y_esN : evEs C .nil (s0 :: r) = some ([], s0 :: r) := by simp only [evX, evEs, evAs, evO, evIt, evRs, evS, evSs, putTas, putTa, if_true, if_false, Bool.false_eq_true]
theorem y_esC {e : E} {es : Es} : evEs C (.cons e es) (s0 :: r) = (evX C e false (s0 :: r)).bind fun p => (evEs C es p.2).map fun q => (p.1.d :: q.1, q.2) := by simp only [evX, evEs, evAs, evO, evIt, evRs, evS, evSs, putTas, putTa, if_true, if_false, Bool.false_eq_true]
theorem y_rsN : evRs C .nil (s0 :: r) = some ([], s0 :: r) := by simp only [evX, evEs, evAs, evO, evIt, evRs, evS, evSs, putTas, putTa, if_true, if_false, Bool.false_eq_true]
theorem y_rsC {e : E} {es : Es} : evRs C (.cons e es) (s0 :: r) = (evX C e false (s0 :: r)).bind fun p => (evRs C es p.2).map fun q => (p.1 :: q.1, q.2) := by simp only [evX, evEs, evAs, evO, evIt, evRs, evS, evSs, putTas, putTa, if_true, if_false, Bool.false_eq_true]
theorem y_asN : evAs C .nil (s0 :: r) = some ([], s0 :: r) := by simp only [evX, evEs, evAs, evO, evIt, evRs, evS, evSs, putTas, putTa, if_true, if_false, Bool.false_eq_true]
theorem y_asV {e : E} {as : As} : evAs C (.val e as) (s0 :: r) = (evX C e false (s0 :: r)).bind fun p => (evAs C as p.2).map fun q => (.inl p.1.d :: q.1, q.2) := by simp only [evX, evEs, evAs, evO, evIt, evRs, evS, evSs, putTas, putTa, if_true, if_false, Bool.false_eq_true]
theorem y_asI {i : Nat} {as : As} : evAs C (.io i as) (s0 :: r) = baseS i (s0 :: r) ((evAs C as (s0 :: r)).map fun q => (.inr i :: q.1, q.2)) := by simp only [evX, evEs, evAs, evO, evIt, evRs, evS, evSs, putTas, putTa, if_true, if_false, Bool.false_eq_true]
theorem y_oN : evO C .none (s0 :: r) = some (none, s0 :: r) := by simp only [evX, evEs, evAs, evO, evIt, evRs, evS, evSs, putTas, putTa, if_true, if_false, Bool.false_eq_true]
theorem y_oS {e : E} : evO C (.some e) (s0 :: r) = op1 e.var? (evX C e false) (fun x e => (D.int? x).map fun i => (some i, e)) (s0 :: r) := by simp only [evX, evEs, evAs, evO, evIt, evRs, evS, evSs, putTas, putTa, if_true, if_false, Bool.false_eq_true]
theorem y_itS {e : E} : evIt C (.seq e) (s0 :: r) = (evX C e false (s0 :: r)).bind fun p => (seqOf p.1.d).map fun xs => (xs, p.2) := by simp only [evX, evEs, evAs, evO, evIt, evRs, evS, evSs, putTas, putTa, if_true, if_false, Bool.false_eq_true]
theorem y_it1 {a : E} : evIt C (.r1 a) (s0 :: r) = op1 a.var? (evX C a false) (fun x e => (D.int? x).bind fun i => (rng2 0 i).map fun xs => (xs, e)) (s0 :: r) := by simp only [evX, evEs, evAs, evO, evIt, evRs, evS, evSs, putTas, putTa, if_true, if_false, Bool.false_eq_true]
theorem y_it2 {a b : E} : evIt C (.r2 a b) (s0 :: r) = op2 a.var? (evX C a false) b.var? (evX C b false) (fun x y e => (D.int? x).bind fun i => (D.int? y).bind fun j => (rng2 i j).map fun xs => (xs, e)) (s0 :: r) := by simp only [evX, evEs, evAs, evO, evIt, evRs, evS, evSs, putTas, putTa, if_true, if_false, Bool.false_eq_true]
theorem y_asg {i : Nat} {e : E} : evS C (.asg i e) (s0 :: r) = (evX C e false (s0 :: r)).bind fun p => (asgS i p.1.sl p.2).map .nx := by simp only [evX, evEs, evAs, evO, evIt, evRs, evS, evSs, putTas, putTa, if_true, if_false, Bool.false_eq_true]
theorem y_par {is : List Nat} {es : Es} : evS C (.par is es) (s0 :: r) = (evRs C es (s0 :: r)).bind fun p => (putNs is p.1 p.2).map .nx := by simp only [evX, evEs, evAs, evO, evIt, evRs, evS, evSs, putTas, putTa, if_true, if_false, Bool.false_eq_true]
theorem y_stp {ts : List Ta} {es : Es} : evS C (.stp ts es) (s0 :: r) = (evEs C es (s0 :: r)).bind fun p => if p.1.length ≤ sizeLine then (putTas C ts p.1 p.2).map .nx else none := by simp only [evX, evEs, evAs, evO, evIt, evRs, evS, evSs, putTas, putTa, if_true, if_false, Bool.false_eq_true]
theorem y_unp {t : Tg} {e : E} : evS C (.unp t e) (s0 :: r) = (evX C e false (s0 :: r)).bind fun p => (bindT t p.1.d p.2).map .nx := by simp only [evX, evEs, evAs, evO, evIt, evRs, evS, evSs, putTas, putTa, if_true, if_false, Bool.false_eq_true]
theorem y_st {i : Nat} {ix e : E} : evS C (.st i ix e) (s0 :: r) = (evX C e false (s0 :: r)).bind fun p => baseS i p.2 ((op1 ix.var? (evX C ix false) (fun x e2 => (D.int? x).bind fun k => putIx i k p.1.d e2) p.2).map .nx) := by simp only [evX, evEs, evAs, evO, evIt, evRs, evS, evSs, putTas, putTa, if_true, if_false, Bool.false_eq_true]
theorem y_app {i : Nat} {e : E} : evS C (.app i e) (s0 :: r) = ownS i (s0 :: r) ((evX C e false (s0 :: r)).bind fun p => (addL i [p.1.d] p.2).map .nx) := by simp only [evX, evEs, evAs, evO, evIt, evRs, evS, evSs, putTas, putTa, if_true, if_false, Bool.false_eq_true]
theorem y_expr {e : E} : evS C (.expr e) (s0 :: r) = (evX C e false (s0 :: r)).map fun p => .nx p.2 := by simp only [evX, evEs, evAs, evO, evIt, evRs, evS, evSs, putTas, putTa, if_true, if_false, Bool.false_eq_true]
theorem y_iteS {c : E} {a b : Ss} : evS C (.ite c a b) (s0 :: r) = (asB (evX C c true (s0 :: r))).bind fun p => if p.1 then evSs C a p.2 else evSs C b p.2 := by simp only [evX, evEs, evAs, evO, evIt, evRs, evS, evSs, putTas, putTa, if_true, if_false, Bool.false_eq_true]
theorem y_whl {c : E} {b : Ss} : evS C (.whl c b) (s0 :: r) = whl (fun e => asB (evX C c true e)) (evSs C b) W (s0 :: r) := by simp only [evX, evEs, evAs, evO, evIt, evRs, evS, evSs, putTas, putTa, if_true, if_false, Bool.false_eq_true]
theorem y_for {t : Tg} {it : It} {b : Ss} : evS C (.for_ t it b) (s0 :: r) = (evIt C it (s0 :: r)).bind fun p => forl (bindT t) (evSs C b) p.1 p.2 := by simp only [evX, evEs, evAs, evO, evIt, evRs, evS, evSs, putTas, putTa, if_true, if_false, Bool.false_eq_true]
theorem y_retN : evS C .retN (s0 :: r) = some (.rt (.v .none) (s0 :: r)) := by simp only [evX, evEs, evAs, evO, evIt, evRs, evS, evSs, putTas, putTa, if_true, if_false, Bool.false_eq_true]
theorem y_pass : evS C .pass (s0 :: r) = some (.nx (s0 :: r)) := by simp only [evX, evEs, evAs, evO, evIt, evRs, evS, evSs, putTas, putTa, if_true, if_false, Bool.false_eq_true]
theorem y_brk : evS C .brk (s0 :: r) = some (.bk (s0 :: r)) := by simp only [evX, evEs, evAs, evO, evIt, evRs, evS, evSs, putTas, putTa, if_true, if_false, Bool.false_eq_true]
theorem y_cont : evS C .cont (s0 :: r) = some (.ct (s0 :: r)) := by simp only [evX, evEs, evAs, evO, evIt, evRs, evS, evSs, putTas, putTa, if_true, if_false, Bool.false_eq_true]
theorem y_raise : evS C .raise (s0 :: r) = none := by simp only [evX, evEs, evAs, evO, evIt, evRs, evS, evSs, putTas, putTa, if_true, if_false, Bool.false_eq_true]
theorem y_ssN : evSs C .nil (s0 :: r) = some (.nx (s0 :: r)) := by simp only [evX, evEs, evAs, evO, evIt, evRs, evS, evSs, putTas, putTa, if_true, if_false, Bool.false_eq_true]
theorem y_ssC {s : S} {ss : Ss} : evSs C (.cons s ss) (s0 :: r) = seqO (evS C s (s0 :: r)) (evSs C ss) := by simp only [evX, evEs, evAs, evO, evIt, evRs, evS, evSs, putTas, putTa, if_true, if_false, Bool.false_eq_true]
theorem y_tasN : putTas C [] [] (s0 :: r) = some (s0 :: r) := by simp only [evX, evEs, evAs, evO, evIt, evRs, evS, evSs, putTas, putTa, if_true, if_false, Bool.false_eq_true]
theorem y_tasC {t : Ta} {ts : List Ta} {d : D} {ds : List D} : putTas C (t :: ts) (d :: ds) (s0 :: r) = (putTa C t d (s0 :: r)).bind (putTas C ts ds) := by simp only [evX, evEs, evAs, evO, evIt, evRs, evS, evSs, putTas, putTa, if_true, if_false, Bool.false_eq_true]
theorem y_taN {i : Nat} {d : D} : putTa C (.nm i) d (s0 :: r) = asgS i (.v d) (s0 :: r) := by simp only [evX, evEs, evAs, evO, evIt, evRs, evS, evSs, putTas, putTa, if_true, if_false, Bool.false_eq_true]
theorem y_taS {i : Nat} {ix : E} {d : D} : putTa C (.sub i ix) d (s0 :: r) = baseS i (s0 :: r) (op1 ix.var? (evX C ix false) (fun x e => (D.int? x).bind fun k => putIx i k d e) (s0 :: r)) := by simp only [evX, evEs, evAs, evO, evIt, evRs, evS, evSs, putTas, putTa, if_true, if_false, Bool.false_eq_true]
def augA (C : CT) (o : Option Sl) (i : Nat) (op : BOp) (e : E) (env : Ev) : Option Out := match o with
  | some (.v x) => op1 e.var? (evX C e false) (fun y e2 => (augD op x y).bind fun d => (asgS i (.v d) e2).map .nx) env
  | _ => none
theorem y_aug {i : Nat} {op : BOp} {e : E} : evS C (.aug i op e) (s0 :: r) = augA C (s0 :: r)[i]? i op e (s0 :: r) := by simp only [evS] <;> rfl
theorem y_augV {i : Nat} {op : BOp} {e : E} {env : Ev} {x : D} : augA C (some (.v x)) i op e env = op1 e.var? (evX C e false) (fun y e2 => (augD op x y).bind fun d => (asgS i (.v d) e2).map .nx) env := rfl
def retM (C : CT) (o : Option Nat) (e : E) (env : Ev) : Option Out := match o with
  | some i => retV i env
  | none => (evX C e false env).map fun p => .rt p.1 p.2
theorem y_ret {e : E} : evS C (.ret e) (s0 :: r) = retM C e.var? e (s0 :: r) := by simp only [evS] <;> rfl
theorem y_retS {e : E} {i : Nat} {env : Ev} : retM C (some i) e env = retV i env := rfl
theorem y_retE {e : E} {env : Ev} : retM C none e env = (evX C e false env).map fun p => .rt p.1 p.2 := rfl
def enmA (d : D) (e : Ev) : Option (List D × Ev) := match d with | .list xs => some (enmL 0 xs, e) | .tuple xs => some (enmL 0 xs, e) | _ => none
theorem y_enm {e : E} : evIt C (.enm e) (s0 :: r) = (evX C e false (s0 :: r)).bind fun p => enmA p.1.d p.2 := by simp only [evIt] <;> rfl
theorem y_enmL {xs : List D} {env : Ev} : enmA (.list xs) env = some (enmL 0 xs, env) := rfl
theorem y_enmT {xs : List D} {env : Ev} : enmA (.tuple xs) env = some (enmL 0 xs, env) := rfl
def zipA (d d' : D) (e : Ev) : Option (List D × Ev) := match d, d' with | .list xs, .list ys => some (zipL xs ys, e) | .tuple xs, .tuple ys => some (zipL xs ys, e) | _, _ => none
theorem y_zip {a b : E} : evIt C (.zip a b) (s0 :: r) = (evX C a false (s0 :: r)).bind fun p => (evX C b false p.2).bind fun q => zipA p.1.d q.1.d q.2 := by simp only [evIt] <;> rfl
theorem y_zipL {xs ys : List D} {env : Ev} : zipA (.list xs) (.list ys) env = some (zipL xs ys, env) := rfl
theorem y_zipT {xs ys : List D} {env : Ev} : zipA (.tuple xs) (.tuple ys) env = some (zipL xs ys, env) := rfl
def extA (i : Nat) (p : Rs) (e : Ev) : Option Out := match p with | .o ys => (addL i ys e).map .nx | _ => none
theorem y_ext {i : Nat} {e : E} : evS C (.ext i e) (s0 :: r) = ownS i (s0 :: r) ((evX C e false (s0 :: r)).bind fun p => extA i p.1 p.2) := by simp only [evS] <;> rfl
theorem y_extO {i : Nat} {ys : List D} {env : Ev} : extA i (.o ys) env = (addL i ys env).map .nx := rfl
theorem y_seqL {xs : List D} : seqOf (.list xs) = some xs := rfl
theorem y_seqT {xs : List D} : seqOf (.tuple xs) = some xs := rfl
theorem y_nsN {env : Ev} : putNs [] [] env = some env := rfl
theorem y_nsC {i : Nat} {is : List Nat} {q : Rs} {qs : List Rs} {env : Ev} : putNs (i :: is) (q :: qs) env = (asgS i q.sl env).bind (putNs is qs) := rfl
theorem y_tgN {i : Nat} {d : D} {env : Ev} : bindT (.nm i) d env = asgS i (.v d) env := by simp only [bindT]
theorem y_tgT {ts : Tgs} {xs : List D} {env : Ev} : bindT (.tup ts) (.tuple xs) env = bindTs ts xs env := by simp only [bindT]
theorem y_tgL {ts : Tgs} {xs : List D} {env : Ev} : bindT (.tup ts) (.list xs) env = bindTs ts xs env := by simp only [bindT]
theorem y_tgsN {env : Ev} : bindTs .nil [] env = some env := by simp only [bindTs]
theorem y_tgsC {t : Tg} {ts : Tgs} {d : D} {xs : List D} {env : Ev} : bindTs (.cons t ts) (d :: xs) env = (bindT t d env).bind (bindTs ts xs) := by simp only [bindTs]
theorem y_forN {g : D → Ev → Option Ev} {b : Ev → Option Out} {env : Ev} : forl g b [] env = some (.nx env) := rfl
theorem y_forC {g : D → Ev → Option Ev} {b : Ev → Option Out} {x : D} {xs : List D} {env : Ev} : forl g b (x :: xs) env = (g x env).bind fun e1 => turnO (b e1) (forl g b xs) := rfl
theorem y_cmN {g : D → Ev → Option Ev} {own : List Nat} {tst : Ev → Option (Bool × Ev)} {el : Ev → Option (Rs × Ev)} {acc : List D} {env : Ev} : compL g own tst el [] acc env = some (acc, env) := rfl
theorem y_cmC {g : D → Ev → Option Ev} {own : List Nat} {tst : Ev → Option (Bool × Ev)} {el : Ev → Option (Rs × Ev)} {x : D} {xs acc : List D} {env : Ev} : compL g own tst el (x :: xs) acc env = (wipeE env own).bind fun e0 => (g x e0).bind fun e1 => (tst e1).bind fun p =>
      if p.1 then (el p.2).bind fun q => if acc.length < sizeLine then compL g own tst el xs (acc ++ [q.1.d]) q.2 else none
      else compL g own tst el xs acc p.2 := rfl
def wipA (o : Option Sl) (i : Nat) (e : Ev) : Option Ev := match o with
    | some .un => some e
    | some (.v _) => some (e.set i .un)
    | _ => none
theorem y_wipN {env : Ev} : wipeE env [] = some env := rfl
theorem y_wipC {env : Ev} {i : Nat} {is : List Nat} : wipeE env (i :: is) = (wipeE env is).bind fun e => wipA e[i]? i e := rfl
theorem y_wipU {env : Ev} {i : Nat} : wipA (some .un) i env = some env := rfl
theorem y_wipV {env : Ev} {i : Nat} {d : D} : wipA (some (.v d)) i env = some (env.set i .un) := rfl
theorem y_bakN {o env : Ev} : backE o env [] = env := rfl
theorem y_bakC {o env : Ev} {i : Nat} {is : List Nat} : backE o env (i :: is) = (backE o env is).set i (o[i]?.getD .un) := rfl
theorem y_chainE {p q : COp} {iv jv kv : Option Nat} {fa fb fc : Ev → Option (Rs × Ev)} {env : Ev} : chainE p q iv jv kv fa fb fc env = (opd iv fa env).bind fun a => (opd jv fb a.2).bind fun b => (a.1.get b.2).bind fun x => (b.1.get b.2).bind fun y => (cmpD p x y).bind fun c =>
    if c then (opd kv fc b.2).bind fun c => (b.1.get c.2).bind fun x => (c.1.get c.2).bind fun y => (cmpD q x y).bind fun b => some (.v (.bool b), c.2) else some (.v (.bool false), b.2) := rfl
theorem y_chain3 {p q w : COp} {a b c d : E} : evX C (.chain3 p q w a b c d) t (s0 :: r) = chain3E p q w a.var? b.var? c.var? d.var? (evX C a false) (evX C b false) (evX C c false) (evX C d false) (s0 :: r) := by simp only [evX]
theorem y_chain3E {p q w : COp} {iv jv kv lv : Option Nat} {fa fb fc fd : Ev → Option (Rs × Ev)} {env : Ev} : chain3E p q w iv jv kv lv fa fb fc fd env = (opd iv fa env).bind fun a => (opd jv fb a.2).bind fun b => (a.1.get b.2).bind fun x => (b.1.get b.2).bind fun y => (cmpD p x y).bind fun c =>
    if c then (opd kv fc b.2).bind fun c => (b.1.get c.2).bind fun x => (c.1.get c.2).bind fun y => (cmpD q x y).bind fun b =>
      if b then (opd lv fd c.2).bind fun d => (c.1.get d.2).bind fun x => (d.1.get d.2).bind fun y => (cmpD w x y).bind fun b => some (.v (.bool b), d.2) else some (.v (.bool false), c.2)
    else some (.v (.bool false), b.2) := rfl
theorem y_it3 {a b c : E} : evIt C (.r3 a b c) (s0 :: r) = (opd a.var? (evX C a false) (s0 :: r)).bind fun p => op2 b.var? (evX C b false) c.var? (evX C c false) (fun y z e =>
      (p.1.get e).bind fun x => (D.int? x).bind fun i => (D.int? y).bind fun j => (D.int? z).bind fun k => (rng3 i j k).map fun xs => (xs, e)) p.2 := by simp only [evIt]
theorem y_nodN : (ioOf ([] : List (Sum D Nat))) = [] := rfl
theorem y_nod1 {i : Nat} : [i].Nodup := by simp
theorem y_ioL {d : D} {as : List (Sum D Nat)} : ioOf (.inl d :: as) = ioOf as := rfl
theorem y_ioR {i : Nat} {as : List (Sum D Nat)} : ioOf (.inr i :: as) = i :: ioOf as := rfl
def argA (o : Option Sl) (q : Option (List Sl)) : Option (List Sl) := match o with
    | some (.o xs) => q.map (.io xs :: ·)
    | some (.io xs) => q.map (.io xs :: ·)
    | _ => none
theorem y_argN {env : Ev} : argSl env [] = some [] := rfl
theorem y_argL {env : Ev} {d : D} {as : List (Sum D Nat)} : argSl env (.inl d :: as) = (argSl env as).map (.v d :: ·) := rfl
theorem y_argR {env : Ev} {i : Nat} {as : List (Sum D Nat)} : argSl env (.inr i :: as) = argA env[i]? (argSl env as) := rfl
theorem y_argO {xs : List D} {q : Option (List Sl)} : argA (some (.o xs)) q = q.map (.io xs :: ·) := rfl
theorem y_argI {xs : List D} {q : Option (List Sl)} : argA (some (.io xs)) q = q.map (.io xs :: ·) := rfl
def bakA (o : Option Sl) (i : Nat) (xs : List D) (r : List (Sum D Nat)) (os : List Sl) (env : Ev) : Option Ev := match o with
    | some (.o _) => backA (env.set i (.o xs)) r os
    | some (.io _) => backA (env.set i (.io xs)) r os
    | _ => none
theorem y_bkN {env : Ev} {os : List Sl} : backA env [] os = some env := by cases os <;> rfl
theorem y_bkL {env : Ev} {d : D} {as : List (Sum D Nat)} {o : Sl} {os : List Sl} : backA env (.inl d :: as) (o :: os) = backA env as os := rfl
theorem y_bkR {env : Ev} {i : Nat} {as : List (Sum D Nat)} {xs : List D} {os : List Sl} : backA env (.inr i :: as) (.io xs :: os) = bakA env[i]? i xs as os env := rfl
theorem y_bkO {env : Ev} {i : Nat} {as : List (Sum D Nat)} {xs ys : List D} {os : List Sl} : bakA (some (.o ys)) i xs as os env = backA (env.set i (.o xs)) as os := rfl
theorem y_bkI {env : Ev} {i : Nat} {as : List (Sum D Nat)} {xs ys : List D} {os : List Sl} : bakA (some (.io ys)) i xs as os env = backA (env.set i (.io xs)) as os := rfl
theorem y_callE {f : Nat} {as : List (Sum D Nat)} {env : Ev} : callE C f as env = if (ioOf as).Nodup then (argSl env as).bind fun sl => (C f sl).bind fun p => (backA env as p.2).map fun e2 => (p.1, e2) else none := rfl
def outA (np : Nat) (o : Option Out) : Option (Rs × List Sl) := match o with
    | some (.nx e) => some (.v .none, e.take np)
    | some (.rt q e) => some (q, e.take np)
    | _ => none
theorem y_run {f : Fn} {args : List Sl} (h : args.length = f.np) : runFn C f args = outA f.np (evSs C f.body (args ++ List.replicate (f.ns - f.np) .un)) := by
  unfold runFn outA; rw [if_pos h] <;> rfl
theorem y_outN {np : Nat} {e : Ev} : outA np (some (.nx e)) = some (.v .none, e.take np) := rfl
theorem y_outR {np : Nat} {e : Ev} {q : Rs} : outA np (some (.rt q e)) = some (q, e.take np) := rfl
theorem y_tc {T : List Fn} {n i : Nat} {args : List Sl} {f : Fn} (h : T[i]? = some f) : callT T (n + 1) i args = runFn (callT T n) f args := by
  show (match T[i]? with | some f => runFn (callT T n) f args | none => none) = _
  rw [h]
end
section
variable {α β : Type} {C : CT} {env e1 : Ev} {d x y : D} {i j : Int} {n m : Nat} {xs ys : List D} {o : Option α}
theorem x_op1 {iv : Option Nat} {f : Ev → Option (Rs × Ev)} {k : D → Ev → Option α} : op1 iv f k env = (opd iv f env).bind fun p => (p.1.get p.2).bind fun x => k x p.2 := rfl
theorem x_op2 {iv jv : Option Nat} {f g : Ev → Option (Rs × Ev)} {k : D → D → Ev → Option α} : op2 iv f jv g k env = (opd iv f env).bind fun p => (opd jv g p.2).bind fun q => (p.1.get q.2).bind fun x => (q.1.get q.2).bind fun y => k x y q.2 := rfl
theorem x_opdS {f : Ev → Option (Rs × Ev)} : opd (some n) f env = (slD env[n]?).map fun _ => (Hn.sl n, env) := rfl
theorem x_opdN {f : Ev → Option (Rs × Ev)} : opd none f env = (f env).map fun p => (Hn.v p.1.d, p.2) := rfl
theorem x_getS : (Hn.sl n).get env = slD env[n]? := rfl
theorem x_getV : (Hn.v d).get env = some d := rfl
theorem x_slV : slD (some (.v d)) = some d := rfl
theorem x_slO : slD (some (.o xs)) = some (.list xs) := rfl
theorem x_slI : slD (some (.io xs)) = some (.list xs) := rfl
def rdA (o : Option Sl) (i : Nat) (env : Ev) : Option (Rs × Ev) := match o with
  | some (.v d) => some (.v d, env)
  | some (.o xs) => some (.v (.list xs), env.set i (.v (.list xs)))
  | _ => none
theorem x_rd : rd n env = rdA env[n]? n env := rfl
theorem x_rdV : rdA (some (.v d)) n env = some (.v d, env) := rfl
theorem x_rdO : rdA (some (.o xs)) n env = some (.v (.list xs), env.set n (.v (.list xs))) := rfl
def asgA (o : Option Sl) (i : Nat) (s : Sl) (env : Ev) : Option Ev := match o with
  | some (.io _) => none
  | some _ => some (env.set i s)
  | none => none
theorem x_asg {s : Sl} : asgS n s env = asgA env[n]? n s env := rfl
theorem x_asgU {s : Sl} : asgA (some .un) n s env = some (env.set n s) := rfl
theorem x_asgV {s : Sl} : asgA (some (.v d)) n s env = some (env.set n s) := rfl
theorem x_asgO {s : Sl} : asgA (some (.o xs)) n s env = some (env.set n s) := rfl
def retA (o : Option Sl) (i : Nat) (env : Ev) : Option Out := match o with
  | some (.v d) => some (.rt (.v d) env)
  | some (.o xs) => some (.rt (.o xs) (env.set i .un))
  | _ => none
theorem x_ret : retV n env = retA env[n]? n env := rfl
theorem x_retV : retA (some (.v d)) n env = some (.rt (.v d) env) := rfl
theorem x_retO : retA (some (.o xs)) n env = some (.rt (.o xs) (env.set n .un)) := rfl
def putA (o : Option Sl) (i : Nat) (k : Int) (d : D) (env : Ev) : Option Ev := match o with
  | some (.o xs) => (ixN xs.length k).map fun j => env.set i (.o (xs.set j d))
  | some (.io xs) => (ixN xs.length k).map fun j => env.set i (.io (xs.set j d))
  | _ => none
theorem x_put : putIx n i d env = putA env[n]? n i d env := rfl
theorem x_putO : putA (some (.o xs)) n i d env = (ixN xs.length i).map fun j => env.set n (.o (xs.set j d)) := rfl
theorem x_putI : putA (some (.io xs)) n i d env = (ixN xs.length i).map fun j => env.set n (.io (xs.set j d)) := rfl
def addA (o : Option Sl) (i : Nat) (ys : List D) (env : Ev) : Option Ev := match o with
  | some (.o xs) => if xs.length + ys.length ≤ sizeLine then some (env.set i (.o (xs ++ ys))) else none
  | some (.io xs) => if xs.length + ys.length ≤ sizeLine then some (env.set i (.io (xs ++ ys))) else none
  | _ => none
theorem x_add : addL n ys env = addA env[n]? n ys env := rfl
theorem x_addO : addA (some (.o xs)) n ys env = if xs.length + ys.length ≤ sizeLine then some (env.set n (.o (xs ++ ys))) else none := rfl
theorem x_addI : addA (some (.io xs)) n ys env = if xs.length + ys.length ≤ sizeLine then some (env.set n (.io (xs ++ ys))) else none := rfl
theorem x_adO (h : xs.length + ys.length ≤ sizeLine) : addA (some (.o xs)) n ys env = some (env.set n (.o (xs ++ ys))) := if_pos h
theorem x_adI (h : xs.length + ys.length ≤ sizeLine) : addA (some (.io xs)) n ys env = some (env.set n (.io (xs ++ ys))) := if_pos h
def ownA (s : Option Sl) (o : Option α) : Option α := match s with
  | some (.o _) => o
  | some (.io _) => o
  | _ => none
theorem x_own : ownS n env o = ownA env[n]? o := rfl
theorem x_ownO : ownA (some (.o xs)) o = o := rfl
theorem x_ownI : ownA (some (.io xs)) o = o := rfl
theorem x_base : baseS n env o = (slD env[n]?).bind fun _ => o := rfl
theorem x_finF {p : Option (Rs × Ev)} : fin false p = p := rfl
theorem x_finT {r : Rs} : fin true (some (r, env)) = (truD r.d).map fun b => (.v (.bool b), env) := rfl
theorem x_asB {b : Bool} : asB (some (.v (.bool b), env)) = some (b, env) := rfl
theorem x_ofB {b : Bool} : ofB (some (b, env)) = some (.v (.bool b), env) := rfl
theorem x_bindB {b : Bool} {f h : Ev → Option α} : bindB (some (b, env)) f h = if b then f env else h env := rfl
theorem x_withE {r : Rs} : withE env (some r) = some (r, env) := rfl
theorem x_sizeE {f : List D → Rs} (h : xs.length ≤ sizeLine) : sizeE f (some (xs, env)) = some (f xs, env) := by
  show (if xs.length ≤ sizeLine then some (f xs, env) else none) = _
  rw [if_pos h]
theorem x_dV : (Rs.v d).d = d := rfl
theorem x_dO : (Rs.o xs).d = .list xs := rfl
theorem x_sV : (Rs.v d).sl = .v d := rfl
theorem x_sO : (Rs.o xs).sl = .o xs := rfl
theorem x_seqN {f : Ev → Option Out} : seqO (some (.nx env)) f = f env := rfl
theorem x_seqR {f : Ev → Option Out} {r : Rs} : seqO (some (.rt r env)) f = some (.rt r env) := rfl
theorem x_seqB {f : Ev → Option Out} : seqO (some (.bk env)) f = some (.bk env) := rfl
theorem x_seqC {f : Ev → Option Out} : seqO (some (.ct env)) f = some (.ct env) := rfl
theorem x_turnN {f : Ev → Option Out} : turnO (some (.nx env)) f = f env := rfl
theorem x_turnC {f : Ev → Option Out} : turnO (some (.ct env)) f = f env := rfl
theorem x_turnB {f : Ev → Option Out} : turnO (some (.bk env)) f = some (.nx env) := rfl
theorem x_turnR {f : Ev → Option Out} {r : Rs} : turnO (some (.rt r env)) f = some (.rt r env) := rfl
/-! operations -/
theorem x_add' : binR .add (.int i) (.int j) = some (.v (.int (i + j))) := rfl
theorem x_sub' : binR .sub (.int i) (.int j) = some (.v (.int (i - j))) := rfl
theorem x_mul' (h : mulOk i j = true) : binR .mul (.int i) (.int j) = some (.v (.int (i * j))) := by
  show (if mulOk i j then some (PyData.int (i * j)) else none).map Rs.v = _
  rw [if_pos h]; rfl
theorem x_fdiv (h : 0 < j ∧ j.natAbs < big) : binR .fdiv (.int i) (.int j) = some (.v (.int (i / j))) := by
  show (if 0 < j ∧ j.natAbs < big then some (PyData.int (i / j)) else _).map Rs.v = _
  rw [if_pos h]; rfl
theorem x_mod (h : 0 < j) : binR .mod (.int i) (.int j) = some (.v (.int (i % j))) := by
  show (if 0 < j then some (PyData.int (i % j)) else _).map Rs.v = _
  rw [if_pos h]; rfl
theorem x_catT (h : xs.length + ys.length ≤ sizeLine) : binR .add (.tuple xs) (.tuple ys) = some (.v (.tuple (xs ++ ys))) := by
  show (if xs.length + ys.length ≤ sizeLine then some (PyData.tuple (xs ++ ys)) else none).map Rs.v = _
  rw [if_pos h]; rfl
theorem x_catL (h : xs.length + ys.length ≤ sizeLine) : binR .add (.list xs) (.list ys) = some (.o (xs ++ ys)) := by
  show (if xs.length + ys.length ≤ sizeLine then some (Rs.o (xs ++ ys)) else none) = _
  rw [if_pos h]
theorem x_lt : cmpD .lt (.int i) (.int j) = some (decide (i < j)) := rfl
theorem x_le : cmpD .le (.int i) (.int j) = some (decide (i ≤ j)) := rfl
theorem x_gt : cmpD .gt (.int i) (.int j) = some (decide (j < i)) := rfl
theorem x_ge : cmpD .ge (.int i) (.int j) = some (decide (j ≤ i)) := rfl
theorem x_eq : cmpD .eq x y = eqD x y := rfl
theorem x_ne : cmpD .ne x y = (eqD x y).map (!·) := rfl
theorem x_is : cmpD .is_ x .none = some (isNonD x) := by cases x <;> rfl
theorem x_isn : cmpD .isn x .none = some (!isNonD x) := by cases x <;> rfl
theorem x_inn : cmpD .inn x y = inD x y := by cases y <;> cases x <;> rfl
theorem x_nin : cmpD .nin x y = (inD x y).map (!·) := by cases y <;> cases x <;> rfl
theorem shaped_int : SeqAt.shaped (.int i) = true := rfl
theorem shaped_bool {b : Bool} : SeqAt.shaped (.bool b) = true := rfl
theorem shaped_none : SeqAt.shaped .none = true := rfl
theorem x_eqI : eqD (.int i) (.int j) = some (decide (i = j)) := by
  unfold eqD
  rw [if_pos ⟨shaped_int, shaped_int⟩]
  rfl
theorem x_eqN : eqD .none .none = some true := by
  unfold eqD; rw [if_pos ⟨rfl, rfl⟩]; rfl
theorem x_eqB {a b : Bool} : eqD (.bool a) (.bool b) = some (a == b) := by
  unfold eqD; rw [if_pos ⟨rfl, rfl⟩]; rfl
theorem shaped_ints {xs : List Int} : SeqAt.shaped (.tuple (xs.map .int)) = true ∧ SeqAt.shaped (.list (xs.map .int)) = true := by
  have a : PyData.canLayAll0 (xs.map .int) = true ∧ PyData.depthAll (xs.map .int) = 0 := by
    induction xs with
    | nil => exact ⟨rfl, rfl⟩
    | cons x xs ih => exact ⟨by simp [PyData.canLayAll0, PyData.canLay0, ih.1], by simp [PyData.depthAll, PyData.depth, ih.2]⟩
  constructor <;> simp [SeqAt.shaped, PyData.canLay0, PyData.depth, a.1, a.2]
theorem eqvAll_ints : ∀ {xs ys : List Int}, PyData.eqvAll (xs.map .int) (ys.map .int) = decide (xs = ys)
  | [], [] => by simp [PyData.eqvAll]
  | [], _ :: _ => by simp [PyData.eqvAll]
  | _ :: _, [] => by simp [PyData.eqvAll]
  | x :: xs, y :: ys => by
    simp only [List.map_cons, PyData.eqvAll, PyData.eqv, eqvAll_ints (xs := xs) (ys := ys), List.cons.injEq, Bool.decide_and]
    congr 1
theorem x_eqTs {xs ys : List Int} : eqD (.tuple (xs.map .int)) (.tuple (ys.map .int)) = some (decide (xs = ys)) := by
  unfold eqD; rw [if_pos ⟨shaped_ints.1, shaped_ints.1⟩]
  simp only [PyData.eqv, eqvAll_ints]
theorem x_eqLs {xs ys : List Int} : eqD (.list (xs.map .int)) (.list (ys.map .int)) = some (decide (xs = ys)) := by
  unfold eqD; rw [if_pos ⟨shaped_ints.2, shaped_ints.2⟩]
  simp only [PyData.eqv, eqvAll_ints]
theorem x_eqT2 {a b c d : Int} : eqD (.tuple [.int a, .int b]) (.tuple [.int c, .int d]) = some (decide (a = c) && decide (b = d)) := by
  have := x_eqTs (xs := [a, b]) (ys := [c, d])
  simpa [Bool.decide_and] using this
theorem x_eqT3 {a b e c d f : Int} : eqD (.tuple [.int a, .int b, .int e]) (.tuple [.int c, .int d, .int f]) = some (decide (a = c) && (decide (b = d) && decide (e = f))) := by
  have := x_eqTs (xs := [a, b, e]) (ys := [c, d, f])
  simpa [Bool.decide_and] using this
theorem x_sz1 {f : List D → Rs} {a : D} : sizeE f (some ([a], env)) = some (f [a], env) := x_sizeE (by show (1 : Nat) ≤ sizeLine; decide)
theorem x_sz2 {f : List D → Rs} {a b : D} : sizeE f (some ([a, b], env)) = some (f [a, b], env) := x_sizeE (by show (2 : Nat) ≤ sizeLine; decide)
theorem x_sz3 {f : List D → Rs} {a b c : D} : sizeE f (some ([a, b, c], env)) = some (f [a, b, c], env) := x_sizeE (by show (3 : Nat) ≤ sizeLine; decide)
theorem x_sz4 {f : List D → Rs} {a b c d : D} : sizeE f (some ([a, b, c, d], env)) = some (f [a, b, c, d], env) := x_sizeE (by show (4 : Nat) ≤ sizeLine; decide)
theorem x_sz5 {f : List D → Rs} {a b c d g : D} : sizeE f (some ([a, b, c, d, g], env)) = some (f [a, b, c, d, g], env) := x_sizeE (by show (5 : Nat) ≤ sizeLine; decide)
theorem x_sz6 {f : List D → Rs} {a b c d g h : D} : sizeE f (some ([a, b, c, d, g, h], env)) = some (f [a, b, c, d, g, h], env) := x_sizeE (by show (6 : Nat) ≤ sizeLine; decide)
theorem x_mulD (h : -18446744073709551616 < i ∧ i < 18446744073709551616) : binR .mul (.int i) (.int j) = some (.v (.int (i * j))) := x_mul' (by
  have : i.natAbs < 2 ^ 64 := by omega
  unfold mulOk; simp [this])
theorem x_mulE (h : -18446744073709551616 < j ∧ j < 18446744073709551616) : binR .mul (.int i) (.int j) = some (.v (.int (i * j))) := x_mul' (by
  have : j.natAbs < 2 ^ 64 := by omega
  unfold mulOk; simp [this])
theorem x_fdivD (h : 0 < j ∧ j < 18446744073709551616) : binR .fdiv (.int i) (.int j) = some (.v (.int (i / j))) := x_fdiv ⟨h.1, lt_big (by omega)⟩
theorem truN : truD .none = some false := rfl
theorem truB {b : Bool} : truD (.bool b) = some b := rfl
theorem truI : truD (.int i) = some (i != 0) := rfl
theorem x_isNn : isNonD .none = true := rfl
theorem x_isNi : isNonD (.int i) = false := rfl
theorem x_isNt : isNonD (.tuple xs) = false := rfl
theorem x_isNl : isNonD (.list xs) = false := rfl
theorem x_isIi : isD (.int i) .int = true := rfl
theorem x_isIb : isD (.int i) .bool = false := rfl
theorem x_isBb {b : Bool} : isD (.bool b) .bool = true := rfl
theorem x_isBi {b : Bool} : isD (.bool b) .int = true := rfl
theorem x_isTt : isD (.tuple xs) .tuple = true := rfl
theorem x_isLl : isD (.list xs) .list = true := rfl
theorem x_isTl : isD (.tuple xs) .list = false := rfl
theorem x_isLt : isD (.list xs) .tuple = false := rfl
theorem x_rng {n : Nat} (h : n ≤ 1000000) : rng2 0 (n : Int) = some (ranges 0 1 n) := by
  have a : rngOk 0 = true := by decide
  have b : rngOk (n : Int) = true := by
    unfold rngOk; exact decide_eq_true (by omega)
  unfold rng2
  rw [a, b]
  simp
theorem x_revL : revR (.list xs) = some (.o xs.reverse) := rfl
theorem x_revT : revR (.tuple xs) = some (.v (.tuple xs.reverse)) := rfl
theorem x_len : b1R .len (.list xs) = some (.v (.int xs.length)) := rfl
theorem x_lenT : b1R .len (.tuple xs) = some (.v (.int xs.length)) := rfl
theorem x_abs : b1R .abs (.int i) = some (.v (.int (if i < 0 then -i else i))) := rfl
theorem x_int : b1R .int (.int i) = some (.v (.int i)) := rfl
theorem x_intq : D.int? (.int i) = some i := rfl
theorem x_ixL : idxD (.list xs) (.int i) = atI xs i := rfl
theorem x_ixT : idxD (.tuple xs) (.int i) = atI xs i := rfl
theorem x_isI {t : Ty} : isD (.int i) t = match t with | .int => true | _ => false := by cases t <;> rfl
theorem at_nat {xs : List α} (k : Nat) : atI xs (k : Int) = xs[k]? := by
  unfold atI ixN
  rw [if_pos (by omega)]
  by_cases h : (k : Int) < xs.length
  · rw [if_pos h]; rfl
  · rw [if_neg h, List.getElem?_eq_none (by omega)]; rfl
theorem at_0 {xs : List α} : atI xs 0 = xs[0]? := at_nat 0
theorem at_1 {xs : List α} : atI xs 1 = xs[1]? := at_nat 1
theorem at_2 {xs : List α} : atI xs 2 = xs[2]? := at_nat 2
theorem at_3 {xs : List α} : atI xs 3 = xs[3]? := at_nat 3
theorem at_4 {xs : List α} : atI xs 4 = xs[4]? := at_nat 4
theorem at_5 {xs : List α} : atI xs 5 = xs[5]? := at_nat 5
theorem at_get {xs : List α} (h0 : 0 ≤ i) (h1 : i < xs.length) : atI xs i = some (xs[i.toNat]'(by omega)) := by
  obtain ⟨k, rfl⟩ := Int.eq_ofNat_of_zero_le h0
  rw [at_nat, List.getElem?_eq_getElem (by simpa using h1)]
  rfl
end
/-- the fuel, unseen -/
theorem whl_W (C : CT) : ∃ w : Nat, (∀ m, m < 2 ^ 64 → m < w) ∧ ∀ (c : E) (b : Ss) (s0 : Sl) (r : Ev), evS C (.whl c b) (s0 :: r) = whl (fun e => asB (evX C c true e)) (evSs C b) w (s0 :: r) :=
  ⟨W, fun m h => h, fun c b s0 r => y_whl⟩
theorem z_0 : (0 : Nat) ≤ sizeLine := by decide
theorem z_1 : (1 : Nat) ≤ sizeLine := by decide
theorem z_2 : (2 : Nat) ≤ sizeLine := by decide
theorem z_3 : (3 : Nat) ≤ sizeLine := by decide
theorem z_4 : (4 : Nat) ≤ sizeLine := by decide
theorem z_5 : (5 : Nat) ≤ sizeLine := by decide
theorem z_6 : (6 : Nat) ≤ sizeLine := by decide
theorem z_7 : (7 : Nat) ≤ sizeLine := by decide
theorem z_8 : (8 : Nat) ≤ sizeLine := by decide
theorem z_9 : (9 : Nat) ≤ sizeLine := by decide
theorem z_10 : (10 : Nat) ≤ sizeLine := by decide
theorem z_11 : (11 : Nat) ≤ sizeLine := by decide
theorem z_12 : (12 : Nat) ≤ sizeLine := by decide
theorem w_0 : (0 : Nat) < sizeLine := by decide
theorem w_1 : (1 : Nat) < sizeLine := by decide
theorem w_2 : (2 : Nat) < sizeLine := by decide
theorem w_3 : (3 : Nat) < sizeLine := by decide
theorem w_4 : (4 : Nat) < sizeLine := by decide
theorem w_5 : (5 : Nat) < sizeLine := by decide
theorem w_6 : (6 : Nat) < sizeLine := by decide
theorem w_7 : (7 : Nat) < sizeLine := by decide
theorem w_8 : (8 : Nat) < sizeLine := by decide
theorem w_9 : (9 : Nat) < sizeLine := by decide
theorem w_10 : (10 : Nat) < sizeLine := by decide
theorem w_11 : (11 : Nat) < sizeLine := by decide
theorem w_12 : (12 : Nat) < sizeLine := by decide
theorem ix_1_0 : ixN 1 0 = some 0 := by decide
theorem ix_2_0 : ixN 2 0 = some 0 := by decide
theorem ix_2_1 : ixN 2 1 = some 1 := by decide
theorem ix_3_0 : ixN 3 0 = some 0 := by decide
theorem ix_3_1 : ixN 3 1 = some 1 := by decide
theorem ix_3_2 : ixN 3 2 = some 2 := by decide
theorem ix_4_0 : ixN 4 0 = some 0 := by decide
theorem ix_4_1 : ixN 4 1 = some 1 := by decide
theorem ix_4_2 : ixN 4 2 = some 2 := by decide
theorem ix_4_3 : ixN 4 3 = some 3 := by decide
theorem ix_5_0 : ixN 5 0 = some 0 := by decide
theorem ix_5_1 : ixN 5 1 = some 1 := by decide
theorem ix_5_2 : ixN 5 2 = some 2 := by decide
theorem ix_5_3 : ixN 5 3 = some 3 := by decide
theorem ix_5_4 : ixN 5 4 = some 4 := by decide
theorem ix_6_0 : ixN 6 0 = some 0 := by decide
theorem ix_6_1 : ixN 6 1 = some 1 := by decide
theorem ix_6_2 : ixN 6 2 = some 2 := by decide
theorem ix_6_3 : ixN 6 3 = some 3 := by decide
theorem ix_6_4 : ixN 6 4 = some 4 := by decide
theorem ix_6_5 : ixN 6 5 = some 5 := by decide
theorem ix_7_0 : ixN 7 0 = some 0 := by decide
theorem ix_7_1 : ixN 7 1 = some 1 := by decide
theorem ix_7_2 : ixN 7 2 = some 2 := by decide
theorem ix_7_3 : ixN 7 3 = some 3 := by decide
theorem ix_7_4 : ixN 7 4 = some 4 := by decide
theorem ix_7_5 : ixN 7 5 = some 5 := by decide
theorem ix_7_6 : ixN 7 6 = some 6 := by decide
theorem ct_0 : ((0 : Nat) : Int) = 0 := rfl
theorem ct_1 : ((1 : Nat) : Int) = 1 := rfl
theorem ct_2 : ((2 : Nat) : Int) = 2 := rfl
theorem ct_3 : ((3 : Nat) : Int) = 3 := rfl
theorem ct_4 : ((4 : Nat) : Int) = 4 := rfl
theorem ct_5 : ((5 : Nat) : Int) = 5 := rfl
theorem ct_6 : ((6 : Nat) : Int) = 6 := rfl
theorem ct_7 : ((7 : Nat) : Int) = 7 := rfl
theorem ct_8 : ((8 : Nat) : Int) = 8 := rfl
theorem ct_9 : ((9 : Nat) : Int) = 9 := rfl
theorem ct_10 : ((10 : Nat) : Int) = 10 := rfl
theorem ct_11 : ((11 : Nat) : Int) = 11 := rfl
theorem ct_12 : ((12 : Nat) : Int) = 12 := rfl
theorem q_48271 {a : Int} : mulOk a 48271 = true := by unfold mulOk; simp
end KX

set_option Elab.async false
set_option linter.all false
set_option maxHeartbeats 4000000
set_option maxRecDepth 100000
/-! KD: the two defs that every law opens with. -/
namespace KX
open PySem PySem.Spec PyProof.Rows L2
def K_start : Fn := { np := 1, ns := 3, body := (.cons (.asg 1 (.con (.int 7))) (.cons (.for_ (.nm 2) (.seq (.slice (.var 0) .none (.some (.con (.int 63))))) (.cons (.asg 1 (.bin .add (.bin .mod (.b1 .int (.bin .add (.bin .mul (.var 1) (.con (.int 48271))) (.var 2))) (.con (.int 2147483629))) (.con (.int 1)))) .nil)) (.cons (.ret (.lst (.cons (.comp (.b1 .abs (.b1 .int (.var 2))) (.nm 2) (.seq (.slice (.var 0) .none (.some (.con (.int 63))))) .none [2]) (.cons (.con (.int 0)) (.cons (.con (.int 0)) (.cons (.con (.int 0)) (.cons (.var 1) (.cons (.con (.int 0)) .nil)))))))) .nil))) }
def K_draw : Fn := { np := 2, ns := 3, body := (.cons (.ite (.and (.cmp .eq (.idx (.var 0) (.con (.int 3))) (.con (.int 0))) (.cmp .lt (.idx (.var 0) (.con (.int 1))) (.b1 .len (.idx (.var 0) (.con (.int 0)))))) (.cons (.stp [.sub 0 (.con (.int 2)), .sub 0 (.con (.int 3)), .sub 0 (.con (.int 1))] (.cons (.idx (.idx (.var 0) (.con (.int 0))) (.idx (.var 0) (.con (.int 1)))) (.cons (.con (.int 60)) (.cons (.bin .add (.idx (.var 0) (.con (.int 1))) (.con (.int 1))) .nil)))) .nil) .nil) (.cons (.ite (.cmp .gt (.idx (.var 0) (.con (.int 3))) (.con (.int 0))) (.cons (.asg 2 (.bin .mod (.b1 .int (.idx (.var 0) (.con (.int 2)))) (.var 1))) (.cons (.st 0 (.con (.int 2)) (.bin .fdiv (.idx (.var 0) (.con (.int 2))) (.var 1))) (.cons (.st 0 (.con (.int 3)) (.ite (.cmp .gt (.idx (.var 0) (.con (.int 2))) (.con (.int 0))) (.bin .sub (.idx (.var 0) (.con (.int 3))) (.con (.int 1))) (.con (.int 0)))) (.cons (.ret (.var 2)) .nil)))) .nil) (.cons (.st 0 (.con (.int 5)) (.bin .add (.idx (.var 0) (.con (.int 5))) (.con (.int 1)))) (.cons (.st 0 (.con (.int 4)) (.bin .mod (.b1 .int (.bin .add (.bin .add (.bin .mul (.idx (.var 0) (.con (.int 4))) (.con (.int 48271))) (.bin .mul (.bin .mul (.idx (.var 0) (.con (.int 5))) (.idx (.var 0) (.con (.int 5)))) (.con (.int 69621)))) (.con (.int 11)))) (.con (.int 2147483647)))) (.cons (.ret (.bin .mod (.b1 .int (.bin .fdiv (.idx (.var 0) (.con (.int 4))) (.con (.int 13)))) (.var 1))) .nil))))) }
/-- the drawer's state -/
structure LS where
  cs : List Int
  i : Int
  cur : Int
  left : Int
  seed : Int
  cnt : Int
def LS.d (s : LS) : List D := [.list (s.cs.map .int), .int s.i, .int s.cur, .int s.left, .int s.seed, .int s.cnt]
structure LS.ok (s : LS) (n : Nat) : Prop where
  i : 0 ≤ s.i
  c0 : 0 ≤ s.cnt
  cn : s.cnt ≤ n
theorem LS.ok.mono {s : LS} {n m : Nat} (h : s.ok n) (hm : n ≤ m) : s.ok m := ⟨h.i, h.c0, Int.le_trans h.cn (Int.ofNat_le.mpr hm)⟩
theorem nat_big {n : Nat} (h : n < 2 ^ 250) : n < big := lt_big h
theorem ix6 {n : Nat} {k : Int} (j : Nat) (hk : k = (j : Int)) (h : j < n) : ixN n k = some j := by
  subst hk
  unfold ixN
  rw [if_pos (by omega), if_pos (by exact_mod_cast h)]; simp
theorem mul_r {a b : Int} (h : b.natAbs < 2 ^ 64) : mulOk a b = true := by
  unfold mulOk; simp [h]
theorem mul_l {a b : Int} (h : a.natAbs < 2 ^ 64) : mulOk a b = true := by
  unfold mulOk; simp [h]
theorem mul_sq {a : Int} {n : Nat} (h0 : 0 ≤ a) (h : a ≤ n) (hn : n < 2 ^ 250) : mulOk a a = true := by
  have : a.natAbs < big := Nat.lt_of_le_of_lt (by omega) (nat_big hn)
  unfold mulOk; simp [this]
theorem at_map {cs : List Int} {i : Int} (h0 : 0 ≤ i) (h1 : i < cs.length) : ∃ c : Int, atI (cs.map PyData.int) i = some (.int c) := by
  rw [at_get h0 (by simpa using h1)]
  exact ⟨_, by rw [List.getElem_map]⟩
theorem draw_spec {C : CT} {s : LS} {n : Nat} {many : Int} (ok : s.ok n) (hn : n + 1 < 2 ^ 250) (h0 : 0 < many) (h1 : many < 2 ^ 250) : ∃ (s' : LS) (r : Int), runFn C K_draw [.io s.d, .v (.int many)] = some (.v (.int r), [.io s'.d, .v (.int many)]) ∧ s'.ok (n + 1) ∧ 0 ≤ r ∧ r < many := by
  obtain ⟨cs, i, cur, left, seed, cnt⟩ := s
  obtain ⟨hi, hc0, hcn⟩ := ok
  dsimp only at hi hc0 hcn
  have hb : 0 < many ∧ many.natAbs < big := ⟨h0, nat_big (by omega)⟩
  have i6 : ∀ (a b c d e f : D), (([a, b, c, d, e, f] : List D).length) = 6 := fun _ _ _ _ _ _ => rfl
  have j1 : ixN 6 1 = some 1 := by decide
  have j2 : ixN 6 2 = some 2 := by decide
  have j3 : ixN 6 3 = some 3 := by decide
  have j4 : ixN 6 4 = some 4 := by decide
  have j5 : ixN 6 5 = some 5 := by decide
  have m1 : ∀ a : Int, mulOk a 48271 = true := fun a => mul_r (by decide)
  have m2 : ∀ a : Int, mulOk a 69621 = true := fun a => mul_r (by decide)
  have z4 : (4 : Nat) ≤ sizeLine := by decide
  have z3 : 3 ≤ sizeLine := by decide
  have d13 : (0 : Int) < 13 ∧ (13 : Int).natAbs < big := ⟨by decide, nat_big (by decide)⟩
  have p31 : (0 : Int) < 2147483647 := by decide
  have h060 : (0 : Int) < 60 := by decide
  by_cases hl : left = 0
  · subst hl
    by_cases hlen : i < cs.length
    · obtain ⟨c, hc⟩ := at_map hi hlen
      by_cases hq : 0 < c / many
      · refine ⟨⟨cs, i + 1, c / many, 60 - 1, seed, cnt⟩, c % many, ?_, ⟨by show 0 ≤ i + 1; omega, hc0, by show cnt ≤ ((n + 1 : Nat) : Int); omega⟩, Int.emod_nonneg _ (by omega), Int.emod_lt_of_pos _ h0⟩
        rw [y_run (by rfl)]
        simp -implicitDefEqProofs only [LS.d, K_draw, E.var?, y_con, y_varF, y_varT, y_glo, y_bin, y_neg, y_notT, y_notF, y_andT, y_andF, y_orT, y_orF, y_ite, y_cmp, y_chain, y_tup, y_lst, y_rep, y_idx, y_slice, y_rev, y_call, y_b1, y_b2, y_isI, y_lrng, y_compN, y_compS, y_esN, y_esC, y_rsN, y_rsC, y_asN, y_asV, y_asI, y_oN, y_oS, y_itS, y_it1, y_it2, y_asg, y_par, y_stp, y_unp, y_st, y_app, y_expr, y_iteS, y_for, y_retN, y_pass, y_brk, y_cont, y_raise, y_ssN, y_ssC, y_tasN, y_tasC, y_taN, y_taS, y_aug, y_augV, y_ret, y_retS, y_retE, y_enm, y_enmL, y_enmT, y_zip, y_zipL, y_zipT, y_ext, y_extO, y_seqL, y_seqT, y_nsN, y_nsC, y_tgN, y_tgT, y_tgL, y_tgsN, y_tgsC, y_forN, y_forC, y_cmN, y_cmC, y_wipN, y_wipC, y_wipU, y_wipV, y_bakN, y_bakC, y_chainE, y_chain3, y_chain3E, y_it3, y_nodN, y_ioL, y_ioR, y_argN, y_argL, y_argR, y_argO, y_argI, y_bkN, y_bkL, y_bkR, y_bkO, y_bkI, y_callE, y_outN, y_outR, x_op1, x_op2, x_opdS, x_opdN, x_getS, x_getV, x_slV, x_slO, x_slI, x_rd, x_rdV, x_rdO, x_asg, x_asgU, x_asgV, x_asgO, x_ret, x_retV, x_retO, x_put, x_putO, x_putI, x_add, x_adO, x_adI, x_own, x_ownO, x_ownI, x_base, x_finF, x_finT, x_asB, x_ofB, x_bindB, x_withE, x_dV, x_dO, x_sV, x_sO, x_seqN, x_seqR, x_seqB, x_seqC, x_turnN, x_turnC, x_turnB, x_turnR, x_add', x_sub', x_lt, x_le, x_gt, x_ge, x_eq, x_ne, x_is, x_isn, x_inn, x_nin, shaped_int, shaped_bool, shaped_none, x_eqI, x_eqN, x_eqB, x_eqT2, x_eqT3, x_sz1, x_sz2, x_sz3, x_sz4, x_sz5, x_sz6, truN, truB, truI, x_isNn, x_isNi, x_isNt, x_isNl, x_isIi, x_isIb, x_isBb, x_isBi, x_isTt, x_isLl, x_isTl, x_isLt, x_len, x_lenT, x_abs, x_int, x_intq, x_ixL, x_ixT, at_0, at_1, at_2, at_3, at_4, at_5, z_0, z_1, z_2, z_3, z_4, z_5, z_6, z_7, z_8, z_9, z_10, z_11, z_12, w_0, w_1, w_2, w_3, w_4, w_5, w_6, w_7, w_8, w_9, w_10, w_11, w_12, ix_1_0, ix_2_0, ix_2_1, ix_3_0, ix_3_1, ix_3_2, ix_4_0, ix_4_1, ix_4_2, ix_4_3, ix_5_0, ix_5_1, ix_5_2, ix_5_3, ix_5_4, ix_6_0, ix_6_1, ix_6_2, ix_6_3, ix_6_4, ix_6_5, ix_7_0, ix_7_1, ix_7_2, ix_7_3, ix_7_4, ix_7_5, ix_7_6, Option.map_some, Option.bind_some, Option.map_none, Option.bind_none, List.getElem?_cons_zero, List.getElem?_cons_succ, List.set_cons_zero, List.set_cons_succ, List.cons_append, List.nil_append, List.length_cons, List.length_nil, List.replicate, if_true, Bool.false_eq_true, if_false, reduceIte, Nat.reduceAdd, Nat.reduceSub, List.append_nil, List.take_succ_cons, List.take_zero, List.map_nil, Option.getD_some, decide_true, decide_false, List.nodup_nil, y_nod1, Bool.not_true, Bool.not_false, List.map_cons, ct_0, ct_1, ct_2, ct_3, ct_4, ct_5, ct_6, ct_7, ct_8, ct_9, ct_10, ct_11, ct_12, Bool.and_true, Bool.true_and, Bool.and_false, Bool.false_and, x_revL, x_revT, x_fdiv hb, x_mod h0, hlen, hc, hq, decide_true, List.length_map, j1, j2, j3, z3, h060] <;> rfl
      · refine ⟨⟨cs, i + 1, c / many, 0, seed, cnt⟩, c % many, ?_, ⟨by show 0 ≤ i + 1; omega, hc0, by show cnt ≤ ((n + 1 : Nat) : Int); omega⟩, Int.emod_nonneg _ (by omega), Int.emod_lt_of_pos _ h0⟩
        rw [y_run (by rfl)]
        simp -implicitDefEqProofs only [LS.d, K_draw, E.var?, y_con, y_varF, y_varT, y_glo, y_bin, y_neg, y_notT, y_notF, y_andT, y_andF, y_orT, y_orF, y_ite, y_cmp, y_chain, y_tup, y_lst, y_rep, y_idx, y_slice, y_rev, y_call, y_b1, y_b2, y_isI, y_lrng, y_compN, y_compS, y_esN, y_esC, y_rsN, y_rsC, y_asN, y_asV, y_asI, y_oN, y_oS, y_itS, y_it1, y_it2, y_asg, y_par, y_stp, y_unp, y_st, y_app, y_expr, y_iteS, y_for, y_retN, y_pass, y_brk, y_cont, y_raise, y_ssN, y_ssC, y_tasN, y_tasC, y_taN, y_taS, y_aug, y_augV, y_ret, y_retS, y_retE, y_enm, y_enmL, y_enmT, y_zip, y_zipL, y_zipT, y_ext, y_extO, y_seqL, y_seqT, y_nsN, y_nsC, y_tgN, y_tgT, y_tgL, y_tgsN, y_tgsC, y_forN, y_forC, y_cmN, y_cmC, y_wipN, y_wipC, y_wipU, y_wipV, y_bakN, y_bakC, y_chainE, y_chain3, y_chain3E, y_it3, y_nodN, y_ioL, y_ioR, y_argN, y_argL, y_argR, y_argO, y_argI, y_bkN, y_bkL, y_bkR, y_bkO, y_bkI, y_callE, y_outN, y_outR, x_op1, x_op2, x_opdS, x_opdN, x_getS, x_getV, x_slV, x_slO, x_slI, x_rd, x_rdV, x_rdO, x_asg, x_asgU, x_asgV, x_asgO, x_ret, x_retV, x_retO, x_put, x_putO, x_putI, x_add, x_adO, x_adI, x_own, x_ownO, x_ownI, x_base, x_finF, x_finT, x_asB, x_ofB, x_bindB, x_withE, x_dV, x_dO, x_sV, x_sO, x_seqN, x_seqR, x_seqB, x_seqC, x_turnN, x_turnC, x_turnB, x_turnR, x_add', x_sub', x_lt, x_le, x_gt, x_ge, x_eq, x_ne, x_is, x_isn, x_inn, x_nin, shaped_int, shaped_bool, shaped_none, x_eqI, x_eqN, x_eqB, x_eqT2, x_eqT3, x_sz1, x_sz2, x_sz3, x_sz4, x_sz5, x_sz6, truN, truB, truI, x_isNn, x_isNi, x_isNt, x_isNl, x_isIi, x_isIb, x_isBb, x_isBi, x_isTt, x_isLl, x_isTl, x_isLt, x_len, x_lenT, x_abs, x_int, x_intq, x_ixL, x_ixT, at_0, at_1, at_2, at_3, at_4, at_5, z_0, z_1, z_2, z_3, z_4, z_5, z_6, z_7, z_8, z_9, z_10, z_11, z_12, w_0, w_1, w_2, w_3, w_4, w_5, w_6, w_7, w_8, w_9, w_10, w_11, w_12, ix_1_0, ix_2_0, ix_2_1, ix_3_0, ix_3_1, ix_3_2, ix_4_0, ix_4_1, ix_4_2, ix_4_3, ix_5_0, ix_5_1, ix_5_2, ix_5_3, ix_5_4, ix_6_0, ix_6_1, ix_6_2, ix_6_3, ix_6_4, ix_6_5, ix_7_0, ix_7_1, ix_7_2, ix_7_3, ix_7_4, ix_7_5, ix_7_6, Option.map_some, Option.bind_some, Option.map_none, Option.bind_none, List.getElem?_cons_zero, List.getElem?_cons_succ, List.set_cons_zero, List.set_cons_succ, List.cons_append, List.nil_append, List.length_cons, List.length_nil, List.replicate, if_true, Bool.false_eq_true, if_false, reduceIte, Nat.reduceAdd, Nat.reduceSub, List.append_nil, List.take_succ_cons, List.take_zero, List.map_nil, Option.getD_some, decide_true, decide_false, List.nodup_nil, y_nod1, Bool.not_true, Bool.not_false, List.map_cons, ct_0, ct_1, ct_2, ct_3, ct_4, ct_5, ct_6, ct_7, ct_8, ct_9, ct_10, ct_11, ct_12, Bool.and_true, Bool.true_and, Bool.and_false, Bool.false_and, x_revL, x_revT, x_fdiv hb, x_mod h0, hlen, hc, hq, decide_true, decide_false, List.length_map, j1, j2, j3, z3, h060] <;> rfl
    · have sq : mulOk (cnt + 1) (cnt + 1) = true := mul_sq (n := n + 1) (by omega) (by omega) hn
      refine ⟨⟨cs, i, cur, 0, (seed * 48271 + (cnt + 1) * (cnt + 1) * 69621 + 11) % 2147483647, cnt + 1⟩, (seed * 48271 + (cnt + 1) * (cnt + 1) * 69621 + 11) % 2147483647 / 13 % many, ?_, ⟨hi, by show 0 ≤ cnt + 1; omega, by show cnt + 1 ≤ ((n + 1 : Nat) : Int); omega⟩, Int.emod_nonneg _ (by omega), Int.emod_lt_of_pos _ h0⟩
      rw [y_run (by rfl)]
      simp -implicitDefEqProofs only [LS.d, K_draw, E.var?, y_con, y_varF, y_varT, y_glo, y_bin, y_neg, y_notT, y_notF, y_andT, y_andF, y_orT, y_orF, y_ite, y_cmp, y_chain, y_tup, y_lst, y_rep, y_idx, y_slice, y_rev, y_call, y_b1, y_b2, y_isI, y_lrng, y_compN, y_compS, y_esN, y_esC, y_rsN, y_rsC, y_asN, y_asV, y_asI, y_oN, y_oS, y_itS, y_it1, y_it2, y_asg, y_par, y_stp, y_unp, y_st, y_app, y_expr, y_iteS, y_for, y_retN, y_pass, y_brk, y_cont, y_raise, y_ssN, y_ssC, y_tasN, y_tasC, y_taN, y_taS, y_aug, y_augV, y_ret, y_retS, y_retE, y_enm, y_enmL, y_enmT, y_zip, y_zipL, y_zipT, y_ext, y_extO, y_seqL, y_seqT, y_nsN, y_nsC, y_tgN, y_tgT, y_tgL, y_tgsN, y_tgsC, y_forN, y_forC, y_cmN, y_cmC, y_wipN, y_wipC, y_wipU, y_wipV, y_bakN, y_bakC, y_chainE, y_chain3, y_chain3E, y_it3, y_nodN, y_ioL, y_ioR, y_argN, y_argL, y_argR, y_argO, y_argI, y_bkN, y_bkL, y_bkR, y_bkO, y_bkI, y_callE, y_outN, y_outR, x_op1, x_op2, x_opdS, x_opdN, x_getS, x_getV, x_slV, x_slO, x_slI, x_rd, x_rdV, x_rdO, x_asg, x_asgU, x_asgV, x_asgO, x_ret, x_retV, x_retO, x_put, x_putO, x_putI, x_add, x_adO, x_adI, x_own, x_ownO, x_ownI, x_base, x_finF, x_finT, x_asB, x_ofB, x_bindB, x_withE, x_dV, x_dO, x_sV, x_sO, x_seqN, x_seqR, x_seqB, x_seqC, x_turnN, x_turnC, x_turnB, x_turnR, x_add', x_sub', x_lt, x_le, x_gt, x_ge, x_eq, x_ne, x_is, x_isn, x_inn, x_nin, shaped_int, shaped_bool, shaped_none, x_eqI, x_eqN, x_eqB, x_eqT2, x_eqT3, x_sz1, x_sz2, x_sz3, x_sz4, x_sz5, x_sz6, truN, truB, truI, x_isNn, x_isNi, x_isNt, x_isNl, x_isIi, x_isIb, x_isBb, x_isBi, x_isTt, x_isLl, x_isTl, x_isLt, x_len, x_lenT, x_abs, x_int, x_intq, x_ixL, x_ixT, at_0, at_1, at_2, at_3, at_4, at_5, z_0, z_1, z_2, z_3, z_4, z_5, z_6, z_7, z_8, z_9, z_10, z_11, z_12, w_0, w_1, w_2, w_3, w_4, w_5, w_6, w_7, w_8, w_9, w_10, w_11, w_12, ix_1_0, ix_2_0, ix_2_1, ix_3_0, ix_3_1, ix_3_2, ix_4_0, ix_4_1, ix_4_2, ix_4_3, ix_5_0, ix_5_1, ix_5_2, ix_5_3, ix_5_4, ix_6_0, ix_6_1, ix_6_2, ix_6_3, ix_6_4, ix_6_5, ix_7_0, ix_7_1, ix_7_2, ix_7_3, ix_7_4, ix_7_5, ix_7_6, Option.map_some, Option.bind_some, Option.map_none, Option.bind_none, List.getElem?_cons_zero, List.getElem?_cons_succ, List.set_cons_zero, List.set_cons_succ, List.cons_append, List.nil_append, List.length_cons, List.length_nil, List.replicate, if_true, Bool.false_eq_true, if_false, reduceIte, Nat.reduceAdd, Nat.reduceSub, List.append_nil, List.take_succ_cons, List.take_zero, List.map_nil, Option.getD_some, decide_true, decide_false, List.nodup_nil, y_nod1, Bool.not_true, Bool.not_false, List.map_cons, ct_0, ct_1, ct_2, ct_3, ct_4, ct_5, ct_6, ct_7, ct_8, ct_9, ct_10, ct_11, ct_12, Bool.and_true, Bool.true_and, Bool.and_false, Bool.false_and, x_revL, x_revT, x_fdiv d13, x_mod h0, x_mod p31, x_mul' (m1 _), x_mul' (m2 _), x_mul' sq, hlen, decide_true, decide_false, List.length_map, j4, j5, Int.lt_irrefl] <;> rfl
  · by_cases hl' : 0 < left
    · by_cases hq : 0 < cur / many
      · refine ⟨⟨cs, i, cur / many, left - 1, seed, cnt⟩, cur % many, ?_, ⟨hi, hc0, by show cnt ≤ ((n + 1 : Nat) : Int); omega⟩, Int.emod_nonneg _ (by omega), Int.emod_lt_of_pos _ h0⟩
        rw [y_run (by rfl)]
        simp -implicitDefEqProofs only [LS.d, K_draw, E.var?, y_con, y_varF, y_varT, y_glo, y_bin, y_neg, y_notT, y_notF, y_andT, y_andF, y_orT, y_orF, y_ite, y_cmp, y_chain, y_tup, y_lst, y_rep, y_idx, y_slice, y_rev, y_call, y_b1, y_b2, y_isI, y_lrng, y_compN, y_compS, y_esN, y_esC, y_rsN, y_rsC, y_asN, y_asV, y_asI, y_oN, y_oS, y_itS, y_it1, y_it2, y_asg, y_par, y_stp, y_unp, y_st, y_app, y_expr, y_iteS, y_for, y_retN, y_pass, y_brk, y_cont, y_raise, y_ssN, y_ssC, y_tasN, y_tasC, y_taN, y_taS, y_aug, y_augV, y_ret, y_retS, y_retE, y_enm, y_enmL, y_enmT, y_zip, y_zipL, y_zipT, y_ext, y_extO, y_seqL, y_seqT, y_nsN, y_nsC, y_tgN, y_tgT, y_tgL, y_tgsN, y_tgsC, y_forN, y_forC, y_cmN, y_cmC, y_wipN, y_wipC, y_wipU, y_wipV, y_bakN, y_bakC, y_chainE, y_chain3, y_chain3E, y_it3, y_nodN, y_ioL, y_ioR, y_argN, y_argL, y_argR, y_argO, y_argI, y_bkN, y_bkL, y_bkR, y_bkO, y_bkI, y_callE, y_outN, y_outR, x_op1, x_op2, x_opdS, x_opdN, x_getS, x_getV, x_slV, x_slO, x_slI, x_rd, x_rdV, x_rdO, x_asg, x_asgU, x_asgV, x_asgO, x_ret, x_retV, x_retO, x_put, x_putO, x_putI, x_add, x_adO, x_adI, x_own, x_ownO, x_ownI, x_base, x_finF, x_finT, x_asB, x_ofB, x_bindB, x_withE, x_dV, x_dO, x_sV, x_sO, x_seqN, x_seqR, x_seqB, x_seqC, x_turnN, x_turnC, x_turnB, x_turnR, x_add', x_sub', x_lt, x_le, x_gt, x_ge, x_eq, x_ne, x_is, x_isn, x_inn, x_nin, shaped_int, shaped_bool, shaped_none, x_eqI, x_eqN, x_eqB, x_eqT2, x_eqT3, x_sz1, x_sz2, x_sz3, x_sz4, x_sz5, x_sz6, truN, truB, truI, x_isNn, x_isNi, x_isNt, x_isNl, x_isIi, x_isIb, x_isBb, x_isBi, x_isTt, x_isLl, x_isTl, x_isLt, x_len, x_lenT, x_abs, x_int, x_intq, x_ixL, x_ixT, at_0, at_1, at_2, at_3, at_4, at_5, z_0, z_1, z_2, z_3, z_4, z_5, z_6, z_7, z_8, z_9, z_10, z_11, z_12, w_0, w_1, w_2, w_3, w_4, w_5, w_6, w_7, w_8, w_9, w_10, w_11, w_12, ix_1_0, ix_2_0, ix_2_1, ix_3_0, ix_3_1, ix_3_2, ix_4_0, ix_4_1, ix_4_2, ix_4_3, ix_5_0, ix_5_1, ix_5_2, ix_5_3, ix_5_4, ix_6_0, ix_6_1, ix_6_2, ix_6_3, ix_6_4, ix_6_5, ix_7_0, ix_7_1, ix_7_2, ix_7_3, ix_7_4, ix_7_5, ix_7_6, Option.map_some, Option.bind_some, Option.map_none, Option.bind_none, List.getElem?_cons_zero, List.getElem?_cons_succ, List.set_cons_zero, List.set_cons_succ, List.cons_append, List.nil_append, List.length_cons, List.length_nil, List.replicate, if_true, Bool.false_eq_true, if_false, reduceIte, Nat.reduceAdd, Nat.reduceSub, List.append_nil, List.take_succ_cons, List.take_zero, List.map_nil, Option.getD_some, decide_true, decide_false, List.nodup_nil, y_nod1, Bool.not_true, Bool.not_false, List.map_cons, ct_0, ct_1, ct_2, ct_3, ct_4, ct_5, ct_6, ct_7, ct_8, ct_9, ct_10, ct_11, ct_12, Bool.and_true, Bool.true_and, Bool.and_false, Bool.false_and, x_revL, x_revT, x_fdiv hb, x_mod h0, hl, hl', hq, decide_true, decide_false, List.length_map, j1, j2, j3, z3] <;> rfl
      · refine ⟨⟨cs, i, cur / many, 0, seed, cnt⟩, cur % many, ?_, ⟨hi, hc0, by show cnt ≤ ((n + 1 : Nat) : Int); omega⟩, Int.emod_nonneg _ (by omega), Int.emod_lt_of_pos _ h0⟩
        rw [y_run (by rfl)]
        simp -implicitDefEqProofs only [LS.d, K_draw, E.var?, y_con, y_varF, y_varT, y_glo, y_bin, y_neg, y_notT, y_notF, y_andT, y_andF, y_orT, y_orF, y_ite, y_cmp, y_chain, y_tup, y_lst, y_rep, y_idx, y_slice, y_rev, y_call, y_b1, y_b2, y_isI, y_lrng, y_compN, y_compS, y_esN, y_esC, y_rsN, y_rsC, y_asN, y_asV, y_asI, y_oN, y_oS, y_itS, y_it1, y_it2, y_asg, y_par, y_stp, y_unp, y_st, y_app, y_expr, y_iteS, y_for, y_retN, y_pass, y_brk, y_cont, y_raise, y_ssN, y_ssC, y_tasN, y_tasC, y_taN, y_taS, y_aug, y_augV, y_ret, y_retS, y_retE, y_enm, y_enmL, y_enmT, y_zip, y_zipL, y_zipT, y_ext, y_extO, y_seqL, y_seqT, y_nsN, y_nsC, y_tgN, y_tgT, y_tgL, y_tgsN, y_tgsC, y_forN, y_forC, y_cmN, y_cmC, y_wipN, y_wipC, y_wipU, y_wipV, y_bakN, y_bakC, y_chainE, y_chain3, y_chain3E, y_it3, y_nodN, y_ioL, y_ioR, y_argN, y_argL, y_argR, y_argO, y_argI, y_bkN, y_bkL, y_bkR, y_bkO, y_bkI, y_callE, y_outN, y_outR, x_op1, x_op2, x_opdS, x_opdN, x_getS, x_getV, x_slV, x_slO, x_slI, x_rd, x_rdV, x_rdO, x_asg, x_asgU, x_asgV, x_asgO, x_ret, x_retV, x_retO, x_put, x_putO, x_putI, x_add, x_adO, x_adI, x_own, x_ownO, x_ownI, x_base, x_finF, x_finT, x_asB, x_ofB, x_bindB, x_withE, x_dV, x_dO, x_sV, x_sO, x_seqN, x_seqR, x_seqB, x_seqC, x_turnN, x_turnC, x_turnB, x_turnR, x_add', x_sub', x_lt, x_le, x_gt, x_ge, x_eq, x_ne, x_is, x_isn, x_inn, x_nin, shaped_int, shaped_bool, shaped_none, x_eqI, x_eqN, x_eqB, x_eqT2, x_eqT3, x_sz1, x_sz2, x_sz3, x_sz4, x_sz5, x_sz6, truN, truB, truI, x_isNn, x_isNi, x_isNt, x_isNl, x_isIi, x_isIb, x_isBb, x_isBi, x_isTt, x_isLl, x_isTl, x_isLt, x_len, x_lenT, x_abs, x_int, x_intq, x_ixL, x_ixT, at_0, at_1, at_2, at_3, at_4, at_5, z_0, z_1, z_2, z_3, z_4, z_5, z_6, z_7, z_8, z_9, z_10, z_11, z_12, w_0, w_1, w_2, w_3, w_4, w_5, w_6, w_7, w_8, w_9, w_10, w_11, w_12, ix_1_0, ix_2_0, ix_2_1, ix_3_0, ix_3_1, ix_3_2, ix_4_0, ix_4_1, ix_4_2, ix_4_3, ix_5_0, ix_5_1, ix_5_2, ix_5_3, ix_5_4, ix_6_0, ix_6_1, ix_6_2, ix_6_3, ix_6_4, ix_6_5, ix_7_0, ix_7_1, ix_7_2, ix_7_3, ix_7_4, ix_7_5, ix_7_6, Option.map_some, Option.bind_some, Option.map_none, Option.bind_none, List.getElem?_cons_zero, List.getElem?_cons_succ, List.set_cons_zero, List.set_cons_succ, List.cons_append, List.nil_append, List.length_cons, List.length_nil, List.replicate, if_true, Bool.false_eq_true, if_false, reduceIte, Nat.reduceAdd, Nat.reduceSub, List.append_nil, List.take_succ_cons, List.take_zero, List.map_nil, Option.getD_some, decide_true, decide_false, List.nodup_nil, y_nod1, Bool.not_true, Bool.not_false, List.map_cons, ct_0, ct_1, ct_2, ct_3, ct_4, ct_5, ct_6, ct_7, ct_8, ct_9, ct_10, ct_11, ct_12, Bool.and_true, Bool.true_and, Bool.and_false, Bool.false_and, x_revL, x_revT, x_fdiv hb, x_mod h0, hl, hl', hq, decide_true, decide_false, List.length_map, j1, j2, j3, z3] <;> rfl
    · have sq : mulOk (cnt + 1) (cnt + 1) = true := mul_sq (n := n + 1) (by omega) (by omega) hn
      refine ⟨⟨cs, i, cur, left, (seed * 48271 + (cnt + 1) * (cnt + 1) * 69621 + 11) % 2147483647, cnt + 1⟩, (seed * 48271 + (cnt + 1) * (cnt + 1) * 69621 + 11) % 2147483647 / 13 % many, ?_, ⟨hi, by show 0 ≤ cnt + 1; omega, by show cnt + 1 ≤ ((n + 1 : Nat) : Int); omega⟩, Int.emod_nonneg _ (by omega), Int.emod_lt_of_pos _ h0⟩
      rw [y_run (by rfl)]
      simp -implicitDefEqProofs only [LS.d, K_draw, E.var?, y_con, y_varF, y_varT, y_glo, y_bin, y_neg, y_notT, y_notF, y_andT, y_andF, y_orT, y_orF, y_ite, y_cmp, y_chain, y_tup, y_lst, y_rep, y_idx, y_slice, y_rev, y_call, y_b1, y_b2, y_isI, y_lrng, y_compN, y_compS, y_esN, y_esC, y_rsN, y_rsC, y_asN, y_asV, y_asI, y_oN, y_oS, y_itS, y_it1, y_it2, y_asg, y_par, y_stp, y_unp, y_st, y_app, y_expr, y_iteS, y_for, y_retN, y_pass, y_brk, y_cont, y_raise, y_ssN, y_ssC, y_tasN, y_tasC, y_taN, y_taS, y_aug, y_augV, y_ret, y_retS, y_retE, y_enm, y_enmL, y_enmT, y_zip, y_zipL, y_zipT, y_ext, y_extO, y_seqL, y_seqT, y_nsN, y_nsC, y_tgN, y_tgT, y_tgL, y_tgsN, y_tgsC, y_forN, y_forC, y_cmN, y_cmC, y_wipN, y_wipC, y_wipU, y_wipV, y_bakN, y_bakC, y_chainE, y_chain3, y_chain3E, y_it3, y_nodN, y_ioL, y_ioR, y_argN, y_argL, y_argR, y_argO, y_argI, y_bkN, y_bkL, y_bkR, y_bkO, y_bkI, y_callE, y_outN, y_outR, x_op1, x_op2, x_opdS, x_opdN, x_getS, x_getV, x_slV, x_slO, x_slI, x_rd, x_rdV, x_rdO, x_asg, x_asgU, x_asgV, x_asgO, x_ret, x_retV, x_retO, x_put, x_putO, x_putI, x_add, x_adO, x_adI, x_own, x_ownO, x_ownI, x_base, x_finF, x_finT, x_asB, x_ofB, x_bindB, x_withE, x_dV, x_dO, x_sV, x_sO, x_seqN, x_seqR, x_seqB, x_seqC, x_turnN, x_turnC, x_turnB, x_turnR, x_add', x_sub', x_lt, x_le, x_gt, x_ge, x_eq, x_ne, x_is, x_isn, x_inn, x_nin, shaped_int, shaped_bool, shaped_none, x_eqI, x_eqN, x_eqB, x_eqT2, x_eqT3, x_sz1, x_sz2, x_sz3, x_sz4, x_sz5, x_sz6, truN, truB, truI, x_isNn, x_isNi, x_isNt, x_isNl, x_isIi, x_isIb, x_isBb, x_isBi, x_isTt, x_isLl, x_isTl, x_isLt, x_len, x_lenT, x_abs, x_int, x_intq, x_ixL, x_ixT, at_0, at_1, at_2, at_3, at_4, at_5, z_0, z_1, z_2, z_3, z_4, z_5, z_6, z_7, z_8, z_9, z_10, z_11, z_12, w_0, w_1, w_2, w_3, w_4, w_5, w_6, w_7, w_8, w_9, w_10, w_11, w_12, ix_1_0, ix_2_0, ix_2_1, ix_3_0, ix_3_1, ix_3_2, ix_4_0, ix_4_1, ix_4_2, ix_4_3, ix_5_0, ix_5_1, ix_5_2, ix_5_3, ix_5_4, ix_6_0, ix_6_1, ix_6_2, ix_6_3, ix_6_4, ix_6_5, ix_7_0, ix_7_1, ix_7_2, ix_7_3, ix_7_4, ix_7_5, ix_7_6, Option.map_some, Option.bind_some, Option.map_none, Option.bind_none, List.getElem?_cons_zero, List.getElem?_cons_succ, List.set_cons_zero, List.set_cons_succ, List.cons_append, List.nil_append, List.length_cons, List.length_nil, List.replicate, if_true, Bool.false_eq_true, if_false, reduceIte, Nat.reduceAdd, Nat.reduceSub, List.append_nil, List.take_succ_cons, List.take_zero, List.map_nil, Option.getD_some, decide_true, decide_false, List.nodup_nil, y_nod1, Bool.not_true, Bool.not_false, List.map_cons, ct_0, ct_1, ct_2, ct_3, ct_4, ct_5, ct_6, ct_7, ct_8, ct_9, ct_10, ct_11, ct_12, Bool.and_true, Bool.true_and, Bool.and_false, Bool.false_and, x_revL, x_revT, x_fdiv d13, x_mod h0, x_mod p31, x_mul' (m1 _), x_mul' (m2 _), x_mul' sq, hl, hl', decide_true, decide_false, List.length_map, j4, j5] <;> rfl

/-! ### the start -/
def Emp : Sl → Prop
  | .un => True
  | .v _ => True
  | _ => False
theorem cut63 {α : Type} {xs : List α} (h : xs.length ≤ 63) : cutL xs none (some 63) = xs := by
  have e : HT.sIx xs.length xs.length (some 63) = min 63 xs.length := HT.sIx_nat xs.length xs.length 63
  have e0 : HT.sIx xs.length 0 none = 0 := rfl
  unfold cutL
  rw [e, e0]
  simp [Nat.min_eq_right h]
theorem start_for {C : CT} {d0 : D} : ∀ (l : List Int) (seed : Int) (s : Sl), Emp s → ∃ (seed' : Int) (s' : Sl), Emp s' ∧
    forl (bindT (.nm 2)) (evSs C (.cons (.asg 1 (.bin .add (.bin .mod (.b1 .int (.bin .add (.bin .mul (.var 1) (.con (.int 48271))) (.var 2))) (.con (.int 2147483629))) (.con (.int 1)))) .nil)) (l.map PyData.int) [.v d0, .v (.int seed), s] = some (.nx [.v d0, .v (.int seed'), s'])
  | [], seed, s, e => ⟨seed, s, e, rfl⟩
  | c :: l, seed, s, e => by
    have m1 : ∀ a : Int, mulOk a 48271 = true := fun a => mul_r (by decide)
    have p : (0 : Int) < 2147483629 := by decide
    obtain ⟨seed', s', e', h⟩ := start_for (C := C) (d0 := d0) l ((seed * 48271 + c) % 2147483629 + 1) (.v (.int c)) trivial
    refine ⟨seed', s', e', ?_⟩
    rw [← h]
    cases s <;> first | (exact e.elim) | (simp -implicitDefEqProofs only [List.map_cons, forl, bindT, E.var?, y_con, y_varF, y_varT, y_glo, y_bin, y_neg, y_notT, y_notF, y_andT, y_andF, y_orT, y_orF, y_ite, y_cmp, y_chain, y_tup, y_lst, y_rep, y_idx, y_slice, y_rev, y_call, y_b1, y_b2, y_isI, y_lrng, y_compN, y_compS, y_esN, y_esC, y_rsN, y_rsC, y_asN, y_asV, y_asI, y_oN, y_oS, y_itS, y_it1, y_it2, y_asg, y_par, y_stp, y_unp, y_st, y_app, y_expr, y_iteS, y_for, y_retN, y_pass, y_brk, y_cont, y_raise, y_ssN, y_ssC, y_tasN, y_tasC, y_taN, y_taS, y_aug, y_augV, y_ret, y_retS, y_retE, y_enm, y_enmL, y_enmT, y_zip, y_zipL, y_zipT, y_ext, y_extO, y_seqL, y_seqT, y_nsN, y_nsC, y_tgN, y_tgT, y_tgL, y_tgsN, y_tgsC, y_forN, y_forC, y_cmN, y_cmC, y_wipN, y_wipC, y_wipU, y_wipV, y_bakN, y_bakC, y_chainE, y_chain3, y_chain3E, y_it3, y_nodN, y_ioL, y_ioR, y_argN, y_argL, y_argR, y_argO, y_argI, y_bkN, y_bkL, y_bkR, y_bkO, y_bkI, y_callE, y_outN, y_outR, x_op1, x_op2, x_opdS, x_opdN, x_getS, x_getV, x_slV, x_slO, x_slI, x_rd, x_rdV, x_rdO, x_asg, x_asgU, x_asgV, x_asgO, x_ret, x_retV, x_retO, x_put, x_putO, x_putI, x_add, x_adO, x_adI, x_own, x_ownO, x_ownI, x_base, x_finF, x_finT, x_asB, x_ofB, x_bindB, x_withE, x_dV, x_dO, x_sV, x_sO, x_seqN, x_seqR, x_seqB, x_seqC, x_turnN, x_turnC, x_turnB, x_turnR, x_add', x_sub', x_lt, x_le, x_gt, x_ge, x_eq, x_ne, x_is, x_isn, x_inn, x_nin, shaped_int, shaped_bool, shaped_none, x_eqI, x_eqN, x_eqB, x_eqT2, x_eqT3, x_sz1, x_sz2, x_sz3, x_sz4, x_sz5, x_sz6, truN, truB, truI, x_isNn, x_isNi, x_isNt, x_isNl, x_isIi, x_isIb, x_isBb, x_isBi, x_isTt, x_isLl, x_isTl, x_isLt, x_len, x_lenT, x_abs, x_int, x_intq, x_ixL, x_ixT, at_0, at_1, at_2, at_3, at_4, at_5, z_0, z_1, z_2, z_3, z_4, z_5, z_6, z_7, z_8, z_9, z_10, z_11, z_12, w_0, w_1, w_2, w_3, w_4, w_5, w_6, w_7, w_8, w_9, w_10, w_11, w_12, ix_1_0, ix_2_0, ix_2_1, ix_3_0, ix_3_1, ix_3_2, ix_4_0, ix_4_1, ix_4_2, ix_4_3, ix_5_0, ix_5_1, ix_5_2, ix_5_3, ix_5_4, ix_6_0, ix_6_1, ix_6_2, ix_6_3, ix_6_4, ix_6_5, ix_7_0, ix_7_1, ix_7_2, ix_7_3, ix_7_4, ix_7_5, ix_7_6, Option.map_some, Option.bind_some, Option.map_none, Option.bind_none, List.getElem?_cons_zero, List.getElem?_cons_succ, List.set_cons_zero, List.set_cons_succ, List.cons_append, List.nil_append, List.length_cons, List.length_nil, List.replicate, if_true, Bool.false_eq_true, if_false, reduceIte, Nat.reduceAdd, Nat.reduceSub, List.append_nil, List.take_succ_cons, List.take_zero, List.map_nil, Option.getD_some, decide_true, decide_false, List.nodup_nil, y_nod1, Bool.not_true, Bool.not_false, List.map_cons, ct_0, ct_1, ct_2, ct_3, ct_4, ct_5, ct_6, ct_7, ct_8, ct_9, ct_10, ct_11, ct_12, Bool.and_true, Bool.true_and, Bool.and_false, Bool.false_and, x_revL, x_revT, x_mul' (m1 _), x_mod p])
theorem start_comp {C : CT} {d0 d1 : D} : ∀ (l : List Int) (acc : List D) (s : Sl), Emp s → acc.length + l.length ≤ sizeLine → ∃ (s' : Sl), Emp s' ∧
    compL (bindT (.nm 2)) [2] (fun e => some (true, e)) (evX C (.b1 .abs (.b1 .int (.var 2))) false) (l.map PyData.int) acc [.v d0, .v d1, s] = some (acc ++ (l.map fun c => PyData.int (if c < 0 then -c else c)), [.v d0, .v d1, s'])
  | [], acc, s, e, _ => ⟨s, e, by simp [compL]⟩
  | c :: l, acc, s, e, hl => by
    rw [List.length_cons] at hl
    obtain ⟨s', e', h⟩ := start_comp (C := C) (d0 := d0) (d1 := d1) l (acc ++ [.int (if c < 0 then -c else c)]) (.v (.int c)) trivial (by rw [List.length_append]; simp only [List.length_cons, List.length_nil]; omega)
    refine ⟨s', e', ?_⟩
    have ha : acc.length < sizeLine := by omega
    rw [List.append_assoc] at h
    rw [show acc ++ ((c :: l).map fun c => PyData.int (if c < 0 then -c else c)) = acc ++ ([PyData.int (if c < 0 then -c else c)] ++ (l.map fun c => PyData.int (if c < 0 then -c else c))) from rfl, ← h]
    cases s <;> first | (exact e.elim) | (simp -implicitDefEqProofs only [List.map_cons, compL, wipeE, bindT, E.var?, y_con, y_varF, y_varT, y_glo, y_bin, y_neg, y_notT, y_notF, y_andT, y_andF, y_orT, y_orF, y_ite, y_cmp, y_chain, y_tup, y_lst, y_rep, y_idx, y_slice, y_rev, y_call, y_b1, y_b2, y_isI, y_lrng, y_compN, y_compS, y_esN, y_esC, y_rsN, y_rsC, y_asN, y_asV, y_asI, y_oN, y_oS, y_itS, y_it1, y_it2, y_asg, y_par, y_stp, y_unp, y_st, y_app, y_expr, y_iteS, y_for, y_retN, y_pass, y_brk, y_cont, y_raise, y_ssN, y_ssC, y_tasN, y_tasC, y_taN, y_taS, y_aug, y_augV, y_ret, y_retS, y_retE, y_enm, y_enmL, y_enmT, y_zip, y_zipL, y_zipT, y_ext, y_extO, y_seqL, y_seqT, y_nsN, y_nsC, y_tgN, y_tgT, y_tgL, y_tgsN, y_tgsC, y_forN, y_forC, y_cmN, y_cmC, y_wipN, y_wipC, y_wipU, y_wipV, y_bakN, y_bakC, y_chainE, y_chain3, y_chain3E, y_it3, y_nodN, y_ioL, y_ioR, y_argN, y_argL, y_argR, y_argO, y_argI, y_bkN, y_bkL, y_bkR, y_bkO, y_bkI, y_callE, y_outN, y_outR, x_op1, x_op2, x_opdS, x_opdN, x_getS, x_getV, x_slV, x_slO, x_slI, x_rd, x_rdV, x_rdO, x_asg, x_asgU, x_asgV, x_asgO, x_ret, x_retV, x_retO, x_put, x_putO, x_putI, x_add, x_adO, x_adI, x_own, x_ownO, x_ownI, x_base, x_finF, x_finT, x_asB, x_ofB, x_bindB, x_withE, x_dV, x_dO, x_sV, x_sO, x_seqN, x_seqR, x_seqB, x_seqC, x_turnN, x_turnC, x_turnB, x_turnR, x_add', x_sub', x_lt, x_le, x_gt, x_ge, x_eq, x_ne, x_is, x_isn, x_inn, x_nin, shaped_int, shaped_bool, shaped_none, x_eqI, x_eqN, x_eqB, x_eqT2, x_eqT3, x_sz1, x_sz2, x_sz3, x_sz4, x_sz5, x_sz6, truN, truB, truI, x_isNn, x_isNi, x_isNt, x_isNl, x_isIi, x_isIb, x_isBb, x_isBi, x_isTt, x_isLl, x_isTl, x_isLt, x_len, x_lenT, x_abs, x_int, x_intq, x_ixL, x_ixT, at_0, at_1, at_2, at_3, at_4, at_5, z_0, z_1, z_2, z_3, z_4, z_5, z_6, z_7, z_8, z_9, z_10, z_11, z_12, w_0, w_1, w_2, w_3, w_4, w_5, w_6, w_7, w_8, w_9, w_10, w_11, w_12, ix_1_0, ix_2_0, ix_2_1, ix_3_0, ix_3_1, ix_3_2, ix_4_0, ix_4_1, ix_4_2, ix_4_3, ix_5_0, ix_5_1, ix_5_2, ix_5_3, ix_5_4, ix_6_0, ix_6_1, ix_6_2, ix_6_3, ix_6_4, ix_6_5, ix_7_0, ix_7_1, ix_7_2, ix_7_3, ix_7_4, ix_7_5, ix_7_6, Option.map_some, Option.bind_some, Option.map_none, Option.bind_none, List.getElem?_cons_zero, List.getElem?_cons_succ, List.set_cons_zero, List.set_cons_succ, List.cons_append, List.nil_append, List.length_cons, List.length_nil, List.replicate, if_true, Bool.false_eq_true, if_false, reduceIte, Nat.reduceAdd, Nat.reduceSub, List.append_nil, List.take_succ_cons, List.take_zero, List.map_nil, Option.getD_some, decide_true, decide_false, List.nodup_nil, y_nod1, Bool.not_true, Bool.not_false, List.map_cons, ct_0, ct_1, ct_2, ct_3, ct_4, ct_5, ct_6, ct_7, ct_8, ct_9, ct_10, ct_11, ct_12, Bool.and_true, Bool.true_and, Bool.and_false, Bool.false_and, x_revL, x_revT, ha])
theorem start_spec {C : CT} {ns : List Int} (hn : ns.length ≤ 63) : ∃ s : LS, runFn C K_start [.v (.list (ns.map .int))] = some (.o s.d, [.v (.list (ns.map .int))]) ∧ s.ok 0 := by
  obtain ⟨seed, s1, e1, h1⟩ := start_for (C := C) (d0 := .list (ns.map .int)) ns 7 .un trivial
  obtain ⟨s2, e2, h2⟩ := start_comp (C := C) (d0 := .list (ns.map .int)) (d1 := .int seed) ns [] s1 e1 (Nat.le_trans (by rw [List.length_nil]; omega) (show (63 : Nat) ≤ sizeLine by decide))
  refine ⟨⟨ns.map fun c => if c < 0 then -c else c, 0, 0, 0, seed, 0⟩, ?_, ⟨Int.le_refl _, Int.le_refl _, Int.le_refl _⟩⟩
  have hc : sliceR (.list (ns.map PyData.int)) none (some 63) = some (.o (ns.map PyData.int)) := by
    show some (Rs.o (cutL _ _ _)) = _
    rw [cut63 (by simpa using hn)]
  rw [List.nil_append] at h2
  rw [y_run (by rfl)]
  cases s2 <;> first | (exact e2.elim) | (simp -implicitDefEqProofs only [K_start, E.var?, y_con, y_varF, y_varT, y_glo, y_bin, y_neg, y_notT, y_notF, y_andT, y_andF, y_orT, y_orF, y_ite, y_cmp, y_chain, y_tup, y_lst, y_rep, y_idx, y_slice, y_rev, y_call, y_b1, y_b2, y_isI, y_lrng, y_compN, y_compS, y_esN, y_esC, y_rsN, y_rsC, y_asN, y_asV, y_asI, y_oN, y_oS, y_itS, y_it1, y_it2, y_asg, y_par, y_stp, y_unp, y_st, y_app, y_expr, y_iteS, y_for, y_retN, y_pass, y_brk, y_cont, y_raise, y_ssN, y_ssC, y_tasN, y_tasC, y_taN, y_taS, y_aug, y_augV, y_ret, y_retS, y_retE, y_enm, y_enmL, y_enmT, y_zip, y_zipL, y_zipT, y_ext, y_extO, y_seqL, y_seqT, y_nsN, y_nsC, y_tgN, y_tgT, y_tgL, y_tgsN, y_tgsC, y_forN, y_forC, y_cmN, y_cmC, y_wipN, y_wipC, y_wipU, y_wipV, y_bakN, y_bakC, y_chainE, y_chain3, y_chain3E, y_it3, y_nodN, y_ioL, y_ioR, y_argN, y_argL, y_argR, y_argO, y_argI, y_bkN, y_bkL, y_bkR, y_bkO, y_bkI, y_callE, y_outN, y_outR, x_op1, x_op2, x_opdS, x_opdN, x_getS, x_getV, x_slV, x_slO, x_slI, x_rd, x_rdV, x_rdO, x_asg, x_asgU, x_asgV, x_asgO, x_ret, x_retV, x_retO, x_put, x_putO, x_putI, x_add, x_adO, x_adI, x_own, x_ownO, x_ownI, x_base, x_finF, x_finT, x_asB, x_ofB, x_bindB, x_withE, x_dV, x_dO, x_sV, x_sO, x_seqN, x_seqR, x_seqB, x_seqC, x_turnN, x_turnC, x_turnB, x_turnR, x_add', x_sub', x_lt, x_le, x_gt, x_ge, x_eq, x_ne, x_is, x_isn, x_inn, x_nin, shaped_int, shaped_bool, shaped_none, x_eqI, x_eqN, x_eqB, x_eqT2, x_eqT3, x_sz1, x_sz2, x_sz3, x_sz4, x_sz5, x_sz6, truN, truB, truI, x_isNn, x_isNi, x_isNt, x_isNl, x_isIi, x_isIb, x_isBb, x_isBi, x_isTt, x_isLl, x_isTl, x_isLt, x_len, x_lenT, x_abs, x_int, x_intq, x_ixL, x_ixT, at_0, at_1, at_2, at_3, at_4, at_5, z_0, z_1, z_2, z_3, z_4, z_5, z_6, z_7, z_8, z_9, z_10, z_11, z_12, w_0, w_1, w_2, w_3, w_4, w_5, w_6, w_7, w_8, w_9, w_10, w_11, w_12, ix_1_0, ix_2_0, ix_2_1, ix_3_0, ix_3_1, ix_3_2, ix_4_0, ix_4_1, ix_4_2, ix_4_3, ix_5_0, ix_5_1, ix_5_2, ix_5_3, ix_5_4, ix_6_0, ix_6_1, ix_6_2, ix_6_3, ix_6_4, ix_6_5, ix_7_0, ix_7_1, ix_7_2, ix_7_3, ix_7_4, ix_7_5, ix_7_6, Option.map_some, Option.bind_some, Option.map_none, Option.bind_none, List.getElem?_cons_zero, List.getElem?_cons_succ, List.set_cons_zero, List.set_cons_succ, List.cons_append, List.nil_append, List.length_cons, List.length_nil, List.replicate, if_true, Bool.false_eq_true, if_false, reduceIte, Nat.reduceAdd, Nat.reduceSub, List.append_nil, List.take_succ_cons, List.take_zero, List.map_nil, Option.getD_some, decide_true, decide_false, List.nodup_nil, y_nod1, Bool.not_true, Bool.not_false, List.map_cons, ct_0, ct_1, ct_2, ct_3, ct_4, ct_5, ct_6, ct_7, ct_8, ct_9, ct_10, ct_11, ct_12, Bool.and_true, Bool.true_and, Bool.and_false, Bool.false_and, x_revL, x_revT, hc, seqOf, h1, compE, h2, LS.d, List.map_map]; rfl)
/-! ### while, by a measure -/
theorem whl_run {t : Ev → Option (Bool × Ev)} {b : Ev → Option Out} (I : Nat → Ev → Prop) (Post : Ev → Prop)
    (step : ∀ m env, I m env → (∃ e1, t env = some (false, e1) ∧ Post e1) ∨ ∃ e1 e2 m', t env = some (true, e1) ∧ b e1 = some (.nx e2) ∧ m' < m ∧ I m' e2) :
    ∀ (n m : Nat) (env : Ev), m < n → I m env → ∃ e, whl t b n env = some (.nx e) ∧ Post e := by
  intro n
  induction n with
  | zero => intro m env h; omega
  | succ n ih =>
    intro m env h hi
    rcases step m env hi with ⟨e1, h1, h2⟩ | ⟨e1, e2, m', h1, h2, h3, h4⟩
    · exact ⟨e1, by simp only [whl, h1, Option.bind_some, Bool.false_eq_true, if_false], h2⟩
    · obtain ⟨e, h5, h6⟩ := ih m' e2 (by omega) h4
      exact ⟨e, by simp only [whl, h1, Option.bind_some, if_true, h2, x_turnN, h5], h6⟩
theorem W_big {m : Nat} (h : m < 2 ^ 64) : m < W := h
end KX

set_option Elab.async false
set_option linter.all false
set_option maxHeartbeats 4000000
set_option maxRecDepth 100000
/-! KL: loops and displays of lists, once for all; the law's own turns. -/
namespace KX
open PySem PySem.Spec PyProof.Rows L2
theorem truL {xs : List D} : truD (.list xs) = some (!xs.isEmpty) := rfl
theorem truT {xs : List D} : truD (.tuple xs) = some (!xs.isEmpty) := rfl
theorem set_tup {xs : List D} : b1R .tup (.list xs) = some (.v (.tuple xs)) := rfl
theorem lst_tup {xs : List D} : b1R .lst (.tuple xs) = some (.o xs) := rfl
theorem lst_lst {xs : List D} : b1R .lst (.list xs) = some (.o xs) := rfl
theorem ranges_map : ∀ (n : Nat) (a : Int), ranges a 1 n = (List.range n).map fun i => PyData.int (a + (i : Nat))
  | 0, _ => rfl
  | n + 1, a => by
    rw [ranges, ranges_map n, List.range_succ_eq_map, List.map_cons, List.map_map]
    congr 1
    · simp
    · refine List.map_congr_left fun i _ => ?_
      simp only [Function.comp, PyData.int.injEq]
      omega
theorem range0 (n : Nat) (h : n ≤ 1000000) : rng2 0 (n : Int) = some ((List.range n).map fun i => PyData.int (i : Nat)) := by
  rw [x_rng h, ranges_map]
  simp
theorem enm_map {α : Type} {f : α → D} : ∀ (l : List α) (k : Nat), enmL k (l.map f) = (l.zipIdx k).map fun p => .tuple [.int (p.2 : Nat), f p.1]
  | [], _ => rfl
  | x :: l, k => by
    rw [List.map_cons, enmL, enm_map l, List.zipIdx_cons, List.map_cons]
section
variable {α : Type} {tg : D → Ev → Option Ev} {own : List Nat} {test : Ev → Option (Bool × Ev)} {elt : Ev → Option (Rs × Ev)} {d : α → D} {p : α → Bool} {f : α → D}
theorem compL_map {e0 : Ev} : ∀ (l : List α) (_ : ∀ a ∈ l, ∃ e1 e2, tg (d a) e0 = some e1 ∧ test e1 = some (p a, e2) ∧ (p a = false → wipeE e2 own = some e0) ∧ (p a = true → ∃ r e3, elt e2 = some (r, e3) ∧ r.d = f a ∧ wipeE e3 own = some e0))
    (acc : List D) (e : Ev), wipeE e own = some e0 → acc.length + l.length ≤ sizeLine → ∃ e', wipeE e' own = some e0 ∧ compL tg own test elt (l.map d) acc e = some (acc ++ (l.filter p).map f, e')
  | [], _, acc, e, h, _ => ⟨e, h, by simp [compL]⟩
  | a :: l, st, acc, e, h, hl => by
    rw [List.length_cons] at hl
    obtain ⟨e1, e2, h1, h2, h3, h4⟩ := st a (List.mem_cons_self ..)
    cases hp : p a
    · obtain ⟨e', w', h'⟩ := compL_map l (fun x hx => st x (List.mem_cons_of_mem _ hx)) acc e2 (h3 hp) (by omega)
      refine ⟨e', w', ?_⟩
      rw [List.map_cons, y_cmC, h, Option.bind_some, h1, Option.bind_some, h2, Option.bind_some, hp, if_neg (show ¬ (false = true) by decide), List.filter_cons, hp, if_neg (by decide)]
      exact h'
    · obtain ⟨r, e3, h5, h6, h7⟩ := h4 hp
      obtain ⟨e', w', h'⟩ := compL_map l (fun x hx => st x (List.mem_cons_of_mem _ hx)) (acc ++ [f a]) e3 h7 (by rw [List.length_append, List.length_cons, List.length_nil]; omega)
      refine ⟨e', w', ?_⟩
      rw [List.map_cons, y_cmC, h, Option.bind_some, h1, Option.bind_some, h2, Option.bind_some, hp, if_pos rfl, h5, Option.bind_some, if_pos (by omega), List.filter_cons, hp, if_pos rfl, h6, h', List.map_cons, List.append_assoc]
      rfl
theorem compE_map {env e0 : Ev} (l : List α) (w0 : wipeE env own = some e0) (st : ∀ a ∈ l, ∃ e1 e2, tg (d a) e0 = some e1 ∧ test e1 = some (p a, e2) ∧ (p a = false → wipeE e2 own = some e0) ∧ (p a = true → ∃ r e3, elt e2 = some (r, e3) ∧ r.d = f a ∧ wipeE e3 own = some e0))
    (hl : l.length ≤ sizeLine) : compE tg own test elt (some (l.map d, env)) = some (.o ((l.filter p).map f), backE env e0 own) := by
  obtain ⟨e', w', h'⟩ := compL_map l st [] env w0 (by simpa using hl)
  unfold compE
  rw [Option.bind_some, h', Option.bind_some, w', Option.map_some, List.nil_append]
/-- no condition -/
theorem compE_all {env e0 : Ev} (l : List α) (w0 : wipeE env own = some e0) (st : ∀ a ∈ l, ∃ e1 r e3, tg (d a) e0 = some e1 ∧ elt e1 = some (r, e3) ∧ r.d = f a ∧ wipeE e3 own = some e0)
    (hl : l.length ≤ sizeLine) : compE tg own (fun e => some (true, e)) elt (some (l.map d, env)) = some (.o (l.map f), backE env e0 own) := by
  have := compE_map (p := fun _ => true) (test := fun e => some (true, e)) l w0 (fun a ha => by
    obtain ⟨e1, r, e3, h1, h2, h3, h4⟩ := st a ha
    exact ⟨e1, e1, h1, rfl, (fun z => by cases z), fun _ => ⟨r, e3, h2, h3, h4⟩⟩) hl
  rw [this, List.filter_eq_self.mpr (fun _ _ => rfl)]
/-- a display whose turns change the world -/
theorem compL_draw {I : List D → List D → Ev → Prop} (st : ∀ x rest acc e, I (x :: rest) acc e → ∃ e0 e1 r e3, wipeE e own = some e0 ∧ tg x e0 = some e1 ∧ elt e1 = some (r, e3) ∧ I rest (acc ++ [r.d]) e3) :
    ∀ (xs acc : List D) (e : Ev), I xs acc e → acc.length + xs.length ≤ sizeLine → ∃ acc' e', compL tg own (fun e => some (true, e)) elt xs acc e = some (acc', e') ∧ I [] acc' e'
  | [], acc, e, h, _ => ⟨acc, e, rfl, h⟩
  | x :: xs, acc, e, h, hl => by
    rw [List.length_cons] at hl
    obtain ⟨e0, e1, r, e3, h1, h2, h3, h4⟩ := st x xs acc e h
    obtain ⟨acc', e', h5, h6⟩ := compL_draw st xs (acc ++ [r.d]) e3 h4 (by rw [List.length_append, List.length_cons, List.length_nil]; omega)
    refine ⟨acc', e', ?_, h6⟩
    rw [y_cmC, h1, Option.bind_some, h2, Option.bind_some, Option.bind_some, if_pos rfl, h3, Option.bind_some, if_pos (by omega)]; exact h5
theorem compE_draw {I : List D → List D → Ev → Prop} {env : Ev} (st : ∀ x rest acc e, I (x :: rest) acc e → ∃ e0 e1 r e3, wipeE e own = some e0 ∧ tg x e0 = some e1 ∧ elt e1 = some (r, e3) ∧ I rest (acc ++ [r.d]) e3)
    (fin : ∀ acc e, I [] acc e → ∃ e4, wipeE e own = some e4) (xs : List D) (h : I xs [] env) (hl : xs.length ≤ sizeLine) :
    ∃ acc e e4, compE tg own (fun e => some (true, e)) elt (some (xs, env)) = some (.o acc, backE env e4 own) ∧ I [] acc e ∧ wipeE e own = some e4 := by
  obtain ⟨acc, e, h1, h2⟩ := compL_draw st xs [] env h (by simpa using hl)
  obtain ⟨e4, h3⟩ := fin acc e h2
  refine ⟨acc, e, e4, ?_, h2, h3⟩
  unfold compE
  rw [Option.bind_some, h1, Option.bind_some, h3, Option.map_some]
variable {g : D → Ev → Option Ev} {b : Ev → Option Out}
theorem forl_ok {Ok : Ev → Prop} : ∀ (l : List α) (_ : ∀ a ∈ l, ∀ e, Ok e → ∃ e1 e2, g (d a) e = some e1 ∧ b e1 = some (.nx e2) ∧ Ok e2) (e : Ev), Ok e → ∃ e', Ok e' ∧ forl g b (l.map d) e = some (.nx e')
  | [], _, e, h => ⟨e, h, rfl⟩
  | a :: l, st, e, h => by
    obtain ⟨e1, e2, h1, h2, h3⟩ := st a (List.mem_cons_self ..) e h
    obtain ⟨e', h4, h5⟩ := forl_ok l (fun x hx => st x (List.mem_cons_of_mem _ hx)) e2 h3
    exact ⟨e', h4, by rw [List.map_cons, y_forC, h1, Option.bind_some, h2, x_turnN]; exact h5⟩
theorem forl_fold {β : Type} {E : β → Ev} {Ok : β → Prop} {F : β → α → β} : ∀ (l : List α) (_ : ∀ a ∈ l, ∀ s, Ok s → ∃ e1, g (d a) (E s) = some e1 ∧ b e1 = some (.nx (E (F s a))) ∧ Ok (F s a)) (s : β), Ok s → forl g b (l.map d) (E s) = some (.nx (E (l.foldl F s))) ∧ Ok (l.foldl F s)
  | [], _, s, h => ⟨rfl, h⟩
  | a :: l, st, s, h => by
    obtain ⟨e1, h1, h2, h3⟩ := st a (List.mem_cons_self ..) s h
    rw [List.map_cons, y_forC, h1, Option.bind_some, h2, x_turnN, List.foldl_cons]
    exact forl_fold l (fun x hx => st x (List.mem_cons_of_mem _ hx)) _ h3
/-- turns that change the world -/
theorem forl_draw {I : Nat → Ev → Prop} (xs : List D) : ∀ (k : Nat) (_ : ∀ j x e, k ≤ j → j < k + xs.length → I j e → ∃ e1 e2, g x e = some e1 ∧ b e1 = some (.nx e2) ∧ I (j + 1) e2) (e : Ev), I k e → ∃ e', forl g b xs e = some (.nx e') ∧ I (k + xs.length) e' := by
  induction xs with
  | nil => intro k _ e h; exact ⟨e, rfl, h⟩
  | cons x xs ih =>
    intro k st e h
    rw [List.length_cons] at st
    obtain ⟨e1, e2, h1, h2, h3⟩ := st k x e (Nat.le_refl _) (by omega) h
    obtain ⟨e', h4, h5⟩ := ih (k + 1) (fun j y e hj hj' => st j y e (by omega) (by omega)) e2 h3
    refine ⟨e', by rw [y_forC, h1, Option.bind_some, h2, x_turnN]; exact h4, ?_⟩
    rw [List.length_cons, Nat.add_comm xs.length 1, ← Nat.add_assoc]; exact h5
end
theorem wipe1 {e : Ev} {i : Nat} {s : Sl} (h : e[i]? = some s) (hs : Emp s) : wipeE e [i] = some (e.set i .un) := by
  rw [y_wipC, y_wipN, Option.bind_some, h]
  cases s with
  | un =>
    rw [y_wipU]
    have : e.set i .un = e := by
      apply List.ext_getElem?
      intro j
      rw [List.getElem?_set]
      split
      · rename_i q
        subst q
        obtain ⟨q, _⟩ := List.getElem?_eq_some_iff.mp h
        rw [if_pos q, h]
      · rfl
    rw [this]
  | v d => rw [y_wipV]
  | o xs => exact hs.elim
  | io xs => exact hs.elim
/-! ### step by step -/
def nthS : Ss → Nat → S
  | .cons s _, 0 => s
  | .cons _ ss, n + 1 => nthS ss n
  | .nil, _ => .pass

theorem ss_c {C : CT} {s : S} {ss : Ss} {e e1 : Ev} {r : Option Out} (h1 : evS C s e = some (.nx e1)) (h2 : evSs C ss e1 = r) : evSs C (.cons s ss) e = r := by
  rw [show evSs C (.cons s ss) e = seqO (evS C s e) (evSs C ss) by simp only [evSs], h1, x_seqN]; exact h2
theorem ss_r {C : CT} {s : S} {ss : Ss} {e e1 : Ev} {r : Rs} (h1 : evS C s e = some (.rt r e1)) : evSs C (.cons s ss) e = some (.rt r e1) := by
  rw [show evSs C (.cons s ss) e = seqO (evS C s e) (evSs C ss) by simp only [evSs], h1, x_seqR]
theorem run_r {C : CT} {f : Fn} {args : List Sl} {r : Rs} {e : Ev} (h : args.length = f.np) (h1 : evSs C f.body (args ++ List.replicate (f.ns - f.np) .un) = some (.rt r e)) : runFn C f args = some (r, e.take f.np) := by
  rw [y_run h, h1]; rfl
theorem run_n {C : CT} {f : Fn} {args : List Sl} {e : Ev} (h : args.length = f.np) (h1 : evSs C f.body (args ++ List.replicate (f.ns - f.np) .un) = some (.nx e)) : runFn C f args = some (.v .none, e.take f.np) := by
  rw [y_run h, h1]; rfl
/-! ### the law -/
def K_lawb (hd : Nat) : Ss := (.cons (.ite (.not (.call hd (.io 1 .nil) [])) (.cons (.ret (.con (.bool false))) .nil) .nil) .nil)
def K_law (st hd : Nat) (m : Int) : Fn := { np := 1, ns := 3, body := (.cons (.asg 1 (.call st (.val (.var 0) .nil) [])) (.cons (.for_ (.nm 2) (.r1 (.con (.int m))) (K_lawb hd)) (.cons (.ret (.con (.bool true))) .nil))) }
theorem law_g {C : CT} {st hd : Nat} {m : Int} {d0 : D} {xs l : List D} {ys : List D} {s2 : Sl} (h1 : C st [.v d0] = some (.o xs, [.v d0])) (h2 : rng2 0 m = some l) (h3 : forl (bindT (.nm 2)) (evSs C (K_lawb hd)) l [.v d0, .o xs, .un] = some (.nx [.v d0, .o ys, s2])) :
    runFn C (K_law st hd m) [.v d0] = some (.v (.bool true), [.v d0]) := by
  rw [y_run (by rfl)]
  simp -implicitDefEqProofs only [K_law, E.var?, y_con, y_varF, y_varT, y_glo, y_bin, y_neg, y_notT, y_notF, y_andT, y_andF, y_orT, y_orF, y_ite, y_cmp, y_chain, y_tup, y_lst, y_rep, y_idx, y_slice, y_rev, y_call, y_b1, y_b2, y_isI, y_lrng, y_compN, y_compS, y_esN, y_esC, y_rsN, y_rsC, y_asN, y_asV, y_asI, y_oN, y_oS, y_itS, y_it1, y_it2, y_asg, y_par, y_stp, y_unp, y_st, y_app, y_expr, y_iteS, y_for, y_retN, y_pass, y_brk, y_cont, y_raise, y_ssN, y_ssC, y_tasN, y_tasC, y_taN, y_taS, y_aug, y_augV, y_ret, y_retS, y_retE, y_enm, y_enmL, y_enmT, y_zip, y_zipL, y_zipT, y_ext, y_extO, y_seqL, y_seqT, y_nsN, y_nsC, y_tgN, y_tgT, y_tgL, y_tgsN, y_tgsC, y_forN, y_forC, y_cmN, y_cmC, y_wipN, y_wipC, y_wipU, y_wipV, y_bakN, y_bakC, y_chainE, y_chain3, y_chain3E, y_it3, y_nodN, y_ioL, y_ioR, y_argN, y_argL, y_argR, y_argO, y_argI, y_bkN, y_bkL, y_bkR, y_bkO, y_bkI, y_callE, y_outN, y_outR, x_op1, x_op2, x_opdS, x_opdN, x_getS, x_getV, x_slV, x_slO, x_slI, x_rd, x_rdV, x_rdO, x_asg, x_asgU, x_asgV, x_asgO, x_ret, x_retV, x_retO, x_put, x_putO, x_putI, x_add, x_adO, x_adI, x_own, x_ownO, x_ownI, x_base, x_finF, x_finT, x_asB, x_ofB, x_bindB, x_withE, x_dV, x_dO, x_sV, x_sO, x_seqN, x_seqR, x_seqB, x_seqC, x_turnN, x_turnC, x_turnB, x_turnR, x_add', x_sub', x_lt, x_le, x_gt, x_ge, x_eq, x_ne, x_is, x_isn, x_inn, x_nin, shaped_int, shaped_bool, shaped_none, x_eqI, x_eqN, x_eqB, x_eqT2, x_eqT3, x_sz1, x_sz2, x_sz3, x_sz4, x_sz5, x_sz6, truN, truB, truI, x_isNn, x_isNi, x_isNt, x_isNl, x_isIi, x_isIb, x_isBb, x_isBi, x_isTt, x_isLl, x_isTl, x_isLt, x_len, x_lenT, x_abs, x_int, x_intq, x_ixL, x_ixT, at_0, at_1, at_2, at_3, at_4, at_5, z_0, z_1, z_2, z_3, z_4, z_5, z_6, z_7, z_8, z_9, z_10, z_11, z_12, w_0, w_1, w_2, w_3, w_4, w_5, w_6, w_7, w_8, w_9, w_10, w_11, w_12, ix_1_0, ix_2_0, ix_2_1, ix_3_0, ix_3_1, ix_3_2, ix_4_0, ix_4_1, ix_4_2, ix_4_3, ix_5_0, ix_5_1, ix_5_2, ix_5_3, ix_5_4, ix_6_0, ix_6_1, ix_6_2, ix_6_3, ix_6_4, ix_6_5, ix_7_0, ix_7_1, ix_7_2, ix_7_3, ix_7_4, ix_7_5, ix_7_6, Option.map_some, Option.bind_some, Option.map_none, Option.bind_none, List.getElem?_cons_zero, List.getElem?_cons_succ, List.set_cons_zero, List.set_cons_succ, List.cons_append, List.nil_append, List.length_cons, List.length_nil, List.replicate, if_true, Bool.false_eq_true, if_false, reduceIte, Nat.reduceAdd, Nat.reduceSub, List.append_nil, List.take_succ_cons, List.take_zero, List.map_nil, Option.getD_some, decide_true, decide_false, List.nodup_nil, y_nod1, Bool.not_true, Bool.not_false, List.map_cons, ct_0, ct_1, ct_2, ct_3, ct_4, ct_5, ct_6, ct_7, ct_8, ct_9, ct_10, ct_11, ct_12, Bool.and_true, Bool.true_and, Bool.and_false, Bool.false_and, x_revL, x_revT, h1, h2, h3]
theorem lawb_g {C : CT} {hd : Nat} {d0 d1 : D} {xs ys : List D} (h : C hd [.io xs] = some (.v (.bool true), [.io ys])) : evSs C (K_lawb hd) [.v d0, .o xs, .v d1] = some (.nx [.v d0, .o ys, .v d1]) := by
  simp -implicitDefEqProofs only [K_lawb, E.var?, y_con, y_varF, y_varT, y_glo, y_bin, y_neg, y_notT, y_notF, y_andT, y_andF, y_orT, y_orF, y_ite, y_cmp, y_chain, y_tup, y_lst, y_rep, y_idx, y_slice, y_rev, y_call, y_b1, y_b2, y_isI, y_lrng, y_compN, y_compS, y_esN, y_esC, y_rsN, y_rsC, y_asN, y_asV, y_asI, y_oN, y_oS, y_itS, y_it1, y_it2, y_asg, y_par, y_stp, y_unp, y_st, y_app, y_expr, y_iteS, y_for, y_retN, y_pass, y_brk, y_cont, y_raise, y_ssN, y_ssC, y_tasN, y_tasC, y_taN, y_taS, y_aug, y_augV, y_ret, y_retS, y_retE, y_enm, y_enmL, y_enmT, y_zip, y_zipL, y_zipT, y_ext, y_extO, y_seqL, y_seqT, y_nsN, y_nsC, y_tgN, y_tgT, y_tgL, y_tgsN, y_tgsC, y_forN, y_forC, y_cmN, y_cmC, y_wipN, y_wipC, y_wipU, y_wipV, y_bakN, y_bakC, y_chainE, y_chain3, y_chain3E, y_it3, y_nodN, y_ioL, y_ioR, y_argN, y_argL, y_argR, y_argO, y_argI, y_bkN, y_bkL, y_bkR, y_bkO, y_bkI, y_callE, y_outN, y_outR, x_op1, x_op2, x_opdS, x_opdN, x_getS, x_getV, x_slV, x_slO, x_slI, x_rd, x_rdV, x_rdO, x_asg, x_asgU, x_asgV, x_asgO, x_ret, x_retV, x_retO, x_put, x_putO, x_putI, x_add, x_adO, x_adI, x_own, x_ownO, x_ownI, x_base, x_finF, x_finT, x_asB, x_ofB, x_bindB, x_withE, x_dV, x_dO, x_sV, x_sO, x_seqN, x_seqR, x_seqB, x_seqC, x_turnN, x_turnC, x_turnB, x_turnR, x_add', x_sub', x_lt, x_le, x_gt, x_ge, x_eq, x_ne, x_is, x_isn, x_inn, x_nin, shaped_int, shaped_bool, shaped_none, x_eqI, x_eqN, x_eqB, x_eqT2, x_eqT3, x_sz1, x_sz2, x_sz3, x_sz4, x_sz5, x_sz6, truN, truB, truI, x_isNn, x_isNi, x_isNt, x_isNl, x_isIi, x_isIb, x_isBb, x_isBi, x_isTt, x_isLl, x_isTl, x_isLt, x_len, x_lenT, x_abs, x_int, x_intq, x_ixL, x_ixT, at_0, at_1, at_2, at_3, at_4, at_5, z_0, z_1, z_2, z_3, z_4, z_5, z_6, z_7, z_8, z_9, z_10, z_11, z_12, w_0, w_1, w_2, w_3, w_4, w_5, w_6, w_7, w_8, w_9, w_10, w_11, w_12, ix_1_0, ix_2_0, ix_2_1, ix_3_0, ix_3_1, ix_3_2, ix_4_0, ix_4_1, ix_4_2, ix_4_3, ix_5_0, ix_5_1, ix_5_2, ix_5_3, ix_5_4, ix_6_0, ix_6_1, ix_6_2, ix_6_3, ix_6_4, ix_6_5, ix_7_0, ix_7_1, ix_7_2, ix_7_3, ix_7_4, ix_7_5, ix_7_6, Option.map_some, Option.bind_some, Option.map_none, Option.bind_none, List.getElem?_cons_zero, List.getElem?_cons_succ, List.set_cons_zero, List.set_cons_succ, List.cons_append, List.nil_append, List.length_cons, List.length_nil, List.replicate, if_true, Bool.false_eq_true, if_false, reduceIte, Nat.reduceAdd, Nat.reduceSub, List.append_nil, List.take_succ_cons, List.take_zero, List.map_nil, Option.getD_some, decide_true, decide_false, List.nodup_nil, y_nod1, Bool.not_true, Bool.not_false, List.map_cons, ct_0, ct_1, ct_2, ct_3, ct_4, ct_5, ct_6, ct_7, ct_8, ct_9, ct_10, ct_11, ct_12, Bool.and_true, Bool.true_and, Bool.and_false, Bool.false_and, x_revL, x_revT, h]
theorem law_bind {d0 x : D} {xs : List D} {s : Sl} (e : Emp s) : bindT (.nm 2) x [.v d0, .o xs, s] = some [.v d0, .o xs, .v x] := by
  cases s <;> first | (exact e.elim) | simp -implicitDefEqProofs only [E.var?, y_con, y_varF, y_varT, y_glo, y_bin, y_neg, y_notT, y_notF, y_andT, y_andF, y_orT, y_orF, y_ite, y_cmp, y_chain, y_tup, y_lst, y_rep, y_idx, y_slice, y_rev, y_call, y_b1, y_b2, y_isI, y_lrng, y_compN, y_compS, y_esN, y_esC, y_rsN, y_rsC, y_asN, y_asV, y_asI, y_oN, y_oS, y_itS, y_it1, y_it2, y_asg, y_par, y_stp, y_unp, y_st, y_app, y_expr, y_iteS, y_for, y_retN, y_pass, y_brk, y_cont, y_raise, y_ssN, y_ssC, y_tasN, y_tasC, y_taN, y_taS, y_aug, y_augV, y_ret, y_retS, y_retE, y_enm, y_enmL, y_enmT, y_zip, y_zipL, y_zipT, y_ext, y_extO, y_seqL, y_seqT, y_nsN, y_nsC, y_tgN, y_tgT, y_tgL, y_tgsN, y_tgsC, y_forN, y_forC, y_cmN, y_cmC, y_wipN, y_wipC, y_wipU, y_wipV, y_bakN, y_bakC, y_chainE, y_chain3, y_chain3E, y_it3, y_nodN, y_ioL, y_ioR, y_argN, y_argL, y_argR, y_argO, y_argI, y_bkN, y_bkL, y_bkR, y_bkO, y_bkI, y_callE, y_outN, y_outR, x_op1, x_op2, x_opdS, x_opdN, x_getS, x_getV, x_slV, x_slO, x_slI, x_rd, x_rdV, x_rdO, x_asg, x_asgU, x_asgV, x_asgO, x_ret, x_retV, x_retO, x_put, x_putO, x_putI, x_add, x_adO, x_adI, x_own, x_ownO, x_ownI, x_base, x_finF, x_finT, x_asB, x_ofB, x_bindB, x_withE, x_dV, x_dO, x_sV, x_sO, x_seqN, x_seqR, x_seqB, x_seqC, x_turnN, x_turnC, x_turnB, x_turnR, x_add', x_sub', x_lt, x_le, x_gt, x_ge, x_eq, x_ne, x_is, x_isn, x_inn, x_nin, shaped_int, shaped_bool, shaped_none, x_eqI, x_eqN, x_eqB, x_eqT2, x_eqT3, x_sz1, x_sz2, x_sz3, x_sz4, x_sz5, x_sz6, truN, truB, truI, x_isNn, x_isNi, x_isNt, x_isNl, x_isIi, x_isIb, x_isBb, x_isBi, x_isTt, x_isLl, x_isTl, x_isLt, x_len, x_lenT, x_abs, x_int, x_intq, x_ixL, x_ixT, at_0, at_1, at_2, at_3, at_4, at_5, z_0, z_1, z_2, z_3, z_4, z_5, z_6, z_7, z_8, z_9, z_10, z_11, z_12, w_0, w_1, w_2, w_3, w_4, w_5, w_6, w_7, w_8, w_9, w_10, w_11, w_12, ix_1_0, ix_2_0, ix_2_1, ix_3_0, ix_3_1, ix_3_2, ix_4_0, ix_4_1, ix_4_2, ix_4_3, ix_5_0, ix_5_1, ix_5_2, ix_5_3, ix_5_4, ix_6_0, ix_6_1, ix_6_2, ix_6_3, ix_6_4, ix_6_5, ix_7_0, ix_7_1, ix_7_2, ix_7_3, ix_7_4, ix_7_5, ix_7_6, Option.map_some, Option.bind_some, Option.map_none, Option.bind_none, List.getElem?_cons_zero, List.getElem?_cons_succ, List.set_cons_zero, List.set_cons_succ, List.cons_append, List.nil_append, List.length_cons, List.length_nil, List.replicate, if_true, Bool.false_eq_true, if_false, reduceIte, Nat.reduceAdd, Nat.reduceSub, List.append_nil, List.take_succ_cons, List.take_zero, List.map_nil, Option.getD_some, decide_true, decide_false, List.nodup_nil, y_nod1, Bool.not_true, Bool.not_false, List.map_cons, ct_0, ct_1, ct_2, ct_3, ct_4, ct_5, ct_6, ct_7, ct_8, ct_9, ct_10, ct_11, ct_12, Bool.and_true, Bool.true_and, Bool.and_false, Bool.false_and, x_revL, x_revT]
theorem law_spec {T : List Fn} {li st hd m c : Nat} (h1 : T[li]? = some (K_law st hd m)) (h2 : T[st]? = some K_start)
    (hold : ∀ (s : LS) (k : Nat), s.ok k → k + c < 2 ^ 250 → ∃ s' : LS, callT T 13 hd [.io s.d] = some (.v (.bool true), [.io s'.d]) ∧ s'.ok (k + c))
    (hm : m ≤ 1000) (hc : c ≤ 1000000) {ns : List Int} (hn : ns.length ≤ 63) : ∃ outs, callT T 14 li [.v (.list (ns.map .int))] = some (.v (.bool true), outs) := by
  obtain ⟨s, e1, ok⟩ := start_spec (C := callT T 12) hn
  have e2 : callT T 13 st [.v (.list (ns.map .int))] = some (.o s.d, [.v (.list (ns.map .int))]) := by
    rw [y_tc h2]; exact e1
  obtain ⟨e', h3, s', d', _, rfl, _⟩ := forl_draw (g := bindT (.nm 2)) (b := evSs (callT T 13) (K_lawb hd)) (I := fun j e => ∃ (s' : LS) (d' : Sl), Emp d' ∧ e = [.v (.list (ns.map .int)), .o s'.d, d'] ∧ s'.ok (j * c)) (ranges 0 1 m) 0 (fun j x e _ hj => by
    rintro ⟨s', d', e', rfl, ok'⟩
    have hj : j < m := by
      have : (ranges 0 1 m).length = m := by rw [ranges_map, List.length_map, List.length_range]
      omega
    have b1 : j * c ≤ 1000 * 1000000 := Nat.mul_le_mul (by omega) hc
    obtain ⟨s2, h4, ok2⟩ := hold s' (j * c) ok' (by omega)
    exact ⟨_, _, law_bind e', lawb_g h4, s2, .v x, trivial, rfl, by rw [Nat.succ_mul]; exact ok2⟩) _ ⟨s, .un, trivial, rfl, by rw [Nat.zero_mul]; exact ok⟩
  exact ⟨_, by rw [y_tc h1]; exact law_g e2 (x_rng (Nat.le_trans hm (by decide))) h3⟩
end KX

set_option Elab.async false
set_option linter.all false
set_option maxHeartbeats 4000000
set_option maxRecDepth 100000
/-! KQ: quotients (two whole numbers without a common divisor) as rational numbers; the program's defs about them, by the indices of what they call. -/
namespace KX
open PySem PySem.Spec PyProof.Rows L2
def K_isi : Fn := { np := 1, ns := 1, body := (.cons (.ret (.and (.isI (.var 0) .int) (.not (.isI (.var 0) .bool)))) .nil) }
def K_gd_b1 : Ss := (.cons (.par [0, 1] (.cons (.var 1) (.cons (.bin .mod (.var 0) (.var 1)) .nil))) .nil)
def K_gd_c1 : E := (.cmp .gt (.var 1) (.con (.int 0)))
def K_gd : Fn := { np := 2, ns := 2, body := (.cons (.whl K_gd_c1 K_gd_b1) (.cons (.ret (.var 0)) .nil)) }
def K_quot (g : Nat) : Fn := { np := 2, ns := 3, body := (.cons (.ite (.cmp .lt (.var 1) (.con (.int 0))) (.cons (.par [0, 1] (.cons (.neg (.var 0)) (.cons (.neg (.var 1)) .nil))) .nil) .nil) (.cons (.asg 2 (.call g (.val (.b1 .abs (.var 0)) (.val (.var 1) .nil)) [])) (.cons (.ret (.tup (.cons (.bin .fdiv (.var 0) (.var 2)) (.cons (.bin .fdiv (.var 1) (.var 2)) .nil)))) .nil))) }
def K_plus (q : Nat) : Fn := { np := 2, ns := 2, body := (.cons (.ret (.call q (.val (.bin .add (.bin .mul (.idx (.var 0) (.con (.int 0))) (.idx (.var 1) (.con (.int 1)))) (.bin .mul (.idx (.var 1) (.con (.int 0))) (.idx (.var 0) (.con (.int 1))))) (.val (.bin .mul (.idx (.var 0) (.con (.int 1))) (.idx (.var 1) (.con (.int 1)))) .nil)) [])) .nil) }
def K_minus (q : Nat) : Fn := { np := 2, ns := 2, body := (.cons (.ret (.call q (.val (.bin .sub (.bin .mul (.idx (.var 0) (.con (.int 0))) (.idx (.var 1) (.con (.int 1)))) (.bin .mul (.idx (.var 1) (.con (.int 0))) (.idx (.var 0) (.con (.int 1))))) (.val (.bin .mul (.idx (.var 0) (.con (.int 1))) (.idx (.var 1) (.con (.int 1)))) .nil)) [])) .nil) }
def K_times (q : Nat) : Fn := { np := 2, ns := 2, body := (.cons (.ret (.call q (.val (.bin .mul (.idx (.var 0) (.con (.int 0))) (.idx (.var 1) (.con (.int 0)))) (.val (.bin .mul (.idx (.var 0) (.con (.int 1))) (.idx (.var 1) (.con (.int 1)))) .nil)) [])) .nil) }
def K_over (q : Nat) : Fn := { np := 2, ns := 2, body := (.cons (.ret (.call q (.val (.bin .mul (.idx (.var 0) (.con (.int 0))) (.idx (.var 1) (.con (.int 1)))) (.val (.bin .mul (.idx (.var 0) (.con (.int 1))) (.idx (.var 1) (.con (.int 0)))) .nil)) [])) .nil) }
def K_lquot_b1 : Ss := (.cons (.par [2, 3] (.cons (.var 3) (.cons (.bin .sub (.var 2) (.bin .mul (.bin .fdiv (.var 2) (.var 3)) (.var 3))) .nil))) .nil)
def K_lquot_c1 : E := (.var 3)
def K_lquot : Fn := { np := 2, ns := 4, body := (.cons (.par [2, 3] (.cons (.b1 .abs (.var 0)) (.cons (.b1 .abs (.var 1)) .nil))) (.cons (.whl K_lquot_c1 K_lquot_b1) (.cons (.asg 2 (.b1 .max (.lst (.cons (.var 2) (.cons (.con (.int 1)) .nil))))) (.cons (.ret (.ite (.cmp .gt (.var 1) (.con (.int 0))) (.tup (.cons (.bin .fdiv (.var 0) (.var 2)) (.cons (.bin .fdiv (.var 1) (.var 2)) .nil))) (.tup (.cons (.bin .sub (.con (.int 0)) (.bin .fdiv (.var 0) (.var 2))) (.cons (.bin .sub (.con (.int 0)) (.bin .fdiv (.var 1) (.var 2))) .nil))))) .nil)))) }
def K_isq_e1 (i g : Nat) : E := (.call i (.val (.var 1) .nil) [])
def K_isq (i g : Nat) : Fn := { np := 1, ns := 2, body := (.cons (.ite (.or (.not (.isI (.var 0) .tuple)) (.or (.cmp .ne (.b1 .len (.var 0)) (.con (.int 2))) (.not (.b1 .all (.comp (K_isq_e1 i g) (.nm 1) (.seq (.var 0)) .none [1]))))) (.cons (.ret (.con (.bool false))) .nil) .nil) (.cons (.ret (.and (.cmp .ge (.idx (.var 0) (.con (.int 1))) (.con (.int 1))) (.cmp .eq (.call g (.val (.b1 .abs (.idx (.var 0) (.con (.int 0)))) (.val (.idx (.var 0) (.con (.int 1))) .nil)) []) (.con (.int 1))))) .nil)) }
def K_isn (q : Nat) : Fn := { np := 1, ns := 1, body := (.cons (.ret (.and (.call q (.val (.var 0) .nil) []) (.and (.cmp .le (.b1 .abs (.idx (.var 0) (.con (.int 0)))) (.glo (PySem.Str.ofString "MAX_NUMBER") (.int 1000000000000))) (.cmp .le (.idx (.var 0) (.con (.int 1))) (.glo (PySem.Str.ofString "MAX_NUMBER") (.int 1000000000000)))))) .nil) }
def K_chn (q : Nat) : Fn := { np := 2, ns := 2, body := (.cons (.ite (.not (.call q (.val (.var 0) .nil) [])) (.cons .raise .nil) .nil) .nil) }
def K_cha (q : Nat) : Fn := { np := 2, ns := 2, body := (.cons (.expr (.call q (.val (.var 0) (.val (.var 1) .nil)) [])) (.cons (.ite (.cmp .le (.idx (.var 0) (.con (.int 0))) (.con (.int 0))) (.cons .raise .nil) .nil) .nil)) }
def K_some (q w : Nat) : Fn := { np := 1, ns := 1, body := (.cons (.ret (.call q (.val (.bin .add (.con (.int 1)) (.call w (.io 0 (.val (.con (.int 12)) .nil)) [])) (.val (.bin .add (.con (.int 1)) (.call w (.io 0 (.val (.con (.int 12)) .nil)) [])) .nil)) [])) .nil) }
/-! ### plain -/
def qd (x : Rat) : D := .tuple [.int x.num, .int (x.den : Int)]
def QB (k : Nat) (x : Rat) : Prop := x.num.natAbs < 2 ^ k ∧ x.den < 2 ^ k
theorem qd_div {u d : Int} (hd : 0 < d) : qd (Rat.divInt u d) = .tuple [.int (u / (Int.gcd u d : Int)), .int (d / (Int.gcd u d : Int))] := by
  have h0 : d ≠ 0 := by omega
  unfold qd
  rw [Rat.num_divInt, Rat.den_divInt, if_neg h0, Int.sign_eq_one_of_pos hd, Int.one_mul, Int.gcd_comm d u]
  have : ((d.natAbs / Int.gcd u d : Nat) : Int) = d / (Int.gcd u d : Int) := by
    rw [Int.natCast_ediv, Int.natAbs_of_nonneg (by omega)]
  rw [this]
theorem qb_div {u d : Int} {k : Nat} (hd : 0 < d) (h1 : u.natAbs < 2 ^ k) (h2 : d.natAbs < 2 ^ k) : QB k (Rat.divInt u d) := by
  have h0 : d ≠ 0 := by omega
  unfold QB
  rw [Rat.num_divInt, Rat.den_divInt, if_neg h0, Int.sign_eq_one_of_pos hd, Int.one_mul]
  refine ⟨Nat.lt_of_le_of_lt ?_ h1, Nat.lt_of_le_of_lt (Nat.div_le_self ..) h2⟩
  have hdv : ((Int.gcd d u : Nat) : Int) ∣ u := Int.gcd_dvd_right d u
  obtain ⟨c, hc⟩ := hdv
  have hg : ((Int.gcd d u : Nat) : Int) ≠ 0 := by
    have := Int.gcd_pos_of_ne_zero_left u h0
    omega
  rw [Int.ediv_eq_of_eq_mul_right hg hc]
  conv => rhs; rw [hc]
  rw [Int.natAbs_mul]
  exact Nat.le_mul_of_pos_left _ (by omega)
theorem qb_mono {k l : Nat} {x : Rat} (h : QB k x) (hl : k ≤ l) : QB l x :=
  ⟨Nat.lt_of_lt_of_le h.1 (Nat.pow_le_pow_right (by decide) hl), Nat.lt_of_lt_of_le h.2 (Nat.pow_le_pow_right (by decide) hl)⟩
theorem q_nd (x : Rat) : Rat.divInt x.num x.den = x := Rat.num_divInt_den x
theorem q_mul (x y : Rat) : Rat.divInt (x.num * y.num) ((x.den : Int) * y.den) = x * y := by
  rw [← Rat.divInt_mul_divInt, q_nd, q_nd]
theorem q_over (x y : Rat) : Rat.divInt (x.num * y.den) ((x.den : Int) * y.num) = x / y := by
  rw [← Rat.divInt_mul_divInt, q_nd, Rat.div_def]
  conv => rhs; rw [← q_nd y, Rat.inv_divInt]
theorem q_den (x : Rat) : (x.den : Int) ≠ 0 := by have := x.den_pos; omega
theorem q_add (x y : Rat) : Rat.divInt (x.num * y.den + y.num * x.den) ((x.den : Int) * y.den) = x + y := by
  rw [← Rat.divInt_add_divInt _ _ (q_den x) (q_den y), q_nd, q_nd]
theorem q_sub (x y : Rat) : Rat.divInt (x.num * y.den - y.num * x.den) ((x.den : Int) * y.den) = x - y := by
  rw [← Rat.divInt_sub_divInt _ _ (q_den x) (q_den y), q_nd, q_nd]
theorem lt_mul2 {a b k l : Nat} (h1 : a < 2 ^ k) (h2 : b < 2 ^ l) : a * b < 2 ^ (k + l) := by
  rw [Nat.pow_add]; exact Nat.mul_lt_mul_of_lt_of_lt h1 h2
theorem lt_mulI {a b : Int} {k l : Nat} (h1 : a.natAbs < 2 ^ k) (h2 : b.natAbs < 2 ^ l) : (a * b).natAbs < 2 ^ (k + l) := by
  rw [Int.natAbs_mul]; exact lt_mul2 h1 h2
theorem q_dp (x : Rat) : 0 < (x.den : Int) := by have := x.den_pos; omega
theorem q_np {x : Rat} (h : 0 < x) : 0 < x.num := by
  have h1 := (Rat.lt_iff 0 x).mp h
  simpa using h1
theorem q_pos {x : Rat} (h : 0 < x.num) : 0 < x := by
  rw [Rat.lt_iff]; simpa using h
theorem qb_mul {k l : Nat} {x y : Rat} (hx : QB k x) (hy : QB l y) : QB (k + l) (x * y) := by
  rw [← q_mul]
  exact qb_div (Int.mul_pos (q_dp x) (q_dp y)) (lt_mulI hx.1 hy.1) (lt_mulI (by simpa using hx.2) (by simpa using hy.2))
theorem qb_over {k l : Nat} {x y : Rat} (hx : QB k x) (hy : QB l y) (h : 0 < y) : QB (k + l) (x / y) := by
  rw [← q_over]
  exact qb_div (Int.mul_pos (q_dp x) (q_np h)) (lt_mulI hx.1 (by simpa using hy.2)) (lt_mulI (by simpa using hx.2) hy.1)
theorem qb_add {k l : Nat} {x y : Rat} (hx : QB k x) (hy : QB l y) : QB (k + l + 1) (x + y) := by
  rw [← q_add]
  have a := lt_mulI (l := l) hx.1 (show ((y.den : Nat) : Int).natAbs < 2 ^ l by simpa using hy.2)
  have b := lt_mulI (l := k) hy.1 (show ((x.den : Nat) : Int).natAbs < 2 ^ k by simpa using hx.2)
  have c := lt_mul2 hx.2 hy.2
  rw [Nat.add_comm l k] at b
  have e : 2 ^ (k + l + 1) = 2 * 2 ^ (k + l) := by rw [Nat.pow_succ, Nat.mul_comm]
  refine qb_div (Int.mul_pos (q_dp x) (q_dp y)) ?_ ?_
  · omega
  · rw [← Int.natCast_mul, Int.natAbs_natCast]; omega
theorem qb_sub {k l : Nat} {x y : Rat} (hx : QB k x) (hy : QB l y) : QB (k + l + 1) (x - y) := by
  rw [← q_sub]
  have a := lt_mulI (l := l) hx.1 (show ((y.den : Nat) : Int).natAbs < 2 ^ l by simpa using hy.2)
  have b := lt_mulI (l := k) hy.1 (show ((x.den : Nat) : Int).natAbs < 2 ^ k by simpa using hx.2)
  have c := lt_mul2 hx.2 hy.2
  rw [Nat.add_comm l k] at b
  have e : 2 ^ (k + l + 1) = 2 * 2 ^ (k + l) := by rw [Nat.pow_succ, Nat.mul_comm]
  refine qb_div (Int.mul_pos (q_dp x) (q_dp y)) ?_ ?_
  · omega
  · rw [← Int.natCast_mul, Int.natAbs_natCast]; omega
theorem qd_eq {x y : Rat} : eqD (qd x) (qd y) = some (decide (x = y)) := by
  unfold qd
  rw [x_eqT2, ← Bool.decide_and]
  congr 1
  refine decide_eq_decide.mpr ⟨fun ⟨a, b⟩ => Rat.ext a (by omega), fun h => by subst h; exact ⟨rfl, rfl⟩⟩
theorem q_gcd (x : Rat) : Int.gcd x.num x.den = 1 := x.reduced
theorem gcd_abs (u d : Int) : Int.gcd (if u < 0 then -u else u) d = Int.gcd u d := by
  split
  · exact Int.neg_gcd
  · rfl
/-! ### the defs -/
section
variable {C : CT}
theorem isi_g {a : Int} : runFn C K_isi [.v (.int a)] = some (.v (.bool true), [.v (.int a)]) := by
  rw [y_run (by rfl)]
  simp -implicitDefEqProofs only [K_isi, E.var?, y_con, y_varF, y_varT, y_glo, y_bin, y_neg, y_notT, y_notF, y_andT, y_andF, y_orT, y_orF, y_ite, y_cmp, y_chain, y_tup, y_lst, y_rep, y_idx, y_slice, y_rev, y_call, y_b1, y_b2, y_isI, y_lrng, y_compN, y_compS, y_esN, y_esC, y_rsN, y_rsC, y_asN, y_asV, y_asI, y_oN, y_oS, y_itS, y_it1, y_it2, y_asg, y_par, y_stp, y_unp, y_st, y_app, y_expr, y_iteS, y_for, y_retN, y_pass, y_brk, y_cont, y_raise, y_ssN, y_ssC, y_tasN, y_tasC, y_taN, y_taS, y_aug, y_augV, y_ret, y_retS, y_retE, y_enm, y_enmL, y_enmT, y_zip, y_zipL, y_zipT, y_ext, y_extO, y_seqL, y_seqT, y_nsN, y_nsC, y_tgN, y_tgT, y_tgL, y_tgsN, y_tgsC, y_forN, y_forC, y_cmN, y_cmC, y_wipN, y_wipC, y_wipU, y_wipV, y_bakN, y_bakC, y_chainE, y_chain3, y_chain3E, y_it3, y_nodN, y_ioL, y_ioR, y_argN, y_argL, y_argR, y_argO, y_argI, y_bkN, y_bkL, y_bkR, y_bkO, y_bkI, y_callE, y_outN, y_outR, x_op1, x_op2, x_opdS, x_opdN, x_getS, x_getV, x_slV, x_slO, x_slI, x_rd, x_rdV, x_rdO, x_asg, x_asgU, x_asgV, x_asgO, x_ret, x_retV, x_retO, x_put, x_putO, x_putI, x_add, x_adO, x_adI, x_own, x_ownO, x_ownI, x_base, x_finF, x_finT, x_asB, x_ofB, x_bindB, x_withE, x_dV, x_dO, x_sV, x_sO, x_seqN, x_seqR, x_seqB, x_seqC, x_turnN, x_turnC, x_turnB, x_turnR, x_add', x_sub', x_lt, x_le, x_gt, x_ge, x_eq, x_ne, x_is, x_isn, x_inn, x_nin, shaped_int, shaped_bool, shaped_none, x_eqI, x_eqN, x_eqB, x_eqT2, x_eqT3, x_sz1, x_sz2, x_sz3, x_sz4, x_sz5, x_sz6, truN, truB, truI, x_isNn, x_isNi, x_isNt, x_isNl, x_isIi, x_isIb, x_isBb, x_isBi, x_isTt, x_isLl, x_isTl, x_isLt, x_len, x_lenT, x_abs, x_int, x_intq, x_ixL, x_ixT, at_0, at_1, at_2, at_3, at_4, at_5, z_0, z_1, z_2, z_3, z_4, z_5, z_6, z_7, z_8, z_9, z_10, z_11, z_12, w_0, w_1, w_2, w_3, w_4, w_5, w_6, w_7, w_8, w_9, w_10, w_11, w_12, ix_1_0, ix_2_0, ix_2_1, ix_3_0, ix_3_1, ix_3_2, ix_4_0, ix_4_1, ix_4_2, ix_4_3, ix_5_0, ix_5_1, ix_5_2, ix_5_3, ix_5_4, ix_6_0, ix_6_1, ix_6_2, ix_6_3, ix_6_4, ix_6_5, ix_7_0, ix_7_1, ix_7_2, ix_7_3, ix_7_4, ix_7_5, ix_7_6, Option.map_some, Option.bind_some, Option.map_none, Option.bind_none, List.getElem?_cons_zero, List.getElem?_cons_succ, List.set_cons_zero, List.set_cons_succ, List.cons_append, List.nil_append, List.length_cons, List.length_nil, List.replicate, if_true, Bool.false_eq_true, if_false, reduceIte, Nat.reduceAdd, Nat.reduceSub, List.append_nil, List.take_succ_cons, List.take_zero, List.map_nil, Option.getD_some, decide_true, decide_false, List.nodup_nil, y_nod1, Bool.not_true, Bool.not_false, List.map_cons, ct_0, ct_1, ct_2, ct_3, ct_4, ct_5, ct_6, ct_7, ct_8, ct_9, ct_10, ct_11, ct_12, Bool.and_true, Bool.true_and, Bool.and_false, Bool.false_and, x_revL, x_revT]
/-- the steps of Euclid's way are few -/
def EuM (x y : Int) (m : Nat) : Prop := ∃ q : Nat, y < 2 ^ q ∧ (m = 2 * q + 1 ∨ ∃ p : Nat, x < 2 ^ p ∧ y ≤ x ∧ m = p + q)
theorem eu_step {x y : Int} {m : Nat} (h0 : 0 ≤ x) (h : 0 < y) (hm : EuM x y m) : ∃ m', m' < m ∧ EuM y (x % y) m' := by
  obtain ⟨q, hq, hm⟩ := hm
  have hl := Int.emod_lt_of_pos x h
  rcases hm with rfl | ⟨p, hp, hyx, rfl⟩
  · exact ⟨q + q, by omega, q, by omega, .inr ⟨q, hq, by omega, rfl⟩⟩
  · cases p with
    | zero => rw [Int.pow_zero] at hp; omega
    | succ p =>
      refine ⟨q + p, by omega, p, ?_, .inr ⟨q, hq, by omega, rfl⟩⟩
      have e := Int.emod_add_mul_ediv x y
      have d1 : 1 ≤ x / y := (Int.le_ediv_iff_mul_le h).mpr (by omega)
      have d2 : y * 1 ≤ y * (x / y) := Int.mul_le_mul_of_nonneg_left d1 (by omega)
      rw [Int.pow_succ] at hp
      omega
theorem eu_gcd {x y : Int} (x0 : 0 ≤ x) (y0 : 0 ≤ y) : Int.gcd y (x % y) = Int.gcd x y := by
  rw [Int.gcd_comm x y, Int.gcd_comm y (x % y)]
  obtain ⟨p, rfl⟩ := Int.eq_ofNat_of_zero_le x0
  obtain ⟨r, rfl⟩ := Int.eq_ofNat_of_zero_le y0
  rw [← Int.natCast_emod]
  show Nat.gcd (p % r) r = Nat.gcd r p
  exact (Nat.gcd_rec r p).symm
theorem gd_loop {w : Nat} (hw : ∀ m, m < 2 ^ 64 → m < w) {a b : Int} (h0 : 0 ≤ a) (h1 : 0 ≤ b) (h2 : b < 2 ^ 250) :
    ∃ e, whl (fun e => asB (evX C K_gd_c1 true e)) (evSs C K_gd_b1) w [.v (.int a), .v (.int b)] = some (.nx e) ∧ e = [.v (.int (Int.gcd a b)), .v (.int 0)] := by
  refine whl_run (fun m e => ∃ x y : Int, 0 ≤ x ∧ 0 ≤ y ∧ EuM x y m ∧ e = [.v (.int x), .v (.int y)] ∧ Int.gcd x y = Int.gcd a b) _ (fun m e => ?_) w 501 _ (hw _ (by omega)) ⟨a, b, h0, h1, ⟨250, h2, .inl rfl⟩, rfl, rfl⟩
  rintro ⟨x, y, x0, y0, hm, rfl, hg⟩
  by_cases q : 0 < y
  · right
    obtain ⟨m', hm', hE⟩ := eu_step x0 q hm
    refine ⟨[.v (.int x), .v (.int y)], [.v (.int y), .v (.int (x % y))], m', ?_, ?_, hm', y, x % y, y0, Int.emod_nonneg _ (by omega), hE, rfl, ?_⟩
    · simp -implicitDefEqProofs only [K_gd_c1, E.var?, y_con, y_varF, y_varT, y_glo, y_bin, y_neg, y_notT, y_notF, y_andT, y_andF, y_orT, y_orF, y_ite, y_cmp, y_chain, y_tup, y_lst, y_rep, y_idx, y_slice, y_rev, y_call, y_b1, y_b2, y_isI, y_lrng, y_compN, y_compS, y_esN, y_esC, y_rsN, y_rsC, y_asN, y_asV, y_asI, y_oN, y_oS, y_itS, y_it1, y_it2, y_asg, y_par, y_stp, y_unp, y_st, y_app, y_expr, y_iteS, y_for, y_retN, y_pass, y_brk, y_cont, y_raise, y_ssN, y_ssC, y_tasN, y_tasC, y_taN, y_taS, y_aug, y_augV, y_ret, y_retS, y_retE, y_enm, y_enmL, y_enmT, y_zip, y_zipL, y_zipT, y_ext, y_extO, y_seqL, y_seqT, y_nsN, y_nsC, y_tgN, y_tgT, y_tgL, y_tgsN, y_tgsC, y_forN, y_forC, y_cmN, y_cmC, y_wipN, y_wipC, y_wipU, y_wipV, y_bakN, y_bakC, y_chainE, y_chain3, y_chain3E, y_it3, y_nodN, y_ioL, y_ioR, y_argN, y_argL, y_argR, y_argO, y_argI, y_bkN, y_bkL, y_bkR, y_bkO, y_bkI, y_callE, y_outN, y_outR, x_op1, x_op2, x_opdS, x_opdN, x_getS, x_getV, x_slV, x_slO, x_slI, x_rd, x_rdV, x_rdO, x_asg, x_asgU, x_asgV, x_asgO, x_ret, x_retV, x_retO, x_put, x_putO, x_putI, x_add, x_adO, x_adI, x_own, x_ownO, x_ownI, x_base, x_finF, x_finT, x_asB, x_ofB, x_bindB, x_withE, x_dV, x_dO, x_sV, x_sO, x_seqN, x_seqR, x_seqB, x_seqC, x_turnN, x_turnC, x_turnB, x_turnR, x_add', x_sub', x_lt, x_le, x_gt, x_ge, x_eq, x_ne, x_is, x_isn, x_inn, x_nin, shaped_int, shaped_bool, shaped_none, x_eqI, x_eqN, x_eqB, x_eqT2, x_eqT3, x_sz1, x_sz2, x_sz3, x_sz4, x_sz5, x_sz6, truN, truB, truI, x_isNn, x_isNi, x_isNt, x_isNl, x_isIi, x_isIb, x_isBb, x_isBi, x_isTt, x_isLl, x_isTl, x_isLt, x_len, x_lenT, x_abs, x_int, x_intq, x_ixL, x_ixT, at_0, at_1, at_2, at_3, at_4, at_5, z_0, z_1, z_2, z_3, z_4, z_5, z_6, z_7, z_8, z_9, z_10, z_11, z_12, w_0, w_1, w_2, w_3, w_4, w_5, w_6, w_7, w_8, w_9, w_10, w_11, w_12, ix_1_0, ix_2_0, ix_2_1, ix_3_0, ix_3_1, ix_3_2, ix_4_0, ix_4_1, ix_4_2, ix_4_3, ix_5_0, ix_5_1, ix_5_2, ix_5_3, ix_5_4, ix_6_0, ix_6_1, ix_6_2, ix_6_3, ix_6_4, ix_6_5, ix_7_0, ix_7_1, ix_7_2, ix_7_3, ix_7_4, ix_7_5, ix_7_6, Option.map_some, Option.bind_some, Option.map_none, Option.bind_none, List.getElem?_cons_zero, List.getElem?_cons_succ, List.set_cons_zero, List.set_cons_succ, List.cons_append, List.nil_append, List.length_cons, List.length_nil, List.replicate, if_true, Bool.false_eq_true, if_false, reduceIte, Nat.reduceAdd, Nat.reduceSub, List.append_nil, List.take_succ_cons, List.take_zero, List.map_nil, Option.getD_some, decide_true, decide_false, List.nodup_nil, y_nod1, Bool.not_true, Bool.not_false, List.map_cons, ct_0, ct_1, ct_2, ct_3, ct_4, ct_5, ct_6, ct_7, ct_8, ct_9, ct_10, ct_11, ct_12, Bool.and_true, Bool.true_and, Bool.and_false, Bool.false_and, x_revL, x_revT, q]
    · simp -implicitDefEqProofs only [K_gd_b1, E.var?, y_con, y_varF, y_varT, y_glo, y_bin, y_neg, y_notT, y_notF, y_andT, y_andF, y_orT, y_orF, y_ite, y_cmp, y_chain, y_tup, y_lst, y_rep, y_idx, y_slice, y_rev, y_call, y_b1, y_b2, y_isI, y_lrng, y_compN, y_compS, y_esN, y_esC, y_rsN, y_rsC, y_asN, y_asV, y_asI, y_oN, y_oS, y_itS, y_it1, y_it2, y_asg, y_par, y_stp, y_unp, y_st, y_app, y_expr, y_iteS, y_for, y_retN, y_pass, y_brk, y_cont, y_raise, y_ssN, y_ssC, y_tasN, y_tasC, y_taN, y_taS, y_aug, y_augV, y_ret, y_retS, y_retE, y_enm, y_enmL, y_enmT, y_zip, y_zipL, y_zipT, y_ext, y_extO, y_seqL, y_seqT, y_nsN, y_nsC, y_tgN, y_tgT, y_tgL, y_tgsN, y_tgsC, y_forN, y_forC, y_cmN, y_cmC, y_wipN, y_wipC, y_wipU, y_wipV, y_bakN, y_bakC, y_chainE, y_chain3, y_chain3E, y_it3, y_nodN, y_ioL, y_ioR, y_argN, y_argL, y_argR, y_argO, y_argI, y_bkN, y_bkL, y_bkR, y_bkO, y_bkI, y_callE, y_outN, y_outR, x_op1, x_op2, x_opdS, x_opdN, x_getS, x_getV, x_slV, x_slO, x_slI, x_rd, x_rdV, x_rdO, x_asg, x_asgU, x_asgV, x_asgO, x_ret, x_retV, x_retO, x_put, x_putO, x_putI, x_add, x_adO, x_adI, x_own, x_ownO, x_ownI, x_base, x_finF, x_finT, x_asB, x_ofB, x_bindB, x_withE, x_dV, x_dO, x_sV, x_sO, x_seqN, x_seqR, x_seqB, x_seqC, x_turnN, x_turnC, x_turnB, x_turnR, x_add', x_sub', x_lt, x_le, x_gt, x_ge, x_eq, x_ne, x_is, x_isn, x_inn, x_nin, shaped_int, shaped_bool, shaped_none, x_eqI, x_eqN, x_eqB, x_eqT2, x_eqT3, x_sz1, x_sz2, x_sz3, x_sz4, x_sz5, x_sz6, truN, truB, truI, x_isNn, x_isNi, x_isNt, x_isNl, x_isIi, x_isIb, x_isBb, x_isBi, x_isTt, x_isLl, x_isTl, x_isLt, x_len, x_lenT, x_abs, x_int, x_intq, x_ixL, x_ixT, at_0, at_1, at_2, at_3, at_4, at_5, z_0, z_1, z_2, z_3, z_4, z_5, z_6, z_7, z_8, z_9, z_10, z_11, z_12, w_0, w_1, w_2, w_3, w_4, w_5, w_6, w_7, w_8, w_9, w_10, w_11, w_12, ix_1_0, ix_2_0, ix_2_1, ix_3_0, ix_3_1, ix_3_2, ix_4_0, ix_4_1, ix_4_2, ix_4_3, ix_5_0, ix_5_1, ix_5_2, ix_5_3, ix_5_4, ix_6_0, ix_6_1, ix_6_2, ix_6_3, ix_6_4, ix_6_5, ix_7_0, ix_7_1, ix_7_2, ix_7_3, ix_7_4, ix_7_5, ix_7_6, Option.map_some, Option.bind_some, Option.map_none, Option.bind_none, List.getElem?_cons_zero, List.getElem?_cons_succ, List.set_cons_zero, List.set_cons_succ, List.cons_append, List.nil_append, List.length_cons, List.length_nil, List.replicate, if_true, Bool.false_eq_true, if_false, reduceIte, Nat.reduceAdd, Nat.reduceSub, List.append_nil, List.take_succ_cons, List.take_zero, List.map_nil, Option.getD_some, decide_true, decide_false, List.nodup_nil, y_nod1, Bool.not_true, Bool.not_false, List.map_cons, ct_0, ct_1, ct_2, ct_3, ct_4, ct_5, ct_6, ct_7, ct_8, ct_9, ct_10, ct_11, ct_12, Bool.and_true, Bool.true_and, Bool.and_false, Bool.false_and, x_revL, x_revT, x_mod q]
    · rw [← hg, eu_gcd x0 y0]
  · left
    have hy : y = 0 := by omega
    subst hy
    refine ⟨[.v (.int x), .v (.int 0)], ?_, ?_⟩
    · simp -implicitDefEqProofs only [K_gd_c1, E.var?, y_con, y_varF, y_varT, y_glo, y_bin, y_neg, y_notT, y_notF, y_andT, y_andF, y_orT, y_orF, y_ite, y_cmp, y_chain, y_tup, y_lst, y_rep, y_idx, y_slice, y_rev, y_call, y_b1, y_b2, y_isI, y_lrng, y_compN, y_compS, y_esN, y_esC, y_rsN, y_rsC, y_asN, y_asV, y_asI, y_oN, y_oS, y_itS, y_it1, y_it2, y_asg, y_par, y_stp, y_unp, y_st, y_app, y_expr, y_iteS, y_for, y_retN, y_pass, y_brk, y_cont, y_raise, y_ssN, y_ssC, y_tasN, y_tasC, y_taN, y_taS, y_aug, y_augV, y_ret, y_retS, y_retE, y_enm, y_enmL, y_enmT, y_zip, y_zipL, y_zipT, y_ext, y_extO, y_seqL, y_seqT, y_nsN, y_nsC, y_tgN, y_tgT, y_tgL, y_tgsN, y_tgsC, y_forN, y_forC, y_cmN, y_cmC, y_wipN, y_wipC, y_wipU, y_wipV, y_bakN, y_bakC, y_chainE, y_chain3, y_chain3E, y_it3, y_nodN, y_ioL, y_ioR, y_argN, y_argL, y_argR, y_argO, y_argI, y_bkN, y_bkL, y_bkR, y_bkO, y_bkI, y_callE, y_outN, y_outR, x_op1, x_op2, x_opdS, x_opdN, x_getS, x_getV, x_slV, x_slO, x_slI, x_rd, x_rdV, x_rdO, x_asg, x_asgU, x_asgV, x_asgO, x_ret, x_retV, x_retO, x_put, x_putO, x_putI, x_add, x_adO, x_adI, x_own, x_ownO, x_ownI, x_base, x_finF, x_finT, x_asB, x_ofB, x_bindB, x_withE, x_dV, x_dO, x_sV, x_sO, x_seqN, x_seqR, x_seqB, x_seqC, x_turnN, x_turnC, x_turnB, x_turnR, x_add', x_sub', x_lt, x_le, x_gt, x_ge, x_eq, x_ne, x_is, x_isn, x_inn, x_nin, shaped_int, shaped_bool, shaped_none, x_eqI, x_eqN, x_eqB, x_eqT2, x_eqT3, x_sz1, x_sz2, x_sz3, x_sz4, x_sz5, x_sz6, truN, truB, truI, x_isNn, x_isNi, x_isNt, x_isNl, x_isIi, x_isIb, x_isBb, x_isBi, x_isTt, x_isLl, x_isTl, x_isLt, x_len, x_lenT, x_abs, x_int, x_intq, x_ixL, x_ixT, at_0, at_1, at_2, at_3, at_4, at_5, z_0, z_1, z_2, z_3, z_4, z_5, z_6, z_7, z_8, z_9, z_10, z_11, z_12, w_0, w_1, w_2, w_3, w_4, w_5, w_6, w_7, w_8, w_9, w_10, w_11, w_12, ix_1_0, ix_2_0, ix_2_1, ix_3_0, ix_3_1, ix_3_2, ix_4_0, ix_4_1, ix_4_2, ix_4_3, ix_5_0, ix_5_1, ix_5_2, ix_5_3, ix_5_4, ix_6_0, ix_6_1, ix_6_2, ix_6_3, ix_6_4, ix_6_5, ix_7_0, ix_7_1, ix_7_2, ix_7_3, ix_7_4, ix_7_5, ix_7_6, Option.map_some, Option.bind_some, Option.map_none, Option.bind_none, List.getElem?_cons_zero, List.getElem?_cons_succ, List.set_cons_zero, List.set_cons_succ, List.cons_append, List.nil_append, List.length_cons, List.length_nil, List.replicate, if_true, Bool.false_eq_true, if_false, reduceIte, Nat.reduceAdd, Nat.reduceSub, List.append_nil, List.take_succ_cons, List.take_zero, List.map_nil, Option.getD_some, decide_true, decide_false, List.nodup_nil, y_nod1, Bool.not_true, Bool.not_false, List.map_cons, ct_0, ct_1, ct_2, ct_3, ct_4, ct_5, ct_6, ct_7, ct_8, ct_9, ct_10, ct_11, ct_12, Bool.and_true, Bool.true_and, Bool.and_false, Bool.false_and, x_revL, x_revT, q]
    · rw [← hg, Int.gcd_zero_right, Int.natAbs_of_nonneg x0]
theorem gd_g {w : Nat} {a b k : Int} (yw : ∀ (c : E) (b : Ss) (s0 : Sl) (r : Ev), evS C (.whl c b) (s0 :: r) = whl (fun e => asB (evX C c true e)) (evSs C b) w (s0 :: r))
    (h : whl (fun e => asB (evX C K_gd_c1 true e)) (evSs C K_gd_b1) w [.v (.int a), .v (.int b)] = some (.nx [.v (.int k), .v (.int 0)])) :
    runFn C K_gd [.v (.int a), .v (.int b)] = some (.v (.int k), [.v (.int k), .v (.int 0)]) := by
  rw [y_run (by rfl)]
  simp -implicitDefEqProofs only [K_gd, E.var?, y_con, y_varF, y_varT, y_glo, y_bin, y_neg, y_notT, y_notF, y_andT, y_andF, y_orT, y_orF, y_ite, y_cmp, y_chain, y_tup, y_lst, y_rep, y_idx, y_slice, y_rev, y_call, y_b1, y_b2, y_isI, y_lrng, y_compN, y_compS, y_esN, y_esC, y_rsN, y_rsC, y_asN, y_asV, y_asI, y_oN, y_oS, y_itS, y_it1, y_it2, y_asg, y_par, y_stp, y_unp, y_st, y_app, y_expr, y_iteS, y_for, y_retN, y_pass, y_brk, y_cont, y_raise, y_ssN, y_ssC, y_tasN, y_tasC, y_taN, y_taS, y_aug, y_augV, y_ret, y_retS, y_retE, y_enm, y_enmL, y_enmT, y_zip, y_zipL, y_zipT, y_ext, y_extO, y_seqL, y_seqT, y_nsN, y_nsC, y_tgN, y_tgT, y_tgL, y_tgsN, y_tgsC, y_forN, y_forC, y_cmN, y_cmC, y_wipN, y_wipC, y_wipU, y_wipV, y_bakN, y_bakC, y_chainE, y_chain3, y_chain3E, y_it3, y_nodN, y_ioL, y_ioR, y_argN, y_argL, y_argR, y_argO, y_argI, y_bkN, y_bkL, y_bkR, y_bkO, y_bkI, y_callE, y_outN, y_outR, x_op1, x_op2, x_opdS, x_opdN, x_getS, x_getV, x_slV, x_slO, x_slI, x_rd, x_rdV, x_rdO, x_asg, x_asgU, x_asgV, x_asgO, x_ret, x_retV, x_retO, x_put, x_putO, x_putI, x_add, x_adO, x_adI, x_own, x_ownO, x_ownI, x_base, x_finF, x_finT, x_asB, x_ofB, x_bindB, x_withE, x_dV, x_dO, x_sV, x_sO, x_seqN, x_seqR, x_seqB, x_seqC, x_turnN, x_turnC, x_turnB, x_turnR, x_add', x_sub', x_lt, x_le, x_gt, x_ge, x_eq, x_ne, x_is, x_isn, x_inn, x_nin, shaped_int, shaped_bool, shaped_none, x_eqI, x_eqN, x_eqB, x_eqT2, x_eqT3, x_sz1, x_sz2, x_sz3, x_sz4, x_sz5, x_sz6, truN, truB, truI, x_isNn, x_isNi, x_isNt, x_isNl, x_isIi, x_isIb, x_isBb, x_isBi, x_isTt, x_isLl, x_isTl, x_isLt, x_len, x_lenT, x_abs, x_int, x_intq, x_ixL, x_ixT, at_0, at_1, at_2, at_3, at_4, at_5, z_0, z_1, z_2, z_3, z_4, z_5, z_6, z_7, z_8, z_9, z_10, z_11, z_12, w_0, w_1, w_2, w_3, w_4, w_5, w_6, w_7, w_8, w_9, w_10, w_11, w_12, ix_1_0, ix_2_0, ix_2_1, ix_3_0, ix_3_1, ix_3_2, ix_4_0, ix_4_1, ix_4_2, ix_4_3, ix_5_0, ix_5_1, ix_5_2, ix_5_3, ix_5_4, ix_6_0, ix_6_1, ix_6_2, ix_6_3, ix_6_4, ix_6_5, ix_7_0, ix_7_1, ix_7_2, ix_7_3, ix_7_4, ix_7_5, ix_7_6, Option.map_some, Option.bind_some, Option.map_none, Option.bind_none, List.getElem?_cons_zero, List.getElem?_cons_succ, List.set_cons_zero, List.set_cons_succ, List.cons_append, List.nil_append, List.length_cons, List.length_nil, List.replicate, if_true, Bool.false_eq_true, if_false, reduceIte, Nat.reduceAdd, Nat.reduceSub, List.append_nil, List.take_succ_cons, List.take_zero, List.map_nil, Option.getD_some, decide_true, decide_false, List.nodup_nil, y_nod1, Bool.not_true, Bool.not_false, List.map_cons, ct_0, ct_1, ct_2, ct_3, ct_4, ct_5, ct_6, ct_7, ct_8, ct_9, ct_10, ct_11, ct_12, Bool.and_true, Bool.true_and, Bool.and_false, Bool.false_and, x_revL, x_revT, yw, h]
theorem gd_spec {a b : Int} (h0 : 0 ≤ a) (h1 : 0 ≤ b) (h2 : b < 2 ^ 250) : runFn C K_gd [.v (.int a), .v (.int b)] = some (.v (.int (Int.gcd a b)), [.v (.int (Int.gcd a b)), .v (.int 0)]) := by
  obtain ⟨w, hw, yw⟩ := whl_W C
  obtain ⟨e, h, rfl⟩ := gd_loop (C := C) hw h0 h1 h2
  exact gd_g yw h
def GdOK (C : CT) (g : Nat) : Prop := ∀ a b : Int, 0 ≤ a → 0 ≤ b → b < 2 ^ 250 → C g [.v (.int a), .v (.int b)] = some (.v (.int (Int.gcd a b)), [.v (.int (Int.gcd a b)), .v (.int 0)])
theorem quot_g {g : Nat} {u d k : Int} {o1 o2 : Sl} (hd : ¬ d < 0) (c : C g [.v (.int (if u < 0 then -u else u)), .v (.int d)] = some (.v (.int k), [o1, o2])) (hk : 0 < k ∧ k.natAbs < big) :
    runFn C (K_quot g) [.v (.int u), .v (.int d)] = some (.v (.tuple [.int (u / k), .int (d / k)]), [.v (.int u), .v (.int d)]) := by
  rw [y_run (by rfl)]
  simp -implicitDefEqProofs only [K_quot, E.var?, y_con, y_varF, y_varT, y_glo, y_bin, y_neg, y_notT, y_notF, y_andT, y_andF, y_orT, y_orF, y_ite, y_cmp, y_chain, y_tup, y_lst, y_rep, y_idx, y_slice, y_rev, y_call, y_b1, y_b2, y_isI, y_lrng, y_compN, y_compS, y_esN, y_esC, y_rsN, y_rsC, y_asN, y_asV, y_asI, y_oN, y_oS, y_itS, y_it1, y_it2, y_asg, y_par, y_stp, y_unp, y_st, y_app, y_expr, y_iteS, y_for, y_retN, y_pass, y_brk, y_cont, y_raise, y_ssN, y_ssC, y_tasN, y_tasC, y_taN, y_taS, y_aug, y_augV, y_ret, y_retS, y_retE, y_enm, y_enmL, y_enmT, y_zip, y_zipL, y_zipT, y_ext, y_extO, y_seqL, y_seqT, y_nsN, y_nsC, y_tgN, y_tgT, y_tgL, y_tgsN, y_tgsC, y_forN, y_forC, y_cmN, y_cmC, y_wipN, y_wipC, y_wipU, y_wipV, y_bakN, y_bakC, y_chainE, y_chain3, y_chain3E, y_it3, y_nodN, y_ioL, y_ioR, y_argN, y_argL, y_argR, y_argO, y_argI, y_bkN, y_bkL, y_bkR, y_bkO, y_bkI, y_callE, y_outN, y_outR, x_op1, x_op2, x_opdS, x_opdN, x_getS, x_getV, x_slV, x_slO, x_slI, x_rd, x_rdV, x_rdO, x_asg, x_asgU, x_asgV, x_asgO, x_ret, x_retV, x_retO, x_put, x_putO, x_putI, x_add, x_adO, x_adI, x_own, x_ownO, x_ownI, x_base, x_finF, x_finT, x_asB, x_ofB, x_bindB, x_withE, x_dV, x_dO, x_sV, x_sO, x_seqN, x_seqR, x_seqB, x_seqC, x_turnN, x_turnC, x_turnB, x_turnR, x_add', x_sub', x_lt, x_le, x_gt, x_ge, x_eq, x_ne, x_is, x_isn, x_inn, x_nin, shaped_int, shaped_bool, shaped_none, x_eqI, x_eqN, x_eqB, x_eqT2, x_eqT3, x_sz1, x_sz2, x_sz3, x_sz4, x_sz5, x_sz6, truN, truB, truI, x_isNn, x_isNi, x_isNt, x_isNl, x_isIi, x_isIb, x_isBb, x_isBi, x_isTt, x_isLl, x_isTl, x_isLt, x_len, x_lenT, x_abs, x_int, x_intq, x_ixL, x_ixT, at_0, at_1, at_2, at_3, at_4, at_5, z_0, z_1, z_2, z_3, z_4, z_5, z_6, z_7, z_8, z_9, z_10, z_11, z_12, w_0, w_1, w_2, w_3, w_4, w_5, w_6, w_7, w_8, w_9, w_10, w_11, w_12, ix_1_0, ix_2_0, ix_2_1, ix_3_0, ix_3_1, ix_3_2, ix_4_0, ix_4_1, ix_4_2, ix_4_3, ix_5_0, ix_5_1, ix_5_2, ix_5_3, ix_5_4, ix_6_0, ix_6_1, ix_6_2, ix_6_3, ix_6_4, ix_6_5, ix_7_0, ix_7_1, ix_7_2, ix_7_3, ix_7_4, ix_7_5, ix_7_6, Option.map_some, Option.bind_some, Option.map_none, Option.bind_none, List.getElem?_cons_zero, List.getElem?_cons_succ, List.set_cons_zero, List.set_cons_succ, List.cons_append, List.nil_append, List.length_cons, List.length_nil, List.replicate, if_true, Bool.false_eq_true, if_false, reduceIte, Nat.reduceAdd, Nat.reduceSub, List.append_nil, List.take_succ_cons, List.take_zero, List.map_nil, Option.getD_some, decide_true, decide_false, List.nodup_nil, y_nod1, Bool.not_true, Bool.not_false, List.map_cons, ct_0, ct_1, ct_2, ct_3, ct_4, ct_5, ct_6, ct_7, ct_8, ct_9, ct_10, ct_11, ct_12, Bool.and_true, Bool.true_and, Bool.and_false, Bool.false_and, x_revL, x_revT, hd, c, x_fdiv hk]
theorem gcd_small {u d : Int} (hd : 0 < d) (hb : d < 2 ^ 250) : 0 < (Int.gcd u d : Int) ∧ (Int.gcd u d : Int).natAbs < big := by
  have h1 := Int.gcd_pos_of_ne_zero_right u (show d ≠ 0 by omega)
  have h2 : Int.gcd u d ≤ d.natAbs := Nat.gcd_le_right _ (by omega)
  exact ⟨by omega, lt_big (by omega)⟩
def QuOK (C : CT) (q : Nat) : Prop := ∀ u d : Int, u.natAbs < 2 ^ 250 → 0 < d → d < 2 ^ 250 → C q [.v (.int u), .v (.int d)] = some (.v (qd (Rat.divInt u d)), [.v (.int u), .v (.int d)])
theorem quot_spec {g : Nat} {u d : Int} (hd : 0 < d) (hb : d < 2 ^ 250) (cg : GdOK C g) : runFn C (K_quot g) [.v (.int u), .v (.int d)] = some (.v (qd (Rat.divInt u d)), [.v (.int u), .v (.int d)]) := by
  have c := cg (if u < 0 then -u else u) d (by split <;> omega) (by omega) hb
  rw [gcd_abs] at c
  rw [quot_g (by omega) c (gcd_small hd hb), qd_div hd]
theorem max2 {a b : Int} : b1R .max (.list [.int a, .int b]) = some (.v (.int (if b > a then b else a))) := rfl
theorem mul_bb {a b : Int} {k l : Nat} (h1 : a.natAbs < 2 ^ k) (hk : k ≤ 250) (h2 : b.natAbs < 2 ^ l) (hl : l ≤ 250) : mulOk a b = true := by
  have a1 : a.natAbs < big := lt_big (Nat.lt_of_lt_of_le h1 (Nat.pow_le_pow_right (by decide) hk))
  have b1 : b.natAbs < big := lt_big (Nat.lt_of_lt_of_le h2 (Nat.pow_le_pow_right (by decide) hl))
  unfold mulOk; simp [a1, b1]
theorem lq_loop {w : Nat} (hw : ∀ m, m < 2 ^ 64 → m < w) {u d a b : Int} (h0 : 0 ≤ a) (h00 : a < 2 ^ 250) (h1 : 0 ≤ b) (h2 : b < 2 ^ 250) :
    ∃ e, whl (fun e => asB (evX C K_lquot_c1 true e)) (evSs C K_lquot_b1) w [.v (.int u), .v (.int d), .v (.int a), .v (.int b)] = some (.nx e) ∧ e = [.v (.int u), .v (.int d), .v (.int (Int.gcd a b)), .v (.int 0)] := by
  refine whl_run (fun m e => ∃ x y : Int, 0 ≤ x ∧ x < 2 ^ 250 ∧ 0 ≤ y ∧ y < 2 ^ 250 ∧ EuM x y m ∧ e = [.v (.int u), .v (.int d), .v (.int x), .v (.int y)] ∧ Int.gcd x y = Int.gcd a b) _ (fun m e => ?_) w 501 _ (hw _ (by omega)) ⟨a, b, h0, h00, h1, h2, ⟨250, h2, .inl rfl⟩, rfl, rfl⟩
  rintro ⟨x, y, x0, x1, y0, y1, hm, rfl, hg⟩
  by_cases q : 0 < y
  · right
    obtain ⟨m', hm', hE⟩ := eu_step x0 q hm
    have hl := Int.emod_lt_of_pos x q
    have e1 : x - x / y * y = x % y := by rw [Int.emod_def, Int.mul_comm]
    have b1 : 0 < y ∧ y.natAbs < big := ⟨q, lt_big (by omega)⟩
    have dv : (x / y).natAbs < 2 ^ 250 := by
      have := Int.ediv_le_self y x0
      have := Int.ediv_nonneg x0 y0
      omega
    have m1 := x_mul' (mul_bb (a := x / y) (b := y) dv (by decide) (l := 250) (by omega) (by decide))
    refine ⟨[.v (.int u), .v (.int d), .v (.int x), .v (.int y)], [.v (.int u), .v (.int d), .v (.int y), .v (.int (x % y))], m', ?_, ?_, hm', y, x % y, y0, y1, Int.emod_nonneg _ (by omega), by omega, hE, rfl, ?_⟩
    · have t : (y != 0) = true := by simp; omega
      simp -implicitDefEqProofs only [K_lquot_c1, E.var?, y_con, y_varF, y_varT, y_glo, y_bin, y_neg, y_notT, y_notF, y_andT, y_andF, y_orT, y_orF, y_ite, y_cmp, y_chain, y_tup, y_lst, y_rep, y_idx, y_slice, y_rev, y_call, y_b1, y_b2, y_isI, y_lrng, y_compN, y_compS, y_esN, y_esC, y_rsN, y_rsC, y_asN, y_asV, y_asI, y_oN, y_oS, y_itS, y_it1, y_it2, y_asg, y_par, y_stp, y_unp, y_st, y_app, y_expr, y_iteS, y_for, y_retN, y_pass, y_brk, y_cont, y_raise, y_ssN, y_ssC, y_tasN, y_tasC, y_taN, y_taS, y_aug, y_augV, y_ret, y_retS, y_retE, y_enm, y_enmL, y_enmT, y_zip, y_zipL, y_zipT, y_ext, y_extO, y_seqL, y_seqT, y_nsN, y_nsC, y_tgN, y_tgT, y_tgL, y_tgsN, y_tgsC, y_forN, y_forC, y_cmN, y_cmC, y_wipN, y_wipC, y_wipU, y_wipV, y_bakN, y_bakC, y_chainE, y_chain3, y_chain3E, y_it3, y_nodN, y_ioL, y_ioR, y_argN, y_argL, y_argR, y_argO, y_argI, y_bkN, y_bkL, y_bkR, y_bkO, y_bkI, y_callE, y_outN, y_outR, x_op1, x_op2, x_opdS, x_opdN, x_getS, x_getV, x_slV, x_slO, x_slI, x_rd, x_rdV, x_rdO, x_asg, x_asgU, x_asgV, x_asgO, x_ret, x_retV, x_retO, x_put, x_putO, x_putI, x_add, x_adO, x_adI, x_own, x_ownO, x_ownI, x_base, x_finF, x_finT, x_asB, x_ofB, x_bindB, x_withE, x_dV, x_dO, x_sV, x_sO, x_seqN, x_seqR, x_seqB, x_seqC, x_turnN, x_turnC, x_turnB, x_turnR, x_add', x_sub', x_lt, x_le, x_gt, x_ge, x_eq, x_ne, x_is, x_isn, x_inn, x_nin, shaped_int, shaped_bool, shaped_none, x_eqI, x_eqN, x_eqB, x_eqT2, x_eqT3, x_sz1, x_sz2, x_sz3, x_sz4, x_sz5, x_sz6, truN, truB, truI, x_isNn, x_isNi, x_isNt, x_isNl, x_isIi, x_isIb, x_isBb, x_isBi, x_isTt, x_isLl, x_isTl, x_isLt, x_len, x_lenT, x_abs, x_int, x_intq, x_ixL, x_ixT, at_0, at_1, at_2, at_3, at_4, at_5, z_0, z_1, z_2, z_3, z_4, z_5, z_6, z_7, z_8, z_9, z_10, z_11, z_12, w_0, w_1, w_2, w_3, w_4, w_5, w_6, w_7, w_8, w_9, w_10, w_11, w_12, ix_1_0, ix_2_0, ix_2_1, ix_3_0, ix_3_1, ix_3_2, ix_4_0, ix_4_1, ix_4_2, ix_4_3, ix_5_0, ix_5_1, ix_5_2, ix_5_3, ix_5_4, ix_6_0, ix_6_1, ix_6_2, ix_6_3, ix_6_4, ix_6_5, ix_7_0, ix_7_1, ix_7_2, ix_7_3, ix_7_4, ix_7_5, ix_7_6, Option.map_some, Option.bind_some, Option.map_none, Option.bind_none, List.getElem?_cons_zero, List.getElem?_cons_succ, List.set_cons_zero, List.set_cons_succ, List.cons_append, List.nil_append, List.length_cons, List.length_nil, List.replicate, if_true, Bool.false_eq_true, if_false, reduceIte, Nat.reduceAdd, Nat.reduceSub, List.append_nil, List.take_succ_cons, List.take_zero, List.map_nil, Option.getD_some, decide_true, decide_false, List.nodup_nil, y_nod1, Bool.not_true, Bool.not_false, List.map_cons, ct_0, ct_1, ct_2, ct_3, ct_4, ct_5, ct_6, ct_7, ct_8, ct_9, ct_10, ct_11, ct_12, Bool.and_true, Bool.true_and, Bool.and_false, Bool.false_and, x_revL, x_revT, t]
    · simp -implicitDefEqProofs only [K_lquot_b1, E.var?, y_con, y_varF, y_varT, y_glo, y_bin, y_neg, y_notT, y_notF, y_andT, y_andF, y_orT, y_orF, y_ite, y_cmp, y_chain, y_tup, y_lst, y_rep, y_idx, y_slice, y_rev, y_call, y_b1, y_b2, y_isI, y_lrng, y_compN, y_compS, y_esN, y_esC, y_rsN, y_rsC, y_asN, y_asV, y_asI, y_oN, y_oS, y_itS, y_it1, y_it2, y_asg, y_par, y_stp, y_unp, y_st, y_app, y_expr, y_iteS, y_for, y_retN, y_pass, y_brk, y_cont, y_raise, y_ssN, y_ssC, y_tasN, y_tasC, y_taN, y_taS, y_aug, y_augV, y_ret, y_retS, y_retE, y_enm, y_enmL, y_enmT, y_zip, y_zipL, y_zipT, y_ext, y_extO, y_seqL, y_seqT, y_nsN, y_nsC, y_tgN, y_tgT, y_tgL, y_tgsN, y_tgsC, y_forN, y_forC, y_cmN, y_cmC, y_wipN, y_wipC, y_wipU, y_wipV, y_bakN, y_bakC, y_chainE, y_chain3, y_chain3E, y_it3, y_nodN, y_ioL, y_ioR, y_argN, y_argL, y_argR, y_argO, y_argI, y_bkN, y_bkL, y_bkR, y_bkO, y_bkI, y_callE, y_outN, y_outR, x_op1, x_op2, x_opdS, x_opdN, x_getS, x_getV, x_slV, x_slO, x_slI, x_rd, x_rdV, x_rdO, x_asg, x_asgU, x_asgV, x_asgO, x_ret, x_retV, x_retO, x_put, x_putO, x_putI, x_add, x_adO, x_adI, x_own, x_ownO, x_ownI, x_base, x_finF, x_finT, x_asB, x_ofB, x_bindB, x_withE, x_dV, x_dO, x_sV, x_sO, x_seqN, x_seqR, x_seqB, x_seqC, x_turnN, x_turnC, x_turnB, x_turnR, x_add', x_sub', x_lt, x_le, x_gt, x_ge, x_eq, x_ne, x_is, x_isn, x_inn, x_nin, shaped_int, shaped_bool, shaped_none, x_eqI, x_eqN, x_eqB, x_eqT2, x_eqT3, x_sz1, x_sz2, x_sz3, x_sz4, x_sz5, x_sz6, truN, truB, truI, x_isNn, x_isNi, x_isNt, x_isNl, x_isIi, x_isIb, x_isBb, x_isBi, x_isTt, x_isLl, x_isTl, x_isLt, x_len, x_lenT, x_abs, x_int, x_intq, x_ixL, x_ixT, at_0, at_1, at_2, at_3, at_4, at_5, z_0, z_1, z_2, z_3, z_4, z_5, z_6, z_7, z_8, z_9, z_10, z_11, z_12, w_0, w_1, w_2, w_3, w_4, w_5, w_6, w_7, w_8, w_9, w_10, w_11, w_12, ix_1_0, ix_2_0, ix_2_1, ix_3_0, ix_3_1, ix_3_2, ix_4_0, ix_4_1, ix_4_2, ix_4_3, ix_5_0, ix_5_1, ix_5_2, ix_5_3, ix_5_4, ix_6_0, ix_6_1, ix_6_2, ix_6_3, ix_6_4, ix_6_5, ix_7_0, ix_7_1, ix_7_2, ix_7_3, ix_7_4, ix_7_5, ix_7_6, Option.map_some, Option.bind_some, Option.map_none, Option.bind_none, List.getElem?_cons_zero, List.getElem?_cons_succ, List.set_cons_zero, List.set_cons_succ, List.cons_append, List.nil_append, List.length_cons, List.length_nil, List.replicate, if_true, Bool.false_eq_true, if_false, reduceIte, Nat.reduceAdd, Nat.reduceSub, List.append_nil, List.take_succ_cons, List.take_zero, List.map_nil, Option.getD_some, decide_true, decide_false, List.nodup_nil, y_nod1, Bool.not_true, Bool.not_false, List.map_cons, ct_0, ct_1, ct_2, ct_3, ct_4, ct_5, ct_6, ct_7, ct_8, ct_9, ct_10, ct_11, ct_12, Bool.and_true, Bool.true_and, Bool.and_false, Bool.false_and, x_revL, x_revT, x_fdiv b1, m1, e1]
    · rw [← hg, eu_gcd x0 y0]
  · left
    have hy : y = 0 := by omega
    subst hy
    refine ⟨[.v (.int u), .v (.int d), .v (.int x), .v (.int 0)], ?_, ?_⟩
    · have t : ((0 : Int) != 0) = false := rfl
      simp -implicitDefEqProofs only [K_lquot_c1, E.var?, y_con, y_varF, y_varT, y_glo, y_bin, y_neg, y_notT, y_notF, y_andT, y_andF, y_orT, y_orF, y_ite, y_cmp, y_chain, y_tup, y_lst, y_rep, y_idx, y_slice, y_rev, y_call, y_b1, y_b2, y_isI, y_lrng, y_compN, y_compS, y_esN, y_esC, y_rsN, y_rsC, y_asN, y_asV, y_asI, y_oN, y_oS, y_itS, y_it1, y_it2, y_asg, y_par, y_stp, y_unp, y_st, y_app, y_expr, y_iteS, y_for, y_retN, y_pass, y_brk, y_cont, y_raise, y_ssN, y_ssC, y_tasN, y_tasC, y_taN, y_taS, y_aug, y_augV, y_ret, y_retS, y_retE, y_enm, y_enmL, y_enmT, y_zip, y_zipL, y_zipT, y_ext, y_extO, y_seqL, y_seqT, y_nsN, y_nsC, y_tgN, y_tgT, y_tgL, y_tgsN, y_tgsC, y_forN, y_forC, y_cmN, y_cmC, y_wipN, y_wipC, y_wipU, y_wipV, y_bakN, y_bakC, y_chainE, y_chain3, y_chain3E, y_it3, y_nodN, y_ioL, y_ioR, y_argN, y_argL, y_argR, y_argO, y_argI, y_bkN, y_bkL, y_bkR, y_bkO, y_bkI, y_callE, y_outN, y_outR, x_op1, x_op2, x_opdS, x_opdN, x_getS, x_getV, x_slV, x_slO, x_slI, x_rd, x_rdV, x_rdO, x_asg, x_asgU, x_asgV, x_asgO, x_ret, x_retV, x_retO, x_put, x_putO, x_putI, x_add, x_adO, x_adI, x_own, x_ownO, x_ownI, x_base, x_finF, x_finT, x_asB, x_ofB, x_bindB, x_withE, x_dV, x_dO, x_sV, x_sO, x_seqN, x_seqR, x_seqB, x_seqC, x_turnN, x_turnC, x_turnB, x_turnR, x_add', x_sub', x_lt, x_le, x_gt, x_ge, x_eq, x_ne, x_is, x_isn, x_inn, x_nin, shaped_int, shaped_bool, shaped_none, x_eqI, x_eqN, x_eqB, x_eqT2, x_eqT3, x_sz1, x_sz2, x_sz3, x_sz4, x_sz5, x_sz6, truN, truB, truI, x_isNn, x_isNi, x_isNt, x_isNl, x_isIi, x_isIb, x_isBb, x_isBi, x_isTt, x_isLl, x_isTl, x_isLt, x_len, x_lenT, x_abs, x_int, x_intq, x_ixL, x_ixT, at_0, at_1, at_2, at_3, at_4, at_5, z_0, z_1, z_2, z_3, z_4, z_5, z_6, z_7, z_8, z_9, z_10, z_11, z_12, w_0, w_1, w_2, w_3, w_4, w_5, w_6, w_7, w_8, w_9, w_10, w_11, w_12, ix_1_0, ix_2_0, ix_2_1, ix_3_0, ix_3_1, ix_3_2, ix_4_0, ix_4_1, ix_4_2, ix_4_3, ix_5_0, ix_5_1, ix_5_2, ix_5_3, ix_5_4, ix_6_0, ix_6_1, ix_6_2, ix_6_3, ix_6_4, ix_6_5, ix_7_0, ix_7_1, ix_7_2, ix_7_3, ix_7_4, ix_7_5, ix_7_6, Option.map_some, Option.bind_some, Option.map_none, Option.bind_none, List.getElem?_cons_zero, List.getElem?_cons_succ, List.set_cons_zero, List.set_cons_succ, List.cons_append, List.nil_append, List.length_cons, List.length_nil, List.replicate, if_true, Bool.false_eq_true, if_false, reduceIte, Nat.reduceAdd, Nat.reduceSub, List.append_nil, List.take_succ_cons, List.take_zero, List.map_nil, Option.getD_some, decide_true, decide_false, List.nodup_nil, y_nod1, Bool.not_true, Bool.not_false, List.map_cons, ct_0, ct_1, ct_2, ct_3, ct_4, ct_5, ct_6, ct_7, ct_8, ct_9, ct_10, ct_11, ct_12, Bool.and_true, Bool.true_and, Bool.and_false, Bool.false_and, x_revL, x_revT, t]
    · rw [← hg, Int.gcd_zero_right, Int.natAbs_of_nonneg x0]
theorem lquot_g {w : Nat} {u d k : Int} (yw : ∀ (c : E) (b : Ss) (s0 : Sl) (r : Ev), evS C (.whl c b) (s0 :: r) = whl (fun e => asB (evX C c true e)) (evSs C b) w (s0 :: r))
    (h : whl (fun e => asB (evX C K_lquot_c1 true e)) (evSs C K_lquot_b1) w [.v (.int u), .v (.int d), .v (.int (if u < 0 then -u else u)), .v (.int (if d < 0 then -d else d))] = some (.nx [.v (.int u), .v (.int d), .v (.int k), .v (.int 0)]))
    (hk : 0 < k ∧ k.natAbs < big) (hd : 0 < d) : runFn C K_lquot [.v (.int u), .v (.int d)] = some (.v (.tuple [.int (u / k), .int (d / k)]), [.v (.int u), .v (.int d)]) := by
  rw [y_run (by rfl)]
  have e : (if (1 : Int) > k then 1 else k) = k := by split <;> omega
  have hk1 := hk.1
  have hk2 := hk.2
  simp -implicitDefEqProofs only [K_lquot, E.var?, y_con, y_varF, y_varT, y_glo, y_bin, y_neg, y_notT, y_notF, y_andT, y_andF, y_orT, y_orF, y_ite, y_cmp, y_chain, y_tup, y_lst, y_rep, y_idx, y_slice, y_rev, y_call, y_b1, y_b2, y_isI, y_lrng, y_compN, y_compS, y_esN, y_esC, y_rsN, y_rsC, y_asN, y_asV, y_asI, y_oN, y_oS, y_itS, y_it1, y_it2, y_asg, y_par, y_stp, y_unp, y_st, y_app, y_expr, y_iteS, y_for, y_retN, y_pass, y_brk, y_cont, y_raise, y_ssN, y_ssC, y_tasN, y_tasC, y_taN, y_taS, y_aug, y_augV, y_ret, y_retS, y_retE, y_enm, y_enmL, y_enmT, y_zip, y_zipL, y_zipT, y_ext, y_extO, y_seqL, y_seqT, y_nsN, y_nsC, y_tgN, y_tgT, y_tgL, y_tgsN, y_tgsC, y_forN, y_forC, y_cmN, y_cmC, y_wipN, y_wipC, y_wipU, y_wipV, y_bakN, y_bakC, y_chainE, y_chain3, y_chain3E, y_it3, y_nodN, y_ioL, y_ioR, y_argN, y_argL, y_argR, y_argO, y_argI, y_bkN, y_bkL, y_bkR, y_bkO, y_bkI, y_callE, y_outN, y_outR, x_op1, x_op2, x_opdS, x_opdN, x_getS, x_getV, x_slV, x_slO, x_slI, x_rd, x_rdV, x_rdO, x_asg, x_asgU, x_asgV, x_asgO, x_ret, x_retV, x_retO, x_put, x_putO, x_putI, x_add, x_adO, x_adI, x_own, x_ownO, x_ownI, x_base, x_finF, x_finT, x_asB, x_ofB, x_bindB, x_withE, x_dV, x_dO, x_sV, x_sO, x_seqN, x_seqR, x_seqB, x_seqC, x_turnN, x_turnC, x_turnB, x_turnR, x_add', x_sub', x_lt, x_le, x_gt, x_ge, x_eq, x_ne, x_is, x_isn, x_inn, x_nin, shaped_int, shaped_bool, shaped_none, x_eqI, x_eqN, x_eqB, x_eqT2, x_eqT3, x_sz1, x_sz2, x_sz3, x_sz4, x_sz5, x_sz6, truN, truB, truI, x_isNn, x_isNi, x_isNt, x_isNl, x_isIi, x_isIb, x_isBb, x_isBi, x_isTt, x_isLl, x_isTl, x_isLt, x_len, x_lenT, x_abs, x_int, x_intq, x_ixL, x_ixT, at_0, at_1, at_2, at_3, at_4, at_5, z_0, z_1, z_2, z_3, z_4, z_5, z_6, z_7, z_8, z_9, z_10, z_11, z_12, w_0, w_1, w_2, w_3, w_4, w_5, w_6, w_7, w_8, w_9, w_10, w_11, w_12, ix_1_0, ix_2_0, ix_2_1, ix_3_0, ix_3_1, ix_3_2, ix_4_0, ix_4_1, ix_4_2, ix_4_3, ix_5_0, ix_5_1, ix_5_2, ix_5_3, ix_5_4, ix_6_0, ix_6_1, ix_6_2, ix_6_3, ix_6_4, ix_6_5, ix_7_0, ix_7_1, ix_7_2, ix_7_3, ix_7_4, ix_7_5, ix_7_6, Option.map_some, Option.bind_some, Option.map_none, Option.bind_none, List.getElem?_cons_zero, List.getElem?_cons_succ, List.set_cons_zero, List.set_cons_succ, List.cons_append, List.nil_append, List.length_cons, List.length_nil, List.replicate, if_true, Bool.false_eq_true, if_false, reduceIte, Nat.reduceAdd, Nat.reduceSub, List.append_nil, List.take_succ_cons, List.take_zero, List.map_nil, Option.getD_some, decide_true, decide_false, List.nodup_nil, y_nod1, Bool.not_true, Bool.not_false, List.map_cons, ct_0, ct_1, ct_2, ct_3, ct_4, ct_5, ct_6, ct_7, ct_8, ct_9, ct_10, ct_11, ct_12, Bool.and_true, Bool.true_and, Bool.and_false, Bool.false_and, x_revL, x_revT, yw, h, max2, e, x_fdiv hk, hd]
theorem lquot_spec {u d : Int} (hu : u.natAbs < 2 ^ 250) (hd : 0 < d) (hb : d < 2 ^ 250) : runFn C K_lquot [.v (.int u), .v (.int d)] = some (.v (qd (Rat.divInt u d)), [.v (.int u), .v (.int d)]) := by
  obtain ⟨w, hw, yw⟩ := whl_W C
  obtain ⟨e, h, rfl⟩ := lq_loop (C := C) (u := u) (d := d) hw (a := if u < 0 then -u else u) (b := if d < 0 then -d else d) (by split <;> omega) (by split <;> omega) (by split <;> omega) (by split <;> omega)
  rw [gcd_abs, if_neg (show ¬ d < 0 by omega)] at h
  rw [lquot_g yw (by rw [if_neg (show ¬ d < 0 by omega)]; exact h) (gcd_small hd hb) hd, qd_div hd]
theorem plus_g {q : Nat} {a b c d : Int} {R : Rs} {o1 o2 : Sl} (h1 : mulOk a d = true) (h2 : mulOk c b = true) (h3 : mulOk b d = true)
    (h : C q [.v (.int (a * d + c * b)), .v (.int (b * d))] = some (R, [o1, o2])) : runFn C (K_plus q) [.v (.tuple [.int a, .int b]), .v (.tuple [.int c, .int d])] = some (R, [.v (.tuple [.int a, .int b]), .v (.tuple [.int c, .int d])]) := by
  rw [y_run (by rfl)]
  simp -implicitDefEqProofs only [K_plus, E.var?, y_con, y_varF, y_varT, y_glo, y_bin, y_neg, y_notT, y_notF, y_andT, y_andF, y_orT, y_orF, y_ite, y_cmp, y_chain, y_tup, y_lst, y_rep, y_idx, y_slice, y_rev, y_call, y_b1, y_b2, y_isI, y_lrng, y_compN, y_compS, y_esN, y_esC, y_rsN, y_rsC, y_asN, y_asV, y_asI, y_oN, y_oS, y_itS, y_it1, y_it2, y_asg, y_par, y_stp, y_unp, y_st, y_app, y_expr, y_iteS, y_for, y_retN, y_pass, y_brk, y_cont, y_raise, y_ssN, y_ssC, y_tasN, y_tasC, y_taN, y_taS, y_aug, y_augV, y_ret, y_retS, y_retE, y_enm, y_enmL, y_enmT, y_zip, y_zipL, y_zipT, y_ext, y_extO, y_seqL, y_seqT, y_nsN, y_nsC, y_tgN, y_tgT, y_tgL, y_tgsN, y_tgsC, y_forN, y_forC, y_cmN, y_cmC, y_wipN, y_wipC, y_wipU, y_wipV, y_bakN, y_bakC, y_chainE, y_chain3, y_chain3E, y_it3, y_nodN, y_ioL, y_ioR, y_argN, y_argL, y_argR, y_argO, y_argI, y_bkN, y_bkL, y_bkR, y_bkO, y_bkI, y_callE, y_outN, y_outR, x_op1, x_op2, x_opdS, x_opdN, x_getS, x_getV, x_slV, x_slO, x_slI, x_rd, x_rdV, x_rdO, x_asg, x_asgU, x_asgV, x_asgO, x_ret, x_retV, x_retO, x_put, x_putO, x_putI, x_add, x_adO, x_adI, x_own, x_ownO, x_ownI, x_base, x_finF, x_finT, x_asB, x_ofB, x_bindB, x_withE, x_dV, x_dO, x_sV, x_sO, x_seqN, x_seqR, x_seqB, x_seqC, x_turnN, x_turnC, x_turnB, x_turnR, x_add', x_sub', x_lt, x_le, x_gt, x_ge, x_eq, x_ne, x_is, x_isn, x_inn, x_nin, shaped_int, shaped_bool, shaped_none, x_eqI, x_eqN, x_eqB, x_eqT2, x_eqT3, x_sz1, x_sz2, x_sz3, x_sz4, x_sz5, x_sz6, truN, truB, truI, x_isNn, x_isNi, x_isNt, x_isNl, x_isIi, x_isIb, x_isBb, x_isBi, x_isTt, x_isLl, x_isTl, x_isLt, x_len, x_lenT, x_abs, x_int, x_intq, x_ixL, x_ixT, at_0, at_1, at_2, at_3, at_4, at_5, z_0, z_1, z_2, z_3, z_4, z_5, z_6, z_7, z_8, z_9, z_10, z_11, z_12, w_0, w_1, w_2, w_3, w_4, w_5, w_6, w_7, w_8, w_9, w_10, w_11, w_12, ix_1_0, ix_2_0, ix_2_1, ix_3_0, ix_3_1, ix_3_2, ix_4_0, ix_4_1, ix_4_2, ix_4_3, ix_5_0, ix_5_1, ix_5_2, ix_5_3, ix_5_4, ix_6_0, ix_6_1, ix_6_2, ix_6_3, ix_6_4, ix_6_5, ix_7_0, ix_7_1, ix_7_2, ix_7_3, ix_7_4, ix_7_5, ix_7_6, Option.map_some, Option.bind_some, Option.map_none, Option.bind_none, List.getElem?_cons_zero, List.getElem?_cons_succ, List.set_cons_zero, List.set_cons_succ, List.cons_append, List.nil_append, List.length_cons, List.length_nil, List.replicate, if_true, Bool.false_eq_true, if_false, reduceIte, Nat.reduceAdd, Nat.reduceSub, List.append_nil, List.take_succ_cons, List.take_zero, List.map_nil, Option.getD_some, decide_true, decide_false, List.nodup_nil, y_nod1, Bool.not_true, Bool.not_false, List.map_cons, ct_0, ct_1, ct_2, ct_3, ct_4, ct_5, ct_6, ct_7, ct_8, ct_9, ct_10, ct_11, ct_12, Bool.and_true, Bool.true_and, Bool.and_false, Bool.false_and, x_revL, x_revT, x_mul' h1, x_mul' h2, x_mul' h3, h]
theorem minus_g {q : Nat} {a b c d : Int} {R : Rs} {o1 o2 : Sl} (h1 : mulOk a d = true) (h2 : mulOk c b = true) (h3 : mulOk b d = true)
    (h : C q [.v (.int (a * d - c * b)), .v (.int (b * d))] = some (R, [o1, o2])) : runFn C (K_minus q) [.v (.tuple [.int a, .int b]), .v (.tuple [.int c, .int d])] = some (R, [.v (.tuple [.int a, .int b]), .v (.tuple [.int c, .int d])]) := by
  rw [y_run (by rfl)]
  simp -implicitDefEqProofs only [K_minus, E.var?, y_con, y_varF, y_varT, y_glo, y_bin, y_neg, y_notT, y_notF, y_andT, y_andF, y_orT, y_orF, y_ite, y_cmp, y_chain, y_tup, y_lst, y_rep, y_idx, y_slice, y_rev, y_call, y_b1, y_b2, y_isI, y_lrng, y_compN, y_compS, y_esN, y_esC, y_rsN, y_rsC, y_asN, y_asV, y_asI, y_oN, y_oS, y_itS, y_it1, y_it2, y_asg, y_par, y_stp, y_unp, y_st, y_app, y_expr, y_iteS, y_for, y_retN, y_pass, y_brk, y_cont, y_raise, y_ssN, y_ssC, y_tasN, y_tasC, y_taN, y_taS, y_aug, y_augV, y_ret, y_retS, y_retE, y_enm, y_enmL, y_enmT, y_zip, y_zipL, y_zipT, y_ext, y_extO, y_seqL, y_seqT, y_nsN, y_nsC, y_tgN, y_tgT, y_tgL, y_tgsN, y_tgsC, y_forN, y_forC, y_cmN, y_cmC, y_wipN, y_wipC, y_wipU, y_wipV, y_bakN, y_bakC, y_chainE, y_chain3, y_chain3E, y_it3, y_nodN, y_ioL, y_ioR, y_argN, y_argL, y_argR, y_argO, y_argI, y_bkN, y_bkL, y_bkR, y_bkO, y_bkI, y_callE, y_outN, y_outR, x_op1, x_op2, x_opdS, x_opdN, x_getS, x_getV, x_slV, x_slO, x_slI, x_rd, x_rdV, x_rdO, x_asg, x_asgU, x_asgV, x_asgO, x_ret, x_retV, x_retO, x_put, x_putO, x_putI, x_add, x_adO, x_adI, x_own, x_ownO, x_ownI, x_base, x_finF, x_finT, x_asB, x_ofB, x_bindB, x_withE, x_dV, x_dO, x_sV, x_sO, x_seqN, x_seqR, x_seqB, x_seqC, x_turnN, x_turnC, x_turnB, x_turnR, x_add', x_sub', x_lt, x_le, x_gt, x_ge, x_eq, x_ne, x_is, x_isn, x_inn, x_nin, shaped_int, shaped_bool, shaped_none, x_eqI, x_eqN, x_eqB, x_eqT2, x_eqT3, x_sz1, x_sz2, x_sz3, x_sz4, x_sz5, x_sz6, truN, truB, truI, x_isNn, x_isNi, x_isNt, x_isNl, x_isIi, x_isIb, x_isBb, x_isBi, x_isTt, x_isLl, x_isTl, x_isLt, x_len, x_lenT, x_abs, x_int, x_intq, x_ixL, x_ixT, at_0, at_1, at_2, at_3, at_4, at_5, z_0, z_1, z_2, z_3, z_4, z_5, z_6, z_7, z_8, z_9, z_10, z_11, z_12, w_0, w_1, w_2, w_3, w_4, w_5, w_6, w_7, w_8, w_9, w_10, w_11, w_12, ix_1_0, ix_2_0, ix_2_1, ix_3_0, ix_3_1, ix_3_2, ix_4_0, ix_4_1, ix_4_2, ix_4_3, ix_5_0, ix_5_1, ix_5_2, ix_5_3, ix_5_4, ix_6_0, ix_6_1, ix_6_2, ix_6_3, ix_6_4, ix_6_5, ix_7_0, ix_7_1, ix_7_2, ix_7_3, ix_7_4, ix_7_5, ix_7_6, Option.map_some, Option.bind_some, Option.map_none, Option.bind_none, List.getElem?_cons_zero, List.getElem?_cons_succ, List.set_cons_zero, List.set_cons_succ, List.cons_append, List.nil_append, List.length_cons, List.length_nil, List.replicate, if_true, Bool.false_eq_true, if_false, reduceIte, Nat.reduceAdd, Nat.reduceSub, List.append_nil, List.take_succ_cons, List.take_zero, List.map_nil, Option.getD_some, decide_true, decide_false, List.nodup_nil, y_nod1, Bool.not_true, Bool.not_false, List.map_cons, ct_0, ct_1, ct_2, ct_3, ct_4, ct_5, ct_6, ct_7, ct_8, ct_9, ct_10, ct_11, ct_12, Bool.and_true, Bool.true_and, Bool.and_false, Bool.false_and, x_revL, x_revT, x_mul' h1, x_mul' h2, x_mul' h3, h]
theorem times_g {q : Nat} {a b c d : Int} {R : Rs} {o1 o2 : Sl} (h1 : mulOk a c = true) (h2 : mulOk b d = true)
    (h : C q [.v (.int (a * c)), .v (.int (b * d))] = some (R, [o1, o2])) : runFn C (K_times q) [.v (.tuple [.int a, .int b]), .v (.tuple [.int c, .int d])] = some (R, [.v (.tuple [.int a, .int b]), .v (.tuple [.int c, .int d])]) := by
  rw [y_run (by rfl)]
  simp -implicitDefEqProofs only [K_times, E.var?, y_con, y_varF, y_varT, y_glo, y_bin, y_neg, y_notT, y_notF, y_andT, y_andF, y_orT, y_orF, y_ite, y_cmp, y_chain, y_tup, y_lst, y_rep, y_idx, y_slice, y_rev, y_call, y_b1, y_b2, y_isI, y_lrng, y_compN, y_compS, y_esN, y_esC, y_rsN, y_rsC, y_asN, y_asV, y_asI, y_oN, y_oS, y_itS, y_it1, y_it2, y_asg, y_par, y_stp, y_unp, y_st, y_app, y_expr, y_iteS, y_for, y_retN, y_pass, y_brk, y_cont, y_raise, y_ssN, y_ssC, y_tasN, y_tasC, y_taN, y_taS, y_aug, y_augV, y_ret, y_retS, y_retE, y_enm, y_enmL, y_enmT, y_zip, y_zipL, y_zipT, y_ext, y_extO, y_seqL, y_seqT, y_nsN, y_nsC, y_tgN, y_tgT, y_tgL, y_tgsN, y_tgsC, y_forN, y_forC, y_cmN, y_cmC, y_wipN, y_wipC, y_wipU, y_wipV, y_bakN, y_bakC, y_chainE, y_chain3, y_chain3E, y_it3, y_nodN, y_ioL, y_ioR, y_argN, y_argL, y_argR, y_argO, y_argI, y_bkN, y_bkL, y_bkR, y_bkO, y_bkI, y_callE, y_outN, y_outR, x_op1, x_op2, x_opdS, x_opdN, x_getS, x_getV, x_slV, x_slO, x_slI, x_rd, x_rdV, x_rdO, x_asg, x_asgU, x_asgV, x_asgO, x_ret, x_retV, x_retO, x_put, x_putO, x_putI, x_add, x_adO, x_adI, x_own, x_ownO, x_ownI, x_base, x_finF, x_finT, x_asB, x_ofB, x_bindB, x_withE, x_dV, x_dO, x_sV, x_sO, x_seqN, x_seqR, x_seqB, x_seqC, x_turnN, x_turnC, x_turnB, x_turnR, x_add', x_sub', x_lt, x_le, x_gt, x_ge, x_eq, x_ne, x_is, x_isn, x_inn, x_nin, shaped_int, shaped_bool, shaped_none, x_eqI, x_eqN, x_eqB, x_eqT2, x_eqT3, x_sz1, x_sz2, x_sz3, x_sz4, x_sz5, x_sz6, truN, truB, truI, x_isNn, x_isNi, x_isNt, x_isNl, x_isIi, x_isIb, x_isBb, x_isBi, x_isTt, x_isLl, x_isTl, x_isLt, x_len, x_lenT, x_abs, x_int, x_intq, x_ixL, x_ixT, at_0, at_1, at_2, at_3, at_4, at_5, z_0, z_1, z_2, z_3, z_4, z_5, z_6, z_7, z_8, z_9, z_10, z_11, z_12, w_0, w_1, w_2, w_3, w_4, w_5, w_6, w_7, w_8, w_9, w_10, w_11, w_12, ix_1_0, ix_2_0, ix_2_1, ix_3_0, ix_3_1, ix_3_2, ix_4_0, ix_4_1, ix_4_2, ix_4_3, ix_5_0, ix_5_1, ix_5_2, ix_5_3, ix_5_4, ix_6_0, ix_6_1, ix_6_2, ix_6_3, ix_6_4, ix_6_5, ix_7_0, ix_7_1, ix_7_2, ix_7_3, ix_7_4, ix_7_5, ix_7_6, Option.map_some, Option.bind_some, Option.map_none, Option.bind_none, List.getElem?_cons_zero, List.getElem?_cons_succ, List.set_cons_zero, List.set_cons_succ, List.cons_append, List.nil_append, List.length_cons, List.length_nil, List.replicate, if_true, Bool.false_eq_true, if_false, reduceIte, Nat.reduceAdd, Nat.reduceSub, List.append_nil, List.take_succ_cons, List.take_zero, List.map_nil, Option.getD_some, decide_true, decide_false, List.nodup_nil, y_nod1, Bool.not_true, Bool.not_false, List.map_cons, ct_0, ct_1, ct_2, ct_3, ct_4, ct_5, ct_6, ct_7, ct_8, ct_9, ct_10, ct_11, ct_12, Bool.and_true, Bool.true_and, Bool.and_false, Bool.false_and, x_revL, x_revT, x_mul' h1, x_mul' h2, h]
theorem over_g {q : Nat} {a b c d : Int} {R : Rs} {o1 o2 : Sl} (h1 : mulOk a d = true) (h2 : mulOk b c = true)
    (h : C q [.v (.int (a * d)), .v (.int (b * c))] = some (R, [o1, o2])) : runFn C (K_over q) [.v (.tuple [.int a, .int b]), .v (.tuple [.int c, .int d])] = some (R, [.v (.tuple [.int a, .int b]), .v (.tuple [.int c, .int d])]) := by
  rw [y_run (by rfl)]
  simp -implicitDefEqProofs only [K_over, E.var?, y_con, y_varF, y_varT, y_glo, y_bin, y_neg, y_notT, y_notF, y_andT, y_andF, y_orT, y_orF, y_ite, y_cmp, y_chain, y_tup, y_lst, y_rep, y_idx, y_slice, y_rev, y_call, y_b1, y_b2, y_isI, y_lrng, y_compN, y_compS, y_esN, y_esC, y_rsN, y_rsC, y_asN, y_asV, y_asI, y_oN, y_oS, y_itS, y_it1, y_it2, y_asg, y_par, y_stp, y_unp, y_st, y_app, y_expr, y_iteS, y_for, y_retN, y_pass, y_brk, y_cont, y_raise, y_ssN, y_ssC, y_tasN, y_tasC, y_taN, y_taS, y_aug, y_augV, y_ret, y_retS, y_retE, y_enm, y_enmL, y_enmT, y_zip, y_zipL, y_zipT, y_ext, y_extO, y_seqL, y_seqT, y_nsN, y_nsC, y_tgN, y_tgT, y_tgL, y_tgsN, y_tgsC, y_forN, y_forC, y_cmN, y_cmC, y_wipN, y_wipC, y_wipU, y_wipV, y_bakN, y_bakC, y_chainE, y_chain3, y_chain3E, y_it3, y_nodN, y_ioL, y_ioR, y_argN, y_argL, y_argR, y_argO, y_argI, y_bkN, y_bkL, y_bkR, y_bkO, y_bkI, y_callE, y_outN, y_outR, x_op1, x_op2, x_opdS, x_opdN, x_getS, x_getV, x_slV, x_slO, x_slI, x_rd, x_rdV, x_rdO, x_asg, x_asgU, x_asgV, x_asgO, x_ret, x_retV, x_retO, x_put, x_putO, x_putI, x_add, x_adO, x_adI, x_own, x_ownO, x_ownI, x_base, x_finF, x_finT, x_asB, x_ofB, x_bindB, x_withE, x_dV, x_dO, x_sV, x_sO, x_seqN, x_seqR, x_seqB, x_seqC, x_turnN, x_turnC, x_turnB, x_turnR, x_add', x_sub', x_lt, x_le, x_gt, x_ge, x_eq, x_ne, x_is, x_isn, x_inn, x_nin, shaped_int, shaped_bool, shaped_none, x_eqI, x_eqN, x_eqB, x_eqT2, x_eqT3, x_sz1, x_sz2, x_sz3, x_sz4, x_sz5, x_sz6, truN, truB, truI, x_isNn, x_isNi, x_isNt, x_isNl, x_isIi, x_isIb, x_isBb, x_isBi, x_isTt, x_isLl, x_isTl, x_isLt, x_len, x_lenT, x_abs, x_int, x_intq, x_ixL, x_ixT, at_0, at_1, at_2, at_3, at_4, at_5, z_0, z_1, z_2, z_3, z_4, z_5, z_6, z_7, z_8, z_9, z_10, z_11, z_12, w_0, w_1, w_2, w_3, w_4, w_5, w_6, w_7, w_8, w_9, w_10, w_11, w_12, ix_1_0, ix_2_0, ix_2_1, ix_3_0, ix_3_1, ix_3_2, ix_4_0, ix_4_1, ix_4_2, ix_4_3, ix_5_0, ix_5_1, ix_5_2, ix_5_3, ix_5_4, ix_6_0, ix_6_1, ix_6_2, ix_6_3, ix_6_4, ix_6_5, ix_7_0, ix_7_1, ix_7_2, ix_7_3, ix_7_4, ix_7_5, ix_7_6, Option.map_some, Option.bind_some, Option.map_none, Option.bind_none, List.getElem?_cons_zero, List.getElem?_cons_succ, List.set_cons_zero, List.set_cons_succ, List.cons_append, List.nil_append, List.length_cons, List.length_nil, List.replicate, if_true, Bool.false_eq_true, if_false, reduceIte, Nat.reduceAdd, Nat.reduceSub, List.append_nil, List.take_succ_cons, List.take_zero, List.map_nil, Option.getD_some, decide_true, decide_false, List.nodup_nil, y_nod1, Bool.not_true, Bool.not_false, List.map_cons, ct_0, ct_1, ct_2, ct_3, ct_4, ct_5, ct_6, ct_7, ct_8, ct_9, ct_10, ct_11, ct_12, Bool.and_true, Bool.true_and, Bool.and_false, Bool.false_and, x_revL, x_revT, x_mul' h1, x_mul' h2, h]
theorem b64 {a : Int} {k : Nat} (h : a.natAbs < 2 ^ k) (hk : k ≤ 62) : -18446744073709551616 < a ∧ a < 18446744073709551616 := by
  have := Nat.pow_le_pow_right (n := 2) (by decide) hk
  omega
theorem nb {a : Int} {k : Nat} (h : a.natAbs < 2 ^ k) (hk : k ≤ 249) : a.natAbs < 2 ^ 250 := Nat.lt_of_lt_of_le h (Nat.pow_le_pow_right (by decide) (by omega))
theorem b63 {a : Int} {k : Nat} (h : a.natAbs < 2 ^ k) (hk : k ≤ 249) : a < 2 ^ 250 := by
  have := nb h hk
  omega
theorem qb_n {k : Nat} {x : Rat} (h : QB k x) : ((x.den : Nat) : Int).natAbs < 2 ^ k := by simpa using h.2
def PlOK (C : CT) (i : Nat) : Prop := ∀ (x y : Rat) (k l : Nat), QB k x → QB l y → k + l ≤ 248 → C i [.v (qd x), .v (qd y)] = some (.v (qd (x + y)), [.v (qd x), .v (qd y)])
def MiOK (C : CT) (i : Nat) : Prop := ∀ (x y : Rat) (k l : Nat), QB k x → QB l y → k + l ≤ 248 → C i [.v (qd x), .v (qd y)] = some (.v (qd (x - y)), [.v (qd x), .v (qd y)])
def TiOK (C : CT) (i : Nat) : Prop := ∀ (x y : Rat) (k l : Nat), QB k x → QB l y → k + l ≤ 248 → C i [.v (qd x), .v (qd y)] = some (.v (qd (x * y)), [.v (qd x), .v (qd y)])
def OvOK (C : CT) (i : Nat) : Prop := ∀ (x y : Rat) (k l : Nat), QB k x → QB l y → k + l ≤ 248 → 0 < y → C i [.v (qd x), .v (qd y)] = some (.v (qd (x / y)), [.v (qd x), .v (qd y)])
theorem sum_lt {a b : Int} {k : Nat} (ha : a.natAbs < 2 ^ k) (hb : b.natAbs < 2 ^ k) : (a + b).natAbs < 2 ^ (k + 1) ∧ (a - b).natAbs < 2 ^ (k + 1) := by
  rw [Nat.pow_succ]; omega
theorem plus_spec {q k l : Nat} {x y : Rat} (cq : QuOK C q) (hx : QB k x) (hy : QB l y) (h : k + l ≤ 248) : runFn C (K_plus q) [.v (qd x), .v (qd y)] = some (.v (qd (x + y)), [.v (qd x), .v (qd y)]) := by
  rw [← q_add]
  have n1 := lt_mulI hx.1 (qb_n hy)
  have n2 := lt_mulI hy.1 (qb_n hx)
  rw [Nat.add_comm l k] at n2
  exact plus_g (mul_bb hx.1 (by omega) (qb_n hy) (by omega)) (mul_bb hy.1 (by omega) (qb_n hx) (by omega)) (mul_bb (qb_n hx) (by omega) (qb_n hy) (by omega)) (cq _ _ (nb (sum_lt n1 n2).1 (by omega)) (Int.mul_pos (q_dp x) (q_dp y)) (b63 (lt_mulI (qb_n hx) (qb_n hy)) (by omega)))
theorem minus_spec {q k l : Nat} {x y : Rat} (cq : QuOK C q) (hx : QB k x) (hy : QB l y) (h : k + l ≤ 248) : runFn C (K_minus q) [.v (qd x), .v (qd y)] = some (.v (qd (x - y)), [.v (qd x), .v (qd y)]) := by
  rw [← q_sub]
  have n1 := lt_mulI hx.1 (qb_n hy)
  have n2 := lt_mulI hy.1 (qb_n hx)
  rw [Nat.add_comm l k] at n2
  exact minus_g (mul_bb hx.1 (by omega) (qb_n hy) (by omega)) (mul_bb hy.1 (by omega) (qb_n hx) (by omega)) (mul_bb (qb_n hx) (by omega) (qb_n hy) (by omega)) (cq _ _ (nb (sum_lt n1 n2).2 (by omega)) (Int.mul_pos (q_dp x) (q_dp y)) (b63 (lt_mulI (qb_n hx) (qb_n hy)) (by omega)))
theorem times_spec {q k l : Nat} {x y : Rat} (cq : QuOK C q) (hx : QB k x) (hy : QB l y) (h : k + l ≤ 248) : runFn C (K_times q) [.v (qd x), .v (qd y)] = some (.v (qd (x * y)), [.v (qd x), .v (qd y)]) := by
  rw [← q_mul]
  exact times_g (mul_bb hx.1 (by omega) hy.1 (by omega)) (mul_bb (qb_n hx) (by omega) (qb_n hy) (by omega)) (cq _ _ (nb (lt_mulI hx.1 hy.1) (by omega)) (Int.mul_pos (q_dp x) (q_dp y)) (b63 (lt_mulI (qb_n hx) (qb_n hy)) (by omega)))
theorem over_spec {q k l : Nat} {x y : Rat} (cq : QuOK C q) (hx : QB k x) (hy : QB l y) (h : k + l ≤ 248) (h0 : 0 < y) : runFn C (K_over q) [.v (qd x), .v (qd y)] = some (.v (qd (x / y)), [.v (qd x), .v (qd y)]) := by
  rw [← q_over]
  exact over_g (mul_bb hx.1 (by omega) (qb_n hy) (by omega)) (mul_bb (qb_n hx) (by omega) hy.1 (by omega)) (cq _ _ (nb (lt_mulI hx.1 (qb_n hy)) (by omega)) (Int.mul_pos (q_dp x) (q_np h0)) (b63 (lt_mulI (qb_n hx) hy.1) (by omega)))
def IsiOK (C : CT) (i : Nat) : Prop := ∀ a : Int, C i [.v (.int a)] = some (.v (.bool true), [.v (.int a)])
theorem all2 {a b : Bool} : b1R .all (.list [.bool a, .bool b]) = some (.v (.bool (a && (b && true)))) := rfl
theorem isq_g {i g : Nat} {a b : Int} {o1 o2 : Sl} (ci : IsiOK C i) (hb : 1 ≤ b) (c : C g [.v (.int (if a < 0 then -a else a)), .v (.int b)] = some (.v (.int 1), [o1, o2])) :
    runFn C (K_isq i g) [.v (.tuple [.int a, .int b])] = some (.v (.bool true), [.v (.tuple [.int a, .int b])]) := by
  rw [y_run (by rfl)]
  have c1 := ci a
  have c2 := ci b
  simp -implicitDefEqProofs only [K_isq, K_isq_e1, E.var?, y_con, y_varF, y_varT, y_glo, y_bin, y_neg, y_notT, y_notF, y_andT, y_andF, y_orT, y_orF, y_ite, y_cmp, y_chain, y_tup, y_lst, y_rep, y_idx, y_slice, y_rev, y_call, y_b1, y_b2, y_isI, y_lrng, y_compN, y_compS, y_esN, y_esC, y_rsN, y_rsC, y_asN, y_asV, y_asI, y_oN, y_oS, y_itS, y_it1, y_it2, y_asg, y_par, y_stp, y_unp, y_st, y_app, y_expr, y_iteS, y_for, y_retN, y_pass, y_brk, y_cont, y_raise, y_ssN, y_ssC, y_tasN, y_tasC, y_taN, y_taS, y_aug, y_augV, y_ret, y_retS, y_retE, y_enm, y_enmL, y_enmT, y_zip, y_zipL, y_zipT, y_ext, y_extO, y_seqL, y_seqT, y_nsN, y_nsC, y_tgN, y_tgT, y_tgL, y_tgsN, y_tgsC, y_forN, y_forC, y_cmN, y_cmC, y_wipN, y_wipC, y_wipU, y_wipV, y_bakN, y_bakC, y_chainE, y_chain3, y_chain3E, y_it3, y_nodN, y_ioL, y_ioR, y_argN, y_argL, y_argR, y_argO, y_argI, y_bkN, y_bkL, y_bkR, y_bkO, y_bkI, y_callE, y_outN, y_outR, x_op1, x_op2, x_opdS, x_opdN, x_getS, x_getV, x_slV, x_slO, x_slI, x_rd, x_rdV, x_rdO, x_asg, x_asgU, x_asgV, x_asgO, x_ret, x_retV, x_retO, x_put, x_putO, x_putI, x_add, x_adO, x_adI, x_own, x_ownO, x_ownI, x_base, x_finF, x_finT, x_asB, x_ofB, x_bindB, x_withE, x_dV, x_dO, x_sV, x_sO, x_seqN, x_seqR, x_seqB, x_seqC, x_turnN, x_turnC, x_turnB, x_turnR, x_add', x_sub', x_lt, x_le, x_gt, x_ge, x_eq, x_ne, x_is, x_isn, x_inn, x_nin, shaped_int, shaped_bool, shaped_none, x_eqI, x_eqN, x_eqB, x_eqT2, x_eqT3, x_sz1, x_sz2, x_sz3, x_sz4, x_sz5, x_sz6, truN, truB, truI, x_isNn, x_isNi, x_isNt, x_isNl, x_isIi, x_isIb, x_isBb, x_isBi, x_isTt, x_isLl, x_isTl, x_isLt, x_len, x_lenT, x_abs, x_int, x_intq, x_ixL, x_ixT, at_0, at_1, at_2, at_3, at_4, at_5, z_0, z_1, z_2, z_3, z_4, z_5, z_6, z_7, z_8, z_9, z_10, z_11, z_12, w_0, w_1, w_2, w_3, w_4, w_5, w_6, w_7, w_8, w_9, w_10, w_11, w_12, ix_1_0, ix_2_0, ix_2_1, ix_3_0, ix_3_1, ix_3_2, ix_4_0, ix_4_1, ix_4_2, ix_4_3, ix_5_0, ix_5_1, ix_5_2, ix_5_3, ix_5_4, ix_6_0, ix_6_1, ix_6_2, ix_6_3, ix_6_4, ix_6_5, ix_7_0, ix_7_1, ix_7_2, ix_7_3, ix_7_4, ix_7_5, ix_7_6, Option.map_some, Option.bind_some, Option.map_none, Option.bind_none, List.getElem?_cons_zero, List.getElem?_cons_succ, List.set_cons_zero, List.set_cons_succ, List.cons_append, List.nil_append, List.length_cons, List.length_nil, List.replicate, if_true, Bool.false_eq_true, if_false, reduceIte, Nat.reduceAdd, Nat.reduceSub, List.append_nil, List.take_succ_cons, List.take_zero, List.map_nil, Option.getD_some, decide_true, decide_false, List.nodup_nil, y_nod1, Bool.not_true, Bool.not_false, List.map_cons, ct_0, ct_1, ct_2, ct_3, ct_4, ct_5, ct_6, ct_7, ct_8, ct_9, ct_10, ct_11, ct_12, Bool.and_true, Bool.true_and, Bool.and_false, Bool.false_and, x_revL, x_revT, compE, c1, c2, all2, hb, c]
theorem isq_spec {i g k : Nat} {x : Rat} (ci : IsiOK C i) (cg : GdOK C g) (hx : QB k x) (hk : k ≤ 249) : runFn C (K_isq i g) [.v (qd x)] = some (.v (.bool true), [.v (qd x)]) := by
  have dp := q_dp x
  have c := cg (if x.num < 0 then -x.num else x.num) x.den (by split <;> omega) (by omega) (b63 (qb_n hx) hk)
  rw [gcd_abs, q_gcd] at c
  exact isq_g ci (by omega) c
theorem isn_g {q : Nat} {a b : Int} (c : C q [.v (.tuple [.int a, .int b])] = some (.v (.bool true), [.v (.tuple [.int a, .int b])])) (ha : (if a < 0 then -a else a) ≤ 1000000000000) (hb : b ≤ 1000000000000) :
    runFn C (K_isn q) [.v (.tuple [.int a, .int b])] = some (.v (.bool true), [.v (.tuple [.int a, .int b])]) := by
  rw [y_run (by rfl)]
  simp -implicitDefEqProofs only [K_isn, E.var?, y_con, y_varF, y_varT, y_glo, y_bin, y_neg, y_notT, y_notF, y_andT, y_andF, y_orT, y_orF, y_ite, y_cmp, y_chain, y_tup, y_lst, y_rep, y_idx, y_slice, y_rev, y_call, y_b1, y_b2, y_isI, y_lrng, y_compN, y_compS, y_esN, y_esC, y_rsN, y_rsC, y_asN, y_asV, y_asI, y_oN, y_oS, y_itS, y_it1, y_it2, y_asg, y_par, y_stp, y_unp, y_st, y_app, y_expr, y_iteS, y_for, y_retN, y_pass, y_brk, y_cont, y_raise, y_ssN, y_ssC, y_tasN, y_tasC, y_taN, y_taS, y_aug, y_augV, y_ret, y_retS, y_retE, y_enm, y_enmL, y_enmT, y_zip, y_zipL, y_zipT, y_ext, y_extO, y_seqL, y_seqT, y_nsN, y_nsC, y_tgN, y_tgT, y_tgL, y_tgsN, y_tgsC, y_forN, y_forC, y_cmN, y_cmC, y_wipN, y_wipC, y_wipU, y_wipV, y_bakN, y_bakC, y_chainE, y_chain3, y_chain3E, y_it3, y_nodN, y_ioL, y_ioR, y_argN, y_argL, y_argR, y_argO, y_argI, y_bkN, y_bkL, y_bkR, y_bkO, y_bkI, y_callE, y_outN, y_outR, x_op1, x_op2, x_opdS, x_opdN, x_getS, x_getV, x_slV, x_slO, x_slI, x_rd, x_rdV, x_rdO, x_asg, x_asgU, x_asgV, x_asgO, x_ret, x_retV, x_retO, x_put, x_putO, x_putI, x_add, x_adO, x_adI, x_own, x_ownO, x_ownI, x_base, x_finF, x_finT, x_asB, x_ofB, x_bindB, x_withE, x_dV, x_dO, x_sV, x_sO, x_seqN, x_seqR, x_seqB, x_seqC, x_turnN, x_turnC, x_turnB, x_turnR, x_add', x_sub', x_lt, x_le, x_gt, x_ge, x_eq, x_ne, x_is, x_isn, x_inn, x_nin, shaped_int, shaped_bool, shaped_none, x_eqI, x_eqN, x_eqB, x_eqT2, x_eqT3, x_sz1, x_sz2, x_sz3, x_sz4, x_sz5, x_sz6, truN, truB, truI, x_isNn, x_isNi, x_isNt, x_isNl, x_isIi, x_isIb, x_isBb, x_isBi, x_isTt, x_isLl, x_isTl, x_isLt, x_len, x_lenT, x_abs, x_int, x_intq, x_ixL, x_ixT, at_0, at_1, at_2, at_3, at_4, at_5, z_0, z_1, z_2, z_3, z_4, z_5, z_6, z_7, z_8, z_9, z_10, z_11, z_12, w_0, w_1, w_2, w_3, w_4, w_5, w_6, w_7, w_8, w_9, w_10, w_11, w_12, ix_1_0, ix_2_0, ix_2_1, ix_3_0, ix_3_1, ix_3_2, ix_4_0, ix_4_1, ix_4_2, ix_4_3, ix_5_0, ix_5_1, ix_5_2, ix_5_3, ix_5_4, ix_6_0, ix_6_1, ix_6_2, ix_6_3, ix_6_4, ix_6_5, ix_7_0, ix_7_1, ix_7_2, ix_7_3, ix_7_4, ix_7_5, ix_7_6, Option.map_some, Option.bind_some, Option.map_none, Option.bind_none, List.getElem?_cons_zero, List.getElem?_cons_succ, List.set_cons_zero, List.set_cons_succ, List.cons_append, List.nil_append, List.length_cons, List.length_nil, List.replicate, if_true, Bool.false_eq_true, if_false, reduceIte, Nat.reduceAdd, Nat.reduceSub, List.append_nil, List.take_succ_cons, List.take_zero, List.map_nil, Option.getD_some, decide_true, decide_false, List.nodup_nil, y_nod1, Bool.not_true, Bool.not_false, List.map_cons, ct_0, ct_1, ct_2, ct_3, ct_4, ct_5, ct_6, ct_7, ct_8, ct_9, ct_10, ct_11, ct_12, Bool.and_true, Bool.true_and, Bool.and_false, Bool.false_and, x_revL, x_revT, c, ha, hb]
def UOK (C : CT) (i : Nat) : Prop := ∀ (x : Rat), QB 39 x → C i [.v (qd x)] = some (.v (.bool true), [.v (qd x)])
theorem isn_spec {q : Nat} {x : Rat} (c : UOK C q) (hx : QB 39 x) : runFn C (K_isn q) [.v (qd x)] = some (.v (.bool true), [.v (qd x)]) := by
  have h1 := hx.1
  have h2 := qb_n hx
  exact isn_g (c x hx) (by split <;> omega) (by omega)
theorem chn_g {q : Nat} {a z : D} (c : C q [.v a] = some (.v (.bool true), [.v a])) : runFn C (K_chn q) [.v a, .v z] = some (.v .none, [.v a, .v z]) := by
  rw [y_run (by rfl)]
  simp -implicitDefEqProofs only [K_chn, E.var?, y_con, y_varF, y_varT, y_glo, y_bin, y_neg, y_notT, y_notF, y_andT, y_andF, y_orT, y_orF, y_ite, y_cmp, y_chain, y_tup, y_lst, y_rep, y_idx, y_slice, y_rev, y_call, y_b1, y_b2, y_isI, y_lrng, y_compN, y_compS, y_esN, y_esC, y_rsN, y_rsC, y_asN, y_asV, y_asI, y_oN, y_oS, y_itS, y_it1, y_it2, y_asg, y_par, y_stp, y_unp, y_st, y_app, y_expr, y_iteS, y_for, y_retN, y_pass, y_brk, y_cont, y_raise, y_ssN, y_ssC, y_tasN, y_tasC, y_taN, y_taS, y_aug, y_augV, y_ret, y_retS, y_retE, y_enm, y_enmL, y_enmT, y_zip, y_zipL, y_zipT, y_ext, y_extO, y_seqL, y_seqT, y_nsN, y_nsC, y_tgN, y_tgT, y_tgL, y_tgsN, y_tgsC, y_forN, y_forC, y_cmN, y_cmC, y_wipN, y_wipC, y_wipU, y_wipV, y_bakN, y_bakC, y_chainE, y_chain3, y_chain3E, y_it3, y_nodN, y_ioL, y_ioR, y_argN, y_argL, y_argR, y_argO, y_argI, y_bkN, y_bkL, y_bkR, y_bkO, y_bkI, y_callE, y_outN, y_outR, x_op1, x_op2, x_opdS, x_opdN, x_getS, x_getV, x_slV, x_slO, x_slI, x_rd, x_rdV, x_rdO, x_asg, x_asgU, x_asgV, x_asgO, x_ret, x_retV, x_retO, x_put, x_putO, x_putI, x_add, x_adO, x_adI, x_own, x_ownO, x_ownI, x_base, x_finF, x_finT, x_asB, x_ofB, x_bindB, x_withE, x_dV, x_dO, x_sV, x_sO, x_seqN, x_seqR, x_seqB, x_seqC, x_turnN, x_turnC, x_turnB, x_turnR, x_add', x_sub', x_lt, x_le, x_gt, x_ge, x_eq, x_ne, x_is, x_isn, x_inn, x_nin, shaped_int, shaped_bool, shaped_none, x_eqI, x_eqN, x_eqB, x_eqT2, x_eqT3, x_sz1, x_sz2, x_sz3, x_sz4, x_sz5, x_sz6, truN, truB, truI, x_isNn, x_isNi, x_isNt, x_isNl, x_isIi, x_isIb, x_isBb, x_isBi, x_isTt, x_isLl, x_isTl, x_isLt, x_len, x_lenT, x_abs, x_int, x_intq, x_ixL, x_ixT, at_0, at_1, at_2, at_3, at_4, at_5, z_0, z_1, z_2, z_3, z_4, z_5, z_6, z_7, z_8, z_9, z_10, z_11, z_12, w_0, w_1, w_2, w_3, w_4, w_5, w_6, w_7, w_8, w_9, w_10, w_11, w_12, ix_1_0, ix_2_0, ix_2_1, ix_3_0, ix_3_1, ix_3_2, ix_4_0, ix_4_1, ix_4_2, ix_4_3, ix_5_0, ix_5_1, ix_5_2, ix_5_3, ix_5_4, ix_6_0, ix_6_1, ix_6_2, ix_6_3, ix_6_4, ix_6_5, ix_7_0, ix_7_1, ix_7_2, ix_7_3, ix_7_4, ix_7_5, ix_7_6, Option.map_some, Option.bind_some, Option.map_none, Option.bind_none, List.getElem?_cons_zero, List.getElem?_cons_succ, List.set_cons_zero, List.set_cons_succ, List.cons_append, List.nil_append, List.length_cons, List.length_nil, List.replicate, if_true, Bool.false_eq_true, if_false, reduceIte, Nat.reduceAdd, Nat.reduceSub, List.append_nil, List.take_succ_cons, List.take_zero, List.map_nil, Option.getD_some, decide_true, decide_false, List.nodup_nil, y_nod1, Bool.not_true, Bool.not_false, List.map_cons, ct_0, ct_1, ct_2, ct_3, ct_4, ct_5, ct_6, ct_7, ct_8, ct_9, ct_10, ct_11, ct_12, Bool.and_true, Bool.true_and, Bool.and_false, Bool.false_and, x_revL, x_revT, c]
def ChOK (C : CT) (i : Nat) : Prop := ∀ (x : Rat) (z : D), QB 39 x → C i [.v (qd x), .v z] = some (.v .none, [.v (qd x), .v z])
def CaOK (C : CT) (i : Nat) : Prop := ∀ (x : Rat) (z : D), QB 39 x → 0 < x → C i [.v (qd x), .v z] = some (.v .none, [.v (qd x), .v z])
theorem chn_spec {q : Nat} {x : Rat} {z : D} (c : UOK C q) (hx : QB 39 x) : runFn C (K_chn q) [.v (qd x), .v z] = some (.v .none, [.v (qd x), .v z]) := chn_g (c x hx)
theorem cha_g {q : Nat} {a b : Int} {z : D} (c : C q [.v (.tuple [.int a, .int b]), .v z] = some (.v .none, [.v (.tuple [.int a, .int b]), .v z])) (h : ¬ a ≤ 0) : runFn C (K_cha q) [.v (.tuple [.int a, .int b]), .v z] = some (.v .none, [.v (.tuple [.int a, .int b]), .v z]) := by
  rw [y_run (by rfl)]
  simp -implicitDefEqProofs only [K_cha, E.var?, y_con, y_varF, y_varT, y_glo, y_bin, y_neg, y_notT, y_notF, y_andT, y_andF, y_orT, y_orF, y_ite, y_cmp, y_chain, y_tup, y_lst, y_rep, y_idx, y_slice, y_rev, y_call, y_b1, y_b2, y_isI, y_lrng, y_compN, y_compS, y_esN, y_esC, y_rsN, y_rsC, y_asN, y_asV, y_asI, y_oN, y_oS, y_itS, y_it1, y_it2, y_asg, y_par, y_stp, y_unp, y_st, y_app, y_expr, y_iteS, y_for, y_retN, y_pass, y_brk, y_cont, y_raise, y_ssN, y_ssC, y_tasN, y_tasC, y_taN, y_taS, y_aug, y_augV, y_ret, y_retS, y_retE, y_enm, y_enmL, y_enmT, y_zip, y_zipL, y_zipT, y_ext, y_extO, y_seqL, y_seqT, y_nsN, y_nsC, y_tgN, y_tgT, y_tgL, y_tgsN, y_tgsC, y_forN, y_forC, y_cmN, y_cmC, y_wipN, y_wipC, y_wipU, y_wipV, y_bakN, y_bakC, y_chainE, y_chain3, y_chain3E, y_it3, y_nodN, y_ioL, y_ioR, y_argN, y_argL, y_argR, y_argO, y_argI, y_bkN, y_bkL, y_bkR, y_bkO, y_bkI, y_callE, y_outN, y_outR, x_op1, x_op2, x_opdS, x_opdN, x_getS, x_getV, x_slV, x_slO, x_slI, x_rd, x_rdV, x_rdO, x_asg, x_asgU, x_asgV, x_asgO, x_ret, x_retV, x_retO, x_put, x_putO, x_putI, x_add, x_adO, x_adI, x_own, x_ownO, x_ownI, x_base, x_finF, x_finT, x_asB, x_ofB, x_bindB, x_withE, x_dV, x_dO, x_sV, x_sO, x_seqN, x_seqR, x_seqB, x_seqC, x_turnN, x_turnC, x_turnB, x_turnR, x_add', x_sub', x_lt, x_le, x_gt, x_ge, x_eq, x_ne, x_is, x_isn, x_inn, x_nin, shaped_int, shaped_bool, shaped_none, x_eqI, x_eqN, x_eqB, x_eqT2, x_eqT3, x_sz1, x_sz2, x_sz3, x_sz4, x_sz5, x_sz6, truN, truB, truI, x_isNn, x_isNi, x_isNt, x_isNl, x_isIi, x_isIb, x_isBb, x_isBi, x_isTt, x_isLl, x_isTl, x_isLt, x_len, x_lenT, x_abs, x_int, x_intq, x_ixL, x_ixT, at_0, at_1, at_2, at_3, at_4, at_5, z_0, z_1, z_2, z_3, z_4, z_5, z_6, z_7, z_8, z_9, z_10, z_11, z_12, w_0, w_1, w_2, w_3, w_4, w_5, w_6, w_7, w_8, w_9, w_10, w_11, w_12, ix_1_0, ix_2_0, ix_2_1, ix_3_0, ix_3_1, ix_3_2, ix_4_0, ix_4_1, ix_4_2, ix_4_3, ix_5_0, ix_5_1, ix_5_2, ix_5_3, ix_5_4, ix_6_0, ix_6_1, ix_6_2, ix_6_3, ix_6_4, ix_6_5, ix_7_0, ix_7_1, ix_7_2, ix_7_3, ix_7_4, ix_7_5, ix_7_6, Option.map_some, Option.bind_some, Option.map_none, Option.bind_none, List.getElem?_cons_zero, List.getElem?_cons_succ, List.set_cons_zero, List.set_cons_succ, List.cons_append, List.nil_append, List.length_cons, List.length_nil, List.replicate, if_true, Bool.false_eq_true, if_false, reduceIte, Nat.reduceAdd, Nat.reduceSub, List.append_nil, List.take_succ_cons, List.take_zero, List.map_nil, Option.getD_some, decide_true, decide_false, List.nodup_nil, y_nod1, Bool.not_true, Bool.not_false, List.map_cons, ct_0, ct_1, ct_2, ct_3, ct_4, ct_5, ct_6, ct_7, ct_8, ct_9, ct_10, ct_11, ct_12, Bool.and_true, Bool.true_and, Bool.and_false, Bool.false_and, x_revL, x_revT, c, h]
theorem cha_spec {q : Nat} {x : Rat} {z : D} (c : ChOK C q) (hx : QB 39 x) (h : 0 < x) : runFn C (K_cha q) [.v (qd x), .v z] = some (.v .none, [.v (qd x), .v z]) :=
  cha_g (c x z hx) (by have := q_np h; omega)
end
end KX

set_option Elab.async false
set_option linter.all false
set_option maxHeartbeats 4000000
set_option maxRecDepth 100000
/-! KM: slices, rows in a drawn order, drawn quotients, lists of quotients. -/
namespace KX
open PySem PySem.Spec PyProof.Rows L2
def K_order_b1 (w : Nat) : Ss := (.cons (.asg 4 (.call w (.io 0 (.val (.b1 .len (.var 1)) .nil)) [])) (.cons (.app 3 (.idx (.var 1) (.var 4))) (.cons (.asg 1 (.bin .add (.slice (.var 1) .none (.some (.var 4))) (.slice (.var 1) (.some (.bin .add (.var 4) (.con (.int 1)))) .none))) .nil)))
def K_order (w : Nat) : Fn := { np := 2, ns := 5, body := (.cons (.par [1, 3] (.cons (.b1 .lst (.var 1)) (.cons (.lst .nil) .nil))) (.cons (.for_ (.nm 2) (.r1 (.b1 .len (.var 1))) (K_order_b1 w)) (.cons (.ret (.var 3)) .nil))) }
theorem x_sz0 {f : List D → Rs} {env : Ev} : sizeE f (some ([], env)) = some (f [], env) := x_sizeE (by show (0 : Nat) ≤ sizeLine; decide)
theorem sl_L {xs : List D} {lo hi : Option Int} : sliceR (.list xs) lo hi = some (.o (cutL xs lo hi)) := rfl
theorem sl_T {xs : List D} {lo hi : Option Int} : sliceR (.tuple xs) lo hi = some (.v (.tuple (cutL xs lo hi))) := rfl
section
variable {α : Type}
theorem cut_take {xs : List α} {k : Nat} (h : k ≤ xs.length) : cutL xs none (some (k : Int)) = xs.take k := by
  have e0 : HT.sIx xs.length 0 none = 0 := rfl
  unfold cutL
  rw [HT.sIx_nat, e0, Nat.min_eq_left h]; simp
theorem cut_drop {xs : List α} {k : Nat} (h : k ≤ xs.length) : cutL xs (some (k : Int)) none = xs.drop k := by
  have e0 : HT.sIx xs.length xs.length none = xs.length := rfl
  unfold cutL
  rw [HT.sIx_nat, e0, Nat.min_eq_left h]
  rw [List.take_of_length_le (by rw [List.length_drop]; exact Nat.le_refl _)]
end
def DrOK (C : CT) (w : Nat) : Prop := ∀ (s : LS) (k : Nat) (many : Int), s.ok k → k + 1 < 2 ^ 250 → 0 < many → many < 2 ^ 250 → ∃ (s' : LS) (r : Int), C w [.io s.d, .v (.int many)] = some (.v (.int r), [.io s'.d, .v (.int many)]) ∧ s'.ok (k + 1) ∧ 0 ≤ r ∧ r < many
theorem dr_ok {T : List Fn} {w n : Nat} (h : T[w]? = some K_draw) : DrOK (callT T (n + 1)) w := fun s k many ok hk h0 h1 => by
  rw [y_tc h]
  exact draw_spec ok hk h0 h1
section
variable {C : CT}
theorem order_1 {w : Nat} {a0 a1 rows found : List D} {n a : Int} {t : D} {s : Sl} (e : Emp s) (hn : b1R .len (.list rows) = some (.v (.int n))) (cw : C w [.io a0, .v (.int n)] = some (.v (.int a), [.io a1, .v (.int n)])) :
    evS C (.asg 4 (.call w (.io 0 (.val (.b1 .len (.var 1)) .nil)) [])) [.io a0, .o rows, .v t, .o found, s] = some (.nx [.io a1, .o rows, .v t, .o found, .v (.int a)]) := by
  cases s <;> first | (exact e.elim) | simp -implicitDefEqProofs only [E.var?, y_con, y_varF, y_varT, y_glo, y_bin, y_neg, y_notT, y_notF, y_andT, y_andF, y_orT, y_orF, y_ite, y_cmp, y_chain, y_tup, y_lst, y_rep, y_idx, y_slice, y_rev, y_call, y_b1, y_b2, y_isI, y_lrng, y_compN, y_compS, y_esN, y_esC, y_rsN, y_rsC, y_asN, y_asV, y_asI, y_oN, y_oS, y_itS, y_it1, y_it2, y_asg, y_par, y_stp, y_unp, y_st, y_app, y_expr, y_iteS, y_for, y_retN, y_pass, y_brk, y_cont, y_raise, y_ssN, y_ssC, y_tasN, y_tasC, y_taN, y_taS, y_aug, y_augV, y_ret, y_retS, y_retE, y_enm, y_enmL, y_enmT, y_zip, y_zipL, y_zipT, y_ext, y_extO, y_seqL, y_seqT, y_nsN, y_nsC, y_tgN, y_tgT, y_tgL, y_tgsN, y_tgsC, y_forN, y_forC, y_cmN, y_cmC, y_wipN, y_wipC, y_wipU, y_wipV, y_bakN, y_bakC, y_chainE, y_chain3, y_chain3E, y_it3, y_nodN, y_ioL, y_ioR, y_argN, y_argL, y_argR, y_argO, y_argI, y_bkN, y_bkL, y_bkR, y_bkO, y_bkI, y_callE, y_outN, y_outR, x_op1, x_op2, x_opdS, x_opdN, x_getS, x_getV, x_slV, x_slO, x_slI, x_rd, x_rdV, x_rdO, x_asg, x_asgU, x_asgV, x_asgO, x_ret, x_retV, x_retO, x_put, x_putO, x_putI, x_add, x_adO, x_adI, x_own, x_ownO, x_ownI, x_base, x_finF, x_finT, x_asB, x_ofB, x_bindB, x_withE, x_dV, x_dO, x_sV, x_sO, x_seqN, x_seqR, x_seqB, x_seqC, x_turnN, x_turnC, x_turnB, x_turnR, x_add', x_sub', x_lt, x_le, x_gt, x_ge, x_eq, x_ne, x_is, x_isn, x_inn, x_nin, shaped_int, shaped_bool, shaped_none, x_eqI, x_eqN, x_eqB, x_eqT2, x_eqT3, x_sz1, x_sz2, x_sz3, x_sz4, x_sz5, x_sz6, truN, truB, truI, x_isNn, x_isNi, x_isNt, x_isNl, x_isIi, x_isIb, x_isBb, x_isBi, x_isTt, x_isLl, x_isTl, x_isLt, x_len, x_lenT, x_abs, x_int, x_intq, x_ixL, x_ixT, at_0, at_1, at_2, at_3, at_4, at_5, z_0, z_1, z_2, z_3, z_4, z_5, z_6, z_7, z_8, z_9, z_10, z_11, z_12, w_0, w_1, w_2, w_3, w_4, w_5, w_6, w_7, w_8, w_9, w_10, w_11, w_12, ix_1_0, ix_2_0, ix_2_1, ix_3_0, ix_3_1, ix_3_2, ix_4_0, ix_4_1, ix_4_2, ix_4_3, ix_5_0, ix_5_1, ix_5_2, ix_5_3, ix_5_4, ix_6_0, ix_6_1, ix_6_2, ix_6_3, ix_6_4, ix_6_5, ix_7_0, ix_7_1, ix_7_2, ix_7_3, ix_7_4, ix_7_5, ix_7_6, Option.map_some, Option.bind_some, Option.map_none, Option.bind_none, List.getElem?_cons_zero, List.getElem?_cons_succ, List.set_cons_zero, List.set_cons_succ, List.cons_append, List.nil_append, List.length_cons, List.length_nil, List.replicate, if_true, Bool.false_eq_true, if_false, reduceIte, Nat.reduceAdd, Nat.reduceSub, List.append_nil, List.take_succ_cons, List.take_zero, List.map_nil, Option.getD_some, decide_true, decide_false, List.nodup_nil, y_nod1, Bool.not_true, Bool.not_false, List.map_cons, ct_0, ct_1, ct_2, ct_3, ct_4, ct_5, ct_6, ct_7, ct_8, ct_9, ct_10, ct_11, ct_12, Bool.and_true, Bool.true_and, Bool.and_false, Bool.false_and, x_revL, x_revT, -x_len, hn, cw]
theorem order_2 {a1 rows found : List D} {a : Int} {t x : D}  (hx : atI rows a = some x) (hf : found.length + 1 ≤ sizeLine) :
    evS C (.app 3 (.idx (.var 1) (.var 4))) [.io a1, .o rows, .v t, .o found, .v (.int a)] = some (.nx [.io a1, .o rows, .v t, .o (found ++ [x]), .v (.int a)]) := by
  simp -implicitDefEqProofs only [E.var?, y_con, y_varF, y_varT, y_glo, y_bin, y_neg, y_notT, y_notF, y_andT, y_andF, y_orT, y_orF, y_ite, y_cmp, y_chain, y_tup, y_lst, y_rep, y_idx, y_slice, y_rev, y_call, y_b1, y_b2, y_isI, y_lrng, y_compN, y_compS, y_esN, y_esC, y_rsN, y_rsC, y_asN, y_asV, y_asI, y_oN, y_oS, y_itS, y_it1, y_it2, y_asg, y_par, y_stp, y_unp, y_st, y_app, y_expr, y_iteS, y_for, y_retN, y_pass, y_brk, y_cont, y_raise, y_ssN, y_ssC, y_tasN, y_tasC, y_taN, y_taS, y_aug, y_augV, y_ret, y_retS, y_retE, y_enm, y_enmL, y_enmT, y_zip, y_zipL, y_zipT, y_ext, y_extO, y_seqL, y_seqT, y_nsN, y_nsC, y_tgN, y_tgT, y_tgL, y_tgsN, y_tgsC, y_forN, y_forC, y_cmN, y_cmC, y_wipN, y_wipC, y_wipU, y_wipV, y_bakN, y_bakC, y_chainE, y_chain3, y_chain3E, y_it3, y_nodN, y_ioL, y_ioR, y_argN, y_argL, y_argR, y_argO, y_argI, y_bkN, y_bkL, y_bkR, y_bkO, y_bkI, y_callE, y_outN, y_outR, x_op1, x_op2, x_opdS, x_opdN, x_getS, x_getV, x_slV, x_slO, x_slI, x_rd, x_rdV, x_rdO, x_asg, x_asgU, x_asgV, x_asgO, x_ret, x_retV, x_retO, x_put, x_putO, x_putI, x_add, x_adO, x_adI, x_own, x_ownO, x_ownI, x_base, x_finF, x_finT, x_asB, x_ofB, x_bindB, x_withE, x_dV, x_dO, x_sV, x_sO, x_seqN, x_seqR, x_seqB, x_seqC, x_turnN, x_turnC, x_turnB, x_turnR, x_add', x_sub', x_lt, x_le, x_gt, x_ge, x_eq, x_ne, x_is, x_isn, x_inn, x_nin, shaped_int, shaped_bool, shaped_none, x_eqI, x_eqN, x_eqB, x_eqT2, x_eqT3, x_sz1, x_sz2, x_sz3, x_sz4, x_sz5, x_sz6, truN, truB, truI, x_isNn, x_isNi, x_isNt, x_isNl, x_isIi, x_isIb, x_isBb, x_isBi, x_isTt, x_isLl, x_isTl, x_isLt, x_len, x_lenT, x_abs, x_int, x_intq, x_ixL, x_ixT, at_0, at_1, at_2, at_3, at_4, at_5, z_0, z_1, z_2, z_3, z_4, z_5, z_6, z_7, z_8, z_9, z_10, z_11, z_12, w_0, w_1, w_2, w_3, w_4, w_5, w_6, w_7, w_8, w_9, w_10, w_11, w_12, ix_1_0, ix_2_0, ix_2_1, ix_3_0, ix_3_1, ix_3_2, ix_4_0, ix_4_1, ix_4_2, ix_4_3, ix_5_0, ix_5_1, ix_5_2, ix_5_3, ix_5_4, ix_6_0, ix_6_1, ix_6_2, ix_6_3, ix_6_4, ix_6_5, ix_7_0, ix_7_1, ix_7_2, ix_7_3, ix_7_4, ix_7_5, ix_7_6, Option.map_some, Option.bind_some, Option.map_none, Option.bind_none, List.getElem?_cons_zero, List.getElem?_cons_succ, List.set_cons_zero, List.set_cons_succ, List.cons_append, List.nil_append, List.length_cons, List.length_nil, List.replicate, if_true, Bool.false_eq_true, if_false, reduceIte, Nat.reduceAdd, Nat.reduceSub, List.append_nil, List.take_succ_cons, List.take_zero, List.map_nil, Option.getD_some, decide_true, decide_false, List.nodup_nil, y_nod1, Bool.not_true, Bool.not_false, List.map_cons, ct_0, ct_1, ct_2, ct_3, ct_4, ct_5, ct_6, ct_7, ct_8, ct_9, ct_10, ct_11, ct_12, Bool.and_true, Bool.true_and, Bool.and_false, Bool.false_and, x_revL, x_revT, -x_len, hx, hf]
theorem order_3 {a1 rows found l1 l2 : List D} {a : Int} {t : D}  (c1 : cutL rows none (some a) = l1) (c2 : cutL rows (some (a + 1)) none = l2) (hl : l1.length + l2.length ≤ sizeLine) :
    evS C (.asg 1 (.bin .add (.slice (.var 1) .none (.some (.var 4))) (.slice (.var 1) (.some (.bin .add (.var 4) (.con (.int 1)))) .none))) [.io a1, .o rows, .v t, .o found, .v (.int a)] = some (.nx [.io a1, .o (l1 ++ l2), .v t, .o found, .v (.int a)]) := by
  have cl := x_catL hl
  simp -implicitDefEqProofs only [E.var?, y_con, y_varF, y_varT, y_glo, y_bin, y_neg, y_notT, y_notF, y_andT, y_andF, y_orT, y_orF, y_ite, y_cmp, y_chain, y_tup, y_lst, y_rep, y_idx, y_slice, y_rev, y_call, y_b1, y_b2, y_isI, y_lrng, y_compN, y_compS, y_esN, y_esC, y_rsN, y_rsC, y_asN, y_asV, y_asI, y_oN, y_oS, y_itS, y_it1, y_it2, y_asg, y_par, y_stp, y_unp, y_st, y_app, y_expr, y_iteS, y_for, y_retN, y_pass, y_brk, y_cont, y_raise, y_ssN, y_ssC, y_tasN, y_tasC, y_taN, y_taS, y_aug, y_augV, y_ret, y_retS, y_retE, y_enm, y_enmL, y_enmT, y_zip, y_zipL, y_zipT, y_ext, y_extO, y_seqL, y_seqT, y_nsN, y_nsC, y_tgN, y_tgT, y_tgL, y_tgsN, y_tgsC, y_forN, y_forC, y_cmN, y_cmC, y_wipN, y_wipC, y_wipU, y_wipV, y_bakN, y_bakC, y_chainE, y_chain3, y_chain3E, y_it3, y_nodN, y_ioL, y_ioR, y_argN, y_argL, y_argR, y_argO, y_argI, y_bkN, y_bkL, y_bkR, y_bkO, y_bkI, y_callE, y_outN, y_outR, x_op1, x_op2, x_opdS, x_opdN, x_getS, x_getV, x_slV, x_slO, x_slI, x_rd, x_rdV, x_rdO, x_asg, x_asgU, x_asgV, x_asgO, x_ret, x_retV, x_retO, x_put, x_putO, x_putI, x_add, x_adO, x_adI, x_own, x_ownO, x_ownI, x_base, x_finF, x_finT, x_asB, x_ofB, x_bindB, x_withE, x_dV, x_dO, x_sV, x_sO, x_seqN, x_seqR, x_seqB, x_seqC, x_turnN, x_turnC, x_turnB, x_turnR, x_add', x_sub', x_lt, x_le, x_gt, x_ge, x_eq, x_ne, x_is, x_isn, x_inn, x_nin, shaped_int, shaped_bool, shaped_none, x_eqI, x_eqN, x_eqB, x_eqT2, x_eqT3, x_sz1, x_sz2, x_sz3, x_sz4, x_sz5, x_sz6, truN, truB, truI, x_isNn, x_isNi, x_isNt, x_isNl, x_isIi, x_isIb, x_isBb, x_isBi, x_isTt, x_isLl, x_isTl, x_isLt, x_len, x_lenT, x_abs, x_int, x_intq, x_ixL, x_ixT, at_0, at_1, at_2, at_3, at_4, at_5, z_0, z_1, z_2, z_3, z_4, z_5, z_6, z_7, z_8, z_9, z_10, z_11, z_12, w_0, w_1, w_2, w_3, w_4, w_5, w_6, w_7, w_8, w_9, w_10, w_11, w_12, ix_1_0, ix_2_0, ix_2_1, ix_3_0, ix_3_1, ix_3_2, ix_4_0, ix_4_1, ix_4_2, ix_4_3, ix_5_0, ix_5_1, ix_5_2, ix_5_3, ix_5_4, ix_6_0, ix_6_1, ix_6_2, ix_6_3, ix_6_4, ix_6_5, ix_7_0, ix_7_1, ix_7_2, ix_7_3, ix_7_4, ix_7_5, ix_7_6, Option.map_some, Option.bind_some, Option.map_none, Option.bind_none, List.getElem?_cons_zero, List.getElem?_cons_succ, List.set_cons_zero, List.set_cons_succ, List.cons_append, List.nil_append, List.length_cons, List.length_nil, List.replicate, if_true, Bool.false_eq_true, if_false, reduceIte, Nat.reduceAdd, Nat.reduceSub, List.append_nil, List.take_succ_cons, List.take_zero, List.map_nil, Option.getD_some, decide_true, decide_false, List.nodup_nil, y_nod1, Bool.not_true, Bool.not_false, List.map_cons, ct_0, ct_1, ct_2, ct_3, ct_4, ct_5, ct_6, ct_7, ct_8, ct_9, ct_10, ct_11, ct_12, Bool.and_true, Bool.true_and, Bool.and_false, Bool.false_and, x_revL, x_revT, -x_len, sl_L, c1, c2, cl]
theorem order_step {w : Nat} {a0 a1 rows found l1 l2 : List D} {n a : Int} {t x : D} {s : Sl} (e : Emp s) (hn : b1R .len (.list rows) = some (.v (.int n))) (cw : C w [.io a0, .v (.int n)] = some (.v (.int a), [.io a1, .v (.int n)])) (hx : atI rows a = some x) (hf : found.length + 1 ≤ sizeLine)
    (c1 : cutL rows none (some a) = l1) (c2 : cutL rows (some (a + 1)) none = l2) (hl : l1.length + l2.length ≤ sizeLine) :
    evSs C (K_order_b1 w) [.io a0, .o rows, .v t, .o found, s] = some (.nx [.io a1, .o (l1 ++ l2), .v t, .o (found ++ [x]), .v (.int a)]) := by
  rw [K_order_b1, y_ssC, order_1 e hn cw, x_seqN, y_ssC, order_2 hx hf, x_seqN, y_ssC, order_3 c1 c2 hl, x_seqN, y_ssN]
theorem order_4 {a0 xs : List D} :
    evS C (.par [1, 3] (.cons (.b1 .lst (.var 1)) (.cons (.lst .nil) .nil))) [.io a0, .v (.list xs), .un, .un, .un] = some (.nx [.io a0, .o xs, .un, .o [], .un]) := by
  simp -implicitDefEqProofs only [E.var?, y_con, y_varF, y_varT, y_glo, y_bin, y_neg, y_notT, y_notF, y_andT, y_andF, y_orT, y_orF, y_ite, y_cmp, y_chain, y_tup, y_lst, y_rep, y_idx, y_slice, y_rev, y_call, y_b1, y_b2, y_isI, y_lrng, y_compN, y_compS, y_esN, y_esC, y_rsN, y_rsC, y_asN, y_asV, y_asI, y_oN, y_oS, y_itS, y_it1, y_it2, y_asg, y_par, y_stp, y_unp, y_st, y_app, y_expr, y_iteS, y_for, y_retN, y_pass, y_brk, y_cont, y_raise, y_ssN, y_ssC, y_tasN, y_tasC, y_taN, y_taS, y_aug, y_augV, y_ret, y_retS, y_retE, y_enm, y_enmL, y_enmT, y_zip, y_zipL, y_zipT, y_ext, y_extO, y_seqL, y_seqT, y_nsN, y_nsC, y_tgN, y_tgT, y_tgL, y_tgsN, y_tgsC, y_forN, y_forC, y_cmN, y_cmC, y_wipN, y_wipC, y_wipU, y_wipV, y_bakN, y_bakC, y_chainE, y_chain3, y_chain3E, y_it3, y_nodN, y_ioL, y_ioR, y_argN, y_argL, y_argR, y_argO, y_argI, y_bkN, y_bkL, y_bkR, y_bkO, y_bkI, y_callE, y_outN, y_outR, x_op1, x_op2, x_opdS, x_opdN, x_getS, x_getV, x_slV, x_slO, x_slI, x_rd, x_rdV, x_rdO, x_asg, x_asgU, x_asgV, x_asgO, x_ret, x_retV, x_retO, x_put, x_putO, x_putI, x_add, x_adO, x_adI, x_own, x_ownO, x_ownI, x_base, x_finF, x_finT, x_asB, x_ofB, x_bindB, x_withE, x_dV, x_dO, x_sV, x_sO, x_seqN, x_seqR, x_seqB, x_seqC, x_turnN, x_turnC, x_turnB, x_turnR, x_add', x_sub', x_lt, x_le, x_gt, x_ge, x_eq, x_ne, x_is, x_isn, x_inn, x_nin, shaped_int, shaped_bool, shaped_none, x_eqI, x_eqN, x_eqB, x_eqT2, x_eqT3, x_sz1, x_sz2, x_sz3, x_sz4, x_sz5, x_sz6, truN, truB, truI, x_isNn, x_isNi, x_isNt, x_isNl, x_isIi, x_isIb, x_isBb, x_isBi, x_isTt, x_isLl, x_isTl, x_isLt, x_len, x_lenT, x_abs, x_int, x_intq, x_ixL, x_ixT, at_0, at_1, at_2, at_3, at_4, at_5, z_0, z_1, z_2, z_3, z_4, z_5, z_6, z_7, z_8, z_9, z_10, z_11, z_12, w_0, w_1, w_2, w_3, w_4, w_5, w_6, w_7, w_8, w_9, w_10, w_11, w_12, ix_1_0, ix_2_0, ix_2_1, ix_3_0, ix_3_1, ix_3_2, ix_4_0, ix_4_1, ix_4_2, ix_4_3, ix_5_0, ix_5_1, ix_5_2, ix_5_3, ix_5_4, ix_6_0, ix_6_1, ix_6_2, ix_6_3, ix_6_4, ix_6_5, ix_7_0, ix_7_1, ix_7_2, ix_7_3, ix_7_4, ix_7_5, ix_7_6, Option.map_some, Option.bind_some, Option.map_none, Option.bind_none, List.getElem?_cons_zero, List.getElem?_cons_succ, List.set_cons_zero, List.set_cons_succ, List.cons_append, List.nil_append, List.length_cons, List.length_nil, List.replicate, if_true, Bool.false_eq_true, if_false, reduceIte, Nat.reduceAdd, Nat.reduceSub, List.append_nil, List.take_succ_cons, List.take_zero, List.map_nil, Option.getD_some, decide_true, decide_false, List.nodup_nil, y_nod1, Bool.not_true, Bool.not_false, List.map_cons, ct_0, ct_1, ct_2, ct_3, ct_4, ct_5, ct_6, ct_7, ct_8, ct_9, ct_10, ct_11, ct_12, Bool.and_true, Bool.true_and, Bool.and_false, Bool.false_and, x_revL, x_revT, lst_lst, x_sz0]
theorem order_5 {w : Nat} {a0 a1 xs ys zs ns : List D} {s1 s2 : Sl} {n : Int} (hn : b1R .len (.list xs) = some (.v (.int n))) (hr : rng2 0 n = some ns) (h : forl (bindT (.nm 2)) (evSs C (K_order_b1 w)) ns [.io a0, .o xs, .un, .o [], .un] = some (.nx [.io a1, .o zs, s1, .o ys, s2])) :
  evS C (.for_ (.nm 2) (.r1 (.b1 .len (.var 1))) (K_order_b1 w)) [.io a0, .o xs, .un, .o [], .un] = some (.nx [.io a1, .o zs, s1, .o ys, s2]) := by
  simp -implicitDefEqProofs only [E.var?, y_con, y_varF, y_varT, y_glo, y_bin, y_neg, y_notT, y_notF, y_andT, y_andF, y_orT, y_orF, y_ite, y_cmp, y_chain, y_tup, y_lst, y_rep, y_idx, y_slice, y_rev, y_call, y_b1, y_b2, y_isI, y_lrng, y_compN, y_compS, y_esN, y_esC, y_rsN, y_rsC, y_asN, y_asV, y_asI, y_oN, y_oS, y_itS, y_it1, y_it2, y_asg, y_par, y_stp, y_unp, y_st, y_app, y_expr, y_iteS, y_for, y_retN, y_pass, y_brk, y_cont, y_raise, y_ssN, y_ssC, y_tasN, y_tasC, y_taN, y_taS, y_aug, y_augV, y_ret, y_retS, y_retE, y_enm, y_enmL, y_enmT, y_zip, y_zipL, y_zipT, y_ext, y_extO, y_seqL, y_seqT, y_nsN, y_nsC, y_tgN, y_tgT, y_tgL, y_tgsN, y_tgsC, y_forN, y_forC, y_cmN, y_cmC, y_wipN, y_wipC, y_wipU, y_wipV, y_bakN, y_bakC, y_chainE, y_chain3, y_chain3E, y_it3, y_nodN, y_ioL, y_ioR, y_argN, y_argL, y_argR, y_argO, y_argI, y_bkN, y_bkL, y_bkR, y_bkO, y_bkI, y_callE, y_outN, y_outR, x_op1, x_op2, x_opdS, x_opdN, x_getS, x_getV, x_slV, x_slO, x_slI, x_rd, x_rdV, x_rdO, x_asg, x_asgU, x_asgV, x_asgO, x_ret, x_retV, x_retO, x_put, x_putO, x_putI, x_add, x_adO, x_adI, x_own, x_ownO, x_ownI, x_base, x_finF, x_finT, x_asB, x_ofB, x_bindB, x_withE, x_dV, x_dO, x_sV, x_sO, x_seqN, x_seqR, x_seqB, x_seqC, x_turnN, x_turnC, x_turnB, x_turnR, x_add', x_sub', x_lt, x_le, x_gt, x_ge, x_eq, x_ne, x_is, x_isn, x_inn, x_nin, shaped_int, shaped_bool, shaped_none, x_eqI, x_eqN, x_eqB, x_eqT2, x_eqT3, x_sz1, x_sz2, x_sz3, x_sz4, x_sz5, x_sz6, truN, truB, truI, x_isNn, x_isNi, x_isNt, x_isNl, x_isIi, x_isIb, x_isBb, x_isBi, x_isTt, x_isLl, x_isTl, x_isLt, x_len, x_lenT, x_abs, x_int, x_intq, x_ixL, x_ixT, at_0, at_1, at_2, at_3, at_4, at_5, z_0, z_1, z_2, z_3, z_4, z_5, z_6, z_7, z_8, z_9, z_10, z_11, z_12, w_0, w_1, w_2, w_3, w_4, w_5, w_6, w_7, w_8, w_9, w_10, w_11, w_12, ix_1_0, ix_2_0, ix_2_1, ix_3_0, ix_3_1, ix_3_2, ix_4_0, ix_4_1, ix_4_2, ix_4_3, ix_5_0, ix_5_1, ix_5_2, ix_5_3, ix_5_4, ix_6_0, ix_6_1, ix_6_2, ix_6_3, ix_6_4, ix_6_5, ix_7_0, ix_7_1, ix_7_2, ix_7_3, ix_7_4, ix_7_5, ix_7_6, Option.map_some, Option.bind_some, Option.map_none, Option.bind_none, List.getElem?_cons_zero, List.getElem?_cons_succ, List.set_cons_zero, List.set_cons_succ, List.cons_append, List.nil_append, List.length_cons, List.length_nil, List.replicate, if_true, Bool.false_eq_true, if_false, reduceIte, Nat.reduceAdd, Nat.reduceSub, List.append_nil, List.take_succ_cons, List.take_zero, List.map_nil, Option.getD_some, decide_true, decide_false, List.nodup_nil, y_nod1, Bool.not_true, Bool.not_false, List.map_cons, ct_0, ct_1, ct_2, ct_3, ct_4, ct_5, ct_6, ct_7, ct_8, ct_9, ct_10, ct_11, ct_12, Bool.and_true, Bool.true_and, Bool.and_false, Bool.false_and, x_revL, x_revT, -x_len, hn, hr, h]
theorem order_6 {a1 ys zs: List D} {s1 s2 : Sl} :
  evS C (.ret (.var 3)) [.io a1, .o zs, s1, .o ys, s2] = some (.rt (.o ys) [.io a1, .o zs, s1, .un, s2]) := by
  simp -implicitDefEqProofs only [E.var?, y_con, y_varF, y_varT, y_glo, y_bin, y_neg, y_notT, y_notF, y_andT, y_andF, y_orT, y_orF, y_ite, y_cmp, y_chain, y_tup, y_lst, y_rep, y_idx, y_slice, y_rev, y_call, y_b1, y_b2, y_isI, y_lrng, y_compN, y_compS, y_esN, y_esC, y_rsN, y_rsC, y_asN, y_asV, y_asI, y_oN, y_oS, y_itS, y_it1, y_it2, y_asg, y_par, y_stp, y_unp, y_st, y_app, y_expr, y_iteS, y_for, y_retN, y_pass, y_brk, y_cont, y_raise, y_ssN, y_ssC, y_tasN, y_tasC, y_taN, y_taS, y_aug, y_augV, y_ret, y_retS, y_retE, y_enm, y_enmL, y_enmT, y_zip, y_zipL, y_zipT, y_ext, y_extO, y_seqL, y_seqT, y_nsN, y_nsC, y_tgN, y_tgT, y_tgL, y_tgsN, y_tgsC, y_forN, y_forC, y_cmN, y_cmC, y_wipN, y_wipC, y_wipU, y_wipV, y_bakN, y_bakC, y_chainE, y_chain3, y_chain3E, y_it3, y_nodN, y_ioL, y_ioR, y_argN, y_argL, y_argR, y_argO, y_argI, y_bkN, y_bkL, y_bkR, y_bkO, y_bkI, y_callE, y_outN, y_outR, x_op1, x_op2, x_opdS, x_opdN, x_getS, x_getV, x_slV, x_slO, x_slI, x_rd, x_rdV, x_rdO, x_asg, x_asgU, x_asgV, x_asgO, x_ret, x_retV, x_retO, x_put, x_putO, x_putI, x_add, x_adO, x_adI, x_own, x_ownO, x_ownI, x_base, x_finF, x_finT, x_asB, x_ofB, x_bindB, x_withE, x_dV, x_dO, x_sV, x_sO, x_seqN, x_seqR, x_seqB, x_seqC, x_turnN, x_turnC, x_turnB, x_turnR, x_add', x_sub', x_lt, x_le, x_gt, x_ge, x_eq, x_ne, x_is, x_isn, x_inn, x_nin, shaped_int, shaped_bool, shaped_none, x_eqI, x_eqN, x_eqB, x_eqT2, x_eqT3, x_sz1, x_sz2, x_sz3, x_sz4, x_sz5, x_sz6, truN, truB, truI, x_isNn, x_isNi, x_isNt, x_isNl, x_isIi, x_isIb, x_isBb, x_isBi, x_isTt, x_isLl, x_isTl, x_isLt, x_len, x_lenT, x_abs, x_int, x_intq, x_ixL, x_ixT, at_0, at_1, at_2, at_3, at_4, at_5, z_0, z_1, z_2, z_3, z_4, z_5, z_6, z_7, z_8, z_9, z_10, z_11, z_12, w_0, w_1, w_2, w_3, w_4, w_5, w_6, w_7, w_8, w_9, w_10, w_11, w_12, ix_1_0, ix_2_0, ix_2_1, ix_3_0, ix_3_1, ix_3_2, ix_4_0, ix_4_1, ix_4_2, ix_4_3, ix_5_0, ix_5_1, ix_5_2, ix_5_3, ix_5_4, ix_6_0, ix_6_1, ix_6_2, ix_6_3, ix_6_4, ix_6_5, ix_7_0, ix_7_1, ix_7_2, ix_7_3, ix_7_4, ix_7_5, ix_7_6, Option.map_some, Option.bind_some, Option.map_none, Option.bind_none, List.getElem?_cons_zero, List.getElem?_cons_succ, List.set_cons_zero, List.set_cons_succ, List.cons_append, List.nil_append, List.length_cons, List.length_nil, List.replicate, if_true, Bool.false_eq_true, if_false, reduceIte, Nat.reduceAdd, Nat.reduceSub, List.append_nil, List.take_succ_cons, List.take_zero, List.map_nil, Option.getD_some, decide_true, decide_false, List.nodup_nil, y_nod1, Bool.not_true, Bool.not_false, List.map_cons, ct_0, ct_1, ct_2, ct_3, ct_4, ct_5, ct_6, ct_7, ct_8, ct_9, ct_10, ct_11, ct_12, Bool.and_true, Bool.true_and, Bool.and_false, Bool.false_and, x_revL, x_revT]
theorem order_g {w : Nat} {a0 a1 xs ys zs ns : List D} {s1 s2 : Sl} {n : Int} (hn : b1R .len (.list xs) = some (.v (.int n))) (hr : rng2 0 n = some ns) (h : forl (bindT (.nm 2)) (evSs C (K_order_b1 w)) ns [.io a0, .o xs, .un, .o [], .un] = some (.nx [.io a1, .o zs, s1, .o ys, s2])) :
    runFn C (K_order w) [.io a0, .v (.list xs)] = some (.o ys, [.io a1, .o zs]) := by
  rw [y_run (by rfl)]
  show outA 2 (evSs C (.cons _ (.cons _ (.cons _ .nil))) [.io a0, .v (.list xs), .un, .un, .un]) = _
  rw [y_ssC, order_4, x_seqN, y_ssC, order_5 hn hr h, x_seqN, y_ssC, order_6, x_seqR]
  rfl
theorem order_spec {α : Type} {w : Nat} (dr : DrOK C w) {l : List α} {d : α → D} {s : LS} {k : Nat} (ok : s.ok k) (hk : k + l.length < 2 ^ 250) (hl : l.length ≤ 1000) :
    ∃ (s' : LS) (l' : List α) (o : Sl), runFn C (K_order w) [.io s.d, .v (.list (l.map d))] = some (.o (l'.map d), [.io s'.d, o]) ∧ s'.ok (k + l.length) ∧ l'.Perm l := by
  have z : (1001 : Nat) ≤ sizeLine := by decide
  have lr : (ranges 0 1 l.length).length = l.length := by rw [ranges_map, List.length_map, List.length_range]
  obtain ⟨e', h, s', rows, found, t, u, _, _, rfl, ok', p, len⟩ := forl_draw (g := bindT (.nm 2)) (b := evSs C (K_order_b1 w))
    (I := fun j e => ∃ (s' : LS) (rows found : List α) (t u : Sl), Emp t ∧ Emp u ∧ e = [.io s'.d, .o (rows.map d), t, .o (found.map d), u] ∧ s'.ok (k + j) ∧ (found ++ rows).Perm l ∧ rows.length + j = l.length) (ranges 0 1 l.length) 0 (fun j x e _ hj => by
      rintro ⟨s', rows, found, t, u, et, eu, rfl, ok', p, len⟩
      rw [lr] at hj
      have pl := p.length_eq
      rw [List.length_append] at pl
      obtain ⟨s2, r, c, ok2, r0, r1⟩ := dr s' (k + j) rows.length ok' (by omega) (by omega) (by omega)
      obtain ⟨i, rfl⟩ := Int.eq_ofNat_of_zero_le r0
      have hi : i < rows.length := by omega
      have b1 : bindT (.nm 2) x [.io s'.d, .o (rows.map d), t, .o (found.map d), u] = some [.io s'.d, .o (rows.map d), .v x, .o (found.map d), u] := by
        cases t <;> first | (exact et.elim) | simp -implicitDefEqProofs only [E.var?, y_con, y_varF, y_varT, y_glo, y_bin, y_neg, y_notT, y_notF, y_andT, y_andF, y_orT, y_orF, y_ite, y_cmp, y_chain, y_tup, y_lst, y_rep, y_idx, y_slice, y_rev, y_call, y_b1, y_b2, y_isI, y_lrng, y_compN, y_compS, y_esN, y_esC, y_rsN, y_rsC, y_asN, y_asV, y_asI, y_oN, y_oS, y_itS, y_it1, y_it2, y_asg, y_par, y_stp, y_unp, y_st, y_app, y_expr, y_iteS, y_for, y_retN, y_pass, y_brk, y_cont, y_raise, y_ssN, y_ssC, y_tasN, y_tasC, y_taN, y_taS, y_aug, y_augV, y_ret, y_retS, y_retE, y_enm, y_enmL, y_enmT, y_zip, y_zipL, y_zipT, y_ext, y_extO, y_seqL, y_seqT, y_nsN, y_nsC, y_tgN, y_tgT, y_tgL, y_tgsN, y_tgsC, y_forN, y_forC, y_cmN, y_cmC, y_wipN, y_wipC, y_wipU, y_wipV, y_bakN, y_bakC, y_chainE, y_chain3, y_chain3E, y_it3, y_nodN, y_ioL, y_ioR, y_argN, y_argL, y_argR, y_argO, y_argI, y_bkN, y_bkL, y_bkR, y_bkO, y_bkI, y_callE, y_outN, y_outR, x_op1, x_op2, x_opdS, x_opdN, x_getS, x_getV, x_slV, x_slO, x_slI, x_rd, x_rdV, x_rdO, x_asg, x_asgU, x_asgV, x_asgO, x_ret, x_retV, x_retO, x_put, x_putO, x_putI, x_add, x_adO, x_adI, x_own, x_ownO, x_ownI, x_base, x_finF, x_finT, x_asB, x_ofB, x_bindB, x_withE, x_dV, x_dO, x_sV, x_sO, x_seqN, x_seqR, x_seqB, x_seqC, x_turnN, x_turnC, x_turnB, x_turnR, x_add', x_sub', x_lt, x_le, x_gt, x_ge, x_eq, x_ne, x_is, x_isn, x_inn, x_nin, shaped_int, shaped_bool, shaped_none, x_eqI, x_eqN, x_eqB, x_eqT2, x_eqT3, x_sz1, x_sz2, x_sz3, x_sz4, x_sz5, x_sz6, truN, truB, truI, x_isNn, x_isNi, x_isNt, x_isNl, x_isIi, x_isIb, x_isBb, x_isBi, x_isTt, x_isLl, x_isTl, x_isLt, x_len, x_lenT, x_abs, x_int, x_intq, x_ixL, x_ixT, at_0, at_1, at_2, at_3, at_4, at_5, z_0, z_1, z_2, z_3, z_4, z_5, z_6, z_7, z_8, z_9, z_10, z_11, z_12, w_0, w_1, w_2, w_3, w_4, w_5, w_6, w_7, w_8, w_9, w_10, w_11, w_12, ix_1_0, ix_2_0, ix_2_1, ix_3_0, ix_3_1, ix_3_2, ix_4_0, ix_4_1, ix_4_2, ix_4_3, ix_5_0, ix_5_1, ix_5_2, ix_5_3, ix_5_4, ix_6_0, ix_6_1, ix_6_2, ix_6_3, ix_6_4, ix_6_5, ix_7_0, ix_7_1, ix_7_2, ix_7_3, ix_7_4, ix_7_5, ix_7_6, Option.map_some, Option.bind_some, Option.map_none, Option.bind_none, List.getElem?_cons_zero, List.getElem?_cons_succ, List.set_cons_zero, List.set_cons_succ, List.cons_append, List.nil_append, List.length_cons, List.length_nil, List.replicate, if_true, Bool.false_eq_true, if_false, reduceIte, Nat.reduceAdd, Nat.reduceSub, List.append_nil, List.take_succ_cons, List.take_zero, List.map_nil, Option.getD_some, decide_true, decide_false, List.nodup_nil, y_nod1, Bool.not_true, Bool.not_false, List.map_cons, ct_0, ct_1, ct_2, ct_3, ct_4, ct_5, ct_6, ct_7, ct_8, ct_9, ct_10, ct_11, ct_12, Bool.and_true, Bool.true_and, Bool.and_false, Bool.false_and, x_revL, x_revT]
      have hx : atI (rows.map d) (i : Int) = some (d rows[i]) := by
        rw [at_nat, List.getElem?_map, List.getElem?_eq_getElem hi]; rfl
      have st := order_step (C := C) (w := w) (a0 := s'.d) (a1 := s2.d) (rows := rows.map d) (found := found.map d) (t := x) (s := u) eu (n := (rows.length : Nat)) (by rw [x_len, List.length_map]) c hx (by rw [List.length_map]; omega)
        (cut_take (k := i) (by rw [List.length_map]; omega)) (cut_drop (k := i + 1) (by rw [List.length_map]; omega)) (by rw [List.length_take, List.length_drop, List.length_map]; omega)
      refine ⟨_, _, b1, st, s2, rows.take i ++ rows.drop (i + 1), found ++ [rows[i]], .v x, .v (.int i), trivial, trivial, ?_, by rw [← Nat.add_assoc]; exact ok2, ?_, ?_⟩
      · rw [List.map_append, List.map_append, List.map_take, List.map_drop]; rfl
      · refine List.Perm.trans ?_ p
        rw [List.append_assoc]
        refine List.Perm.append_left _ ?_
        have e : rows.take i ++ rows[i] :: rows.drop (i + 1) = rows := by
          rw [← List.drop_eq_getElem_cons hi, List.take_append_drop]
        have q : ([rows[i]] ++ (rows.take i ++ rows.drop (i + 1))).Perm (rows.take i ++ rows[i] :: rows.drop (i + 1)) := by
          rw [List.singleton_append]; exact List.perm_middle.symm
        rw [e] at q
        exact q
      · rw [List.length_append, List.length_take, List.length_drop]; omega) _ ⟨s, l, [], .un, .un, trivial, trivial, rfl, ok, List.Perm.refl _, rfl⟩
  rw [Nat.zero_add, lr] at ok' len
  have hr0 : rows = [] := List.eq_nil_of_length_eq_zero (by omega)
  subst hr0
  refine ⟨s', found, .o (([] : List α).map d), ?_, ok', by simpa using p⟩
  exact order_g (by rw [x_len, List.length_map]) (x_rng (by omega)) h
def SomeOK (C : CT) (i : Nat) : Prop := ∀ (s : LS) (k : Nat), s.ok k → k + 2 < 2 ^ 250 → ∃ (s' : LS) (x : Rat), C i [.io s.d] = some (.v (qd x), [.io s'.d]) ∧ s'.ok (k + 2) ∧ QB 4 x ∧ 0 < x
theorem some_g {q w : Nat} {a0 a1 a2 : List D} {r1 r2 : Int} {R : Rs} {o1 o2 : Sl} (c1 : C w [.io a0, .v (.int 12)] = some (.v (.int r1), [.io a1, .v (.int 12)])) (c2 : C w [.io a1, .v (.int 12)] = some (.v (.int r2), [.io a2, .v (.int 12)]))
    (c3 : C q [.v (.int (1 + r1)), .v (.int (1 + r2))] = some (R, [o1, o2])) : runFn C (K_some q w) [.io a0] = some (R, [.io a2]) := by
  rw [y_run (by rfl)]
  simp -implicitDefEqProofs only [K_some, E.var?, y_con, y_varF, y_varT, y_glo, y_bin, y_neg, y_notT, y_notF, y_andT, y_andF, y_orT, y_orF, y_ite, y_cmp, y_chain, y_tup, y_lst, y_rep, y_idx, y_slice, y_rev, y_call, y_b1, y_b2, y_isI, y_lrng, y_compN, y_compS, y_esN, y_esC, y_rsN, y_rsC, y_asN, y_asV, y_asI, y_oN, y_oS, y_itS, y_it1, y_it2, y_asg, y_par, y_stp, y_unp, y_st, y_app, y_expr, y_iteS, y_for, y_retN, y_pass, y_brk, y_cont, y_raise, y_ssN, y_ssC, y_tasN, y_tasC, y_taN, y_taS, y_aug, y_augV, y_ret, y_retS, y_retE, y_enm, y_enmL, y_enmT, y_zip, y_zipL, y_zipT, y_ext, y_extO, y_seqL, y_seqT, y_nsN, y_nsC, y_tgN, y_tgT, y_tgL, y_tgsN, y_tgsC, y_forN, y_forC, y_cmN, y_cmC, y_wipN, y_wipC, y_wipU, y_wipV, y_bakN, y_bakC, y_chainE, y_chain3, y_chain3E, y_it3, y_nodN, y_ioL, y_ioR, y_argN, y_argL, y_argR, y_argO, y_argI, y_bkN, y_bkL, y_bkR, y_bkO, y_bkI, y_callE, y_outN, y_outR, x_op1, x_op2, x_opdS, x_opdN, x_getS, x_getV, x_slV, x_slO, x_slI, x_rd, x_rdV, x_rdO, x_asg, x_asgU, x_asgV, x_asgO, x_ret, x_retV, x_retO, x_put, x_putO, x_putI, x_add, x_adO, x_adI, x_own, x_ownO, x_ownI, x_base, x_finF, x_finT, x_asB, x_ofB, x_bindB, x_withE, x_dV, x_dO, x_sV, x_sO, x_seqN, x_seqR, x_seqB, x_seqC, x_turnN, x_turnC, x_turnB, x_turnR, x_add', x_sub', x_lt, x_le, x_gt, x_ge, x_eq, x_ne, x_is, x_isn, x_inn, x_nin, shaped_int, shaped_bool, shaped_none, x_eqI, x_eqN, x_eqB, x_eqT2, x_eqT3, x_sz1, x_sz2, x_sz3, x_sz4, x_sz5, x_sz6, truN, truB, truI, x_isNn, x_isNi, x_isNt, x_isNl, x_isIi, x_isIb, x_isBb, x_isBi, x_isTt, x_isLl, x_isTl, x_isLt, x_len, x_lenT, x_abs, x_int, x_intq, x_ixL, x_ixT, at_0, at_1, at_2, at_3, at_4, at_5, z_0, z_1, z_2, z_3, z_4, z_5, z_6, z_7, z_8, z_9, z_10, z_11, z_12, w_0, w_1, w_2, w_3, w_4, w_5, w_6, w_7, w_8, w_9, w_10, w_11, w_12, ix_1_0, ix_2_0, ix_2_1, ix_3_0, ix_3_1, ix_3_2, ix_4_0, ix_4_1, ix_4_2, ix_4_3, ix_5_0, ix_5_1, ix_5_2, ix_5_3, ix_5_4, ix_6_0, ix_6_1, ix_6_2, ix_6_3, ix_6_4, ix_6_5, ix_7_0, ix_7_1, ix_7_2, ix_7_3, ix_7_4, ix_7_5, ix_7_6, Option.map_some, Option.bind_some, Option.map_none, Option.bind_none, List.getElem?_cons_zero, List.getElem?_cons_succ, List.set_cons_zero, List.set_cons_succ, List.cons_append, List.nil_append, List.length_cons, List.length_nil, List.replicate, if_true, Bool.false_eq_true, if_false, reduceIte, Nat.reduceAdd, Nat.reduceSub, List.append_nil, List.take_succ_cons, List.take_zero, List.map_nil, Option.getD_some, decide_true, decide_false, List.nodup_nil, y_nod1, Bool.not_true, Bool.not_false, List.map_cons, ct_0, ct_1, ct_2, ct_3, ct_4, ct_5, ct_6, ct_7, ct_8, ct_9, ct_10, ct_11, ct_12, Bool.and_true, Bool.true_and, Bool.and_false, Bool.false_and, x_revL, x_revT, c1, c2, c3]
theorem some_spec {q w k : Nat} {s : LS} (dr : DrOK C w) (cq : QuOK C q) (ok : s.ok k) (hk : k + 2 < 2 ^ 250) : ∃ (s' : LS) (x : Rat), runFn C (K_some q w) [.io s.d] = some (.v (qd x), [.io s'.d]) ∧ s'.ok (k + 2) ∧ QB 4 x ∧ 0 < x := by
  obtain ⟨s1, r1, c1, ok1, p1, q1⟩ := dr s k 12 ok (by omega) (by decide) (by decide)
  obtain ⟨s2, r2, c2, ok2, p2, q2⟩ := dr s1 (k + 1) 12 ok1 (by omega) (by decide) (by decide)
  refine ⟨s2, Rat.divInt (1 + r1) (1 + r2), some_g c1 c2 (cq _ _ (by omega) (by omega) (by omega)), ok2, qb_div (by omega) (by omega) (by omega), ?_⟩
  rw [Rat.divInt_eq_div, Rat.div_def]
  exact Rat.mul_pos (Rat.intCast_pos.mpr (by omega)) (Rat.inv_pos.mpr (Rat.intCast_pos.mpr (by omega)))
end
/-! ### lists of quotients -/
theorem qd_lay (x : Rat) : PyData.canLay0 (qd x) = true ∧ PyData.depth (qd x) = 1 := ⟨rfl, rfl⟩
theorem qds_lay : ∀ (l : List Rat), PyData.canLayAll0 (l.map qd) = true ∧ PyData.depthAll (l.map qd) ≤ 1
  | [] => ⟨rfl, by simp [PyData.depthAll]⟩
  | x :: l => by
    obtain ⟨a, b⟩ := qds_lay l
    obtain ⟨c, d⟩ := qd_lay x
    constructor
    · simp [PyData.canLayAll0, a, c]
    · simp [PyData.depthAll, d, b]
theorem shaped_qs {l : List Rat} : SeqAt.shaped (.list (l.map qd)) = true ∧ SeqAt.shaped (.tuple (l.map qd)) = true := by
  obtain ⟨a, b⟩ := qds_lay l
  constructor <;> simp [SeqAt.shaped, PyData.canLay0, PyData.depth, a] <;> omega
theorem eqv_qd {x y : Rat} : PyData.eqv (qd x) (qd y) = decide (x = y) := by
  have := qd_eq (x := x) (y := y)
  unfold eqD at this
  split at this
  · exact Option.some.inj this
  · cases this
theorem eqvAll_qs : ∀ {xs ys : List Rat}, PyData.eqvAll (xs.map qd) (ys.map qd) = decide (xs = ys)
  | [], [] => by simp [PyData.eqvAll]
  | [], _ :: _ => by simp [PyData.eqvAll]
  | _ :: _, [] => by simp [PyData.eqvAll]
  | x :: xs, y :: ys => by
    simp only [List.map_cons, PyData.eqvAll, eqv_qd, eqvAll_qs (xs := xs) (ys := ys), List.cons.injEq, Bool.decide_and]
theorem eqs_L {xs ys : List Rat} : eqD (.list (xs.map qd)) (.list (ys.map qd)) = some (decide (xs = ys)) := by
  unfold eqD
  rw [if_pos ⟨shaped_qs.1, shaped_qs.1⟩]
  simp only [PyData.eqv, eqvAll_qs]
theorem eqs_T {xs ys : List Rat} : eqD (.tuple (xs.map qd)) (.tuple (ys.map qd)) = some (decide (xs = ys)) := by
  unfold eqD
  rw [if_pos ⟨shaped_qs.2, shaped_qs.2⟩]
  simp only [PyData.eqv, eqvAll_qs]
theorem eqs_N {xs : List Rat} : eqD (.list (xs.map qd)) (.list []) = some xs.isEmpty := by
  have := eqs_L (xs := xs) (ys := [])
  rw [List.map_nil] at this
  rw [this]
  cases xs <;> rfl
/-! ### sums and orders of quotients -/
def K_added_b1 (q : Nat) : Ss := (.cons (.unp (.tup (.cons (.nm 2) (.cons (.nm 3) .nil))) (.call q (.val (.bin .add (.bin .mul (.var 2) (.idx (.var 1) (.con (.int 1)))) (.bin .mul (.idx (.var 1) (.con (.int 0))) (.var 3))) (.val (.bin .mul (.var 3) (.idx (.var 1) (.con (.int 1)))) .nil)) [])) .nil)
def K_added (q : Nat) : Fn := { np := 1, ns := 4, body := (.cons (.par [2, 3] (.cons (.con (.int 0)) (.cons (.con (.int 1)) .nil))) (.cons (.for_ (.nm 1) (.seq (.var 0)) (K_added_b1 q)) (.cons (.ret (.tup (.cons (.var 2) (.cons (.var 3) .nil)))) .nil))) }
def K_less : Fn := { np := 2, ns := 2, body := (.cons (.ret (.cmp .lt (.bin .mul (.idx (.var 0) (.con (.int 0))) (.idx (.var 1) (.con (.int 1)))) (.bin .mul (.idx (.var 1) (.con (.int 0))) (.idx (.var 0) (.con (.int 1)))))) .nil) }
def smQ : List Rat → Rat
  | [] => 0
  | x :: l => x + smQ l
section
variable {C : CT}
theorem added_b {q : Nat} {P : D} {a b c d p r : Int} {s : Sl} {o1 o2 : Sl} (e : Emp s) (m1 : mulOk a d = true) (m2 : mulOk c b = true) (m3 : mulOk b d = true) (h : C q [.v (.int (a * d + c * b)), .v (.int (b * d))] = some (.v (.tuple [.int p, .int r]), [o1, o2])) :
    bindT (.nm 1) (.tuple [.int c, .int d]) [.v P, s, .v (.int a), .v (.int b)] = some [.v P, .v (.tuple [.int c, .int d]), .v (.int a), .v (.int b)] ∧
    evSs C (K_added_b1 q) [.v P, .v (.tuple [.int c, .int d]), .v (.int a), .v (.int b)] = some (.nx [.v P, .v (.tuple [.int c, .int d]), .v (.int p), .v (.int r)]) := by
  constructor
  · cases s <;> first | (exact e.elim) | simp -implicitDefEqProofs only [E.var?, y_con, y_varF, y_varT, y_glo, y_bin, y_neg, y_notT, y_notF, y_andT, y_andF, y_orT, y_orF, y_ite, y_cmp, y_chain, y_tup, y_lst, y_rep, y_idx, y_slice, y_rev, y_call, y_b1, y_b2, y_isI, y_lrng, y_compN, y_compS, y_esN, y_esC, y_rsN, y_rsC, y_asN, y_asV, y_asI, y_oN, y_oS, y_itS, y_it1, y_it2, y_asg, y_par, y_stp, y_unp, y_st, y_app, y_expr, y_iteS, y_for, y_retN, y_pass, y_brk, y_cont, y_raise, y_ssN, y_ssC, y_tasN, y_tasC, y_taN, y_taS, y_aug, y_augV, y_ret, y_retS, y_retE, y_enm, y_enmL, y_enmT, y_zip, y_zipL, y_zipT, y_ext, y_extO, y_seqL, y_seqT, y_nsN, y_nsC, y_tgN, y_tgT, y_tgL, y_tgsN, y_tgsC, y_forN, y_forC, y_cmN, y_cmC, y_wipN, y_wipC, y_wipU, y_wipV, y_bakN, y_bakC, y_chainE, y_chain3, y_chain3E, y_it3, y_nodN, y_ioL, y_ioR, y_argN, y_argL, y_argR, y_argO, y_argI, y_bkN, y_bkL, y_bkR, y_bkO, y_bkI, y_callE, y_outN, y_outR, x_op1, x_op2, x_opdS, x_opdN, x_getS, x_getV, x_slV, x_slO, x_slI, x_rd, x_rdV, x_rdO, x_asg, x_asgU, x_asgV, x_asgO, x_ret, x_retV, x_retO, x_put, x_putO, x_putI, x_add, x_adO, x_adI, x_own, x_ownO, x_ownI, x_base, x_finF, x_finT, x_asB, x_ofB, x_bindB, x_withE, x_dV, x_dO, x_sV, x_sO, x_seqN, x_seqR, x_seqB, x_seqC, x_turnN, x_turnC, x_turnB, x_turnR, x_add', x_sub', x_lt, x_le, x_gt, x_ge, x_eq, x_ne, x_is, x_isn, x_inn, x_nin, shaped_int, shaped_bool, shaped_none, x_eqI, x_eqN, x_eqB, x_eqT2, x_eqT3, x_sz1, x_sz2, x_sz3, x_sz4, x_sz5, x_sz6, truN, truB, truI, x_isNn, x_isNi, x_isNt, x_isNl, x_isIi, x_isIb, x_isBb, x_isBi, x_isTt, x_isLl, x_isTl, x_isLt, x_len, x_lenT, x_abs, x_int, x_intq, x_ixL, x_ixT, at_0, at_1, at_2, at_3, at_4, at_5, z_0, z_1, z_2, z_3, z_4, z_5, z_6, z_7, z_8, z_9, z_10, z_11, z_12, w_0, w_1, w_2, w_3, w_4, w_5, w_6, w_7, w_8, w_9, w_10, w_11, w_12, ix_1_0, ix_2_0, ix_2_1, ix_3_0, ix_3_1, ix_3_2, ix_4_0, ix_4_1, ix_4_2, ix_4_3, ix_5_0, ix_5_1, ix_5_2, ix_5_3, ix_5_4, ix_6_0, ix_6_1, ix_6_2, ix_6_3, ix_6_4, ix_6_5, ix_7_0, ix_7_1, ix_7_2, ix_7_3, ix_7_4, ix_7_5, ix_7_6, Option.map_some, Option.bind_some, Option.map_none, Option.bind_none, List.getElem?_cons_zero, List.getElem?_cons_succ, List.set_cons_zero, List.set_cons_succ, List.cons_append, List.nil_append, List.length_cons, List.length_nil, List.replicate, if_true, Bool.false_eq_true, if_false, reduceIte, Nat.reduceAdd, Nat.reduceSub, List.append_nil, List.take_succ_cons, List.take_zero, List.map_nil, Option.getD_some, decide_true, decide_false, List.nodup_nil, y_nod1, Bool.not_true, Bool.not_false, List.map_cons, ct_0, ct_1, ct_2, ct_3, ct_4, ct_5, ct_6, ct_7, ct_8, ct_9, ct_10, ct_11, ct_12, Bool.and_true, Bool.true_and, Bool.and_false, Bool.false_and, x_revL, x_revT]
  · simp -implicitDefEqProofs only [K_added_b1, E.var?, y_con, y_varF, y_varT, y_glo, y_bin, y_neg, y_notT, y_notF, y_andT, y_andF, y_orT, y_orF, y_ite, y_cmp, y_chain, y_tup, y_lst, y_rep, y_idx, y_slice, y_rev, y_call, y_b1, y_b2, y_isI, y_lrng, y_compN, y_compS, y_esN, y_esC, y_rsN, y_rsC, y_asN, y_asV, y_asI, y_oN, y_oS, y_itS, y_it1, y_it2, y_asg, y_par, y_stp, y_unp, y_st, y_app, y_expr, y_iteS, y_for, y_retN, y_pass, y_brk, y_cont, y_raise, y_ssN, y_ssC, y_tasN, y_tasC, y_taN, y_taS, y_aug, y_augV, y_ret, y_retS, y_retE, y_enm, y_enmL, y_enmT, y_zip, y_zipL, y_zipT, y_ext, y_extO, y_seqL, y_seqT, y_nsN, y_nsC, y_tgN, y_tgT, y_tgL, y_tgsN, y_tgsC, y_forN, y_forC, y_cmN, y_cmC, y_wipN, y_wipC, y_wipU, y_wipV, y_bakN, y_bakC, y_chainE, y_chain3, y_chain3E, y_it3, y_nodN, y_ioL, y_ioR, y_argN, y_argL, y_argR, y_argO, y_argI, y_bkN, y_bkL, y_bkR, y_bkO, y_bkI, y_callE, y_outN, y_outR, x_op1, x_op2, x_opdS, x_opdN, x_getS, x_getV, x_slV, x_slO, x_slI, x_rd, x_rdV, x_rdO, x_asg, x_asgU, x_asgV, x_asgO, x_ret, x_retV, x_retO, x_put, x_putO, x_putI, x_add, x_adO, x_adI, x_own, x_ownO, x_ownI, x_base, x_finF, x_finT, x_asB, x_ofB, x_bindB, x_withE, x_dV, x_dO, x_sV, x_sO, x_seqN, x_seqR, x_seqB, x_seqC, x_turnN, x_turnC, x_turnB, x_turnR, x_add', x_sub', x_lt, x_le, x_gt, x_ge, x_eq, x_ne, x_is, x_isn, x_inn, x_nin, shaped_int, shaped_bool, shaped_none, x_eqI, x_eqN, x_eqB, x_eqT2, x_eqT3, x_sz1, x_sz2, x_sz3, x_sz4, x_sz5, x_sz6, truN, truB, truI, x_isNn, x_isNi, x_isNt, x_isNl, x_isIi, x_isIb, x_isBb, x_isBi, x_isTt, x_isLl, x_isTl, x_isLt, x_len, x_lenT, x_abs, x_int, x_intq, x_ixL, x_ixT, at_0, at_1, at_2, at_3, at_4, at_5, z_0, z_1, z_2, z_3, z_4, z_5, z_6, z_7, z_8, z_9, z_10, z_11, z_12, w_0, w_1, w_2, w_3, w_4, w_5, w_6, w_7, w_8, w_9, w_10, w_11, w_12, ix_1_0, ix_2_0, ix_2_1, ix_3_0, ix_3_1, ix_3_2, ix_4_0, ix_4_1, ix_4_2, ix_4_3, ix_5_0, ix_5_1, ix_5_2, ix_5_3, ix_5_4, ix_6_0, ix_6_1, ix_6_2, ix_6_3, ix_6_4, ix_6_5, ix_7_0, ix_7_1, ix_7_2, ix_7_3, ix_7_4, ix_7_5, ix_7_6, Option.map_some, Option.bind_some, Option.map_none, Option.bind_none, List.getElem?_cons_zero, List.getElem?_cons_succ, List.set_cons_zero, List.set_cons_succ, List.cons_append, List.nil_append, List.length_cons, List.length_nil, List.replicate, if_true, Bool.false_eq_true, if_false, reduceIte, Nat.reduceAdd, Nat.reduceSub, List.append_nil, List.take_succ_cons, List.take_zero, List.map_nil, Option.getD_some, decide_true, decide_false, List.nodup_nil, y_nod1, Bool.not_true, Bool.not_false, List.map_cons, ct_0, ct_1, ct_2, ct_3, ct_4, ct_5, ct_6, ct_7, ct_8, ct_9, ct_10, ct_11, ct_12, Bool.and_true, Bool.true_and, Bool.and_false, Bool.false_and, x_revL, x_revT, x_mul' m1, x_mul' m2, x_mul' m3, h]
theorem added_for {q m : Nat} {P : D} (cq : QuOK C q) : ∀ (l : List Rat) (t : Rat) (k : Nat) (s : Sl), Emp s → QB k t → (∀ x ∈ l, QB m x) → k + (m + 1) * l.length ≤ 248 → ∃ s', Emp s' ∧ forl (bindT (.nm 1)) (evSs C (K_added_b1 q)) (l.map qd) [.v P, s, .v (.int t.num), .v (.int (t.den : Int))] = some (.nx [.v P, s', .v (.int (t + smQ l).num), .v (.int ((t + smQ l).den : Int))])
  | [], t, k, s, e, _, _, _ => ⟨s, e, by rw [smQ, Rat.add_zero]; rfl⟩
  | x :: l, t, k, s, e, ht, hl, hk => by
    rw [List.length_cons, Nat.mul_succ] at hk
    have bx := hl x (List.mem_cons_self ..)
    obtain ⟨s', e', h⟩ := added_for (P := P) cq l (t + x) (k + m + 1) (.v (qd x)) trivial (qb_add ht bx) (fun y hy => hl y (List.mem_cons_of_mem _ hy)) (by omega)
    have n1 := lt_mulI ht.1 (qb_n bx)
    have n2 := lt_mulI bx.1 (qb_n ht)
    rw [Nat.add_comm m k] at n2
    have c := cq (t.num * x.den + x.num * t.den) (t.den * x.den) (nb (sum_lt n1 n2).1 (by omega)) (Int.mul_pos (q_dp t) (q_dp x)) (b63 (lt_mulI (qb_n ht) (qb_n bx)) (by omega))
    rw [q_add] at c
    obtain ⟨h1, h2⟩ := added_b (C := C) (P := P) e (mul_bb ht.1 (by omega) (qb_n bx) (by omega)) (mul_bb bx.1 (by omega) (qb_n ht) (by omega)) (mul_bb (qb_n ht) (by omega) (qb_n bx) (by omega)) c
    refine ⟨s', e', ?_⟩
    rw [smQ, ← Rat.add_assoc, List.map_cons, ← h, y_forC]
    show (bindT (.nm 1) (.tuple [.int x.num, .int (x.den : Int)]) _).bind _ = _
    rw [h1, Option.bind_some, h2, x_turnN]
    rfl
theorem added_g {q : Nat} {P : D} {l : List D} {p r : Int} {s : Sl} (hP : P = .tuple l ∨ P = .list l) (h : forl (bindT (.nm 1)) (evSs C (K_added_b1 q)) l [.v P, .un, .v (.int 0), .v (.int 1)] = some (.nx [.v P, s, .v (.int p), .v (.int r)])) : runFn C (K_added q) [.v P] = some (.v (.tuple [.int p, .int r]), [.v P]) := by
  rw [y_run (by rfl)]
  rcases hP with rfl | rfl <;> simp -implicitDefEqProofs only [K_added, E.var?, y_con, y_varF, y_varT, y_glo, y_bin, y_neg, y_notT, y_notF, y_andT, y_andF, y_orT, y_orF, y_ite, y_cmp, y_chain, y_tup, y_lst, y_rep, y_idx, y_slice, y_rev, y_call, y_b1, y_b2, y_isI, y_lrng, y_compN, y_compS, y_esN, y_esC, y_rsN, y_rsC, y_asN, y_asV, y_asI, y_oN, y_oS, y_itS, y_it1, y_it2, y_asg, y_par, y_stp, y_unp, y_st, y_app, y_expr, y_iteS, y_for, y_retN, y_pass, y_brk, y_cont, y_raise, y_ssN, y_ssC, y_tasN, y_tasC, y_taN, y_taS, y_aug, y_augV, y_ret, y_retS, y_retE, y_enm, y_enmL, y_enmT, y_zip, y_zipL, y_zipT, y_ext, y_extO, y_seqL, y_seqT, y_nsN, y_nsC, y_tgN, y_tgT, y_tgL, y_tgsN, y_tgsC, y_forN, y_forC, y_cmN, y_cmC, y_wipN, y_wipC, y_wipU, y_wipV, y_bakN, y_bakC, y_chainE, y_chain3, y_chain3E, y_it3, y_nodN, y_ioL, y_ioR, y_argN, y_argL, y_argR, y_argO, y_argI, y_bkN, y_bkL, y_bkR, y_bkO, y_bkI, y_callE, y_outN, y_outR, x_op1, x_op2, x_opdS, x_opdN, x_getS, x_getV, x_slV, x_slO, x_slI, x_rd, x_rdV, x_rdO, x_asg, x_asgU, x_asgV, x_asgO, x_ret, x_retV, x_retO, x_put, x_putO, x_putI, x_add, x_adO, x_adI, x_own, x_ownO, x_ownI, x_base, x_finF, x_finT, x_asB, x_ofB, x_bindB, x_withE, x_dV, x_dO, x_sV, x_sO, x_seqN, x_seqR, x_seqB, x_seqC, x_turnN, x_turnC, x_turnB, x_turnR, x_add', x_sub', x_lt, x_le, x_gt, x_ge, x_eq, x_ne, x_is, x_isn, x_inn, x_nin, shaped_int, shaped_bool, shaped_none, x_eqI, x_eqN, x_eqB, x_eqT2, x_eqT3, x_sz1, x_sz2, x_sz3, x_sz4, x_sz5, x_sz6, truN, truB, truI, x_isNn, x_isNi, x_isNt, x_isNl, x_isIi, x_isIb, x_isBb, x_isBi, x_isTt, x_isLl, x_isTl, x_isLt, x_len, x_lenT, x_abs, x_int, x_intq, x_ixL, x_ixT, at_0, at_1, at_2, at_3, at_4, at_5, z_0, z_1, z_2, z_3, z_4, z_5, z_6, z_7, z_8, z_9, z_10, z_11, z_12, w_0, w_1, w_2, w_3, w_4, w_5, w_6, w_7, w_8, w_9, w_10, w_11, w_12, ix_1_0, ix_2_0, ix_2_1, ix_3_0, ix_3_1, ix_3_2, ix_4_0, ix_4_1, ix_4_2, ix_4_3, ix_5_0, ix_5_1, ix_5_2, ix_5_3, ix_5_4, ix_6_0, ix_6_1, ix_6_2, ix_6_3, ix_6_4, ix_6_5, ix_7_0, ix_7_1, ix_7_2, ix_7_3, ix_7_4, ix_7_5, ix_7_6, Option.map_some, Option.bind_some, Option.map_none, Option.bind_none, List.getElem?_cons_zero, List.getElem?_cons_succ, List.set_cons_zero, List.set_cons_succ, List.cons_append, List.nil_append, List.length_cons, List.length_nil, List.replicate, if_true, Bool.false_eq_true, if_false, reduceIte, Nat.reduceAdd, Nat.reduceSub, List.append_nil, List.take_succ_cons, List.take_zero, List.map_nil, Option.getD_some, decide_true, decide_false, List.nodup_nil, y_nod1, Bool.not_true, Bool.not_false, List.map_cons, ct_0, ct_1, ct_2, ct_3, ct_4, ct_5, ct_6, ct_7, ct_8, ct_9, ct_10, ct_11, ct_12, Bool.and_true, Bool.true_and, Bool.and_false, Bool.false_and, x_revL, x_revT, h]
theorem added_spec {q m : Nat} {P : D} {l : List Rat} (cq : QuOK C q) (hP : P = .tuple (l.map qd) ∨ P = .list (l.map qd)) (hl : ∀ x ∈ l, QB m x) (hk : 1 + (m + 1) * l.length ≤ 248) : runFn C (K_added q) [.v P] = some (.v (qd (smQ l)), [.v P]) := by
  obtain ⟨s', _, h⟩ := added_for (P := P) cq l 0 1 .un trivial (by unfold QB; decide +kernel) hl hk
  rw [Rat.zero_add] at h
  exact added_g hP h
theorem less_g {a b c d : Int} (m1 : mulOk a d = true) (m2 : mulOk c b = true) : runFn C K_less [.v (.tuple [.int a, .int b]), .v (.tuple [.int c, .int d])] = some (.v (.bool (decide (a * d < c * b))), [.v (.tuple [.int a, .int b]), .v (.tuple [.int c, .int d])]) := by
  rw [y_run (by rfl)]
  simp -implicitDefEqProofs only [K_less, E.var?, y_con, y_varF, y_varT, y_glo, y_bin, y_neg, y_notT, y_notF, y_andT, y_andF, y_orT, y_orF, y_ite, y_cmp, y_chain, y_tup, y_lst, y_rep, y_idx, y_slice, y_rev, y_call, y_b1, y_b2, y_isI, y_lrng, y_compN, y_compS, y_esN, y_esC, y_rsN, y_rsC, y_asN, y_asV, y_asI, y_oN, y_oS, y_itS, y_it1, y_it2, y_asg, y_par, y_stp, y_unp, y_st, y_app, y_expr, y_iteS, y_for, y_retN, y_pass, y_brk, y_cont, y_raise, y_ssN, y_ssC, y_tasN, y_tasC, y_taN, y_taS, y_aug, y_augV, y_ret, y_retS, y_retE, y_enm, y_enmL, y_enmT, y_zip, y_zipL, y_zipT, y_ext, y_extO, y_seqL, y_seqT, y_nsN, y_nsC, y_tgN, y_tgT, y_tgL, y_tgsN, y_tgsC, y_forN, y_forC, y_cmN, y_cmC, y_wipN, y_wipC, y_wipU, y_wipV, y_bakN, y_bakC, y_chainE, y_chain3, y_chain3E, y_it3, y_nodN, y_ioL, y_ioR, y_argN, y_argL, y_argR, y_argO, y_argI, y_bkN, y_bkL, y_bkR, y_bkO, y_bkI, y_callE, y_outN, y_outR, x_op1, x_op2, x_opdS, x_opdN, x_getS, x_getV, x_slV, x_slO, x_slI, x_rd, x_rdV, x_rdO, x_asg, x_asgU, x_asgV, x_asgO, x_ret, x_retV, x_retO, x_put, x_putO, x_putI, x_add, x_adO, x_adI, x_own, x_ownO, x_ownI, x_base, x_finF, x_finT, x_asB, x_ofB, x_bindB, x_withE, x_dV, x_dO, x_sV, x_sO, x_seqN, x_seqR, x_seqB, x_seqC, x_turnN, x_turnC, x_turnB, x_turnR, x_add', x_sub', x_lt, x_le, x_gt, x_ge, x_eq, x_ne, x_is, x_isn, x_inn, x_nin, shaped_int, shaped_bool, shaped_none, x_eqI, x_eqN, x_eqB, x_eqT2, x_eqT3, x_sz1, x_sz2, x_sz3, x_sz4, x_sz5, x_sz6, truN, truB, truI, x_isNn, x_isNi, x_isNt, x_isNl, x_isIi, x_isIb, x_isBb, x_isBi, x_isTt, x_isLl, x_isTl, x_isLt, x_len, x_lenT, x_abs, x_int, x_intq, x_ixL, x_ixT, at_0, at_1, at_2, at_3, at_4, at_5, z_0, z_1, z_2, z_3, z_4, z_5, z_6, z_7, z_8, z_9, z_10, z_11, z_12, w_0, w_1, w_2, w_3, w_4, w_5, w_6, w_7, w_8, w_9, w_10, w_11, w_12, ix_1_0, ix_2_0, ix_2_1, ix_3_0, ix_3_1, ix_3_2, ix_4_0, ix_4_1, ix_4_2, ix_4_3, ix_5_0, ix_5_1, ix_5_2, ix_5_3, ix_5_4, ix_6_0, ix_6_1, ix_6_2, ix_6_3, ix_6_4, ix_6_5, ix_7_0, ix_7_1, ix_7_2, ix_7_3, ix_7_4, ix_7_5, ix_7_6, Option.map_some, Option.bind_some, Option.map_none, Option.bind_none, List.getElem?_cons_zero, List.getElem?_cons_succ, List.set_cons_zero, List.set_cons_succ, List.cons_append, List.nil_append, List.length_cons, List.length_nil, List.replicate, if_true, Bool.false_eq_true, if_false, reduceIte, Nat.reduceAdd, Nat.reduceSub, List.append_nil, List.take_succ_cons, List.take_zero, List.map_nil, Option.getD_some, decide_true, decide_false, List.nodup_nil, y_nod1, Bool.not_true, Bool.not_false, List.map_cons, ct_0, ct_1, ct_2, ct_3, ct_4, ct_5, ct_6, ct_7, ct_8, ct_9, ct_10, ct_11, ct_12, Bool.and_true, Bool.true_and, Bool.and_false, Bool.false_and, x_revL, x_revT, x_mul' m1, x_mul' m2]
theorem less_spec {x y : Rat} {k l : Nat} (hx : QB k x) (hy : QB l y) (h : k + l ≤ 248) : runFn C K_less [.v (qd x), .v (qd y)] = some (.v (.bool (decide (x < y))), [.v (qd x), .v (qd y)]) := by
  have := less_g (C := C) (a := x.num) (b := x.den) (c := y.num) (d := y.den) (mul_bb hx.1 (by omega) (qb_n hy) (by omega)) (mul_bb hy.1 (by omega) (qb_n hx) (by omega))
  rw [decide_eq_decide.mpr (Rat.lt_iff x y)]
  exact this
end
def LeOK (C : CT) (i : Nat) : Prop := ∀ (x y : Rat) (k l : Nat), QB k x → QB l y → k + l ≤ 248 → C i [.v (qd x), .v (qd y)] = some (.v (.bool (decide (x < y))), [.v (qd x), .v (qd y)])
theorem zip_map {α β : Type} {f : α → D} {g : β → D} : ∀ (l : List α) (m : List β), zipL (l.map f) (m.map g) = (l.zip m).map fun p => .tuple [f p.1, g p.2]
  | [], _ => by simp [zipL]
  | _ :: _, [] => by simp [zipL]
  | x :: l, y :: m => by simp [zipL, zip_map l m]
theorem all_true {l : List D} (h : ∀ x ∈ l, x = .bool true) : b1R .all (.list l) = some (.v (.bool true)) := by
  have e : ∀ l : List D, (∀ x ∈ l, x = .bool true) → ∃ bs, boolsOf l = some bs ∧ bs.all id = true := by
    intro l
    induction l with
    | nil => intro _; exact ⟨[], rfl, rfl⟩
    | cons x l ih =>
      intro h
      obtain ⟨bs, h1, h2⟩ := ih fun y hy => h y (List.mem_cons_of_mem _ hy)
      rw [h x (List.mem_cons_self ..)]
      exact ⟨true :: bs, by simp [boolsOf, h1], by simpa using h2⟩
  obtain ⟨bs, h1, h2⟩ := e l h
  show (boolsOf l).map _ = _
  rw [h1, Option.map_some, h2]
instance {k : Nat} {x : Rat} : Decidable (QB k x) := by unfold QB; infer_instance
end KX

set_option maxRecDepth 100000
set_option maxHeartbeats 0
namespace L_k06
open PySem PySem.Spec PyProof.Rows L2 KX
def top (i : Nat) : Stmt := PySem.Challenge.pw_rodsandbeads_k06_quarter_squares_and_tri.main.body.getD i (.Pass ⟨0, 0, 0, 0⟩)
/-- 0: is_integer -/
def f_is_integer : Fn := { np := 1, ns := 1, body := (.cons (.ret (.and (.isI (.var 0) .int) (.not (.isI (.var 0) .bool)))) .nil) }
/-- 1: check_number -/
def f_check_number : Fn := { np := 2, ns := 2, body := (.cons (.ite (.or (.not (.call 0 (.val (.var 0) .nil) [])) (.not (.chain .le .le (.con (.int 0)) (.var 0) (.glo (PySem.Str.ofString "MAX_NUMBER") (.int 1000000000000))))) (.cons .raise .nil) .nil) .nil) }
/-- 2: quarter -/
def f_quarter : Fn := { np := 1, ns := 1, body := (.cons (.expr (.call 1 (.val (.var 0) (.val (.con (.str (PySem.Str.ofString "number"))) .nil)) [])) (.cons (.ret (.bin .fdiv (.bin .mul (.var 0) (.var 0)) (.con (.int 4)))) .nil)) }
/-- 3: table -/
def f_table_b1 : Ss := (.cons (.app 1 (.bin .add (.idx (.var 1) (.neg (.con (.int 1)))) (.bin .fdiv (.var 2) (.con (.int 2))))) .nil)
def f_table : Fn := { np := 1, ns := 3, body := (.cons (.ite (.or (.not (.call 0 (.val (.var 0) .nil) [])) (.not (.chain .le .le (.con (.int 0)) (.var 0) (.glo (PySem.Str.ofString "MAX_DOWN") (.int 1000))))) (.cons .raise .nil) .nil) (.cons (.asg 1 (.lst (.cons (.con (.int 0)) .nil))) (.cons (.for_ (.nm 2) (.r2 (.con (.int 1)) (.bin .add (.var 0) (.con (.int 1)))) f_table_b1) (.cons (.ret (.b1 .tup (.var 1))) .nil)))) }
/-- 4: is_table -/
def f_is_table_e1 : E := (.and (.call 0 (.val (.var 1) .nil) []) (.cmp .ge (.var 1) (.con (.int 0))))
def f_is_table : Fn := { np := 1, ns := 2, body := (.cons (.ite (.or (.not (.isI (.var 0) .tuple)) (.not (.chain .le .le (.con (.int 1)) (.b1 .len (.var 0)) (.bin .add (.glo (PySem.Str.ofString "MAX_DOWN") (.int 1000)) (.con (.int 1)))))) (.cons (.ret (.con (.bool false))) .nil) .nil) (.cons (.ret (.b1 .all (.comp f_is_table_e1 (.nm 1) (.seq (.var 0)) .none [1]))) .nil)) }
/-- 5: check_table -/
def f_check_table : Fn := { np := 1, ns := 1, body := (.cons (.ite (.not (.call 4 (.val (.var 0) .nil) [])) (.cons .raise .nil) .nil) .nil) }
/-- 6: entries -/
def f_entries : Fn := { np := 2, ns := 2, body := (.cons (.expr (.call 1 (.val (.var 0) (.val (.con (.str (PySem.Str.ofString "first"))) .nil)) [])) (.cons (.expr (.call 1 (.val (.var 1) (.val (.con (.str (PySem.Str.ofString "second"))) .nil)) [])) (.cons (.ret (.tup (.cons (.bin .add (.var 0) (.var 1)) (.cons (.b1 .abs (.bin .sub (.var 0) (.var 1))) .nil)))) .nil))) }
/-- 7: product_by -/
def f_product_by : Fn := { np := 3, ns := 5, body := (.cons (.expr (.call 5 (.val (.var 0) .nil) [])) (.cons (.unp (.tup (.cons (.nm 3) (.cons (.nm 4) .nil))) (.call 6 (.val (.var 1) (.val (.var 2) .nil)) [])) (.cons (.ret (.ite (.cmp .lt (.var 3) (.b1 .len (.var 0))) (.bin .sub (.idx (.var 0) (.var 3)) (.idx (.var 0) (.var 4))) (.con .none))) .nil))) }
/-- 8: judge_table -/
def f_judge_table_b1 : Ss := (.cons (.ite (.cmp .ne (.var 2) (.bin .fdiv (.bin .mul (.var 1) (.var 1)) (.con (.int 4)))) (.cons (.ret (.tup (.cons (.con (.str (PySem.Str.ofString "wrong"))) (.cons (.var 1) .nil)))) .nil) .nil) .nil)
def f_judge_table : Fn := { np := 1, ns := 3, body := (.cons (.expr (.call 5 (.val (.var 0) .nil) [])) (.cons (.for_ (.tup (.cons (.nm 1) (.cons (.nm 2) .nil))) (.enm (.var 0)) f_judge_table_b1) (.cons (.ret (.tup (.cons (.con (.str (PySem.Str.ofString "right"))) .nil))) .nil))) }
/-- 9: faults -/
def f_faults_e1 : E := (.tup (.cons (.var 1) (.cons (.bin .sub (.var 2) (.bin .fdiv (.bin .mul (.var 1) (.var 1)) (.con (.int 4)))) .nil)))
def f_faults : Fn := { np := 1, ns := 3, body := (.cons (.expr (.call 5 (.val (.var 0) .nil) [])) (.cons (.ret (.b1 .tup (.comp f_faults_e1 (.tup (.cons (.nm 1) (.cons (.nm 2) .nil))) (.enm (.var 0)) (.some (.cmp .ne (.var 2) (.bin .fdiv (.bin .mul (.var 1) (.var 1)) (.con (.int 4))))) [1, 2]))) .nil)) }
/-- 10: steps -/
def f_steps_e1 : E := (.bin .sub (.idx (.var 0) (.bin .add (.var 1) (.con (.int 1)))) (.idx (.var 0) (.var 1)))
def f_steps : Fn := { np := 1, ns := 2, body := (.cons (.expr (.call 5 (.val (.var 0) .nil) [])) (.cons (.ret (.b1 .tup (.comp f_steps_e1 (.nm 1) (.r1 (.bin .sub (.b1 .len (.var 0)) (.con (.int 1)))) .none [1]))) .nil)) }
/-- 11: bends -/
def f_bends_b1 : Ss := (.cons (.ite (.cmp .ne (.bin .add (.bin .sub (.idx (.var 0) (.bin .add (.var 2) (.con (.int 1)))) (.bin .mul (.con (.int 2)) (.idx (.var 0) (.var 2)))) (.idx (.var 0) (.bin .sub (.var 2) (.con (.int 1))))) (.bin .mod (.var 2) (.con (.int 2)))) (.cons (.app 1 (.var 2)) .nil) .nil) .nil)
def f_bends : Fn := { np := 1, ns := 3, body := (.cons (.expr (.call 5 (.val (.var 0) .nil) [])) (.cons (.asg 1 (.lst .nil)) (.cons (.for_ (.nm 2) (.r2 (.con (.int 1)) (.bin .sub (.b1 .len (.var 0)) (.con (.int 1)))) f_bends_b1) (.cons (.ret (.b1 .tup (.var 1))) .nil)))) }
/-- 12: spoilt -/
def f_spoilt_b1 : Ss := (.cons (.ite (.cmp .ne (.bin .sub (.idx (.var 0) (.bin .add (.var 3) (.var 4))) (.idx (.var 0) (.bin .sub (.var 3) (.var 4)))) (.bin .mul (.var 3) (.var 4))) (.cons (.app 2 (.tup (.cons (.var 3) (.cons (.var 4) .nil)))) .nil) .nil) .nil)
def f_spoilt_b2 : Ss := (.cons (.for_ (.nm 4) (.r1 (.bin .add (.var 3) (.con (.int 1)))) f_spoilt_b1) .nil)
def f_spoilt : Fn := { np := 2, ns := 5, body := (.cons (.expr (.call 5 (.val (.var 0) .nil) [])) (.cons (.ite (.or (.not (.call 0 (.val (.var 1) .nil) [])) (.not (.chain .le .le (.con (.int 0)) (.var 1) (.con (.int 40))))) (.cons .raise .nil) .nil) (.cons (.ite (.cmp .ge (.bin .mul (.con (.int 2)) (.var 1)) (.b1 .len (.var 0))) (.cons .raise .nil) .nil) (.cons (.asg 2 (.lst .nil)) (.cons (.for_ (.nm 3) (.r1 (.bin .add (.var 1) (.con (.int 1)))) f_spoilt_b2) (.cons (.ret (.b1 .tup (.var 2))) .nil)))))) }
/-- 13: one_fault -/
def f_one_fault_b1 : Ss := (.cons (.asg 4 (.call 14 (.val (.var 3) (.val (.var 1) .nil)) [])) (.cons (.ite (.cmp .eq (.var 4) (.b1 .lst (.var 2))) (.cons (.ret (.tup (.cons (.con (.str (PySem.Str.ofString "one"))) (.cons (.var 3) .nil)))) .nil) .nil) .nil))
def f_one_fault : Fn := { np := 2, ns := 5, body := (.cons (.asg 2 (.call 12 (.val (.var 0) (.val (.var 1) .nil)) [])) (.cons (.ite (.not (.var 2)) (.cons (.ret (.tup (.cons (.con (.str (PySem.Str.ofString "right"))) .nil))) .nil) .nil) (.cons (.for_ (.nm 3) (.r1 (.bin .add (.bin .mul (.con (.int 2)) (.var 1)) (.con (.int 1)))) f_one_fault_b1) (.cons (.ret (.tup (.cons (.con (.str (PySem.Str.ofString "more"))) .nil))) .nil)))) }
/-- 14: looks -/
def f_looks_b1 : Ss := (.cons (.ite (.cmp .ne (.cmp .eq (.bin .add (.var 3) (.var 4)) (.var 0)) (.cmp .eq (.bin .sub (.var 3) (.var 4)) (.var 0))) (.cons (.app 2 (.tup (.cons (.var 3) (.cons (.var 4) .nil)))) .nil) .nil) .nil)
def f_looks_b2 : Ss := (.cons (.for_ (.nm 4) (.r1 (.bin .add (.var 3) (.con (.int 1)))) f_looks_b1) .nil)
def f_looks : Fn := { np := 2, ns := 5, body := (.cons (.asg 2 (.lst .nil)) (.cons (.for_ (.nm 3) (.r1 (.bin .add (.var 1) (.con (.int 1)))) f_looks_b2) (.cons (.ret (.var 2)) .nil))) }
/-- 15: by_triangles -/
def f_by_triangles : Fn := { np := 2, ns := 2, body := (.cons (.expr (.call 1 (.val (.var 0) (.val (.con (.str (PySem.Str.ofString "first"))) .nil)) [])) (.cons (.expr (.call 1 (.val (.var 1) (.val (.con (.str (PySem.Str.ofString "second"))) .nil)) [])) (.cons (.ite (.or (.cmp .lt (.var 1) (.con (.int 1))) (.cmp .lt (.var 0) (.var 1))) (.cons .raise .nil) .nil) (.cons (.ret (.tup (.cons (.var 0) (.cons (.bin .sub (.var 1) (.con (.int 1))) (.cons (.bin .sub (.var 0) (.var 1)) .nil))))) .nil)))) }
/-- 16: triangular -/
def f_triangular : Fn := { np := 1, ns := 1, body := (.cons (.expr (.call 1 (.val (.var 0) (.val (.con (.str (PySem.Str.ofString "number"))) .nil)) [])) (.cons (.ret (.bin .fdiv (.bin .mul (.var 0) (.bin .add (.var 0) (.con (.int 1)))) (.con (.int 2)))) .nil)) }
/-- 17: shortest -/
def f_shortest : Fn := { np := 2, ns := 2, body := (.cons (.expr (.call 1 (.val (.var 0) (.val (.con (.str (PySem.Str.ofString "first"))) .nil)) [])) (.cons (.expr (.call 1 (.val (.var 1) (.val (.con (.str (PySem.Str.ofString "second"))) .nil)) [])) (.cons (.ret (.tup (.cons (.bin .add (.bin .add (.var 0) (.var 1)) (.con (.int 1))) (.cons (.bin .add (.b2 .max (.var 0) (.var 1)) (.con (.int 1))) .nil)))) .nil))) }
/-- 18: mended -/
def f_mended_e1 : E := (.bin .fdiv (.bin .mul (.var 2) (.var 2)) (.con (.int 4)))
def f_mended : Fn := { np := 1, ns := 3, body := (.cons (.asg 1 (.call 9 (.val (.var 0) .nil) [])) (.cons (.ret (.tup (.cons (.b1 .tup (.comp f_mended_e1 (.nm 2) (.r1 (.b1 .len (.var 0))) .none [2])) (.cons (.b1 .len (.var 1)) .nil)))) .nil)) }
/-- 19: _law_start -/
def f__law_start_b1 : Ss := (.cons (.asg 1 (.bin .add (.bin .mod (.b1 .int (.bin .add (.bin .mul (.var 1) (.con (.int 48271))) (.var 2))) (.con (.int 2147483629))) (.con (.int 1)))) .nil)
def f__law_start_e1 : E := (.b1 .abs (.b1 .int (.var 2)))
def f__law_start : Fn := { np := 1, ns := 3, body := (.cons (.asg 1 (.con (.int 7))) (.cons (.for_ (.nm 2) (.seq (.slice (.var 0) .none (.some (.con (.int 63))))) f__law_start_b1) (.cons (.ret (.lst (.cons (.comp f__law_start_e1 (.nm 2) (.seq (.slice (.var 0) .none (.some (.con (.int 63))))) .none [2]) (.cons (.con (.int 0)) (.cons (.con (.int 0)) (.cons (.con (.int 0)) (.cons (.var 1) (.cons (.con (.int 0)) .nil)))))))) .nil))) }
/-- 20: _law_draw -/
def f__law_draw : Fn := { np := 2, ns := 3, body := (.cons (.ite (.and (.cmp .eq (.idx (.var 0) (.con (.int 3))) (.con (.int 0))) (.cmp .lt (.idx (.var 0) (.con (.int 1))) (.b1 .len (.idx (.var 0) (.con (.int 0)))))) (.cons (.stp [.sub 0 (.con (.int 2)), .sub 0 (.con (.int 3)), .sub 0 (.con (.int 1))] (.cons (.idx (.idx (.var 0) (.con (.int 0))) (.idx (.var 0) (.con (.int 1)))) (.cons (.con (.int 60)) (.cons (.bin .add (.idx (.var 0) (.con (.int 1))) (.con (.int 1))) .nil)))) .nil) .nil) (.cons (.ite (.cmp .gt (.idx (.var 0) (.con (.int 3))) (.con (.int 0))) (.cons (.asg 2 (.bin .mod (.b1 .int (.idx (.var 0) (.con (.int 2)))) (.var 1))) (.cons (.st 0 (.con (.int 2)) (.bin .fdiv (.idx (.var 0) (.con (.int 2))) (.var 1))) (.cons (.st 0 (.con (.int 3)) (.ite (.cmp .gt (.idx (.var 0) (.con (.int 2))) (.con (.int 0))) (.bin .sub (.idx (.var 0) (.con (.int 3))) (.con (.int 1))) (.con (.int 0)))) (.cons (.ret (.var 2)) .nil)))) .nil) (.cons (.st 0 (.con (.int 5)) (.bin .add (.idx (.var 0) (.con (.int 5))) (.con (.int 1)))) (.cons (.st 0 (.con (.int 4)) (.bin .mod (.b1 .int (.bin .add (.bin .add (.bin .mul (.idx (.var 0) (.con (.int 4))) (.con (.int 48271))) (.bin .mul (.bin .mul (.idx (.var 0) (.con (.int 5))) (.idx (.var 0) (.con (.int 5)))) (.con (.int 69621)))) (.con (.int 11)))) (.con (.int 2147483647)))) (.cons (.ret (.bin .mod (.b1 .int (.bin .fdiv (.idx (.var 0) (.con (.int 4))) (.con (.int 13)))) (.var 1))) .nil))))) }
/-- 21: _law_bad -/
def f__law_bad_e1 : E := (.tup (.cons (.var 3) (.cons (.var 4) .nil)))
def f__law_bad_b1 : Ss := (.cons (.ext 2 (.comp f__law_bad_e1 (.nm 4) (.r1 (.bin .add (.var 3) (.con (.int 1)))) (.some (.cmp .ne (.cmp .eq (.bin .add (.var 3) (.var 4)) (.var 1)) (.cmp .eq (.bin .sub (.var 3) (.var 4)) (.var 1)))) [4])) .nil)
def f__law_bad : Fn := { np := 2, ns := 5, body := (.cons (.asg 2 (.lst .nil)) (.cons (.for_ (.nm 3) (.r1 (.bin .add (.var 0) (.con (.int 1)))) f__law_bad_b1) (.cons (.ret (.var 2)) .nil))) }
/-- 22: _law_squares_hold -/
def f__law_squares_hold_e1 : E := (.bin .fdiv (.bin .add (.var 18) (.con (.int 1))) (.con (.int 2)))
def f__law_squares_hold_e2 : E := (.bin .fdiv (.bin .mul (.var 18) (.var 18)) (.con (.int 4)))
def f__law_squares_hold : Fn := { np := 1, ns := 19, body := (.cons (.par [6, 7, 8] (.cons (.call 20 (.io 0 (.val (.con (.int 300)) .nil)) []) (.cons (.call 20 (.io 0 (.val (.con (.int 300)) .nil)) []) (.cons (.bin .add (.con (.int 8)) (.call 20 (.io 0 (.val (.con (.int 30)) .nil)) [])) .nil)))) (.cons (.unp (.tup (.cons (.nm 9) (.cons (.nm 10) .nil))) (.call 6 (.val (.var 6) (.val (.var 7) .nil)) [])) (.cons (.ite (.or (.cmp .ne (.tup (.cons (.var 9) (.cons (.var 10) .nil))) (.tup (.cons (.bin .add (.var 6) (.var 7)) (.cons (.b1 .abs (.bin .sub (.var 6) (.var 7))) .nil)))) (.or (.cmp .ne (.bin .sub (.call 2 (.val (.var 9) .nil) []) (.call 2 (.val (.var 10) .nil) [])) (.bin .mul (.var 6) (.var 7))) (.cmp .ne (.bin .add (.call 16 (.val (.var 6) .nil) []) (.call 16 (.val (.bin .add (.var 6) (.con (.int 1))) .nil) [])) (.bin .mul (.bin .add (.var 6) (.con (.int 1))) (.bin .add (.var 6) (.con (.int 1))))))) (.cons (.ret (.con (.bool false))) .nil) .nil) (.cons (.ite (.or (.cmp .ne (.call 2 (.val (.bin .add (.var 6) (.con (.int 2))) .nil) []) (.bin .add (.bin .add (.call 2 (.val (.var 6) .nil) []) (.var 6)) (.con (.int 1)))) (.or (.cmp .ne (.call 16 (.val (.bin .add (.var 6) (.var 7)) .nil) []) (.bin .add (.bin .add (.call 16 (.val (.var 6) .nil) []) (.call 16 (.val (.var 7) .nil) [])) (.bin .mul (.var 6) (.var 7)))) (.cmp .ne (.call 2 (.val (.bin .mul (.con (.int 2)) (.var 6)) .nil) []) (.bin .mul (.var 6) (.var 6))))) (.cons (.ret (.con (.bool false))) .nil) .nil) (.cons (.ite (.and (.var 7) (.cmp .ge (.var 6) (.var 7))) (.cons (.unp (.tup (.cons (.nm 15) (.cons (.nm 16) (.cons (.nm 17) .nil)))) (.call 15 (.val (.var 6) (.val (.var 7) .nil)) [])) (.cons (.ite (.or (.cmp .ne (.bin .sub (.bin .add (.call 16 (.val (.var 15) .nil) []) (.call 16 (.val (.var 16) .nil) [])) (.call 16 (.val (.var 17) .nil) [])) (.bin .mul (.var 6) (.var 7))) (.cmp .ne (.tup (.cons (.var 15) (.cons (.var 16) (.cons (.var 17) .nil)))) (.tup (.cons (.var 6) (.cons (.bin .sub (.var 7) (.con (.int 1))) (.cons (.bin .sub (.var 6) (.var 7)) .nil)))))) (.cons (.ret (.con (.bool false))) .nil) .nil) .nil)) .nil) (.cons (.asg 1 (.call 3 (.val (.var 8) .nil) [])) (.cons (.ite (.or (.cmp .ne (.var 1) (.b1 .tup (.comp f__law_squares_hold_e2 (.nm 18) (.r1 (.bin .add (.var 8) (.con (.int 1)))) .none [18]))) (.or (.cmp .ne (.call 8 (.val (.var 1) .nil) []) (.tup (.cons (.con (.str (PySem.Str.ofString "right"))) .nil))) (.or (.cmp .ne (.call 11 (.val (.var 1) .nil) []) (.tup .nil)) (.cmp .ne (.call 10 (.val (.var 1) .nil) []) (.b1 .tup (.comp f__law_squares_hold_e1 (.nm 18) (.r1 (.var 8)) .none [18])))))) (.cons (.ret (.con (.bool false))) .nil) .nil) (.cons (.par [11, 12] (.cons (.call 20 (.io 0 (.val (.bin .add (.var 8) (.con (.int 1))) .nil)) []) (.cons (.bin .add (.con (.int 1)) (.call 20 (.io 0 (.val (.con (.int 3)) .nil)) [])) .nil))) (.cons (.asg 2 (.bin .add (.bin .add (.slice (.var 1) .none (.some (.var 11))) (.tup (.cons (.bin .add (.idx (.var 1) (.var 11)) (.var 12)) .nil))) (.slice (.var 1) (.some (.bin .add (.var 11) (.con (.int 1)))) .none))) (.cons (.asg 3 (.bin .fdiv (.var 8) (.con (.int 2)))) (.cons (.ite (.or (.cmp .ne (.call 18 (.val (.var 2) .nil) []) (.tup (.cons (.var 1) (.cons (.con (.int 1)) .nil)))) (.cmp .ne (.call 8 (.val (.var 2) .nil) []) (.tup (.cons (.con (.str (PySem.Str.ofString "wrong"))) (.cons (.var 11) .nil))))) (.cons (.ret (.con (.bool false))) .nil) .nil) (.cons (.asg 4 (.call 21 (.val (.var 3) (.val (.var 11) .nil)) [])) (.cons (.ite (.or (.cmp .ne (.call 12 (.val (.var 2) (.val (.var 3) .nil)) []) (.b1 .tup (.var 4))) (.cmp .ne (.call 13 (.val (.var 2) (.val (.var 3) .nil)) []) (.ite (.var 4) (.tup (.cons (.con (.str (PySem.Str.ofString "one"))) (.cons (.var 11) .nil))) (.tup (.cons (.con (.str (PySem.Str.ofString "right"))) .nil))))) (.cons (.ret (.con (.bool false))) .nil) .nil) (.cons (.par [13, 14] (.cons (.call 20 (.io 0 (.val (.bin .add (.var 3) (.con (.int 1))) .nil)) []) (.cons (.call 20 (.io 0 (.val (.bin .add (.var 3) (.con (.int 1))) .nil)) []) .nil))) (.cons (.asg 5 (.bin .sub (.ite (.cmp .eq (.bin .add (.var 13) (.var 14)) (.var 11)) (.var 12) (.con (.int 0))) (.ite (.cmp .eq (.b1 .abs (.bin .sub (.var 13) (.var 14))) (.var 11)) (.var 12) (.con (.int 0))))) (.cons (.ite (.or (.cmp .ne (.call 7 (.val (.var 1) (.val (.var 13) (.val (.var 14) .nil))) []) (.bin .mul (.var 13) (.var 14))) (.cmp .ne (.call 7 (.val (.var 2) (.val (.var 13) (.val (.var 14) .nil))) []) (.bin .add (.bin .mul (.var 13) (.var 14)) (.var 5)))) (.cons (.ret (.con (.bool false))) .nil) .nil) (.cons (.ret (.cmp .eq (.call 17 (.val (.var 6) (.val (.var 7) .nil)) []) (.tup (.cons (.bin .add (.bin .add (.var 6) (.var 7)) (.con (.int 1))) (.cons (.bin .add (.b1 .max (.lst (.cons (.var 6) (.cons (.var 7) .nil)))) (.con (.int 1))) .nil))))) .nil))))))))))))))))) }
/-- 23: law -/
def f_law_b1 : Ss := (.cons (.ite (.not (.call 22 (.io 1 .nil) [])) (.cons (.ret (.con (.bool false))) .nil) .nil) .nil)
def f_law : Fn := { np := 1, ns := 3, body := (.cons (.asg 1 (.call 19 (.val (.var 0) .nil) [])) (.cons (.for_ (.nm 2) (.r1 (.con (.int 5))) f_law_b1) (.cons (.ret (.con (.bool true))) .nil))) }
def T : List Fn := [f_is_integer, f_check_number, f_quarter, f_table, f_is_table, f_check_table, f_entries, f_product_by, f_judge_table, f_faults, f_steps, f_bends, f_spoilt, f_one_fault, f_looks, f_by_triangles, f_triangular, f_shortest, f_mended, f__law_start, f__law_draw, f__law_bad, f__law_squares_hold, f_law]
def d_is_integer : He.DefD := ⟨("is_integer", none), "is_integer", "is_integer", defArgs (top 4), defBody (top 4), defScope (top 4), [], []⟩
def F_is_integer : FD := ⟨d_is_integer, ["value"], [], f_is_integer⟩
def d_check_number : He.DefD := ⟨("check_number", none), "check_number", "check_number", defArgs (top 8), defBody (top 8), defScope (top 8), [], []⟩
def F_check_number : FD := ⟨d_check_number, ["number", "reason"], [], f_check_number⟩
def d_quarter : He.DefD := ⟨("quarter", none), "quarter", "quarter", defArgs (top 9), defBody (top 9), defScope (top 9), [], []⟩
def F_quarter : FD := ⟨d_quarter, ["number"], [], f_quarter⟩
def d_table : He.DefD := ⟨("table", none), "table", "table", defArgs (top 10), defBody (top 10), defScope (top 10), [], []⟩
def F_table : FD := ⟨d_table, ["most", "found", "number"], [], f_table⟩
def d_is_table : He.DefD := ⟨("is_table", none), "is_table", "is_table", defArgs (top 11), defBody (top 11), defScope (top 11), [], []⟩
def F_is_table : FD := ⟨d_is_table, ["value", "entry"], [], f_is_table⟩
def d_check_table : He.DefD := ⟨("check_table", none), "check_table", "check_table", defArgs (top 12), defBody (top 12), defScope (top 12), [], []⟩
def F_check_table : FD := ⟨d_check_table, ["rows"], [], f_check_table⟩
def d_entries : He.DefD := ⟨("entries", none), "entries", "entries", defArgs (top 13), defBody (top 13), defScope (top 13), [], []⟩
def F_entries : FD := ⟨d_entries, ["first", "second"], [], f_entries⟩
def d_product_by : He.DefD := ⟨("product_by", none), "product_by", "product_by", defArgs (top 14), defBody (top 14), defScope (top 14), [], []⟩
def F_product_by : FD := ⟨d_product_by, ["rows", "first", "second", "one", "other"], [], f_product_by⟩
def d_judge_table : He.DefD := ⟨("judge_table", none), "judge_table", "judge_table", defArgs (top 15), defBody (top 15), defScope (top 15), [], []⟩
def F_judge_table : FD := ⟨d_judge_table, ["rows", "at", "entry"], [], f_judge_table⟩
def d_faults : He.DefD := ⟨("faults", none), "faults", "faults", defArgs (top 16), defBody (top 16), defScope (top 16), [], []⟩
def F_faults : FD := ⟨d_faults, ["rows", "at", "entry"], [], f_faults⟩
def d_steps : He.DefD := ⟨("steps", none), "steps", "steps", defArgs (top 17), defBody (top 17), defScope (top 17), [], []⟩
def F_steps : FD := ⟨d_steps, ["rows", "at"], [], f_steps⟩
def d_bends : He.DefD := ⟨("bends", none), "bends", "bends", defArgs (top 18), defBody (top 18), defScope (top 18), [], []⟩
def F_bends : FD := ⟨d_bends, ["rows", "found", "at"], [], f_bends⟩
def d_spoilt : He.DefD := ⟨("spoilt", none), "spoilt", "spoilt", defArgs (top 19), defBody (top 19), defScope (top 19), [], []⟩
def F_spoilt : FD := ⟨d_spoilt, ["rows", "most", "found", "first", "second"], [], f_spoilt⟩
def d_one_fault : He.DefD := ⟨("one_fault", none), "one_fault", "one_fault", defArgs (top 20), defBody (top 20), defScope (top 20), [], []⟩
def F_one_fault : FD := ⟨d_one_fault, ["rows", "most", "wrong", "at", "looked"], [], f_one_fault⟩
def d_looks : He.DefD := ⟨("looks", none), "looks", "looks", defArgs (top 21), defBody (top 21), defScope (top 21), [], []⟩
def F_looks : FD := ⟨d_looks, ["at", "most", "found", "first", "second"], [], f_looks⟩
def d_by_triangles : He.DefD := ⟨("by_triangles", none), "by_triangles", "by_triangles", defArgs (top 22), defBody (top 22), defScope (top 22), [], []⟩
def F_by_triangles : FD := ⟨d_by_triangles, ["first", "second"], [], f_by_triangles⟩
def d_triangular : He.DefD := ⟨("triangular", none), "triangular", "triangular", defArgs (top 23), defBody (top 23), defScope (top 23), [], []⟩
def F_triangular : FD := ⟨d_triangular, ["number"], [], f_triangular⟩
def d_shortest : He.DefD := ⟨("shortest", none), "shortest", "shortest", defArgs (top 24), defBody (top 24), defScope (top 24), [], []⟩
def F_shortest : FD := ⟨d_shortest, ["first", "second"], [], f_shortest⟩
def d_mended : He.DefD := ⟨("mended", none), "mended", "mended", defArgs (top 25), defBody (top 25), defScope (top 25), [], []⟩
def F_mended : FD := ⟨d_mended, ["rows", "found", "at"], [], f_mended⟩
def d__law_start : He.DefD := ⟨("_law_start", none), "_law_start", "_law_start", defArgs (top 27), defBody (top 27), defScope (top 27), [], []⟩
def F__law_start : FD := ⟨d__law_start, ["script", "seed", "cell"], [], f__law_start⟩
def d__law_draw : He.DefD := ⟨("_law_draw", none), "_law_draw", "_law_draw", defArgs (top 28), defBody (top 28), defScope (top 28), [], []⟩
def F__law_draw : FD := ⟨d__law_draw, ["state", "many", "found"], [], f__law_draw⟩
def d__law_bad : He.DefD := ⟨("_law_bad", none), "_law_bad", "_law_bad", defArgs (top 29), defBody (top 29), defScope (top 29), [], []⟩
def F__law_bad : FD := ⟨d__law_bad, ["half", "at", "found", "a", "b"], [], f__law_bad⟩
def d__law_squares_hold : He.DefD := ⟨("_law_squares_hold", none), "_law_squares_hold", "_law_squares_hold", defArgs (top 30), defBody (top 30), defScope (top 30), [], []⟩
def F__law_squares_hold : FD := ⟨d__law_squares_hold, ["state", "rows", "wrong", "half", "bad", "gained", "one", "other", "most", "whole", "gap", "at", "more", "first", "second", "a", "b", "c", "k"], [], f__law_squares_hold⟩
def d_law : He.DefD := ⟨("law", none), "law", "law", defArgs (top 31), defBody (top 31), defScope (top 31), [], []⟩
def F_law : FD := ⟨d_law, ["script", "state", "turn"], [], f_law⟩
def Fs : List FD := [F_is_integer, F_check_number, F_quarter, F_table, F_is_table, F_check_table, F_entries, F_product_by, F_judge_table, F_faults, F_steps, F_bends, F_spoilt, F_one_fault, F_looks, F_by_triangles, F_triangular, F_shortest, F_mended, F__law_start, F__law_draw, F__law_bad, F__law_squares_hold, F_law]
def bl : List Str := ["abs", "all", "bool", "enumerate", "int", "isinstance", "len", "list", "max", "range", "tuple"]
def cs : List (Str × D) := [("MAX_DOWN", (.int 1000)), ("MAX_NUMBER", (.int 1000000000000))]
theorem ok_is_integer (C : CT) : okSs (sgC Fs bl cs C F_is_integer) F_is_integer.fn.body F_is_integer.d.body = true := by kernel_rfl
theorem ok_check_number (C : CT) : okSs (sgC Fs bl cs C F_check_number) F_check_number.fn.body F_check_number.d.body = true := by kernel_rfl
theorem ok_quarter (C : CT) : okSs (sgC Fs bl cs C F_quarter) F_quarter.fn.body F_quarter.d.body = true := by kernel_rfl
theorem ok_table (C : CT) : okSs (sgC Fs bl cs C F_table) F_table.fn.body F_table.d.body = true := by kernel_rfl
theorem ok_is_table (C : CT) : okSs (sgC Fs bl cs C F_is_table) F_is_table.fn.body F_is_table.d.body = true := by kernel_rfl
theorem ok_check_table (C : CT) : okSs (sgC Fs bl cs C F_check_table) F_check_table.fn.body F_check_table.d.body = true := by kernel_rfl
theorem ok_entries (C : CT) : okSs (sgC Fs bl cs C F_entries) F_entries.fn.body F_entries.d.body = true := by kernel_rfl
theorem ok_product_by (C : CT) : okSs (sgC Fs bl cs C F_product_by) F_product_by.fn.body F_product_by.d.body = true := by kernel_rfl
theorem ok_judge_table (C : CT) : okSs (sgC Fs bl cs C F_judge_table) F_judge_table.fn.body F_judge_table.d.body = true := by kernel_rfl
theorem ok_faults (C : CT) : okSs (sgC Fs bl cs C F_faults) F_faults.fn.body F_faults.d.body = true := by kernel_rfl
theorem ok_steps (C : CT) : okSs (sgC Fs bl cs C F_steps) F_steps.fn.body F_steps.d.body = true := by kernel_rfl
theorem ok_bends (C : CT) : okSs (sgC Fs bl cs C F_bends) F_bends.fn.body F_bends.d.body = true := by kernel_rfl
theorem ok_spoilt (C : CT) : okSs (sgC Fs bl cs C F_spoilt) F_spoilt.fn.body F_spoilt.d.body = true := by kernel_rfl
theorem ok_one_fault (C : CT) : okSs (sgC Fs bl cs C F_one_fault) F_one_fault.fn.body F_one_fault.d.body = true := by kernel_rfl
theorem ok_looks (C : CT) : okSs (sgC Fs bl cs C F_looks) F_looks.fn.body F_looks.d.body = true := by kernel_rfl
theorem ok_by_triangles (C : CT) : okSs (sgC Fs bl cs C F_by_triangles) F_by_triangles.fn.body F_by_triangles.d.body = true := by kernel_rfl
theorem ok_triangular (C : CT) : okSs (sgC Fs bl cs C F_triangular) F_triangular.fn.body F_triangular.d.body = true := by kernel_rfl
theorem ok_shortest (C : CT) : okSs (sgC Fs bl cs C F_shortest) F_shortest.fn.body F_shortest.d.body = true := by kernel_rfl
theorem ok_mended (C : CT) : okSs (sgC Fs bl cs C F_mended) F_mended.fn.body F_mended.d.body = true := by kernel_rfl
theorem ok__law_start (C : CT) : okSs (sgC Fs bl cs C F__law_start) F__law_start.fn.body F__law_start.d.body = true := by kernel_rfl
theorem ok__law_draw (C : CT) : okSs (sgC Fs bl cs C F__law_draw) F__law_draw.fn.body F__law_draw.d.body = true := by kernel_rfl
theorem ok__law_bad (C : CT) : okSs (sgC Fs bl cs C F__law_bad) F__law_bad.fn.body F__law_bad.d.body = true := by kernel_rfl
theorem ok__law_squares_hold (C : CT) : okSs (sgC Fs bl cs C F__law_squares_hold) F__law_squares_hold.fn.body F__law_squares_hold.d.body = true := by kernel_rfl
theorem ok_law (C : CT) : okSs (sgC Fs bl cs C F_law) F_law.fn.body F_law.d.body = true := by kernel_rfl
theorem text : TextOK Fs bl cs T := ⟨rfl, by decide +kernel, fun C f hf => by
  simp only [Fs, List.mem_cons, List.not_mem_nil, or_false] at hf
  rcases hf with rfl | rfl | rfl | rfl | rfl | rfl | rfl | rfl | rfl | rfl | rfl | rfl | rfl | rfl | rfl | rfl | rfl | rfl | rfl | rfl | rfl | rfl | rfl | rfl
  · exact ok_is_integer C
  · exact ok_check_number C
  · exact ok_quarter C
  · exact ok_table C
  · exact ok_is_table C
  · exact ok_check_table C
  · exact ok_entries C
  · exact ok_product_by C
  · exact ok_judge_table C
  · exact ok_faults C
  · exact ok_steps C
  · exact ok_bends C
  · exact ok_spoilt C
  · exact ok_one_fault C
  · exact ok_looks C
  · exact ok_by_triangles C
  · exact ok_triangular C
  · exact ok_shortest C
  · exact ok_mended C
  · exact ok__law_start C
  · exact ok__law_draw C
  · exact ok__law_bad C
  · exact ok__law_squares_hold C
  · exact ok_law C⟩
def fn : List He.DefD := [d_is_integer, d_check_number, d_quarter, d_table, d_is_table, d_check_table, d_entries, d_product_by, d_judge_table, d_faults, d_steps, d_bends, d_spoilt, d_one_fault, d_looks, d_by_triangles, d_triangular, d_shortest, d_mended, d__law_start, d__law_draw, d__law_bad, d__law_squares_hold, d_law]
def fa : List He.Fa := [.glo "is_integer", .glo "check_number", .glo "quarter", .glo "table", .glo "is_table", .glo "check_table", .glo "entries", .glo "product_by", .glo "judge_table", .glo "faults", .glo "steps", .glo "bends", .glo "spoilt", .glo "one_fault", .glo "looks", .glo "by_triangles", .glo "triangular", .glo "shortest", .glo "mended", .glo "_law_start", .glo "_law_draw", .glo "_law_bad", .glo "_law_squares_hold", .glo "law", .free "abs", .free "all", .free "bool", .free "enumerate", .free "int", .free "isinstance", .free "len", .free "list", .free "max", .free "range", .free "tuple", .int "MAX_DOWN" 1000, .int "MAX_NUMBER" 1000000000000]
abbrev R : PySem.W.OpenRow := PySem.W.OpenLaw.row PySem.Challenge.rw_rodsandbeads_k06_quarter_squares_and_tri
abbrev hk : PySem.W.Hook := He.hookD 4 fa fn
def ob (s : PySem.W.SharedT) : He.AlD := He.obsDG 4 fa fn (HandSHeadRun.getT s)
theorem ob_eq (s : PySem.W.SharedT) : ob s = hk.obs s.abs := He.obsDG_eq (HandSHeadRun.getT_eq s)
theorem run (w : World) : HandSHeadRun.RunEq R (PySem.W.view R.prog [31]) hk ob 2000 ["ReckonError", "ArgumentError", "is_integer", "MAX_NUMBER", "MAX_DOWN", "check_number", "quarter", "table", "is_table", "check_table", "entries", "product_by", "judge_table", "faults", "steps", "bends", "spoilt", "one_fault", "looks", "by_triangles", "triangular", "shortest", "mended", "_law_start", "_law_draw", "_law_bad", "_law_squares_hold"] w := by
  intro os
  kernel_rfl
theorem facts {K : PySem.W.Frag} {h : Heap} {mg : Str → Option Value} (X : K.In h) (G : h.Ns mainGlobals mg) (c : He.SaysD fa fn K) : HeadOK K mg Fs bl cs where
  ff := fun f hf => by
    simp only [Fs, List.mem_cons, List.not_mem_nil, or_false] at hf
    rcases hf with rfl | rfl | rfl | rfl | rfl | rfl | rfl | rfl | rfl | rfl | rfl | rfl | rfl | rfl | rfl | rfl | rfl | rfl | rfl | rfl | rfl | rfl | rfl | rfl
    · obtain ⟨fd, F⟩ := c.def_ 0 (d := d_is_integer) rfl
      exact ⟨_, fd, FF.of0 (f := F_is_integer) (He.glo_ok X G (c.fact 0 (f := .glo "is_integer") rfl)) F rfl rfl rfl fun _ _ _ _ _ _ us hl => match us, hl with | [_], _ => rfl⟩
    · obtain ⟨fd, F⟩ := c.def_ 1 (d := d_check_number) rfl
      exact ⟨_, fd, FF.of0 (f := F_check_number) (He.glo_ok X G (c.fact 1 (f := .glo "check_number") rfl)) F rfl rfl rfl fun _ _ _ _ _ _ us hl => match us, hl with | [_, _], _ => rfl⟩
    · obtain ⟨fd, F⟩ := c.def_ 2 (d := d_quarter) rfl
      exact ⟨_, fd, FF.of0 (f := F_quarter) (He.glo_ok X G (c.fact 2 (f := .glo "quarter") rfl)) F rfl rfl rfl fun _ _ _ _ _ _ us hl => match us, hl with | [_], _ => rfl⟩
    · obtain ⟨fd, F⟩ := c.def_ 3 (d := d_table) rfl
      exact ⟨_, fd, FF.of0 (f := F_table) (He.glo_ok X G (c.fact 3 (f := .glo "table") rfl)) F rfl rfl rfl fun _ _ _ _ _ _ us hl => match us, hl with | [_], _ => rfl⟩
    · obtain ⟨fd, F⟩ := c.def_ 4 (d := d_is_table) rfl
      exact ⟨_, fd, FF.of0 (f := F_is_table) (He.glo_ok X G (c.fact 4 (f := .glo "is_table") rfl)) F rfl rfl rfl fun _ _ _ _ _ _ us hl => match us, hl with | [_], _ => rfl⟩
    · obtain ⟨fd, F⟩ := c.def_ 5 (d := d_check_table) rfl
      exact ⟨_, fd, FF.of0 (f := F_check_table) (He.glo_ok X G (c.fact 5 (f := .glo "check_table") rfl)) F rfl rfl rfl fun _ _ _ _ _ _ us hl => match us, hl with | [_], _ => rfl⟩
    · obtain ⟨fd, F⟩ := c.def_ 6 (d := d_entries) rfl
      exact ⟨_, fd, FF.of0 (f := F_entries) (He.glo_ok X G (c.fact 6 (f := .glo "entries") rfl)) F rfl rfl rfl fun _ _ _ _ _ _ us hl => match us, hl with | [_, _], _ => rfl⟩
    · obtain ⟨fd, F⟩ := c.def_ 7 (d := d_product_by) rfl
      exact ⟨_, fd, FF.of0 (f := F_product_by) (He.glo_ok X G (c.fact 7 (f := .glo "product_by") rfl)) F rfl rfl rfl fun _ _ _ _ _ _ us hl => match us, hl with | [_, _, _], _ => rfl⟩
    · obtain ⟨fd, F⟩ := c.def_ 8 (d := d_judge_table) rfl
      exact ⟨_, fd, FF.of0 (f := F_judge_table) (He.glo_ok X G (c.fact 8 (f := .glo "judge_table") rfl)) F rfl rfl rfl fun _ _ _ _ _ _ us hl => match us, hl with | [_], _ => rfl⟩
    · obtain ⟨fd, F⟩ := c.def_ 9 (d := d_faults) rfl
      exact ⟨_, fd, FF.of0 (f := F_faults) (He.glo_ok X G (c.fact 9 (f := .glo "faults") rfl)) F rfl rfl rfl fun _ _ _ _ _ _ us hl => match us, hl with | [_], _ => rfl⟩
    · obtain ⟨fd, F⟩ := c.def_ 10 (d := d_steps) rfl
      exact ⟨_, fd, FF.of0 (f := F_steps) (He.glo_ok X G (c.fact 10 (f := .glo "steps") rfl)) F rfl rfl rfl fun _ _ _ _ _ _ us hl => match us, hl with | [_], _ => rfl⟩
    · obtain ⟨fd, F⟩ := c.def_ 11 (d := d_bends) rfl
      exact ⟨_, fd, FF.of0 (f := F_bends) (He.glo_ok X G (c.fact 11 (f := .glo "bends") rfl)) F rfl rfl rfl fun _ _ _ _ _ _ us hl => match us, hl with | [_], _ => rfl⟩
    · obtain ⟨fd, F⟩ := c.def_ 12 (d := d_spoilt) rfl
      exact ⟨_, fd, FF.of0 (f := F_spoilt) (He.glo_ok X G (c.fact 12 (f := .glo "spoilt") rfl)) F rfl rfl rfl fun _ _ _ _ _ _ us hl => match us, hl with | [_, _], _ => rfl⟩
    · obtain ⟨fd, F⟩ := c.def_ 13 (d := d_one_fault) rfl
      exact ⟨_, fd, FF.of0 (f := F_one_fault) (He.glo_ok X G (c.fact 13 (f := .glo "one_fault") rfl)) F rfl rfl rfl fun _ _ _ _ _ _ us hl => match us, hl with | [_, _], _ => rfl⟩
    · obtain ⟨fd, F⟩ := c.def_ 14 (d := d_looks) rfl
      exact ⟨_, fd, FF.of0 (f := F_looks) (He.glo_ok X G (c.fact 14 (f := .glo "looks") rfl)) F rfl rfl rfl fun _ _ _ _ _ _ us hl => match us, hl with | [_, _], _ => rfl⟩
    · obtain ⟨fd, F⟩ := c.def_ 15 (d := d_by_triangles) rfl
      exact ⟨_, fd, FF.of0 (f := F_by_triangles) (He.glo_ok X G (c.fact 15 (f := .glo "by_triangles") rfl)) F rfl rfl rfl fun _ _ _ _ _ _ us hl => match us, hl with | [_, _], _ => rfl⟩
    · obtain ⟨fd, F⟩ := c.def_ 16 (d := d_triangular) rfl
      exact ⟨_, fd, FF.of0 (f := F_triangular) (He.glo_ok X G (c.fact 16 (f := .glo "triangular") rfl)) F rfl rfl rfl fun _ _ _ _ _ _ us hl => match us, hl with | [_], _ => rfl⟩
    · obtain ⟨fd, F⟩ := c.def_ 17 (d := d_shortest) rfl
      exact ⟨_, fd, FF.of0 (f := F_shortest) (He.glo_ok X G (c.fact 17 (f := .glo "shortest") rfl)) F rfl rfl rfl fun _ _ _ _ _ _ us hl => match us, hl with | [_, _], _ => rfl⟩
    · obtain ⟨fd, F⟩ := c.def_ 18 (d := d_mended) rfl
      exact ⟨_, fd, FF.of0 (f := F_mended) (He.glo_ok X G (c.fact 18 (f := .glo "mended") rfl)) F rfl rfl rfl fun _ _ _ _ _ _ us hl => match us, hl with | [_], _ => rfl⟩
    · obtain ⟨fd, F⟩ := c.def_ 19 (d := d__law_start) rfl
      exact ⟨_, fd, FF.of0 (f := F__law_start) (He.glo_ok X G (c.fact 19 (f := .glo "_law_start") rfl)) F rfl rfl rfl fun _ _ _ _ _ _ us hl => match us, hl with | [_], _ => rfl⟩
    · obtain ⟨fd, F⟩ := c.def_ 20 (d := d__law_draw) rfl
      exact ⟨_, fd, FF.of0 (f := F__law_draw) (He.glo_ok X G (c.fact 20 (f := .glo "_law_draw") rfl)) F rfl rfl rfl fun _ _ _ _ _ _ us hl => match us, hl with | [_, _], _ => rfl⟩
    · obtain ⟨fd, F⟩ := c.def_ 21 (d := d__law_bad) rfl
      exact ⟨_, fd, FF.of0 (f := F__law_bad) (He.glo_ok X G (c.fact 21 (f := .glo "_law_bad") rfl)) F rfl rfl rfl fun _ _ _ _ _ _ us hl => match us, hl with | [_, _], _ => rfl⟩
    · obtain ⟨fd, F⟩ := c.def_ 22 (d := d__law_squares_hold) rfl
      exact ⟨_, fd, FF.of0 (f := F__law_squares_hold) (He.glo_ok X G (c.fact 22 (f := .glo "_law_squares_hold") rfl)) F rfl rfl rfl fun _ _ _ _ _ _ us hl => match us, hl with | [_], _ => rfl⟩
    · obtain ⟨fd, F⟩ := c.def_ 23 (d := d_law) rfl
      exact ⟨_, fd, FF.of0 (f := F_law) (He.glo_ok X G (c.fact 23 (f := .glo "law") rfl)) F rfl rfl rfl fun _ _ _ _ _ _ us hl => match us, hl with | [_], _ => rfl⟩
  bl := fun x hx => by
    simp only [bl, List.mem_cons, List.not_mem_nil, or_false] at hx
    rcases hx with rfl | rfl | rfl | rfl | rfl | rfl | rfl | rfl | rfl | rfl | rfl
    · exact He.free_ok X G (c.fact 24 (f := .free "abs") rfl)
    · exact He.free_ok X G (c.fact 25 (f := .free "all") rfl)
    · exact He.free_ok X G (c.fact 26 (f := .free "bool") rfl)
    · exact He.free_ok X G (c.fact 27 (f := .free "enumerate") rfl)
    · exact He.free_ok X G (c.fact 28 (f := .free "int") rfl)
    · exact He.free_ok X G (c.fact 29 (f := .free "isinstance") rfl)
    · exact He.free_ok X G (c.fact 30 (f := .free "len") rfl)
    · exact He.free_ok X G (c.fact 31 (f := .free "list") rfl)
    · exact He.free_ok X G (c.fact 32 (f := .free "max") rfl)
    · exact He.free_ok X G (c.fact 33 (f := .free "range") rfl)
    · exact He.free_ok X G (c.fact 34 (f := .free "tuple") rfl)
  cs := fun x d hd => by
    have hm := PySem.mem_of_lookup hd
    simp only [cs, List.mem_cons, List.not_mem_nil, or_false, Prod.mk.injEq] at hm
    rcases hm with ⟨rfl, rfl⟩ | ⟨rfl, rfl⟩
    · obtain ⟨t, e⟩ := He.int_ok X G (c.fact 35 (f := .int "MAX_DOWN" 1000) rfl)
      exact ⟨_, .int 1000, e, ⟨t, rfl⟩, fun F => .int _⟩
    · obtain ⟨t, e⟩ := He.int_ok X G (c.fact 36 (f := .int "MAX_NUMBER" 1000000000000) rfl)
      exact ⟨_, .int 1000000000000, e, ⟨t, rfl⟩, fun F => .int _⟩
end L_k06
--needs KL
--needs KQ
--needs KM
namespace L_k06
open PySem KX L2
/-! ### plain -/
def qf (i : Nat) : Int := (i : Int) * (i : Int) / 4
def fl (n : Nat) (f : Nat → Int) : List Int := (List.range n).map f
theorem fl_len {n : Nat} {f : Nat → Int} : (fl n f).length = n := by rw [fl, List.length_map, List.length_range]
theorem fl_s {n : Nat} {f : Nat → Int} : fl (n + 1) f = fl n f ++ [f n] := by rw [fl, List.range_succ, List.map_append]; rfl
theorem fl_ext {n : Nat} {f g : Nat → Int} (h : ∀ i, i < n → f i = g i) : fl n f = fl n g := List.map_congr_left fun i hi => h i (List.mem_range.mp hi)
theorem q_abs (d : Int) : (if d < 0 then -d else d) * (if d < 0 then -d else d) = d * d := by split <;> grind
theorem q_prod (a b : Int) : (a + b) * (a + b) / 4 - (a - b) * (a - b) / 4 = a * b := by
  have e : (a + b) * (a + b) = (a - b) * (a - b) + a * b * 4 := by grind
  rw [e, Int.add_mul_ediv_right _ _ (by decide)]
  omega
theorem q_two (x : Int) : (x + 2) * (x + 2) / 4 = x * x / 4 + x + 1 := by
  have e : (x + 2) * (x + 2) = x * x + (x + 1) * 4 := by grind
  rw [e, Int.add_mul_ediv_right _ _ (by decide)]
  omega
theorem q_dbl (x : Int) : 2 * x * (2 * x) / 4 = x * x := by
  have e : 2 * x * (2 * x) = x * x * 4 := by grind
  rw [e, Int.mul_ediv_cancel _ (by decide)]
theorem q_step (x : Int) : (x + 1) * (x + 1) / 4 = x * x / 4 + (x + 1) / 2 := by
  obtain ⟨y, hy⟩ : ∃ y, x = 2 * y ∨ x = 2 * y + 1 := ⟨x / 2, by omega⟩
  rcases hy with rfl | rfl
  · have e1 : (2 * y + 1) * (2 * y + 1) = 1 + (y * y + y) * 4 := by grind
    have e2 : 2 * y * (2 * y) = 0 + y * y * 4 := by grind
    rw [e1, e2, Int.add_mul_ediv_right _ _ (by decide), Int.add_mul_ediv_right _ _ (by decide)]
    omega
  · have e1 : (2 * y + 1 + 1) * (2 * y + 1 + 1) = 0 + (y * y + 2 * y + 1) * 4 := by grind
    have e2 : (2 * y + 1) * (2 * y + 1) = 1 + (y * y + y) * 4 := by grind
    rw [e1, e2, Int.add_mul_ediv_right _ _ (by decide), Int.add_mul_ediv_right _ _ (by decide)]
    omega
theorem t_two (x : Int) : 2 * (x * (x + 1) / 2) = x * (x + 1) := by
  obtain ⟨y, hy⟩ : ∃ y, x = 2 * y ∨ x = 2 * y + 1 := ⟨x / 2, by omega⟩
  rcases hy with rfl | rfl
  · have e : 2 * y * (2 * y + 1) = y * (2 * y + 1) * 2 := by grind
    rw [e, Int.mul_ediv_cancel _ (by decide), Int.mul_comm]
  · have e : (2 * y + 1) * (2 * y + 1 + 1) = (2 * y + 1) * (y + 1) * 2 := by grind
    rw [e, Int.mul_ediv_cancel _ (by decide), Int.mul_comm]
theorem qf_s (i : Nat) : qf (i + 1) = qf i + ((i : Int) + 1) / 2 := by
  have := q_step (i : Int)
  unfold qf
  rw [show ((i + 1 : Nat) : Int) = (i : Int) + 1 by omega]
  exact this
theorem qf_nn (i : Nat) : 0 ≤ qf i := Int.ediv_nonneg (Int.mul_nonneg (by omega) (by omega)) (by decide)
/-- one more at a place -/
def wf (at' : Nat) (more : Int) (i : Nat) : Int := if i = at' then qf i + more else qf i
theorem wf_list {n at' : Nat} {more : Int} (h : at' < n) : (fl n qf).take at' ++ [qf at' + more] ++ (fl n qf).drop (at' + 1) = fl n (wf at' more) := by
  have hm : min at' n = at' := Nat.min_eq_left (Nat.le_of_lt h)
  rw [List.append_assoc]
  refine List.ext_getElem ?_ fun i h1 h2 => ?_
  · simp only [List.length_append, List.length_take, List.length_drop, fl_len, List.length_cons, List.length_nil]; omega
  · rw [fl_len] at h2
    have e : (fl n (wf at' more))[i]'(by rw [fl_len]; exact h2) = wf at' more i := by simp [fl]
    rw [e]
    rcases Nat.lt_trichotomy i at' with q | q | q
    · rw [List.getElem_append_left (by rw [List.length_take, fl_len]; omega), List.getElem_take]
      simp [fl, wf, Nat.ne_of_lt q]
    · subst q
      rw [List.getElem_append_right (by rw [List.length_take, fl_len]; omega)]
      simp [fl_len, wf, hm]
    · rw [List.getElem_append_right (by rw [List.length_take, fl_len]; omega), List.getElem_append_right (by rw [List.length_take, fl_len, List.length_cons, List.length_nil]; omega), List.getElem_drop]
      simp only [List.length_take, fl_len, List.length_cons, List.length_nil, fl, List.getElem_map, List.getElem_range, List.length_map, List.length_range, wf, hm]
      rw [if_neg (by omega)]
      congr 1
      omega
/-! pairs -/
def pa (x : Nat) (a b : Nat) : Bool := decide (a + b = x) != decide ((a : Int) - (b : Int) = (x : Int))
def row (x a : Nat) : List (Nat × Nat) := ((List.range (a + 1)).filter (pa x a)).map fun b => (a, b)
def pl (m x : Nat) : List (Nat × Nat) := (List.range m).flatMap (row x)
theorem pl_s (m x : Nat) : pl (m + 1) x = pl m x ++ row x m := by
  rw [pl, List.range_succ, List.flatMap_append]; simp [pl]
theorem pl_mem {m x a b : Nat} : (a, b) ∈ pl m x ↔ a < m ∧ b ≤ a ∧ pa x a b = true := by
  simp only [pl, row, List.mem_flatMap, List.mem_range, List.mem_map, List.mem_filter, Prod.mk.injEq]
  constructor
  · rintro ⟨a', h1, b', ⟨h2, h3⟩, rfl, rfl⟩
    exact ⟨h1, by omega, h3⟩
  · rintro ⟨h1, h2, h3⟩
    exact ⟨a, h1, b, ⟨by omega, h3⟩, rfl, rfl⟩
theorem pa_iff {x a b : Nat} : pa x a b = true ↔ 1 ≤ b ∧ (a + b = x ∨ (a : Int) - (b : Int) = (x : Int)) := by
  unfold pa
  by_cases h1 : a + b = x <;> by_cases h2 : (a : Int) - (b : Int) = (x : Int) <;> simp [h1, h2] <;> omega
/-- pairs tell the place -/
theorem pl_inj {m x y : Nat} (hm : 4 ≤ m) (h : pl m x = pl m y) (hne : pl m x ≠ []) : x = y := by
  have key : ∀ {a b x y : Nat}, pl m x = pl m y → a < m → b ≤ a → 1 ≤ b → a + b = x → (a : Int) - b = y → False := by
    intro a b x y h ha hb h1 hx hy
    have S : ∀ c d : Nat, c < m → d ≤ c → (pa x c d = true ↔ pa y c d = true) := fun c d hc hd => by
      have p := pl_mem (m := m) (x := x) (a := c) (b := d)
      rw [h, pl_mem] at p
      constructor
      · intro q; exact (p.mpr ⟨hc, hd, q⟩).2.2
      · intro q; exact (p.mp ⟨hc, hd, q⟩).2.2
    by_cases q1 : a + 1 < m
    · have := S (a + 1) (b + 1) q1 (by omega)
      rw [pa_iff, pa_iff] at this
      have := this.mpr ⟨by omega, .inr (by omega)⟩
      omega
    · by_cases q2 : 2 ≤ b
      · have := S (a - 1) (b - 1) (by omega) (by omega)
        rw [pa_iff, pa_iff] at this
        have := this.mpr ⟨by omega, .inr (by omega)⟩
        omega
      · have := S (a - 2) 1 (by omega) (by omega)
        rw [pa_iff, pa_iff] at this
        have := this.mpr ⟨by omega, .inl (by omega)⟩
        omega
  obtain ⟨⟨a, b⟩, hp⟩ := List.exists_mem_of_ne_nil _ hne
  have hx := pl_mem.mp hp
  rw [h] at hp
  have hy := pl_mem.mp hp
  rw [pa_iff] at hx hy
  refine Classical.byContradiction fun z => ?_
  rcases hx.2.2.2 with h1 | h1
  · rcases hy.2.2.2 with h2 | h2
    · omega
    · exact key h hx.1 hx.2.1 hx.2.2.1 h1 h2
  · rcases hy.2.2.2 with h2 | h2
    · exact key h.symm hx.1 hx.2.1 hx.2.2.1 h2 h1
    · omega
theorem pl_le {m x : Nat} (hne : pl (m + 1) x ≠ []) : x ≤ 2 * m := by
  obtain ⟨⟨a, b⟩, hp⟩ := List.exists_mem_of_ne_nil _ hne
  have hx := pl_mem.mp hp
  rw [pa_iff] at hx
  omega
/-- what a wrong table fails -/
theorem wf_pair {x a b : Nat} {more : Int} (hm : more ≠ 0) (hb : b ≤ a) : decide (wf x more (a + b) - wf x more (a - b) = (a : Int) * (b : Int)) = !pa x a b := by
  have e : qf (a + b) - qf (a - b) = (a : Int) * (b : Int) := by
    have := q_prod (a : Int) (b : Int)
    unfold qf
    rw [show ((a + b : Nat) : Int) = (a : Int) + b by omega, show ((a - b : Nat) : Int) = (a : Int) - b by omega]
    exact this
  have hd : decide ((a : Int) - (b : Int) = (x : Int)) = decide (a - b = x) := decide_eq_decide.mpr (by omega)
  unfold wf pa
  rw [hd]
  by_cases h1 : a + b = x
  · by_cases h2 : a - b = x
    · rw [if_pos h1, if_pos h2, decide_eq_true h1, decide_eq_true h2, decide_eq_true (by omega)]; rfl
    · rw [if_pos h1, if_neg h2, decide_eq_true h1, decide_eq_false h2, decide_eq_false (by omega)]; rfl
  · by_cases h2 : a - b = x
    · rw [if_neg h1, if_pos h2, decide_eq_false h1, decide_eq_true h2, decide_eq_false (by omega)]; rfl
    · rw [if_neg h1, if_neg h2, decide_eq_false h1, decide_eq_false h2, decide_eq_true e]; rfl
/-! ### the defs -/
def il (l : List Int) : List D := l.map .int
theorem il_len {l : List Int} : b1R .len (.tuple (il l)) = some (.v (.int (l.length : Nat))) := by rw [x_lenT, il, List.length_map]
theorem eq_il {l m : List Int} : eqD (.tuple (il l)) (.tuple (il m)) = some (decide (l = m)) := x_eqTs
theorem eq_ii {l : List Int} : eqD (.tuple (il l)) (.tuple (il l)) = some true := by rw [eq_il, decide_eq_true rfl]
theorem at_f {n i : Nat} {f : Nat → Int} {k : Int} (hk : k = (i : Nat)) (h : i < n) : atI (il (fl n f)) k = some (.int (f i)) := by
  rw [hk, at_nat, il, List.getElem?_map, fl, List.getElem?_map, List.getElem?_range h]; rfl
theorem small : (2000 : Nat) ≤ sizeLine := by decide
theorem is_int {n : Nat} {i : Int} : callT T (n + 1) 0 [.v (.int i)] = some (.v (.bool true), [.v (.int i)]) := by rw [y_tc (f := K_isi) rfl]; exact isi_g
theorem chk_g {C : CT} {a : Int} {z : D} (c : C 0 [.v (.int a)] = some (.v (.bool true), [.v (.int a)])) (h1 : 0 ≤ a) (h2 : a ≤ 1000000000000) : runFn C f_check_number [.v (.int a), .v z] = some (.v .none, [.v (.int a), .v z]) := by
  rw [y_run (by rfl)]
  simp -implicitDefEqProofs only [f_check_number, E.var?, y_con, y_varF, y_varT, y_glo, y_bin, y_neg, y_notT, y_notF, y_andT, y_andF, y_orT, y_orF, y_ite, y_cmp, y_chain, y_tup, y_lst, y_rep, y_idx, y_slice, y_rev, y_call, y_b1, y_b2, y_isI, y_lrng, y_compN, y_compS, y_esN, y_esC, y_rsN, y_rsC, y_asN, y_asV, y_asI, y_oN, y_oS, y_itS, y_it1, y_it2, y_asg, y_par, y_stp, y_unp, y_st, y_app, y_expr, y_iteS, y_for, y_retN, y_pass, y_brk, y_cont, y_raise, y_ssN, y_ssC, y_tasN, y_tasC, y_taN, y_taS, y_aug, y_augV, y_ret, y_retS, y_retE, y_enm, y_enmL, y_enmT, y_zip, y_zipL, y_zipT, y_ext, y_extO, y_seqL, y_seqT, y_nsN, y_nsC, y_tgN, y_tgT, y_tgL, y_tgsN, y_tgsC, y_forN, y_forC, y_cmN, y_cmC, y_wipN, y_wipC, y_wipU, y_wipV, y_bakN, y_bakC, y_chainE, y_chain3, y_chain3E, y_it3, y_nodN, y_ioL, y_ioR, y_argN, y_argL, y_argR, y_argO, y_argI, y_bkN, y_bkL, y_bkR, y_bkO, y_bkI, y_callE, y_outN, y_outR, x_op1, x_op2, x_opdS, x_opdN, x_getS, x_getV, x_slV, x_slO, x_slI, x_rd, x_rdV, x_rdO, x_asg, x_asgU, x_asgV, x_asgO, x_ret, x_retV, x_retO, x_put, x_putO, x_putI, x_add, x_adO, x_adI, x_own, x_ownO, x_ownI, x_base, x_finF, x_finT, x_asB, x_ofB, x_bindB, x_withE, x_dV, x_dO, x_sV, x_sO, x_seqN, x_seqR, x_seqB, x_seqC, x_turnN, x_turnC, x_turnB, x_turnR, x_add', x_sub', x_lt, x_le, x_gt, x_ge, x_eq, x_ne, x_is, x_isn, x_inn, x_nin, shaped_int, shaped_bool, shaped_none, x_eqI, x_eqN, x_eqB, x_eqT2, x_eqT3, x_sz1, x_sz2, x_sz3, x_sz4, x_sz5, x_sz6, truN, truB, truI, x_isNn, x_isNi, x_isNt, x_isNl, x_isIi, x_isIb, x_isBb, x_isBi, x_isTt, x_isLl, x_isTl, x_isLt, x_len, x_lenT, x_abs, x_int, x_intq, x_ixL, x_ixT, at_0, at_1, at_2, at_3, at_4, at_5, z_0, z_1, z_2, z_3, z_4, z_5, z_6, z_7, z_8, z_9, z_10, z_11, z_12, w_0, w_1, w_2, w_3, w_4, w_5, w_6, w_7, w_8, w_9, w_10, w_11, w_12, ix_1_0, ix_2_0, ix_2_1, ix_3_0, ix_3_1, ix_3_2, ix_4_0, ix_4_1, ix_4_2, ix_4_3, ix_5_0, ix_5_1, ix_5_2, ix_5_3, ix_5_4, ix_6_0, ix_6_1, ix_6_2, ix_6_3, ix_6_4, ix_6_5, ix_7_0, ix_7_1, ix_7_2, ix_7_3, ix_7_4, ix_7_5, ix_7_6, Option.map_some, Option.bind_some, Option.map_none, Option.bind_none, List.getElem?_cons_zero, List.getElem?_cons_succ, List.set_cons_zero, List.set_cons_succ, List.cons_append, List.nil_append, List.length_cons, List.length_nil, List.replicate, if_true, Bool.false_eq_true, if_false, reduceIte, Nat.reduceAdd, Nat.reduceSub, List.append_nil, List.take_succ_cons, List.take_zero, List.map_nil, Option.getD_some, decide_true, decide_false, List.nodup_nil, y_nod1, Bool.not_true, Bool.not_false, List.map_cons, ct_0, ct_1, ct_2, ct_3, ct_4, ct_5, ct_6, ct_7, ct_8, ct_9, ct_10, ct_11, ct_12, Bool.and_true, Bool.true_and, Bool.and_false, Bool.false_and, x_revL, x_revT, c, h1, h2]
def NumOK (C : CT) : Prop := ∀ (a : Int) (z : D), 0 ≤ a → a ≤ 1000000000000 → C 1 [.v (.int a), .v z] = some (.v .none, [.v (.int a), .v z])
theorem num {n : Nat} : NumOK (callT T (n + 2)) := fun a z h1 h2 => by rw [y_tc (f := f_check_number) rfl]; exact chk_g is_int h1 h2
theorem four2 : (0 : Int) < 4 ∧ (4 : Int) < 18446744073709551616 := by decide
theorem two2 : (0 : Int) < 2 ∧ (2 : Int) < 18446744073709551616 := by decide
theorem two1 : -18446744073709551616 < (2 : Int) ∧ (2 : Int) < 18446744073709551616 := by decide
theorem quarter_g {C : CT} {a : Int} (c : NumOK C) (h1 : 0 ≤ a) (h2 : a ≤ 1000000000000) : runFn C f_quarter [.v (.int a)] = some (.v (.int (a * a / 4)), [.v (.int a)]) := by
  rw [y_run (by rfl)]
  have c1 := fun z => c a z h1 h2
  have b : -18446744073709551616 < a ∧ a < 18446744073709551616 := by omega
  simp -implicitDefEqProofs only [f_quarter, E.var?, y_con, y_varF, y_varT, y_glo, y_bin, y_neg, y_notT, y_notF, y_andT, y_andF, y_orT, y_orF, y_ite, y_cmp, y_chain, y_tup, y_lst, y_rep, y_idx, y_slice, y_rev, y_call, y_b1, y_b2, y_isI, y_lrng, y_compN, y_compS, y_esN, y_esC, y_rsN, y_rsC, y_asN, y_asV, y_asI, y_oN, y_oS, y_itS, y_it1, y_it2, y_asg, y_par, y_stp, y_unp, y_st, y_app, y_expr, y_iteS, y_for, y_retN, y_pass, y_brk, y_cont, y_raise, y_ssN, y_ssC, y_tasN, y_tasC, y_taN, y_taS, y_aug, y_augV, y_ret, y_retS, y_retE, y_enm, y_enmL, y_enmT, y_zip, y_zipL, y_zipT, y_ext, y_extO, y_seqL, y_seqT, y_nsN, y_nsC, y_tgN, y_tgT, y_tgL, y_tgsN, y_tgsC, y_forN, y_forC, y_cmN, y_cmC, y_wipN, y_wipC, y_wipU, y_wipV, y_bakN, y_bakC, y_chainE, y_chain3, y_chain3E, y_it3, y_nodN, y_ioL, y_ioR, y_argN, y_argL, y_argR, y_argO, y_argI, y_bkN, y_bkL, y_bkR, y_bkO, y_bkI, y_callE, y_outN, y_outR, x_op1, x_op2, x_opdS, x_opdN, x_getS, x_getV, x_slV, x_slO, x_slI, x_rd, x_rdV, x_rdO, x_asg, x_asgU, x_asgV, x_asgO, x_ret, x_retV, x_retO, x_put, x_putO, x_putI, x_add, x_adO, x_adI, x_own, x_ownO, x_ownI, x_base, x_finF, x_finT, x_asB, x_ofB, x_bindB, x_withE, x_dV, x_dO, x_sV, x_sO, x_seqN, x_seqR, x_seqB, x_seqC, x_turnN, x_turnC, x_turnB, x_turnR, x_add', x_sub', x_lt, x_le, x_gt, x_ge, x_eq, x_ne, x_is, x_isn, x_inn, x_nin, shaped_int, shaped_bool, shaped_none, x_eqI, x_eqN, x_eqB, x_eqT2, x_eqT3, x_sz1, x_sz2, x_sz3, x_sz4, x_sz5, x_sz6, truN, truB, truI, x_isNn, x_isNi, x_isNt, x_isNl, x_isIi, x_isIb, x_isBb, x_isBi, x_isTt, x_isLl, x_isTl, x_isLt, x_len, x_lenT, x_abs, x_int, x_intq, x_ixL, x_ixT, at_0, at_1, at_2, at_3, at_4, at_5, z_0, z_1, z_2, z_3, z_4, z_5, z_6, z_7, z_8, z_9, z_10, z_11, z_12, w_0, w_1, w_2, w_3, w_4, w_5, w_6, w_7, w_8, w_9, w_10, w_11, w_12, ix_1_0, ix_2_0, ix_2_1, ix_3_0, ix_3_1, ix_3_2, ix_4_0, ix_4_1, ix_4_2, ix_4_3, ix_5_0, ix_5_1, ix_5_2, ix_5_3, ix_5_4, ix_6_0, ix_6_1, ix_6_2, ix_6_3, ix_6_4, ix_6_5, ix_7_0, ix_7_1, ix_7_2, ix_7_3, ix_7_4, ix_7_5, ix_7_6, Option.map_some, Option.bind_some, Option.map_none, Option.bind_none, List.getElem?_cons_zero, List.getElem?_cons_succ, List.set_cons_zero, List.set_cons_succ, List.cons_append, List.nil_append, List.length_cons, List.length_nil, List.replicate, if_true, Bool.false_eq_true, if_false, reduceIte, Nat.reduceAdd, Nat.reduceSub, List.append_nil, List.take_succ_cons, List.take_zero, List.map_nil, Option.getD_some, decide_true, decide_false, List.nodup_nil, y_nod1, Bool.not_true, Bool.not_false, List.map_cons, ct_0, ct_1, ct_2, ct_3, ct_4, ct_5, ct_6, ct_7, ct_8, ct_9, ct_10, ct_11, ct_12, Bool.and_true, Bool.true_and, Bool.and_false, Bool.false_and, x_revL, x_revT, c1, x_mulD b, x_fdivD four2]
theorem quarter {n : Nat} {a : Int} (h1 : 0 ≤ a) (h2 : a ≤ 1000000000000) : callT T (n + 3) 2 [.v (.int a)] = some (.v (.int (a * a / 4)), [.v (.int a)]) := by
  rw [y_tc (f := f_quarter) rfl]; exact quarter_g num h1 h2
theorem tri_g {C : CT} {a : Int} (c : NumOK C) (h1 : 0 ≤ a) (h2 : a ≤ 1000000000000) : runFn C f_triangular [.v (.int a)] = some (.v (.int (a * (a + 1) / 2)), [.v (.int a)]) := by
  rw [y_run (by rfl)]
  have c1 := fun z => c a z h1 h2
  have b : -18446744073709551616 < a ∧ a < 18446744073709551616 := by omega
  simp -implicitDefEqProofs only [f_triangular, E.var?, y_con, y_varF, y_varT, y_glo, y_bin, y_neg, y_notT, y_notF, y_andT, y_andF, y_orT, y_orF, y_ite, y_cmp, y_chain, y_tup, y_lst, y_rep, y_idx, y_slice, y_rev, y_call, y_b1, y_b2, y_isI, y_lrng, y_compN, y_compS, y_esN, y_esC, y_rsN, y_rsC, y_asN, y_asV, y_asI, y_oN, y_oS, y_itS, y_it1, y_it2, y_asg, y_par, y_stp, y_unp, y_st, y_app, y_expr, y_iteS, y_for, y_retN, y_pass, y_brk, y_cont, y_raise, y_ssN, y_ssC, y_tasN, y_tasC, y_taN, y_taS, y_aug, y_augV, y_ret, y_retS, y_retE, y_enm, y_enmL, y_enmT, y_zip, y_zipL, y_zipT, y_ext, y_extO, y_seqL, y_seqT, y_nsN, y_nsC, y_tgN, y_tgT, y_tgL, y_tgsN, y_tgsC, y_forN, y_forC, y_cmN, y_cmC, y_wipN, y_wipC, y_wipU, y_wipV, y_bakN, y_bakC, y_chainE, y_chain3, y_chain3E, y_it3, y_nodN, y_ioL, y_ioR, y_argN, y_argL, y_argR, y_argO, y_argI, y_bkN, y_bkL, y_bkR, y_bkO, y_bkI, y_callE, y_outN, y_outR, x_op1, x_op2, x_opdS, x_opdN, x_getS, x_getV, x_slV, x_slO, x_slI, x_rd, x_rdV, x_rdO, x_asg, x_asgU, x_asgV, x_asgO, x_ret, x_retV, x_retO, x_put, x_putO, x_putI, x_add, x_adO, x_adI, x_own, x_ownO, x_ownI, x_base, x_finF, x_finT, x_asB, x_ofB, x_bindB, x_withE, x_dV, x_dO, x_sV, x_sO, x_seqN, x_seqR, x_seqB, x_seqC, x_turnN, x_turnC, x_turnB, x_turnR, x_add', x_sub', x_lt, x_le, x_gt, x_ge, x_eq, x_ne, x_is, x_isn, x_inn, x_nin, shaped_int, shaped_bool, shaped_none, x_eqI, x_eqN, x_eqB, x_eqT2, x_eqT3, x_sz1, x_sz2, x_sz3, x_sz4, x_sz5, x_sz6, truN, truB, truI, x_isNn, x_isNi, x_isNt, x_isNl, x_isIi, x_isIb, x_isBb, x_isBi, x_isTt, x_isLl, x_isTl, x_isLt, x_len, x_lenT, x_abs, x_int, x_intq, x_ixL, x_ixT, at_0, at_1, at_2, at_3, at_4, at_5, z_0, z_1, z_2, z_3, z_4, z_5, z_6, z_7, z_8, z_9, z_10, z_11, z_12, w_0, w_1, w_2, w_3, w_4, w_5, w_6, w_7, w_8, w_9, w_10, w_11, w_12, ix_1_0, ix_2_0, ix_2_1, ix_3_0, ix_3_1, ix_3_2, ix_4_0, ix_4_1, ix_4_2, ix_4_3, ix_5_0, ix_5_1, ix_5_2, ix_5_3, ix_5_4, ix_6_0, ix_6_1, ix_6_2, ix_6_3, ix_6_4, ix_6_5, ix_7_0, ix_7_1, ix_7_2, ix_7_3, ix_7_4, ix_7_5, ix_7_6, Option.map_some, Option.bind_some, Option.map_none, Option.bind_none, List.getElem?_cons_zero, List.getElem?_cons_succ, List.set_cons_zero, List.set_cons_succ, List.cons_append, List.nil_append, List.length_cons, List.length_nil, List.replicate, if_true, Bool.false_eq_true, if_false, reduceIte, Nat.reduceAdd, Nat.reduceSub, List.append_nil, List.take_succ_cons, List.take_zero, List.map_nil, Option.getD_some, decide_true, decide_false, List.nodup_nil, y_nod1, Bool.not_true, Bool.not_false, List.map_cons, ct_0, ct_1, ct_2, ct_3, ct_4, ct_5, ct_6, ct_7, ct_8, ct_9, ct_10, ct_11, ct_12, Bool.and_true, Bool.true_and, Bool.and_false, Bool.false_and, x_revL, x_revT, c1, x_mulD b, x_fdivD two2]
theorem tri {n : Nat} {a : Int} (h1 : 0 ≤ a) (h2 : a ≤ 1000000000000) : callT T (n + 3) 16 [.v (.int a)] = some (.v (.int (a * (a + 1) / 2)), [.v (.int a)]) := by
  rw [y_tc (f := f_triangular) rfl]; exact tri_g num h1 h2
theorem ent_g {C : CT} {a b : Int} (c : NumOK C) (h1 : 0 ≤ a) (h2 : a ≤ 1000000000000) (h3 : 0 ≤ b) (h4 : b ≤ 1000000000000) : runFn C f_entries [.v (.int a), .v (.int b)] = some (.v (.tuple [.int (a + b), .int (if a - b < 0 then -(a - b) else a - b)]), [.v (.int a), .v (.int b)]) := by
  rw [y_run (by rfl)]
  have c1 := fun z => c a z h1 h2
  have c2 := fun z => c b z h3 h4
  simp -implicitDefEqProofs only [f_entries, E.var?, y_con, y_varF, y_varT, y_glo, y_bin, y_neg, y_notT, y_notF, y_andT, y_andF, y_orT, y_orF, y_ite, y_cmp, y_chain, y_tup, y_lst, y_rep, y_idx, y_slice, y_rev, y_call, y_b1, y_b2, y_isI, y_lrng, y_compN, y_compS, y_esN, y_esC, y_rsN, y_rsC, y_asN, y_asV, y_asI, y_oN, y_oS, y_itS, y_it1, y_it2, y_asg, y_par, y_stp, y_unp, y_st, y_app, y_expr, y_iteS, y_for, y_retN, y_pass, y_brk, y_cont, y_raise, y_ssN, y_ssC, y_tasN, y_tasC, y_taN, y_taS, y_aug, y_augV, y_ret, y_retS, y_retE, y_enm, y_enmL, y_enmT, y_zip, y_zipL, y_zipT, y_ext, y_extO, y_seqL, y_seqT, y_nsN, y_nsC, y_tgN, y_tgT, y_tgL, y_tgsN, y_tgsC, y_forN, y_forC, y_cmN, y_cmC, y_wipN, y_wipC, y_wipU, y_wipV, y_bakN, y_bakC, y_chainE, y_chain3, y_chain3E, y_it3, y_nodN, y_ioL, y_ioR, y_argN, y_argL, y_argR, y_argO, y_argI, y_bkN, y_bkL, y_bkR, y_bkO, y_bkI, y_callE, y_outN, y_outR, x_op1, x_op2, x_opdS, x_opdN, x_getS, x_getV, x_slV, x_slO, x_slI, x_rd, x_rdV, x_rdO, x_asg, x_asgU, x_asgV, x_asgO, x_ret, x_retV, x_retO, x_put, x_putO, x_putI, x_add, x_adO, x_adI, x_own, x_ownO, x_ownI, x_base, x_finF, x_finT, x_asB, x_ofB, x_bindB, x_withE, x_dV, x_dO, x_sV, x_sO, x_seqN, x_seqR, x_seqB, x_seqC, x_turnN, x_turnC, x_turnB, x_turnR, x_add', x_sub', x_lt, x_le, x_gt, x_ge, x_eq, x_ne, x_is, x_isn, x_inn, x_nin, shaped_int, shaped_bool, shaped_none, x_eqI, x_eqN, x_eqB, x_eqT2, x_eqT3, x_sz1, x_sz2, x_sz3, x_sz4, x_sz5, x_sz6, truN, truB, truI, x_isNn, x_isNi, x_isNt, x_isNl, x_isIi, x_isIb, x_isBb, x_isBi, x_isTt, x_isLl, x_isTl, x_isLt, x_len, x_lenT, x_abs, x_int, x_intq, x_ixL, x_ixT, at_0, at_1, at_2, at_3, at_4, at_5, z_0, z_1, z_2, z_3, z_4, z_5, z_6, z_7, z_8, z_9, z_10, z_11, z_12, w_0, w_1, w_2, w_3, w_4, w_5, w_6, w_7, w_8, w_9, w_10, w_11, w_12, ix_1_0, ix_2_0, ix_2_1, ix_3_0, ix_3_1, ix_3_2, ix_4_0, ix_4_1, ix_4_2, ix_4_3, ix_5_0, ix_5_1, ix_5_2, ix_5_3, ix_5_4, ix_6_0, ix_6_1, ix_6_2, ix_6_3, ix_6_4, ix_6_5, ix_7_0, ix_7_1, ix_7_2, ix_7_3, ix_7_4, ix_7_5, ix_7_6, Option.map_some, Option.bind_some, Option.map_none, Option.bind_none, List.getElem?_cons_zero, List.getElem?_cons_succ, List.set_cons_zero, List.set_cons_succ, List.cons_append, List.nil_append, List.length_cons, List.length_nil, List.replicate, if_true, Bool.false_eq_true, if_false, reduceIte, Nat.reduceAdd, Nat.reduceSub, List.append_nil, List.take_succ_cons, List.take_zero, List.map_nil, Option.getD_some, decide_true, decide_false, List.nodup_nil, y_nod1, Bool.not_true, Bool.not_false, List.map_cons, ct_0, ct_1, ct_2, ct_3, ct_4, ct_5, ct_6, ct_7, ct_8, ct_9, ct_10, ct_11, ct_12, Bool.and_true, Bool.true_and, Bool.and_false, Bool.false_and, x_revL, x_revT, c1, c2]
theorem ent {n : Nat} {a b : Int} (h1 : 0 ≤ a) (h2 : a ≤ 1000000000000) (h3 : 0 ≤ b) (h4 : b ≤ 1000000000000) : callT T (n + 3) 6 [.v (.int a), .v (.int b)] = some (.v (.tuple [.int (a + b), .int (if a - b < 0 then -(a - b) else a - b)]), [.v (.int a), .v (.int b)]) := by
  rw [y_tc (f := f_entries) rfl]; exact ent_g num h1 h2 h3 h4
theorem bt_g {C : CT} {a b : Int} (c : NumOK C) (h1 : 0 ≤ a) (h2 : a ≤ 1000000000000) (h3 : 1 ≤ b) (h4 : b ≤ 1000000000000) (h5 : b ≤ a) : runFn C f_by_triangles [.v (.int a), .v (.int b)] = some (.v (.tuple [.int a, .int (b - 1), .int (a - b)]), [.v (.int a), .v (.int b)]) := by
  rw [y_run (by rfl)]
  have c1 := fun z => c a z h1 h2
  have c2 := fun z => c b z (by omega) h4
  have e1 : ¬ b < 1 := by omega
  have e2 : ¬ a < b := by omega
  simp -implicitDefEqProofs only [f_by_triangles, E.var?, y_con, y_varF, y_varT, y_glo, y_bin, y_neg, y_notT, y_notF, y_andT, y_andF, y_orT, y_orF, y_ite, y_cmp, y_chain, y_tup, y_lst, y_rep, y_idx, y_slice, y_rev, y_call, y_b1, y_b2, y_isI, y_lrng, y_compN, y_compS, y_esN, y_esC, y_rsN, y_rsC, y_asN, y_asV, y_asI, y_oN, y_oS, y_itS, y_it1, y_it2, y_asg, y_par, y_stp, y_unp, y_st, y_app, y_expr, y_iteS, y_for, y_retN, y_pass, y_brk, y_cont, y_raise, y_ssN, y_ssC, y_tasN, y_tasC, y_taN, y_taS, y_aug, y_augV, y_ret, y_retS, y_retE, y_enm, y_enmL, y_enmT, y_zip, y_zipL, y_zipT, y_ext, y_extO, y_seqL, y_seqT, y_nsN, y_nsC, y_tgN, y_tgT, y_tgL, y_tgsN, y_tgsC, y_forN, y_forC, y_cmN, y_cmC, y_wipN, y_wipC, y_wipU, y_wipV, y_bakN, y_bakC, y_chainE, y_chain3, y_chain3E, y_it3, y_nodN, y_ioL, y_ioR, y_argN, y_argL, y_argR, y_argO, y_argI, y_bkN, y_bkL, y_bkR, y_bkO, y_bkI, y_callE, y_outN, y_outR, x_op1, x_op2, x_opdS, x_opdN, x_getS, x_getV, x_slV, x_slO, x_slI, x_rd, x_rdV, x_rdO, x_asg, x_asgU, x_asgV, x_asgO, x_ret, x_retV, x_retO, x_put, x_putO, x_putI, x_add, x_adO, x_adI, x_own, x_ownO, x_ownI, x_base, x_finF, x_finT, x_asB, x_ofB, x_bindB, x_withE, x_dV, x_dO, x_sV, x_sO, x_seqN, x_seqR, x_seqB, x_seqC, x_turnN, x_turnC, x_turnB, x_turnR, x_add', x_sub', x_lt, x_le, x_gt, x_ge, x_eq, x_ne, x_is, x_isn, x_inn, x_nin, shaped_int, shaped_bool, shaped_none, x_eqI, x_eqN, x_eqB, x_eqT2, x_eqT3, x_sz1, x_sz2, x_sz3, x_sz4, x_sz5, x_sz6, truN, truB, truI, x_isNn, x_isNi, x_isNt, x_isNl, x_isIi, x_isIb, x_isBb, x_isBi, x_isTt, x_isLl, x_isTl, x_isLt, x_len, x_lenT, x_abs, x_int, x_intq, x_ixL, x_ixT, at_0, at_1, at_2, at_3, at_4, at_5, z_0, z_1, z_2, z_3, z_4, z_5, z_6, z_7, z_8, z_9, z_10, z_11, z_12, w_0, w_1, w_2, w_3, w_4, w_5, w_6, w_7, w_8, w_9, w_10, w_11, w_12, ix_1_0, ix_2_0, ix_2_1, ix_3_0, ix_3_1, ix_3_2, ix_4_0, ix_4_1, ix_4_2, ix_4_3, ix_5_0, ix_5_1, ix_5_2, ix_5_3, ix_5_4, ix_6_0, ix_6_1, ix_6_2, ix_6_3, ix_6_4, ix_6_5, ix_7_0, ix_7_1, ix_7_2, ix_7_3, ix_7_4, ix_7_5, ix_7_6, Option.map_some, Option.bind_some, Option.map_none, Option.bind_none, List.getElem?_cons_zero, List.getElem?_cons_succ, List.set_cons_zero, List.set_cons_succ, List.cons_append, List.nil_append, List.length_cons, List.length_nil, List.replicate, if_true, Bool.false_eq_true, if_false, reduceIte, Nat.reduceAdd, Nat.reduceSub, List.append_nil, List.take_succ_cons, List.take_zero, List.map_nil, Option.getD_some, decide_true, decide_false, List.nodup_nil, y_nod1, Bool.not_true, Bool.not_false, List.map_cons, ct_0, ct_1, ct_2, ct_3, ct_4, ct_5, ct_6, ct_7, ct_8, ct_9, ct_10, ct_11, ct_12, Bool.and_true, Bool.true_and, Bool.and_false, Bool.false_and, x_revL, x_revT, c1, c2, e1, e2]
theorem bt {n : Nat} {a b : Int} (h1 : 0 ≤ a) (h2 : a ≤ 1000000000000) (h3 : 1 ≤ b) (h4 : b ≤ 1000000000000) (h5 : b ≤ a) : callT T (n + 3) 15 [.v (.int a), .v (.int b)] = some (.v (.tuple [.int a, .int (b - 1), .int (a - b)]), [.v (.int a), .v (.int b)]) := by
  rw [y_tc (f := f_by_triangles) rfl]; exact bt_g num h1 h2 h3 h4 h5
theorem mx {a b : Int} : b2R .max (.int a) (.int b) = some (.int (if b > a then b else a)) := rfl
theorem sh_g {C : CT} {a b : Int} (c : NumOK C) (h1 : 0 ≤ a) (h2 : a ≤ 1000000000000) (h3 : 0 ≤ b) (h4 : b ≤ 1000000000000) : runFn C f_shortest [.v (.int a), .v (.int b)] = some (.v (.tuple [.int (a + b + 1), .int ((if b > a then b else a) + 1)]), [.v (.int a), .v (.int b)]) := by
  rw [y_run (by rfl)]
  have c1 := fun z => c a z h1 h2
  have c2 := fun z => c b z h3 h4
  simp -implicitDefEqProofs only [f_shortest, E.var?, y_con, y_varF, y_varT, y_glo, y_bin, y_neg, y_notT, y_notF, y_andT, y_andF, y_orT, y_orF, y_ite, y_cmp, y_chain, y_tup, y_lst, y_rep, y_idx, y_slice, y_rev, y_call, y_b1, y_b2, y_isI, y_lrng, y_compN, y_compS, y_esN, y_esC, y_rsN, y_rsC, y_asN, y_asV, y_asI, y_oN, y_oS, y_itS, y_it1, y_it2, y_asg, y_par, y_stp, y_unp, y_st, y_app, y_expr, y_iteS, y_for, y_retN, y_pass, y_brk, y_cont, y_raise, y_ssN, y_ssC, y_tasN, y_tasC, y_taN, y_taS, y_aug, y_augV, y_ret, y_retS, y_retE, y_enm, y_enmL, y_enmT, y_zip, y_zipL, y_zipT, y_ext, y_extO, y_seqL, y_seqT, y_nsN, y_nsC, y_tgN, y_tgT, y_tgL, y_tgsN, y_tgsC, y_forN, y_forC, y_cmN, y_cmC, y_wipN, y_wipC, y_wipU, y_wipV, y_bakN, y_bakC, y_chainE, y_chain3, y_chain3E, y_it3, y_nodN, y_ioL, y_ioR, y_argN, y_argL, y_argR, y_argO, y_argI, y_bkN, y_bkL, y_bkR, y_bkO, y_bkI, y_callE, y_outN, y_outR, x_op1, x_op2, x_opdS, x_opdN, x_getS, x_getV, x_slV, x_slO, x_slI, x_rd, x_rdV, x_rdO, x_asg, x_asgU, x_asgV, x_asgO, x_ret, x_retV, x_retO, x_put, x_putO, x_putI, x_add, x_adO, x_adI, x_own, x_ownO, x_ownI, x_base, x_finF, x_finT, x_asB, x_ofB, x_bindB, x_withE, x_dV, x_dO, x_sV, x_sO, x_seqN, x_seqR, x_seqB, x_seqC, x_turnN, x_turnC, x_turnB, x_turnR, x_add', x_sub', x_lt, x_le, x_gt, x_ge, x_eq, x_ne, x_is, x_isn, x_inn, x_nin, shaped_int, shaped_bool, shaped_none, x_eqI, x_eqN, x_eqB, x_eqT2, x_eqT3, x_sz1, x_sz2, x_sz3, x_sz4, x_sz5, x_sz6, truN, truB, truI, x_isNn, x_isNi, x_isNt, x_isNl, x_isIi, x_isIb, x_isBb, x_isBi, x_isTt, x_isLl, x_isTl, x_isLt, x_len, x_lenT, x_abs, x_int, x_intq, x_ixL, x_ixT, at_0, at_1, at_2, at_3, at_4, at_5, z_0, z_1, z_2, z_3, z_4, z_5, z_6, z_7, z_8, z_9, z_10, z_11, z_12, w_0, w_1, w_2, w_3, w_4, w_5, w_6, w_7, w_8, w_9, w_10, w_11, w_12, ix_1_0, ix_2_0, ix_2_1, ix_3_0, ix_3_1, ix_3_2, ix_4_0, ix_4_1, ix_4_2, ix_4_3, ix_5_0, ix_5_1, ix_5_2, ix_5_3, ix_5_4, ix_6_0, ix_6_1, ix_6_2, ix_6_3, ix_6_4, ix_6_5, ix_7_0, ix_7_1, ix_7_2, ix_7_3, ix_7_4, ix_7_5, ix_7_6, Option.map_some, Option.bind_some, Option.map_none, Option.bind_none, List.getElem?_cons_zero, List.getElem?_cons_succ, List.set_cons_zero, List.set_cons_succ, List.cons_append, List.nil_append, List.length_cons, List.length_nil, List.replicate, if_true, Bool.false_eq_true, if_false, reduceIte, Nat.reduceAdd, Nat.reduceSub, List.append_nil, List.take_succ_cons, List.take_zero, List.map_nil, Option.getD_some, decide_true, decide_false, List.nodup_nil, y_nod1, Bool.not_true, Bool.not_false, List.map_cons, ct_0, ct_1, ct_2, ct_3, ct_4, ct_5, ct_6, ct_7, ct_8, ct_9, ct_10, ct_11, ct_12, Bool.and_true, Bool.true_and, Bool.and_false, Bool.false_and, x_revL, x_revT, c1, c2, mx]
theorem sh {n : Nat} {a b : Int} (h1 : 0 ≤ a) (h2 : a ≤ 1000000000000) (h3 : 0 ≤ b) (h4 : b ≤ 1000000000000) : callT T (n + 3) 17 [.v (.int a), .v (.int b)] = some (.v (.tuple [.int (a + b + 1), .int ((if b > a then b else a) + 1)]), [.v (.int a), .v (.int b)]) := by
  rw [y_tc (f := f_shortest) rfl]; exact sh_g num h1 h2 h3 h4
/-! tables -/
theorem at_end {X : List D} {x : D} : atI (X ++ [x]) (-1) = some x := by
  have e : ixN (X ++ [x]).length (-1) = some X.length := by
    rw [List.length_append, List.length_cons, List.length_nil]
    unfold ixN
    rw [if_neg (by decide), if_pos (by omega)]
    congr 1
    omega
  unfold atI
  rw [e, Option.bind_some, List.getElem?_append_right (Nat.le_refl _), Nat.sub_self]
  rfl
theorem tb_b {C : CT} {P : D} {X : List D} {x k : Int} {s : Sl} (e : Emp s) (hx : atI X (-1) = some (.int x)) (hs : X.length + 1 ≤ sizeLine) : bindT (.nm 2) (.int k) [.v P, .o X, s] = some [.v P, .o X, .v (.int k)] ∧ evSs C f_table_b1 [.v P, .o X, .v (.int k)] = some (.nx [.v P, .o (X ++ [.int (x + k / 2)]), .v (.int k)]) := by
  constructor
  · cases s <;> first | (exact e.elim) | simp -implicitDefEqProofs only [E.var?, y_con, y_varF, y_varT, y_glo, y_bin, y_neg, y_notT, y_notF, y_andT, y_andF, y_orT, y_orF, y_ite, y_cmp, y_chain, y_tup, y_lst, y_rep, y_idx, y_slice, y_rev, y_call, y_b1, y_b2, y_isI, y_lrng, y_compN, y_compS, y_esN, y_esC, y_rsN, y_rsC, y_asN, y_asV, y_asI, y_oN, y_oS, y_itS, y_it1, y_it2, y_asg, y_par, y_stp, y_unp, y_st, y_app, y_expr, y_iteS, y_for, y_retN, y_pass, y_brk, y_cont, y_raise, y_ssN, y_ssC, y_tasN, y_tasC, y_taN, y_taS, y_aug, y_augV, y_ret, y_retS, y_retE, y_enm, y_enmL, y_enmT, y_zip, y_zipL, y_zipT, y_ext, y_extO, y_seqL, y_seqT, y_nsN, y_nsC, y_tgN, y_tgT, y_tgL, y_tgsN, y_tgsC, y_forN, y_forC, y_cmN, y_cmC, y_wipN, y_wipC, y_wipU, y_wipV, y_bakN, y_bakC, y_chainE, y_chain3, y_chain3E, y_it3, y_nodN, y_ioL, y_ioR, y_argN, y_argL, y_argR, y_argO, y_argI, y_bkN, y_bkL, y_bkR, y_bkO, y_bkI, y_callE, y_outN, y_outR, x_op1, x_op2, x_opdS, x_opdN, x_getS, x_getV, x_slV, x_slO, x_slI, x_rd, x_rdV, x_rdO, x_asg, x_asgU, x_asgV, x_asgO, x_ret, x_retV, x_retO, x_put, x_putO, x_putI, x_add, x_adO, x_adI, x_own, x_ownO, x_ownI, x_base, x_finF, x_finT, x_asB, x_ofB, x_bindB, x_withE, x_dV, x_dO, x_sV, x_sO, x_seqN, x_seqR, x_seqB, x_seqC, x_turnN, x_turnC, x_turnB, x_turnR, x_add', x_sub', x_lt, x_le, x_gt, x_ge, x_eq, x_ne, x_is, x_isn, x_inn, x_nin, shaped_int, shaped_bool, shaped_none, x_eqI, x_eqN, x_eqB, x_eqT2, x_eqT3, x_sz1, x_sz2, x_sz3, x_sz4, x_sz5, x_sz6, truN, truB, truI, x_isNn, x_isNi, x_isNt, x_isNl, x_isIi, x_isIb, x_isBb, x_isBi, x_isTt, x_isLl, x_isTl, x_isLt, x_len, x_lenT, x_abs, x_int, x_intq, x_ixL, x_ixT, at_0, at_1, at_2, at_3, at_4, at_5, z_0, z_1, z_2, z_3, z_4, z_5, z_6, z_7, z_8, z_9, z_10, z_11, z_12, w_0, w_1, w_2, w_3, w_4, w_5, w_6, w_7, w_8, w_9, w_10, w_11, w_12, ix_1_0, ix_2_0, ix_2_1, ix_3_0, ix_3_1, ix_3_2, ix_4_0, ix_4_1, ix_4_2, ix_4_3, ix_5_0, ix_5_1, ix_5_2, ix_5_3, ix_5_4, ix_6_0, ix_6_1, ix_6_2, ix_6_3, ix_6_4, ix_6_5, ix_7_0, ix_7_1, ix_7_2, ix_7_3, ix_7_4, ix_7_5, ix_7_6, Option.map_some, Option.bind_some, Option.map_none, Option.bind_none, List.getElem?_cons_zero, List.getElem?_cons_succ, List.set_cons_zero, List.set_cons_succ, List.cons_append, List.nil_append, List.length_cons, List.length_nil, List.replicate, if_true, Bool.false_eq_true, if_false, reduceIte, Nat.reduceAdd, Nat.reduceSub, List.append_nil, List.take_succ_cons, List.take_zero, List.map_nil, Option.getD_some, decide_true, decide_false, List.nodup_nil, y_nod1, Bool.not_true, Bool.not_false, List.map_cons, ct_0, ct_1, ct_2, ct_3, ct_4, ct_5, ct_6, ct_7, ct_8, ct_9, ct_10, ct_11, ct_12, Bool.and_true, Bool.true_and, Bool.and_false, Bool.false_and, x_revL, x_revT]
  · simp -implicitDefEqProofs only [f_table_b1, E.var?, y_con, y_varF, y_varT, y_glo, y_bin, y_neg, y_notT, y_notF, y_andT, y_andF, y_orT, y_orF, y_ite, y_cmp, y_chain, y_tup, y_lst, y_rep, y_idx, y_slice, y_rev, y_call, y_b1, y_b2, y_isI, y_lrng, y_compN, y_compS, y_esN, y_esC, y_rsN, y_rsC, y_asN, y_asV, y_asI, y_oN, y_oS, y_itS, y_it1, y_it2, y_asg, y_par, y_stp, y_unp, y_st, y_app, y_expr, y_iteS, y_for, y_retN, y_pass, y_brk, y_cont, y_raise, y_ssN, y_ssC, y_tasN, y_tasC, y_taN, y_taS, y_aug, y_augV, y_ret, y_retS, y_retE, y_enm, y_enmL, y_enmT, y_zip, y_zipL, y_zipT, y_ext, y_extO, y_seqL, y_seqT, y_nsN, y_nsC, y_tgN, y_tgT, y_tgL, y_tgsN, y_tgsC, y_forN, y_forC, y_cmN, y_cmC, y_wipN, y_wipC, y_wipU, y_wipV, y_bakN, y_bakC, y_chainE, y_chain3, y_chain3E, y_it3, y_nodN, y_ioL, y_ioR, y_argN, y_argL, y_argR, y_argO, y_argI, y_bkN, y_bkL, y_bkR, y_bkO, y_bkI, y_callE, y_outN, y_outR, x_op1, x_op2, x_opdS, x_opdN, x_getS, x_getV, x_slV, x_slO, x_slI, x_rd, x_rdV, x_rdO, x_asg, x_asgU, x_asgV, x_asgO, x_ret, x_retV, x_retO, x_put, x_putO, x_putI, x_add, x_adO, x_adI, x_own, x_ownO, x_ownI, x_base, x_finF, x_finT, x_asB, x_ofB, x_bindB, x_withE, x_dV, x_dO, x_sV, x_sO, x_seqN, x_seqR, x_seqB, x_seqC, x_turnN, x_turnC, x_turnB, x_turnR, x_add', x_sub', x_lt, x_le, x_gt, x_ge, x_eq, x_ne, x_is, x_isn, x_inn, x_nin, shaped_int, shaped_bool, shaped_none, x_eqI, x_eqN, x_eqB, x_eqT2, x_eqT3, x_sz1, x_sz2, x_sz3, x_sz4, x_sz5, x_sz6, truN, truB, truI, x_isNn, x_isNi, x_isNt, x_isNl, x_isIi, x_isIb, x_isBb, x_isBi, x_isTt, x_isLl, x_isTl, x_isLt, x_len, x_lenT, x_abs, x_int, x_intq, x_ixL, x_ixT, at_0, at_1, at_2, at_3, at_4, at_5, z_0, z_1, z_2, z_3, z_4, z_5, z_6, z_7, z_8, z_9, z_10, z_11, z_12, w_0, w_1, w_2, w_3, w_4, w_5, w_6, w_7, w_8, w_9, w_10, w_11, w_12, ix_1_0, ix_2_0, ix_2_1, ix_3_0, ix_3_1, ix_3_2, ix_4_0, ix_4_1, ix_4_2, ix_4_3, ix_5_0, ix_5_1, ix_5_2, ix_5_3, ix_5_4, ix_6_0, ix_6_1, ix_6_2, ix_6_3, ix_6_4, ix_6_5, ix_7_0, ix_7_1, ix_7_2, ix_7_3, ix_7_4, ix_7_5, ix_7_6, Option.map_some, Option.bind_some, Option.map_none, Option.bind_none, List.getElem?_cons_zero, List.getElem?_cons_succ, List.set_cons_zero, List.set_cons_succ, List.cons_append, List.nil_append, List.length_cons, List.length_nil, List.replicate, if_true, Bool.false_eq_true, if_false, reduceIte, Nat.reduceAdd, Nat.reduceSub, List.append_nil, List.take_succ_cons, List.take_zero, List.map_nil, Option.getD_some, decide_true, decide_false, List.nodup_nil, y_nod1, Bool.not_true, Bool.not_false, List.map_cons, ct_0, ct_1, ct_2, ct_3, ct_4, ct_5, ct_6, ct_7, ct_8, ct_9, ct_10, ct_11, ct_12, Bool.and_true, Bool.true_and, Bool.and_false, Bool.false_and, x_revL, x_revT, hx, x_fdivD two2, hs]
theorem tb_g {C : CT} {m : Int} {xs L : List D} {s : Sl} (c : C 0 [.v (.int m)] = some (.v (.bool true), [.v (.int m)])) (h1 : 0 ≤ m) (h2 : m ≤ 1000) (hr : rng2 1 (m + 1) = some xs) (h : forl (bindT (.nm 2)) (evSs C f_table_b1) xs [.v (.int m), .o [.int 0], .un] = some (.nx [.v (.int m), .o L, s])) : runFn C f_table [.v (.int m)] = some (.v (.tuple L), [.v (.int m)]) := by
  rw [y_run (by rfl)]
  simp -implicitDefEqProofs only [f_table, E.var?, y_con, y_varF, y_varT, y_glo, y_bin, y_neg, y_notT, y_notF, y_andT, y_andF, y_orT, y_orF, y_ite, y_cmp, y_chain, y_tup, y_lst, y_rep, y_idx, y_slice, y_rev, y_call, y_b1, y_b2, y_isI, y_lrng, y_compN, y_compS, y_esN, y_esC, y_rsN, y_rsC, y_asN, y_asV, y_asI, y_oN, y_oS, y_itS, y_it1, y_it2, y_asg, y_par, y_stp, y_unp, y_st, y_app, y_expr, y_iteS, y_for, y_retN, y_pass, y_brk, y_cont, y_raise, y_ssN, y_ssC, y_tasN, y_tasC, y_taN, y_taS, y_aug, y_augV, y_ret, y_retS, y_retE, y_enm, y_enmL, y_enmT, y_zip, y_zipL, y_zipT, y_ext, y_extO, y_seqL, y_seqT, y_nsN, y_nsC, y_tgN, y_tgT, y_tgL, y_tgsN, y_tgsC, y_forN, y_forC, y_cmN, y_cmC, y_wipN, y_wipC, y_wipU, y_wipV, y_bakN, y_bakC, y_chainE, y_chain3, y_chain3E, y_it3, y_nodN, y_ioL, y_ioR, y_argN, y_argL, y_argR, y_argO, y_argI, y_bkN, y_bkL, y_bkR, y_bkO, y_bkI, y_callE, y_outN, y_outR, x_op1, x_op2, x_opdS, x_opdN, x_getS, x_getV, x_slV, x_slO, x_slI, x_rd, x_rdV, x_rdO, x_asg, x_asgU, x_asgV, x_asgO, x_ret, x_retV, x_retO, x_put, x_putO, x_putI, x_add, x_adO, x_adI, x_own, x_ownO, x_ownI, x_base, x_finF, x_finT, x_asB, x_ofB, x_bindB, x_withE, x_dV, x_dO, x_sV, x_sO, x_seqN, x_seqR, x_seqB, x_seqC, x_turnN, x_turnC, x_turnB, x_turnR, x_add', x_sub', x_lt, x_le, x_gt, x_ge, x_eq, x_ne, x_is, x_isn, x_inn, x_nin, shaped_int, shaped_bool, shaped_none, x_eqI, x_eqN, x_eqB, x_eqT2, x_eqT3, x_sz1, x_sz2, x_sz3, x_sz4, x_sz5, x_sz6, truN, truB, truI, x_isNn, x_isNi, x_isNt, x_isNl, x_isIi, x_isIb, x_isBb, x_isBi, x_isTt, x_isLl, x_isTl, x_isLt, x_len, x_lenT, x_abs, x_int, x_intq, x_ixL, x_ixT, at_0, at_1, at_2, at_3, at_4, at_5, z_0, z_1, z_2, z_3, z_4, z_5, z_6, z_7, z_8, z_9, z_10, z_11, z_12, w_0, w_1, w_2, w_3, w_4, w_5, w_6, w_7, w_8, w_9, w_10, w_11, w_12, ix_1_0, ix_2_0, ix_2_1, ix_3_0, ix_3_1, ix_3_2, ix_4_0, ix_4_1, ix_4_2, ix_4_3, ix_5_0, ix_5_1, ix_5_2, ix_5_3, ix_5_4, ix_6_0, ix_6_1, ix_6_2, ix_6_3, ix_6_4, ix_6_5, ix_7_0, ix_7_1, ix_7_2, ix_7_3, ix_7_4, ix_7_5, ix_7_6, Option.map_some, Option.bind_some, Option.map_none, Option.bind_none, List.getElem?_cons_zero, List.getElem?_cons_succ, List.set_cons_zero, List.set_cons_succ, List.cons_append, List.nil_append, List.length_cons, List.length_nil, List.replicate, if_true, Bool.false_eq_true, if_false, reduceIte, Nat.reduceAdd, Nat.reduceSub, List.append_nil, List.take_succ_cons, List.take_zero, List.map_nil, Option.getD_some, decide_true, decide_false, List.nodup_nil, y_nod1, Bool.not_true, Bool.not_false, List.map_cons, ct_0, ct_1, ct_2, ct_3, ct_4, ct_5, ct_6, ct_7, ct_8, ct_9, ct_10, ct_11, ct_12, Bool.and_true, Bool.true_and, Bool.and_false, Bool.false_and, x_revL, x_revT, c, h1, h2, hr, h, set_tup]
theorem forl_idx {α : Type} {d : α → D} {g : D → Ev → Option Ev} {b : Ev → Option Out} {I : Nat → Ev → Prop} : ∀ (l : List α) (k : Nat) (_ : ∀ j (h : j < l.length) e, I (k + j) e → ∃ e1 e2, g (d l[j]) e = some e1 ∧ b e1 = some (.nx e2) ∧ I (k + j + 1) e2) (e : Ev), I k e → ∃ e', forl g b (l.map d) e = some (.nx e') ∧ I (k + l.length) e'
  | [], k, _, e, h => ⟨e, rfl, h⟩
  | a :: l, k, st, e, h => by
    obtain ⟨e1, e2, h1, h2, h3⟩ := st 0 (by simp) e h
    obtain ⟨e', h4, h5⟩ := forl_idx l (k + 1) (fun j hj e hi => by
      have := st (j + 1) (by simpa using hj) e (by rw [show k + (j + 1) = k + 1 + j by omega]; exact hi)
      rw [show k + (j + 1) + 1 = k + 1 + j + 1 by omega] at this
      simpa using this) e2 h3
    refine ⟨e', ?_, by rw [List.length_cons, show k + (l.length + 1) = k + 1 + l.length by omega]; exact h5⟩
    rw [List.map_cons, y_forC, show g (d a) e = some e1 from h1, Option.bind_some, h2, x_turnN]; exact h4
theorem rngA {lo hi : Int} (h : -1000000 ≤ lo ∧ lo ≤ 1000000) (h' : -1000000 ≤ hi ∧ hi ≤ 1000000) : rng2 lo hi = some ((List.range (hi - lo).toNat).map fun i => PyData.int (lo + (i : Nat))) := by
  have a : rngOk lo = true := by unfold rngOk; exact decide_eq_true (by omega)
  have b : rngOk hi = true := by unfold rngOk; exact decide_eq_true (by omega)
  unfold rng2
  rw [a, b, ← ranges_map]; rfl
theorem table {n m : Nat} (h2 : m ≤ 1000) : callT T (n + 2) 3 [.v (.int (m : Nat))] = some (.v (.tuple (il (fl (m + 1) qf))), [.v (.int (m : Nat))]) := by
  rw [y_tc (f := f_table) rfl]
  have z := small
  have hr := rngA (lo := 1) (hi := (m : Nat) + 1) (by omega) (by omega)
  rw [show (((m : Nat) : Int) + 1 - 1).toNat = m by omega] at hr
  obtain ⟨e, h, s, es, rfl⟩ := forl_idx (d := fun i : Nat => PyData.int (1 + (i : Nat))) (g := bindT (.nm 2)) (b := evSs (callT T (n + 1)) f_table_b1) (I := fun j e => ∃ s, Emp s ∧ e = [.v (.int (m : Nat)), .o (il (fl (j + 1) qf)), s]) (List.range m) 0 (fun j hj e => by
    rintro ⟨s, es, rfl⟩
    rw [List.length_range] at hj
    rw [List.getElem_range, Nat.zero_add]
    obtain ⟨a, b⟩ := tb_b (C := callT T (n + 1)) (P := .int (m : Nat)) (X := il (fl (j + 1) qf)) (x := qf j) (k := 1 + (j : Nat)) es (by rw [fl_s, il, List.map_append]; exact at_end) (by rw [il, List.length_map, fl_len]; omega)
    refine ⟨_, _, a, b, .v (.int (1 + (j : Nat))), trivial, ?_⟩
    rw [fl_s (n := j + 1), qf_s, show (1 : Int) + (j : Nat) = (j : Nat) + 1 by omega]
    simp only [il, List.map_append, List.map_cons, List.map_nil]) _ ⟨.un, trivial, rfl⟩
  simp only [List.length_range, Nat.zero_add] at h
  rw [show il (fl 1 qf) = [.int 0] from rfl] at h
  exact tb_g is_int (by omega) (by omega) hr h
def Tab (n : Nat) (f : Nat → Int) : Prop := 1 ≤ n ∧ n ≤ 1001 ∧ ∀ i, i < n → 0 ≤ f i
theorem it_s {C : CT} {P : D} {d : Int} (c : C 0 [.v (.int d)] = some (.v (.bool true), [.v (.int d)])) (h : 0 ≤ d) : bindT (.nm 1) (.int d) [.v P, .un] = some [.v P, .v (.int d)] ∧ evX C f_is_table_e1 false [.v P, .v (.int d)] = some (.v (.bool true), [.v P, .v (.int d)]) ∧ wipeE [.v P, .v (.int d)] [1] = some [.v P, .un] := by
  refine ⟨?_, ?_, ?_⟩ <;> simp -implicitDefEqProofs only [f_is_table_e1, E.var?, y_con, y_varF, y_varT, y_glo, y_bin, y_neg, y_notT, y_notF, y_andT, y_andF, y_orT, y_orF, y_ite, y_cmp, y_chain, y_tup, y_lst, y_rep, y_idx, y_slice, y_rev, y_call, y_b1, y_b2, y_isI, y_lrng, y_compN, y_compS, y_esN, y_esC, y_rsN, y_rsC, y_asN, y_asV, y_asI, y_oN, y_oS, y_itS, y_it1, y_it2, y_asg, y_par, y_stp, y_unp, y_st, y_app, y_expr, y_iteS, y_for, y_retN, y_pass, y_brk, y_cont, y_raise, y_ssN, y_ssC, y_tasN, y_tasC, y_taN, y_taS, y_aug, y_augV, y_ret, y_retS, y_retE, y_enm, y_enmL, y_enmT, y_zip, y_zipL, y_zipT, y_ext, y_extO, y_seqL, y_seqT, y_nsN, y_nsC, y_tgN, y_tgT, y_tgL, y_tgsN, y_tgsC, y_forN, y_forC, y_cmN, y_cmC, y_wipN, y_wipC, y_wipU, y_wipV, y_bakN, y_bakC, y_chainE, y_chain3, y_chain3E, y_it3, y_nodN, y_ioL, y_ioR, y_argN, y_argL, y_argR, y_argO, y_argI, y_bkN, y_bkL, y_bkR, y_bkO, y_bkI, y_callE, y_outN, y_outR, x_op1, x_op2, x_opdS, x_opdN, x_getS, x_getV, x_slV, x_slO, x_slI, x_rd, x_rdV, x_rdO, x_asg, x_asgU, x_asgV, x_asgO, x_ret, x_retV, x_retO, x_put, x_putO, x_putI, x_add, x_adO, x_adI, x_own, x_ownO, x_ownI, x_base, x_finF, x_finT, x_asB, x_ofB, x_bindB, x_withE, x_dV, x_dO, x_sV, x_sO, x_seqN, x_seqR, x_seqB, x_seqC, x_turnN, x_turnC, x_turnB, x_turnR, x_add', x_sub', x_lt, x_le, x_gt, x_ge, x_eq, x_ne, x_is, x_isn, x_inn, x_nin, shaped_int, shaped_bool, shaped_none, x_eqI, x_eqN, x_eqB, x_eqT2, x_eqT3, x_sz1, x_sz2, x_sz3, x_sz4, x_sz5, x_sz6, truN, truB, truI, x_isNn, x_isNi, x_isNt, x_isNl, x_isIi, x_isIb, x_isBb, x_isBi, x_isTt, x_isLl, x_isTl, x_isLt, x_len, x_lenT, x_abs, x_int, x_intq, x_ixL, x_ixT, at_0, at_1, at_2, at_3, at_4, at_5, z_0, z_1, z_2, z_3, z_4, z_5, z_6, z_7, z_8, z_9, z_10, z_11, z_12, w_0, w_1, w_2, w_3, w_4, w_5, w_6, w_7, w_8, w_9, w_10, w_11, w_12, ix_1_0, ix_2_0, ix_2_1, ix_3_0, ix_3_1, ix_3_2, ix_4_0, ix_4_1, ix_4_2, ix_4_3, ix_5_0, ix_5_1, ix_5_2, ix_5_3, ix_5_4, ix_6_0, ix_6_1, ix_6_2, ix_6_3, ix_6_4, ix_6_5, ix_7_0, ix_7_1, ix_7_2, ix_7_3, ix_7_4, ix_7_5, ix_7_6, Option.map_some, Option.bind_some, Option.map_none, Option.bind_none, List.getElem?_cons_zero, List.getElem?_cons_succ, List.set_cons_zero, List.set_cons_succ, List.cons_append, List.nil_append, List.length_cons, List.length_nil, List.replicate, if_true, Bool.false_eq_true, if_false, reduceIte, Nat.reduceAdd, Nat.reduceSub, List.append_nil, List.take_succ_cons, List.take_zero, List.map_nil, Option.getD_some, decide_true, decide_false, List.nodup_nil, y_nod1, Bool.not_true, Bool.not_false, List.map_cons, ct_0, ct_1, ct_2, ct_3, ct_4, ct_5, ct_6, ct_7, ct_8, ct_9, ct_10, ct_11, ct_12, Bool.and_true, Bool.true_and, Bool.and_false, Bool.false_and, x_revL, x_revT, c, h]
theorem it_g {C : CT} {X L : List D} {m : Int} (hn : b1R .len (.tuple X) = some (.v (.int m))) (h1 : 1 ≤ m) (h2 : m ≤ 1000 + 1) (h : compE (bindT (.nm 1)) [1] (fun e => some (true, e)) (evX C f_is_table_e1 false) (some (X, [.v (.tuple X), .un])) = some (.o L, [.v (.tuple X), .un])) (ha : b1R .all (.list L) = some (.v (.bool true))) :
    runFn C f_is_table [.v (.tuple X)] = some (.v (.bool true), [.v (.tuple X)]) := by
  rw [y_run (by rfl)]
  simp -implicitDefEqProofs only [f_is_table, E.var?, y_con, y_varF, y_varT, y_glo, y_bin, y_neg, y_notT, y_notF, y_andT, y_andF, y_orT, y_orF, y_ite, y_cmp, y_chain, y_tup, y_lst, y_rep, y_idx, y_slice, y_rev, y_call, y_b1, y_b2, y_isI, y_lrng, y_compN, y_compS, y_esN, y_esC, y_rsN, y_rsC, y_asN, y_asV, y_asI, y_oN, y_oS, y_itS, y_it1, y_it2, y_asg, y_par, y_stp, y_unp, y_st, y_app, y_expr, y_iteS, y_for, y_retN, y_pass, y_brk, y_cont, y_raise, y_ssN, y_ssC, y_tasN, y_tasC, y_taN, y_taS, y_aug, y_augV, y_ret, y_retS, y_retE, y_enm, y_enmL, y_enmT, y_zip, y_zipL, y_zipT, y_ext, y_extO, y_seqL, y_seqT, y_nsN, y_nsC, y_tgN, y_tgT, y_tgL, y_tgsN, y_tgsC, y_forN, y_forC, y_cmN, y_cmC, y_wipN, y_wipC, y_wipU, y_wipV, y_bakN, y_bakC, y_chainE, y_chain3, y_chain3E, y_it3, y_nodN, y_ioL, y_ioR, y_argN, y_argL, y_argR, y_argO, y_argI, y_bkN, y_bkL, y_bkR, y_bkO, y_bkI, y_callE, y_outN, y_outR, x_op1, x_op2, x_opdS, x_opdN, x_getS, x_getV, x_slV, x_slO, x_slI, x_rd, x_rdV, x_rdO, x_asg, x_asgU, x_asgV, x_asgO, x_ret, x_retV, x_retO, x_put, x_putO, x_putI, x_add, x_adO, x_adI, x_own, x_ownO, x_ownI, x_base, x_finF, x_finT, x_asB, x_ofB, x_bindB, x_withE, x_dV, x_dO, x_sV, x_sO, x_seqN, x_seqR, x_seqB, x_seqC, x_turnN, x_turnC, x_turnB, x_turnR, x_add', x_sub', x_lt, x_le, x_gt, x_ge, x_eq, x_ne, x_is, x_isn, x_inn, x_nin, shaped_int, shaped_bool, shaped_none, x_eqI, x_eqN, x_eqB, x_eqT2, x_eqT3, x_sz1, x_sz2, x_sz3, x_sz4, x_sz5, x_sz6, truN, truB, truI, x_isNn, x_isNi, x_isNt, x_isNl, x_isIi, x_isIb, x_isBb, x_isBi, x_isTt, x_isLl, x_isTl, x_isLt, x_len, x_lenT, x_abs, x_int, x_intq, x_ixL, x_ixT, at_0, at_1, at_2, at_3, at_4, at_5, z_0, z_1, z_2, z_3, z_4, z_5, z_6, z_7, z_8, z_9, z_10, z_11, z_12, w_0, w_1, w_2, w_3, w_4, w_5, w_6, w_7, w_8, w_9, w_10, w_11, w_12, ix_1_0, ix_2_0, ix_2_1, ix_3_0, ix_3_1, ix_3_2, ix_4_0, ix_4_1, ix_4_2, ix_4_3, ix_5_0, ix_5_1, ix_5_2, ix_5_3, ix_5_4, ix_6_0, ix_6_1, ix_6_2, ix_6_3, ix_6_4, ix_6_5, ix_7_0, ix_7_1, ix_7_2, ix_7_3, ix_7_4, ix_7_5, ix_7_6, Option.map_some, Option.bind_some, Option.map_none, Option.bind_none, List.getElem?_cons_zero, List.getElem?_cons_succ, List.set_cons_zero, List.set_cons_succ, List.cons_append, List.nil_append, List.length_cons, List.length_nil, List.replicate, if_true, Bool.false_eq_true, if_false, reduceIte, Nat.reduceAdd, Nat.reduceSub, List.append_nil, List.take_succ_cons, List.take_zero, List.map_nil, Option.getD_some, decide_true, decide_false, List.nodup_nil, y_nod1, Bool.not_true, Bool.not_false, List.map_cons, ct_0, ct_1, ct_2, ct_3, ct_4, ct_5, ct_6, ct_7, ct_8, ct_9, ct_10, ct_11, ct_12, Bool.and_true, Bool.true_and, Bool.and_false, Bool.false_and, x_revL, x_revT, -x_lenT, hn, h1, h2, h, ha]
theorem is_tab {n m : Nat} {f : Nat → Int} (t : Tab m f) : callT T (n + 2) 4 [.v (.tuple (il (fl m f)))] = some (.v (.bool true), [.v (.tuple (il (fl m f)))]) := by
  rw [y_tc (f := f_is_table) rfl]
  have z := small
  obtain ⟨t1, t2, t3⟩ := t
  have h := compE_all (tg := bindT (.nm 1)) (own := [1]) (elt := evX (callT T (n + 1)) f_is_table_e1 false) (d := fun i => PyData.int (f i)) (f := fun _ => .bool true) (env := [.v (.tuple (il (fl m f))), .un]) (e0 := [.v (.tuple (il (fl m f))), .un]) (List.range m) rfl (fun i hi => by
    obtain ⟨a, b, c⟩ := it_s (C := callT T (n + 1)) (P := .tuple (il (fl m f))) (d := f i) is_int (t3 i (List.mem_range.mp hi))
    exact ⟨_, _, _, a, b, rfl, c⟩) (by rw [List.length_range]; omega)
  have e : ((List.range m).map fun i => PyData.int (f i)) = il (fl m f) := by rw [il, fl, List.map_map]; rfl
  rw [e] at h
  exact it_g il_len (by rw [fl_len]; omega) (by rw [fl_len]; omega) h (all_true fun x hx => by
    obtain ⟨_, _, rfl⟩ := List.mem_map.mp hx
    rfl)
theorem ct_g {C : CT} {P : D} (c : C 4 [.v P] = some (.v (.bool true), [.v P])) : runFn C f_check_table [.v P] = some (.v .none, [.v P]) := by
  rw [y_run (by rfl)]
  simp -implicitDefEqProofs only [f_check_table, E.var?, y_con, y_varF, y_varT, y_glo, y_bin, y_neg, y_notT, y_notF, y_andT, y_andF, y_orT, y_orF, y_ite, y_cmp, y_chain, y_tup, y_lst, y_rep, y_idx, y_slice, y_rev, y_call, y_b1, y_b2, y_isI, y_lrng, y_compN, y_compS, y_esN, y_esC, y_rsN, y_rsC, y_asN, y_asV, y_asI, y_oN, y_oS, y_itS, y_it1, y_it2, y_asg, y_par, y_stp, y_unp, y_st, y_app, y_expr, y_iteS, y_for, y_retN, y_pass, y_brk, y_cont, y_raise, y_ssN, y_ssC, y_tasN, y_tasC, y_taN, y_taS, y_aug, y_augV, y_ret, y_retS, y_retE, y_enm, y_enmL, y_enmT, y_zip, y_zipL, y_zipT, y_ext, y_extO, y_seqL, y_seqT, y_nsN, y_nsC, y_tgN, y_tgT, y_tgL, y_tgsN, y_tgsC, y_forN, y_forC, y_cmN, y_cmC, y_wipN, y_wipC, y_wipU, y_wipV, y_bakN, y_bakC, y_chainE, y_chain3, y_chain3E, y_it3, y_nodN, y_ioL, y_ioR, y_argN, y_argL, y_argR, y_argO, y_argI, y_bkN, y_bkL, y_bkR, y_bkO, y_bkI, y_callE, y_outN, y_outR, x_op1, x_op2, x_opdS, x_opdN, x_getS, x_getV, x_slV, x_slO, x_slI, x_rd, x_rdV, x_rdO, x_asg, x_asgU, x_asgV, x_asgO, x_ret, x_retV, x_retO, x_put, x_putO, x_putI, x_add, x_adO, x_adI, x_own, x_ownO, x_ownI, x_base, x_finF, x_finT, x_asB, x_ofB, x_bindB, x_withE, x_dV, x_dO, x_sV, x_sO, x_seqN, x_seqR, x_seqB, x_seqC, x_turnN, x_turnC, x_turnB, x_turnR, x_add', x_sub', x_lt, x_le, x_gt, x_ge, x_eq, x_ne, x_is, x_isn, x_inn, x_nin, shaped_int, shaped_bool, shaped_none, x_eqI, x_eqN, x_eqB, x_eqT2, x_eqT3, x_sz1, x_sz2, x_sz3, x_sz4, x_sz5, x_sz6, truN, truB, truI, x_isNn, x_isNi, x_isNt, x_isNl, x_isIi, x_isIb, x_isBb, x_isBi, x_isTt, x_isLl, x_isTl, x_isLt, x_len, x_lenT, x_abs, x_int, x_intq, x_ixL, x_ixT, at_0, at_1, at_2, at_3, at_4, at_5, z_0, z_1, z_2, z_3, z_4, z_5, z_6, z_7, z_8, z_9, z_10, z_11, z_12, w_0, w_1, w_2, w_3, w_4, w_5, w_6, w_7, w_8, w_9, w_10, w_11, w_12, ix_1_0, ix_2_0, ix_2_1, ix_3_0, ix_3_1, ix_3_2, ix_4_0, ix_4_1, ix_4_2, ix_4_3, ix_5_0, ix_5_1, ix_5_2, ix_5_3, ix_5_4, ix_6_0, ix_6_1, ix_6_2, ix_6_3, ix_6_4, ix_6_5, ix_7_0, ix_7_1, ix_7_2, ix_7_3, ix_7_4, ix_7_5, ix_7_6, Option.map_some, Option.bind_some, Option.map_none, Option.bind_none, List.getElem?_cons_zero, List.getElem?_cons_succ, List.set_cons_zero, List.set_cons_succ, List.cons_append, List.nil_append, List.length_cons, List.length_nil, List.replicate, if_true, Bool.false_eq_true, if_false, reduceIte, Nat.reduceAdd, Nat.reduceSub, List.append_nil, List.take_succ_cons, List.take_zero, List.map_nil, Option.getD_some, decide_true, decide_false, List.nodup_nil, y_nod1, Bool.not_true, Bool.not_false, List.map_cons, ct_0, ct_1, ct_2, ct_3, ct_4, ct_5, ct_6, ct_7, ct_8, ct_9, ct_10, ct_11, ct_12, Bool.and_true, Bool.true_and, Bool.and_false, Bool.false_and, x_revL, x_revT, c]
theorem chk_tab {n m : Nat} {f : Nat → Int} (t : Tab m f) : callT T (n + 3) 5 [.v (.tuple (il (fl m f)))] = some (.v .none, [.v (.tuple (il (fl m f)))]) := by
  rw [y_tc (f := f_check_table) rfl]; exact ct_g (is_tab t)
theorem pb_g {C : CT} {X : List D} {a b i j x y m : Int} (c5 : C 5 [.v (.tuple X)] = some (.v .none, [.v (.tuple X)])) (c6 : C 6 [.v (.int a), .v (.int b)] = some (.v (.tuple [.int i, .int j]), [.v (.int a), .v (.int b)])) (hn : b1R .len (.tuple X) = some (.v (.int m))) (hi : i < m) (hx : atI X i = some (.int x)) (hy : atI X j = some (.int y)) :
    runFn C f_product_by [.v (.tuple X), .v (.int a), .v (.int b)] = some (.v (.int (x - y)), [.v (.tuple X), .v (.int a), .v (.int b)]) := by
  rw [y_run (by rfl)]
  simp -implicitDefEqProofs only [f_product_by, E.var?, y_con, y_varF, y_varT, y_glo, y_bin, y_neg, y_notT, y_notF, y_andT, y_andF, y_orT, y_orF, y_ite, y_cmp, y_chain, y_tup, y_lst, y_rep, y_idx, y_slice, y_rev, y_call, y_b1, y_b2, y_isI, y_lrng, y_compN, y_compS, y_esN, y_esC, y_rsN, y_rsC, y_asN, y_asV, y_asI, y_oN, y_oS, y_itS, y_it1, y_it2, y_asg, y_par, y_stp, y_unp, y_st, y_app, y_expr, y_iteS, y_for, y_retN, y_pass, y_brk, y_cont, y_raise, y_ssN, y_ssC, y_tasN, y_tasC, y_taN, y_taS, y_aug, y_augV, y_ret, y_retS, y_retE, y_enm, y_enmL, y_enmT, y_zip, y_zipL, y_zipT, y_ext, y_extO, y_seqL, y_seqT, y_nsN, y_nsC, y_tgN, y_tgT, y_tgL, y_tgsN, y_tgsC, y_forN, y_forC, y_cmN, y_cmC, y_wipN, y_wipC, y_wipU, y_wipV, y_bakN, y_bakC, y_chainE, y_chain3, y_chain3E, y_it3, y_nodN, y_ioL, y_ioR, y_argN, y_argL, y_argR, y_argO, y_argI, y_bkN, y_bkL, y_bkR, y_bkO, y_bkI, y_callE, y_outN, y_outR, x_op1, x_op2, x_opdS, x_opdN, x_getS, x_getV, x_slV, x_slO, x_slI, x_rd, x_rdV, x_rdO, x_asg, x_asgU, x_asgV, x_asgO, x_ret, x_retV, x_retO, x_put, x_putO, x_putI, x_add, x_adO, x_adI, x_own, x_ownO, x_ownI, x_base, x_finF, x_finT, x_asB, x_ofB, x_bindB, x_withE, x_dV, x_dO, x_sV, x_sO, x_seqN, x_seqR, x_seqB, x_seqC, x_turnN, x_turnC, x_turnB, x_turnR, x_add', x_sub', x_lt, x_le, x_gt, x_ge, x_eq, x_ne, x_is, x_isn, x_inn, x_nin, shaped_int, shaped_bool, shaped_none, x_eqI, x_eqN, x_eqB, x_eqT2, x_eqT3, x_sz1, x_sz2, x_sz3, x_sz4, x_sz5, x_sz6, truN, truB, truI, x_isNn, x_isNi, x_isNt, x_isNl, x_isIi, x_isIb, x_isBb, x_isBi, x_isTt, x_isLl, x_isTl, x_isLt, x_len, x_lenT, x_abs, x_int, x_intq, x_ixL, x_ixT, at_0, at_1, at_2, at_3, at_4, at_5, z_0, z_1, z_2, z_3, z_4, z_5, z_6, z_7, z_8, z_9, z_10, z_11, z_12, w_0, w_1, w_2, w_3, w_4, w_5, w_6, w_7, w_8, w_9, w_10, w_11, w_12, ix_1_0, ix_2_0, ix_2_1, ix_3_0, ix_3_1, ix_3_2, ix_4_0, ix_4_1, ix_4_2, ix_4_3, ix_5_0, ix_5_1, ix_5_2, ix_5_3, ix_5_4, ix_6_0, ix_6_1, ix_6_2, ix_6_3, ix_6_4, ix_6_5, ix_7_0, ix_7_1, ix_7_2, ix_7_3, ix_7_4, ix_7_5, ix_7_6, Option.map_some, Option.bind_some, Option.map_none, Option.bind_none, List.getElem?_cons_zero, List.getElem?_cons_succ, List.set_cons_zero, List.set_cons_succ, List.cons_append, List.nil_append, List.length_cons, List.length_nil, List.replicate, if_true, Bool.false_eq_true, if_false, reduceIte, Nat.reduceAdd, Nat.reduceSub, List.append_nil, List.take_succ_cons, List.take_zero, List.map_nil, Option.getD_some, decide_true, decide_false, List.nodup_nil, y_nod1, Bool.not_true, Bool.not_false, List.map_cons, ct_0, ct_1, ct_2, ct_3, ct_4, ct_5, ct_6, ct_7, ct_8, ct_9, ct_10, ct_11, ct_12, Bool.and_true, Bool.true_and, Bool.and_false, Bool.false_and, x_revL, x_revT, -x_lenT, c5, c6, hn, hi, hx, hy]
theorem prod_by {n m a b : Nat} {f : Nat → Int} (t : Tab m f) (h : a + b < m) : callT T (n + 4) 7 [.v (.tuple (il (fl m f))), .v (.int (a : Nat)), .v (.int (b : Nat))] = some (.v (.int (f (a + b) - f ((a : Int) - b).natAbs)), [.v (.tuple (il (fl m f))), .v (.int (a : Nat)), .v (.int (b : Nat))]) := by
  rw [y_tc (f := f_product_by) rfl]
  have := t.2.1
  exact pb_g (chk_tab t) (ent (by omega) (by omega) (by omega) (by omega)) il_len (by rw [fl_len]; omega) (at_f (i := a + b) (by omega) (by omega)) (at_f (i := ((a : Int) - b).natAbs) (by split <;> omega) (by omega))
/-! judging -/
abbrev t12 : Tg := (.tup (.cons (.nm 1) (.cons (.nm 2) .nil)))
abbrev sW : D := .str (PySem.Str.ofString "wrong")
abbrev sR : D := .str (PySem.Str.ofString "right")
theorem enm_fl {m : Nat} {f : Nat → Int} : enmL 0 (il (fl m f)) = (List.range m).map fun i : Nat => .tuple [.int (i : Nat), .int (f i)] := by
  rw [il, enm_map]
  refine List.ext_getElem (by rw [List.length_map, List.length_zipIdx, fl_len, List.length_map, List.length_range]) fun i h1 h2 => ?_
  simp [fl]
theorem jt_s {C : CT} {P : D} {i e : Int} {s t : Sl} (es : Emp s) (et : Emp t) (hi : -18446744073709551616 < i ∧ i < 18446744073709551616) : bindT t12 (.tuple [.int i, .int e]) [.v P, s, t] = some [.v P, .v (.int i), .v (.int e)] ∧
    (e = i * i / 4 → evSs C f_judge_table_b1 [.v P, .v (.int i), .v (.int e)] = some (.nx [.v P, .v (.int i), .v (.int e)])) ∧ (¬ e = i * i / 4 → evSs C f_judge_table_b1 [.v P, .v (.int i), .v (.int e)] = some (.rt (.v (.tuple [sW, .int i])) [.v P, .v (.int i), .v (.int e)])) := by
  refine ⟨?_, fun h => ?_, fun h => ?_⟩
  · cases s <;> first | (exact es.elim) | (cases t <;> first | (exact et.elim) | simp -implicitDefEqProofs only [E.var?, y_con, y_varF, y_varT, y_glo, y_bin, y_neg, y_notT, y_notF, y_andT, y_andF, y_orT, y_orF, y_ite, y_cmp, y_chain, y_tup, y_lst, y_rep, y_idx, y_slice, y_rev, y_call, y_b1, y_b2, y_isI, y_lrng, y_compN, y_compS, y_esN, y_esC, y_rsN, y_rsC, y_asN, y_asV, y_asI, y_oN, y_oS, y_itS, y_it1, y_it2, y_asg, y_par, y_stp, y_unp, y_st, y_app, y_expr, y_iteS, y_for, y_retN, y_pass, y_brk, y_cont, y_raise, y_ssN, y_ssC, y_tasN, y_tasC, y_taN, y_taS, y_aug, y_augV, y_ret, y_retS, y_retE, y_enm, y_enmL, y_enmT, y_zip, y_zipL, y_zipT, y_ext, y_extO, y_seqL, y_seqT, y_nsN, y_nsC, y_tgN, y_tgT, y_tgL, y_tgsN, y_tgsC, y_forN, y_forC, y_cmN, y_cmC, y_wipN, y_wipC, y_wipU, y_wipV, y_bakN, y_bakC, y_chainE, y_chain3, y_chain3E, y_it3, y_nodN, y_ioL, y_ioR, y_argN, y_argL, y_argR, y_argO, y_argI, y_bkN, y_bkL, y_bkR, y_bkO, y_bkI, y_callE, y_outN, y_outR, x_op1, x_op2, x_opdS, x_opdN, x_getS, x_getV, x_slV, x_slO, x_slI, x_rd, x_rdV, x_rdO, x_asg, x_asgU, x_asgV, x_asgO, x_ret, x_retV, x_retO, x_put, x_putO, x_putI, x_add, x_adO, x_adI, x_own, x_ownO, x_ownI, x_base, x_finF, x_finT, x_asB, x_ofB, x_bindB, x_withE, x_dV, x_dO, x_sV, x_sO, x_seqN, x_seqR, x_seqB, x_seqC, x_turnN, x_turnC, x_turnB, x_turnR, x_add', x_sub', x_lt, x_le, x_gt, x_ge, x_eq, x_ne, x_is, x_isn, x_inn, x_nin, shaped_int, shaped_bool, shaped_none, x_eqI, x_eqN, x_eqB, x_eqT2, x_eqT3, x_sz1, x_sz2, x_sz3, x_sz4, x_sz5, x_sz6, truN, truB, truI, x_isNn, x_isNi, x_isNt, x_isNl, x_isIi, x_isIb, x_isBb, x_isBi, x_isTt, x_isLl, x_isTl, x_isLt, x_len, x_lenT, x_abs, x_int, x_intq, x_ixL, x_ixT, at_0, at_1, at_2, at_3, at_4, at_5, z_0, z_1, z_2, z_3, z_4, z_5, z_6, z_7, z_8, z_9, z_10, z_11, z_12, w_0, w_1, w_2, w_3, w_4, w_5, w_6, w_7, w_8, w_9, w_10, w_11, w_12, ix_1_0, ix_2_0, ix_2_1, ix_3_0, ix_3_1, ix_3_2, ix_4_0, ix_4_1, ix_4_2, ix_4_3, ix_5_0, ix_5_1, ix_5_2, ix_5_3, ix_5_4, ix_6_0, ix_6_1, ix_6_2, ix_6_3, ix_6_4, ix_6_5, ix_7_0, ix_7_1, ix_7_2, ix_7_3, ix_7_4, ix_7_5, ix_7_6, Option.map_some, Option.bind_some, Option.map_none, Option.bind_none, List.getElem?_cons_zero, List.getElem?_cons_succ, List.set_cons_zero, List.set_cons_succ, List.cons_append, List.nil_append, List.length_cons, List.length_nil, List.replicate, if_true, Bool.false_eq_true, if_false, reduceIte, Nat.reduceAdd, Nat.reduceSub, List.append_nil, List.take_succ_cons, List.take_zero, List.map_nil, Option.getD_some, decide_true, decide_false, List.nodup_nil, y_nod1, Bool.not_true, Bool.not_false, List.map_cons, ct_0, ct_1, ct_2, ct_3, ct_4, ct_5, ct_6, ct_7, ct_8, ct_9, ct_10, ct_11, ct_12, Bool.and_true, Bool.true_and, Bool.and_false, Bool.false_and, x_revL, x_revT])
  · have h' := decide_eq_true h
    simp -implicitDefEqProofs only [f_judge_table_b1, E.var?, y_con, y_varF, y_varT, y_glo, y_bin, y_neg, y_notT, y_notF, y_andT, y_andF, y_orT, y_orF, y_ite, y_cmp, y_chain, y_tup, y_lst, y_rep, y_idx, y_slice, y_rev, y_call, y_b1, y_b2, y_isI, y_lrng, y_compN, y_compS, y_esN, y_esC, y_rsN, y_rsC, y_asN, y_asV, y_asI, y_oN, y_oS, y_itS, y_it1, y_it2, y_asg, y_par, y_stp, y_unp, y_st, y_app, y_expr, y_iteS, y_for, y_retN, y_pass, y_brk, y_cont, y_raise, y_ssN, y_ssC, y_tasN, y_tasC, y_taN, y_taS, y_aug, y_augV, y_ret, y_retS, y_retE, y_enm, y_enmL, y_enmT, y_zip, y_zipL, y_zipT, y_ext, y_extO, y_seqL, y_seqT, y_nsN, y_nsC, y_tgN, y_tgT, y_tgL, y_tgsN, y_tgsC, y_forN, y_forC, y_cmN, y_cmC, y_wipN, y_wipC, y_wipU, y_wipV, y_bakN, y_bakC, y_chainE, y_chain3, y_chain3E, y_it3, y_nodN, y_ioL, y_ioR, y_argN, y_argL, y_argR, y_argO, y_argI, y_bkN, y_bkL, y_bkR, y_bkO, y_bkI, y_callE, y_outN, y_outR, x_op1, x_op2, x_opdS, x_opdN, x_getS, x_getV, x_slV, x_slO, x_slI, x_rd, x_rdV, x_rdO, x_asg, x_asgU, x_asgV, x_asgO, x_ret, x_retV, x_retO, x_put, x_putO, x_putI, x_add, x_adO, x_adI, x_own, x_ownO, x_ownI, x_base, x_finF, x_finT, x_asB, x_ofB, x_bindB, x_withE, x_dV, x_dO, x_sV, x_sO, x_seqN, x_seqR, x_seqB, x_seqC, x_turnN, x_turnC, x_turnB, x_turnR, x_add', x_sub', x_lt, x_le, x_gt, x_ge, x_eq, x_ne, x_is, x_isn, x_inn, x_nin, shaped_int, shaped_bool, shaped_none, x_eqI, x_eqN, x_eqB, x_eqT2, x_eqT3, x_sz1, x_sz2, x_sz3, x_sz4, x_sz5, x_sz6, truN, truB, truI, x_isNn, x_isNi, x_isNt, x_isNl, x_isIi, x_isIb, x_isBb, x_isBi, x_isTt, x_isLl, x_isTl, x_isLt, x_len, x_lenT, x_abs, x_int, x_intq, x_ixL, x_ixT, at_0, at_1, at_2, at_3, at_4, at_5, z_0, z_1, z_2, z_3, z_4, z_5, z_6, z_7, z_8, z_9, z_10, z_11, z_12, w_0, w_1, w_2, w_3, w_4, w_5, w_6, w_7, w_8, w_9, w_10, w_11, w_12, ix_1_0, ix_2_0, ix_2_1, ix_3_0, ix_3_1, ix_3_2, ix_4_0, ix_4_1, ix_4_2, ix_4_3, ix_5_0, ix_5_1, ix_5_2, ix_5_3, ix_5_4, ix_6_0, ix_6_1, ix_6_2, ix_6_3, ix_6_4, ix_6_5, ix_7_0, ix_7_1, ix_7_2, ix_7_3, ix_7_4, ix_7_5, ix_7_6, Option.map_some, Option.bind_some, Option.map_none, Option.bind_none, List.getElem?_cons_zero, List.getElem?_cons_succ, List.set_cons_zero, List.set_cons_succ, List.cons_append, List.nil_append, List.length_cons, List.length_nil, List.replicate, if_true, Bool.false_eq_true, if_false, reduceIte, Nat.reduceAdd, Nat.reduceSub, List.append_nil, List.take_succ_cons, List.take_zero, List.map_nil, Option.getD_some, decide_true, decide_false, List.nodup_nil, y_nod1, Bool.not_true, Bool.not_false, List.map_cons, ct_0, ct_1, ct_2, ct_3, ct_4, ct_5, ct_6, ct_7, ct_8, ct_9, ct_10, ct_11, ct_12, Bool.and_true, Bool.true_and, Bool.and_false, Bool.false_and, x_revL, x_revT, x_mulD hi, x_fdivD four2, h']
  · have h' := decide_eq_false h
    simp -implicitDefEqProofs only [f_judge_table_b1, E.var?, y_con, y_varF, y_varT, y_glo, y_bin, y_neg, y_notT, y_notF, y_andT, y_andF, y_orT, y_orF, y_ite, y_cmp, y_chain, y_tup, y_lst, y_rep, y_idx, y_slice, y_rev, y_call, y_b1, y_b2, y_isI, y_lrng, y_compN, y_compS, y_esN, y_esC, y_rsN, y_rsC, y_asN, y_asV, y_asI, y_oN, y_oS, y_itS, y_it1, y_it2, y_asg, y_par, y_stp, y_unp, y_st, y_app, y_expr, y_iteS, y_for, y_retN, y_pass, y_brk, y_cont, y_raise, y_ssN, y_ssC, y_tasN, y_tasC, y_taN, y_taS, y_aug, y_augV, y_ret, y_retS, y_retE, y_enm, y_enmL, y_enmT, y_zip, y_zipL, y_zipT, y_ext, y_extO, y_seqL, y_seqT, y_nsN, y_nsC, y_tgN, y_tgT, y_tgL, y_tgsN, y_tgsC, y_forN, y_forC, y_cmN, y_cmC, y_wipN, y_wipC, y_wipU, y_wipV, y_bakN, y_bakC, y_chainE, y_chain3, y_chain3E, y_it3, y_nodN, y_ioL, y_ioR, y_argN, y_argL, y_argR, y_argO, y_argI, y_bkN, y_bkL, y_bkR, y_bkO, y_bkI, y_callE, y_outN, y_outR, x_op1, x_op2, x_opdS, x_opdN, x_getS, x_getV, x_slV, x_slO, x_slI, x_rd, x_rdV, x_rdO, x_asg, x_asgU, x_asgV, x_asgO, x_ret, x_retV, x_retO, x_put, x_putO, x_putI, x_add, x_adO, x_adI, x_own, x_ownO, x_ownI, x_base, x_finF, x_finT, x_asB, x_ofB, x_bindB, x_withE, x_dV, x_dO, x_sV, x_sO, x_seqN, x_seqR, x_seqB, x_seqC, x_turnN, x_turnC, x_turnB, x_turnR, x_add', x_sub', x_lt, x_le, x_gt, x_ge, x_eq, x_ne, x_is, x_isn, x_inn, x_nin, shaped_int, shaped_bool, shaped_none, x_eqI, x_eqN, x_eqB, x_eqT2, x_eqT3, x_sz1, x_sz2, x_sz3, x_sz4, x_sz5, x_sz6, truN, truB, truI, x_isNn, x_isNi, x_isNt, x_isNl, x_isIi, x_isIb, x_isBb, x_isBi, x_isTt, x_isLl, x_isTl, x_isLt, x_len, x_lenT, x_abs, x_int, x_intq, x_ixL, x_ixT, at_0, at_1, at_2, at_3, at_4, at_5, z_0, z_1, z_2, z_3, z_4, z_5, z_6, z_7, z_8, z_9, z_10, z_11, z_12, w_0, w_1, w_2, w_3, w_4, w_5, w_6, w_7, w_8, w_9, w_10, w_11, w_12, ix_1_0, ix_2_0, ix_2_1, ix_3_0, ix_3_1, ix_3_2, ix_4_0, ix_4_1, ix_4_2, ix_4_3, ix_5_0, ix_5_1, ix_5_2, ix_5_3, ix_5_4, ix_6_0, ix_6_1, ix_6_2, ix_6_3, ix_6_4, ix_6_5, ix_7_0, ix_7_1, ix_7_2, ix_7_3, ix_7_4, ix_7_5, ix_7_6, Option.map_some, Option.bind_some, Option.map_none, Option.bind_none, List.getElem?_cons_zero, List.getElem?_cons_succ, List.set_cons_zero, List.set_cons_succ, List.cons_append, List.nil_append, List.length_cons, List.length_nil, List.replicate, if_true, Bool.false_eq_true, if_false, reduceIte, Nat.reduceAdd, Nat.reduceSub, List.append_nil, List.take_succ_cons, List.take_zero, List.map_nil, Option.getD_some, decide_true, decide_false, List.nodup_nil, y_nod1, Bool.not_true, Bool.not_false, List.map_cons, ct_0, ct_1, ct_2, ct_3, ct_4, ct_5, ct_6, ct_7, ct_8, ct_9, ct_10, ct_11, ct_12, Bool.and_true, Bool.true_and, Bool.and_false, Bool.false_and, x_revL, x_revT, x_mulD hi, x_fdivD four2, h']
theorem jt_g {C : CT} {X : List D} {s t : Sl} (c5 : C 5 [.v (.tuple X)] = some (.v .none, [.v (.tuple X)])) (h : forl (bindT t12) (evSs C f_judge_table_b1) (enmL 0 X) [.v (.tuple X), .un, .un] = some (.nx [.v (.tuple X), s, t])) : runFn C f_judge_table [.v (.tuple X)] = some (.v (.tuple [sR]), [.v (.tuple X)]) := by
  rw [y_run (by rfl)]
  simp -implicitDefEqProofs only [f_judge_table, E.var?, y_con, y_varF, y_varT, y_glo, y_bin, y_neg, y_notT, y_notF, y_andT, y_andF, y_orT, y_orF, y_ite, y_cmp, y_chain, y_tup, y_lst, y_rep, y_idx, y_slice, y_rev, y_call, y_b1, y_b2, y_isI, y_lrng, y_compN, y_compS, y_esN, y_esC, y_rsN, y_rsC, y_asN, y_asV, y_asI, y_oN, y_oS, y_itS, y_it1, y_it2, y_asg, y_par, y_stp, y_unp, y_st, y_app, y_expr, y_iteS, y_for, y_retN, y_pass, y_brk, y_cont, y_raise, y_ssN, y_ssC, y_tasN, y_tasC, y_taN, y_taS, y_aug, y_augV, y_ret, y_retS, y_retE, y_enm, y_enmL, y_enmT, y_zip, y_zipL, y_zipT, y_ext, y_extO, y_seqL, y_seqT, y_nsN, y_nsC, y_tgN, y_tgT, y_tgL, y_tgsN, y_tgsC, y_forN, y_forC, y_cmN, y_cmC, y_wipN, y_wipC, y_wipU, y_wipV, y_bakN, y_bakC, y_chainE, y_chain3, y_chain3E, y_it3, y_nodN, y_ioL, y_ioR, y_argN, y_argL, y_argR, y_argO, y_argI, y_bkN, y_bkL, y_bkR, y_bkO, y_bkI, y_callE, y_outN, y_outR, x_op1, x_op2, x_opdS, x_opdN, x_getS, x_getV, x_slV, x_slO, x_slI, x_rd, x_rdV, x_rdO, x_asg, x_asgU, x_asgV, x_asgO, x_ret, x_retV, x_retO, x_put, x_putO, x_putI, x_add, x_adO, x_adI, x_own, x_ownO, x_ownI, x_base, x_finF, x_finT, x_asB, x_ofB, x_bindB, x_withE, x_dV, x_dO, x_sV, x_sO, x_seqN, x_seqR, x_seqB, x_seqC, x_turnN, x_turnC, x_turnB, x_turnR, x_add', x_sub', x_lt, x_le, x_gt, x_ge, x_eq, x_ne, x_is, x_isn, x_inn, x_nin, shaped_int, shaped_bool, shaped_none, x_eqI, x_eqN, x_eqB, x_eqT2, x_eqT3, x_sz1, x_sz2, x_sz3, x_sz4, x_sz5, x_sz6, truN, truB, truI, x_isNn, x_isNi, x_isNt, x_isNl, x_isIi, x_isIb, x_isBb, x_isBi, x_isTt, x_isLl, x_isTl, x_isLt, x_len, x_lenT, x_abs, x_int, x_intq, x_ixL, x_ixT, at_0, at_1, at_2, at_3, at_4, at_5, z_0, z_1, z_2, z_3, z_4, z_5, z_6, z_7, z_8, z_9, z_10, z_11, z_12, w_0, w_1, w_2, w_3, w_4, w_5, w_6, w_7, w_8, w_9, w_10, w_11, w_12, ix_1_0, ix_2_0, ix_2_1, ix_3_0, ix_3_1, ix_3_2, ix_4_0, ix_4_1, ix_4_2, ix_4_3, ix_5_0, ix_5_1, ix_5_2, ix_5_3, ix_5_4, ix_6_0, ix_6_1, ix_6_2, ix_6_3, ix_6_4, ix_6_5, ix_7_0, ix_7_1, ix_7_2, ix_7_3, ix_7_4, ix_7_5, ix_7_6, Option.map_some, Option.bind_some, Option.map_none, Option.bind_none, List.getElem?_cons_zero, List.getElem?_cons_succ, List.set_cons_zero, List.set_cons_succ, List.cons_append, List.nil_append, List.length_cons, List.length_nil, List.replicate, if_true, Bool.false_eq_true, if_false, reduceIte, Nat.reduceAdd, Nat.reduceSub, List.append_nil, List.take_succ_cons, List.take_zero, List.map_nil, Option.getD_some, decide_true, decide_false, List.nodup_nil, y_nod1, Bool.not_true, Bool.not_false, List.map_cons, ct_0, ct_1, ct_2, ct_3, ct_4, ct_5, ct_6, ct_7, ct_8, ct_9, ct_10, ct_11, ct_12, Bool.and_true, Bool.true_and, Bool.and_false, Bool.false_and, x_revL, x_revT, c5, h]
theorem jt_w {C : CT} {X : List D} {r : D} {s t : Sl} (c5 : C 5 [.v (.tuple X)] = some (.v .none, [.v (.tuple X)])) (h : forl (bindT t12) (evSs C f_judge_table_b1) (enmL 0 X) [.v (.tuple X), .un, .un] = some (.rt (.v r) [.v (.tuple X), s, t])) : runFn C f_judge_table [.v (.tuple X)] = some (.v r, [.v (.tuple X)]) := by
  rw [y_run (by rfl)]
  simp -implicitDefEqProofs only [f_judge_table, E.var?, y_con, y_varF, y_varT, y_glo, y_bin, y_neg, y_notT, y_notF, y_andT, y_andF, y_orT, y_orF, y_ite, y_cmp, y_chain, y_tup, y_lst, y_rep, y_idx, y_slice, y_rev, y_call, y_b1, y_b2, y_isI, y_lrng, y_compN, y_compS, y_esN, y_esC, y_rsN, y_rsC, y_asN, y_asV, y_asI, y_oN, y_oS, y_itS, y_it1, y_it2, y_asg, y_par, y_stp, y_unp, y_st, y_app, y_expr, y_iteS, y_for, y_retN, y_pass, y_brk, y_cont, y_raise, y_ssN, y_ssC, y_tasN, y_tasC, y_taN, y_taS, y_aug, y_augV, y_ret, y_retS, y_retE, y_enm, y_enmL, y_enmT, y_zip, y_zipL, y_zipT, y_ext, y_extO, y_seqL, y_seqT, y_nsN, y_nsC, y_tgN, y_tgT, y_tgL, y_tgsN, y_tgsC, y_forN, y_forC, y_cmN, y_cmC, y_wipN, y_wipC, y_wipU, y_wipV, y_bakN, y_bakC, y_chainE, y_chain3, y_chain3E, y_it3, y_nodN, y_ioL, y_ioR, y_argN, y_argL, y_argR, y_argO, y_argI, y_bkN, y_bkL, y_bkR, y_bkO, y_bkI, y_callE, y_outN, y_outR, x_op1, x_op2, x_opdS, x_opdN, x_getS, x_getV, x_slV, x_slO, x_slI, x_rd, x_rdV, x_rdO, x_asg, x_asgU, x_asgV, x_asgO, x_ret, x_retV, x_retO, x_put, x_putO, x_putI, x_add, x_adO, x_adI, x_own, x_ownO, x_ownI, x_base, x_finF, x_finT, x_asB, x_ofB, x_bindB, x_withE, x_dV, x_dO, x_sV, x_sO, x_seqN, x_seqR, x_seqB, x_seqC, x_turnN, x_turnC, x_turnB, x_turnR, x_add', x_sub', x_lt, x_le, x_gt, x_ge, x_eq, x_ne, x_is, x_isn, x_inn, x_nin, shaped_int, shaped_bool, shaped_none, x_eqI, x_eqN, x_eqB, x_eqT2, x_eqT3, x_sz1, x_sz2, x_sz3, x_sz4, x_sz5, x_sz6, truN, truB, truI, x_isNn, x_isNi, x_isNt, x_isNl, x_isIi, x_isIb, x_isBb, x_isBi, x_isTt, x_isLl, x_isTl, x_isLt, x_len, x_lenT, x_abs, x_int, x_intq, x_ixL, x_ixT, at_0, at_1, at_2, at_3, at_4, at_5, z_0, z_1, z_2, z_3, z_4, z_5, z_6, z_7, z_8, z_9, z_10, z_11, z_12, w_0, w_1, w_2, w_3, w_4, w_5, w_6, w_7, w_8, w_9, w_10, w_11, w_12, ix_1_0, ix_2_0, ix_2_1, ix_3_0, ix_3_1, ix_3_2, ix_4_0, ix_4_1, ix_4_2, ix_4_3, ix_5_0, ix_5_1, ix_5_2, ix_5_3, ix_5_4, ix_6_0, ix_6_1, ix_6_2, ix_6_3, ix_6_4, ix_6_5, ix_7_0, ix_7_1, ix_7_2, ix_7_3, ix_7_4, ix_7_5, ix_7_6, Option.map_some, Option.bind_some, Option.map_none, Option.bind_none, List.getElem?_cons_zero, List.getElem?_cons_succ, List.set_cons_zero, List.set_cons_succ, List.cons_append, List.nil_append, List.length_cons, List.length_nil, List.replicate, if_true, Bool.false_eq_true, if_false, reduceIte, Nat.reduceAdd, Nat.reduceSub, List.append_nil, List.take_succ_cons, List.take_zero, List.map_nil, Option.getD_some, decide_true, decide_false, List.nodup_nil, y_nod1, Bool.not_true, Bool.not_false, List.map_cons, ct_0, ct_1, ct_2, ct_3, ct_4, ct_5, ct_6, ct_7, ct_8, ct_9, ct_10, ct_11, ct_12, Bool.and_true, Bool.true_and, Bool.and_false, Bool.false_and, x_revL, x_revT, c5, h]
theorem forl_pre {α : Type} {d : α → D} {g : D → Ev → Option Ev} {b : Ev → Option Out} {Ok : Ev → Prop} {P : Rs → Ev → Prop} (x : α) (post : List α) (hx : ∀ e, Ok e → ∃ e1 r e2, g (d x) e = some e1 ∧ b e1 = some (.rt r e2) ∧ P r e2) :
    ∀ (pre : List α) (_ : ∀ a ∈ pre, ∀ e, Ok e → ∃ e1 e2, g (d a) e = some e1 ∧ b e1 = some (.nx e2) ∧ Ok e2) (e : Ev), Ok e → ∃ r e', forl g b ((pre ++ x :: post).map d) e = some (.rt r e') ∧ P r e'
  | [], _, e, h => by
    obtain ⟨e1, r, e2, h1, h2, h3⟩ := hx e h
    exact ⟨r, e2, by rw [List.nil_append, List.map_cons, y_forC, h1, Option.bind_some, h2]; rfl, h3⟩
  | a :: pre, st, e, h => by
    obtain ⟨e1, e2, h1, h2, h3⟩ := st a (List.mem_cons_self ..) e h
    obtain ⟨r, e', h4, h5⟩ := forl_pre x post hx pre (fun y hy => st y (List.mem_cons_of_mem _ hy)) e2 h3
    exact ⟨r, e', by rw [List.cons_append, List.map_cons, y_forC, h1, Option.bind_some, h2, x_turnN]; exact h4, h5⟩
theorem split_range {n k : Nat} (h : k < n) : List.range n = List.range k ++ k :: (List.range n).drop (k + 1) := by
  have hl : k < (List.range n).length := by rw [List.length_range]; exact h
  have := List.drop_eq_getElem_cons hl
  rw [List.getElem_range] at this
  rw [← this]
  conv => lhs; rw [← List.take_append_drop k (List.range n)]
  rw [List.take_range, Nat.min_eq_left (by omega)]
theorem judge_r {n m : Nat} (t : Tab m qf) : callT T (n + 4) 8 [.v (.tuple (il (fl m qf)))] = some (.v (.tuple [sR]), [.v (.tuple (il (fl m qf)))]) := by
  rw [y_tc (f := f_judge_table) rfl]
  have := t.2.1
  obtain ⟨e', ⟨s, u, es, eu, rfl⟩, h⟩ := forl_ok (g := bindT t12) (b := evSs (callT T (n + 3)) f_judge_table_b1) (d := fun i : Nat => .tuple [.int (i : Nat), .int (qf i)]) (Ok := fun e => ∃ s u, Emp s ∧ Emp u ∧ e = [.v (.tuple (il (fl m qf))), s, u]) (List.range m) (fun i hi e => by
    rintro ⟨s, u, es, eu, rfl⟩
    have hi := List.mem_range.mp hi
    obtain ⟨a, b, _⟩ := jt_s (C := callT T (n + 3)) (P := .tuple (il (fl m qf))) (i := (i : Nat)) (e := qf i) es eu (by omega)
    exact ⟨_, _, a, b rfl, .v _, .v _, trivial, trivial, rfl⟩) _ ⟨.un, .un, trivial, trivial, rfl⟩
  rw [← enm_fl] at h
  exact jt_g (chk_tab t) h
theorem judge_w {n m x : Nat} {more : Int} (t : Tab m (wf x more)) (hx : x < m) (hm : more ≠ 0) : callT T (n + 4) 8 [.v (.tuple (il (fl m (wf x more))))] = some (.v (.tuple [sW, .int (x : Nat)]), [.v (.tuple (il (fl m (wf x more))))]) := by
  rw [y_tc (f := f_judge_table) rfl]
  have := t.2.1
  obtain ⟨r, e', h, s, u, rfl, rfl⟩ := forl_pre (g := bindT t12) (b := evSs (callT T (n + 3)) f_judge_table_b1) (d := fun i : Nat => .tuple [.int (i : Nat), .int (wf x more i)]) (Ok := fun e => ∃ s u, Emp s ∧ Emp u ∧ e = [.v (.tuple (il (fl m (wf x more)))), s, u]) (P := fun r e => ∃ s u, r = .v (.tuple [sW, .int (x : Nat)]) ∧ e = [.v (.tuple (il (fl m (wf x more)))), s, u]) x ((List.range m).drop (x + 1)) (fun e => by
    rintro ⟨s, u, es, eu, rfl⟩
    obtain ⟨a, _, b⟩ := jt_s (C := callT T (n + 3)) (P := .tuple (il (fl m (wf x more)))) (i := (x : Nat)) (e := wf x more x) es eu (by omega)
    refine ⟨_, _, _, a, b ?_, _, _, rfl, rfl⟩
    rw [wf, if_pos rfl, qf]; omega) (List.range x) (fun i hi e => by
    rintro ⟨s, u, es, eu, rfl⟩
    have hi := List.mem_range.mp hi
    obtain ⟨a, b, _⟩ := jt_s (C := callT T (n + 3)) (P := .tuple (il (fl m (wf x more)))) (i := (i : Nat)) (e := wf x more i) es eu (by omega)
    refine ⟨_, _, a, b ?_, .v (.int (i : Nat)), .v (.int (wf x more i)), trivial, trivial, rfl⟩
    rw [wf, if_neg (by omega), qf]) _ ⟨.un, .un, trivial, trivial, rfl⟩
  rw [← split_range hx, ← enm_fl] at h
  exact jt_w (chk_tab t) h
/-! faults, mended -/
theorem fa_s {C : CT} {P : D} {i e : Int} (hi : -18446744073709551616 < i ∧ i < 18446744073709551616) : bindT t12 (.tuple [.int i, .int e]) [.v P, .un, .un] = some [.v P, .v (.int i), .v (.int e)] ∧
    asB (evX C (.cmp .ne (.var 2) (.bin .fdiv (.bin .mul (.var 1) (.var 1)) (.con (.int 4)))) true [.v P, .v (.int i), .v (.int e)]) = some (!decide (e = i * i / 4), [.v P, .v (.int i), .v (.int e)]) ∧
    evX C f_faults_e1 false [.v P, .v (.int i), .v (.int e)] = some (.v (.tuple [.int i, .int (e - i * i / 4)]), [.v P, .v (.int i), .v (.int e)]) ∧ wipeE [.v P, .v (.int i), .v (.int e)] [1, 2] = some [.v P, .un, .un] := by
  refine ⟨?_, ?_, ?_, ?_⟩ <;> simp -implicitDefEqProofs only [f_faults_e1, E.var?, y_con, y_varF, y_varT, y_glo, y_bin, y_neg, y_notT, y_notF, y_andT, y_andF, y_orT, y_orF, y_ite, y_cmp, y_chain, y_tup, y_lst, y_rep, y_idx, y_slice, y_rev, y_call, y_b1, y_b2, y_isI, y_lrng, y_compN, y_compS, y_esN, y_esC, y_rsN, y_rsC, y_asN, y_asV, y_asI, y_oN, y_oS, y_itS, y_it1, y_it2, y_asg, y_par, y_stp, y_unp, y_st, y_app, y_expr, y_iteS, y_for, y_retN, y_pass, y_brk, y_cont, y_raise, y_ssN, y_ssC, y_tasN, y_tasC, y_taN, y_taS, y_aug, y_augV, y_ret, y_retS, y_retE, y_enm, y_enmL, y_enmT, y_zip, y_zipL, y_zipT, y_ext, y_extO, y_seqL, y_seqT, y_nsN, y_nsC, y_tgN, y_tgT, y_tgL, y_tgsN, y_tgsC, y_forN, y_forC, y_cmN, y_cmC, y_wipN, y_wipC, y_wipU, y_wipV, y_bakN, y_bakC, y_chainE, y_chain3, y_chain3E, y_it3, y_nodN, y_ioL, y_ioR, y_argN, y_argL, y_argR, y_argO, y_argI, y_bkN, y_bkL, y_bkR, y_bkO, y_bkI, y_callE, y_outN, y_outR, x_op1, x_op2, x_opdS, x_opdN, x_getS, x_getV, x_slV, x_slO, x_slI, x_rd, x_rdV, x_rdO, x_asg, x_asgU, x_asgV, x_asgO, x_ret, x_retV, x_retO, x_put, x_putO, x_putI, x_add, x_adO, x_adI, x_own, x_ownO, x_ownI, x_base, x_finF, x_finT, x_asB, x_ofB, x_bindB, x_withE, x_dV, x_dO, x_sV, x_sO, x_seqN, x_seqR, x_seqB, x_seqC, x_turnN, x_turnC, x_turnB, x_turnR, x_add', x_sub', x_lt, x_le, x_gt, x_ge, x_eq, x_ne, x_is, x_isn, x_inn, x_nin, shaped_int, shaped_bool, shaped_none, x_eqI, x_eqN, x_eqB, x_eqT2, x_eqT3, x_sz1, x_sz2, x_sz3, x_sz4, x_sz5, x_sz6, truN, truB, truI, x_isNn, x_isNi, x_isNt, x_isNl, x_isIi, x_isIb, x_isBb, x_isBi, x_isTt, x_isLl, x_isTl, x_isLt, x_len, x_lenT, x_abs, x_int, x_intq, x_ixL, x_ixT, at_0, at_1, at_2, at_3, at_4, at_5, z_0, z_1, z_2, z_3, z_4, z_5, z_6, z_7, z_8, z_9, z_10, z_11, z_12, w_0, w_1, w_2, w_3, w_4, w_5, w_6, w_7, w_8, w_9, w_10, w_11, w_12, ix_1_0, ix_2_0, ix_2_1, ix_3_0, ix_3_1, ix_3_2, ix_4_0, ix_4_1, ix_4_2, ix_4_3, ix_5_0, ix_5_1, ix_5_2, ix_5_3, ix_5_4, ix_6_0, ix_6_1, ix_6_2, ix_6_3, ix_6_4, ix_6_5, ix_7_0, ix_7_1, ix_7_2, ix_7_3, ix_7_4, ix_7_5, ix_7_6, Option.map_some, Option.bind_some, Option.map_none, Option.bind_none, List.getElem?_cons_zero, List.getElem?_cons_succ, List.set_cons_zero, List.set_cons_succ, List.cons_append, List.nil_append, List.length_cons, List.length_nil, List.replicate, if_true, Bool.false_eq_true, if_false, reduceIte, Nat.reduceAdd, Nat.reduceSub, List.append_nil, List.take_succ_cons, List.take_zero, List.map_nil, Option.getD_some, decide_true, decide_false, List.nodup_nil, y_nod1, Bool.not_true, Bool.not_false, List.map_cons, ct_0, ct_1, ct_2, ct_3, ct_4, ct_5, ct_6, ct_7, ct_8, ct_9, ct_10, ct_11, ct_12, Bool.and_true, Bool.true_and, Bool.and_false, Bool.false_and, x_revL, x_revT, x_mulD hi, x_fdivD four2]
theorem fa_g {C : CT} {X L : List D} (c5 : C 5 [.v (.tuple X)] = some (.v .none, [.v (.tuple X)])) (h : compE (bindT t12) [1, 2] (fun e => asB (evX C (.cmp .ne (.var 2) (.bin .fdiv (.bin .mul (.var 1) (.var 1)) (.con (.int 4)))) true e)) (evX C f_faults_e1 false) (some (enmL 0 X, [.v (.tuple X), .un, .un])) = some (.o L, [.v (.tuple X), .un, .un])) :
    runFn C f_faults [.v (.tuple X)] = some (.v (.tuple L), [.v (.tuple X)]) := by
  rw [y_run (by rfl)]
  simp -implicitDefEqProofs only [f_faults, E.var?, y_con, y_varF, y_varT, y_glo, y_bin, y_neg, y_notT, y_notF, y_andT, y_andF, y_orT, y_orF, y_ite, y_cmp, y_chain, y_tup, y_lst, y_rep, y_idx, y_slice, y_rev, y_call, y_b1, y_b2, y_isI, y_lrng, y_compN, y_compS, y_esN, y_esC, y_rsN, y_rsC, y_asN, y_asV, y_asI, y_oN, y_oS, y_itS, y_it1, y_it2, y_asg, y_par, y_stp, y_unp, y_st, y_app, y_expr, y_iteS, y_for, y_retN, y_pass, y_brk, y_cont, y_raise, y_ssN, y_ssC, y_tasN, y_tasC, y_taN, y_taS, y_aug, y_augV, y_ret, y_retS, y_retE, y_enm, y_enmL, y_enmT, y_zip, y_zipL, y_zipT, y_ext, y_extO, y_seqL, y_seqT, y_nsN, y_nsC, y_tgN, y_tgT, y_tgL, y_tgsN, y_tgsC, y_forN, y_forC, y_cmN, y_cmC, y_wipN, y_wipC, y_wipU, y_wipV, y_bakN, y_bakC, y_chainE, y_chain3, y_chain3E, y_it3, y_nodN, y_ioL, y_ioR, y_argN, y_argL, y_argR, y_argO, y_argI, y_bkN, y_bkL, y_bkR, y_bkO, y_bkI, y_callE, y_outN, y_outR, x_op1, x_op2, x_opdS, x_opdN, x_getS, x_getV, x_slV, x_slO, x_slI, x_rd, x_rdV, x_rdO, x_asg, x_asgU, x_asgV, x_asgO, x_ret, x_retV, x_retO, x_put, x_putO, x_putI, x_add, x_adO, x_adI, x_own, x_ownO, x_ownI, x_base, x_finF, x_finT, x_asB, x_ofB, x_bindB, x_withE, x_dV, x_dO, x_sV, x_sO, x_seqN, x_seqR, x_seqB, x_seqC, x_turnN, x_turnC, x_turnB, x_turnR, x_add', x_sub', x_lt, x_le, x_gt, x_ge, x_eq, x_ne, x_is, x_isn, x_inn, x_nin, shaped_int, shaped_bool, shaped_none, x_eqI, x_eqN, x_eqB, x_eqT2, x_eqT3, x_sz1, x_sz2, x_sz3, x_sz4, x_sz5, x_sz6, truN, truB, truI, x_isNn, x_isNi, x_isNt, x_isNl, x_isIi, x_isIb, x_isBb, x_isBi, x_isTt, x_isLl, x_isTl, x_isLt, x_len, x_lenT, x_abs, x_int, x_intq, x_ixL, x_ixT, at_0, at_1, at_2, at_3, at_4, at_5, z_0, z_1, z_2, z_3, z_4, z_5, z_6, z_7, z_8, z_9, z_10, z_11, z_12, w_0, w_1, w_2, w_3, w_4, w_5, w_6, w_7, w_8, w_9, w_10, w_11, w_12, ix_1_0, ix_2_0, ix_2_1, ix_3_0, ix_3_1, ix_3_2, ix_4_0, ix_4_1, ix_4_2, ix_4_3, ix_5_0, ix_5_1, ix_5_2, ix_5_3, ix_5_4, ix_6_0, ix_6_1, ix_6_2, ix_6_3, ix_6_4, ix_6_5, ix_7_0, ix_7_1, ix_7_2, ix_7_3, ix_7_4, ix_7_5, ix_7_6, Option.map_some, Option.bind_some, Option.map_none, Option.bind_none, List.getElem?_cons_zero, List.getElem?_cons_succ, List.set_cons_zero, List.set_cons_succ, List.cons_append, List.nil_append, List.length_cons, List.length_nil, List.replicate, if_true, Bool.false_eq_true, if_false, reduceIte, Nat.reduceAdd, Nat.reduceSub, List.append_nil, List.take_succ_cons, List.take_zero, List.map_nil, Option.getD_some, decide_true, decide_false, List.nodup_nil, y_nod1, Bool.not_true, Bool.not_false, List.map_cons, ct_0, ct_1, ct_2, ct_3, ct_4, ct_5, ct_6, ct_7, ct_8, ct_9, ct_10, ct_11, ct_12, Bool.and_true, Bool.true_and, Bool.and_false, Bool.false_and, x_revL, x_revT, c5, h, set_tup]
theorem faults {n m : Nat} {f : Nat → Int} (t : Tab m f) : ∃ L : List D, L.length = ((List.range m).filter fun i => !decide (f i = qf i)).length ∧ callT T (n + 4) 9 [.v (.tuple (il (fl m f)))] = some (.v (.tuple L), [.v (.tuple (il (fl m f)))]) := by
  rw [y_tc (f := f_faults) rfl]
  have z := small
  have := t.2.1
  have h := compE_map (tg := bindT t12) (own := [1, 2]) (test := fun e => asB (evX (callT T (n + 3)) (.cmp .ne (.var 2) (.bin .fdiv (.bin .mul (.var 1) (.var 1)) (.con (.int 4)))) true e)) (elt := evX (callT T (n + 3)) f_faults_e1 false) (d := fun i : Nat => .tuple [.int (i : Nat), .int (f i)]) (p := fun i => !decide (f i = qf i)) (f := fun i => .tuple [.int (i : Nat), .int (f i - (i : Int) * (i : Int) / 4)]) (env := [.v (.tuple (il (fl m f))), .un, .un]) (e0 := [.v (.tuple (il (fl m f))), .un, .un]) (List.range m) rfl (fun i hi => by
    have hi := List.mem_range.mp hi
    obtain ⟨a, b, c, d⟩ := fa_s (C := callT T (n + 3)) (P := .tuple (il (fl m f))) (i := (i : Nat)) (e := f i) (by omega)
    exact ⟨_, _, a, b, fun _ => d, fun _ => ⟨_, _, c, rfl, d⟩⟩) (by rw [List.length_range]; omega)
  rw [← enm_fl] at h
  exact ⟨_, by rw [List.length_map], fa_g (chk_tab t) h⟩
theorem one_bad {m x : Nat} {more : Int} (hx : x < m) (hm : more ≠ 0) : ((List.range m).filter fun i => !decide (wf x more i = qf i)).length = 1 := by
  have e : (List.range m).filter (fun i => !decide (wf x more i = qf i)) = [x] := by
    rw [split_range hx, List.filter_append, List.filter_cons]
    have a : (List.range x).filter (fun i => !decide (wf x more i = qf i)) = [] := List.filter_eq_nil_iff.mpr fun i hi => by
      have := List.mem_range.mp hi
      simp [wf, Nat.ne_of_lt this]
    have b : ((List.range m).drop (x + 1)).filter (fun i => !decide (wf x more i = qf i)) = [] := List.filter_eq_nil_iff.mpr fun i hi => by
      obtain ⟨j, hj, rfl⟩ := List.mem_iff_getElem.mp hi
      rw [List.getElem_drop, List.getElem_range]
      simp [wf]
      intro q; omega
    rw [a, b, if_pos (by simp [wf]; omega)]; rfl
  rw [e]; rfl
theorem me_s {C : CT} {P Q : D} {i : Int} (hi : -18446744073709551616 < i ∧ i < 18446744073709551616) : bindT (.nm 2) (.int i) [.v P, .v Q, .un] = some [.v P, .v Q, .v (.int i)] ∧ evX C f_mended_e1 false [.v P, .v Q, .v (.int i)] = some (.v (.int (i * i / 4)), [.v P, .v Q, .v (.int i)]) ∧ wipeE [.v P, .v Q, .v (.int i)] [2] = some [.v P, .v Q, .un] := by
  refine ⟨?_, ?_, ?_⟩ <;> simp -implicitDefEqProofs only [f_mended_e1, E.var?, y_con, y_varF, y_varT, y_glo, y_bin, y_neg, y_notT, y_notF, y_andT, y_andF, y_orT, y_orF, y_ite, y_cmp, y_chain, y_tup, y_lst, y_rep, y_idx, y_slice, y_rev, y_call, y_b1, y_b2, y_isI, y_lrng, y_compN, y_compS, y_esN, y_esC, y_rsN, y_rsC, y_asN, y_asV, y_asI, y_oN, y_oS, y_itS, y_it1, y_it2, y_asg, y_par, y_stp, y_unp, y_st, y_app, y_expr, y_iteS, y_for, y_retN, y_pass, y_brk, y_cont, y_raise, y_ssN, y_ssC, y_tasN, y_tasC, y_taN, y_taS, y_aug, y_augV, y_ret, y_retS, y_retE, y_enm, y_enmL, y_enmT, y_zip, y_zipL, y_zipT, y_ext, y_extO, y_seqL, y_seqT, y_nsN, y_nsC, y_tgN, y_tgT, y_tgL, y_tgsN, y_tgsC, y_forN, y_forC, y_cmN, y_cmC, y_wipN, y_wipC, y_wipU, y_wipV, y_bakN, y_bakC, y_chainE, y_chain3, y_chain3E, y_it3, y_nodN, y_ioL, y_ioR, y_argN, y_argL, y_argR, y_argO, y_argI, y_bkN, y_bkL, y_bkR, y_bkO, y_bkI, y_callE, y_outN, y_outR, x_op1, x_op2, x_opdS, x_opdN, x_getS, x_getV, x_slV, x_slO, x_slI, x_rd, x_rdV, x_rdO, x_asg, x_asgU, x_asgV, x_asgO, x_ret, x_retV, x_retO, x_put, x_putO, x_putI, x_add, x_adO, x_adI, x_own, x_ownO, x_ownI, x_base, x_finF, x_finT, x_asB, x_ofB, x_bindB, x_withE, x_dV, x_dO, x_sV, x_sO, x_seqN, x_seqR, x_seqB, x_seqC, x_turnN, x_turnC, x_turnB, x_turnR, x_add', x_sub', x_lt, x_le, x_gt, x_ge, x_eq, x_ne, x_is, x_isn, x_inn, x_nin, shaped_int, shaped_bool, shaped_none, x_eqI, x_eqN, x_eqB, x_eqT2, x_eqT3, x_sz1, x_sz2, x_sz3, x_sz4, x_sz5, x_sz6, truN, truB, truI, x_isNn, x_isNi, x_isNt, x_isNl, x_isIi, x_isIb, x_isBb, x_isBi, x_isTt, x_isLl, x_isTl, x_isLt, x_len, x_lenT, x_abs, x_int, x_intq, x_ixL, x_ixT, at_0, at_1, at_2, at_3, at_4, at_5, z_0, z_1, z_2, z_3, z_4, z_5, z_6, z_7, z_8, z_9, z_10, z_11, z_12, w_0, w_1, w_2, w_3, w_4, w_5, w_6, w_7, w_8, w_9, w_10, w_11, w_12, ix_1_0, ix_2_0, ix_2_1, ix_3_0, ix_3_1, ix_3_2, ix_4_0, ix_4_1, ix_4_2, ix_4_3, ix_5_0, ix_5_1, ix_5_2, ix_5_3, ix_5_4, ix_6_0, ix_6_1, ix_6_2, ix_6_3, ix_6_4, ix_6_5, ix_7_0, ix_7_1, ix_7_2, ix_7_3, ix_7_4, ix_7_5, ix_7_6, Option.map_some, Option.bind_some, Option.map_none, Option.bind_none, List.getElem?_cons_zero, List.getElem?_cons_succ, List.set_cons_zero, List.set_cons_succ, List.cons_append, List.nil_append, List.length_cons, List.length_nil, List.replicate, if_true, Bool.false_eq_true, if_false, reduceIte, Nat.reduceAdd, Nat.reduceSub, List.append_nil, List.take_succ_cons, List.take_zero, List.map_nil, Option.getD_some, decide_true, decide_false, List.nodup_nil, y_nod1, Bool.not_true, Bool.not_false, List.map_cons, ct_0, ct_1, ct_2, ct_3, ct_4, ct_5, ct_6, ct_7, ct_8, ct_9, ct_10, ct_11, ct_12, Bool.and_true, Bool.true_and, Bool.and_false, Bool.false_and, x_revL, x_revT, x_mulD hi, x_fdivD four2]
theorem me_g {C : CT} {X L M ns : List D} {m k : Int} (c9 : C 9 [.v (.tuple X)] = some (.v (.tuple L), [.v (.tuple X)])) (hn : b1R .len (.tuple X) = some (.v (.int m))) (hk : b1R .len (.tuple L) = some (.v (.int k))) (hr : rng2 0 m = some ns) (h : compE (bindT (.nm 2)) [2] (fun e => some (true, e)) (evX C f_mended_e1 false) (some (ns, [.v (.tuple X), .v (.tuple L), .un])) = some (.o M, [.v (.tuple X), .v (.tuple L), .un])) :
    runFn C f_mended [.v (.tuple X)] = some (.v (.tuple [.tuple M, .int k]), [.v (.tuple X)]) := by
  rw [y_run (by rfl)]
  simp -implicitDefEqProofs only [f_mended, E.var?, y_con, y_varF, y_varT, y_glo, y_bin, y_neg, y_notT, y_notF, y_andT, y_andF, y_orT, y_orF, y_ite, y_cmp, y_chain, y_tup, y_lst, y_rep, y_idx, y_slice, y_rev, y_call, y_b1, y_b2, y_isI, y_lrng, y_compN, y_compS, y_esN, y_esC, y_rsN, y_rsC, y_asN, y_asV, y_asI, y_oN, y_oS, y_itS, y_it1, y_it2, y_asg, y_par, y_stp, y_unp, y_st, y_app, y_expr, y_iteS, y_for, y_retN, y_pass, y_brk, y_cont, y_raise, y_ssN, y_ssC, y_tasN, y_tasC, y_taN, y_taS, y_aug, y_augV, y_ret, y_retS, y_retE, y_enm, y_enmL, y_enmT, y_zip, y_zipL, y_zipT, y_ext, y_extO, y_seqL, y_seqT, y_nsN, y_nsC, y_tgN, y_tgT, y_tgL, y_tgsN, y_tgsC, y_forN, y_forC, y_cmN, y_cmC, y_wipN, y_wipC, y_wipU, y_wipV, y_bakN, y_bakC, y_chainE, y_chain3, y_chain3E, y_it3, y_nodN, y_ioL, y_ioR, y_argN, y_argL, y_argR, y_argO, y_argI, y_bkN, y_bkL, y_bkR, y_bkO, y_bkI, y_callE, y_outN, y_outR, x_op1, x_op2, x_opdS, x_opdN, x_getS, x_getV, x_slV, x_slO, x_slI, x_rd, x_rdV, x_rdO, x_asg, x_asgU, x_asgV, x_asgO, x_ret, x_retV, x_retO, x_put, x_putO, x_putI, x_add, x_adO, x_adI, x_own, x_ownO, x_ownI, x_base, x_finF, x_finT, x_asB, x_ofB, x_bindB, x_withE, x_dV, x_dO, x_sV, x_sO, x_seqN, x_seqR, x_seqB, x_seqC, x_turnN, x_turnC, x_turnB, x_turnR, x_add', x_sub', x_lt, x_le, x_gt, x_ge, x_eq, x_ne, x_is, x_isn, x_inn, x_nin, shaped_int, shaped_bool, shaped_none, x_eqI, x_eqN, x_eqB, x_eqT2, x_eqT3, x_sz1, x_sz2, x_sz3, x_sz4, x_sz5, x_sz6, truN, truB, truI, x_isNn, x_isNi, x_isNt, x_isNl, x_isIi, x_isIb, x_isBb, x_isBi, x_isTt, x_isLl, x_isTl, x_isLt, x_len, x_lenT, x_abs, x_int, x_intq, x_ixL, x_ixT, at_0, at_1, at_2, at_3, at_4, at_5, z_0, z_1, z_2, z_3, z_4, z_5, z_6, z_7, z_8, z_9, z_10, z_11, z_12, w_0, w_1, w_2, w_3, w_4, w_5, w_6, w_7, w_8, w_9, w_10, w_11, w_12, ix_1_0, ix_2_0, ix_2_1, ix_3_0, ix_3_1, ix_3_2, ix_4_0, ix_4_1, ix_4_2, ix_4_3, ix_5_0, ix_5_1, ix_5_2, ix_5_3, ix_5_4, ix_6_0, ix_6_1, ix_6_2, ix_6_3, ix_6_4, ix_6_5, ix_7_0, ix_7_1, ix_7_2, ix_7_3, ix_7_4, ix_7_5, ix_7_6, Option.map_some, Option.bind_some, Option.map_none, Option.bind_none, List.getElem?_cons_zero, List.getElem?_cons_succ, List.set_cons_zero, List.set_cons_succ, List.cons_append, List.nil_append, List.length_cons, List.length_nil, List.replicate, if_true, Bool.false_eq_true, if_false, reduceIte, Nat.reduceAdd, Nat.reduceSub, List.append_nil, List.take_succ_cons, List.take_zero, List.map_nil, Option.getD_some, decide_true, decide_false, List.nodup_nil, y_nod1, Bool.not_true, Bool.not_false, List.map_cons, ct_0, ct_1, ct_2, ct_3, ct_4, ct_5, ct_6, ct_7, ct_8, ct_9, ct_10, ct_11, ct_12, Bool.and_true, Bool.true_and, Bool.and_false, Bool.false_and, x_revL, x_revT, -x_lenT, c9, hn, hk, hr, h, set_tup]
theorem mended {n m x : Nat} {more : Int} (t : Tab m (wf x more)) (hx : x < m) (hm : more ≠ 0) : callT T (n + 5) 18 [.v (.tuple (il (fl m (wf x more))))] = some (.v (.tuple [.tuple (il (fl m qf)), .int 1]), [.v (.tuple (il (fl m (wf x more))))]) := by
  rw [y_tc (f := f_mended) rfl]
  have z := small
  have := t.2.1
  obtain ⟨L, hL, c9⟩ := faults (n := n) t
  rw [one_bad hx hm] at hL
  have h := compE_all (tg := bindT (.nm 2)) (own := [2]) (elt := evX (callT T (n + 4)) f_mended_e1 false) (d := fun i : Nat => PyData.int (0 + (i : Nat))) (f := fun i => .int (qf i)) (env := [.v (.tuple (il (fl m (wf x more)))), .v (.tuple L), .un]) (e0 := [.v (.tuple (il (fl m (wf x more)))), .v (.tuple L), .un]) (List.range m) rfl (fun i hi => by
    rw [Int.zero_add]
    have hi := List.mem_range.mp hi
    obtain ⟨a, b, c⟩ := me_s (C := callT T (n + 4)) (P := .tuple (il (fl m (wf x more)))) (Q := .tuple L) (i := (i : Nat)) (by omega)
    exact ⟨_, _, _, a, b, rfl, c⟩) (by rw [List.length_range]; omega)
  rw [← ranges_map] at h
  have e : ((List.range m).map fun i => PyData.int (qf i)) = il (fl m qf) := by rw [il, fl, List.map_map]; rfl
  rw [e] at h
  exact me_g c9 (by rw [il_len, fl_len]) (by rw [x_lenT, hL]; rfl) (x_rng (by omega)) h
/-! steps, bends -/
theorem st_s {C : CT} {X : List D} {i x y : Int} (h1 : atI X (i + 1) = some (.int x)) (h2 : atI X i = some (.int y)) : bindT (.nm 1) (.int i) [.v (.tuple X), .un] = some [.v (.tuple X), .v (.int i)] ∧ evX C f_steps_e1 false [.v (.tuple X), .v (.int i)] = some (.v (.int (x - y)), [.v (.tuple X), .v (.int i)]) ∧ wipeE [.v (.tuple X), .v (.int i)] [1] = some [.v (.tuple X), .un] := by
  refine ⟨?_, ?_, ?_⟩ <;> simp -implicitDefEqProofs only [f_steps_e1, E.var?, y_con, y_varF, y_varT, y_glo, y_bin, y_neg, y_notT, y_notF, y_andT, y_andF, y_orT, y_orF, y_ite, y_cmp, y_chain, y_tup, y_lst, y_rep, y_idx, y_slice, y_rev, y_call, y_b1, y_b2, y_isI, y_lrng, y_compN, y_compS, y_esN, y_esC, y_rsN, y_rsC, y_asN, y_asV, y_asI, y_oN, y_oS, y_itS, y_it1, y_it2, y_asg, y_par, y_stp, y_unp, y_st, y_app, y_expr, y_iteS, y_for, y_retN, y_pass, y_brk, y_cont, y_raise, y_ssN, y_ssC, y_tasN, y_tasC, y_taN, y_taS, y_aug, y_augV, y_ret, y_retS, y_retE, y_enm, y_enmL, y_enmT, y_zip, y_zipL, y_zipT, y_ext, y_extO, y_seqL, y_seqT, y_nsN, y_nsC, y_tgN, y_tgT, y_tgL, y_tgsN, y_tgsC, y_forN, y_forC, y_cmN, y_cmC, y_wipN, y_wipC, y_wipU, y_wipV, y_bakN, y_bakC, y_chainE, y_chain3, y_chain3E, y_it3, y_nodN, y_ioL, y_ioR, y_argN, y_argL, y_argR, y_argO, y_argI, y_bkN, y_bkL, y_bkR, y_bkO, y_bkI, y_callE, y_outN, y_outR, x_op1, x_op2, x_opdS, x_opdN, x_getS, x_getV, x_slV, x_slO, x_slI, x_rd, x_rdV, x_rdO, x_asg, x_asgU, x_asgV, x_asgO, x_ret, x_retV, x_retO, x_put, x_putO, x_putI, x_add, x_adO, x_adI, x_own, x_ownO, x_ownI, x_base, x_finF, x_finT, x_asB, x_ofB, x_bindB, x_withE, x_dV, x_dO, x_sV, x_sO, x_seqN, x_seqR, x_seqB, x_seqC, x_turnN, x_turnC, x_turnB, x_turnR, x_add', x_sub', x_lt, x_le, x_gt, x_ge, x_eq, x_ne, x_is, x_isn, x_inn, x_nin, shaped_int, shaped_bool, shaped_none, x_eqI, x_eqN, x_eqB, x_eqT2, x_eqT3, x_sz1, x_sz2, x_sz3, x_sz4, x_sz5, x_sz6, truN, truB, truI, x_isNn, x_isNi, x_isNt, x_isNl, x_isIi, x_isIb, x_isBb, x_isBi, x_isTt, x_isLl, x_isTl, x_isLt, x_len, x_lenT, x_abs, x_int, x_intq, x_ixL, x_ixT, at_0, at_1, at_2, at_3, at_4, at_5, z_0, z_1, z_2, z_3, z_4, z_5, z_6, z_7, z_8, z_9, z_10, z_11, z_12, w_0, w_1, w_2, w_3, w_4, w_5, w_6, w_7, w_8, w_9, w_10, w_11, w_12, ix_1_0, ix_2_0, ix_2_1, ix_3_0, ix_3_1, ix_3_2, ix_4_0, ix_4_1, ix_4_2, ix_4_3, ix_5_0, ix_5_1, ix_5_2, ix_5_3, ix_5_4, ix_6_0, ix_6_1, ix_6_2, ix_6_3, ix_6_4, ix_6_5, ix_7_0, ix_7_1, ix_7_2, ix_7_3, ix_7_4, ix_7_5, ix_7_6, Option.map_some, Option.bind_some, Option.map_none, Option.bind_none, List.getElem?_cons_zero, List.getElem?_cons_succ, List.set_cons_zero, List.set_cons_succ, List.cons_append, List.nil_append, List.length_cons, List.length_nil, List.replicate, if_true, Bool.false_eq_true, if_false, reduceIte, Nat.reduceAdd, Nat.reduceSub, List.append_nil, List.take_succ_cons, List.take_zero, List.map_nil, Option.getD_some, decide_true, decide_false, List.nodup_nil, y_nod1, Bool.not_true, Bool.not_false, List.map_cons, ct_0, ct_1, ct_2, ct_3, ct_4, ct_5, ct_6, ct_7, ct_8, ct_9, ct_10, ct_11, ct_12, Bool.and_true, Bool.true_and, Bool.and_false, Bool.false_and, x_revL, x_revT, h1, h2]
theorem st_g {C : CT} {X L ns : List D} {m : Int} (c5 : C 5 [.v (.tuple X)] = some (.v .none, [.v (.tuple X)])) (hn : b1R .len (.tuple X) = some (.v (.int m))) (hr : rng2 0 (m - 1) = some ns) (h : compE (bindT (.nm 1)) [1] (fun e => some (true, e)) (evX C f_steps_e1 false) (some (ns, [.v (.tuple X), .un])) = some (.o L, [.v (.tuple X), .un])) : runFn C f_steps [.v (.tuple X)] = some (.v (.tuple L), [.v (.tuple X)]) := by
  rw [y_run (by rfl)]
  simp -implicitDefEqProofs only [f_steps, E.var?, y_con, y_varF, y_varT, y_glo, y_bin, y_neg, y_notT, y_notF, y_andT, y_andF, y_orT, y_orF, y_ite, y_cmp, y_chain, y_tup, y_lst, y_rep, y_idx, y_slice, y_rev, y_call, y_b1, y_b2, y_isI, y_lrng, y_compN, y_compS, y_esN, y_esC, y_rsN, y_rsC, y_asN, y_asV, y_asI, y_oN, y_oS, y_itS, y_it1, y_it2, y_asg, y_par, y_stp, y_unp, y_st, y_app, y_expr, y_iteS, y_for, y_retN, y_pass, y_brk, y_cont, y_raise, y_ssN, y_ssC, y_tasN, y_tasC, y_taN, y_taS, y_aug, y_augV, y_ret, y_retS, y_retE, y_enm, y_enmL, y_enmT, y_zip, y_zipL, y_zipT, y_ext, y_extO, y_seqL, y_seqT, y_nsN, y_nsC, y_tgN, y_tgT, y_tgL, y_tgsN, y_tgsC, y_forN, y_forC, y_cmN, y_cmC, y_wipN, y_wipC, y_wipU, y_wipV, y_bakN, y_bakC, y_chainE, y_chain3, y_chain3E, y_it3, y_nodN, y_ioL, y_ioR, y_argN, y_argL, y_argR, y_argO, y_argI, y_bkN, y_bkL, y_bkR, y_bkO, y_bkI, y_callE, y_outN, y_outR, x_op1, x_op2, x_opdS, x_opdN, x_getS, x_getV, x_slV, x_slO, x_slI, x_rd, x_rdV, x_rdO, x_asg, x_asgU, x_asgV, x_asgO, x_ret, x_retV, x_retO, x_put, x_putO, x_putI, x_add, x_adO, x_adI, x_own, x_ownO, x_ownI, x_base, x_finF, x_finT, x_asB, x_ofB, x_bindB, x_withE, x_dV, x_dO, x_sV, x_sO, x_seqN, x_seqR, x_seqB, x_seqC, x_turnN, x_turnC, x_turnB, x_turnR, x_add', x_sub', x_lt, x_le, x_gt, x_ge, x_eq, x_ne, x_is, x_isn, x_inn, x_nin, shaped_int, shaped_bool, shaped_none, x_eqI, x_eqN, x_eqB, x_eqT2, x_eqT3, x_sz1, x_sz2, x_sz3, x_sz4, x_sz5, x_sz6, truN, truB, truI, x_isNn, x_isNi, x_isNt, x_isNl, x_isIi, x_isIb, x_isBb, x_isBi, x_isTt, x_isLl, x_isTl, x_isLt, x_len, x_lenT, x_abs, x_int, x_intq, x_ixL, x_ixT, at_0, at_1, at_2, at_3, at_4, at_5, z_0, z_1, z_2, z_3, z_4, z_5, z_6, z_7, z_8, z_9, z_10, z_11, z_12, w_0, w_1, w_2, w_3, w_4, w_5, w_6, w_7, w_8, w_9, w_10, w_11, w_12, ix_1_0, ix_2_0, ix_2_1, ix_3_0, ix_3_1, ix_3_2, ix_4_0, ix_4_1, ix_4_2, ix_4_3, ix_5_0, ix_5_1, ix_5_2, ix_5_3, ix_5_4, ix_6_0, ix_6_1, ix_6_2, ix_6_3, ix_6_4, ix_6_5, ix_7_0, ix_7_1, ix_7_2, ix_7_3, ix_7_4, ix_7_5, ix_7_6, Option.map_some, Option.bind_some, Option.map_none, Option.bind_none, List.getElem?_cons_zero, List.getElem?_cons_succ, List.set_cons_zero, List.set_cons_succ, List.cons_append, List.nil_append, List.length_cons, List.length_nil, List.replicate, if_true, Bool.false_eq_true, if_false, reduceIte, Nat.reduceAdd, Nat.reduceSub, List.append_nil, List.take_succ_cons, List.take_zero, List.map_nil, Option.getD_some, decide_true, decide_false, List.nodup_nil, y_nod1, Bool.not_true, Bool.not_false, List.map_cons, ct_0, ct_1, ct_2, ct_3, ct_4, ct_5, ct_6, ct_7, ct_8, ct_9, ct_10, ct_11, ct_12, Bool.and_true, Bool.true_and, Bool.and_false, Bool.false_and, x_revL, x_revT, -x_lenT, c5, hn, hr, h, set_tup]
theorem steps {n m : Nat} {f : Nat → Int} (t : Tab m f) : callT T (n + 4) 10 [.v (.tuple (il (fl m f)))] = some (.v (.tuple (il (fl (m - 1) fun i => f (i + 1) - f i))), [.v (.tuple (il (fl m f)))]) := by
  rw [y_tc (f := f_steps) rfl]
  have z := small
  have t1 := t.1
  have t2 := t.2.1
  have h := compE_all (tg := bindT (.nm 1)) (own := [1]) (elt := evX (callT T (n + 3)) f_steps_e1 false) (d := fun i : Nat => PyData.int (0 + (i : Nat))) (f := fun i => .int (f (i + 1) - f i)) (env := [.v (.tuple (il (fl m f))), .un]) (e0 := [.v (.tuple (il (fl m f))), .un]) (List.range (m - 1)) rfl (fun i hi => by
    rw [Int.zero_add]
    have hi := List.mem_range.mp hi
    obtain ⟨a, b, c⟩ := st_s (C := callT T (n + 3)) (X := il (fl m f)) (i := (i : Nat)) (at_f (i := i + 1) (by omega) (by omega)) (at_f (i := i) rfl (by omega))
    exact ⟨_, _, _, a, b, rfl, c⟩) (by rw [List.length_range]; omega)
  rw [← ranges_map] at h
  have e : ((List.range (m - 1)).map fun i => PyData.int (f (i + 1) - f i)) = il (fl (m - 1) fun i => f (i + 1) - f i) := by rw [il, fl, List.map_map]; rfl
  rw [e] at h
  exact st_g (chk_tab t) il_len (by rw [fl_len, show ((m : Nat) : Int) - 1 = ((m - 1 : Nat) : Nat) by omega]; exact x_rng (by omega)) h
theorem be_s {C : CT} {X : List D} {i x y z : Int} {s : Sl} (es : Emp s) (h1 : atI X (i + 1) = some (.int x)) (h2 : atI X i = some (.int y)) (h3 : atI X (i - 1) = some (.int z)) (h : x - 2 * y + z = i % 2) :
    bindT (.nm 2) (.int i) [.v (.tuple X), .o [], s] = some [.v (.tuple X), .o [], .v (.int i)] ∧ evSs C f_bends_b1 [.v (.tuple X), .o [], .v (.int i)] = some (.nx [.v (.tuple X), .o [], .v (.int i)]) := by
  have p : (0 : Int) < 2 := by decide
  constructor
  · cases s <;> first | (exact es.elim) | simp -implicitDefEqProofs only [E.var?, y_con, y_varF, y_varT, y_glo, y_bin, y_neg, y_notT, y_notF, y_andT, y_andF, y_orT, y_orF, y_ite, y_cmp, y_chain, y_tup, y_lst, y_rep, y_idx, y_slice, y_rev, y_call, y_b1, y_b2, y_isI, y_lrng, y_compN, y_compS, y_esN, y_esC, y_rsN, y_rsC, y_asN, y_asV, y_asI, y_oN, y_oS, y_itS, y_it1, y_it2, y_asg, y_par, y_stp, y_unp, y_st, y_app, y_expr, y_iteS, y_for, y_retN, y_pass, y_brk, y_cont, y_raise, y_ssN, y_ssC, y_tasN, y_tasC, y_taN, y_taS, y_aug, y_augV, y_ret, y_retS, y_retE, y_enm, y_enmL, y_enmT, y_zip, y_zipL, y_zipT, y_ext, y_extO, y_seqL, y_seqT, y_nsN, y_nsC, y_tgN, y_tgT, y_tgL, y_tgsN, y_tgsC, y_forN, y_forC, y_cmN, y_cmC, y_wipN, y_wipC, y_wipU, y_wipV, y_bakN, y_bakC, y_chainE, y_chain3, y_chain3E, y_it3, y_nodN, y_ioL, y_ioR, y_argN, y_argL, y_argR, y_argO, y_argI, y_bkN, y_bkL, y_bkR, y_bkO, y_bkI, y_callE, y_outN, y_outR, x_op1, x_op2, x_opdS, x_opdN, x_getS, x_getV, x_slV, x_slO, x_slI, x_rd, x_rdV, x_rdO, x_asg, x_asgU, x_asgV, x_asgO, x_ret, x_retV, x_retO, x_put, x_putO, x_putI, x_add, x_adO, x_adI, x_own, x_ownO, x_ownI, x_base, x_finF, x_finT, x_asB, x_ofB, x_bindB, x_withE, x_dV, x_dO, x_sV, x_sO, x_seqN, x_seqR, x_seqB, x_seqC, x_turnN, x_turnC, x_turnB, x_turnR, x_add', x_sub', x_lt, x_le, x_gt, x_ge, x_eq, x_ne, x_is, x_isn, x_inn, x_nin, shaped_int, shaped_bool, shaped_none, x_eqI, x_eqN, x_eqB, x_eqT2, x_eqT3, x_sz1, x_sz2, x_sz3, x_sz4, x_sz5, x_sz6, truN, truB, truI, x_isNn, x_isNi, x_isNt, x_isNl, x_isIi, x_isIb, x_isBb, x_isBi, x_isTt, x_isLl, x_isTl, x_isLt, x_len, x_lenT, x_abs, x_int, x_intq, x_ixL, x_ixT, at_0, at_1, at_2, at_3, at_4, at_5, z_0, z_1, z_2, z_3, z_4, z_5, z_6, z_7, z_8, z_9, z_10, z_11, z_12, w_0, w_1, w_2, w_3, w_4, w_5, w_6, w_7, w_8, w_9, w_10, w_11, w_12, ix_1_0, ix_2_0, ix_2_1, ix_3_0, ix_3_1, ix_3_2, ix_4_0, ix_4_1, ix_4_2, ix_4_3, ix_5_0, ix_5_1, ix_5_2, ix_5_3, ix_5_4, ix_6_0, ix_6_1, ix_6_2, ix_6_3, ix_6_4, ix_6_5, ix_7_0, ix_7_1, ix_7_2, ix_7_3, ix_7_4, ix_7_5, ix_7_6, Option.map_some, Option.bind_some, Option.map_none, Option.bind_none, List.getElem?_cons_zero, List.getElem?_cons_succ, List.set_cons_zero, List.set_cons_succ, List.cons_append, List.nil_append, List.length_cons, List.length_nil, List.replicate, if_true, Bool.false_eq_true, if_false, reduceIte, Nat.reduceAdd, Nat.reduceSub, List.append_nil, List.take_succ_cons, List.take_zero, List.map_nil, Option.getD_some, decide_true, decide_false, List.nodup_nil, y_nod1, Bool.not_true, Bool.not_false, List.map_cons, ct_0, ct_1, ct_2, ct_3, ct_4, ct_5, ct_6, ct_7, ct_8, ct_9, ct_10, ct_11, ct_12, Bool.and_true, Bool.true_and, Bool.and_false, Bool.false_and, x_revL, x_revT]
  · simp -implicitDefEqProofs only [f_bends_b1, E.var?, y_con, y_varF, y_varT, y_glo, y_bin, y_neg, y_notT, y_notF, y_andT, y_andF, y_orT, y_orF, y_ite, y_cmp, y_chain, y_tup, y_lst, y_rep, y_idx, y_slice, y_rev, y_call, y_b1, y_b2, y_isI, y_lrng, y_compN, y_compS, y_esN, y_esC, y_rsN, y_rsC, y_asN, y_asV, y_asI, y_oN, y_oS, y_itS, y_it1, y_it2, y_asg, y_par, y_stp, y_unp, y_st, y_app, y_expr, y_iteS, y_for, y_retN, y_pass, y_brk, y_cont, y_raise, y_ssN, y_ssC, y_tasN, y_tasC, y_taN, y_taS, y_aug, y_augV, y_ret, y_retS, y_retE, y_enm, y_enmL, y_enmT, y_zip, y_zipL, y_zipT, y_ext, y_extO, y_seqL, y_seqT, y_nsN, y_nsC, y_tgN, y_tgT, y_tgL, y_tgsN, y_tgsC, y_forN, y_forC, y_cmN, y_cmC, y_wipN, y_wipC, y_wipU, y_wipV, y_bakN, y_bakC, y_chainE, y_chain3, y_chain3E, y_it3, y_nodN, y_ioL, y_ioR, y_argN, y_argL, y_argR, y_argO, y_argI, y_bkN, y_bkL, y_bkR, y_bkO, y_bkI, y_callE, y_outN, y_outR, x_op1, x_op2, x_opdS, x_opdN, x_getS, x_getV, x_slV, x_slO, x_slI, x_rd, x_rdV, x_rdO, x_asg, x_asgU, x_asgV, x_asgO, x_ret, x_retV, x_retO, x_put, x_putO, x_putI, x_add, x_adO, x_adI, x_own, x_ownO, x_ownI, x_base, x_finF, x_finT, x_asB, x_ofB, x_bindB, x_withE, x_dV, x_dO, x_sV, x_sO, x_seqN, x_seqR, x_seqB, x_seqC, x_turnN, x_turnC, x_turnB, x_turnR, x_add', x_sub', x_lt, x_le, x_gt, x_ge, x_eq, x_ne, x_is, x_isn, x_inn, x_nin, shaped_int, shaped_bool, shaped_none, x_eqI, x_eqN, x_eqB, x_eqT2, x_eqT3, x_sz1, x_sz2, x_sz3, x_sz4, x_sz5, x_sz6, truN, truB, truI, x_isNn, x_isNi, x_isNt, x_isNl, x_isIi, x_isIb, x_isBb, x_isBi, x_isTt, x_isLl, x_isTl, x_isLt, x_len, x_lenT, x_abs, x_int, x_intq, x_ixL, x_ixT, at_0, at_1, at_2, at_3, at_4, at_5, z_0, z_1, z_2, z_3, z_4, z_5, z_6, z_7, z_8, z_9, z_10, z_11, z_12, w_0, w_1, w_2, w_3, w_4, w_5, w_6, w_7, w_8, w_9, w_10, w_11, w_12, ix_1_0, ix_2_0, ix_2_1, ix_3_0, ix_3_1, ix_3_2, ix_4_0, ix_4_1, ix_4_2, ix_4_3, ix_5_0, ix_5_1, ix_5_2, ix_5_3, ix_5_4, ix_6_0, ix_6_1, ix_6_2, ix_6_3, ix_6_4, ix_6_5, ix_7_0, ix_7_1, ix_7_2, ix_7_3, ix_7_4, ix_7_5, ix_7_6, Option.map_some, Option.bind_some, Option.map_none, Option.bind_none, List.getElem?_cons_zero, List.getElem?_cons_succ, List.set_cons_zero, List.set_cons_succ, List.cons_append, List.nil_append, List.length_cons, List.length_nil, List.replicate, if_true, Bool.false_eq_true, if_false, reduceIte, Nat.reduceAdd, Nat.reduceSub, List.append_nil, List.take_succ_cons, List.take_zero, List.map_nil, Option.getD_some, decide_true, decide_false, List.nodup_nil, y_nod1, Bool.not_true, Bool.not_false, List.map_cons, ct_0, ct_1, ct_2, ct_3, ct_4, ct_5, ct_6, ct_7, ct_8, ct_9, ct_10, ct_11, ct_12, Bool.and_true, Bool.true_and, Bool.and_false, Bool.false_and, x_revL, x_revT, h1, h2, h3, x_mulD two1, x_mod p, h]
theorem be_g {C : CT} {X ns : List D} {m : Int} {s : Sl} (c5 : C 5 [.v (.tuple X)] = some (.v .none, [.v (.tuple X)])) (hn : b1R .len (.tuple X) = some (.v (.int m))) (hr : rng2 1 (m - 1) = some ns) (h : forl (bindT (.nm 2)) (evSs C f_bends_b1) ns [.v (.tuple X), .o [], .un] = some (.nx [.v (.tuple X), .o [], s])) : runFn C f_bends [.v (.tuple X)] = some (.v (.tuple []), [.v (.tuple X)]) := by
  rw [y_run (by rfl)]
  simp -implicitDefEqProofs only [f_bends, E.var?, y_con, y_varF, y_varT, y_glo, y_bin, y_neg, y_notT, y_notF, y_andT, y_andF, y_orT, y_orF, y_ite, y_cmp, y_chain, y_tup, y_lst, y_rep, y_idx, y_slice, y_rev, y_call, y_b1, y_b2, y_isI, y_lrng, y_compN, y_compS, y_esN, y_esC, y_rsN, y_rsC, y_asN, y_asV, y_asI, y_oN, y_oS, y_itS, y_it1, y_it2, y_asg, y_par, y_stp, y_unp, y_st, y_app, y_expr, y_iteS, y_for, y_retN, y_pass, y_brk, y_cont, y_raise, y_ssN, y_ssC, y_tasN, y_tasC, y_taN, y_taS, y_aug, y_augV, y_ret, y_retS, y_retE, y_enm, y_enmL, y_enmT, y_zip, y_zipL, y_zipT, y_ext, y_extO, y_seqL, y_seqT, y_nsN, y_nsC, y_tgN, y_tgT, y_tgL, y_tgsN, y_tgsC, y_forN, y_forC, y_cmN, y_cmC, y_wipN, y_wipC, y_wipU, y_wipV, y_bakN, y_bakC, y_chainE, y_chain3, y_chain3E, y_it3, y_nodN, y_ioL, y_ioR, y_argN, y_argL, y_argR, y_argO, y_argI, y_bkN, y_bkL, y_bkR, y_bkO, y_bkI, y_callE, y_outN, y_outR, x_op1, x_op2, x_opdS, x_opdN, x_getS, x_getV, x_slV, x_slO, x_slI, x_rd, x_rdV, x_rdO, x_asg, x_asgU, x_asgV, x_asgO, x_ret, x_retV, x_retO, x_put, x_putO, x_putI, x_add, x_adO, x_adI, x_own, x_ownO, x_ownI, x_base, x_finF, x_finT, x_asB, x_ofB, x_bindB, x_withE, x_dV, x_dO, x_sV, x_sO, x_seqN, x_seqR, x_seqB, x_seqC, x_turnN, x_turnC, x_turnB, x_turnR, x_add', x_sub', x_lt, x_le, x_gt, x_ge, x_eq, x_ne, x_is, x_isn, x_inn, x_nin, shaped_int, shaped_bool, shaped_none, x_eqI, x_eqN, x_eqB, x_eqT2, x_eqT3, x_sz1, x_sz2, x_sz3, x_sz4, x_sz5, x_sz6, truN, truB, truI, x_isNn, x_isNi, x_isNt, x_isNl, x_isIi, x_isIb, x_isBb, x_isBi, x_isTt, x_isLl, x_isTl, x_isLt, x_len, x_lenT, x_abs, x_int, x_intq, x_ixL, x_ixT, at_0, at_1, at_2, at_3, at_4, at_5, z_0, z_1, z_2, z_3, z_4, z_5, z_6, z_7, z_8, z_9, z_10, z_11, z_12, w_0, w_1, w_2, w_3, w_4, w_5, w_6, w_7, w_8, w_9, w_10, w_11, w_12, ix_1_0, ix_2_0, ix_2_1, ix_3_0, ix_3_1, ix_3_2, ix_4_0, ix_4_1, ix_4_2, ix_4_3, ix_5_0, ix_5_1, ix_5_2, ix_5_3, ix_5_4, ix_6_0, ix_6_1, ix_6_2, ix_6_3, ix_6_4, ix_6_5, ix_7_0, ix_7_1, ix_7_2, ix_7_3, ix_7_4, ix_7_5, ix_7_6, Option.map_some, Option.bind_some, Option.map_none, Option.bind_none, List.getElem?_cons_zero, List.getElem?_cons_succ, List.set_cons_zero, List.set_cons_succ, List.cons_append, List.nil_append, List.length_cons, List.length_nil, List.replicate, if_true, Bool.false_eq_true, if_false, reduceIte, Nat.reduceAdd, Nat.reduceSub, List.append_nil, List.take_succ_cons, List.take_zero, List.map_nil, Option.getD_some, decide_true, decide_false, List.nodup_nil, y_nod1, Bool.not_true, Bool.not_false, List.map_cons, ct_0, ct_1, ct_2, ct_3, ct_4, ct_5, ct_6, ct_7, ct_8, ct_9, ct_10, ct_11, ct_12, Bool.and_true, Bool.true_and, Bool.and_false, Bool.false_and, x_revL, x_revT, -x_lenT, c5, x_sz0, hn, hr, h, set_tup]
theorem bends {n m : Nat} (t : Tab m qf) : callT T (n + 4) 11 [.v (.tuple (il (fl m qf)))] = some (.v (.tuple []), [.v (.tuple (il (fl m qf)))]) := by
  rw [y_tc (f := f_bends) rfl]
  have t2 := t.2.1
  have t1 := t.1
  have hr := rngA (lo := 1) (hi := (m : Nat) - 1) (by omega) (by omega)
  obtain ⟨e', ⟨s, es, rfl⟩, h⟩ := forl_ok (g := bindT (.nm 2)) (b := evSs (callT T (n + 3)) f_bends_b1) (d := fun i : Nat => PyData.int (1 + (i : Nat))) (Ok := fun e => ∃ s, Emp s ∧ e = [.v (.tuple (il (fl m qf))), .o [], s]) (List.range (((m : Nat) : Int) - 1 - 1).toNat) (fun i hi e => by
    rintro ⟨s, es, rfl⟩
    have hi := List.mem_range.mp hi
    obtain ⟨a, b⟩ := be_s (C := callT T (n + 3)) (X := il (fl m qf)) (i := 1 + (i : Nat)) es (at_f (i := i + 2) (by omega) (by omega)) (at_f (i := i + 1) (by omega) (by omega)) (at_f (i := i) (by omega) (by omega)) (by
      rw [qf_s (i + 1), qf_s i]; omega)
    exact ⟨_, _, a, b, .v _, trivial, rfl⟩) [.v (.tuple (il (fl m qf))), .o [], .un] ⟨.un, trivial, rfl⟩
  exact be_g (chk_tab t) (by rw [il_len, fl_len]) hr h
/-! pairs -/
def pd (p : Nat × Nat) : D := .tuple [.int (p.1 : Nat), .int (p.2 : Nat)]
def pls (l : List (Nat × Nat)) : List D := l.map pd
theorem eqv_pd {p q : Nat × Nat} : PyData.eqv (pd p) (pd q) = decide (p = q) := by
  obtain ⟨a, b⟩ := p
  obtain ⟨c, d⟩ := q
  simp only [pd, PyData.eqv, PyData.eqvAll, Prod.mk.injEq, Bool.decide_and]
  rw [Bool.and_true]
  congr 1 <;> (rw [Bool.eq_iff_iff]; simp; omega)
theorem pls_lay : ∀ l : List (Nat × Nat), PyData.canLayAll0 (pls l) = true ∧ PyData.depthAll (pls l) ≤ 1
  | [] => ⟨rfl, by simp [pls, PyData.depthAll]⟩
  | p :: l => by
    obtain ⟨a, b⟩ := pls_lay l
    unfold pls at *
    constructor
    · simp [PyData.canLayAll0, a, pd, PyData.canLay0]
    · simp [PyData.depthAll, pd, PyData.depth, b]
theorem eqv_pls : ∀ {l m : List (Nat × Nat)}, PyData.eqvAll (pls l) (pls m) = decide (l = m)
  | [], [] => by simp [pls, PyData.eqvAll]
  | [], _ :: _ => by simp [pls, PyData.eqvAll]
  | _ :: _, [] => by simp [pls, PyData.eqvAll]
  | x :: l, y :: m => by
    have ih := eqv_pls (l := l) (m := m)
    unfold pls at *
    simp only [List.map_cons, PyData.eqvAll, eqv_pd, ih, List.cons.injEq, Bool.decide_and]
theorem eq_pL {l m : List (Nat × Nat)} : eqD (.list (pls l)) (.list (pls m)) = some (decide (l = m)) := by
  obtain ⟨a, b⟩ := pls_lay l
  obtain ⟨c, d⟩ := pls_lay m
  have s1 : SeqAt.shaped (.list (pls l)) = true := by simp [SeqAt.shaped, PyData.canLay0, PyData.depth, a]; omega
  have s2 : SeqAt.shaped (.list (pls m)) = true := by simp [SeqAt.shaped, PyData.canLay0, PyData.depth, c]; omega
  unfold eqD
  rw [if_pos ⟨s1, s2⟩]
  simp only [PyData.eqv, eqv_pls]
theorem eq_pT {l m : List (Nat × Nat)} : eqD (.tuple (pls l)) (.tuple (pls m)) = some (decide (l = m)) := by
  obtain ⟨a, b⟩ := pls_lay l
  obtain ⟨c, d⟩ := pls_lay m
  have s1 : SeqAt.shaped (.tuple (pls l)) = true := by simp [SeqAt.shaped, PyData.canLay0, PyData.depth, a]; omega
  have s2 : SeqAt.shaped (.tuple (pls m)) = true := by simp [SeqAt.shaped, PyData.canLay0, PyData.depth, c]; omega
  unfold eqD
  rw [if_pos ⟨s1, s2⟩]
  simp only [PyData.eqv, eqv_pls]
def rowN (x a n : Nat) : List (Nat × Nat) := ((List.range n).filter (pa x a)).map fun b => (a, b)
theorem rowN_s (x a n : Nat) : rowN x a (n + 1) = rowN x a n ++ if pa x a n then [(a, n)] else [] := by
  unfold rowN
  rw [List.range_succ, List.filter_append, List.map_append]
  congr 1
  cases h : pa x a n <;> simp [h]
theorem rowN_len (x a n : Nat) : (rowN x a n).length ≤ n := by
  rw [rowN, List.length_map]
  exact Nat.le_trans (List.length_filter_le _ _) (by rw [List.length_range]; exact Nat.le_refl _)
theorem pl_len (x : Nat) : ∀ m, m ≤ 41 → (pl m x).length ≤ 41 * m
  | 0, _ => by simp [pl]
  | m + 1, h => by
    have ih := pl_len x m (by omega)
    have := rowN_len x m (m + 1)
    rw [pl_s, List.length_append]
    have e : row x m = rowN x m (m + 1) := rfl
    rw [e]; omega
/-- two loops, one in the other, that gather pairs -/
theorem pairs_in {g4 : D → Ev → Option Ev} {b : Ev → Option Out} {x a : Nat} {E : List D → Sl → Ev}
    (st : ∀ (j : Nat) (X : List D) (s : Sl), j ≤ a → Emp s → X.length ≤ 1900 → ∃ e1, g4 (.int (j : Nat)) (E X s) = some e1 ∧ b e1 = some (.nx (E (X ++ if pa x a j then [pd (a, j)] else []) (.v (.int (j : Nat))))))
    (acc : List (Nat × Nat)) (hl : acc.length + (a + 1) ≤ 1900) (s : Sl) (es : Emp s) : ∃ s', Emp s' ∧ forl g4 b (ranges 0 1 (a + 1)) (E (pls acc) s) = some (.nx (E (pls (acc ++ row x a)) s')) := by
  have key := forl_idx (d := fun i : Nat => PyData.int (0 + (i : Nat))) (g := g4) (b := b) (I := fun j e => ∃ s, Emp s ∧ e = E (pls (acc ++ rowN x a j)) s) (List.range (a + 1)) 0 (fun j hj e => by
    rintro ⟨s, es, rfl⟩
    rw [List.length_range] at hj
    rw [List.getElem_range, Int.zero_add, Nat.zero_add]
    have := rowN_len x a j
    obtain ⟨e1, h1, h2⟩ := st j (pls (acc ++ rowN x a j)) s (by omega) es (by rw [pls, List.length_map, List.length_append]; omega)
    refine ⟨e1, _, h1, h2, .v (.int (j : Nat)), trivial, ?_⟩
    rw [rowN_s, ← List.append_assoc]
    congr 1
    cases pa x a j <;> simp [pls]) (E (pls acc) s) ⟨s, es, by simp [rowN]⟩
  obtain ⟨e', h, s', es', rfl⟩ := key
  rw [List.length_range, Nat.zero_add] at h
  rw [ranges_map]
  exact ⟨s', es', h⟩
theorem sp_1 {C : CT} {X F : List D} {m a b u w : Int} {c : Bool} {s : Sl} (es : Emp s) (h1 : atI X (a + b) = some (.int u)) (h2 : atI X (a - b) = some (.int w)) (ha : -18446744073709551616 < a ∧ a < 18446744073709551616) (h : decide (u - w = a * b) = !c) (hs : F.length + 1 ≤ sizeLine) :
    bindT (.nm 4) (.int b) [.v (.tuple X), .v (.int m), .o F, .v (.int a), s] = some [.v (.tuple X), .v (.int m), .o F, .v (.int a), .v (.int b)] ∧
    evSs C f_spoilt_b1 [.v (.tuple X), .v (.int m), .o F, .v (.int a), .v (.int b)] = some (.nx [.v (.tuple X), .v (.int m), .o (F ++ if c then [.tuple [.int a, .int b]] else []), .v (.int a), .v (.int b)]) := by
  constructor
  · cases s <;> first | (exact es.elim) | simp -implicitDefEqProofs only [E.var?, y_con, y_varF, y_varT, y_glo, y_bin, y_neg, y_notT, y_notF, y_andT, y_andF, y_orT, y_orF, y_ite, y_cmp, y_chain, y_tup, y_lst, y_rep, y_idx, y_slice, y_rev, y_call, y_b1, y_b2, y_isI, y_lrng, y_compN, y_compS, y_esN, y_esC, y_rsN, y_rsC, y_asN, y_asV, y_asI, y_oN, y_oS, y_itS, y_it1, y_it2, y_asg, y_par, y_stp, y_unp, y_st, y_app, y_expr, y_iteS, y_for, y_retN, y_pass, y_brk, y_cont, y_raise, y_ssN, y_ssC, y_tasN, y_tasC, y_taN, y_taS, y_aug, y_augV, y_ret, y_retS, y_retE, y_enm, y_enmL, y_enmT, y_zip, y_zipL, y_zipT, y_ext, y_extO, y_seqL, y_seqT, y_nsN, y_nsC, y_tgN, y_tgT, y_tgL, y_tgsN, y_tgsC, y_forN, y_forC, y_cmN, y_cmC, y_wipN, y_wipC, y_wipU, y_wipV, y_bakN, y_bakC, y_chainE, y_chain3, y_chain3E, y_it3, y_nodN, y_ioL, y_ioR, y_argN, y_argL, y_argR, y_argO, y_argI, y_bkN, y_bkL, y_bkR, y_bkO, y_bkI, y_callE, y_outN, y_outR, x_op1, x_op2, x_opdS, x_opdN, x_getS, x_getV, x_slV, x_slO, x_slI, x_rd, x_rdV, x_rdO, x_asg, x_asgU, x_asgV, x_asgO, x_ret, x_retV, x_retO, x_put, x_putO, x_putI, x_add, x_adO, x_adI, x_own, x_ownO, x_ownI, x_base, x_finF, x_finT, x_asB, x_ofB, x_bindB, x_withE, x_dV, x_dO, x_sV, x_sO, x_seqN, x_seqR, x_seqB, x_seqC, x_turnN, x_turnC, x_turnB, x_turnR, x_add', x_sub', x_lt, x_le, x_gt, x_ge, x_eq, x_ne, x_is, x_isn, x_inn, x_nin, shaped_int, shaped_bool, shaped_none, x_eqI, x_eqN, x_eqB, x_eqT2, x_eqT3, x_sz1, x_sz2, x_sz3, x_sz4, x_sz5, x_sz6, truN, truB, truI, x_isNn, x_isNi, x_isNt, x_isNl, x_isIi, x_isIb, x_isBb, x_isBi, x_isTt, x_isLl, x_isTl, x_isLt, x_len, x_lenT, x_abs, x_int, x_intq, x_ixL, x_ixT, at_0, at_1, at_2, at_3, at_4, at_5, z_0, z_1, z_2, z_3, z_4, z_5, z_6, z_7, z_8, z_9, z_10, z_11, z_12, w_0, w_1, w_2, w_3, w_4, w_5, w_6, w_7, w_8, w_9, w_10, w_11, w_12, ix_1_0, ix_2_0, ix_2_1, ix_3_0, ix_3_1, ix_3_2, ix_4_0, ix_4_1, ix_4_2, ix_4_3, ix_5_0, ix_5_1, ix_5_2, ix_5_3, ix_5_4, ix_6_0, ix_6_1, ix_6_2, ix_6_3, ix_6_4, ix_6_5, ix_7_0, ix_7_1, ix_7_2, ix_7_3, ix_7_4, ix_7_5, ix_7_6, Option.map_some, Option.bind_some, Option.map_none, Option.bind_none, List.getElem?_cons_zero, List.getElem?_cons_succ, List.set_cons_zero, List.set_cons_succ, List.cons_append, List.nil_append, List.length_cons, List.length_nil, List.replicate, if_true, Bool.false_eq_true, if_false, reduceIte, Nat.reduceAdd, Nat.reduceSub, List.append_nil, List.take_succ_cons, List.take_zero, List.map_nil, Option.getD_some, decide_true, decide_false, List.nodup_nil, y_nod1, Bool.not_true, Bool.not_false, List.map_cons, ct_0, ct_1, ct_2, ct_3, ct_4, ct_5, ct_6, ct_7, ct_8, ct_9, ct_10, ct_11, ct_12, Bool.and_true, Bool.true_and, Bool.and_false, Bool.false_and, x_revL, x_revT]
  · cases c <;> simp -implicitDefEqProofs only [f_spoilt_b1, E.var?, y_con, y_varF, y_varT, y_glo, y_bin, y_neg, y_notT, y_notF, y_andT, y_andF, y_orT, y_orF, y_ite, y_cmp, y_chain, y_tup, y_lst, y_rep, y_idx, y_slice, y_rev, y_call, y_b1, y_b2, y_isI, y_lrng, y_compN, y_compS, y_esN, y_esC, y_rsN, y_rsC, y_asN, y_asV, y_asI, y_oN, y_oS, y_itS, y_it1, y_it2, y_asg, y_par, y_stp, y_unp, y_st, y_app, y_expr, y_iteS, y_for, y_retN, y_pass, y_brk, y_cont, y_raise, y_ssN, y_ssC, y_tasN, y_tasC, y_taN, y_taS, y_aug, y_augV, y_ret, y_retS, y_retE, y_enm, y_enmL, y_enmT, y_zip, y_zipL, y_zipT, y_ext, y_extO, y_seqL, y_seqT, y_nsN, y_nsC, y_tgN, y_tgT, y_tgL, y_tgsN, y_tgsC, y_forN, y_forC, y_cmN, y_cmC, y_wipN, y_wipC, y_wipU, y_wipV, y_bakN, y_bakC, y_chainE, y_chain3, y_chain3E, y_it3, y_nodN, y_ioL, y_ioR, y_argN, y_argL, y_argR, y_argO, y_argI, y_bkN, y_bkL, y_bkR, y_bkO, y_bkI, y_callE, y_outN, y_outR, x_op1, x_op2, x_opdS, x_opdN, x_getS, x_getV, x_slV, x_slO, x_slI, x_rd, x_rdV, x_rdO, x_asg, x_asgU, x_asgV, x_asgO, x_ret, x_retV, x_retO, x_put, x_putO, x_putI, x_add, x_adO, x_adI, x_own, x_ownO, x_ownI, x_base, x_finF, x_finT, x_asB, x_ofB, x_bindB, x_withE, x_dV, x_dO, x_sV, x_sO, x_seqN, x_seqR, x_seqB, x_seqC, x_turnN, x_turnC, x_turnB, x_turnR, x_add', x_sub', x_lt, x_le, x_gt, x_ge, x_eq, x_ne, x_is, x_isn, x_inn, x_nin, shaped_int, shaped_bool, shaped_none, x_eqI, x_eqN, x_eqB, x_eqT2, x_eqT3, x_sz1, x_sz2, x_sz3, x_sz4, x_sz5, x_sz6, truN, truB, truI, x_isNn, x_isNi, x_isNt, x_isNl, x_isIi, x_isIb, x_isBb, x_isBi, x_isTt, x_isLl, x_isTl, x_isLt, x_len, x_lenT, x_abs, x_int, x_intq, x_ixL, x_ixT, at_0, at_1, at_2, at_3, at_4, at_5, z_0, z_1, z_2, z_3, z_4, z_5, z_6, z_7, z_8, z_9, z_10, z_11, z_12, w_0, w_1, w_2, w_3, w_4, w_5, w_6, w_7, w_8, w_9, w_10, w_11, w_12, ix_1_0, ix_2_0, ix_2_1, ix_3_0, ix_3_1, ix_3_2, ix_4_0, ix_4_1, ix_4_2, ix_4_3, ix_5_0, ix_5_1, ix_5_2, ix_5_3, ix_5_4, ix_6_0, ix_6_1, ix_6_2, ix_6_3, ix_6_4, ix_6_5, ix_7_0, ix_7_1, ix_7_2, ix_7_3, ix_7_4, ix_7_5, ix_7_6, Option.map_some, Option.bind_some, Option.map_none, Option.bind_none, List.getElem?_cons_zero, List.getElem?_cons_succ, List.set_cons_zero, List.set_cons_succ, List.cons_append, List.nil_append, List.length_cons, List.length_nil, List.replicate, if_true, Bool.false_eq_true, if_false, reduceIte, Nat.reduceAdd, Nat.reduceSub, List.append_nil, List.take_succ_cons, List.take_zero, List.map_nil, Option.getD_some, decide_true, decide_false, List.nodup_nil, y_nod1, Bool.not_true, Bool.not_false, List.map_cons, ct_0, ct_1, ct_2, ct_3, ct_4, ct_5, ct_6, ct_7, ct_8, ct_9, ct_10, ct_11, ct_12, Bool.and_true, Bool.true_and, Bool.and_false, Bool.false_and, x_revL, x_revT, h1, h2, x_mulD ha, h, hs]
theorem lo_1 {C : CT} {F : List D} {x m a b : Int} {c d : Bool} {s : Sl} (es : Emp s) (h1 : decide (a + b = x) = c) (h2 : decide (a - b = x) = d) (hs : F.length + 1 ≤ sizeLine) :
    bindT (.nm 4) (.int b) [.v (.int x), .v (.int m), .o F, .v (.int a), s] = some [.v (.int x), .v (.int m), .o F, .v (.int a), .v (.int b)] ∧
    evSs C f_looks_b1 [.v (.int x), .v (.int m), .o F, .v (.int a), .v (.int b)] = some (.nx [.v (.int x), .v (.int m), .o (F ++ if c != d then [.tuple [.int a, .int b]] else []), .v (.int a), .v (.int b)]) := by
  constructor
  · cases s <;> first | (exact es.elim) | simp -implicitDefEqProofs only [E.var?, y_con, y_varF, y_varT, y_glo, y_bin, y_neg, y_notT, y_notF, y_andT, y_andF, y_orT, y_orF, y_ite, y_cmp, y_chain, y_tup, y_lst, y_rep, y_idx, y_slice, y_rev, y_call, y_b1, y_b2, y_isI, y_lrng, y_compN, y_compS, y_esN, y_esC, y_rsN, y_rsC, y_asN, y_asV, y_asI, y_oN, y_oS, y_itS, y_it1, y_it2, y_asg, y_par, y_stp, y_unp, y_st, y_app, y_expr, y_iteS, y_for, y_retN, y_pass, y_brk, y_cont, y_raise, y_ssN, y_ssC, y_tasN, y_tasC, y_taN, y_taS, y_aug, y_augV, y_ret, y_retS, y_retE, y_enm, y_enmL, y_enmT, y_zip, y_zipL, y_zipT, y_ext, y_extO, y_seqL, y_seqT, y_nsN, y_nsC, y_tgN, y_tgT, y_tgL, y_tgsN, y_tgsC, y_forN, y_forC, y_cmN, y_cmC, y_wipN, y_wipC, y_wipU, y_wipV, y_bakN, y_bakC, y_chainE, y_chain3, y_chain3E, y_it3, y_nodN, y_ioL, y_ioR, y_argN, y_argL, y_argR, y_argO, y_argI, y_bkN, y_bkL, y_bkR, y_bkO, y_bkI, y_callE, y_outN, y_outR, x_op1, x_op2, x_opdS, x_opdN, x_getS, x_getV, x_slV, x_slO, x_slI, x_rd, x_rdV, x_rdO, x_asg, x_asgU, x_asgV, x_asgO, x_ret, x_retV, x_retO, x_put, x_putO, x_putI, x_add, x_adO, x_adI, x_own, x_ownO, x_ownI, x_base, x_finF, x_finT, x_asB, x_ofB, x_bindB, x_withE, x_dV, x_dO, x_sV, x_sO, x_seqN, x_seqR, x_seqB, x_seqC, x_turnN, x_turnC, x_turnB, x_turnR, x_add', x_sub', x_lt, x_le, x_gt, x_ge, x_eq, x_ne, x_is, x_isn, x_inn, x_nin, shaped_int, shaped_bool, shaped_none, x_eqI, x_eqN, x_eqB, x_eqT2, x_eqT3, x_sz1, x_sz2, x_sz3, x_sz4, x_sz5, x_sz6, truN, truB, truI, x_isNn, x_isNi, x_isNt, x_isNl, x_isIi, x_isIb, x_isBb, x_isBi, x_isTt, x_isLl, x_isTl, x_isLt, x_len, x_lenT, x_abs, x_int, x_intq, x_ixL, x_ixT, at_0, at_1, at_2, at_3, at_4, at_5, z_0, z_1, z_2, z_3, z_4, z_5, z_6, z_7, z_8, z_9, z_10, z_11, z_12, w_0, w_1, w_2, w_3, w_4, w_5, w_6, w_7, w_8, w_9, w_10, w_11, w_12, ix_1_0, ix_2_0, ix_2_1, ix_3_0, ix_3_1, ix_3_2, ix_4_0, ix_4_1, ix_4_2, ix_4_3, ix_5_0, ix_5_1, ix_5_2, ix_5_3, ix_5_4, ix_6_0, ix_6_1, ix_6_2, ix_6_3, ix_6_4, ix_6_5, ix_7_0, ix_7_1, ix_7_2, ix_7_3, ix_7_4, ix_7_5, ix_7_6, Option.map_some, Option.bind_some, Option.map_none, Option.bind_none, List.getElem?_cons_zero, List.getElem?_cons_succ, List.set_cons_zero, List.set_cons_succ, List.cons_append, List.nil_append, List.length_cons, List.length_nil, List.replicate, if_true, Bool.false_eq_true, if_false, reduceIte, Nat.reduceAdd, Nat.reduceSub, List.append_nil, List.take_succ_cons, List.take_zero, List.map_nil, Option.getD_some, decide_true, decide_false, List.nodup_nil, y_nod1, Bool.not_true, Bool.not_false, List.map_cons, ct_0, ct_1, ct_2, ct_3, ct_4, ct_5, ct_6, ct_7, ct_8, ct_9, ct_10, ct_11, ct_12, Bool.and_true, Bool.true_and, Bool.and_false, Bool.false_and, x_revL, x_revT]
  · have q1 : (!true == true) = false := rfl
    have q2 : (!true == false) = true := rfl
    have q3 : (!false == true) = true := rfl
    have q4 : (!false == false) = false := rfl
    have r1 : (true != true) = false := rfl
    have r2 : (true != false) = true := rfl
    have r3 : (false != true) = true := rfl
    have r4 : (false != false) = false := rfl
    have r5 : ((!false) = true) = True := by simp
    have r6 : ((!true) = true) = False := by simp
    cases c <;> cases d <;> simp -implicitDefEqProofs only [f_looks_b1, E.var?, y_con, y_varF, y_varT, y_glo, y_bin, y_neg, y_notT, y_notF, y_andT, y_andF, y_orT, y_orF, y_ite, y_cmp, y_chain, y_tup, y_lst, y_rep, y_idx, y_slice, y_rev, y_call, y_b1, y_b2, y_isI, y_lrng, y_compN, y_compS, y_esN, y_esC, y_rsN, y_rsC, y_asN, y_asV, y_asI, y_oN, y_oS, y_itS, y_it1, y_it2, y_asg, y_par, y_stp, y_unp, y_st, y_app, y_expr, y_iteS, y_for, y_retN, y_pass, y_brk, y_cont, y_raise, y_ssN, y_ssC, y_tasN, y_tasC, y_taN, y_taS, y_aug, y_augV, y_ret, y_retS, y_retE, y_enm, y_enmL, y_enmT, y_zip, y_zipL, y_zipT, y_ext, y_extO, y_seqL, y_seqT, y_nsN, y_nsC, y_tgN, y_tgT, y_tgL, y_tgsN, y_tgsC, y_forN, y_forC, y_cmN, y_cmC, y_wipN, y_wipC, y_wipU, y_wipV, y_bakN, y_bakC, y_chainE, y_chain3, y_chain3E, y_it3, y_nodN, y_ioL, y_ioR, y_argN, y_argL, y_argR, y_argO, y_argI, y_bkN, y_bkL, y_bkR, y_bkO, y_bkI, y_callE, y_outN, y_outR, x_op1, x_op2, x_opdS, x_opdN, x_getS, x_getV, x_slV, x_slO, x_slI, x_rd, x_rdV, x_rdO, x_asg, x_asgU, x_asgV, x_asgO, x_ret, x_retV, x_retO, x_put, x_putO, x_putI, x_add, x_adO, x_adI, x_own, x_ownO, x_ownI, x_base, x_finF, x_finT, x_asB, x_ofB, x_bindB, x_withE, x_dV, x_dO, x_sV, x_sO, x_seqN, x_seqR, x_seqB, x_seqC, x_turnN, x_turnC, x_turnB, x_turnR, x_add', x_sub', x_lt, x_le, x_gt, x_ge, x_eq, x_ne, x_is, x_isn, x_inn, x_nin, shaped_int, shaped_bool, shaped_none, x_eqI, x_eqN, x_eqB, x_eqT2, x_eqT3, x_sz1, x_sz2, x_sz3, x_sz4, x_sz5, x_sz6, truN, truB, truI, x_isNn, x_isNi, x_isNt, x_isNl, x_isIi, x_isIb, x_isBb, x_isBi, x_isTt, x_isLl, x_isTl, x_isLt, x_len, x_lenT, x_abs, x_int, x_intq, x_ixL, x_ixT, at_0, at_1, at_2, at_3, at_4, at_5, z_0, z_1, z_2, z_3, z_4, z_5, z_6, z_7, z_8, z_9, z_10, z_11, z_12, w_0, w_1, w_2, w_3, w_4, w_5, w_6, w_7, w_8, w_9, w_10, w_11, w_12, ix_1_0, ix_2_0, ix_2_1, ix_3_0, ix_3_1, ix_3_2, ix_4_0, ix_4_1, ix_4_2, ix_4_3, ix_5_0, ix_5_1, ix_5_2, ix_5_3, ix_5_4, ix_6_0, ix_6_1, ix_6_2, ix_6_3, ix_6_4, ix_6_5, ix_7_0, ix_7_1, ix_7_2, ix_7_3, ix_7_4, ix_7_5, ix_7_6, Option.map_some, Option.bind_some, Option.map_none, Option.bind_none, List.getElem?_cons_zero, List.getElem?_cons_succ, List.set_cons_zero, List.set_cons_succ, List.cons_append, List.nil_append, List.length_cons, List.length_nil, List.replicate, if_true, Bool.false_eq_true, if_false, reduceIte, Nat.reduceAdd, Nat.reduceSub, List.append_nil, List.take_succ_cons, List.take_zero, List.map_nil, Option.getD_some, decide_true, decide_false, List.nodup_nil, y_nod1, Bool.not_true, Bool.not_false, List.map_cons, ct_0, ct_1, ct_2, ct_3, ct_4, ct_5, ct_6, ct_7, ct_8, ct_9, ct_10, ct_11, ct_12, Bool.and_true, Bool.true_and, Bool.and_false, Bool.false_and, x_revL, x_revT, h1, h2, x_eqB, hs, q1, q2, q3, q4, r1, r2, r3, r4, List.append_nil]
theorem sp_2 {C : CT} {P : D} {F G ns : List D} {m a : Int} {s t u : Sl} (es : Emp s) (hr : rng2 0 (a + 1) = some ns) (h : forl (bindT (.nm 4)) (evSs C f_spoilt_b1) ns [.v P, .v (.int m), .o F, .v (.int a), t] = some (.nx [.v P, .v (.int m), .o G, .v (.int a), u])) :
    bindT (.nm 3) (.int a) [.v P, .v (.int m), .o F, s, t] = some [.v P, .v (.int m), .o F, .v (.int a), t] ∧ evSs C f_spoilt_b2 [.v P, .v (.int m), .o F, .v (.int a), t] = some (.nx [.v P, .v (.int m), .o G, .v (.int a), u]) := by
  constructor
  · cases s <;> first | (exact es.elim) | simp -implicitDefEqProofs only [E.var?, y_con, y_varF, y_varT, y_glo, y_bin, y_neg, y_notT, y_notF, y_andT, y_andF, y_orT, y_orF, y_ite, y_cmp, y_chain, y_tup, y_lst, y_rep, y_idx, y_slice, y_rev, y_call, y_b1, y_b2, y_isI, y_lrng, y_compN, y_compS, y_esN, y_esC, y_rsN, y_rsC, y_asN, y_asV, y_asI, y_oN, y_oS, y_itS, y_it1, y_it2, y_asg, y_par, y_stp, y_unp, y_st, y_app, y_expr, y_iteS, y_for, y_retN, y_pass, y_brk, y_cont, y_raise, y_ssN, y_ssC, y_tasN, y_tasC, y_taN, y_taS, y_aug, y_augV, y_ret, y_retS, y_retE, y_enm, y_enmL, y_enmT, y_zip, y_zipL, y_zipT, y_ext, y_extO, y_seqL, y_seqT, y_nsN, y_nsC, y_tgN, y_tgT, y_tgL, y_tgsN, y_tgsC, y_forN, y_forC, y_cmN, y_cmC, y_wipN, y_wipC, y_wipU, y_wipV, y_bakN, y_bakC, y_chainE, y_chain3, y_chain3E, y_it3, y_nodN, y_ioL, y_ioR, y_argN, y_argL, y_argR, y_argO, y_argI, y_bkN, y_bkL, y_bkR, y_bkO, y_bkI, y_callE, y_outN, y_outR, x_op1, x_op2, x_opdS, x_opdN, x_getS, x_getV, x_slV, x_slO, x_slI, x_rd, x_rdV, x_rdO, x_asg, x_asgU, x_asgV, x_asgO, x_ret, x_retV, x_retO, x_put, x_putO, x_putI, x_add, x_adO, x_adI, x_own, x_ownO, x_ownI, x_base, x_finF, x_finT, x_asB, x_ofB, x_bindB, x_withE, x_dV, x_dO, x_sV, x_sO, x_seqN, x_seqR, x_seqB, x_seqC, x_turnN, x_turnC, x_turnB, x_turnR, x_add', x_sub', x_lt, x_le, x_gt, x_ge, x_eq, x_ne, x_is, x_isn, x_inn, x_nin, shaped_int, shaped_bool, shaped_none, x_eqI, x_eqN, x_eqB, x_eqT2, x_eqT3, x_sz1, x_sz2, x_sz3, x_sz4, x_sz5, x_sz6, truN, truB, truI, x_isNn, x_isNi, x_isNt, x_isNl, x_isIi, x_isIb, x_isBb, x_isBi, x_isTt, x_isLl, x_isTl, x_isLt, x_len, x_lenT, x_abs, x_int, x_intq, x_ixL, x_ixT, at_0, at_1, at_2, at_3, at_4, at_5, z_0, z_1, z_2, z_3, z_4, z_5, z_6, z_7, z_8, z_9, z_10, z_11, z_12, w_0, w_1, w_2, w_3, w_4, w_5, w_6, w_7, w_8, w_9, w_10, w_11, w_12, ix_1_0, ix_2_0, ix_2_1, ix_3_0, ix_3_1, ix_3_2, ix_4_0, ix_4_1, ix_4_2, ix_4_3, ix_5_0, ix_5_1, ix_5_2, ix_5_3, ix_5_4, ix_6_0, ix_6_1, ix_6_2, ix_6_3, ix_6_4, ix_6_5, ix_7_0, ix_7_1, ix_7_2, ix_7_3, ix_7_4, ix_7_5, ix_7_6, Option.map_some, Option.bind_some, Option.map_none, Option.bind_none, List.getElem?_cons_zero, List.getElem?_cons_succ, List.set_cons_zero, List.set_cons_succ, List.cons_append, List.nil_append, List.length_cons, List.length_nil, List.replicate, if_true, Bool.false_eq_true, if_false, reduceIte, Nat.reduceAdd, Nat.reduceSub, List.append_nil, List.take_succ_cons, List.take_zero, List.map_nil, Option.getD_some, decide_true, decide_false, List.nodup_nil, y_nod1, Bool.not_true, Bool.not_false, List.map_cons, ct_0, ct_1, ct_2, ct_3, ct_4, ct_5, ct_6, ct_7, ct_8, ct_9, ct_10, ct_11, ct_12, Bool.and_true, Bool.true_and, Bool.and_false, Bool.false_and, x_revL, x_revT]
  · simp -implicitDefEqProofs only [f_spoilt_b2, E.var?, y_con, y_varF, y_varT, y_glo, y_bin, y_neg, y_notT, y_notF, y_andT, y_andF, y_orT, y_orF, y_ite, y_cmp, y_chain, y_tup, y_lst, y_rep, y_idx, y_slice, y_rev, y_call, y_b1, y_b2, y_isI, y_lrng, y_compN, y_compS, y_esN, y_esC, y_rsN, y_rsC, y_asN, y_asV, y_asI, y_oN, y_oS, y_itS, y_it1, y_it2, y_asg, y_par, y_stp, y_unp, y_st, y_app, y_expr, y_iteS, y_for, y_retN, y_pass, y_brk, y_cont, y_raise, y_ssN, y_ssC, y_tasN, y_tasC, y_taN, y_taS, y_aug, y_augV, y_ret, y_retS, y_retE, y_enm, y_enmL, y_enmT, y_zip, y_zipL, y_zipT, y_ext, y_extO, y_seqL, y_seqT, y_nsN, y_nsC, y_tgN, y_tgT, y_tgL, y_tgsN, y_tgsC, y_forN, y_forC, y_cmN, y_cmC, y_wipN, y_wipC, y_wipU, y_wipV, y_bakN, y_bakC, y_chainE, y_chain3, y_chain3E, y_it3, y_nodN, y_ioL, y_ioR, y_argN, y_argL, y_argR, y_argO, y_argI, y_bkN, y_bkL, y_bkR, y_bkO, y_bkI, y_callE, y_outN, y_outR, x_op1, x_op2, x_opdS, x_opdN, x_getS, x_getV, x_slV, x_slO, x_slI, x_rd, x_rdV, x_rdO, x_asg, x_asgU, x_asgV, x_asgO, x_ret, x_retV, x_retO, x_put, x_putO, x_putI, x_add, x_adO, x_adI, x_own, x_ownO, x_ownI, x_base, x_finF, x_finT, x_asB, x_ofB, x_bindB, x_withE, x_dV, x_dO, x_sV, x_sO, x_seqN, x_seqR, x_seqB, x_seqC, x_turnN, x_turnC, x_turnB, x_turnR, x_add', x_sub', x_lt, x_le, x_gt, x_ge, x_eq, x_ne, x_is, x_isn, x_inn, x_nin, shaped_int, shaped_bool, shaped_none, x_eqI, x_eqN, x_eqB, x_eqT2, x_eqT3, x_sz1, x_sz2, x_sz3, x_sz4, x_sz5, x_sz6, truN, truB, truI, x_isNn, x_isNi, x_isNt, x_isNl, x_isIi, x_isIb, x_isBb, x_isBi, x_isTt, x_isLl, x_isTl, x_isLt, x_len, x_lenT, x_abs, x_int, x_intq, x_ixL, x_ixT, at_0, at_1, at_2, at_3, at_4, at_5, z_0, z_1, z_2, z_3, z_4, z_5, z_6, z_7, z_8, z_9, z_10, z_11, z_12, w_0, w_1, w_2, w_3, w_4, w_5, w_6, w_7, w_8, w_9, w_10, w_11, w_12, ix_1_0, ix_2_0, ix_2_1, ix_3_0, ix_3_1, ix_3_2, ix_4_0, ix_4_1, ix_4_2, ix_4_3, ix_5_0, ix_5_1, ix_5_2, ix_5_3, ix_5_4, ix_6_0, ix_6_1, ix_6_2, ix_6_3, ix_6_4, ix_6_5, ix_7_0, ix_7_1, ix_7_2, ix_7_3, ix_7_4, ix_7_5, ix_7_6, Option.map_some, Option.bind_some, Option.map_none, Option.bind_none, List.getElem?_cons_zero, List.getElem?_cons_succ, List.set_cons_zero, List.set_cons_succ, List.cons_append, List.nil_append, List.length_cons, List.length_nil, List.replicate, if_true, Bool.false_eq_true, if_false, reduceIte, Nat.reduceAdd, Nat.reduceSub, List.append_nil, List.take_succ_cons, List.take_zero, List.map_nil, Option.getD_some, decide_true, decide_false, List.nodup_nil, y_nod1, Bool.not_true, Bool.not_false, List.map_cons, ct_0, ct_1, ct_2, ct_3, ct_4, ct_5, ct_6, ct_7, ct_8, ct_9, ct_10, ct_11, ct_12, Bool.and_true, Bool.true_and, Bool.and_false, Bool.false_and, x_revL, x_revT, hr, h]
theorem lo_2 {C : CT} {P : D} {F G ns : List D} {m a : Int} {s t u : Sl} (es : Emp s) (hr : rng2 0 (a + 1) = some ns) (h : forl (bindT (.nm 4)) (evSs C f_looks_b1) ns [.v P, .v (.int m), .o F, .v (.int a), t] = some (.nx [.v P, .v (.int m), .o G, .v (.int a), u])) :
    bindT (.nm 3) (.int a) [.v P, .v (.int m), .o F, s, t] = some [.v P, .v (.int m), .o F, .v (.int a), t] ∧ evSs C f_looks_b2 [.v P, .v (.int m), .o F, .v (.int a), t] = some (.nx [.v P, .v (.int m), .o G, .v (.int a), u]) := by
  constructor
  · cases s <;> first | (exact es.elim) | simp -implicitDefEqProofs only [E.var?, y_con, y_varF, y_varT, y_glo, y_bin, y_neg, y_notT, y_notF, y_andT, y_andF, y_orT, y_orF, y_ite, y_cmp, y_chain, y_tup, y_lst, y_rep, y_idx, y_slice, y_rev, y_call, y_b1, y_b2, y_isI, y_lrng, y_compN, y_compS, y_esN, y_esC, y_rsN, y_rsC, y_asN, y_asV, y_asI, y_oN, y_oS, y_itS, y_it1, y_it2, y_asg, y_par, y_stp, y_unp, y_st, y_app, y_expr, y_iteS, y_for, y_retN, y_pass, y_brk, y_cont, y_raise, y_ssN, y_ssC, y_tasN, y_tasC, y_taN, y_taS, y_aug, y_augV, y_ret, y_retS, y_retE, y_enm, y_enmL, y_enmT, y_zip, y_zipL, y_zipT, y_ext, y_extO, y_seqL, y_seqT, y_nsN, y_nsC, y_tgN, y_tgT, y_tgL, y_tgsN, y_tgsC, y_forN, y_forC, y_cmN, y_cmC, y_wipN, y_wipC, y_wipU, y_wipV, y_bakN, y_bakC, y_chainE, y_chain3, y_chain3E, y_it3, y_nodN, y_ioL, y_ioR, y_argN, y_argL, y_argR, y_argO, y_argI, y_bkN, y_bkL, y_bkR, y_bkO, y_bkI, y_callE, y_outN, y_outR, x_op1, x_op2, x_opdS, x_opdN, x_getS, x_getV, x_slV, x_slO, x_slI, x_rd, x_rdV, x_rdO, x_asg, x_asgU, x_asgV, x_asgO, x_ret, x_retV, x_retO, x_put, x_putO, x_putI, x_add, x_adO, x_adI, x_own, x_ownO, x_ownI, x_base, x_finF, x_finT, x_asB, x_ofB, x_bindB, x_withE, x_dV, x_dO, x_sV, x_sO, x_seqN, x_seqR, x_seqB, x_seqC, x_turnN, x_turnC, x_turnB, x_turnR, x_add', x_sub', x_lt, x_le, x_gt, x_ge, x_eq, x_ne, x_is, x_isn, x_inn, x_nin, shaped_int, shaped_bool, shaped_none, x_eqI, x_eqN, x_eqB, x_eqT2, x_eqT3, x_sz1, x_sz2, x_sz3, x_sz4, x_sz5, x_sz6, truN, truB, truI, x_isNn, x_isNi, x_isNt, x_isNl, x_isIi, x_isIb, x_isBb, x_isBi, x_isTt, x_isLl, x_isTl, x_isLt, x_len, x_lenT, x_abs, x_int, x_intq, x_ixL, x_ixT, at_0, at_1, at_2, at_3, at_4, at_5, z_0, z_1, z_2, z_3, z_4, z_5, z_6, z_7, z_8, z_9, z_10, z_11, z_12, w_0, w_1, w_2, w_3, w_4, w_5, w_6, w_7, w_8, w_9, w_10, w_11, w_12, ix_1_0, ix_2_0, ix_2_1, ix_3_0, ix_3_1, ix_3_2, ix_4_0, ix_4_1, ix_4_2, ix_4_3, ix_5_0, ix_5_1, ix_5_2, ix_5_3, ix_5_4, ix_6_0, ix_6_1, ix_6_2, ix_6_3, ix_6_4, ix_6_5, ix_7_0, ix_7_1, ix_7_2, ix_7_3, ix_7_4, ix_7_5, ix_7_6, Option.map_some, Option.bind_some, Option.map_none, Option.bind_none, List.getElem?_cons_zero, List.getElem?_cons_succ, List.set_cons_zero, List.set_cons_succ, List.cons_append, List.nil_append, List.length_cons, List.length_nil, List.replicate, if_true, Bool.false_eq_true, if_false, reduceIte, Nat.reduceAdd, Nat.reduceSub, List.append_nil, List.take_succ_cons, List.take_zero, List.map_nil, Option.getD_some, decide_true, decide_false, List.nodup_nil, y_nod1, Bool.not_true, Bool.not_false, List.map_cons, ct_0, ct_1, ct_2, ct_3, ct_4, ct_5, ct_6, ct_7, ct_8, ct_9, ct_10, ct_11, ct_12, Bool.and_true, Bool.true_and, Bool.and_false, Bool.false_and, x_revL, x_revT]
  · simp -implicitDefEqProofs only [f_looks_b2, E.var?, y_con, y_varF, y_varT, y_glo, y_bin, y_neg, y_notT, y_notF, y_andT, y_andF, y_orT, y_orF, y_ite, y_cmp, y_chain, y_tup, y_lst, y_rep, y_idx, y_slice, y_rev, y_call, y_b1, y_b2, y_isI, y_lrng, y_compN, y_compS, y_esN, y_esC, y_rsN, y_rsC, y_asN, y_asV, y_asI, y_oN, y_oS, y_itS, y_it1, y_it2, y_asg, y_par, y_stp, y_unp, y_st, y_app, y_expr, y_iteS, y_for, y_retN, y_pass, y_brk, y_cont, y_raise, y_ssN, y_ssC, y_tasN, y_tasC, y_taN, y_taS, y_aug, y_augV, y_ret, y_retS, y_retE, y_enm, y_enmL, y_enmT, y_zip, y_zipL, y_zipT, y_ext, y_extO, y_seqL, y_seqT, y_nsN, y_nsC, y_tgN, y_tgT, y_tgL, y_tgsN, y_tgsC, y_forN, y_forC, y_cmN, y_cmC, y_wipN, y_wipC, y_wipU, y_wipV, y_bakN, y_bakC, y_chainE, y_chain3, y_chain3E, y_it3, y_nodN, y_ioL, y_ioR, y_argN, y_argL, y_argR, y_argO, y_argI, y_bkN, y_bkL, y_bkR, y_bkO, y_bkI, y_callE, y_outN, y_outR, x_op1, x_op2, x_opdS, x_opdN, x_getS, x_getV, x_slV, x_slO, x_slI, x_rd, x_rdV, x_rdO, x_asg, x_asgU, x_asgV, x_asgO, x_ret, x_retV, x_retO, x_put, x_putO, x_putI, x_add, x_adO, x_adI, x_own, x_ownO, x_ownI, x_base, x_finF, x_finT, x_asB, x_ofB, x_bindB, x_withE, x_dV, x_dO, x_sV, x_sO, x_seqN, x_seqR, x_seqB, x_seqC, x_turnN, x_turnC, x_turnB, x_turnR, x_add', x_sub', x_lt, x_le, x_gt, x_ge, x_eq, x_ne, x_is, x_isn, x_inn, x_nin, shaped_int, shaped_bool, shaped_none, x_eqI, x_eqN, x_eqB, x_eqT2, x_eqT3, x_sz1, x_sz2, x_sz3, x_sz4, x_sz5, x_sz6, truN, truB, truI, x_isNn, x_isNi, x_isNt, x_isNl, x_isIi, x_isIb, x_isBb, x_isBi, x_isTt, x_isLl, x_isTl, x_isLt, x_len, x_lenT, x_abs, x_int, x_intq, x_ixL, x_ixT, at_0, at_1, at_2, at_3, at_4, at_5, z_0, z_1, z_2, z_3, z_4, z_5, z_6, z_7, z_8, z_9, z_10, z_11, z_12, w_0, w_1, w_2, w_3, w_4, w_5, w_6, w_7, w_8, w_9, w_10, w_11, w_12, ix_1_0, ix_2_0, ix_2_1, ix_3_0, ix_3_1, ix_3_2, ix_4_0, ix_4_1, ix_4_2, ix_4_3, ix_5_0, ix_5_1, ix_5_2, ix_5_3, ix_5_4, ix_6_0, ix_6_1, ix_6_2, ix_6_3, ix_6_4, ix_6_5, ix_7_0, ix_7_1, ix_7_2, ix_7_3, ix_7_4, ix_7_5, ix_7_6, Option.map_some, Option.bind_some, Option.map_none, Option.bind_none, List.getElem?_cons_zero, List.getElem?_cons_succ, List.set_cons_zero, List.set_cons_succ, List.cons_append, List.nil_append, List.length_cons, List.length_nil, List.replicate, if_true, Bool.false_eq_true, if_false, reduceIte, Nat.reduceAdd, Nat.reduceSub, List.append_nil, List.take_succ_cons, List.take_zero, List.map_nil, Option.getD_some, decide_true, decide_false, List.nodup_nil, y_nod1, Bool.not_true, Bool.not_false, List.map_cons, ct_0, ct_1, ct_2, ct_3, ct_4, ct_5, ct_6, ct_7, ct_8, ct_9, ct_10, ct_11, ct_12, Bool.and_true, Bool.true_and, Bool.and_false, Bool.false_and, x_revL, x_revT, hr, h]
theorem rngS {a : Nat} (h : a ≤ 1000) : rng2 0 (((a : Nat) : Int) + 1) = some (ranges 0 1 (a + 1)) := by rw [show ((a : Nat) : Int) + 1 = ((a + 1 : Nat) : Nat) by omega]; exact x_rng (by omega)
theorem lo_g {C : CT} {x m : Int} {L ns : List D} {s t : Sl} (hr : rng2 0 (m + 1) = some ns) (h : forl (bindT (.nm 3)) (evSs C f_looks_b2) ns [.v (.int x), .v (.int m), .o [], .un, .un] = some (.nx [.v (.int x), .v (.int m), .o L, s, t])) : runFn C f_looks [.v (.int x), .v (.int m)] = some (.o L, [.v (.int x), .v (.int m)]) := by
  rw [y_run (by rfl)]
  simp -implicitDefEqProofs only [f_looks, E.var?, y_con, y_varF, y_varT, y_glo, y_bin, y_neg, y_notT, y_notF, y_andT, y_andF, y_orT, y_orF, y_ite, y_cmp, y_chain, y_tup, y_lst, y_rep, y_idx, y_slice, y_rev, y_call, y_b1, y_b2, y_isI, y_lrng, y_compN, y_compS, y_esN, y_esC, y_rsN, y_rsC, y_asN, y_asV, y_asI, y_oN, y_oS, y_itS, y_it1, y_it2, y_asg, y_par, y_stp, y_unp, y_st, y_app, y_expr, y_iteS, y_for, y_retN, y_pass, y_brk, y_cont, y_raise, y_ssN, y_ssC, y_tasN, y_tasC, y_taN, y_taS, y_aug, y_augV, y_ret, y_retS, y_retE, y_enm, y_enmL, y_enmT, y_zip, y_zipL, y_zipT, y_ext, y_extO, y_seqL, y_seqT, y_nsN, y_nsC, y_tgN, y_tgT, y_tgL, y_tgsN, y_tgsC, y_forN, y_forC, y_cmN, y_cmC, y_wipN, y_wipC, y_wipU, y_wipV, y_bakN, y_bakC, y_chainE, y_chain3, y_chain3E, y_it3, y_nodN, y_ioL, y_ioR, y_argN, y_argL, y_argR, y_argO, y_argI, y_bkN, y_bkL, y_bkR, y_bkO, y_bkI, y_callE, y_outN, y_outR, x_op1, x_op2, x_opdS, x_opdN, x_getS, x_getV, x_slV, x_slO, x_slI, x_rd, x_rdV, x_rdO, x_asg, x_asgU, x_asgV, x_asgO, x_ret, x_retV, x_retO, x_put, x_putO, x_putI, x_add, x_adO, x_adI, x_own, x_ownO, x_ownI, x_base, x_finF, x_finT, x_asB, x_ofB, x_bindB, x_withE, x_dV, x_dO, x_sV, x_sO, x_seqN, x_seqR, x_seqB, x_seqC, x_turnN, x_turnC, x_turnB, x_turnR, x_add', x_sub', x_lt, x_le, x_gt, x_ge, x_eq, x_ne, x_is, x_isn, x_inn, x_nin, shaped_int, shaped_bool, shaped_none, x_eqI, x_eqN, x_eqB, x_eqT2, x_eqT3, x_sz1, x_sz2, x_sz3, x_sz4, x_sz5, x_sz6, truN, truB, truI, x_isNn, x_isNi, x_isNt, x_isNl, x_isIi, x_isIb, x_isBb, x_isBi, x_isTt, x_isLl, x_isTl, x_isLt, x_len, x_lenT, x_abs, x_int, x_intq, x_ixL, x_ixT, at_0, at_1, at_2, at_3, at_4, at_5, z_0, z_1, z_2, z_3, z_4, z_5, z_6, z_7, z_8, z_9, z_10, z_11, z_12, w_0, w_1, w_2, w_3, w_4, w_5, w_6, w_7, w_8, w_9, w_10, w_11, w_12, ix_1_0, ix_2_0, ix_2_1, ix_3_0, ix_3_1, ix_3_2, ix_4_0, ix_4_1, ix_4_2, ix_4_3, ix_5_0, ix_5_1, ix_5_2, ix_5_3, ix_5_4, ix_6_0, ix_6_1, ix_6_2, ix_6_3, ix_6_4, ix_6_5, ix_7_0, ix_7_1, ix_7_2, ix_7_3, ix_7_4, ix_7_5, ix_7_6, Option.map_some, Option.bind_some, Option.map_none, Option.bind_none, List.getElem?_cons_zero, List.getElem?_cons_succ, List.set_cons_zero, List.set_cons_succ, List.cons_append, List.nil_append, List.length_cons, List.length_nil, List.replicate, if_true, Bool.false_eq_true, if_false, reduceIte, Nat.reduceAdd, Nat.reduceSub, List.append_nil, List.take_succ_cons, List.take_zero, List.map_nil, Option.getD_some, decide_true, decide_false, List.nodup_nil, y_nod1, Bool.not_true, Bool.not_false, List.map_cons, ct_0, ct_1, ct_2, ct_3, ct_4, ct_5, ct_6, ct_7, ct_8, ct_9, ct_10, ct_11, ct_12, Bool.and_true, Bool.true_and, Bool.and_false, Bool.false_and, x_revL, x_revT, x_sz0, hr, h]
theorem pd_e {a b : Nat} {c : Bool} : (if c then [.tuple [.int (a : Nat), .int (b : Nat)]] else [] : List D) = if c then [pd (a, b)] else [] := rfl
theorem looks {n x m : Nat} (hm : m ≤ 40) : callT T (n + 1) 14 [.v (.int (x : Nat)), .v (.int (m : Nat))] = some (.o (pls (pl (m + 1) x)), [.v (.int (x : Nat)), .v (.int (m : Nat))]) := by
  rw [y_tc (f := f_looks) rfl]
  have z := small
  obtain ⟨e', h, s, t, es, et, rfl⟩ := forl_idx (d := fun i : Nat => PyData.int (0 + (i : Nat))) (g := bindT (.nm 3)) (b := evSs (callT T n) f_looks_b2) (I := fun j e => ∃ s t, Emp s ∧ Emp t ∧ e = [.v (.int (x : Nat)), .v (.int (m : Nat)), .o (pls (pl j x)), s, t]) (List.range (m + 1)) 0 (fun j hj e => by
    rintro ⟨s, t, es, et, rfl⟩
    rw [List.length_range] at hj
    rw [List.getElem_range, Int.zero_add, Nat.zero_add]
    have len := pl_len x j (by omega)
    obtain ⟨t', et', h⟩ := pairs_in (g4 := bindT (.nm 4)) (b := evSs (callT T n) f_looks_b1) (x := x) (a := j) (E := fun X s => [.v (.int (x : Nat)), .v (.int (m : Nat)), .o X, .v (.int (j : Nat)), s]) (fun i X s hi es hX => by
      obtain ⟨a, b⟩ := lo_1 (C := callT T n) (F := X) (x := (x : Nat)) (m := (m : Nat)) (a := (j : Nat)) (b := (i : Nat)) (c := decide (j + i = x)) es (decide_eq_decide.mpr (by omega)) rfl (by omega)
      exact ⟨_, a, b⟩) (pl j x) (by omega) t et
    obtain ⟨a, b⟩ := lo_2 (C := callT T n) es (rngS (by omega)) h
    exact ⟨_, _, a, b, .v _, t', trivial, et', by rw [pl_s]⟩) [.v (.int (x : Nat)), .v (.int (m : Nat)), .o [], .un, .un] ⟨.un, .un, trivial, trivial, by simp [pl, pls]⟩
  rw [List.length_range, Nat.zero_add, ← ranges_map] at h
  exact lo_g (rngS (by omega)) h
theorem spo_g {C : CT} {X L ns : List D} {m k : Int} {s t : Sl} (c5 : C 5 [.v (.tuple X)] = some (.v .none, [.v (.tuple X)])) (c0 : C 0 [.v (.int m)] = some (.v (.bool true), [.v (.int m)])) (h1 : 0 ≤ m) (h2 : m ≤ 40) (hn : b1R .len (.tuple X) = some (.v (.int k))) (hk : ¬ k ≤ 2 * m) (hr : rng2 0 (m + 1) = some ns) (h : forl (bindT (.nm 3)) (evSs C f_spoilt_b2) ns [.v (.tuple X), .v (.int m), .o [], .un, .un] = some (.nx [.v (.tuple X), .v (.int m), .o L, s, t])) :
    runFn C f_spoilt [.v (.tuple X), .v (.int m)] = some (.v (.tuple L), [.v (.tuple X), .v (.int m)]) := by
  rw [y_run (by rfl)]
  simp -implicitDefEqProofs only [f_spoilt, E.var?, y_con, y_varF, y_varT, y_glo, y_bin, y_neg, y_notT, y_notF, y_andT, y_andF, y_orT, y_orF, y_ite, y_cmp, y_chain, y_tup, y_lst, y_rep, y_idx, y_slice, y_rev, y_call, y_b1, y_b2, y_isI, y_lrng, y_compN, y_compS, y_esN, y_esC, y_rsN, y_rsC, y_asN, y_asV, y_asI, y_oN, y_oS, y_itS, y_it1, y_it2, y_asg, y_par, y_stp, y_unp, y_st, y_app, y_expr, y_iteS, y_for, y_retN, y_pass, y_brk, y_cont, y_raise, y_ssN, y_ssC, y_tasN, y_tasC, y_taN, y_taS, y_aug, y_augV, y_ret, y_retS, y_retE, y_enm, y_enmL, y_enmT, y_zip, y_zipL, y_zipT, y_ext, y_extO, y_seqL, y_seqT, y_nsN, y_nsC, y_tgN, y_tgT, y_tgL, y_tgsN, y_tgsC, y_forN, y_forC, y_cmN, y_cmC, y_wipN, y_wipC, y_wipU, y_wipV, y_bakN, y_bakC, y_chainE, y_chain3, y_chain3E, y_it3, y_nodN, y_ioL, y_ioR, y_argN, y_argL, y_argR, y_argO, y_argI, y_bkN, y_bkL, y_bkR, y_bkO, y_bkI, y_callE, y_outN, y_outR, x_op1, x_op2, x_opdS, x_opdN, x_getS, x_getV, x_slV, x_slO, x_slI, x_rd, x_rdV, x_rdO, x_asg, x_asgU, x_asgV, x_asgO, x_ret, x_retV, x_retO, x_put, x_putO, x_putI, x_add, x_adO, x_adI, x_own, x_ownO, x_ownI, x_base, x_finF, x_finT, x_asB, x_ofB, x_bindB, x_withE, x_dV, x_dO, x_sV, x_sO, x_seqN, x_seqR, x_seqB, x_seqC, x_turnN, x_turnC, x_turnB, x_turnR, x_add', x_sub', x_lt, x_le, x_gt, x_ge, x_eq, x_ne, x_is, x_isn, x_inn, x_nin, shaped_int, shaped_bool, shaped_none, x_eqI, x_eqN, x_eqB, x_eqT2, x_eqT3, x_sz1, x_sz2, x_sz3, x_sz4, x_sz5, x_sz6, truN, truB, truI, x_isNn, x_isNi, x_isNt, x_isNl, x_isIi, x_isIb, x_isBb, x_isBi, x_isTt, x_isLl, x_isTl, x_isLt, x_len, x_lenT, x_abs, x_int, x_intq, x_ixL, x_ixT, at_0, at_1, at_2, at_3, at_4, at_5, z_0, z_1, z_2, z_3, z_4, z_5, z_6, z_7, z_8, z_9, z_10, z_11, z_12, w_0, w_1, w_2, w_3, w_4, w_5, w_6, w_7, w_8, w_9, w_10, w_11, w_12, ix_1_0, ix_2_0, ix_2_1, ix_3_0, ix_3_1, ix_3_2, ix_4_0, ix_4_1, ix_4_2, ix_4_3, ix_5_0, ix_5_1, ix_5_2, ix_5_3, ix_5_4, ix_6_0, ix_6_1, ix_6_2, ix_6_3, ix_6_4, ix_6_5, ix_7_0, ix_7_1, ix_7_2, ix_7_3, ix_7_4, ix_7_5, ix_7_6, Option.map_some, Option.bind_some, Option.map_none, Option.bind_none, List.getElem?_cons_zero, List.getElem?_cons_succ, List.set_cons_zero, List.set_cons_succ, List.cons_append, List.nil_append, List.length_cons, List.length_nil, List.replicate, if_true, Bool.false_eq_true, if_false, reduceIte, Nat.reduceAdd, Nat.reduceSub, List.append_nil, List.take_succ_cons, List.take_zero, List.map_nil, Option.getD_some, decide_true, decide_false, List.nodup_nil, y_nod1, Bool.not_true, Bool.not_false, List.map_cons, ct_0, ct_1, ct_2, ct_3, ct_4, ct_5, ct_6, ct_7, ct_8, ct_9, ct_10, ct_11, ct_12, Bool.and_true, Bool.true_and, Bool.and_false, Bool.false_and, x_revL, x_revT, -x_lenT, c5, c0, h1, h2, x_mulD two1, hn, hk, x_sz0, hr, h, set_tup]
theorem spoilt {n N x m : Nat} {more : Int} (t : Tab N (wf x more)) (hm : m ≤ 40) (hN : 2 * m < N) (h0 : more ≠ 0) : callT T (n + 4) 12 [.v (.tuple (il (fl N (wf x more)))), .v (.int (m : Nat))] = some (.v (.tuple (pls (pl (m + 1) x))), [.v (.tuple (il (fl N (wf x more)))), .v (.int (m : Nat))]) := by
  rw [y_tc (f := f_spoilt) rfl]
  have z := small
  have t2 := t.2.1
  obtain ⟨e', h, s, u, es, eu, rfl⟩ := forl_idx (d := fun i : Nat => PyData.int (0 + (i : Nat))) (g := bindT (.nm 3)) (b := evSs (callT T (n + 3)) f_spoilt_b2) (I := fun j e => ∃ s t, Emp s ∧ Emp t ∧ e = [.v (.tuple (il (fl N (wf x more)))), .v (.int (m : Nat)), .o (pls (pl j x)), s, t]) (List.range (m + 1)) 0 (fun j hj e => by
    rintro ⟨s, t, es, et, rfl⟩
    rw [List.length_range] at hj
    rw [List.getElem_range, Int.zero_add, Nat.zero_add]
    have len := pl_len x j (by omega)
    obtain ⟨t', et', h⟩ := pairs_in (g4 := bindT (.nm 4)) (b := evSs (callT T (n + 3)) f_spoilt_b1) (x := x) (a := j) (E := fun X s => [.v (.tuple (il (fl N (wf x more)))), .v (.int (m : Nat)), .o X, .v (.int (j : Nat)), s]) (fun i X s hi es hX => by
      obtain ⟨a, b⟩ := sp_1 (C := callT T (n + 3)) (X := il (fl N (wf x more))) (F := X) (m := (m : Nat)) (a := (j : Nat)) (b := (i : Nat)) (c := pa x j i) es (at_f (i := j + i) (by omega) (by omega)) (at_f (i := j - i) (by omega) (by omega)) (by omega) (wf_pair h0 hi) (by omega)
      exact ⟨_, a, b⟩) (pl j x) (by omega) t et
    obtain ⟨a, b⟩ := sp_2 (C := callT T (n + 3)) es (rngS (by omega)) h
    exact ⟨_, _, a, b, .v _, t', trivial, et', by rw [pl_s]⟩) [.v (.tuple (il (fl N (wf x more)))), .v (.int (m : Nat)), .o [], .un, .un] ⟨.un, .un, trivial, trivial, by simp [pl, pls]⟩
  rw [List.length_range, Nat.zero_add, ← ranges_map] at h
  exact spo_g (chk_tab t) is_int (by omega) (by omega) il_len (by rw [fl_len]; omega) (rngS (by omega)) h
/-! the law's pairs, one fault -/
theorem lb_p {C : CT} {P Q F : Sl} {x a b : Int} {c d : Bool} (h1 : decide (a + b = x) = c) (h2 : decide (a - b = x) = d) : bindT (.nm 4) (.int b) [P, .v (.int x), F, .v (.int a), .un] = some [P, .v (.int x), F, .v (.int a), .v (.int b)] ∧
    asB (evX C (.cmp .ne (.cmp .eq (.bin .add (.var 3) (.var 4)) (.var 1)) (.cmp .eq (.bin .sub (.var 3) (.var 4)) (.var 1))) true [P, .v (.int x), F, .v (.int a), .v (.int b)]) = some (c != d, [P, .v (.int x), F, .v (.int a), .v (.int b)]) ∧
    evX C f__law_bad_e1 false [P, .v (.int x), F, .v (.int a), .v (.int b)] = some (.v (.tuple [.int a, .int b]), [P, .v (.int x), F, .v (.int a), .v (.int b)]) ∧ wipeE [P, .v (.int x), F, .v (.int a), .v (.int b)] [4] = some [P, .v (.int x), F, .v (.int a), .un] := by
  have q1 : (!true == true) = false := rfl
  have q2 : (!true == false) = true := rfl
  have q3 : (!false == true) = true := rfl
  have q4 : (!false == false) = false := rfl
  have r1 : (true != true) = false := rfl
  have r2 : (true != false) = true := rfl
  have r3 : (false != true) = true := rfl
  have r4 : (false != false) = false := rfl
  refine ⟨?_, ?_, ?_, ?_⟩
  · simp -implicitDefEqProofs only [E.var?, y_con, y_varF, y_varT, y_glo, y_bin, y_neg, y_notT, y_notF, y_andT, y_andF, y_orT, y_orF, y_ite, y_cmp, y_chain, y_tup, y_lst, y_rep, y_idx, y_slice, y_rev, y_call, y_b1, y_b2, y_isI, y_lrng, y_compN, y_compS, y_esN, y_esC, y_rsN, y_rsC, y_asN, y_asV, y_asI, y_oN, y_oS, y_itS, y_it1, y_it2, y_asg, y_par, y_stp, y_unp, y_st, y_app, y_expr, y_iteS, y_for, y_retN, y_pass, y_brk, y_cont, y_raise, y_ssN, y_ssC, y_tasN, y_tasC, y_taN, y_taS, y_aug, y_augV, y_ret, y_retS, y_retE, y_enm, y_enmL, y_enmT, y_zip, y_zipL, y_zipT, y_ext, y_extO, y_seqL, y_seqT, y_nsN, y_nsC, y_tgN, y_tgT, y_tgL, y_tgsN, y_tgsC, y_forN, y_forC, y_cmN, y_cmC, y_wipN, y_wipC, y_wipU, y_wipV, y_bakN, y_bakC, y_chainE, y_chain3, y_chain3E, y_it3, y_nodN, y_ioL, y_ioR, y_argN, y_argL, y_argR, y_argO, y_argI, y_bkN, y_bkL, y_bkR, y_bkO, y_bkI, y_callE, y_outN, y_outR, x_op1, x_op2, x_opdS, x_opdN, x_getS, x_getV, x_slV, x_slO, x_slI, x_rd, x_rdV, x_rdO, x_asg, x_asgU, x_asgV, x_asgO, x_ret, x_retV, x_retO, x_put, x_putO, x_putI, x_add, x_adO, x_adI, x_own, x_ownO, x_ownI, x_base, x_finF, x_finT, x_asB, x_ofB, x_bindB, x_withE, x_dV, x_dO, x_sV, x_sO, x_seqN, x_seqR, x_seqB, x_seqC, x_turnN, x_turnC, x_turnB, x_turnR, x_add', x_sub', x_lt, x_le, x_gt, x_ge, x_eq, x_ne, x_is, x_isn, x_inn, x_nin, shaped_int, shaped_bool, shaped_none, x_eqI, x_eqN, x_eqB, x_eqT2, x_eqT3, x_sz1, x_sz2, x_sz3, x_sz4, x_sz5, x_sz6, truN, truB, truI, x_isNn, x_isNi, x_isNt, x_isNl, x_isIi, x_isIb, x_isBb, x_isBi, x_isTt, x_isLl, x_isTl, x_isLt, x_len, x_lenT, x_abs, x_int, x_intq, x_ixL, x_ixT, at_0, at_1, at_2, at_3, at_4, at_5, z_0, z_1, z_2, z_3, z_4, z_5, z_6, z_7, z_8, z_9, z_10, z_11, z_12, w_0, w_1, w_2, w_3, w_4, w_5, w_6, w_7, w_8, w_9, w_10, w_11, w_12, ix_1_0, ix_2_0, ix_2_1, ix_3_0, ix_3_1, ix_3_2, ix_4_0, ix_4_1, ix_4_2, ix_4_3, ix_5_0, ix_5_1, ix_5_2, ix_5_3, ix_5_4, ix_6_0, ix_6_1, ix_6_2, ix_6_3, ix_6_4, ix_6_5, ix_7_0, ix_7_1, ix_7_2, ix_7_3, ix_7_4, ix_7_5, ix_7_6, Option.map_some, Option.bind_some, Option.map_none, Option.bind_none, List.getElem?_cons_zero, List.getElem?_cons_succ, List.set_cons_zero, List.set_cons_succ, List.cons_append, List.nil_append, List.length_cons, List.length_nil, List.replicate, if_true, Bool.false_eq_true, if_false, reduceIte, Nat.reduceAdd, Nat.reduceSub, List.append_nil, List.take_succ_cons, List.take_zero, List.map_nil, Option.getD_some, decide_true, decide_false, List.nodup_nil, y_nod1, Bool.not_true, Bool.not_false, List.map_cons, ct_0, ct_1, ct_2, ct_3, ct_4, ct_5, ct_6, ct_7, ct_8, ct_9, ct_10, ct_11, ct_12, Bool.and_true, Bool.true_and, Bool.and_false, Bool.false_and, x_revL, x_revT]
  · cases c <;> cases d <;> simp -implicitDefEqProofs only [E.var?, y_con, y_varF, y_varT, y_glo, y_bin, y_neg, y_notT, y_notF, y_andT, y_andF, y_orT, y_orF, y_ite, y_cmp, y_chain, y_tup, y_lst, y_rep, y_idx, y_slice, y_rev, y_call, y_b1, y_b2, y_isI, y_lrng, y_compN, y_compS, y_esN, y_esC, y_rsN, y_rsC, y_asN, y_asV, y_asI, y_oN, y_oS, y_itS, y_it1, y_it2, y_asg, y_par, y_stp, y_unp, y_st, y_app, y_expr, y_iteS, y_for, y_retN, y_pass, y_brk, y_cont, y_raise, y_ssN, y_ssC, y_tasN, y_tasC, y_taN, y_taS, y_aug, y_augV, y_ret, y_retS, y_retE, y_enm, y_enmL, y_enmT, y_zip, y_zipL, y_zipT, y_ext, y_extO, y_seqL, y_seqT, y_nsN, y_nsC, y_tgN, y_tgT, y_tgL, y_tgsN, y_tgsC, y_forN, y_forC, y_cmN, y_cmC, y_wipN, y_wipC, y_wipU, y_wipV, y_bakN, y_bakC, y_chainE, y_chain3, y_chain3E, y_it3, y_nodN, y_ioL, y_ioR, y_argN, y_argL, y_argR, y_argO, y_argI, y_bkN, y_bkL, y_bkR, y_bkO, y_bkI, y_callE, y_outN, y_outR, x_op1, x_op2, x_opdS, x_opdN, x_getS, x_getV, x_slV, x_slO, x_slI, x_rd, x_rdV, x_rdO, x_asg, x_asgU, x_asgV, x_asgO, x_ret, x_retV, x_retO, x_put, x_putO, x_putI, x_add, x_adO, x_adI, x_own, x_ownO, x_ownI, x_base, x_finF, x_finT, x_asB, x_ofB, x_bindB, x_withE, x_dV, x_dO, x_sV, x_sO, x_seqN, x_seqR, x_seqB, x_seqC, x_turnN, x_turnC, x_turnB, x_turnR, x_add', x_sub', x_lt, x_le, x_gt, x_ge, x_eq, x_ne, x_is, x_isn, x_inn, x_nin, shaped_int, shaped_bool, shaped_none, x_eqI, x_eqN, x_eqB, x_eqT2, x_eqT3, x_sz1, x_sz2, x_sz3, x_sz4, x_sz5, x_sz6, truN, truB, truI, x_isNn, x_isNi, x_isNt, x_isNl, x_isIi, x_isIb, x_isBb, x_isBi, x_isTt, x_isLl, x_isTl, x_isLt, x_len, x_lenT, x_abs, x_int, x_intq, x_ixL, x_ixT, at_0, at_1, at_2, at_3, at_4, at_5, z_0, z_1, z_2, z_3, z_4, z_5, z_6, z_7, z_8, z_9, z_10, z_11, z_12, w_0, w_1, w_2, w_3, w_4, w_5, w_6, w_7, w_8, w_9, w_10, w_11, w_12, ix_1_0, ix_2_0, ix_2_1, ix_3_0, ix_3_1, ix_3_2, ix_4_0, ix_4_1, ix_4_2, ix_4_3, ix_5_0, ix_5_1, ix_5_2, ix_5_3, ix_5_4, ix_6_0, ix_6_1, ix_6_2, ix_6_3, ix_6_4, ix_6_5, ix_7_0, ix_7_1, ix_7_2, ix_7_3, ix_7_4, ix_7_5, ix_7_6, Option.map_some, Option.bind_some, Option.map_none, Option.bind_none, List.getElem?_cons_zero, List.getElem?_cons_succ, List.set_cons_zero, List.set_cons_succ, List.cons_append, List.nil_append, List.length_cons, List.length_nil, List.replicate, if_true, Bool.false_eq_true, if_false, reduceIte, Nat.reduceAdd, Nat.reduceSub, List.append_nil, List.take_succ_cons, List.take_zero, List.map_nil, Option.getD_some, decide_true, decide_false, List.nodup_nil, y_nod1, Bool.not_true, Bool.not_false, List.map_cons, ct_0, ct_1, ct_2, ct_3, ct_4, ct_5, ct_6, ct_7, ct_8, ct_9, ct_10, ct_11, ct_12, Bool.and_true, Bool.true_and, Bool.and_false, Bool.false_and, x_revL, x_revT, h1, h2, x_eqB, q1, q2, q3, q4, r1, r2, r3, r4]
  · simp -implicitDefEqProofs only [f__law_bad_e1, E.var?, y_con, y_varF, y_varT, y_glo, y_bin, y_neg, y_notT, y_notF, y_andT, y_andF, y_orT, y_orF, y_ite, y_cmp, y_chain, y_tup, y_lst, y_rep, y_idx, y_slice, y_rev, y_call, y_b1, y_b2, y_isI, y_lrng, y_compN, y_compS, y_esN, y_esC, y_rsN, y_rsC, y_asN, y_asV, y_asI, y_oN, y_oS, y_itS, y_it1, y_it2, y_asg, y_par, y_stp, y_unp, y_st, y_app, y_expr, y_iteS, y_for, y_retN, y_pass, y_brk, y_cont, y_raise, y_ssN, y_ssC, y_tasN, y_tasC, y_taN, y_taS, y_aug, y_augV, y_ret, y_retS, y_retE, y_enm, y_enmL, y_enmT, y_zip, y_zipL, y_zipT, y_ext, y_extO, y_seqL, y_seqT, y_nsN, y_nsC, y_tgN, y_tgT, y_tgL, y_tgsN, y_tgsC, y_forN, y_forC, y_cmN, y_cmC, y_wipN, y_wipC, y_wipU, y_wipV, y_bakN, y_bakC, y_chainE, y_chain3, y_chain3E, y_it3, y_nodN, y_ioL, y_ioR, y_argN, y_argL, y_argR, y_argO, y_argI, y_bkN, y_bkL, y_bkR, y_bkO, y_bkI, y_callE, y_outN, y_outR, x_op1, x_op2, x_opdS, x_opdN, x_getS, x_getV, x_slV, x_slO, x_slI, x_rd, x_rdV, x_rdO, x_asg, x_asgU, x_asgV, x_asgO, x_ret, x_retV, x_retO, x_put, x_putO, x_putI, x_add, x_adO, x_adI, x_own, x_ownO, x_ownI, x_base, x_finF, x_finT, x_asB, x_ofB, x_bindB, x_withE, x_dV, x_dO, x_sV, x_sO, x_seqN, x_seqR, x_seqB, x_seqC, x_turnN, x_turnC, x_turnB, x_turnR, x_add', x_sub', x_lt, x_le, x_gt, x_ge, x_eq, x_ne, x_is, x_isn, x_inn, x_nin, shaped_int, shaped_bool, shaped_none, x_eqI, x_eqN, x_eqB, x_eqT2, x_eqT3, x_sz1, x_sz2, x_sz3, x_sz4, x_sz5, x_sz6, truN, truB, truI, x_isNn, x_isNi, x_isNt, x_isNl, x_isIi, x_isIb, x_isBb, x_isBi, x_isTt, x_isLl, x_isTl, x_isLt, x_len, x_lenT, x_abs, x_int, x_intq, x_ixL, x_ixT, at_0, at_1, at_2, at_3, at_4, at_5, z_0, z_1, z_2, z_3, z_4, z_5, z_6, z_7, z_8, z_9, z_10, z_11, z_12, w_0, w_1, w_2, w_3, w_4, w_5, w_6, w_7, w_8, w_9, w_10, w_11, w_12, ix_1_0, ix_2_0, ix_2_1, ix_3_0, ix_3_1, ix_3_2, ix_4_0, ix_4_1, ix_4_2, ix_4_3, ix_5_0, ix_5_1, ix_5_2, ix_5_3, ix_5_4, ix_6_0, ix_6_1, ix_6_2, ix_6_3, ix_6_4, ix_6_5, ix_7_0, ix_7_1, ix_7_2, ix_7_3, ix_7_4, ix_7_5, ix_7_6, Option.map_some, Option.bind_some, Option.map_none, Option.bind_none, List.getElem?_cons_zero, List.getElem?_cons_succ, List.set_cons_zero, List.set_cons_succ, List.cons_append, List.nil_append, List.length_cons, List.length_nil, List.replicate, if_true, Bool.false_eq_true, if_false, reduceIte, Nat.reduceAdd, Nat.reduceSub, List.append_nil, List.take_succ_cons, List.take_zero, List.map_nil, Option.getD_some, decide_true, decide_false, List.nodup_nil, y_nod1, Bool.not_true, Bool.not_false, List.map_cons, ct_0, ct_1, ct_2, ct_3, ct_4, ct_5, ct_6, ct_7, ct_8, ct_9, ct_10, ct_11, ct_12, Bool.and_true, Bool.true_and, Bool.and_false, Bool.false_and, x_revL, x_revT]
  · simp -implicitDefEqProofs only [E.var?, y_con, y_varF, y_varT, y_glo, y_bin, y_neg, y_notT, y_notF, y_andT, y_andF, y_orT, y_orF, y_ite, y_cmp, y_chain, y_tup, y_lst, y_rep, y_idx, y_slice, y_rev, y_call, y_b1, y_b2, y_isI, y_lrng, y_compN, y_compS, y_esN, y_esC, y_rsN, y_rsC, y_asN, y_asV, y_asI, y_oN, y_oS, y_itS, y_it1, y_it2, y_asg, y_par, y_stp, y_unp, y_st, y_app, y_expr, y_iteS, y_for, y_retN, y_pass, y_brk, y_cont, y_raise, y_ssN, y_ssC, y_tasN, y_tasC, y_taN, y_taS, y_aug, y_augV, y_ret, y_retS, y_retE, y_enm, y_enmL, y_enmT, y_zip, y_zipL, y_zipT, y_ext, y_extO, y_seqL, y_seqT, y_nsN, y_nsC, y_tgN, y_tgT, y_tgL, y_tgsN, y_tgsC, y_forN, y_forC, y_cmN, y_cmC, y_wipN, y_wipC, y_wipU, y_wipV, y_bakN, y_bakC, y_chainE, y_chain3, y_chain3E, y_it3, y_nodN, y_ioL, y_ioR, y_argN, y_argL, y_argR, y_argO, y_argI, y_bkN, y_bkL, y_bkR, y_bkO, y_bkI, y_callE, y_outN, y_outR, x_op1, x_op2, x_opdS, x_opdN, x_getS, x_getV, x_slV, x_slO, x_slI, x_rd, x_rdV, x_rdO, x_asg, x_asgU, x_asgV, x_asgO, x_ret, x_retV, x_retO, x_put, x_putO, x_putI, x_add, x_adO, x_adI, x_own, x_ownO, x_ownI, x_base, x_finF, x_finT, x_asB, x_ofB, x_bindB, x_withE, x_dV, x_dO, x_sV, x_sO, x_seqN, x_seqR, x_seqB, x_seqC, x_turnN, x_turnC, x_turnB, x_turnR, x_add', x_sub', x_lt, x_le, x_gt, x_ge, x_eq, x_ne, x_is, x_isn, x_inn, x_nin, shaped_int, shaped_bool, shaped_none, x_eqI, x_eqN, x_eqB, x_eqT2, x_eqT3, x_sz1, x_sz2, x_sz3, x_sz4, x_sz5, x_sz6, truN, truB, truI, x_isNn, x_isNi, x_isNt, x_isNl, x_isIi, x_isIb, x_isBb, x_isBi, x_isTt, x_isLl, x_isTl, x_isLt, x_len, x_lenT, x_abs, x_int, x_intq, x_ixL, x_ixT, at_0, at_1, at_2, at_3, at_4, at_5, z_0, z_1, z_2, z_3, z_4, z_5, z_6, z_7, z_8, z_9, z_10, z_11, z_12, w_0, w_1, w_2, w_3, w_4, w_5, w_6, w_7, w_8, w_9, w_10, w_11, w_12, ix_1_0, ix_2_0, ix_2_1, ix_3_0, ix_3_1, ix_3_2, ix_4_0, ix_4_1, ix_4_2, ix_4_3, ix_5_0, ix_5_1, ix_5_2, ix_5_3, ix_5_4, ix_6_0, ix_6_1, ix_6_2, ix_6_3, ix_6_4, ix_6_5, ix_7_0, ix_7_1, ix_7_2, ix_7_3, ix_7_4, ix_7_5, ix_7_6, Option.map_some, Option.bind_some, Option.map_none, Option.bind_none, List.getElem?_cons_zero, List.getElem?_cons_succ, List.set_cons_zero, List.set_cons_succ, List.cons_append, List.nil_append, List.length_cons, List.length_nil, List.replicate, if_true, Bool.false_eq_true, if_false, reduceIte, Nat.reduceAdd, Nat.reduceSub, List.append_nil, List.take_succ_cons, List.take_zero, List.map_nil, Option.getD_some, decide_true, decide_false, List.nodup_nil, y_nod1, Bool.not_true, Bool.not_false, List.map_cons, ct_0, ct_1, ct_2, ct_3, ct_4, ct_5, ct_6, ct_7, ct_8, ct_9, ct_10, ct_11, ct_12, Bool.and_true, Bool.true_and, Bool.and_false, Bool.false_and, x_revL, x_revT]
theorem lb_b {C : CT} {P : D} {F L ns : List D} {x a : Int} {s : Sl} (es : Emp s) (hr : rng2 0 (a + 1) = some ns) (h : compE (bindT (.nm 4)) [4] (fun e => asB (evX C (.cmp .ne (.cmp .eq (.bin .add (.var 3) (.var 4)) (.var 1)) (.cmp .eq (.bin .sub (.var 3) (.var 4)) (.var 1))) true e)) (evX C f__law_bad_e1 false) (some (ns, [.v P, .v (.int x), .o F, .v (.int a), .un])) = some (.o L, [.v P, .v (.int x), .o F, .v (.int a), .un])) (hs : F.length + L.length ≤ sizeLine) :
    bindT (.nm 3) (.int a) [.v P, .v (.int x), .o F, s, .un] = some [.v P, .v (.int x), .o F, .v (.int a), .un] ∧ evSs C f__law_bad_b1 [.v P, .v (.int x), .o F, .v (.int a), .un] = some (.nx [.v P, .v (.int x), .o (F ++ L), .v (.int a), .un]) := by
  constructor
  · cases s <;> first | (exact es.elim) | simp -implicitDefEqProofs only [E.var?, y_con, y_varF, y_varT, y_glo, y_bin, y_neg, y_notT, y_notF, y_andT, y_andF, y_orT, y_orF, y_ite, y_cmp, y_chain, y_tup, y_lst, y_rep, y_idx, y_slice, y_rev, y_call, y_b1, y_b2, y_isI, y_lrng, y_compN, y_compS, y_esN, y_esC, y_rsN, y_rsC, y_asN, y_asV, y_asI, y_oN, y_oS, y_itS, y_it1, y_it2, y_asg, y_par, y_stp, y_unp, y_st, y_app, y_expr, y_iteS, y_for, y_retN, y_pass, y_brk, y_cont, y_raise, y_ssN, y_ssC, y_tasN, y_tasC, y_taN, y_taS, y_aug, y_augV, y_ret, y_retS, y_retE, y_enm, y_enmL, y_enmT, y_zip, y_zipL, y_zipT, y_ext, y_extO, y_seqL, y_seqT, y_nsN, y_nsC, y_tgN, y_tgT, y_tgL, y_tgsN, y_tgsC, y_forN, y_forC, y_cmN, y_cmC, y_wipN, y_wipC, y_wipU, y_wipV, y_bakN, y_bakC, y_chainE, y_chain3, y_chain3E, y_it3, y_nodN, y_ioL, y_ioR, y_argN, y_argL, y_argR, y_argO, y_argI, y_bkN, y_bkL, y_bkR, y_bkO, y_bkI, y_callE, y_outN, y_outR, x_op1, x_op2, x_opdS, x_opdN, x_getS, x_getV, x_slV, x_slO, x_slI, x_rd, x_rdV, x_rdO, x_asg, x_asgU, x_asgV, x_asgO, x_ret, x_retV, x_retO, x_put, x_putO, x_putI, x_add, x_adO, x_adI, x_own, x_ownO, x_ownI, x_base, x_finF, x_finT, x_asB, x_ofB, x_bindB, x_withE, x_dV, x_dO, x_sV, x_sO, x_seqN, x_seqR, x_seqB, x_seqC, x_turnN, x_turnC, x_turnB, x_turnR, x_add', x_sub', x_lt, x_le, x_gt, x_ge, x_eq, x_ne, x_is, x_isn, x_inn, x_nin, shaped_int, shaped_bool, shaped_none, x_eqI, x_eqN, x_eqB, x_eqT2, x_eqT3, x_sz1, x_sz2, x_sz3, x_sz4, x_sz5, x_sz6, truN, truB, truI, x_isNn, x_isNi, x_isNt, x_isNl, x_isIi, x_isIb, x_isBb, x_isBi, x_isTt, x_isLl, x_isTl, x_isLt, x_len, x_lenT, x_abs, x_int, x_intq, x_ixL, x_ixT, at_0, at_1, at_2, at_3, at_4, at_5, z_0, z_1, z_2, z_3, z_4, z_5, z_6, z_7, z_8, z_9, z_10, z_11, z_12, w_0, w_1, w_2, w_3, w_4, w_5, w_6, w_7, w_8, w_9, w_10, w_11, w_12, ix_1_0, ix_2_0, ix_2_1, ix_3_0, ix_3_1, ix_3_2, ix_4_0, ix_4_1, ix_4_2, ix_4_3, ix_5_0, ix_5_1, ix_5_2, ix_5_3, ix_5_4, ix_6_0, ix_6_1, ix_6_2, ix_6_3, ix_6_4, ix_6_5, ix_7_0, ix_7_1, ix_7_2, ix_7_3, ix_7_4, ix_7_5, ix_7_6, Option.map_some, Option.bind_some, Option.map_none, Option.bind_none, List.getElem?_cons_zero, List.getElem?_cons_succ, List.set_cons_zero, List.set_cons_succ, List.cons_append, List.nil_append, List.length_cons, List.length_nil, List.replicate, if_true, Bool.false_eq_true, if_false, reduceIte, Nat.reduceAdd, Nat.reduceSub, List.append_nil, List.take_succ_cons, List.take_zero, List.map_nil, Option.getD_some, decide_true, decide_false, List.nodup_nil, y_nod1, Bool.not_true, Bool.not_false, List.map_cons, ct_0, ct_1, ct_2, ct_3, ct_4, ct_5, ct_6, ct_7, ct_8, ct_9, ct_10, ct_11, ct_12, Bool.and_true, Bool.true_and, Bool.and_false, Bool.false_and, x_revL, x_revT]
  · simp -implicitDefEqProofs only [f__law_bad_b1, E.var?, y_con, y_varF, y_varT, y_glo, y_bin, y_neg, y_notT, y_notF, y_andT, y_andF, y_orT, y_orF, y_ite, y_cmp, y_chain, y_tup, y_lst, y_rep, y_idx, y_slice, y_rev, y_call, y_b1, y_b2, y_isI, y_lrng, y_compN, y_compS, y_esN, y_esC, y_rsN, y_rsC, y_asN, y_asV, y_asI, y_oN, y_oS, y_itS, y_it1, y_it2, y_asg, y_par, y_stp, y_unp, y_st, y_app, y_expr, y_iteS, y_for, y_retN, y_pass, y_brk, y_cont, y_raise, y_ssN, y_ssC, y_tasN, y_tasC, y_taN, y_taS, y_aug, y_augV, y_ret, y_retS, y_retE, y_enm, y_enmL, y_enmT, y_zip, y_zipL, y_zipT, y_ext, y_extO, y_seqL, y_seqT, y_nsN, y_nsC, y_tgN, y_tgT, y_tgL, y_tgsN, y_tgsC, y_forN, y_forC, y_cmN, y_cmC, y_wipN, y_wipC, y_wipU, y_wipV, y_bakN, y_bakC, y_chainE, y_chain3, y_chain3E, y_it3, y_nodN, y_ioL, y_ioR, y_argN, y_argL, y_argR, y_argO, y_argI, y_bkN, y_bkL, y_bkR, y_bkO, y_bkI, y_callE, y_outN, y_outR, x_op1, x_op2, x_opdS, x_opdN, x_getS, x_getV, x_slV, x_slO, x_slI, x_rd, x_rdV, x_rdO, x_asg, x_asgU, x_asgV, x_asgO, x_ret, x_retV, x_retO, x_put, x_putO, x_putI, x_add, x_adO, x_adI, x_own, x_ownO, x_ownI, x_base, x_finF, x_finT, x_asB, x_ofB, x_bindB, x_withE, x_dV, x_dO, x_sV, x_sO, x_seqN, x_seqR, x_seqB, x_seqC, x_turnN, x_turnC, x_turnB, x_turnR, x_add', x_sub', x_lt, x_le, x_gt, x_ge, x_eq, x_ne, x_is, x_isn, x_inn, x_nin, shaped_int, shaped_bool, shaped_none, x_eqI, x_eqN, x_eqB, x_eqT2, x_eqT3, x_sz1, x_sz2, x_sz3, x_sz4, x_sz5, x_sz6, truN, truB, truI, x_isNn, x_isNi, x_isNt, x_isNl, x_isIi, x_isIb, x_isBb, x_isBi, x_isTt, x_isLl, x_isTl, x_isLt, x_len, x_lenT, x_abs, x_int, x_intq, x_ixL, x_ixT, at_0, at_1, at_2, at_3, at_4, at_5, z_0, z_1, z_2, z_3, z_4, z_5, z_6, z_7, z_8, z_9, z_10, z_11, z_12, w_0, w_1, w_2, w_3, w_4, w_5, w_6, w_7, w_8, w_9, w_10, w_11, w_12, ix_1_0, ix_2_0, ix_2_1, ix_3_0, ix_3_1, ix_3_2, ix_4_0, ix_4_1, ix_4_2, ix_4_3, ix_5_0, ix_5_1, ix_5_2, ix_5_3, ix_5_4, ix_6_0, ix_6_1, ix_6_2, ix_6_3, ix_6_4, ix_6_5, ix_7_0, ix_7_1, ix_7_2, ix_7_3, ix_7_4, ix_7_5, ix_7_6, Option.map_some, Option.bind_some, Option.map_none, Option.bind_none, List.getElem?_cons_zero, List.getElem?_cons_succ, List.set_cons_zero, List.set_cons_succ, List.cons_append, List.nil_append, List.length_cons, List.length_nil, List.replicate, if_true, Bool.false_eq_true, if_false, reduceIte, Nat.reduceAdd, Nat.reduceSub, List.append_nil, List.take_succ_cons, List.take_zero, List.map_nil, Option.getD_some, decide_true, decide_false, List.nodup_nil, y_nod1, Bool.not_true, Bool.not_false, List.map_cons, ct_0, ct_1, ct_2, ct_3, ct_4, ct_5, ct_6, ct_7, ct_8, ct_9, ct_10, ct_11, ct_12, Bool.and_true, Bool.true_and, Bool.and_false, Bool.false_and, x_revL, x_revT, hr, h, hs]
theorem lb_g {C : CT} {x m : Int} {L ns : List D} {s : Sl} (hr : rng2 0 (m + 1) = some ns) (h : forl (bindT (.nm 3)) (evSs C f__law_bad_b1) ns [.v (.int m), .v (.int x), .o [], .un, .un] = some (.nx [.v (.int m), .v (.int x), .o L, s, .un])) : runFn C f__law_bad [.v (.int m), .v (.int x)] = some (.o L, [.v (.int m), .v (.int x)]) := by
  rw [y_run (by rfl)]
  simp -implicitDefEqProofs only [f__law_bad, E.var?, y_con, y_varF, y_varT, y_glo, y_bin, y_neg, y_notT, y_notF, y_andT, y_andF, y_orT, y_orF, y_ite, y_cmp, y_chain, y_tup, y_lst, y_rep, y_idx, y_slice, y_rev, y_call, y_b1, y_b2, y_isI, y_lrng, y_compN, y_compS, y_esN, y_esC, y_rsN, y_rsC, y_asN, y_asV, y_asI, y_oN, y_oS, y_itS, y_it1, y_it2, y_asg, y_par, y_stp, y_unp, y_st, y_app, y_expr, y_iteS, y_for, y_retN, y_pass, y_brk, y_cont, y_raise, y_ssN, y_ssC, y_tasN, y_tasC, y_taN, y_taS, y_aug, y_augV, y_ret, y_retS, y_retE, y_enm, y_enmL, y_enmT, y_zip, y_zipL, y_zipT, y_ext, y_extO, y_seqL, y_seqT, y_nsN, y_nsC, y_tgN, y_tgT, y_tgL, y_tgsN, y_tgsC, y_forN, y_forC, y_cmN, y_cmC, y_wipN, y_wipC, y_wipU, y_wipV, y_bakN, y_bakC, y_chainE, y_chain3, y_chain3E, y_it3, y_nodN, y_ioL, y_ioR, y_argN, y_argL, y_argR, y_argO, y_argI, y_bkN, y_bkL, y_bkR, y_bkO, y_bkI, y_callE, y_outN, y_outR, x_op1, x_op2, x_opdS, x_opdN, x_getS, x_getV, x_slV, x_slO, x_slI, x_rd, x_rdV, x_rdO, x_asg, x_asgU, x_asgV, x_asgO, x_ret, x_retV, x_retO, x_put, x_putO, x_putI, x_add, x_adO, x_adI, x_own, x_ownO, x_ownI, x_base, x_finF, x_finT, x_asB, x_ofB, x_bindB, x_withE, x_dV, x_dO, x_sV, x_sO, x_seqN, x_seqR, x_seqB, x_seqC, x_turnN, x_turnC, x_turnB, x_turnR, x_add', x_sub', x_lt, x_le, x_gt, x_ge, x_eq, x_ne, x_is, x_isn, x_inn, x_nin, shaped_int, shaped_bool, shaped_none, x_eqI, x_eqN, x_eqB, x_eqT2, x_eqT3, x_sz1, x_sz2, x_sz3, x_sz4, x_sz5, x_sz6, truN, truB, truI, x_isNn, x_isNi, x_isNt, x_isNl, x_isIi, x_isIb, x_isBb, x_isBi, x_isTt, x_isLl, x_isTl, x_isLt, x_len, x_lenT, x_abs, x_int, x_intq, x_ixL, x_ixT, at_0, at_1, at_2, at_3, at_4, at_5, z_0, z_1, z_2, z_3, z_4, z_5, z_6, z_7, z_8, z_9, z_10, z_11, z_12, w_0, w_1, w_2, w_3, w_4, w_5, w_6, w_7, w_8, w_9, w_10, w_11, w_12, ix_1_0, ix_2_0, ix_2_1, ix_3_0, ix_3_1, ix_3_2, ix_4_0, ix_4_1, ix_4_2, ix_4_3, ix_5_0, ix_5_1, ix_5_2, ix_5_3, ix_5_4, ix_6_0, ix_6_1, ix_6_2, ix_6_3, ix_6_4, ix_6_5, ix_7_0, ix_7_1, ix_7_2, ix_7_3, ix_7_4, ix_7_5, ix_7_6, Option.map_some, Option.bind_some, Option.map_none, Option.bind_none, List.getElem?_cons_zero, List.getElem?_cons_succ, List.set_cons_zero, List.set_cons_succ, List.cons_append, List.nil_append, List.length_cons, List.length_nil, List.replicate, if_true, Bool.false_eq_true, if_false, reduceIte, Nat.reduceAdd, Nat.reduceSub, List.append_nil, List.take_succ_cons, List.take_zero, List.map_nil, Option.getD_some, decide_true, decide_false, List.nodup_nil, y_nod1, Bool.not_true, Bool.not_false, List.map_cons, ct_0, ct_1, ct_2, ct_3, ct_4, ct_5, ct_6, ct_7, ct_8, ct_9, ct_10, ct_11, ct_12, Bool.and_true, Bool.true_and, Bool.and_false, Bool.false_and, x_revL, x_revT, x_sz0, hr, h]
theorem law_bad {n x m : Nat} (hm : m ≤ 40) : callT T (n + 1) 21 [.v (.int (m : Nat)), .v (.int (x : Nat))] = some (.o (pls (pl (m + 1) x)), [.v (.int (m : Nat)), .v (.int (x : Nat))]) := by
  rw [y_tc (f := f__law_bad) rfl]
  have z := small
  obtain ⟨e', h, s, es, rfl⟩ := forl_idx (d := fun i : Nat => PyData.int (0 + (i : Nat))) (g := bindT (.nm 3)) (b := evSs (callT T n) f__law_bad_b1) (I := fun j e => ∃ s, Emp s ∧ e = [.v (.int (m : Nat)), .v (.int (x : Nat)), .o (pls (pl j x)), s, .un]) (List.range (m + 1)) 0 (fun j hj e => by
    rintro ⟨s, es, rfl⟩
    rw [List.length_range] at hj
    rw [List.getElem_range, Int.zero_add, Nat.zero_add]
    have len := pl_len x j (by omega)
    have hc := compE_map (tg := bindT (.nm 4)) (own := [4]) (test := fun e => asB (evX (callT T n) (.cmp .ne (.cmp .eq (.bin .add (.var 3) (.var 4)) (.var 1)) (.cmp .eq (.bin .sub (.var 3) (.var 4)) (.var 1))) true e)) (elt := evX (callT T n) f__law_bad_e1 false) (d := fun i : Nat => PyData.int (0 + (i : Nat))) (p := pa x j) (f := fun i => pd (j, i)) (env := [.v (.int (m : Nat)), .v (.int (x : Nat)), .o (pls (pl j x)), .v (.int (j : Nat)), .un]) (e0 := [.v (.int (m : Nat)), .v (.int (x : Nat)), .o (pls (pl j x)), .v (.int (j : Nat)), .un]) (List.range (j + 1)) rfl (fun i hi => by
      rw [Int.zero_add]
      have hi := List.mem_range.mp hi
      obtain ⟨a, b, c, d⟩ := lb_p (C := callT T n) (P := .v (.int (m : Nat))) (F := .o (pls (pl j x))) (Q := .un) (x := (x : Nat)) (a := (j : Nat)) (b := (i : Nat)) (c := decide (j + i = x)) (decide_eq_decide.mpr (by omega)) rfl
      exact ⟨_, _, a, b, fun _ => d, fun _ => ⟨_, _, c, rfl, d⟩⟩) (by rw [List.length_range]; omega)
    rw [← ranges_map] at hc
    have e : ((List.range (j + 1)).filter (pa x j)).map (fun i => pd (j, i)) = pls (row x j) := by rw [row, pls, List.map_map]; rfl
    rw [e] at hc
    have rl := rowN_len x j (j + 1)
    have er : (pls (row x j)).length = (rowN x j (j + 1)).length := by rw [pls, List.length_map]; rfl
    obtain ⟨a, b⟩ := lb_b (C := callT T n) es (rngS (by omega)) hc (by rw [er]; simp only [pls, List.length_map]; omega)
    exact ⟨_, _, a, b, .v _, trivial, by rw [pl_s, pls, pls, pls, List.map_append]⟩) [.v (.int (m : Nat)), .v (.int (x : Nat)), .o [], .un, .un] ⟨.un, trivial, by simp [pl, pls]⟩
  rw [List.length_range, Nat.zero_add, ← ranges_map] at h
  exact lb_g (rngS (by omega)) h
abbrev sO : D := .str (PySem.Str.ofString "one")
theorem of_s {C : CT} {P : D} {L W : List D} {m a : Int} {s t : Sl} {c : Bool} (es : Emp s) (et : t = .un ∨ ∃ l, t = .o l) (c14 : C 14 [.v (.int a), .v (.int m)] = some (.o L, [.v (.int a), .v (.int m)])) (h : eqD (.list L) (.list W) = some c) :
    bindT (.nm 3) (.int a) [.v P, .v (.int m), .v (.tuple W), s, t] = some [.v P, .v (.int m), .v (.tuple W), .v (.int a), t] ∧
    evSs C f_one_fault_b1 [.v P, .v (.int m), .v (.tuple W), .v (.int a), t] = some (if c then .rt (.v (.tuple [sO, .int a])) [.v P, .v (.int m), .v (.tuple W), .v (.int a), .o L] else .nx [.v P, .v (.int m), .v (.tuple W), .v (.int a), .o L]) := by
  constructor
  · rcases et with rfl | ⟨l, rfl⟩ <;> cases s <;> first | (exact es.elim) | simp -implicitDefEqProofs only [E.var?, y_con, y_varF, y_varT, y_glo, y_bin, y_neg, y_notT, y_notF, y_andT, y_andF, y_orT, y_orF, y_ite, y_cmp, y_chain, y_tup, y_lst, y_rep, y_idx, y_slice, y_rev, y_call, y_b1, y_b2, y_isI, y_lrng, y_compN, y_compS, y_esN, y_esC, y_rsN, y_rsC, y_asN, y_asV, y_asI, y_oN, y_oS, y_itS, y_it1, y_it2, y_asg, y_par, y_stp, y_unp, y_st, y_app, y_expr, y_iteS, y_for, y_retN, y_pass, y_brk, y_cont, y_raise, y_ssN, y_ssC, y_tasN, y_tasC, y_taN, y_taS, y_aug, y_augV, y_ret, y_retS, y_retE, y_enm, y_enmL, y_enmT, y_zip, y_zipL, y_zipT, y_ext, y_extO, y_seqL, y_seqT, y_nsN, y_nsC, y_tgN, y_tgT, y_tgL, y_tgsN, y_tgsC, y_forN, y_forC, y_cmN, y_cmC, y_wipN, y_wipC, y_wipU, y_wipV, y_bakN, y_bakC, y_chainE, y_chain3, y_chain3E, y_it3, y_nodN, y_ioL, y_ioR, y_argN, y_argL, y_argR, y_argO, y_argI, y_bkN, y_bkL, y_bkR, y_bkO, y_bkI, y_callE, y_outN, y_outR, x_op1, x_op2, x_opdS, x_opdN, x_getS, x_getV, x_slV, x_slO, x_slI, x_rd, x_rdV, x_rdO, x_asg, x_asgU, x_asgV, x_asgO, x_ret, x_retV, x_retO, x_put, x_putO, x_putI, x_add, x_adO, x_adI, x_own, x_ownO, x_ownI, x_base, x_finF, x_finT, x_asB, x_ofB, x_bindB, x_withE, x_dV, x_dO, x_sV, x_sO, x_seqN, x_seqR, x_seqB, x_seqC, x_turnN, x_turnC, x_turnB, x_turnR, x_add', x_sub', x_lt, x_le, x_gt, x_ge, x_eq, x_ne, x_is, x_isn, x_inn, x_nin, shaped_int, shaped_bool, shaped_none, x_eqI, x_eqN, x_eqB, x_eqT2, x_eqT3, x_sz1, x_sz2, x_sz3, x_sz4, x_sz5, x_sz6, truN, truB, truI, x_isNn, x_isNi, x_isNt, x_isNl, x_isIi, x_isIb, x_isBb, x_isBi, x_isTt, x_isLl, x_isTl, x_isLt, x_len, x_lenT, x_abs, x_int, x_intq, x_ixL, x_ixT, at_0, at_1, at_2, at_3, at_4, at_5, z_0, z_1, z_2, z_3, z_4, z_5, z_6, z_7, z_8, z_9, z_10, z_11, z_12, w_0, w_1, w_2, w_3, w_4, w_5, w_6, w_7, w_8, w_9, w_10, w_11, w_12, ix_1_0, ix_2_0, ix_2_1, ix_3_0, ix_3_1, ix_3_2, ix_4_0, ix_4_1, ix_4_2, ix_4_3, ix_5_0, ix_5_1, ix_5_2, ix_5_3, ix_5_4, ix_6_0, ix_6_1, ix_6_2, ix_6_3, ix_6_4, ix_6_5, ix_7_0, ix_7_1, ix_7_2, ix_7_3, ix_7_4, ix_7_5, ix_7_6, Option.map_some, Option.bind_some, Option.map_none, Option.bind_none, List.getElem?_cons_zero, List.getElem?_cons_succ, List.set_cons_zero, List.set_cons_succ, List.cons_append, List.nil_append, List.length_cons, List.length_nil, List.replicate, if_true, Bool.false_eq_true, if_false, reduceIte, Nat.reduceAdd, Nat.reduceSub, List.append_nil, List.take_succ_cons, List.take_zero, List.map_nil, Option.getD_some, decide_true, decide_false, List.nodup_nil, y_nod1, Bool.not_true, Bool.not_false, List.map_cons, ct_0, ct_1, ct_2, ct_3, ct_4, ct_5, ct_6, ct_7, ct_8, ct_9, ct_10, ct_11, ct_12, Bool.and_true, Bool.true_and, Bool.and_false, Bool.false_and, x_revL, x_revT]
  · rcases et with rfl | ⟨l, rfl⟩ <;> cases c <;> simp -implicitDefEqProofs only [f_one_fault_b1, E.var?, y_con, y_varF, y_varT, y_glo, y_bin, y_neg, y_notT, y_notF, y_andT, y_andF, y_orT, y_orF, y_ite, y_cmp, y_chain, y_tup, y_lst, y_rep, y_idx, y_slice, y_rev, y_call, y_b1, y_b2, y_isI, y_lrng, y_compN, y_compS, y_esN, y_esC, y_rsN, y_rsC, y_asN, y_asV, y_asI, y_oN, y_oS, y_itS, y_it1, y_it2, y_asg, y_par, y_stp, y_unp, y_st, y_app, y_expr, y_iteS, y_for, y_retN, y_pass, y_brk, y_cont, y_raise, y_ssN, y_ssC, y_tasN, y_tasC, y_taN, y_taS, y_aug, y_augV, y_ret, y_retS, y_retE, y_enm, y_enmL, y_enmT, y_zip, y_zipL, y_zipT, y_ext, y_extO, y_seqL, y_seqT, y_nsN, y_nsC, y_tgN, y_tgT, y_tgL, y_tgsN, y_tgsC, y_forN, y_forC, y_cmN, y_cmC, y_wipN, y_wipC, y_wipU, y_wipV, y_bakN, y_bakC, y_chainE, y_chain3, y_chain3E, y_it3, y_nodN, y_ioL, y_ioR, y_argN, y_argL, y_argR, y_argO, y_argI, y_bkN, y_bkL, y_bkR, y_bkO, y_bkI, y_callE, y_outN, y_outR, x_op1, x_op2, x_opdS, x_opdN, x_getS, x_getV, x_slV, x_slO, x_slI, x_rd, x_rdV, x_rdO, x_asg, x_asgU, x_asgV, x_asgO, x_ret, x_retV, x_retO, x_put, x_putO, x_putI, x_add, x_adO, x_adI, x_own, x_ownO, x_ownI, x_base, x_finF, x_finT, x_asB, x_ofB, x_bindB, x_withE, x_dV, x_dO, x_sV, x_sO, x_seqN, x_seqR, x_seqB, x_seqC, x_turnN, x_turnC, x_turnB, x_turnR, x_add', x_sub', x_lt, x_le, x_gt, x_ge, x_eq, x_ne, x_is, x_isn, x_inn, x_nin, shaped_int, shaped_bool, shaped_none, x_eqI, x_eqN, x_eqB, x_eqT2, x_eqT3, x_sz1, x_sz2, x_sz3, x_sz4, x_sz5, x_sz6, truN, truB, truI, x_isNn, x_isNi, x_isNt, x_isNl, x_isIi, x_isIb, x_isBb, x_isBi, x_isTt, x_isLl, x_isTl, x_isLt, x_len, x_lenT, x_abs, x_int, x_intq, x_ixL, x_ixT, at_0, at_1, at_2, at_3, at_4, at_5, z_0, z_1, z_2, z_3, z_4, z_5, z_6, z_7, z_8, z_9, z_10, z_11, z_12, w_0, w_1, w_2, w_3, w_4, w_5, w_6, w_7, w_8, w_9, w_10, w_11, w_12, ix_1_0, ix_2_0, ix_2_1, ix_3_0, ix_3_1, ix_3_2, ix_4_0, ix_4_1, ix_4_2, ix_4_3, ix_5_0, ix_5_1, ix_5_2, ix_5_3, ix_5_4, ix_6_0, ix_6_1, ix_6_2, ix_6_3, ix_6_4, ix_6_5, ix_7_0, ix_7_1, ix_7_2, ix_7_3, ix_7_4, ix_7_5, ix_7_6, Option.map_some, Option.bind_some, Option.map_none, Option.bind_none, List.getElem?_cons_zero, List.getElem?_cons_succ, List.set_cons_zero, List.set_cons_succ, List.cons_append, List.nil_append, List.length_cons, List.length_nil, List.replicate, if_true, Bool.false_eq_true, if_false, reduceIte, Nat.reduceAdd, Nat.reduceSub, List.append_nil, List.take_succ_cons, List.take_zero, List.map_nil, Option.getD_some, decide_true, decide_false, List.nodup_nil, y_nod1, Bool.not_true, Bool.not_false, List.map_cons, ct_0, ct_1, ct_2, ct_3, ct_4, ct_5, ct_6, ct_7, ct_8, ct_9, ct_10, ct_11, ct_12, Bool.and_true, Bool.true_and, Bool.and_false, Bool.false_and, x_revL, x_revT, c14, lst_tup, h]
theorem of_e {C : CT} {X : List D} {m : Int} (c12 : C 12 [.v (.tuple X), .v (.int m)] = some (.v (.tuple []), [.v (.tuple X), .v (.int m)])) : runFn C f_one_fault [.v (.tuple X), .v (.int m)] = some (.v (.tuple [sR]), [.v (.tuple X), .v (.int m)]) := by
  have e : truD (.tuple []) = some false := rfl
  rw [y_run (by rfl)]
  simp -implicitDefEqProofs only [f_one_fault, E.var?, y_con, y_varF, y_varT, y_glo, y_bin, y_neg, y_notT, y_notF, y_andT, y_andF, y_orT, y_orF, y_ite, y_cmp, y_chain, y_tup, y_lst, y_rep, y_idx, y_slice, y_rev, y_call, y_b1, y_b2, y_isI, y_lrng, y_compN, y_compS, y_esN, y_esC, y_rsN, y_rsC, y_asN, y_asV, y_asI, y_oN, y_oS, y_itS, y_it1, y_it2, y_asg, y_par, y_stp, y_unp, y_st, y_app, y_expr, y_iteS, y_for, y_retN, y_pass, y_brk, y_cont, y_raise, y_ssN, y_ssC, y_tasN, y_tasC, y_taN, y_taS, y_aug, y_augV, y_ret, y_retS, y_retE, y_enm, y_enmL, y_enmT, y_zip, y_zipL, y_zipT, y_ext, y_extO, y_seqL, y_seqT, y_nsN, y_nsC, y_tgN, y_tgT, y_tgL, y_tgsN, y_tgsC, y_forN, y_forC, y_cmN, y_cmC, y_wipN, y_wipC, y_wipU, y_wipV, y_bakN, y_bakC, y_chainE, y_chain3, y_chain3E, y_it3, y_nodN, y_ioL, y_ioR, y_argN, y_argL, y_argR, y_argO, y_argI, y_bkN, y_bkL, y_bkR, y_bkO, y_bkI, y_callE, y_outN, y_outR, x_op1, x_op2, x_opdS, x_opdN, x_getS, x_getV, x_slV, x_slO, x_slI, x_rd, x_rdV, x_rdO, x_asg, x_asgU, x_asgV, x_asgO, x_ret, x_retV, x_retO, x_put, x_putO, x_putI, x_add, x_adO, x_adI, x_own, x_ownO, x_ownI, x_base, x_finF, x_finT, x_asB, x_ofB, x_bindB, x_withE, x_dV, x_dO, x_sV, x_sO, x_seqN, x_seqR, x_seqB, x_seqC, x_turnN, x_turnC, x_turnB, x_turnR, x_add', x_sub', x_lt, x_le, x_gt, x_ge, x_eq, x_ne, x_is, x_isn, x_inn, x_nin, shaped_int, shaped_bool, shaped_none, x_eqI, x_eqN, x_eqB, x_eqT2, x_eqT3, x_sz1, x_sz2, x_sz3, x_sz4, x_sz5, x_sz6, truN, truB, truI, x_isNn, x_isNi, x_isNt, x_isNl, x_isIi, x_isIb, x_isBb, x_isBi, x_isTt, x_isLl, x_isTl, x_isLt, x_len, x_lenT, x_abs, x_int, x_intq, x_ixL, x_ixT, at_0, at_1, at_2, at_3, at_4, at_5, z_0, z_1, z_2, z_3, z_4, z_5, z_6, z_7, z_8, z_9, z_10, z_11, z_12, w_0, w_1, w_2, w_3, w_4, w_5, w_6, w_7, w_8, w_9, w_10, w_11, w_12, ix_1_0, ix_2_0, ix_2_1, ix_3_0, ix_3_1, ix_3_2, ix_4_0, ix_4_1, ix_4_2, ix_4_3, ix_5_0, ix_5_1, ix_5_2, ix_5_3, ix_5_4, ix_6_0, ix_6_1, ix_6_2, ix_6_3, ix_6_4, ix_6_5, ix_7_0, ix_7_1, ix_7_2, ix_7_3, ix_7_4, ix_7_5, ix_7_6, Option.map_some, Option.bind_some, Option.map_none, Option.bind_none, List.getElem?_cons_zero, List.getElem?_cons_succ, List.set_cons_zero, List.set_cons_succ, List.cons_append, List.nil_append, List.length_cons, List.length_nil, List.replicate, if_true, Bool.false_eq_true, if_false, reduceIte, Nat.reduceAdd, Nat.reduceSub, List.append_nil, List.take_succ_cons, List.take_zero, List.map_nil, Option.getD_some, decide_true, decide_false, List.nodup_nil, y_nod1, Bool.not_true, Bool.not_false, List.map_cons, ct_0, ct_1, ct_2, ct_3, ct_4, ct_5, ct_6, ct_7, ct_8, ct_9, ct_10, ct_11, ct_12, Bool.and_true, Bool.true_and, Bool.and_false, Bool.false_and, x_revL, x_revT, c12, e]
theorem of_g {C : CT} {X W ns : List D} {m : Int} {s t : Sl} {p : D} (c12 : C 12 [.v (.tuple X), .v (.int m)] = some (.v (.tuple W), [.v (.tuple X), .v (.int m)])) (hw : truD (.tuple W) = some true) (hr : rng2 0 (2 * m + 1) = some ns) (h : forl (bindT (.nm 3)) (evSs C f_one_fault_b1) ns [.v (.tuple X), .v (.int m), .v (.tuple W), .un, .un] = some (.rt (.v p) [.v (.tuple X), .v (.int m), .v (.tuple W), s, t])) :
    runFn C f_one_fault [.v (.tuple X), .v (.int m)] = some (.v p, [.v (.tuple X), .v (.int m)]) := by
  rw [y_run (by rfl)]
  simp -implicitDefEqProofs only [f_one_fault, E.var?, y_con, y_varF, y_varT, y_glo, y_bin, y_neg, y_notT, y_notF, y_andT, y_andF, y_orT, y_orF, y_ite, y_cmp, y_chain, y_tup, y_lst, y_rep, y_idx, y_slice, y_rev, y_call, y_b1, y_b2, y_isI, y_lrng, y_compN, y_compS, y_esN, y_esC, y_rsN, y_rsC, y_asN, y_asV, y_asI, y_oN, y_oS, y_itS, y_it1, y_it2, y_asg, y_par, y_stp, y_unp, y_st, y_app, y_expr, y_iteS, y_for, y_retN, y_pass, y_brk, y_cont, y_raise, y_ssN, y_ssC, y_tasN, y_tasC, y_taN, y_taS, y_aug, y_augV, y_ret, y_retS, y_retE, y_enm, y_enmL, y_enmT, y_zip, y_zipL, y_zipT, y_ext, y_extO, y_seqL, y_seqT, y_nsN, y_nsC, y_tgN, y_tgT, y_tgL, y_tgsN, y_tgsC, y_forN, y_forC, y_cmN, y_cmC, y_wipN, y_wipC, y_wipU, y_wipV, y_bakN, y_bakC, y_chainE, y_chain3, y_chain3E, y_it3, y_nodN, y_ioL, y_ioR, y_argN, y_argL, y_argR, y_argO, y_argI, y_bkN, y_bkL, y_bkR, y_bkO, y_bkI, y_callE, y_outN, y_outR, x_op1, x_op2, x_opdS, x_opdN, x_getS, x_getV, x_slV, x_slO, x_slI, x_rd, x_rdV, x_rdO, x_asg, x_asgU, x_asgV, x_asgO, x_ret, x_retV, x_retO, x_put, x_putO, x_putI, x_add, x_adO, x_adI, x_own, x_ownO, x_ownI, x_base, x_finF, x_finT, x_asB, x_ofB, x_bindB, x_withE, x_dV, x_dO, x_sV, x_sO, x_seqN, x_seqR, x_seqB, x_seqC, x_turnN, x_turnC, x_turnB, x_turnR, x_add', x_sub', x_lt, x_le, x_gt, x_ge, x_eq, x_ne, x_is, x_isn, x_inn, x_nin, shaped_int, shaped_bool, shaped_none, x_eqI, x_eqN, x_eqB, x_eqT2, x_eqT3, x_sz1, x_sz2, x_sz3, x_sz4, x_sz5, x_sz6, truN, truB, truI, x_isNn, x_isNi, x_isNt, x_isNl, x_isIi, x_isIb, x_isBb, x_isBi, x_isTt, x_isLl, x_isTl, x_isLt, x_len, x_lenT, x_abs, x_int, x_intq, x_ixL, x_ixT, at_0, at_1, at_2, at_3, at_4, at_5, z_0, z_1, z_2, z_3, z_4, z_5, z_6, z_7, z_8, z_9, z_10, z_11, z_12, w_0, w_1, w_2, w_3, w_4, w_5, w_6, w_7, w_8, w_9, w_10, w_11, w_12, ix_1_0, ix_2_0, ix_2_1, ix_3_0, ix_3_1, ix_3_2, ix_4_0, ix_4_1, ix_4_2, ix_4_3, ix_5_0, ix_5_1, ix_5_2, ix_5_3, ix_5_4, ix_6_0, ix_6_1, ix_6_2, ix_6_3, ix_6_4, ix_6_5, ix_7_0, ix_7_1, ix_7_2, ix_7_3, ix_7_4, ix_7_5, ix_7_6, Option.map_some, Option.bind_some, Option.map_none, Option.bind_none, List.getElem?_cons_zero, List.getElem?_cons_succ, List.set_cons_zero, List.set_cons_succ, List.cons_append, List.nil_append, List.length_cons, List.length_nil, List.replicate, if_true, Bool.false_eq_true, if_false, reduceIte, Nat.reduceAdd, Nat.reduceSub, List.append_nil, List.take_succ_cons, List.take_zero, List.map_nil, Option.getD_some, decide_true, decide_false, List.nodup_nil, y_nod1, Bool.not_true, Bool.not_false, List.map_cons, ct_0, ct_1, ct_2, ct_3, ct_4, ct_5, ct_6, ct_7, ct_8, ct_9, ct_10, ct_11, ct_12, Bool.and_true, Bool.true_and, Bool.and_false, Bool.false_and, x_revL, x_revT, c12, hw, x_mulD two1, hr, h]
theorem one_fault {n N x m : Nat} {more : Int} (t : Tab N (wf x more)) (h4 : 4 ≤ m + 1) (hm : m ≤ 40) (hN : 2 * m < N) (h0 : more ≠ 0) : callT T (n + 5) 13 [.v (.tuple (il (fl N (wf x more)))), .v (.int (m : Nat))] = some (.v (if pl (m + 1) x = [] then .tuple [sR] else .tuple [sO, .int (x : Nat)]), [.v (.tuple (il (fl N (wf x more)))), .v (.int (m : Nat))]) := by
  rw [y_tc (f := f_one_fault) rfl]
  have c12 := spoilt (n := n) (x := x) (m := m) t hm hN h0
  by_cases hne : pl (m + 1) x = []
  · rw [if_pos hne]
    rw [hne] at c12
    exact of_e c12
  · rw [if_neg hne]
    have hx := pl_le hne
    have hw : truD (.tuple (pls (pl (m + 1) x))) = some true := by
      rw [truT]
      cases q : pl (m + 1) x with
      | nil => exact absurd q hne
      | cons _ _ => rfl
    obtain ⟨r, e', h, s, u, rfl, rfl⟩ := forl_pre (g := bindT (.nm 3)) (b := evSs (callT T (n + 4)) f_one_fault_b1) (d := fun i : Nat => PyData.int (0 + (i : Nat))) (Ok := fun e => ∃ s u, Emp s ∧ (u = .un ∨ ∃ l, u = .o l) ∧ e = [.v (.tuple (il (fl N (wf x more)))), .v (.int (m : Nat)), .v (.tuple (pls (pl (m + 1) x))), s, u]) (P := fun r e => ∃ s u, r = .v (.tuple [sO, .int (x : Nat)]) ∧ e = [.v (.tuple (il (fl N (wf x more)))), .v (.int (m : Nat)), .v (.tuple (pls (pl (m + 1) x))), s, u]) x ((List.range (2 * m + 1)).drop (x + 1)) (fun e => by
      rintro ⟨s, u, es, eu, rfl⟩
      rw [Int.zero_add]
      obtain ⟨a, b⟩ := of_s (C := callT T (n + 4)) (P := .tuple (il (fl N (wf x more)))) es eu (looks (n := n + 3) (x := x) (m := m) hm) eq_pL
      rw [decide_eq_true rfl, if_pos rfl] at b
      exact ⟨_, _, _, a, b, _, _, rfl, rfl⟩) (List.range x) (fun i hi e => by
      rintro ⟨s, u, es, eu, rfl⟩
      have hi := List.mem_range.mp hi
      rw [Int.zero_add]
      obtain ⟨a, b⟩ := of_s (C := callT T (n + 4)) (P := .tuple (il (fl N (wf x more)))) es eu (looks (n := n + 3) (x := i) (m := m) hm) (eq_pL (m := pl (m + 1) x))
      rw [decide_eq_false (fun q => by have := pl_inj h4 q.symm hne; omega), if_neg (by decide)] at b
      exact ⟨_, _, a, b, .v _, .o _, trivial, .inr ⟨_, rfl⟩, rfl⟩) [.v (.tuple (il (fl N (wf x more)))), .v (.int (m : Nat)), .v (.tuple (pls (pl (m + 1) x))), .un, .un] ⟨.un, .un, trivial, .inl rfl, rfl⟩
    rw [← split_range (n := 2 * m + 1) (by omega), ← ranges_map] at h
    exact of_g c12 hw (by rw [show 2 * ((m : Nat) : Int) + 1 = ((2 * m : Nat) : Int) + 1 by omega]; exact rngS (by omega)) h
/-! ### the law's turn -/
theorem dT {x : Int} : decide (x = x) = true := decide_eq_true rfl
abbrev B : Ss := f__law_squares_hold.body
theorem v0 {C : CT} {x0 x1 x2 x3 : List D} {a b r : Int} (c1 : C 20 [.io x0, .v (.int 300)] = some (.v (.int a), [.io x1, .v (.int 300)])) (c2 : C 20 [.io x1, .v (.int 300)] = some (.v (.int b), [.io x2, .v (.int 300)])) (c3 : C 20 [.io x2, .v (.int 30)] = some (.v (.int r), [.io x3, .v (.int 30)])) :
    evS C (nthS B 0) [.io x0, .un, .un, .un, .un, .un, .un, .un, .un, .un, .un, .un, .un, .un, .un, .un, .un, .un, .un] = some (.nx [.io x3, .un, .un, .un, .un, .un, .v (.int a), .v (.int b), .v (.int (8 + r)), .un, .un, .un, .un, .un, .un, .un, .un, .un, .un]) := by
  simp -implicitDefEqProofs only [B, f__law_squares_hold, nthS, E.var?, y_con, y_varF, y_varT, y_glo, y_bin, y_neg, y_notT, y_notF, y_andT, y_andF, y_orT, y_orF, y_ite, y_cmp, y_chain, y_tup, y_lst, y_rep, y_idx, y_slice, y_rev, y_call, y_b1, y_b2, y_isI, y_lrng, y_compN, y_compS, y_esN, y_esC, y_rsN, y_rsC, y_asN, y_asV, y_asI, y_oN, y_oS, y_itS, y_it1, y_it2, y_asg, y_par, y_stp, y_unp, y_st, y_app, y_expr, y_iteS, y_for, y_retN, y_pass, y_brk, y_cont, y_raise, y_ssN, y_ssC, y_tasN, y_tasC, y_taN, y_taS, y_aug, y_augV, y_ret, y_retS, y_retE, y_enm, y_enmL, y_enmT, y_zip, y_zipL, y_zipT, y_ext, y_extO, y_seqL, y_seqT, y_nsN, y_nsC, y_tgN, y_tgT, y_tgL, y_tgsN, y_tgsC, y_forN, y_forC, y_cmN, y_cmC, y_wipN, y_wipC, y_wipU, y_wipV, y_bakN, y_bakC, y_chainE, y_chain3, y_chain3E, y_it3, y_nodN, y_ioL, y_ioR, y_argN, y_argL, y_argR, y_argO, y_argI, y_bkN, y_bkL, y_bkR, y_bkO, y_bkI, y_callE, y_outN, y_outR, x_op1, x_op2, x_opdS, x_opdN, x_getS, x_getV, x_slV, x_slO, x_slI, x_rd, x_rdV, x_rdO, x_asg, x_asgU, x_asgV, x_asgO, x_ret, x_retV, x_retO, x_put, x_putO, x_putI, x_add, x_adO, x_adI, x_own, x_ownO, x_ownI, x_base, x_finF, x_finT, x_asB, x_ofB, x_bindB, x_withE, x_dV, x_dO, x_sV, x_sO, x_seqN, x_seqR, x_seqB, x_seqC, x_turnN, x_turnC, x_turnB, x_turnR, x_add', x_sub', x_lt, x_le, x_gt, x_ge, x_eq, x_ne, x_is, x_isn, x_inn, x_nin, shaped_int, shaped_bool, shaped_none, x_eqI, x_eqN, x_eqB, x_eqT2, x_eqT3, x_sz1, x_sz2, x_sz3, x_sz4, x_sz5, x_sz6, truN, truB, truI, x_isNn, x_isNi, x_isNt, x_isNl, x_isIi, x_isIb, x_isBb, x_isBi, x_isTt, x_isLl, x_isTl, x_isLt, x_len, x_lenT, x_abs, x_int, x_intq, x_ixL, x_ixT, at_0, at_1, at_2, at_3, at_4, at_5, z_0, z_1, z_2, z_3, z_4, z_5, z_6, z_7, z_8, z_9, z_10, z_11, z_12, w_0, w_1, w_2, w_3, w_4, w_5, w_6, w_7, w_8, w_9, w_10, w_11, w_12, ix_1_0, ix_2_0, ix_2_1, ix_3_0, ix_3_1, ix_3_2, ix_4_0, ix_4_1, ix_4_2, ix_4_3, ix_5_0, ix_5_1, ix_5_2, ix_5_3, ix_5_4, ix_6_0, ix_6_1, ix_6_2, ix_6_3, ix_6_4, ix_6_5, ix_7_0, ix_7_1, ix_7_2, ix_7_3, ix_7_4, ix_7_5, ix_7_6, Option.map_some, Option.bind_some, Option.map_none, Option.bind_none, List.getElem?_cons_zero, List.getElem?_cons_succ, List.set_cons_zero, List.set_cons_succ, List.cons_append, List.nil_append, List.length_cons, List.length_nil, List.replicate, if_true, Bool.false_eq_true, if_false, reduceIte, Nat.reduceAdd, Nat.reduceSub, List.append_nil, List.take_succ_cons, List.take_zero, List.map_nil, Option.getD_some, decide_true, decide_false, List.nodup_nil, y_nod1, Bool.not_true, Bool.not_false, List.map_cons, ct_0, ct_1, ct_2, ct_3, ct_4, ct_5, ct_6, ct_7, ct_8, ct_9, ct_10, ct_11, ct_12, Bool.and_true, Bool.true_and, Bool.and_false, Bool.false_and, x_revL, x_revT, c1, c2, c3]
theorem v1 {C : CT} {a b w g : Int} {a0 a1 a2 a3 a4 a5 a8 a11 a12 a13 a14 a15 a16 a17 a18 : Sl} (c : C 6 [.v (.int a), .v (.int b)] = some (.v (.tuple [.int w, .int g]), [.v (.int a), .v (.int b)])) :
    evS C (nthS B 1) [a0, a1, a2, a3, a4, a5, .v (.int a), .v (.int b), a8, .un, .un, a11, a12, a13, a14, a15, a16, a17, a18] = some (.nx [a0, a1, a2, a3, a4, a5, .v (.int a), .v (.int b), a8, .v (.int w), .v (.int g), a11, a12, a13, a14, a15, a16, a17, a18]) := by
  simp -implicitDefEqProofs only [B, f__law_squares_hold, nthS, E.var?, y_con, y_varF, y_varT, y_glo, y_bin, y_neg, y_notT, y_notF, y_andT, y_andF, y_orT, y_orF, y_ite, y_cmp, y_chain, y_tup, y_lst, y_rep, y_idx, y_slice, y_rev, y_call, y_b1, y_b2, y_isI, y_lrng, y_compN, y_compS, y_esN, y_esC, y_rsN, y_rsC, y_asN, y_asV, y_asI, y_oN, y_oS, y_itS, y_it1, y_it2, y_asg, y_par, y_stp, y_unp, y_st, y_app, y_expr, y_iteS, y_for, y_retN, y_pass, y_brk, y_cont, y_raise, y_ssN, y_ssC, y_tasN, y_tasC, y_taN, y_taS, y_aug, y_augV, y_ret, y_retS, y_retE, y_enm, y_enmL, y_enmT, y_zip, y_zipL, y_zipT, y_ext, y_extO, y_seqL, y_seqT, y_nsN, y_nsC, y_tgN, y_tgT, y_tgL, y_tgsN, y_tgsC, y_forN, y_forC, y_cmN, y_cmC, y_wipN, y_wipC, y_wipU, y_wipV, y_bakN, y_bakC, y_chainE, y_chain3, y_chain3E, y_it3, y_nodN, y_ioL, y_ioR, y_argN, y_argL, y_argR, y_argO, y_argI, y_bkN, y_bkL, y_bkR, y_bkO, y_bkI, y_callE, y_outN, y_outR, x_op1, x_op2, x_opdS, x_opdN, x_getS, x_getV, x_slV, x_slO, x_slI, x_rd, x_rdV, x_rdO, x_asg, x_asgU, x_asgV, x_asgO, x_ret, x_retV, x_retO, x_put, x_putO, x_putI, x_add, x_adO, x_adI, x_own, x_ownO, x_ownI, x_base, x_finF, x_finT, x_asB, x_ofB, x_bindB, x_withE, x_dV, x_dO, x_sV, x_sO, x_seqN, x_seqR, x_seqB, x_seqC, x_turnN, x_turnC, x_turnB, x_turnR, x_add', x_sub', x_lt, x_le, x_gt, x_ge, x_eq, x_ne, x_is, x_isn, x_inn, x_nin, shaped_int, shaped_bool, shaped_none, x_eqI, x_eqN, x_eqB, x_eqT2, x_eqT3, x_sz1, x_sz2, x_sz3, x_sz4, x_sz5, x_sz6, truN, truB, truI, x_isNn, x_isNi, x_isNt, x_isNl, x_isIi, x_isIb, x_isBb, x_isBi, x_isTt, x_isLl, x_isTl, x_isLt, x_len, x_lenT, x_abs, x_int, x_intq, x_ixL, x_ixT, at_0, at_1, at_2, at_3, at_4, at_5, z_0, z_1, z_2, z_3, z_4, z_5, z_6, z_7, z_8, z_9, z_10, z_11, z_12, w_0, w_1, w_2, w_3, w_4, w_5, w_6, w_7, w_8, w_9, w_10, w_11, w_12, ix_1_0, ix_2_0, ix_2_1, ix_3_0, ix_3_1, ix_3_2, ix_4_0, ix_4_1, ix_4_2, ix_4_3, ix_5_0, ix_5_1, ix_5_2, ix_5_3, ix_5_4, ix_6_0, ix_6_1, ix_6_2, ix_6_3, ix_6_4, ix_6_5, ix_7_0, ix_7_1, ix_7_2, ix_7_3, ix_7_4, ix_7_5, ix_7_6, Option.map_some, Option.bind_some, Option.map_none, Option.bind_none, List.getElem?_cons_zero, List.getElem?_cons_succ, List.set_cons_zero, List.set_cons_succ, List.cons_append, List.nil_append, List.length_cons, List.length_nil, List.replicate, if_true, Bool.false_eq_true, if_false, reduceIte, Nat.reduceAdd, Nat.reduceSub, List.append_nil, List.take_succ_cons, List.take_zero, List.map_nil, Option.getD_some, decide_true, decide_false, List.nodup_nil, y_nod1, Bool.not_true, Bool.not_false, List.map_cons, ct_0, ct_1, ct_2, ct_3, ct_4, ct_5, ct_6, ct_7, ct_8, ct_9, ct_10, ct_11, ct_12, Bool.and_true, Bool.true_and, Bool.and_false, Bool.false_and, x_revL, x_revT, c]
theorem v2 {C : CT} {a b w g q1 q2 t1 t2 : Int} {a0 a1 a2 a3 a4 a5 a8 a11 a12 a13 a14 a15 a16 a17 a18 : Sl} (ha : -18446744073709551616 < a ∧ a < 18446744073709551616) (ha1 : -18446744073709551616 < a + 1 ∧ a + 1 < 18446744073709551616) (hw : a + b = w) (hg : (if a - b < 0 then -(a - b) else a - b) = g) (c1 : C 2 [.v (.int w)] = some (.v (.int q1), [.v (.int w)])) (c2 : C 2 [.v (.int g)] = some (.v (.int q2), [.v (.int g)])) (c3 : C 16 [.v (.int a)] = some (.v (.int t1), [.v (.int a)])) (c4 : C 16 [.v (.int (a + 1))] = some (.v (.int t2), [.v (.int (a + 1))]))
    (h1 : decide (q1 - q2 = a * b) = true) (h2 : decide (t1 + t2 = (a + 1) * (a + 1)) = true) :
    evS C (nthS B 2) [a0, a1, a2, a3, a4, a5, .v (.int a), .v (.int b), a8, .v (.int w), .v (.int g), a11, a12, a13, a14, a15, a16, a17, a18] = some (.nx [a0, a1, a2, a3, a4, a5, .v (.int a), .v (.int b), a8, .v (.int w), .v (.int g), a11, a12, a13, a14, a15, a16, a17, a18]) := by
  simp -implicitDefEqProofs only [B, f__law_squares_hold, nthS, E.var?, y_con, y_varF, y_varT, y_glo, y_bin, y_neg, y_notT, y_notF, y_andT, y_andF, y_orT, y_orF, y_ite, y_cmp, y_chain, y_tup, y_lst, y_rep, y_idx, y_slice, y_rev, y_call, y_b1, y_b2, y_isI, y_lrng, y_compN, y_compS, y_esN, y_esC, y_rsN, y_rsC, y_asN, y_asV, y_asI, y_oN, y_oS, y_itS, y_it1, y_it2, y_asg, y_par, y_stp, y_unp, y_st, y_app, y_expr, y_iteS, y_for, y_retN, y_pass, y_brk, y_cont, y_raise, y_ssN, y_ssC, y_tasN, y_tasC, y_taN, y_taS, y_aug, y_augV, y_ret, y_retS, y_retE, y_enm, y_enmL, y_enmT, y_zip, y_zipL, y_zipT, y_ext, y_extO, y_seqL, y_seqT, y_nsN, y_nsC, y_tgN, y_tgT, y_tgL, y_tgsN, y_tgsC, y_forN, y_forC, y_cmN, y_cmC, y_wipN, y_wipC, y_wipU, y_wipV, y_bakN, y_bakC, y_chainE, y_chain3, y_chain3E, y_it3, y_nodN, y_ioL, y_ioR, y_argN, y_argL, y_argR, y_argO, y_argI, y_bkN, y_bkL, y_bkR, y_bkO, y_bkI, y_callE, y_outN, y_outR, x_op1, x_op2, x_opdS, x_opdN, x_getS, x_getV, x_slV, x_slO, x_slI, x_rd, x_rdV, x_rdO, x_asg, x_asgU, x_asgV, x_asgO, x_ret, x_retV, x_retO, x_put, x_putO, x_putI, x_add, x_adO, x_adI, x_own, x_ownO, x_ownI, x_base, x_finF, x_finT, x_asB, x_ofB, x_bindB, x_withE, x_dV, x_dO, x_sV, x_sO, x_seqN, x_seqR, x_seqB, x_seqC, x_turnN, x_turnC, x_turnB, x_turnR, x_add', x_sub', x_lt, x_le, x_gt, x_ge, x_eq, x_ne, x_is, x_isn, x_inn, x_nin, shaped_int, shaped_bool, shaped_none, x_eqI, x_eqN, x_eqB, x_eqT2, x_eqT3, x_sz1, x_sz2, x_sz3, x_sz4, x_sz5, x_sz6, truN, truB, truI, x_isNn, x_isNi, x_isNt, x_isNl, x_isIi, x_isIb, x_isBb, x_isBi, x_isTt, x_isLl, x_isTl, x_isLt, x_len, x_lenT, x_abs, x_int, x_intq, x_ixL, x_ixT, at_0, at_1, at_2, at_3, at_4, at_5, z_0, z_1, z_2, z_3, z_4, z_5, z_6, z_7, z_8, z_9, z_10, z_11, z_12, w_0, w_1, w_2, w_3, w_4, w_5, w_6, w_7, w_8, w_9, w_10, w_11, w_12, ix_1_0, ix_2_0, ix_2_1, ix_3_0, ix_3_1, ix_3_2, ix_4_0, ix_4_1, ix_4_2, ix_4_3, ix_5_0, ix_5_1, ix_5_2, ix_5_3, ix_5_4, ix_6_0, ix_6_1, ix_6_2, ix_6_3, ix_6_4, ix_6_5, ix_7_0, ix_7_1, ix_7_2, ix_7_3, ix_7_4, ix_7_5, ix_7_6, Option.map_some, Option.bind_some, Option.map_none, Option.bind_none, List.getElem?_cons_zero, List.getElem?_cons_succ, List.set_cons_zero, List.set_cons_succ, List.cons_append, List.nil_append, List.length_cons, List.length_nil, List.replicate, if_true, Bool.false_eq_true, if_false, reduceIte, Nat.reduceAdd, Nat.reduceSub, List.append_nil, List.take_succ_cons, List.take_zero, List.map_nil, Option.getD_some, decide_true, decide_false, List.nodup_nil, y_nod1, Bool.not_true, Bool.not_false, List.map_cons, ct_0, ct_1, ct_2, ct_3, ct_4, ct_5, ct_6, ct_7, ct_8, ct_9, ct_10, ct_11, ct_12, Bool.and_true, Bool.true_and, Bool.and_false, Bool.false_and, x_revL, x_revT, hw, hg, dT, c1, c2, c3, c4, x_mulD ha, x_mulD ha1, h1, h2]
theorem v3 {C : CT} {a b q1 q2 q3 t1 t2 t3 : Int} {a0 a1 a2 a3 a4 a5 a8 a9 a10 a11 a12 a13 a14 a15 a16 a17 a18 : Sl} (ha : -18446744073709551616 < a ∧ a < 18446744073709551616) (c1 : C 2 [.v (.int (a + 2))] = some (.v (.int q1), [.v (.int (a + 2))])) (c2 : C 2 [.v (.int a)] = some (.v (.int q2), [.v (.int a)])) (c3 : C 16 [.v (.int (a + b))] = some (.v (.int t3), [.v (.int (a + b))])) (c4 : C 16 [.v (.int a)] = some (.v (.int t1), [.v (.int a)])) (c5 : C 16 [.v (.int b)] = some (.v (.int t2), [.v (.int b)])) (c6 : C 2 [.v (.int (2 * a))] = some (.v (.int q3), [.v (.int (2 * a))]))
    (h1 : decide (q1 = q2 + a + 1) = true) (h2 : decide (t3 = t1 + t2 + a * b) = true) (h3 : decide (q3 = a * a) = true) :
    evS C (nthS B 3) [a0, a1, a2, a3, a4, a5, .v (.int a), .v (.int b), a8, a9, a10, a11, a12, a13, a14, a15, a16, a17, a18] = some (.nx [a0, a1, a2, a3, a4, a5, .v (.int a), .v (.int b), a8, a9, a10, a11, a12, a13, a14, a15, a16, a17, a18]) := by
  simp -implicitDefEqProofs only [B, f__law_squares_hold, nthS, E.var?, y_con, y_varF, y_varT, y_glo, y_bin, y_neg, y_notT, y_notF, y_andT, y_andF, y_orT, y_orF, y_ite, y_cmp, y_chain, y_tup, y_lst, y_rep, y_idx, y_slice, y_rev, y_call, y_b1, y_b2, y_isI, y_lrng, y_compN, y_compS, y_esN, y_esC, y_rsN, y_rsC, y_asN, y_asV, y_asI, y_oN, y_oS, y_itS, y_it1, y_it2, y_asg, y_par, y_stp, y_unp, y_st, y_app, y_expr, y_iteS, y_for, y_retN, y_pass, y_brk, y_cont, y_raise, y_ssN, y_ssC, y_tasN, y_tasC, y_taN, y_taS, y_aug, y_augV, y_ret, y_retS, y_retE, y_enm, y_enmL, y_enmT, y_zip, y_zipL, y_zipT, y_ext, y_extO, y_seqL, y_seqT, y_nsN, y_nsC, y_tgN, y_tgT, y_tgL, y_tgsN, y_tgsC, y_forN, y_forC, y_cmN, y_cmC, y_wipN, y_wipC, y_wipU, y_wipV, y_bakN, y_bakC, y_chainE, y_chain3, y_chain3E, y_it3, y_nodN, y_ioL, y_ioR, y_argN, y_argL, y_argR, y_argO, y_argI, y_bkN, y_bkL, y_bkR, y_bkO, y_bkI, y_callE, y_outN, y_outR, x_op1, x_op2, x_opdS, x_opdN, x_getS, x_getV, x_slV, x_slO, x_slI, x_rd, x_rdV, x_rdO, x_asg, x_asgU, x_asgV, x_asgO, x_ret, x_retV, x_retO, x_put, x_putO, x_putI, x_add, x_adO, x_adI, x_own, x_ownO, x_ownI, x_base, x_finF, x_finT, x_asB, x_ofB, x_bindB, x_withE, x_dV, x_dO, x_sV, x_sO, x_seqN, x_seqR, x_seqB, x_seqC, x_turnN, x_turnC, x_turnB, x_turnR, x_add', x_sub', x_lt, x_le, x_gt, x_ge, x_eq, x_ne, x_is, x_isn, x_inn, x_nin, shaped_int, shaped_bool, shaped_none, x_eqI, x_eqN, x_eqB, x_eqT2, x_eqT3, x_sz1, x_sz2, x_sz3, x_sz4, x_sz5, x_sz6, truN, truB, truI, x_isNn, x_isNi, x_isNt, x_isNl, x_isIi, x_isIb, x_isBb, x_isBi, x_isTt, x_isLl, x_isTl, x_isLt, x_len, x_lenT, x_abs, x_int, x_intq, x_ixL, x_ixT, at_0, at_1, at_2, at_3, at_4, at_5, z_0, z_1, z_2, z_3, z_4, z_5, z_6, z_7, z_8, z_9, z_10, z_11, z_12, w_0, w_1, w_2, w_3, w_4, w_5, w_6, w_7, w_8, w_9, w_10, w_11, w_12, ix_1_0, ix_2_0, ix_2_1, ix_3_0, ix_3_1, ix_3_2, ix_4_0, ix_4_1, ix_4_2, ix_4_3, ix_5_0, ix_5_1, ix_5_2, ix_5_3, ix_5_4, ix_6_0, ix_6_1, ix_6_2, ix_6_3, ix_6_4, ix_6_5, ix_7_0, ix_7_1, ix_7_2, ix_7_3, ix_7_4, ix_7_5, ix_7_6, Option.map_some, Option.bind_some, Option.map_none, Option.bind_none, List.getElem?_cons_zero, List.getElem?_cons_succ, List.set_cons_zero, List.set_cons_succ, List.cons_append, List.nil_append, List.length_cons, List.length_nil, List.replicate, if_true, Bool.false_eq_true, if_false, reduceIte, Nat.reduceAdd, Nat.reduceSub, List.append_nil, List.take_succ_cons, List.take_zero, List.map_nil, Option.getD_some, decide_true, decide_false, List.nodup_nil, y_nod1, Bool.not_true, Bool.not_false, List.map_cons, ct_0, ct_1, ct_2, ct_3, ct_4, ct_5, ct_6, ct_7, ct_8, ct_9, ct_10, ct_11, ct_12, Bool.and_true, Bool.true_and, Bool.and_false, Bool.false_and, x_revL, x_revT, c1, c2, c3, c4, c5, c6, x_mulD ha, x_mulD two1, h1, h2, h3]
theorem v4a {C : CT} {a b : Int} {a0 a1 a2 a3 a4 a5 a8 a9 a10 a11 a12 a13 a14 a15 a16 a17 a18 : Sl} (h : (b != 0) = false) :
    evS C (nthS B 4) [a0, a1, a2, a3, a4, a5, .v (.int a), .v (.int b), a8, a9, a10, a11, a12, a13, a14, a15, a16, a17, a18] = some (.nx [a0, a1, a2, a3, a4, a5, .v (.int a), .v (.int b), a8, a9, a10, a11, a12, a13, a14, a15, a16, a17, a18]) := by
  simp -implicitDefEqProofs only [B, f__law_squares_hold, nthS, E.var?, y_con, y_varF, y_varT, y_glo, y_bin, y_neg, y_notT, y_notF, y_andT, y_andF, y_orT, y_orF, y_ite, y_cmp, y_chain, y_tup, y_lst, y_rep, y_idx, y_slice, y_rev, y_call, y_b1, y_b2, y_isI, y_lrng, y_compN, y_compS, y_esN, y_esC, y_rsN, y_rsC, y_asN, y_asV, y_asI, y_oN, y_oS, y_itS, y_it1, y_it2, y_asg, y_par, y_stp, y_unp, y_st, y_app, y_expr, y_iteS, y_for, y_retN, y_pass, y_brk, y_cont, y_raise, y_ssN, y_ssC, y_tasN, y_tasC, y_taN, y_taS, y_aug, y_augV, y_ret, y_retS, y_retE, y_enm, y_enmL, y_enmT, y_zip, y_zipL, y_zipT, y_ext, y_extO, y_seqL, y_seqT, y_nsN, y_nsC, y_tgN, y_tgT, y_tgL, y_tgsN, y_tgsC, y_forN, y_forC, y_cmN, y_cmC, y_wipN, y_wipC, y_wipU, y_wipV, y_bakN, y_bakC, y_chainE, y_chain3, y_chain3E, y_it3, y_nodN, y_ioL, y_ioR, y_argN, y_argL, y_argR, y_argO, y_argI, y_bkN, y_bkL, y_bkR, y_bkO, y_bkI, y_callE, y_outN, y_outR, x_op1, x_op2, x_opdS, x_opdN, x_getS, x_getV, x_slV, x_slO, x_slI, x_rd, x_rdV, x_rdO, x_asg, x_asgU, x_asgV, x_asgO, x_ret, x_retV, x_retO, x_put, x_putO, x_putI, x_add, x_adO, x_adI, x_own, x_ownO, x_ownI, x_base, x_finF, x_finT, x_asB, x_ofB, x_bindB, x_withE, x_dV, x_dO, x_sV, x_sO, x_seqN, x_seqR, x_seqB, x_seqC, x_turnN, x_turnC, x_turnB, x_turnR, x_add', x_sub', x_lt, x_le, x_gt, x_ge, x_eq, x_ne, x_is, x_isn, x_inn, x_nin, shaped_int, shaped_bool, shaped_none, x_eqI, x_eqN, x_eqB, x_eqT2, x_eqT3, x_sz1, x_sz2, x_sz3, x_sz4, x_sz5, x_sz6, truN, truB, truI, x_isNn, x_isNi, x_isNt, x_isNl, x_isIi, x_isIb, x_isBb, x_isBi, x_isTt, x_isLl, x_isTl, x_isLt, x_len, x_lenT, x_abs, x_int, x_intq, x_ixL, x_ixT, at_0, at_1, at_2, at_3, at_4, at_5, z_0, z_1, z_2, z_3, z_4, z_5, z_6, z_7, z_8, z_9, z_10, z_11, z_12, w_0, w_1, w_2, w_3, w_4, w_5, w_6, w_7, w_8, w_9, w_10, w_11, w_12, ix_1_0, ix_2_0, ix_2_1, ix_3_0, ix_3_1, ix_3_2, ix_4_0, ix_4_1, ix_4_2, ix_4_3, ix_5_0, ix_5_1, ix_5_2, ix_5_3, ix_5_4, ix_6_0, ix_6_1, ix_6_2, ix_6_3, ix_6_4, ix_6_5, ix_7_0, ix_7_1, ix_7_2, ix_7_3, ix_7_4, ix_7_5, ix_7_6, Option.map_some, Option.bind_some, Option.map_none, Option.bind_none, List.getElem?_cons_zero, List.getElem?_cons_succ, List.set_cons_zero, List.set_cons_succ, List.cons_append, List.nil_append, List.length_cons, List.length_nil, List.replicate, if_true, Bool.false_eq_true, if_false, reduceIte, Nat.reduceAdd, Nat.reduceSub, List.append_nil, List.take_succ_cons, List.take_zero, List.map_nil, Option.getD_some, decide_true, decide_false, List.nodup_nil, y_nod1, Bool.not_true, Bool.not_false, List.map_cons, ct_0, ct_1, ct_2, ct_3, ct_4, ct_5, ct_6, ct_7, ct_8, ct_9, ct_10, ct_11, ct_12, Bool.and_true, Bool.true_and, Bool.and_false, Bool.false_and, x_revL, x_revT, h]
theorem v4b {C : CT} {a b : Int} {a0 a1 a2 a3 a4 a5 a8 a9 a10 a11 a12 a13 a14 a15 a16 a17 a18 : Sl} (h : (b != 0) = true) (h1 : ¬ b ≤ a) :
    evS C (nthS B 4) [a0, a1, a2, a3, a4, a5, .v (.int a), .v (.int b), a8, a9, a10, a11, a12, a13, a14, a15, a16, a17, a18] = some (.nx [a0, a1, a2, a3, a4, a5, .v (.int a), .v (.int b), a8, a9, a10, a11, a12, a13, a14, a15, a16, a17, a18]) := by
  simp -implicitDefEqProofs only [B, f__law_squares_hold, nthS, E.var?, y_con, y_varF, y_varT, y_glo, y_bin, y_neg, y_notT, y_notF, y_andT, y_andF, y_orT, y_orF, y_ite, y_cmp, y_chain, y_tup, y_lst, y_rep, y_idx, y_slice, y_rev, y_call, y_b1, y_b2, y_isI, y_lrng, y_compN, y_compS, y_esN, y_esC, y_rsN, y_rsC, y_asN, y_asV, y_asI, y_oN, y_oS, y_itS, y_it1, y_it2, y_asg, y_par, y_stp, y_unp, y_st, y_app, y_expr, y_iteS, y_for, y_retN, y_pass, y_brk, y_cont, y_raise, y_ssN, y_ssC, y_tasN, y_tasC, y_taN, y_taS, y_aug, y_augV, y_ret, y_retS, y_retE, y_enm, y_enmL, y_enmT, y_zip, y_zipL, y_zipT, y_ext, y_extO, y_seqL, y_seqT, y_nsN, y_nsC, y_tgN, y_tgT, y_tgL, y_tgsN, y_tgsC, y_forN, y_forC, y_cmN, y_cmC, y_wipN, y_wipC, y_wipU, y_wipV, y_bakN, y_bakC, y_chainE, y_chain3, y_chain3E, y_it3, y_nodN, y_ioL, y_ioR, y_argN, y_argL, y_argR, y_argO, y_argI, y_bkN, y_bkL, y_bkR, y_bkO, y_bkI, y_callE, y_outN, y_outR, x_op1, x_op2, x_opdS, x_opdN, x_getS, x_getV, x_slV, x_slO, x_slI, x_rd, x_rdV, x_rdO, x_asg, x_asgU, x_asgV, x_asgO, x_ret, x_retV, x_retO, x_put, x_putO, x_putI, x_add, x_adO, x_adI, x_own, x_ownO, x_ownI, x_base, x_finF, x_finT, x_asB, x_ofB, x_bindB, x_withE, x_dV, x_dO, x_sV, x_sO, x_seqN, x_seqR, x_seqB, x_seqC, x_turnN, x_turnC, x_turnB, x_turnR, x_add', x_sub', x_lt, x_le, x_gt, x_ge, x_eq, x_ne, x_is, x_isn, x_inn, x_nin, shaped_int, shaped_bool, shaped_none, x_eqI, x_eqN, x_eqB, x_eqT2, x_eqT3, x_sz1, x_sz2, x_sz3, x_sz4, x_sz5, x_sz6, truN, truB, truI, x_isNn, x_isNi, x_isNt, x_isNl, x_isIi, x_isIb, x_isBb, x_isBi, x_isTt, x_isLl, x_isTl, x_isLt, x_len, x_lenT, x_abs, x_int, x_intq, x_ixL, x_ixT, at_0, at_1, at_2, at_3, at_4, at_5, z_0, z_1, z_2, z_3, z_4, z_5, z_6, z_7, z_8, z_9, z_10, z_11, z_12, w_0, w_1, w_2, w_3, w_4, w_5, w_6, w_7, w_8, w_9, w_10, w_11, w_12, ix_1_0, ix_2_0, ix_2_1, ix_3_0, ix_3_1, ix_3_2, ix_4_0, ix_4_1, ix_4_2, ix_4_3, ix_5_0, ix_5_1, ix_5_2, ix_5_3, ix_5_4, ix_6_0, ix_6_1, ix_6_2, ix_6_3, ix_6_4, ix_6_5, ix_7_0, ix_7_1, ix_7_2, ix_7_3, ix_7_4, ix_7_5, ix_7_6, Option.map_some, Option.bind_some, Option.map_none, Option.bind_none, List.getElem?_cons_zero, List.getElem?_cons_succ, List.set_cons_zero, List.set_cons_succ, List.cons_append, List.nil_append, List.length_cons, List.length_nil, List.replicate, if_true, Bool.false_eq_true, if_false, reduceIte, Nat.reduceAdd, Nat.reduceSub, List.append_nil, List.take_succ_cons, List.take_zero, List.map_nil, Option.getD_some, decide_true, decide_false, List.nodup_nil, y_nod1, Bool.not_true, Bool.not_false, List.map_cons, ct_0, ct_1, ct_2, ct_3, ct_4, ct_5, ct_6, ct_7, ct_8, ct_9, ct_10, ct_11, ct_12, Bool.and_true, Bool.true_and, Bool.and_false, Bool.false_and, x_revL, x_revT, h, h1]
theorem v4c {C : CT} {a b t1 t2 t3 : Int} {a0 a1 a2 a3 a4 a5 a8 a9 a10 a11 a12 a13 a14 a18 : Sl} (ha : -18446744073709551616 < a ∧ a < 18446744073709551616) (h : (b != 0) = true) (h1 : b ≤ a) (c : C 15 [.v (.int a), .v (.int b)] = some (.v (.tuple [.int a, .int (b - 1), .int (a - b)]), [.v (.int a), .v (.int b)])) (c1 : C 16 [.v (.int a)] = some (.v (.int t1), [.v (.int a)])) (c2 : C 16 [.v (.int (b - 1))] = some (.v (.int t2), [.v (.int (b - 1))])) (c3 : C 16 [.v (.int (a - b))] = some (.v (.int t3), [.v (.int (a - b))]))
    (h2 : decide (t1 + t2 - t3 = a * b) = true) :
    evS C (nthS B 4) [a0, a1, a2, a3, a4, a5, .v (.int a), .v (.int b), a8, a9, a10, a11, a12, a13, a14, .un, .un, .un, a18] = some (.nx [a0, a1, a2, a3, a4, a5, .v (.int a), .v (.int b), a8, a9, a10, a11, a12, a13, a14, .v (.int a), .v (.int (b - 1)), .v (.int (a - b)), a18]) := by
  simp -implicitDefEqProofs only [B, f__law_squares_hold, nthS, E.var?, y_con, y_varF, y_varT, y_glo, y_bin, y_neg, y_notT, y_notF, y_andT, y_andF, y_orT, y_orF, y_ite, y_cmp, y_chain, y_tup, y_lst, y_rep, y_idx, y_slice, y_rev, y_call, y_b1, y_b2, y_isI, y_lrng, y_compN, y_compS, y_esN, y_esC, y_rsN, y_rsC, y_asN, y_asV, y_asI, y_oN, y_oS, y_itS, y_it1, y_it2, y_asg, y_par, y_stp, y_unp, y_st, y_app, y_expr, y_iteS, y_for, y_retN, y_pass, y_brk, y_cont, y_raise, y_ssN, y_ssC, y_tasN, y_tasC, y_taN, y_taS, y_aug, y_augV, y_ret, y_retS, y_retE, y_enm, y_enmL, y_enmT, y_zip, y_zipL, y_zipT, y_ext, y_extO, y_seqL, y_seqT, y_nsN, y_nsC, y_tgN, y_tgT, y_tgL, y_tgsN, y_tgsC, y_forN, y_forC, y_cmN, y_cmC, y_wipN, y_wipC, y_wipU, y_wipV, y_bakN, y_bakC, y_chainE, y_chain3, y_chain3E, y_it3, y_nodN, y_ioL, y_ioR, y_argN, y_argL, y_argR, y_argO, y_argI, y_bkN, y_bkL, y_bkR, y_bkO, y_bkI, y_callE, y_outN, y_outR, x_op1, x_op2, x_opdS, x_opdN, x_getS, x_getV, x_slV, x_slO, x_slI, x_rd, x_rdV, x_rdO, x_asg, x_asgU, x_asgV, x_asgO, x_ret, x_retV, x_retO, x_put, x_putO, x_putI, x_add, x_adO, x_adI, x_own, x_ownO, x_ownI, x_base, x_finF, x_finT, x_asB, x_ofB, x_bindB, x_withE, x_dV, x_dO, x_sV, x_sO, x_seqN, x_seqR, x_seqB, x_seqC, x_turnN, x_turnC, x_turnB, x_turnR, x_add', x_sub', x_lt, x_le, x_gt, x_ge, x_eq, x_ne, x_is, x_isn, x_inn, x_nin, shaped_int, shaped_bool, shaped_none, x_eqI, x_eqN, x_eqB, x_eqT2, x_eqT3, x_sz1, x_sz2, x_sz3, x_sz4, x_sz5, x_sz6, truN, truB, truI, x_isNn, x_isNi, x_isNt, x_isNl, x_isIi, x_isIb, x_isBb, x_isBi, x_isTt, x_isLl, x_isTl, x_isLt, x_len, x_lenT, x_abs, x_int, x_intq, x_ixL, x_ixT, at_0, at_1, at_2, at_3, at_4, at_5, z_0, z_1, z_2, z_3, z_4, z_5, z_6, z_7, z_8, z_9, z_10, z_11, z_12, w_0, w_1, w_2, w_3, w_4, w_5, w_6, w_7, w_8, w_9, w_10, w_11, w_12, ix_1_0, ix_2_0, ix_2_1, ix_3_0, ix_3_1, ix_3_2, ix_4_0, ix_4_1, ix_4_2, ix_4_3, ix_5_0, ix_5_1, ix_5_2, ix_5_3, ix_5_4, ix_6_0, ix_6_1, ix_6_2, ix_6_3, ix_6_4, ix_6_5, ix_7_0, ix_7_1, ix_7_2, ix_7_3, ix_7_4, ix_7_5, ix_7_6, Option.map_some, Option.bind_some, Option.map_none, Option.bind_none, List.getElem?_cons_zero, List.getElem?_cons_succ, List.set_cons_zero, List.set_cons_succ, List.cons_append, List.nil_append, List.length_cons, List.length_nil, List.replicate, if_true, Bool.false_eq_true, if_false, reduceIte, Nat.reduceAdd, Nat.reduceSub, List.append_nil, List.take_succ_cons, List.take_zero, List.map_nil, Option.getD_some, decide_true, decide_false, List.nodup_nil, y_nod1, Bool.not_true, Bool.not_false, List.map_cons, ct_0, ct_1, ct_2, ct_3, ct_4, ct_5, ct_6, ct_7, ct_8, ct_9, ct_10, ct_11, ct_12, Bool.and_true, Bool.true_and, Bool.and_false, Bool.false_and, x_revL, x_revT, h, h1, c, c1, c2, c3, x_mulD ha, h2, dT]
theorem v5 {C : CT} {m R : D} {a0 a2 a3 a4 a5 a6 a7 a9 a10 a11 a12 a13 a14 a15 a16 a17 a18 : Sl} (c : C 3 [.v m] = some (.v R, [.v m])) : evS C (nthS B 5) [a0, .un, a2, a3, a4, a5, a6, a7, .v m, a9, a10, a11, a12, a13, a14, a15, a16, a17, a18] = some (.nx [a0, .v R, a2, a3, a4, a5, a6, a7, .v m, a9, a10, a11, a12, a13, a14, a15, a16, a17, a18]) := by
  simp -implicitDefEqProofs only [B, f__law_squares_hold, nthS, E.var?, y_con, y_varF, y_varT, y_glo, y_bin, y_neg, y_notT, y_notF, y_andT, y_andF, y_orT, y_orF, y_ite, y_cmp, y_chain, y_tup, y_lst, y_rep, y_idx, y_slice, y_rev, y_call, y_b1, y_b2, y_isI, y_lrng, y_compN, y_compS, y_esN, y_esC, y_rsN, y_rsC, y_asN, y_asV, y_asI, y_oN, y_oS, y_itS, y_it1, y_it2, y_asg, y_par, y_stp, y_unp, y_st, y_app, y_expr, y_iteS, y_for, y_retN, y_pass, y_brk, y_cont, y_raise, y_ssN, y_ssC, y_tasN, y_tasC, y_taN, y_taS, y_aug, y_augV, y_ret, y_retS, y_retE, y_enm, y_enmL, y_enmT, y_zip, y_zipL, y_zipT, y_ext, y_extO, y_seqL, y_seqT, y_nsN, y_nsC, y_tgN, y_tgT, y_tgL, y_tgsN, y_tgsC, y_forN, y_forC, y_cmN, y_cmC, y_wipN, y_wipC, y_wipU, y_wipV, y_bakN, y_bakC, y_chainE, y_chain3, y_chain3E, y_it3, y_nodN, y_ioL, y_ioR, y_argN, y_argL, y_argR, y_argO, y_argI, y_bkN, y_bkL, y_bkR, y_bkO, y_bkI, y_callE, y_outN, y_outR, x_op1, x_op2, x_opdS, x_opdN, x_getS, x_getV, x_slV, x_slO, x_slI, x_rd, x_rdV, x_rdO, x_asg, x_asgU, x_asgV, x_asgO, x_ret, x_retV, x_retO, x_put, x_putO, x_putI, x_add, x_adO, x_adI, x_own, x_ownO, x_ownI, x_base, x_finF, x_finT, x_asB, x_ofB, x_bindB, x_withE, x_dV, x_dO, x_sV, x_sO, x_seqN, x_seqR, x_seqB, x_seqC, x_turnN, x_turnC, x_turnB, x_turnR, x_add', x_sub', x_lt, x_le, x_gt, x_ge, x_eq, x_ne, x_is, x_isn, x_inn, x_nin, shaped_int, shaped_bool, shaped_none, x_eqI, x_eqN, x_eqB, x_eqT2, x_eqT3, x_sz1, x_sz2, x_sz3, x_sz4, x_sz5, x_sz6, truN, truB, truI, x_isNn, x_isNi, x_isNt, x_isNl, x_isIi, x_isIb, x_isBb, x_isBi, x_isTt, x_isLl, x_isTl, x_isLt, x_len, x_lenT, x_abs, x_int, x_intq, x_ixL, x_ixT, at_0, at_1, at_2, at_3, at_4, at_5, z_0, z_1, z_2, z_3, z_4, z_5, z_6, z_7, z_8, z_9, z_10, z_11, z_12, w_0, w_1, w_2, w_3, w_4, w_5, w_6, w_7, w_8, w_9, w_10, w_11, w_12, ix_1_0, ix_2_0, ix_2_1, ix_3_0, ix_3_1, ix_3_2, ix_4_0, ix_4_1, ix_4_2, ix_4_3, ix_5_0, ix_5_1, ix_5_2, ix_5_3, ix_5_4, ix_6_0, ix_6_1, ix_6_2, ix_6_3, ix_6_4, ix_6_5, ix_7_0, ix_7_1, ix_7_2, ix_7_3, ix_7_4, ix_7_5, ix_7_6, Option.map_some, Option.bind_some, Option.map_none, Option.bind_none, List.getElem?_cons_zero, List.getElem?_cons_succ, List.set_cons_zero, List.set_cons_succ, List.cons_append, List.nil_append, List.length_cons, List.length_nil, List.replicate, if_true, Bool.false_eq_true, if_false, reduceIte, Nat.reduceAdd, Nat.reduceSub, List.append_nil, List.take_succ_cons, List.take_zero, List.map_nil, Option.getD_some, decide_true, decide_false, List.nodup_nil, y_nod1, Bool.not_true, Bool.not_false, List.map_cons, ct_0, ct_1, ct_2, ct_3, ct_4, ct_5, ct_6, ct_7, ct_8, ct_9, ct_10, ct_11, ct_12, Bool.and_true, Bool.true_and, Bool.and_false, Bool.false_and, x_revL, x_revT, c]
theorem v6 {C : CT} {m : Int} {R S xs ys : List D} {a0 a2 a3 a4 a5 a6 a7 a9 a10 a11 a12 a13 a14 a15 a16 a17 : Sl} (hr : rng2 0 (m + 1) = some xs) (h1 : compE (bindT (.nm 18)) [18] (fun e => some (true, e)) (evX C f__law_squares_hold_e2 false) (some (xs, [a0, .v (.tuple R), a2, a3, a4, a5, a6, a7, .v (.int m), a9, a10, a11, a12, a13, a14, a15, a16, a17, .un])) = some (.o R, [a0, .v (.tuple R), a2, a3, a4, a5, a6, a7, .v (.int m), a9, a10, a11, a12, a13, a14, a15, a16, a17, .un])) (e1 : eqD (.tuple R) (.tuple R) = some true)
    (c8 : C 8 [.v (.tuple R)] = some (.v (.tuple [sR]), [.v (.tuple R)])) (e2 : eqD (.tuple [sR]) (.tuple [sR]) = some true) (c11 : C 11 [.v (.tuple R)] = some (.v (.tuple []), [.v (.tuple R)])) (e3 : eqD (.tuple []) (.tuple []) = some true) (c10 : C 10 [.v (.tuple R)] = some (.v (.tuple S), [.v (.tuple R)]))
    (hr2 : rng2 0 m = some ys) (h2 : compE (bindT (.nm 18)) [18] (fun e => some (true, e)) (evX C f__law_squares_hold_e1 false) (some (ys, [a0, .v (.tuple R), a2, a3, a4, a5, a6, a7, .v (.int m), a9, a10, a11, a12, a13, a14, a15, a16, a17, .un])) = some (.o S, [a0, .v (.tuple R), a2, a3, a4, a5, a6, a7, .v (.int m), a9, a10, a11, a12, a13, a14, a15, a16, a17, .un])) (e4 : eqD (.tuple S) (.tuple S) = some true) :
    evS C (nthS B 6) [a0, .v (.tuple R), a2, a3, a4, a5, a6, a7, .v (.int m), a9, a10, a11, a12, a13, a14, a15, a16, a17, .un] = some (.nx [a0, .v (.tuple R), a2, a3, a4, a5, a6, a7, .v (.int m), a9, a10, a11, a12, a13, a14, a15, a16, a17, .un]) := by
  simp -implicitDefEqProofs only [B, f__law_squares_hold, nthS, E.var?, y_con, y_varF, y_varT, y_glo, y_bin, y_neg, y_notT, y_notF, y_andT, y_andF, y_orT, y_orF, y_ite, y_cmp, y_chain, y_tup, y_lst, y_rep, y_idx, y_slice, y_rev, y_call, y_b1, y_b2, y_isI, y_lrng, y_compN, y_compS, y_esN, y_esC, y_rsN, y_rsC, y_asN, y_asV, y_asI, y_oN, y_oS, y_itS, y_it1, y_it2, y_asg, y_par, y_stp, y_unp, y_st, y_app, y_expr, y_iteS, y_for, y_retN, y_pass, y_brk, y_cont, y_raise, y_ssN, y_ssC, y_tasN, y_tasC, y_taN, y_taS, y_aug, y_augV, y_ret, y_retS, y_retE, y_enm, y_enmL, y_enmT, y_zip, y_zipL, y_zipT, y_ext, y_extO, y_seqL, y_seqT, y_nsN, y_nsC, y_tgN, y_tgT, y_tgL, y_tgsN, y_tgsC, y_forN, y_forC, y_cmN, y_cmC, y_wipN, y_wipC, y_wipU, y_wipV, y_bakN, y_bakC, y_chainE, y_chain3, y_chain3E, y_it3, y_nodN, y_ioL, y_ioR, y_argN, y_argL, y_argR, y_argO, y_argI, y_bkN, y_bkL, y_bkR, y_bkO, y_bkI, y_callE, y_outN, y_outR, x_op1, x_op2, x_opdS, x_opdN, x_getS, x_getV, x_slV, x_slO, x_slI, x_rd, x_rdV, x_rdO, x_asg, x_asgU, x_asgV, x_asgO, x_ret, x_retV, x_retO, x_put, x_putO, x_putI, x_add, x_adO, x_adI, x_own, x_ownO, x_ownI, x_base, x_finF, x_finT, x_asB, x_ofB, x_bindB, x_withE, x_dV, x_dO, x_sV, x_sO, x_seqN, x_seqR, x_seqB, x_seqC, x_turnN, x_turnC, x_turnB, x_turnR, x_add', x_sub', x_lt, x_le, x_gt, x_ge, x_eq, x_ne, x_is, x_isn, x_inn, x_nin, shaped_int, shaped_bool, shaped_none, x_eqI, x_eqN, x_eqB, x_eqT2, x_eqT3, x_sz1, x_sz2, x_sz3, x_sz4, x_sz5, x_sz6, truN, truB, truI, x_isNn, x_isNi, x_isNt, x_isNl, x_isIi, x_isIb, x_isBb, x_isBi, x_isTt, x_isLl, x_isTl, x_isLt, x_len, x_lenT, x_abs, x_int, x_intq, x_ixL, x_ixT, at_0, at_1, at_2, at_3, at_4, at_5, z_0, z_1, z_2, z_3, z_4, z_5, z_6, z_7, z_8, z_9, z_10, z_11, z_12, w_0, w_1, w_2, w_3, w_4, w_5, w_6, w_7, w_8, w_9, w_10, w_11, w_12, ix_1_0, ix_2_0, ix_2_1, ix_3_0, ix_3_1, ix_3_2, ix_4_0, ix_4_1, ix_4_2, ix_4_3, ix_5_0, ix_5_1, ix_5_2, ix_5_3, ix_5_4, ix_6_0, ix_6_1, ix_6_2, ix_6_3, ix_6_4, ix_6_5, ix_7_0, ix_7_1, ix_7_2, ix_7_3, ix_7_4, ix_7_5, ix_7_6, Option.map_some, Option.bind_some, Option.map_none, Option.bind_none, List.getElem?_cons_zero, List.getElem?_cons_succ, List.set_cons_zero, List.set_cons_succ, List.cons_append, List.nil_append, List.length_cons, List.length_nil, List.replicate, if_true, Bool.false_eq_true, if_false, reduceIte, Nat.reduceAdd, Nat.reduceSub, List.append_nil, List.take_succ_cons, List.take_zero, List.map_nil, Option.getD_some, decide_true, decide_false, List.nodup_nil, y_nod1, Bool.not_true, Bool.not_false, List.map_cons, ct_0, ct_1, ct_2, ct_3, ct_4, ct_5, ct_6, ct_7, ct_8, ct_9, ct_10, ct_11, ct_12, Bool.and_true, Bool.true_and, Bool.and_false, Bool.false_and, x_revL, x_revT, hr, h1, set_tup, e1, c8, e2, c11, x_sz0, e3, c10, hr2, h2, e4]
theorem v7 {C : CT} {x0 x1 x2 : List D} {m at' r more : Int} {a1 a2 a3 a4 a5 a6 a7 a9 a10 a13 a14 a15 a16 a17 a18 : Sl} (hm : 1 + r = more) (c1 : C 20 [.io x0, .v (.int (m + 1))] = some (.v (.int at'), [.io x1, .v (.int (m + 1))])) (c2 : C 20 [.io x1, .v (.int 3)] = some (.v (.int r), [.io x2, .v (.int 3)])) :
    evS C (nthS B 7) [.io x0, a1, a2, a3, a4, a5, a6, a7, .v (.int m), a9, a10, .un, .un, a13, a14, a15, a16, a17, a18] = some (.nx [.io x2, a1, a2, a3, a4, a5, a6, a7, .v (.int m), a9, a10, .v (.int at'), .v (.int more), a13, a14, a15, a16, a17, a18]) := by
  simp -implicitDefEqProofs only [B, f__law_squares_hold, nthS, E.var?, y_con, y_varF, y_varT, y_glo, y_bin, y_neg, y_notT, y_notF, y_andT, y_andF, y_orT, y_orF, y_ite, y_cmp, y_chain, y_tup, y_lst, y_rep, y_idx, y_slice, y_rev, y_call, y_b1, y_b2, y_isI, y_lrng, y_compN, y_compS, y_esN, y_esC, y_rsN, y_rsC, y_asN, y_asV, y_asI, y_oN, y_oS, y_itS, y_it1, y_it2, y_asg, y_par, y_stp, y_unp, y_st, y_app, y_expr, y_iteS, y_for, y_retN, y_pass, y_brk, y_cont, y_raise, y_ssN, y_ssC, y_tasN, y_tasC, y_taN, y_taS, y_aug, y_augV, y_ret, y_retS, y_retE, y_enm, y_enmL, y_enmT, y_zip, y_zipL, y_zipT, y_ext, y_extO, y_seqL, y_seqT, y_nsN, y_nsC, y_tgN, y_tgT, y_tgL, y_tgsN, y_tgsC, y_forN, y_forC, y_cmN, y_cmC, y_wipN, y_wipC, y_wipU, y_wipV, y_bakN, y_bakC, y_chainE, y_chain3, y_chain3E, y_it3, y_nodN, y_ioL, y_ioR, y_argN, y_argL, y_argR, y_argO, y_argI, y_bkN, y_bkL, y_bkR, y_bkO, y_bkI, y_callE, y_outN, y_outR, x_op1, x_op2, x_opdS, x_opdN, x_getS, x_getV, x_slV, x_slO, x_slI, x_rd, x_rdV, x_rdO, x_asg, x_asgU, x_asgV, x_asgO, x_ret, x_retV, x_retO, x_put, x_putO, x_putI, x_add, x_adO, x_adI, x_own, x_ownO, x_ownI, x_base, x_finF, x_finT, x_asB, x_ofB, x_bindB, x_withE, x_dV, x_dO, x_sV, x_sO, x_seqN, x_seqR, x_seqB, x_seqC, x_turnN, x_turnC, x_turnB, x_turnR, x_add', x_sub', x_lt, x_le, x_gt, x_ge, x_eq, x_ne, x_is, x_isn, x_inn, x_nin, shaped_int, shaped_bool, shaped_none, x_eqI, x_eqN, x_eqB, x_eqT2, x_eqT3, x_sz1, x_sz2, x_sz3, x_sz4, x_sz5, x_sz6, truN, truB, truI, x_isNn, x_isNi, x_isNt, x_isNl, x_isIi, x_isIb, x_isBb, x_isBi, x_isTt, x_isLl, x_isTl, x_isLt, x_len, x_lenT, x_abs, x_int, x_intq, x_ixL, x_ixT, at_0, at_1, at_2, at_3, at_4, at_5, z_0, z_1, z_2, z_3, z_4, z_5, z_6, z_7, z_8, z_9, z_10, z_11, z_12, w_0, w_1, w_2, w_3, w_4, w_5, w_6, w_7, w_8, w_9, w_10, w_11, w_12, ix_1_0, ix_2_0, ix_2_1, ix_3_0, ix_3_1, ix_3_2, ix_4_0, ix_4_1, ix_4_2, ix_4_3, ix_5_0, ix_5_1, ix_5_2, ix_5_3, ix_5_4, ix_6_0, ix_6_1, ix_6_2, ix_6_3, ix_6_4, ix_6_5, ix_7_0, ix_7_1, ix_7_2, ix_7_3, ix_7_4, ix_7_5, ix_7_6, Option.map_some, Option.bind_some, Option.map_none, Option.bind_none, List.getElem?_cons_zero, List.getElem?_cons_succ, List.set_cons_zero, List.set_cons_succ, List.cons_append, List.nil_append, List.length_cons, List.length_nil, List.replicate, if_true, Bool.false_eq_true, if_false, reduceIte, Nat.reduceAdd, Nat.reduceSub, List.append_nil, List.take_succ_cons, List.take_zero, List.map_nil, Option.getD_some, decide_true, decide_false, List.nodup_nil, y_nod1, Bool.not_true, Bool.not_false, List.map_cons, ct_0, ct_1, ct_2, ct_3, ct_4, ct_5, ct_6, ct_7, ct_8, ct_9, ct_10, ct_11, ct_12, Bool.and_true, Bool.true_and, Bool.and_false, Bool.false_and, x_revL, x_revT, c1, c2, hm]
theorem v8 {C : CT} {R U V W : List D} {at' y more : Int} {a0 a3 a4 a5 a6 a7 a8 a9 a10 a13 a14 a15 a16 a17 a18 : Sl} (h1 : cutL R none (some at') = U) (h2 : cutL R (some (at' + 1)) none = V) (h3 : atI R at' = some (.int y)) (h4 : binR .add (.tuple U) (.tuple [.int (y + more)]) = some (.v (.tuple (U ++ [.int (y + more)])))) (h5 : binR .add (.tuple (U ++ [.int (y + more)])) (.tuple V) = some (.v (.tuple W))) :
    evS C (nthS B 8) [a0, .v (.tuple R), .un, a3, a4, a5, a6, a7, a8, a9, a10, .v (.int at'), .v (.int more), a13, a14, a15, a16, a17, a18] = some (.nx [a0, .v (.tuple R), .v (.tuple W), a3, a4, a5, a6, a7, a8, a9, a10, .v (.int at'), .v (.int more), a13, a14, a15, a16, a17, a18]) := by
  simp -implicitDefEqProofs only [B, f__law_squares_hold, nthS, E.var?, y_con, y_varF, y_varT, y_glo, y_bin, y_neg, y_notT, y_notF, y_andT, y_andF, y_orT, y_orF, y_ite, y_cmp, y_chain, y_tup, y_lst, y_rep, y_idx, y_slice, y_rev, y_call, y_b1, y_b2, y_isI, y_lrng, y_compN, y_compS, y_esN, y_esC, y_rsN, y_rsC, y_asN, y_asV, y_asI, y_oN, y_oS, y_itS, y_it1, y_it2, y_asg, y_par, y_stp, y_unp, y_st, y_app, y_expr, y_iteS, y_for, y_retN, y_pass, y_brk, y_cont, y_raise, y_ssN, y_ssC, y_tasN, y_tasC, y_taN, y_taS, y_aug, y_augV, y_ret, y_retS, y_retE, y_enm, y_enmL, y_enmT, y_zip, y_zipL, y_zipT, y_ext, y_extO, y_seqL, y_seqT, y_nsN, y_nsC, y_tgN, y_tgT, y_tgL, y_tgsN, y_tgsC, y_forN, y_forC, y_cmN, y_cmC, y_wipN, y_wipC, y_wipU, y_wipV, y_bakN, y_bakC, y_chainE, y_chain3, y_chain3E, y_it3, y_nodN, y_ioL, y_ioR, y_argN, y_argL, y_argR, y_argO, y_argI, y_bkN, y_bkL, y_bkR, y_bkO, y_bkI, y_callE, y_outN, y_outR, x_op1, x_op2, x_opdS, x_opdN, x_getS, x_getV, x_slV, x_slO, x_slI, x_rd, x_rdV, x_rdO, x_asg, x_asgU, x_asgV, x_asgO, x_ret, x_retV, x_retO, x_put, x_putO, x_putI, x_add, x_adO, x_adI, x_own, x_ownO, x_ownI, x_base, x_finF, x_finT, x_asB, x_ofB, x_bindB, x_withE, x_dV, x_dO, x_sV, x_sO, x_seqN, x_seqR, x_seqB, x_seqC, x_turnN, x_turnC, x_turnB, x_turnR, x_add', x_sub', x_lt, x_le, x_gt, x_ge, x_eq, x_ne, x_is, x_isn, x_inn, x_nin, shaped_int, shaped_bool, shaped_none, x_eqI, x_eqN, x_eqB, x_eqT2, x_eqT3, x_sz1, x_sz2, x_sz3, x_sz4, x_sz5, x_sz6, truN, truB, truI, x_isNn, x_isNi, x_isNt, x_isNl, x_isIi, x_isIb, x_isBb, x_isBi, x_isTt, x_isLl, x_isTl, x_isLt, x_len, x_lenT, x_abs, x_int, x_intq, x_ixL, x_ixT, at_0, at_1, at_2, at_3, at_4, at_5, z_0, z_1, z_2, z_3, z_4, z_5, z_6, z_7, z_8, z_9, z_10, z_11, z_12, w_0, w_1, w_2, w_3, w_4, w_5, w_6, w_7, w_8, w_9, w_10, w_11, w_12, ix_1_0, ix_2_0, ix_2_1, ix_3_0, ix_3_1, ix_3_2, ix_4_0, ix_4_1, ix_4_2, ix_4_3, ix_5_0, ix_5_1, ix_5_2, ix_5_3, ix_5_4, ix_6_0, ix_6_1, ix_6_2, ix_6_3, ix_6_4, ix_6_5, ix_7_0, ix_7_1, ix_7_2, ix_7_3, ix_7_4, ix_7_5, ix_7_6, Option.map_some, Option.bind_some, Option.map_none, Option.bind_none, List.getElem?_cons_zero, List.getElem?_cons_succ, List.set_cons_zero, List.set_cons_succ, List.cons_append, List.nil_append, List.length_cons, List.length_nil, List.replicate, if_true, Bool.false_eq_true, if_false, reduceIte, Nat.reduceAdd, Nat.reduceSub, List.append_nil, List.take_succ_cons, List.take_zero, List.map_nil, Option.getD_some, decide_true, decide_false, List.nodup_nil, y_nod1, Bool.not_true, Bool.not_false, List.map_cons, ct_0, ct_1, ct_2, ct_3, ct_4, ct_5, ct_6, ct_7, ct_8, ct_9, ct_10, ct_11, ct_12, Bool.and_true, Bool.true_and, Bool.and_false, Bool.false_and, x_revL, x_revT, sl_T, h1, h2, h3, h4, h5]
theorem v9 {C : CT} {m h : Int} {a0 a1 a2 a4 a5 a6 a7 a9 a10 a11 a12 a13 a14 a15 a16 a17 a18 : Sl} (hh : m / 2 = h) : evS C (nthS B 9) [a0, a1, a2, .un, a4, a5, a6, a7, .v (.int m), a9, a10, a11, a12, a13, a14, a15, a16, a17, a18] = some (.nx [a0, a1, a2, .v (.int h), a4, a5, a6, a7, .v (.int m), a9, a10, a11, a12, a13, a14, a15, a16, a17, a18]) := by
  simp -implicitDefEqProofs only [B, f__law_squares_hold, nthS, E.var?, y_con, y_varF, y_varT, y_glo, y_bin, y_neg, y_notT, y_notF, y_andT, y_andF, y_orT, y_orF, y_ite, y_cmp, y_chain, y_tup, y_lst, y_rep, y_idx, y_slice, y_rev, y_call, y_b1, y_b2, y_isI, y_lrng, y_compN, y_compS, y_esN, y_esC, y_rsN, y_rsC, y_asN, y_asV, y_asI, y_oN, y_oS, y_itS, y_it1, y_it2, y_asg, y_par, y_stp, y_unp, y_st, y_app, y_expr, y_iteS, y_for, y_retN, y_pass, y_brk, y_cont, y_raise, y_ssN, y_ssC, y_tasN, y_tasC, y_taN, y_taS, y_aug, y_augV, y_ret, y_retS, y_retE, y_enm, y_enmL, y_enmT, y_zip, y_zipL, y_zipT, y_ext, y_extO, y_seqL, y_seqT, y_nsN, y_nsC, y_tgN, y_tgT, y_tgL, y_tgsN, y_tgsC, y_forN, y_forC, y_cmN, y_cmC, y_wipN, y_wipC, y_wipU, y_wipV, y_bakN, y_bakC, y_chainE, y_chain3, y_chain3E, y_it3, y_nodN, y_ioL, y_ioR, y_argN, y_argL, y_argR, y_argO, y_argI, y_bkN, y_bkL, y_bkR, y_bkO, y_bkI, y_callE, y_outN, y_outR, x_op1, x_op2, x_opdS, x_opdN, x_getS, x_getV, x_slV, x_slO, x_slI, x_rd, x_rdV, x_rdO, x_asg, x_asgU, x_asgV, x_asgO, x_ret, x_retV, x_retO, x_put, x_putO, x_putI, x_add, x_adO, x_adI, x_own, x_ownO, x_ownI, x_base, x_finF, x_finT, x_asB, x_ofB, x_bindB, x_withE, x_dV, x_dO, x_sV, x_sO, x_seqN, x_seqR, x_seqB, x_seqC, x_turnN, x_turnC, x_turnB, x_turnR, x_add', x_sub', x_lt, x_le, x_gt, x_ge, x_eq, x_ne, x_is, x_isn, x_inn, x_nin, shaped_int, shaped_bool, shaped_none, x_eqI, x_eqN, x_eqB, x_eqT2, x_eqT3, x_sz1, x_sz2, x_sz3, x_sz4, x_sz5, x_sz6, truN, truB, truI, x_isNn, x_isNi, x_isNt, x_isNl, x_isIi, x_isIb, x_isBb, x_isBi, x_isTt, x_isLl, x_isTl, x_isLt, x_len, x_lenT, x_abs, x_int, x_intq, x_ixL, x_ixT, at_0, at_1, at_2, at_3, at_4, at_5, z_0, z_1, z_2, z_3, z_4, z_5, z_6, z_7, z_8, z_9, z_10, z_11, z_12, w_0, w_1, w_2, w_3, w_4, w_5, w_6, w_7, w_8, w_9, w_10, w_11, w_12, ix_1_0, ix_2_0, ix_2_1, ix_3_0, ix_3_1, ix_3_2, ix_4_0, ix_4_1, ix_4_2, ix_4_3, ix_5_0, ix_5_1, ix_5_2, ix_5_3, ix_5_4, ix_6_0, ix_6_1, ix_6_2, ix_6_3, ix_6_4, ix_6_5, ix_7_0, ix_7_1, ix_7_2, ix_7_3, ix_7_4, ix_7_5, ix_7_6, Option.map_some, Option.bind_some, Option.map_none, Option.bind_none, List.getElem?_cons_zero, List.getElem?_cons_succ, List.set_cons_zero, List.set_cons_succ, List.cons_append, List.nil_append, List.length_cons, List.length_nil, List.replicate, if_true, Bool.false_eq_true, if_false, reduceIte, Nat.reduceAdd, Nat.reduceSub, List.append_nil, List.take_succ_cons, List.take_zero, List.map_nil, Option.getD_some, decide_true, decide_false, List.nodup_nil, y_nod1, Bool.not_true, Bool.not_false, List.map_cons, ct_0, ct_1, ct_2, ct_3, ct_4, ct_5, ct_6, ct_7, ct_8, ct_9, ct_10, ct_11, ct_12, Bool.and_true, Bool.true_and, Bool.and_false, Bool.false_and, x_revL, x_revT, x_fdivD two2, hh]
theorem v10 {C : CT} {R W : D} {x : Int} {a0 a3 a4 a5 a6 a7 a8 a9 a10 a12 a13 a14 a15 a16 a17 a18 : Sl} (c1 : C 18 [.v W] = some (.v (.tuple [R, .int 1]), [.v W])) (e1 : eqD (.tuple [R, .int 1]) (.tuple [R, .int 1]) = some true) (c2 : C 8 [.v W] = some (.v (.tuple [sW, .int x]), [.v W])) (e2 : eqD (.tuple [sW, .int x]) (.tuple [sW, .int x]) = some true) :
    evS C (nthS B 10) [a0, .v R, .v W, a3, a4, a5, a6, a7, a8, a9, a10, .v (.int x), a12, a13, a14, a15, a16, a17, a18] = some (.nx [a0, .v R, .v W, a3, a4, a5, a6, a7, a8, a9, a10, .v (.int x), a12, a13, a14, a15, a16, a17, a18]) := by
  simp -implicitDefEqProofs only [B, f__law_squares_hold, nthS, E.var?, y_con, y_varF, y_varT, y_glo, y_bin, y_neg, y_notT, y_notF, y_andT, y_andF, y_orT, y_orF, y_ite, y_cmp, y_chain, y_tup, y_lst, y_rep, y_idx, y_slice, y_rev, y_call, y_b1, y_b2, y_isI, y_lrng, y_compN, y_compS, y_esN, y_esC, y_rsN, y_rsC, y_asN, y_asV, y_asI, y_oN, y_oS, y_itS, y_it1, y_it2, y_asg, y_par, y_stp, y_unp, y_st, y_app, y_expr, y_iteS, y_for, y_retN, y_pass, y_brk, y_cont, y_raise, y_ssN, y_ssC, y_tasN, y_tasC, y_taN, y_taS, y_aug, y_augV, y_ret, y_retS, y_retE, y_enm, y_enmL, y_enmT, y_zip, y_zipL, y_zipT, y_ext, y_extO, y_seqL, y_seqT, y_nsN, y_nsC, y_tgN, y_tgT, y_tgL, y_tgsN, y_tgsC, y_forN, y_forC, y_cmN, y_cmC, y_wipN, y_wipC, y_wipU, y_wipV, y_bakN, y_bakC, y_chainE, y_chain3, y_chain3E, y_it3, y_nodN, y_ioL, y_ioR, y_argN, y_argL, y_argR, y_argO, y_argI, y_bkN, y_bkL, y_bkR, y_bkO, y_bkI, y_callE, y_outN, y_outR, x_op1, x_op2, x_opdS, x_opdN, x_getS, x_getV, x_slV, x_slO, x_slI, x_rd, x_rdV, x_rdO, x_asg, x_asgU, x_asgV, x_asgO, x_ret, x_retV, x_retO, x_put, x_putO, x_putI, x_add, x_adO, x_adI, x_own, x_ownO, x_ownI, x_base, x_finF, x_finT, x_asB, x_ofB, x_bindB, x_withE, x_dV, x_dO, x_sV, x_sO, x_seqN, x_seqR, x_seqB, x_seqC, x_turnN, x_turnC, x_turnB, x_turnR, x_add', x_sub', x_lt, x_le, x_gt, x_ge, x_eq, x_ne, x_is, x_isn, x_inn, x_nin, shaped_int, shaped_bool, shaped_none, x_eqI, x_eqN, x_eqB, x_eqT2, x_eqT3, x_sz1, x_sz2, x_sz3, x_sz4, x_sz5, x_sz6, truN, truB, truI, x_isNn, x_isNi, x_isNt, x_isNl, x_isIi, x_isIb, x_isBb, x_isBi, x_isTt, x_isLl, x_isTl, x_isLt, x_len, x_lenT, x_abs, x_int, x_intq, x_ixL, x_ixT, at_0, at_1, at_2, at_3, at_4, at_5, z_0, z_1, z_2, z_3, z_4, z_5, z_6, z_7, z_8, z_9, z_10, z_11, z_12, w_0, w_1, w_2, w_3, w_4, w_5, w_6, w_7, w_8, w_9, w_10, w_11, w_12, ix_1_0, ix_2_0, ix_2_1, ix_3_0, ix_3_1, ix_3_2, ix_4_0, ix_4_1, ix_4_2, ix_4_3, ix_5_0, ix_5_1, ix_5_2, ix_5_3, ix_5_4, ix_6_0, ix_6_1, ix_6_2, ix_6_3, ix_6_4, ix_6_5, ix_7_0, ix_7_1, ix_7_2, ix_7_3, ix_7_4, ix_7_5, ix_7_6, Option.map_some, Option.bind_some, Option.map_none, Option.bind_none, List.getElem?_cons_zero, List.getElem?_cons_succ, List.set_cons_zero, List.set_cons_succ, List.cons_append, List.nil_append, List.length_cons, List.length_nil, List.replicate, if_true, Bool.false_eq_true, if_false, reduceIte, Nat.reduceAdd, Nat.reduceSub, List.append_nil, List.take_succ_cons, List.take_zero, List.map_nil, Option.getD_some, decide_true, decide_false, List.nodup_nil, y_nod1, Bool.not_true, Bool.not_false, List.map_cons, ct_0, ct_1, ct_2, ct_3, ct_4, ct_5, ct_6, ct_7, ct_8, ct_9, ct_10, ct_11, ct_12, Bool.and_true, Bool.true_and, Bool.and_false, Bool.false_and, x_revL, x_revT, c1, e1, c2, e2]
theorem v11 {C : CT} {h x : D} {L : List D} {a0 a1 a2 a5 a6 a7 a8 a9 a10 a12 a13 a14 a15 a16 a17 a18 : Sl} (c : C 21 [.v h, .v x] = some (.o L, [.v h, .v x])) : evS C (nthS B 11) [a0, a1, a2, .v h, .un, a5, a6, a7, a8, a9, a10, .v x, a12, a13, a14, a15, a16, a17, a18] = some (.nx [a0, a1, a2, .v h, .o L, a5, a6, a7, a8, a9, a10, .v x, a12, a13, a14, a15, a16, a17, a18]) := by
  simp -implicitDefEqProofs only [B, f__law_squares_hold, nthS, E.var?, y_con, y_varF, y_varT, y_glo, y_bin, y_neg, y_notT, y_notF, y_andT, y_andF, y_orT, y_orF, y_ite, y_cmp, y_chain, y_tup, y_lst, y_rep, y_idx, y_slice, y_rev, y_call, y_b1, y_b2, y_isI, y_lrng, y_compN, y_compS, y_esN, y_esC, y_rsN, y_rsC, y_asN, y_asV, y_asI, y_oN, y_oS, y_itS, y_it1, y_it2, y_asg, y_par, y_stp, y_unp, y_st, y_app, y_expr, y_iteS, y_for, y_retN, y_pass, y_brk, y_cont, y_raise, y_ssN, y_ssC, y_tasN, y_tasC, y_taN, y_taS, y_aug, y_augV, y_ret, y_retS, y_retE, y_enm, y_enmL, y_enmT, y_zip, y_zipL, y_zipT, y_ext, y_extO, y_seqL, y_seqT, y_nsN, y_nsC, y_tgN, y_tgT, y_tgL, y_tgsN, y_tgsC, y_forN, y_forC, y_cmN, y_cmC, y_wipN, y_wipC, y_wipU, y_wipV, y_bakN, y_bakC, y_chainE, y_chain3, y_chain3E, y_it3, y_nodN, y_ioL, y_ioR, y_argN, y_argL, y_argR, y_argO, y_argI, y_bkN, y_bkL, y_bkR, y_bkO, y_bkI, y_callE, y_outN, y_outR, x_op1, x_op2, x_opdS, x_opdN, x_getS, x_getV, x_slV, x_slO, x_slI, x_rd, x_rdV, x_rdO, x_asg, x_asgU, x_asgV, x_asgO, x_ret, x_retV, x_retO, x_put, x_putO, x_putI, x_add, x_adO, x_adI, x_own, x_ownO, x_ownI, x_base, x_finF, x_finT, x_asB, x_ofB, x_bindB, x_withE, x_dV, x_dO, x_sV, x_sO, x_seqN, x_seqR, x_seqB, x_seqC, x_turnN, x_turnC, x_turnB, x_turnR, x_add', x_sub', x_lt, x_le, x_gt, x_ge, x_eq, x_ne, x_is, x_isn, x_inn, x_nin, shaped_int, shaped_bool, shaped_none, x_eqI, x_eqN, x_eqB, x_eqT2, x_eqT3, x_sz1, x_sz2, x_sz3, x_sz4, x_sz5, x_sz6, truN, truB, truI, x_isNn, x_isNi, x_isNt, x_isNl, x_isIi, x_isIb, x_isBb, x_isBi, x_isTt, x_isLl, x_isTl, x_isLt, x_len, x_lenT, x_abs, x_int, x_intq, x_ixL, x_ixT, at_0, at_1, at_2, at_3, at_4, at_5, z_0, z_1, z_2, z_3, z_4, z_5, z_6, z_7, z_8, z_9, z_10, z_11, z_12, w_0, w_1, w_2, w_3, w_4, w_5, w_6, w_7, w_8, w_9, w_10, w_11, w_12, ix_1_0, ix_2_0, ix_2_1, ix_3_0, ix_3_1, ix_3_2, ix_4_0, ix_4_1, ix_4_2, ix_4_3, ix_5_0, ix_5_1, ix_5_2, ix_5_3, ix_5_4, ix_6_0, ix_6_1, ix_6_2, ix_6_3, ix_6_4, ix_6_5, ix_7_0, ix_7_1, ix_7_2, ix_7_3, ix_7_4, ix_7_5, ix_7_6, Option.map_some, Option.bind_some, Option.map_none, Option.bind_none, List.getElem?_cons_zero, List.getElem?_cons_succ, List.set_cons_zero, List.set_cons_succ, List.cons_append, List.nil_append, List.length_cons, List.length_nil, List.replicate, if_true, Bool.false_eq_true, if_false, reduceIte, Nat.reduceAdd, Nat.reduceSub, List.append_nil, List.take_succ_cons, List.take_zero, List.map_nil, Option.getD_some, decide_true, decide_false, List.nodup_nil, y_nod1, Bool.not_true, Bool.not_false, List.map_cons, ct_0, ct_1, ct_2, ct_3, ct_4, ct_5, ct_6, ct_7, ct_8, ct_9, ct_10, ct_11, ct_12, Bool.and_true, Bool.true_and, Bool.and_false, Bool.false_and, x_revL, x_revT, c]
theorem v12 {C : CT} {W h : D} {x : Int} {L : List D} {c : Bool} {a0 a1 a5 a6 a7 a8 a9 a10 a12 a13 a14 a15 a16 a17 a18 : Sl} (c1 : C 12 [.v W, .v h] = some (.v (.tuple L), [.v W, .v h])) (e1 : eqD (.tuple L) (.tuple L) = some true) (ht : truD (.list L) = some c) (c2 : C 13 [.v W, .v h] = some (.v (if c then .tuple [sO, .int x] else .tuple [sR]), [.v W, .v h])) (e2 : eqD (.tuple [sO, .int x]) (.tuple [sO, .int x]) = some true) (e3 : eqD (.tuple [sR]) (.tuple [sR]) = some true) :
    evS C (nthS B 12) [a0, a1, .v W, .v h, .o L, a5, a6, a7, a8, a9, a10, .v (.int x), a12, a13, a14, a15, a16, a17, a18] = some (.nx [a0, a1, .v W, .v h, .o L, a5, a6, a7, a8, a9, a10, .v (.int x), a12, a13, a14, a15, a16, a17, a18]) := by
  cases c
  · rw [if_neg (by decide)] at c2
    simp -implicitDefEqProofs only [B, f__law_squares_hold, nthS, E.var?, y_con, y_varF, y_varT, y_glo, y_bin, y_neg, y_notT, y_notF, y_andT, y_andF, y_orT, y_orF, y_ite, y_cmp, y_chain, y_tup, y_lst, y_rep, y_idx, y_slice, y_rev, y_call, y_b1, y_b2, y_isI, y_lrng, y_compN, y_compS, y_esN, y_esC, y_rsN, y_rsC, y_asN, y_asV, y_asI, y_oN, y_oS, y_itS, y_it1, y_it2, y_asg, y_par, y_stp, y_unp, y_st, y_app, y_expr, y_iteS, y_for, y_retN, y_pass, y_brk, y_cont, y_raise, y_ssN, y_ssC, y_tasN, y_tasC, y_taN, y_taS, y_aug, y_augV, y_ret, y_retS, y_retE, y_enm, y_enmL, y_enmT, y_zip, y_zipL, y_zipT, y_ext, y_extO, y_seqL, y_seqT, y_nsN, y_nsC, y_tgN, y_tgT, y_tgL, y_tgsN, y_tgsC, y_forN, y_forC, y_cmN, y_cmC, y_wipN, y_wipC, y_wipU, y_wipV, y_bakN, y_bakC, y_chainE, y_chain3, y_chain3E, y_it3, y_nodN, y_ioL, y_ioR, y_argN, y_argL, y_argR, y_argO, y_argI, y_bkN, y_bkL, y_bkR, y_bkO, y_bkI, y_callE, y_outN, y_outR, x_op1, x_op2, x_opdS, x_opdN, x_getS, x_getV, x_slV, x_slO, x_slI, x_rd, x_rdV, x_rdO, x_asg, x_asgU, x_asgV, x_asgO, x_ret, x_retV, x_retO, x_put, x_putO, x_putI, x_add, x_adO, x_adI, x_own, x_ownO, x_ownI, x_base, x_finF, x_finT, x_asB, x_ofB, x_bindB, x_withE, x_dV, x_dO, x_sV, x_sO, x_seqN, x_seqR, x_seqB, x_seqC, x_turnN, x_turnC, x_turnB, x_turnR, x_add', x_sub', x_lt, x_le, x_gt, x_ge, x_eq, x_ne, x_is, x_isn, x_inn, x_nin, shaped_int, shaped_bool, shaped_none, x_eqI, x_eqN, x_eqB, x_eqT2, x_eqT3, x_sz1, x_sz2, x_sz3, x_sz4, x_sz5, x_sz6, truN, truB, truI, x_isNn, x_isNi, x_isNt, x_isNl, x_isIi, x_isIb, x_isBb, x_isBi, x_isTt, x_isLl, x_isTl, x_isLt, x_len, x_lenT, x_abs, x_int, x_intq, x_ixL, x_ixT, at_0, at_1, at_2, at_3, at_4, at_5, z_0, z_1, z_2, z_3, z_4, z_5, z_6, z_7, z_8, z_9, z_10, z_11, z_12, w_0, w_1, w_2, w_3, w_4, w_5, w_6, w_7, w_8, w_9, w_10, w_11, w_12, ix_1_0, ix_2_0, ix_2_1, ix_3_0, ix_3_1, ix_3_2, ix_4_0, ix_4_1, ix_4_2, ix_4_3, ix_5_0, ix_5_1, ix_5_2, ix_5_3, ix_5_4, ix_6_0, ix_6_1, ix_6_2, ix_6_3, ix_6_4, ix_6_5, ix_7_0, ix_7_1, ix_7_2, ix_7_3, ix_7_4, ix_7_5, ix_7_6, Option.map_some, Option.bind_some, Option.map_none, Option.bind_none, List.getElem?_cons_zero, List.getElem?_cons_succ, List.set_cons_zero, List.set_cons_succ, List.cons_append, List.nil_append, List.length_cons, List.length_nil, List.replicate, if_true, Bool.false_eq_true, if_false, reduceIte, Nat.reduceAdd, Nat.reduceSub, List.append_nil, List.take_succ_cons, List.take_zero, List.map_nil, Option.getD_some, decide_true, decide_false, List.nodup_nil, y_nod1, Bool.not_true, Bool.not_false, List.map_cons, ct_0, ct_1, ct_2, ct_3, ct_4, ct_5, ct_6, ct_7, ct_8, ct_9, ct_10, ct_11, ct_12, Bool.and_true, Bool.true_and, Bool.and_false, Bool.false_and, x_revL, x_revT, set_tup, c1, e1, ht, c2, e3]
  · rw [if_pos rfl] at c2
    simp -implicitDefEqProofs only [B, f__law_squares_hold, nthS, E.var?, y_con, y_varF, y_varT, y_glo, y_bin, y_neg, y_notT, y_notF, y_andT, y_andF, y_orT, y_orF, y_ite, y_cmp, y_chain, y_tup, y_lst, y_rep, y_idx, y_slice, y_rev, y_call, y_b1, y_b2, y_isI, y_lrng, y_compN, y_compS, y_esN, y_esC, y_rsN, y_rsC, y_asN, y_asV, y_asI, y_oN, y_oS, y_itS, y_it1, y_it2, y_asg, y_par, y_stp, y_unp, y_st, y_app, y_expr, y_iteS, y_for, y_retN, y_pass, y_brk, y_cont, y_raise, y_ssN, y_ssC, y_tasN, y_tasC, y_taN, y_taS, y_aug, y_augV, y_ret, y_retS, y_retE, y_enm, y_enmL, y_enmT, y_zip, y_zipL, y_zipT, y_ext, y_extO, y_seqL, y_seqT, y_nsN, y_nsC, y_tgN, y_tgT, y_tgL, y_tgsN, y_tgsC, y_forN, y_forC, y_cmN, y_cmC, y_wipN, y_wipC, y_wipU, y_wipV, y_bakN, y_bakC, y_chainE, y_chain3, y_chain3E, y_it3, y_nodN, y_ioL, y_ioR, y_argN, y_argL, y_argR, y_argO, y_argI, y_bkN, y_bkL, y_bkR, y_bkO, y_bkI, y_callE, y_outN, y_outR, x_op1, x_op2, x_opdS, x_opdN, x_getS, x_getV, x_slV, x_slO, x_slI, x_rd, x_rdV, x_rdO, x_asg, x_asgU, x_asgV, x_asgO, x_ret, x_retV, x_retO, x_put, x_putO, x_putI, x_add, x_adO, x_adI, x_own, x_ownO, x_ownI, x_base, x_finF, x_finT, x_asB, x_ofB, x_bindB, x_withE, x_dV, x_dO, x_sV, x_sO, x_seqN, x_seqR, x_seqB, x_seqC, x_turnN, x_turnC, x_turnB, x_turnR, x_add', x_sub', x_lt, x_le, x_gt, x_ge, x_eq, x_ne, x_is, x_isn, x_inn, x_nin, shaped_int, shaped_bool, shaped_none, x_eqI, x_eqN, x_eqB, x_eqT2, x_eqT3, x_sz1, x_sz2, x_sz3, x_sz4, x_sz5, x_sz6, truN, truB, truI, x_isNn, x_isNi, x_isNt, x_isNl, x_isIi, x_isIb, x_isBb, x_isBi, x_isTt, x_isLl, x_isTl, x_isLt, x_len, x_lenT, x_abs, x_int, x_intq, x_ixL, x_ixT, at_0, at_1, at_2, at_3, at_4, at_5, z_0, z_1, z_2, z_3, z_4, z_5, z_6, z_7, z_8, z_9, z_10, z_11, z_12, w_0, w_1, w_2, w_3, w_4, w_5, w_6, w_7, w_8, w_9, w_10, w_11, w_12, ix_1_0, ix_2_0, ix_2_1, ix_3_0, ix_3_1, ix_3_2, ix_4_0, ix_4_1, ix_4_2, ix_4_3, ix_5_0, ix_5_1, ix_5_2, ix_5_3, ix_5_4, ix_6_0, ix_6_1, ix_6_2, ix_6_3, ix_6_4, ix_6_5, ix_7_0, ix_7_1, ix_7_2, ix_7_3, ix_7_4, ix_7_5, ix_7_6, Option.map_some, Option.bind_some, Option.map_none, Option.bind_none, List.getElem?_cons_zero, List.getElem?_cons_succ, List.set_cons_zero, List.set_cons_succ, List.cons_append, List.nil_append, List.length_cons, List.length_nil, List.replicate, if_true, Bool.false_eq_true, if_false, reduceIte, Nat.reduceAdd, Nat.reduceSub, List.append_nil, List.take_succ_cons, List.take_zero, List.map_nil, Option.getD_some, decide_true, decide_false, List.nodup_nil, y_nod1, Bool.not_true, Bool.not_false, List.map_cons, ct_0, ct_1, ct_2, ct_3, ct_4, ct_5, ct_6, ct_7, ct_8, ct_9, ct_10, ct_11, ct_12, Bool.and_true, Bool.true_and, Bool.and_false, Bool.false_and, x_revL, x_revT, set_tup, c1, e1, ht, c2, e2]
theorem v13 {C : CT} {x0 x1 x2 : List D} {m p q : Int} {a1 a2 a4 a5 a6 a7 a8 a9 a10 a11 a12 a15 a16 a17 a18 : Sl} (c1 : C 20 [.io x0, .v (.int (m + 1))] = some (.v (.int p), [.io x1, .v (.int (m + 1))])) (c2 : C 20 [.io x1, .v (.int (m + 1))] = some (.v (.int q), [.io x2, .v (.int (m + 1))])) :
    evS C (nthS B 13) [.io x0, a1, a2, .v (.int m), a4, a5, a6, a7, a8, a9, a10, a11, a12, .un, .un, a15, a16, a17, a18] = some (.nx [.io x2, a1, a2, .v (.int m), a4, a5, a6, a7, a8, a9, a10, a11, a12, .v (.int p), .v (.int q), a15, a16, a17, a18]) := by
  simp -implicitDefEqProofs only [B, f__law_squares_hold, nthS, E.var?, y_con, y_varF, y_varT, y_glo, y_bin, y_neg, y_notT, y_notF, y_andT, y_andF, y_orT, y_orF, y_ite, y_cmp, y_chain, y_tup, y_lst, y_rep, y_idx, y_slice, y_rev, y_call, y_b1, y_b2, y_isI, y_lrng, y_compN, y_compS, y_esN, y_esC, y_rsN, y_rsC, y_asN, y_asV, y_asI, y_oN, y_oS, y_itS, y_it1, y_it2, y_asg, y_par, y_stp, y_unp, y_st, y_app, y_expr, y_iteS, y_for, y_retN, y_pass, y_brk, y_cont, y_raise, y_ssN, y_ssC, y_tasN, y_tasC, y_taN, y_taS, y_aug, y_augV, y_ret, y_retS, y_retE, y_enm, y_enmL, y_enmT, y_zip, y_zipL, y_zipT, y_ext, y_extO, y_seqL, y_seqT, y_nsN, y_nsC, y_tgN, y_tgT, y_tgL, y_tgsN, y_tgsC, y_forN, y_forC, y_cmN, y_cmC, y_wipN, y_wipC, y_wipU, y_wipV, y_bakN, y_bakC, y_chainE, y_chain3, y_chain3E, y_it3, y_nodN, y_ioL, y_ioR, y_argN, y_argL, y_argR, y_argO, y_argI, y_bkN, y_bkL, y_bkR, y_bkO, y_bkI, y_callE, y_outN, y_outR, x_op1, x_op2, x_opdS, x_opdN, x_getS, x_getV, x_slV, x_slO, x_slI, x_rd, x_rdV, x_rdO, x_asg, x_asgU, x_asgV, x_asgO, x_ret, x_retV, x_retO, x_put, x_putO, x_putI, x_add, x_adO, x_adI, x_own, x_ownO, x_ownI, x_base, x_finF, x_finT, x_asB, x_ofB, x_bindB, x_withE, x_dV, x_dO, x_sV, x_sO, x_seqN, x_seqR, x_seqB, x_seqC, x_turnN, x_turnC, x_turnB, x_turnR, x_add', x_sub', x_lt, x_le, x_gt, x_ge, x_eq, x_ne, x_is, x_isn, x_inn, x_nin, shaped_int, shaped_bool, shaped_none, x_eqI, x_eqN, x_eqB, x_eqT2, x_eqT3, x_sz1, x_sz2, x_sz3, x_sz4, x_sz5, x_sz6, truN, truB, truI, x_isNn, x_isNi, x_isNt, x_isNl, x_isIi, x_isIb, x_isBb, x_isBi, x_isTt, x_isLl, x_isTl, x_isLt, x_len, x_lenT, x_abs, x_int, x_intq, x_ixL, x_ixT, at_0, at_1, at_2, at_3, at_4, at_5, z_0, z_1, z_2, z_3, z_4, z_5, z_6, z_7, z_8, z_9, z_10, z_11, z_12, w_0, w_1, w_2, w_3, w_4, w_5, w_6, w_7, w_8, w_9, w_10, w_11, w_12, ix_1_0, ix_2_0, ix_2_1, ix_3_0, ix_3_1, ix_3_2, ix_4_0, ix_4_1, ix_4_2, ix_4_3, ix_5_0, ix_5_1, ix_5_2, ix_5_3, ix_5_4, ix_6_0, ix_6_1, ix_6_2, ix_6_3, ix_6_4, ix_6_5, ix_7_0, ix_7_1, ix_7_2, ix_7_3, ix_7_4, ix_7_5, ix_7_6, Option.map_some, Option.bind_some, Option.map_none, Option.bind_none, List.getElem?_cons_zero, List.getElem?_cons_succ, List.set_cons_zero, List.set_cons_succ, List.cons_append, List.nil_append, List.length_cons, List.length_nil, List.replicate, if_true, Bool.false_eq_true, if_false, reduceIte, Nat.reduceAdd, Nat.reduceSub, List.append_nil, List.take_succ_cons, List.take_zero, List.map_nil, Option.getD_some, decide_true, decide_false, List.nodup_nil, y_nod1, Bool.not_true, Bool.not_false, List.map_cons, ct_0, ct_1, ct_2, ct_3, ct_4, ct_5, ct_6, ct_7, ct_8, ct_9, ct_10, ct_11, ct_12, Bool.and_true, Bool.true_and, Bool.and_false, Bool.false_and, x_revL, x_revT, c1, c2]
theorem v14 {C : CT} {x more p q : Int} {c d : Bool} {a0 a1 a2 a3 a4 a6 a7 a8 a9 a10 a15 a16 a17 a18 : Sl} (h1 : decide (p + q = x) = c) (h2 : decide ((if p - q < 0 then -(p - q) else p - q) = x) = d) :
    evS C (nthS B 14) [a0, a1, a2, a3, a4, .un, a6, a7, a8, a9, a10, .v (.int x), .v (.int more), .v (.int p), .v (.int q), a15, a16, a17, a18] = some (.nx [a0, a1, a2, a3, a4, .v (.int ((if c then more else 0) - (if d then more else 0))), a6, a7, a8, a9, a10, .v (.int x), .v (.int more), .v (.int p), .v (.int q), a15, a16, a17, a18]) := by
  cases c <;> cases d <;> simp -implicitDefEqProofs only [B, f__law_squares_hold, nthS, E.var?, y_con, y_varF, y_varT, y_glo, y_bin, y_neg, y_notT, y_notF, y_andT, y_andF, y_orT, y_orF, y_ite, y_cmp, y_chain, y_tup, y_lst, y_rep, y_idx, y_slice, y_rev, y_call, y_b1, y_b2, y_isI, y_lrng, y_compN, y_compS, y_esN, y_esC, y_rsN, y_rsC, y_asN, y_asV, y_asI, y_oN, y_oS, y_itS, y_it1, y_it2, y_asg, y_par, y_stp, y_unp, y_st, y_app, y_expr, y_iteS, y_for, y_retN, y_pass, y_brk, y_cont, y_raise, y_ssN, y_ssC, y_tasN, y_tasC, y_taN, y_taS, y_aug, y_augV, y_ret, y_retS, y_retE, y_enm, y_enmL, y_enmT, y_zip, y_zipL, y_zipT, y_ext, y_extO, y_seqL, y_seqT, y_nsN, y_nsC, y_tgN, y_tgT, y_tgL, y_tgsN, y_tgsC, y_forN, y_forC, y_cmN, y_cmC, y_wipN, y_wipC, y_wipU, y_wipV, y_bakN, y_bakC, y_chainE, y_chain3, y_chain3E, y_it3, y_nodN, y_ioL, y_ioR, y_argN, y_argL, y_argR, y_argO, y_argI, y_bkN, y_bkL, y_bkR, y_bkO, y_bkI, y_callE, y_outN, y_outR, x_op1, x_op2, x_opdS, x_opdN, x_getS, x_getV, x_slV, x_slO, x_slI, x_rd, x_rdV, x_rdO, x_asg, x_asgU, x_asgV, x_asgO, x_ret, x_retV, x_retO, x_put, x_putO, x_putI, x_add, x_adO, x_adI, x_own, x_ownO, x_ownI, x_base, x_finF, x_finT, x_asB, x_ofB, x_bindB, x_withE, x_dV, x_dO, x_sV, x_sO, x_seqN, x_seqR, x_seqB, x_seqC, x_turnN, x_turnC, x_turnB, x_turnR, x_add', x_sub', x_lt, x_le, x_gt, x_ge, x_eq, x_ne, x_is, x_isn, x_inn, x_nin, shaped_int, shaped_bool, shaped_none, x_eqI, x_eqN, x_eqB, x_eqT2, x_eqT3, x_sz1, x_sz2, x_sz3, x_sz4, x_sz5, x_sz6, truN, truB, truI, x_isNn, x_isNi, x_isNt, x_isNl, x_isIi, x_isIb, x_isBb, x_isBi, x_isTt, x_isLl, x_isTl, x_isLt, x_len, x_lenT, x_abs, x_int, x_intq, x_ixL, x_ixT, at_0, at_1, at_2, at_3, at_4, at_5, z_0, z_1, z_2, z_3, z_4, z_5, z_6, z_7, z_8, z_9, z_10, z_11, z_12, w_0, w_1, w_2, w_3, w_4, w_5, w_6, w_7, w_8, w_9, w_10, w_11, w_12, ix_1_0, ix_2_0, ix_2_1, ix_3_0, ix_3_1, ix_3_2, ix_4_0, ix_4_1, ix_4_2, ix_4_3, ix_5_0, ix_5_1, ix_5_2, ix_5_3, ix_5_4, ix_6_0, ix_6_1, ix_6_2, ix_6_3, ix_6_4, ix_6_5, ix_7_0, ix_7_1, ix_7_2, ix_7_3, ix_7_4, ix_7_5, ix_7_6, Option.map_some, Option.bind_some, Option.map_none, Option.bind_none, List.getElem?_cons_zero, List.getElem?_cons_succ, List.set_cons_zero, List.set_cons_succ, List.cons_append, List.nil_append, List.length_cons, List.length_nil, List.replicate, if_true, Bool.false_eq_true, if_false, reduceIte, Nat.reduceAdd, Nat.reduceSub, List.append_nil, List.take_succ_cons, List.take_zero, List.map_nil, Option.getD_some, decide_true, decide_false, List.nodup_nil, y_nod1, Bool.not_true, Bool.not_false, List.map_cons, ct_0, ct_1, ct_2, ct_3, ct_4, ct_5, ct_6, ct_7, ct_8, ct_9, ct_10, ct_11, ct_12, Bool.and_true, Bool.true_and, Bool.and_false, Bool.false_and, x_revL, x_revT, h1, h2]
theorem v15 {C : CT} {R W : D} {p q u v g : Int} {a0 a3 a4 a6 a7 a8 a9 a10 a11 a12 a15 a16 a17 a18 : Sl} (hp : -18446744073709551616 < p ∧ p < 18446744073709551616) (c1 : C 7 [.v R, .v (.int p), .v (.int q)] = some (.v (.int u), [.v R, .v (.int p), .v (.int q)])) (c2 : C 7 [.v W, .v (.int p), .v (.int q)] = some (.v (.int v), [.v W, .v (.int p), .v (.int q)])) (h1 : decide (u = p * q) = true) (h2 : decide (v = p * q + g) = true) :
    evS C (nthS B 15) [a0, .v R, .v W, a3, a4, .v (.int g), a6, a7, a8, a9, a10, a11, a12, .v (.int p), .v (.int q), a15, a16, a17, a18] = some (.nx [a0, .v R, .v W, a3, a4, .v (.int g), a6, a7, a8, a9, a10, a11, a12, .v (.int p), .v (.int q), a15, a16, a17, a18]) := by
  simp -implicitDefEqProofs only [B, f__law_squares_hold, nthS, E.var?, y_con, y_varF, y_varT, y_glo, y_bin, y_neg, y_notT, y_notF, y_andT, y_andF, y_orT, y_orF, y_ite, y_cmp, y_chain, y_tup, y_lst, y_rep, y_idx, y_slice, y_rev, y_call, y_b1, y_b2, y_isI, y_lrng, y_compN, y_compS, y_esN, y_esC, y_rsN, y_rsC, y_asN, y_asV, y_asI, y_oN, y_oS, y_itS, y_it1, y_it2, y_asg, y_par, y_stp, y_unp, y_st, y_app, y_expr, y_iteS, y_for, y_retN, y_pass, y_brk, y_cont, y_raise, y_ssN, y_ssC, y_tasN, y_tasC, y_taN, y_taS, y_aug, y_augV, y_ret, y_retS, y_retE, y_enm, y_enmL, y_enmT, y_zip, y_zipL, y_zipT, y_ext, y_extO, y_seqL, y_seqT, y_nsN, y_nsC, y_tgN, y_tgT, y_tgL, y_tgsN, y_tgsC, y_forN, y_forC, y_cmN, y_cmC, y_wipN, y_wipC, y_wipU, y_wipV, y_bakN, y_bakC, y_chainE, y_chain3, y_chain3E, y_it3, y_nodN, y_ioL, y_ioR, y_argN, y_argL, y_argR, y_argO, y_argI, y_bkN, y_bkL, y_bkR, y_bkO, y_bkI, y_callE, y_outN, y_outR, x_op1, x_op2, x_opdS, x_opdN, x_getS, x_getV, x_slV, x_slO, x_slI, x_rd, x_rdV, x_rdO, x_asg, x_asgU, x_asgV, x_asgO, x_ret, x_retV, x_retO, x_put, x_putO, x_putI, x_add, x_adO, x_adI, x_own, x_ownO, x_ownI, x_base, x_finF, x_finT, x_asB, x_ofB, x_bindB, x_withE, x_dV, x_dO, x_sV, x_sO, x_seqN, x_seqR, x_seqB, x_seqC, x_turnN, x_turnC, x_turnB, x_turnR, x_add', x_sub', x_lt, x_le, x_gt, x_ge, x_eq, x_ne, x_is, x_isn, x_inn, x_nin, shaped_int, shaped_bool, shaped_none, x_eqI, x_eqN, x_eqB, x_eqT2, x_eqT3, x_sz1, x_sz2, x_sz3, x_sz4, x_sz5, x_sz6, truN, truB, truI, x_isNn, x_isNi, x_isNt, x_isNl, x_isIi, x_isIb, x_isBb, x_isBi, x_isTt, x_isLl, x_isTl, x_isLt, x_len, x_lenT, x_abs, x_int, x_intq, x_ixL, x_ixT, at_0, at_1, at_2, at_3, at_4, at_5, z_0, z_1, z_2, z_3, z_4, z_5, z_6, z_7, z_8, z_9, z_10, z_11, z_12, w_0, w_1, w_2, w_3, w_4, w_5, w_6, w_7, w_8, w_9, w_10, w_11, w_12, ix_1_0, ix_2_0, ix_2_1, ix_3_0, ix_3_1, ix_3_2, ix_4_0, ix_4_1, ix_4_2, ix_4_3, ix_5_0, ix_5_1, ix_5_2, ix_5_3, ix_5_4, ix_6_0, ix_6_1, ix_6_2, ix_6_3, ix_6_4, ix_6_5, ix_7_0, ix_7_1, ix_7_2, ix_7_3, ix_7_4, ix_7_5, ix_7_6, Option.map_some, Option.bind_some, Option.map_none, Option.bind_none, List.getElem?_cons_zero, List.getElem?_cons_succ, List.set_cons_zero, List.set_cons_succ, List.cons_append, List.nil_append, List.length_cons, List.length_nil, List.replicate, if_true, Bool.false_eq_true, if_false, reduceIte, Nat.reduceAdd, Nat.reduceSub, List.append_nil, List.take_succ_cons, List.take_zero, List.map_nil, Option.getD_some, decide_true, decide_false, List.nodup_nil, y_nod1, Bool.not_true, Bool.not_false, List.map_cons, ct_0, ct_1, ct_2, ct_3, ct_4, ct_5, ct_6, ct_7, ct_8, ct_9, ct_10, ct_11, ct_12, Bool.and_true, Bool.true_and, Bool.and_false, Bool.false_and, x_revL, x_revT, c1, c2, x_mulD hp, h1, h2]
theorem v16 {C : CT} {a b M : Int} {a0 a1 a2 a3 a4 a5 a8 a9 a10 a11 a12 a13 a14 a15 a16 a17 a18 : Sl} (hm : b1R .max (.list [.int a, .int b]) = some (.v (.int M))) (c1 : C 17 [.v (.int a), .v (.int b)] = some (.v (.tuple [.int (a + b + 1), .int (M + 1)]), [.v (.int a), .v (.int b)])) :
    evS C (nthS B 16) [a0, a1, a2, a3, a4, a5, .v (.int a), .v (.int b), a8, a9, a10, a11, a12, a13, a14, a15, a16, a17, a18] = some (.rt (.v (.bool true)) [a0, a1, a2, a3, a4, a5, .v (.int a), .v (.int b), a8, a9, a10, a11, a12, a13, a14, a15, a16, a17, a18]) := by
  simp -implicitDefEqProofs only [B, f__law_squares_hold, nthS, E.var?, y_con, y_varF, y_varT, y_glo, y_bin, y_neg, y_notT, y_notF, y_andT, y_andF, y_orT, y_orF, y_ite, y_cmp, y_chain, y_tup, y_lst, y_rep, y_idx, y_slice, y_rev, y_call, y_b1, y_b2, y_isI, y_lrng, y_compN, y_compS, y_esN, y_esC, y_rsN, y_rsC, y_asN, y_asV, y_asI, y_oN, y_oS, y_itS, y_it1, y_it2, y_asg, y_par, y_stp, y_unp, y_st, y_app, y_expr, y_iteS, y_for, y_retN, y_pass, y_brk, y_cont, y_raise, y_ssN, y_ssC, y_tasN, y_tasC, y_taN, y_taS, y_aug, y_augV, y_ret, y_retS, y_retE, y_enm, y_enmL, y_enmT, y_zip, y_zipL, y_zipT, y_ext, y_extO, y_seqL, y_seqT, y_nsN, y_nsC, y_tgN, y_tgT, y_tgL, y_tgsN, y_tgsC, y_forN, y_forC, y_cmN, y_cmC, y_wipN, y_wipC, y_wipU, y_wipV, y_bakN, y_bakC, y_chainE, y_chain3, y_chain3E, y_it3, y_nodN, y_ioL, y_ioR, y_argN, y_argL, y_argR, y_argO, y_argI, y_bkN, y_bkL, y_bkR, y_bkO, y_bkI, y_callE, y_outN, y_outR, x_op1, x_op2, x_opdS, x_opdN, x_getS, x_getV, x_slV, x_slO, x_slI, x_rd, x_rdV, x_rdO, x_asg, x_asgU, x_asgV, x_asgO, x_ret, x_retV, x_retO, x_put, x_putO, x_putI, x_add, x_adO, x_adI, x_own, x_ownO, x_ownI, x_base, x_finF, x_finT, x_asB, x_ofB, x_bindB, x_withE, x_dV, x_dO, x_sV, x_sO, x_seqN, x_seqR, x_seqB, x_seqC, x_turnN, x_turnC, x_turnB, x_turnR, x_add', x_sub', x_lt, x_le, x_gt, x_ge, x_eq, x_ne, x_is, x_isn, x_inn, x_nin, shaped_int, shaped_bool, shaped_none, x_eqI, x_eqN, x_eqB, x_eqT2, x_eqT3, x_sz1, x_sz2, x_sz3, x_sz4, x_sz5, x_sz6, truN, truB, truI, x_isNn, x_isNi, x_isNt, x_isNl, x_isIi, x_isIb, x_isBb, x_isBi, x_isTt, x_isLl, x_isTl, x_isLt, x_len, x_lenT, x_abs, x_int, x_intq, x_ixL, x_ixT, at_0, at_1, at_2, at_3, at_4, at_5, z_0, z_1, z_2, z_3, z_4, z_5, z_6, z_7, z_8, z_9, z_10, z_11, z_12, w_0, w_1, w_2, w_3, w_4, w_5, w_6, w_7, w_8, w_9, w_10, w_11, w_12, ix_1_0, ix_2_0, ix_2_1, ix_3_0, ix_3_1, ix_3_2, ix_4_0, ix_4_1, ix_4_2, ix_4_3, ix_5_0, ix_5_1, ix_5_2, ix_5_3, ix_5_4, ix_6_0, ix_6_1, ix_6_2, ix_6_3, ix_6_4, ix_6_5, ix_7_0, ix_7_1, ix_7_2, ix_7_3, ix_7_4, ix_7_5, ix_7_6, Option.map_some, Option.bind_some, Option.map_none, Option.bind_none, List.getElem?_cons_zero, List.getElem?_cons_succ, List.set_cons_zero, List.set_cons_succ, List.cons_append, List.nil_append, List.length_cons, List.length_nil, List.replicate, if_true, Bool.false_eq_true, if_false, reduceIte, Nat.reduceAdd, Nat.reduceSub, List.append_nil, List.take_succ_cons, List.take_zero, List.map_nil, Option.getD_some, decide_true, decide_false, List.nodup_nil, y_nod1, Bool.not_true, Bool.not_false, List.map_cons, ct_0, ct_1, ct_2, ct_3, ct_4, ct_5, ct_6, ct_7, ct_8, ct_9, ct_10, ct_11, ct_12, Bool.and_true, Bool.true_and, Bool.and_false, Bool.false_and, x_revL, x_revT, hm, c1, dT]
theorem o18 {x : D} {a0 a1 a2 a3 a4 a5 a6 a7 a8 a9 a10 a11 a12 a13 a14 a15 a16 a17 : Sl} : bindT (.nm 18) x [a0, a1, a2, a3, a4, a5, a6, a7, a8, a9, a10, a11, a12, a13, a14, a15, a16, a17, .un] = some [a0, a1, a2, a3, a4, a5, a6, a7, a8, a9, a10, a11, a12, a13, a14, a15, a16, a17, .v x] ∧ wipeE [a0, a1, a2, a3, a4, a5, a6, a7, a8, a9, a10, a11, a12, a13, a14, a15, a16, a17, .v x] [18] = some [a0, a1, a2, a3, a4, a5, a6, a7, a8, a9, a10, a11, a12, a13, a14, a15, a16, a17, .un] := by
  refine ⟨?_, ?_⟩ <;> simp -implicitDefEqProofs only [E.var?, y_con, y_varF, y_varT, y_glo, y_bin, y_neg, y_notT, y_notF, y_andT, y_andF, y_orT, y_orF, y_ite, y_cmp, y_chain, y_tup, y_lst, y_rep, y_idx, y_slice, y_rev, y_call, y_b1, y_b2, y_isI, y_lrng, y_compN, y_compS, y_esN, y_esC, y_rsN, y_rsC, y_asN, y_asV, y_asI, y_oN, y_oS, y_itS, y_it1, y_it2, y_asg, y_par, y_stp, y_unp, y_st, y_app, y_expr, y_iteS, y_for, y_retN, y_pass, y_brk, y_cont, y_raise, y_ssN, y_ssC, y_tasN, y_tasC, y_taN, y_taS, y_aug, y_augV, y_ret, y_retS, y_retE, y_enm, y_enmL, y_enmT, y_zip, y_zipL, y_zipT, y_ext, y_extO, y_seqL, y_seqT, y_nsN, y_nsC, y_tgN, y_tgT, y_tgL, y_tgsN, y_tgsC, y_forN, y_forC, y_cmN, y_cmC, y_wipN, y_wipC, y_wipU, y_wipV, y_bakN, y_bakC, y_chainE, y_chain3, y_chain3E, y_it3, y_nodN, y_ioL, y_ioR, y_argN, y_argL, y_argR, y_argO, y_argI, y_bkN, y_bkL, y_bkR, y_bkO, y_bkI, y_callE, y_outN, y_outR, x_op1, x_op2, x_opdS, x_opdN, x_getS, x_getV, x_slV, x_slO, x_slI, x_rd, x_rdV, x_rdO, x_asg, x_asgU, x_asgV, x_asgO, x_ret, x_retV, x_retO, x_put, x_putO, x_putI, x_add, x_adO, x_adI, x_own, x_ownO, x_ownI, x_base, x_finF, x_finT, x_asB, x_ofB, x_bindB, x_withE, x_dV, x_dO, x_sV, x_sO, x_seqN, x_seqR, x_seqB, x_seqC, x_turnN, x_turnC, x_turnB, x_turnR, x_add', x_sub', x_lt, x_le, x_gt, x_ge, x_eq, x_ne, x_is, x_isn, x_inn, x_nin, shaped_int, shaped_bool, shaped_none, x_eqI, x_eqN, x_eqB, x_eqT2, x_eqT3, x_sz1, x_sz2, x_sz3, x_sz4, x_sz5, x_sz6, truN, truB, truI, x_isNn, x_isNi, x_isNt, x_isNl, x_isIi, x_isIb, x_isBb, x_isBi, x_isTt, x_isLl, x_isTl, x_isLt, x_len, x_lenT, x_abs, x_int, x_intq, x_ixL, x_ixT, at_0, at_1, at_2, at_3, at_4, at_5, z_0, z_1, z_2, z_3, z_4, z_5, z_6, z_7, z_8, z_9, z_10, z_11, z_12, w_0, w_1, w_2, w_3, w_4, w_5, w_6, w_7, w_8, w_9, w_10, w_11, w_12, ix_1_0, ix_2_0, ix_2_1, ix_3_0, ix_3_1, ix_3_2, ix_4_0, ix_4_1, ix_4_2, ix_4_3, ix_5_0, ix_5_1, ix_5_2, ix_5_3, ix_5_4, ix_6_0, ix_6_1, ix_6_2, ix_6_3, ix_6_4, ix_6_5, ix_7_0, ix_7_1, ix_7_2, ix_7_3, ix_7_4, ix_7_5, ix_7_6, Option.map_some, Option.bind_some, Option.map_none, Option.bind_none, List.getElem?_cons_zero, List.getElem?_cons_succ, List.set_cons_zero, List.set_cons_succ, List.cons_append, List.nil_append, List.length_cons, List.length_nil, List.replicate, if_true, Bool.false_eq_true, if_false, reduceIte, Nat.reduceAdd, Nat.reduceSub, List.append_nil, List.take_succ_cons, List.take_zero, List.map_nil, Option.getD_some, decide_true, decide_false, List.nodup_nil, y_nod1, Bool.not_true, Bool.not_false, List.map_cons, ct_0, ct_1, ct_2, ct_3, ct_4, ct_5, ct_6, ct_7, ct_8, ct_9, ct_10, ct_11, ct_12, Bool.and_true, Bool.true_and, Bool.and_false, Bool.false_and, x_revL, x_revT]
theorem e1s {C : CT} {i : Int} {a0 a1 a2 a3 a4 a5 a6 a7 a8 a9 a10 a11 a12 a13 a14 a15 a16 a17 : Sl} : evX C f__law_squares_hold_e1 false [a0, a1, a2, a3, a4, a5, a6, a7, a8, a9, a10, a11, a12, a13, a14, a15, a16, a17, .v (.int i)] = some (.v (.int ((i + 1) / 2)), [a0, a1, a2, a3, a4, a5, a6, a7, a8, a9, a10, a11, a12, a13, a14, a15, a16, a17, .v (.int i)]) := by
  simp -implicitDefEqProofs only [f__law_squares_hold_e1, E.var?, y_con, y_varF, y_varT, y_glo, y_bin, y_neg, y_notT, y_notF, y_andT, y_andF, y_orT, y_orF, y_ite, y_cmp, y_chain, y_tup, y_lst, y_rep, y_idx, y_slice, y_rev, y_call, y_b1, y_b2, y_isI, y_lrng, y_compN, y_compS, y_esN, y_esC, y_rsN, y_rsC, y_asN, y_asV, y_asI, y_oN, y_oS, y_itS, y_it1, y_it2, y_asg, y_par, y_stp, y_unp, y_st, y_app, y_expr, y_iteS, y_for, y_retN, y_pass, y_brk, y_cont, y_raise, y_ssN, y_ssC, y_tasN, y_tasC, y_taN, y_taS, y_aug, y_augV, y_ret, y_retS, y_retE, y_enm, y_enmL, y_enmT, y_zip, y_zipL, y_zipT, y_ext, y_extO, y_seqL, y_seqT, y_nsN, y_nsC, y_tgN, y_tgT, y_tgL, y_tgsN, y_tgsC, y_forN, y_forC, y_cmN, y_cmC, y_wipN, y_wipC, y_wipU, y_wipV, y_bakN, y_bakC, y_chainE, y_chain3, y_chain3E, y_it3, y_nodN, y_ioL, y_ioR, y_argN, y_argL, y_argR, y_argO, y_argI, y_bkN, y_bkL, y_bkR, y_bkO, y_bkI, y_callE, y_outN, y_outR, x_op1, x_op2, x_opdS, x_opdN, x_getS, x_getV, x_slV, x_slO, x_slI, x_rd, x_rdV, x_rdO, x_asg, x_asgU, x_asgV, x_asgO, x_ret, x_retV, x_retO, x_put, x_putO, x_putI, x_add, x_adO, x_adI, x_own, x_ownO, x_ownI, x_base, x_finF, x_finT, x_asB, x_ofB, x_bindB, x_withE, x_dV, x_dO, x_sV, x_sO, x_seqN, x_seqR, x_seqB, x_seqC, x_turnN, x_turnC, x_turnB, x_turnR, x_add', x_sub', x_lt, x_le, x_gt, x_ge, x_eq, x_ne, x_is, x_isn, x_inn, x_nin, shaped_int, shaped_bool, shaped_none, x_eqI, x_eqN, x_eqB, x_eqT2, x_eqT3, x_sz1, x_sz2, x_sz3, x_sz4, x_sz5, x_sz6, truN, truB, truI, x_isNn, x_isNi, x_isNt, x_isNl, x_isIi, x_isIb, x_isBb, x_isBi, x_isTt, x_isLl, x_isTl, x_isLt, x_len, x_lenT, x_abs, x_int, x_intq, x_ixL, x_ixT, at_0, at_1, at_2, at_3, at_4, at_5, z_0, z_1, z_2, z_3, z_4, z_5, z_6, z_7, z_8, z_9, z_10, z_11, z_12, w_0, w_1, w_2, w_3, w_4, w_5, w_6, w_7, w_8, w_9, w_10, w_11, w_12, ix_1_0, ix_2_0, ix_2_1, ix_3_0, ix_3_1, ix_3_2, ix_4_0, ix_4_1, ix_4_2, ix_4_3, ix_5_0, ix_5_1, ix_5_2, ix_5_3, ix_5_4, ix_6_0, ix_6_1, ix_6_2, ix_6_3, ix_6_4, ix_6_5, ix_7_0, ix_7_1, ix_7_2, ix_7_3, ix_7_4, ix_7_5, ix_7_6, Option.map_some, Option.bind_some, Option.map_none, Option.bind_none, List.getElem?_cons_zero, List.getElem?_cons_succ, List.set_cons_zero, List.set_cons_succ, List.cons_append, List.nil_append, List.length_cons, List.length_nil, List.replicate, if_true, Bool.false_eq_true, if_false, reduceIte, Nat.reduceAdd, Nat.reduceSub, List.append_nil, List.take_succ_cons, List.take_zero, List.map_nil, Option.getD_some, decide_true, decide_false, List.nodup_nil, y_nod1, Bool.not_true, Bool.not_false, List.map_cons, ct_0, ct_1, ct_2, ct_3, ct_4, ct_5, ct_6, ct_7, ct_8, ct_9, ct_10, ct_11, ct_12, Bool.and_true, Bool.true_and, Bool.and_false, Bool.false_and, x_revL, x_revT, x_fdivD two2]
theorem e2s {C : CT} {i : Int} (hi : -18446744073709551616 < i ∧ i < 18446744073709551616) {a0 a1 a2 a3 a4 a5 a6 a7 a8 a9 a10 a11 a12 a13 a14 a15 a16 a17 : Sl} : evX C f__law_squares_hold_e2 false [a0, a1, a2, a3, a4, a5, a6, a7, a8, a9, a10, a11, a12, a13, a14, a15, a16, a17, .v (.int i)] = some (.v (.int (i * i / 4)), [a0, a1, a2, a3, a4, a5, a6, a7, a8, a9, a10, a11, a12, a13, a14, a15, a16, a17, .v (.int i)]) := by
  simp -implicitDefEqProofs only [f__law_squares_hold_e2, E.var?, y_con, y_varF, y_varT, y_glo, y_bin, y_neg, y_notT, y_notF, y_andT, y_andF, y_orT, y_orF, y_ite, y_cmp, y_chain, y_tup, y_lst, y_rep, y_idx, y_slice, y_rev, y_call, y_b1, y_b2, y_isI, y_lrng, y_compN, y_compS, y_esN, y_esC, y_rsN, y_rsC, y_asN, y_asV, y_asI, y_oN, y_oS, y_itS, y_it1, y_it2, y_asg, y_par, y_stp, y_unp, y_st, y_app, y_expr, y_iteS, y_for, y_retN, y_pass, y_brk, y_cont, y_raise, y_ssN, y_ssC, y_tasN, y_tasC, y_taN, y_taS, y_aug, y_augV, y_ret, y_retS, y_retE, y_enm, y_enmL, y_enmT, y_zip, y_zipL, y_zipT, y_ext, y_extO, y_seqL, y_seqT, y_nsN, y_nsC, y_tgN, y_tgT, y_tgL, y_tgsN, y_tgsC, y_forN, y_forC, y_cmN, y_cmC, y_wipN, y_wipC, y_wipU, y_wipV, y_bakN, y_bakC, y_chainE, y_chain3, y_chain3E, y_it3, y_nodN, y_ioL, y_ioR, y_argN, y_argL, y_argR, y_argO, y_argI, y_bkN, y_bkL, y_bkR, y_bkO, y_bkI, y_callE, y_outN, y_outR, x_op1, x_op2, x_opdS, x_opdN, x_getS, x_getV, x_slV, x_slO, x_slI, x_rd, x_rdV, x_rdO, x_asg, x_asgU, x_asgV, x_asgO, x_ret, x_retV, x_retO, x_put, x_putO, x_putI, x_add, x_adO, x_adI, x_own, x_ownO, x_ownI, x_base, x_finF, x_finT, x_asB, x_ofB, x_bindB, x_withE, x_dV, x_dO, x_sV, x_sO, x_seqN, x_seqR, x_seqB, x_seqC, x_turnN, x_turnC, x_turnB, x_turnR, x_add', x_sub', x_lt, x_le, x_gt, x_ge, x_eq, x_ne, x_is, x_isn, x_inn, x_nin, shaped_int, shaped_bool, shaped_none, x_eqI, x_eqN, x_eqB, x_eqT2, x_eqT3, x_sz1, x_sz2, x_sz3, x_sz4, x_sz5, x_sz6, truN, truB, truI, x_isNn, x_isNi, x_isNt, x_isNl, x_isIi, x_isIb, x_isBb, x_isBi, x_isTt, x_isLl, x_isTl, x_isLt, x_len, x_lenT, x_abs, x_int, x_intq, x_ixL, x_ixT, at_0, at_1, at_2, at_3, at_4, at_5, z_0, z_1, z_2, z_3, z_4, z_5, z_6, z_7, z_8, z_9, z_10, z_11, z_12, w_0, w_1, w_2, w_3, w_4, w_5, w_6, w_7, w_8, w_9, w_10, w_11, w_12, ix_1_0, ix_2_0, ix_2_1, ix_3_0, ix_3_1, ix_3_2, ix_4_0, ix_4_1, ix_4_2, ix_4_3, ix_5_0, ix_5_1, ix_5_2, ix_5_3, ix_5_4, ix_6_0, ix_6_1, ix_6_2, ix_6_3, ix_6_4, ix_6_5, ix_7_0, ix_7_1, ix_7_2, ix_7_3, ix_7_4, ix_7_5, ix_7_6, Option.map_some, Option.bind_some, Option.map_none, Option.bind_none, List.getElem?_cons_zero, List.getElem?_cons_succ, List.set_cons_zero, List.set_cons_succ, List.cons_append, List.nil_append, List.length_cons, List.length_nil, List.replicate, if_true, Bool.false_eq_true, if_false, reduceIte, Nat.reduceAdd, Nat.reduceSub, List.append_nil, List.take_succ_cons, List.take_zero, List.map_nil, Option.getD_some, decide_true, decide_false, List.nodup_nil, y_nod1, Bool.not_true, Bool.not_false, List.map_cons, ct_0, ct_1, ct_2, ct_3, ct_4, ct_5, ct_6, ct_7, ct_8, ct_9, ct_10, ct_11, ct_12, Bool.and_true, Bool.true_and, Bool.and_false, Bool.false_and, x_revL, x_revT, x_mulD hi, x_fdivD four2]
theorem d1 {C : CT} {m : Nat} (hm : m ≤ 1000) {a0 a1 a2 a3 a4 a5 a6 a7 a8 a9 a10 a11 a12 a13 a14 a15 a16 a17 : Sl} : compE (bindT (.nm 18)) [18] (fun e => some (true, e)) (evX C f__law_squares_hold_e1 false) (some (ranges 0 1 m, [a0, a1, a2, a3, a4, a5, a6, a7, a8, a9, a10, a11, a12, a13, a14, a15, a16, a17, .un])) = some (.o (il (fl m fun i => qf (i + 1) - qf i)), [a0, a1, a2, a3, a4, a5, a6, a7, a8, a9, a10, a11, a12, a13, a14, a15, a16, a17, .un]) := by
  have z := small
  have e : ((List.range m).map fun i => PyData.int (qf (i + 1) - qf i)) = il (fl m fun i => qf (i + 1) - qf i) := by rw [il, fl, List.map_map]; rfl
  rw [ranges_map, ← e]
  exact compE_all (tg := bindT (.nm 18)) (own := [18]) (d := fun i : Nat => PyData.int (0 + (i : Nat))) (f := fun i => .int (qf (i + 1) - qf i)) (env := [a0, a1, a2, a3, a4, a5, a6, a7, a8, a9, a10, a11, a12, a13, a14, a15, a16, a17, .un]) (e0 := [a0, a1, a2, a3, a4, a5, a6, a7, a8, a9, a10, a11, a12, a13, a14, a15, a16, a17, .un]) (List.range m) rfl (fun i hi => ⟨_, _, _, o18.1, e1s, by show PyData.int ((0 + (i : Nat) + 1) / 2) = _; rw [qf_s, Int.zero_add]; congr 1; omega, o18.2⟩) (by rw [List.length_range]; omega)
theorem d2 {C : CT} {m : Nat} (hm : m ≤ 1000) {a0 a1 a2 a3 a4 a5 a6 a7 a8 a9 a10 a11 a12 a13 a14 a15 a16 a17 : Sl} : compE (bindT (.nm 18)) [18] (fun e => some (true, e)) (evX C f__law_squares_hold_e2 false) (some (ranges 0 1 m, [a0, a1, a2, a3, a4, a5, a6, a7, a8, a9, a10, a11, a12, a13, a14, a15, a16, a17, .un])) = some (.o (il (fl m qf)), [a0, a1, a2, a3, a4, a5, a6, a7, a8, a9, a10, a11, a12, a13, a14, a15, a16, a17, .un]) := by
  have z := small
  have e : ((List.range m).map fun i => PyData.int (qf i)) = il (fl m qf) := by rw [il, fl, List.map_map]; rfl
  rw [ranges_map, ← e]
  exact compE_all (tg := bindT (.nm 18)) (own := [18]) (d := fun i : Nat => PyData.int (0 + (i : Nat))) (f := fun i => .int (qf i)) (env := [a0, a1, a2, a3, a4, a5, a6, a7, a8, a9, a10, a11, a12, a13, a14, a15, a16, a17, .un]) (e0 := [a0, a1, a2, a3, a4, a5, a6, a7, a8, a9, a10, a11, a12, a13, a14, a15, a16, a17, .un]) (List.range m) rfl (fun i hi => by
    rw [Int.zero_add]
    have hi := List.mem_range.mp hi
    exact ⟨_, _, _, o18.1, e2s (by omega), rfl, o18.2⟩) (by rw [List.length_range]; omega)
theorem okO : PyData.strOk (PySem.Str.ofString "one") = true := by decide +kernel
theorem okR : PyData.strOk (PySem.Str.ofString "right") = true := by decide +kernel
theorem okW : PyData.strOk (PySem.Str.ofString "wrong") = true := by decide +kernel
theorem eq_sh {d : D} (h : SeqAt.shaped d = true) : eqD d d = some true := by
  unfold eqD
  rw [if_pos ⟨h, h⟩, SeqAt.eqv_refl]
  simp only [SeqAt.shaped, Bool.and_eq_true] at h
  exact h.1
theorem il_lay : ∀ l : List Int, PyData.canLayAll0 (il l) = true ∧ PyData.depthAll (il l) = 0
  | [] => ⟨rfl, rfl⟩
  | x :: l => by
    obtain ⟨a, b⟩ := il_lay l
    unfold il at *
    exact ⟨by simp [PyData.canLayAll0, PyData.canLay0, a], by simp [PyData.depthAll, PyData.depth, b]⟩
theorem eq_o {x : Int} : eqD (.tuple [sO, .int x]) (.tuple [sO, .int x]) = some true := eq_sh (by simp [SeqAt.shaped, PyData.canLay0, PyData.canLayAll0, PyData.depth, PyData.depthAll, okO])
theorem eq_w {x : Int} : eqD (.tuple [sW, .int x]) (.tuple [sW, .int x]) = some true := eq_sh (by simp [SeqAt.shaped, PyData.canLay0, PyData.canLayAll0, PyData.depth, PyData.depthAll, okW])
theorem eq_r : eqD (.tuple [sR]) (.tuple [sR]) = some true := eq_sh (by simp [SeqAt.shaped, PyData.canLay0, PyData.canLayAll0, PyData.depth, PyData.depthAll, okR])
theorem eq_m {l : List Int} : eqD (.tuple [.tuple (il l), .int 1]) (.tuple [.tuple (il l), .int 1]) = some true := by
  obtain ⟨a, b⟩ := il_lay l
  exact eq_sh (by simp [SeqAt.shaped, PyData.canLay0, PyData.canLayAll0, PyData.depth, PyData.depthAll, a, b])
theorem eq_pTT {l : List (Nat × Nat)} : eqD (.tuple (pls l)) (.tuple (pls l)) = some true := by rw [eq_pT, decide_eq_true rfl]
theorem eq_0 : eqD (.tuple []) (.tuple []) = some true := eq_ii (l := [])
theorem t_add (a b : Int) : (a + b) * (a + b + 1) / 2 = a * (a + 1) / 2 + b * (b + 1) / 2 + a * b := by
  have h1 := t_two (a + b)
  have h2 := t_two a
  have h3 := t_two b
  have e : (a + b) * (a + b + 1) = a * (a + 1) + b * (b + 1) + 2 * (a * b) := by grind
  omega
theorem t_sq (a : Int) : a * (a + 1) / 2 + (a + 1) * (a + 1 + 1) / 2 = (a + 1) * (a + 1) := by
  have h1 := t_two (a + 1)
  have h2 := t_two a
  have e : a * (a + 1) + (a + 1) * (a + 1 + 1) = 2 * ((a + 1) * (a + 1)) := by grind
  omega
theorem t_prod (a b : Int) : a * (a + 1) / 2 + (b - 1) * (b - 1 + 1) / 2 - (a - b) * (a - b + 1) / 2 = a * b := by
  have h1 := t_two (b - 1)
  have h2 := t_two a
  have h3 := t_two (a - b)
  have e : a * (a + 1) + (b - 1) * (b - 1 + 1) - (a - b) * (a - b + 1) = 2 * (a * b) := by grind
  omega
theorem c_dr {n : Nat} : DrOK (callT T (n + 1)) 20 := dr_ok rfl
theorem qf_abs (p q : Nat) : qf (p + q) - qf ((p : Int) - (q : Int)).natAbs = (p : Int) * (q : Int) := by
  have := q_prod (p : Int) (q : Int)
  unfold qf
  rw [Int.natAbs_mul_self', Int.natCast_add]
  exact this
theorem tab_q {m : Nat} (h1 : 1 ≤ m) (h2 : m ≤ 1001) : Tab m qf := ⟨h1, h2, fun i _ => qf_nn i⟩
theorem tab_w {m x : Nat} {more : Int} (h0 : 0 ≤ more) (h1 : 1 ≤ m) (h2 : m ≤ 1001) : Tab m (wf x more) := ⟨h1, h2, fun i _ => by
  have := qf_nn i
  unfold wf
  split <;> omega⟩
theorem step4 {a b : Nat} (ha : a < 300) (hb : b < 300) : ∃ s t u : Sl, ∀ {a0 a1 a2 a3 a4 a5 a8 a9 a10 a11 a12 a13 a14 a18 : Sl}, evS (callT T 12) (nthS B 4) [a0, a1, a2, a3, a4, a5, .v (.int (a : Nat)), .v (.int (b : Nat)), a8, a9, a10, a11, a12, a13, a14, .un, .un, .un, a18] = some (.nx [a0, a1, a2, a3, a4, a5, .v (.int (a : Nat)), .v (.int (b : Nat)), a8, a9, a10, a11, a12, a13, a14, s, t, u, a18]) := by
  by_cases h : b = 0
  · exact ⟨_, _, _, v4a (by subst h; rfl)⟩
  · have hb' : (((b : Nat) : Int) != 0) = true := by simp; omega
    by_cases h1 : b ≤ a
    · exact ⟨_, _, _, v4c (by omega) hb' (by omega) (bt (n := 9) (by omega) (by omega) (by omega) (by omega) (by omega)) (tri (n := 9) (by omega) (by omega)) (tri (n := 9) (by omega) (by omega)) (tri (n := 9) (by omega) (by omega)) (decide_eq_true (t_prod _ _))⟩
    · exact ⟨_, _, _, v4b hb' (by omega)⟩
theorem hold {s : LS} {k : Nat} (ok : s.ok k) (hk : k + 10 < 2 ^ 250) : ∃ s' : LS, callT T 13 22 [.io s.d] = some (.v (.bool true), [.io s'.d]) ∧ s'.ok (k + 10) := by
  obtain ⟨s1, a, d1', ok1, a0, a1⟩ := c_dr (n := 11) s k 300 ok (by omega) (by decide) (by decide)
  obtain ⟨s2, b, d2', ok2, b0, b1⟩ := c_dr (n := 11) s1 _ 300 ok1 (by omega) (by decide) (by decide)
  obtain ⟨s3, r, d3, ok3, r0, r1⟩ := c_dr (n := 11) s2 _ 30 ok2 (by omega) (by decide) (by decide)
  obtain ⟨a, rfl⟩ := Int.eq_ofNat_of_zero_le a0
  obtain ⟨b, rfl⟩ := Int.eq_ofNat_of_zero_le b0
  obtain ⟨m, hm⟩ : ∃ m : Nat, 8 + r = (m : Nat) := ⟨(8 + r).toNat, by omega⟩
  obtain ⟨s4, x, d4, ok4, x0, x1⟩ := c_dr (n := 11) s3 _ ((m : Nat) + 1) ok3 (by omega) (by omega) (by omega)
  obtain ⟨s5, r2, d5, ok5, r20, r21⟩ := c_dr (n := 11) s4 _ 3 ok4 (by omega) (by decide) (by decide)
  obtain ⟨x, rfl⟩ := Int.eq_ofNat_of_zero_le x0
  obtain ⟨h, hh⟩ : ∃ h : Nat, ((m : Nat) : Int) / 2 = (h : Nat) := ⟨m / 2, by omega⟩
  obtain ⟨s6, p, d6, ok6, p0, p1⟩ := c_dr (n := 11) s5 _ ((h : Nat) + 1) ok5 (by omega) (by omega) (by omega)
  obtain ⟨s7, q, d7, ok7, q0, q1⟩ := c_dr (n := 11) s6 _ ((h : Nat) + 1) ok6 (by omega) (by omega) (by omega)
  obtain ⟨p, rfl⟩ := Int.eq_ofNat_of_zero_le p0
  obtain ⟨q, rfl⟩ := Int.eq_ofNat_of_zero_le q0
  refine ⟨s7, ?_, ok7.mono (by omega)⟩
  rw [y_tc (f := f__law_squares_hold) rfl]
  have z := small
  have tq : Tab (m + 1) qf := tab_q (by omega) (by omega)
  obtain ⟨more, hmore⟩ : ∃ more : Int, 1 + r2 = more := ⟨_, rfl⟩
  have m0 : more ≠ 0 := by omega
  have tw : Tab (m + 1) (wf x more) := tab_w (by omega) (by omega) (by omega)
  have w0 := v0 (C := callT T 12) d1' d2' d3
  rw [hm] at w0
  have hq1 : ((a : Int) + (b : Int)) * ((a : Int) + (b : Int)) / 4 - (if (a : Int) - (b : Int) < 0 then -((a : Int) - (b : Int)) else (a : Int) - (b : Int)) * (if (a : Int) - (b : Int) < 0 then -((a : Int) - (b : Int)) else (a : Int) - (b : Int)) / 4 = (a : Int) * (b : Int) := by rw [q_abs, q_prod]
  have hg : 0 ≤ (if (a : Int) - (b : Int) < 0 then -((a : Int) - (b : Int)) else (a : Int) - (b : Int)) ∧ (if (a : Int) - (b : Int) < 0 then -((a : Int) - (b : Int)) else (a : Int) - (b : Int)) ≤ 1000000000000 := by split <;> omega
  obtain ⟨g, hge⟩ : ∃ g, (if (a : Int) - (b : Int) < 0 then -((a : Int) - (b : Int)) else (a : Int) - (b : Int)) = g := ⟨_, rfl⟩
  have c6 := ent (n := 9) (a := (a : Nat)) (b := (b : Nat)) (by omega) (by omega) (by omega) (by omega)
  rw [hge] at hq1 hg c6
  obtain ⟨t15, t16, t17, h4⟩ : ∃ s t u : Sl, ∀ {a0 a1 a2 a3 a4 a5 a8 a9 a10 a11 a12 a13 a14 a18 : Sl}, evS (callT T 12) (nthS B 4) [a0, a1, a2, a3, a4, a5, .v (.int (a : Nat)), .v (.int (b : Nat)), a8, a9, a10, a11, a12, a13, a14, .un, .un, .un, a18] = some (.nx [a0, a1, a2, a3, a4, a5, .v (.int (a : Nat)), .v (.int (b : Nat)), a8, a9, a10, a11, a12, a13, a14, s, t, u, a18]) := step4 (by omega) (by omega)
  have c3 := table (n := 10) (m := m) (by omega)
  have hr1 : rng2 0 (((m : Nat) : Int) + 1) = some (ranges 0 1 (m + 1)) := rngS (by omega)
  have hr2 : rng2 0 ((m : Nat) : Int) = some (ranges 0 1 m) := x_rng (by omega)
  have c10 := steps (n := 8) tq
  rw [show m + 1 - 1 = m by omega] at c10
  have hU : cutL (il (fl (m + 1) qf)) none (some (x : Int)) = il ((fl (m + 1) qf).take x) := by
    rw [cut_take (by rw [il, List.length_map, fl_len]; omega), il, il, List.map_take]
  have hV : cutL (il (fl (m + 1) qf)) (some ((x : Int) + 1)) none = il ((fl (m + 1) qf).drop (x + 1)) := by
    rw [show ((x : Nat) : Int) + 1 = ((x + 1 : Nat) : Nat) by omega, cut_drop (by rw [il, List.length_map, fl_len]; omega), il, il, List.map_drop]
  have hx : atI (il (fl (m + 1) qf)) (x : Int) = some (.int (qf x)) := at_f (i := x) rfl (by omega)
  have lU : (il ((fl (m + 1) qf).take x)).length ≤ 100 := by rw [il, List.length_map, List.length_take]; omega
  have lV : (il ((fl (m + 1) qf).drop (x + 1))).length ≤ 100 := by rw [il, List.length_map, List.length_drop, fl_len]; omega
  have hW : il ((fl (m + 1) qf).take x) ++ [.int (qf x + more)] ++ il ((fl (m + 1) qf).drop (x + 1)) = il (fl (m + 1) (wf x more)) := by
    rw [← wf_list (by omega)]
    simp only [il, List.map_append, List.map_cons, List.map_nil]
  have k1 : binR .add (.tuple (il ((fl (m + 1) qf).take x))) (.tuple [.int (qf x + more)]) = some (.v (.tuple (il ((fl (m + 1) qf).take x) ++ [.int (qf x + more)]))) := x_catT (by show _ + 1 ≤ _; omega)
  have k2 : binR .add (.tuple (il ((fl (m + 1) qf).take x) ++ [.int (qf x + more)])) (.tuple (il ((fl (m + 1) qf).drop (x + 1)))) = some (.v (.tuple (il (fl (m + 1) (wf x more))))) := by
    rw [← hW]
    exact x_catT (by rw [List.length_append]; show _ + 1 + _ ≤ _; omega)
  have ht : truD (.list (pls (pl (h + 1) x))) = some (!decide (pl (h + 1) x = [])) := by
    rw [truL]
    cases pl (h + 1) x with
    | nil => rfl
    | cons _ _ => simp [pls]
  have c13 := one_fault (n := 7) (N := m + 1) (x := x) (m := h) tw (by omega) (by omega) (by omega) m0
  have c13' : callT T 12 13 [.v (.tuple (il (fl (m + 1) (wf x more)))), .v (.int (h : Nat))] = some (.v (if (!decide (pl (h + 1) x = [])) = true then .tuple [sO, .int (x : Nat)] else .tuple [sR]), [.v (.tuple (il (fl (m + 1) (wf x more)))), .v (.int (h : Nat))]) := by
    rw [c13]
    by_cases y : pl (h + 1) x = [] <;> simp [y]
  have e7 : decide (qf (p + q) - qf ((p : Int) - (q : Int)).natAbs = (p : Int) * (q : Int)) = true := decide_eq_true (qf_abs p q)
  have cd : ∀ c : Prop, ∀ [Decidable c], (if c then more else 0) = if decide c = true then more else 0 := fun c _ => by by_cases y : c <;> simp [y]
  have e8 : decide (wf x more (p + q) - wf x more ((p : Int) - (q : Int)).natAbs = (p : Int) * (q : Int) + ((if decide ((p : Int) + (q : Int) = (x : Int)) = true then more else 0) - if decide ((if (p : Int) - (q : Int) < 0 then -((p : Int) - (q : Int)) else (p : Int) - (q : Int)) = (x : Int)) = true then more else 0)) = true := by
    refine decide_eq_true ?_
    have e := qf_abs p q
    have w : ∀ i, wf x more i = qf i + if i = x then more else 0 := fun i => by unfold wf; split <;> omega
    have y1 : decide ((p : Int) + (q : Int) = (x : Int)) = decide (p + q = x) := decide_eq_decide.mpr (by omega)
    have y2 : decide ((if (p : Int) - (q : Int) < 0 then -((p : Int) - (q : Int)) else (p : Int) - (q : Int)) = (x : Int)) = decide (((p : Int) - (q : Int)).natAbs = x) := decide_eq_decide.mpr (by split <;> omega)
    rw [w, w, y1, y2, ← cd, ← cd]
    omega
  have hb : evSs (callT T 12) f__law_squares_hold.body [.io s.d, .un, .un, .un, .un, .un, .un, .un, .un, .un, .un, .un, .un, .un, .un, .un, .un, .un, .un] = _ := (ss_c w0 (ss_c (v1 c6) (ss_c (v2 (by omega) (by omega) rfl hge (quarter (n := 9) (by omega) (by omega)) (quarter (n := 9) hg.1 hg.2) (tri (n := 9) (by omega) (by omega)) (tri (n := 9) (by omega) (by omega)) (decide_eq_true hq1) (decide_eq_true (t_sq _)))
    (ss_c (v3 (by omega) (quarter (n := 9) (by omega) (by omega)) (quarter (n := 9) (by omega) (by omega)) (tri (n := 9) (by omega) (by omega)) (tri (n := 9) (by omega) (by omega)) (tri (n := 9) (by omega) (by omega)) (quarter (n := 9) (by omega) (by omega)) (decide_eq_true (q_two _)) (decide_eq_true (t_add _ _)) (decide_eq_true (q_dbl _)))
    (ss_c h4 (ss_c (v5 c3) (ss_c (v6 hr1 (d2 (by omega)) eq_ii (judge_r (n := 8) tq) eq_r (bends (n := 8) tq) eq_0 c10 hr2 (d1 (by omega)) eq_ii) (ss_c (v7 hmore d4 d5) (ss_c (v8 hU hV hx k1 k2)
    (ss_c (v9 hh) (ss_c (v10 (mended (n := 7) tw (by omega) m0) eq_m (judge_w (n := 8) tw (by omega) m0) eq_w) (ss_c (v11 (law_bad (n := 11) (m := h) (x := x) (by omega))) (ss_c (v12 (spoilt (n := 8) (N := m + 1) tw (by omega) (by omega) m0) eq_pTT ht c13' eq_o eq_r)
    (ss_c (v13 d6 d7) (ss_c (v14 rfl rfl) (ss_c (v15 (by omega) (prod_by (n := 8) tq (by omega)) (prod_by (n := 8) tw (by omega)) e7 e8) (ss_r (v16 rfl (sh (n := 9) (by omega) (by omega) (by omega) (by omega))))))))))))))))))))
  exact run_r (f := f__law_squares_hold) (args := [.io s.d]) rfl hb
theorem holds (ns : List Int) (hn : ns.length ≤ 63) : ∃ outs, callT T 14 23 [.v (.list (ns.map .int))] = some (.v (.bool true), outs) :=
  law_spec (st := 19) (hd := 22) (m := 5) (c := 10) rfl rfl (fun _ _ ok hk => hold ok hk) (by decide) (by decide) hn
end L_k06

open PySem PySem.W PySem.Calls PyProof.Rows
theorem PySem.Challenge.cw_rodsandbeads_k06_quarter_squares_and_tri_holds : PySem.Challenge.rw_rodsandbeads_k06_quarter_squares_and_tri.Holds := by
  w_on; o_law
  refine HandSHeadRun.head_any (r := OpenLaw.row PySem.Challenge.rw_rodsandbeads_k06_quarter_squares_and_tri) (q := view (OpenLaw.row PySem.Challenge.rw_rodsandbeads_k06_quarter_squares_and_tri).prog [31]) (H := L_k06.hk) (ob := L_k06.ob) (M := 2000) (loose := ["ReckonError", "ArgumentError", "is_integer", "MAX_NUMBER", "MAX_DOWN", "check_number", "quarter", "table", "is_table", "check_table", "entries", "product_by", "judge_table", "faults", "steps", "bends", "spoilt", "one_fault", "looks", "by_triangles", "triangular", "shortest", "mended", "_law_start", "_law_draw", "_law_bad", "_law_squares_hold"]) (d := HandSHeadRun.topDef (OpenLaw.row PySem.Challenge.rw_rodsandbeads_k06_quarter_squares_and_tri).prog 31) (kwd := []) L_k06.ob_eq
    (by kernel_rfl) (fun s => by kernel_rfl) L_k06.run (by kernel_rfl) (by kernel_rfl) (by kernel_rfl) (by rfl) (by first | assumption | decide +kernel) (by decide +kernel) ⟨rfl, rfl, rfl, rfl, rfl, by decide +kernel⟩ ?hw ?hc
  case hw => w_witness2
  case hc =>
    refine L2.walk_ofE (l := PySem.Challenge.rw_rodsandbeads_k06_quarter_squares_and_tri) (n := 63) (k := 14) (x := "script") (CX := L2.CX0) rfl (by decide) (by kernel_rfl) ⟨rfl, by decide, by decide⟩ ?F (fun _ _ _ _ z => z)
    intro w mg fa h Y G hmg0
    obtain ⟨K, hIn, c⟩ := Y
    have hmg : mg ("law" : PySem.Str) = some (.ref fa) := by
      have e : (HandSHeadRun.topDef (OpenLaw.row PySem.Challenge.rw_rodsandbeads_k06_quarter_squares_and_tri).prog 31).name = ("law" : PySem.Str) := by kernel_rfl
      rw [← e]
      exact hmg0
    have HO := L_k06.facts hIn G c
    obtain ⟨fd, F0⟩ := c.def_ 23 (d := L_k06.d_law) rfl
    have e := hmg.symm.trans (He.glo_ok hIn G (c.fact 23 (f := .glo "law") rfl))
    cases e
    have ff : KX.FF K mg L_k06.F_law _ fd := KX.FF.of0 (f := L_k06.F_law) hmg F0 rfl rfl rfl fun _ _ _ _ _ _ us hl => match us, hl with | [_], _ => rfl
    have b := L2.FunD.bindsA (ps := ["script"]) F0 fun _ _ _ _ _ _ us hl => match us, hl with | [_], _ => rfl
    exact ⟨K, fd, KX.spF K (KX.callT L_k06.T 14 23), hIn, fun s v => b s [v] rfl, fun H a ns hl _ hS => KX.sp_law hS (L_k06.holds ns hl), fun base _ _ => KX.fn_ok L_k06.text HO 14 23 L_k06.F_law _ fd rfl ff⟩
