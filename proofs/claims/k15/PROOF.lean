import PyProof.Rows.All
import Wide.All
import OpenK.AllK
import Wide.FinOn
import PySem.Challenge.RW_gamestold_k15_whole_two_parts_of_games
import PyProof.ReprReads
import PyProof.EqLayable
import HandS.List
import HandS.Comp
import HandS.Ends
import HandS.Wide
import HandS.Style
import HandS.Deep
import HandS.IsInst
import HandS.Zip
import HandS.Flow
import HandS.NoneIn
import HandS.Words
import KE.GoesMore
import KE.GoesEnumKw
import KE.GoesZip
import HandS.Zip0
import HandS.Defaults
import HandS.Exc
import HandS.EndBits
import HandS.HeadEnd
import HandS.HeadHook4
import PyProof.Rows.StrJoinMade
import PyProof.Rows.StrDigitsNeg
import KE.KStateDown
import HandS.Head0
import HandS.Head1
import HandS.Head2
import HandS.HeadHook1
import HandS.HeadHook2
set_option Elab.async false
set_option linter.all false
set_option maxRecDepth 100000
set_option maxHeartbeats 0
/-! PPCore: data D, own syntax without places, the evaluator (pure data, list ownership by flags). -/
namespace PP
open PySem (Str PyData sizeLine)

/-- data: lists are told by their contents -/
inductive D where
  | non | bl (b : Bool) | int (i : Int) | str (x : Str)
  | tup (ds : List D) | lst (ds : List D)
  | frz (ds : List D)
  | edct | cls (x : Str) | exc (x : Str) (d : D) | fn (k : Nat) (cap : List D)
  deriving Inhabited

mutual
/-- no list within -/
def noL : D → Bool
  | .tup ds => noLs ds
  | .lst _ => false
  | .frz ds => noLs ds
  | .exc _ d => noL d
  | .fn _ c => noLs c
  | _ => true
def noLs : List D → Bool
  | [] => true
  | d :: ds => noL d && noLs ds
end
mutual
/-- none, bools, ints, texts, lists, tuples -/
def isPy : D → Bool
  | .non => true
  | .bl _ => true
  | .int _ => true
  | .str x => PySem.PyData.canLay0 (.str x)
  | .tup ds => isPys ds
  | .lst ds => isPys ds
  | _ => false
def isPys : List D → Bool
  | [] => true
  | d :: ds => isPy d && isPys ds
end
mutual
def py : D → PyData
  | .non => .none
  | .bl b => .bool b
  | .int i => .int i
  | .str x => .str x
  | .tup ds => .tuple (pys ds)
  | .lst ds => .list (pys ds)
  | _ => .none
def pys : List D → List PyData
  | [] => []
  | d :: ds => py d :: pys ds
end
mutual
def dep : D → Nat
  | .tup ds => deps ds + 1
  | .lst ds => deps ds + 1
  | _ => 0
def deps : List D → Nat
  | [] => 0
  | d :: ds => max (dep d) (deps ds)
end
mutual
/-- == of plain data -/
def eqv : D → D → Bool
  | .non, .non => true
  | .bl a, .bl b => a == b
  | .bl a, .int j => (if a then 1 else 0) == j
  | .int i, .bl b => i == (if b then 1 else 0)
  | .int i, .int j => i == j
  | .str x, .str y => x == y
  | .lst xs, .lst ys => eqvs xs ys
  | .tup xs, .tup ys => eqvs xs ys
  | _, _ => false
def eqvs : List D → List D → Bool
  | [], [] => true
  | x :: xs, y :: ys => eqv x y && eqvs xs ys
  | _, _ => false
end
/-- may be compared by == -/
def plain (d : D) : Bool := isPy d && decide (dep d ≤ 60)

def truth : D → Option Bool
  | .non => some false
  | .bl b => some b
  | .int i => some (i != 0)
  | .str x => if x.length ≤ sizeLine then some (x.length != 0) else none
  | .tup ds => some (!ds.isEmpty)
  | .lst ds => some (!ds.isEmpty)
  | .frz ds => some (!ds.isEmpty)
  | _ => none
/-- what repr gives -/
def reprS (d : D) : Str := (py d).shown
def reprOk (d : D) : Bool := isPy d && (py d).showable && decide (dep d ≤ 60) && decide ((py d).shown.length + 64 ≤ sizeLine)

/-! ### syntax -/
inductive B2 where | add | sub | mul | fdiv | mod | pow
  deriving DecidableEq
inductive CO where | eq | ne | lt | le | gt | ge | is_ | isn | in_ | nin
  deriving DecidableEq
/-- built-in functions -/
inductive BF where | len | abs | int_ | bool_ | str_ | repr_ | list_ | tuple_ | sum_ | max_ | min_ | all_ | any_ | sorted_ | ord_ | lrange
  deriving DecidableEq
/-- methods that change nothing -/
inductive Mt where | index | join | split | bitlen | count
  deriving DecidableEq
inductive Ty where | int | bool | str | list | tuple | dict | cls (x : Str)
  deriving DecidableEq
/-- targets -/
inductive T where | nm (i : Nat) | tp (l : List T)

mutual
inductive E where
  | var (i : Nat)
  | con (d : D)
  | bin (o : B2) (a b : E)
  | neg (a : E)
  | not_ (a : E)
  | and_ (a b : E)
  | or_ (a b : E)
  | cmp (o : CO) (a b : E)
  | chn (a : E) (o : CO) (b : E) (p : CO) (c : E)
  | ife (c a b : E)
  | tup (es : Es)
  | lst (es : Es)
  | call (f : Str) (x0 : Option Nat) (es : Es) (ks : Ks)
  | bif (f : BF) (es : Es)
  | isi (a : E) (ts : List Ty)
  | sub (a i : E)
  | slc (a : E) (lo hi : Eo)
  | comp (own : List Nat) (elt : E) (t : T) (it : It) (c : Eo)
  | comp2 (own own1 : List Nat) (elt : E) (t : T) (it : It) (c : Eo) (t1 : T) (it1 : It) (c1 : Eo)
  | mth (m : Mt) (a : E) (es : Es)
  | pop (x : Nat) (es : Es)
  | walk (it : It)
  | never
inductive Es where
  | nil
  | cons (e : E) (es : Es)
inductive Ks where
  | nil
  | cons (k : Str) (e : E) (ks : Ks)
inductive Eo where
  | no
  | yes (e : E)
/-- what is walked -/
inductive It where
  | seq (a : E)
  | rng (es : Es)
  | enum (a : E)
  | zip (a b : E) (strict : Bool)
end
mutual
inductive S where
  | ex (e : E)
  | asg (t : T) (e : E)
  | par (l : List Nat) (es : Es)
  | put (x : Nat) (path : Es) (e : E)
  | aug (x : Nat) (i : E) (o : B2) (e : E)
  | app (x : Nat) (path : Es) (e : E)
  | ins (x : Nat) (i e : E)
  | if_ (c : E) (a b : Ss)
  | for_ (t : T) (it : It) (b : Ss)
  | whl (c : E) (b : Ss)
  | ret (e : E)
  | retV (i : Nat)
  | retN
  | pass
  | brk
  | cont
  | never
inductive Ss where
  | nil
  | cons (s : S) (ss : Ss)
end

/-! ### states -/
/-- a slot's claim: none; its own list; all lists within; a parameter that is changed -/
inductive Kd where | sh | own | deep | io
  deriving DecidableEq
def Kd.cl : Kd → Bool
  | .sh => false
  | _ => true
def Kd.dp : Kd → Bool
  | .deep => true
  | _ => false
/-- S: the slots whose claims it may overlap (own, io: but for its own list) -/
structure Sl where
  d : D
  k : Kd
  S : List Nat
abbrev St := List (Option Sl)
/-- a value under way: its data; fr: its own list is new; u: all lists within are new, once each, or within the slots of S; S: the slots whose claims it may overlap, Si: so its items -/
structure Tm where
  d : D
  fr : Bool
  u : Bool
  S : List Nat
  Si : List Nat
def scal (d : D) : Tm := ⟨d, false, false, [], []⟩
def Tm.un (t : Tm) : Bool := t.u || noL t.d
def disj (a b : List Nat) : Bool := a.all fun x => !b.contains x
/-- a slot is read -/
def rd (x : Nat) (δ : St) : Option Tm := match δ[x]? with
  | some (some s) => some ⟨s.d, false, s.k.dp, if s.k.cl then x :: s.S else s.S, if s.k.dp then x :: s.S else s.S⟩
  | _ => none
/-- the borrowers of x go -/
def kill (x : Nat) (δ : St) : St := δ.map fun o => match o with
  | some s => if s.S.contains x then none else some s
  | none => none
def forget (own : List Nat) (δ : St) : St := own.foldl (fun δ i => δ.set i none) δ
/-- a value bound to a slot by a plain store -/
def slOf (x : Nat) (t : Tm) : Sl := if t.u && t.S.all (fun y => y == x) then ⟨t.d, .deep, []⟩ else if t.fr then ⟨t.d, .own, t.Si⟩ else ⟨t.d, .sh, t.S⟩
def ioFree (δ : St) (S : List Nat) : Bool := S.all fun x => match δ[x]? with
  | some (some s) => decide (s.k ≠ .io)
  | _ => true

/-! ### results of calls -/
structure Ret where
  d : D
  fr : Bool
  u : Bool
  ios : List D
/-- parameters: names; io: those whose list is changed; con: those that are used up; kw: the lists of names that calls by names give -/
structure Sig where
  ps : List Str
  io : List Nat
  con : List Nat
  kw : List (List Str)
abbrev Calls := Str → List D → Option Ret
abbrev Sigs := Str → Option Sig

def unionS (ts : List Tm) : List Nat := ts.flatMap (·.S)
def unionSi (ts : List Tm) : List Nat := ts.flatMap (·.Si)
/-- each S apart from all others -/
def apartS : List Tm → Bool
  | [] => true
  | t :: ts => ts.all (fun u => disj t.S u.S) && apartS ts
/-- the parameters' values: all positional, or all by names -/
def bindP (g : Sig) (ts : List Tm) (ks : List (Str × Tm)) : Option (List Tm) :=
  if ks.isEmpty then (if ts.length = g.ps.length then some ts else none)
  else if ts.isEmpty && g.kw.contains (ks.map (·.1)) then g.ps.mapM fun p => ks.lookup p else none

/-- the borrowed slots of items: none where no list is among them -/
def siOf (xs : List D) (S : List Nat) : List Nat := if S.isEmpty then [] else if noLs xs then [] else S

/-! ### operators -/
def opB (o : B2) (a b : Tm) : Option Tm := match o, a.d, b.d with
  | .add, .int i, .int j => some (scal (.int (i + j)))
  | .sub, .int i, .int j => some (scal (.int (i - j)))
  | .mul, .int i, .int j => if i.natAbs.log2 + j.natAbs.log2 < 1000000 then some (scal (.int (i * j))) else none
  | .fdiv, .int i, .int j => if 0 < j ∧ j.natAbs.log2 < 9000 then some (scal (.int (i / j))) else none
  | .mod, .int i, .int j => if 0 < j then some (scal (.int (i % j))) else none
  | .pow, .int i, .int j => if 0 ≤ j ∧ j ≤ 1000000 ∧ i.natAbs < 2 ^ 64 then some (scal (.int (i ^ j.toNat))) else none
  | .add, .lst xs, .lst ys => if xs.length + ys.length ≤ sizeLine then
      some ⟨.lst (xs ++ ys), true, (a.u || noLs xs) && (b.u || noLs ys) && disj (siOf xs a.Si) (siOf ys b.Si), siOf xs a.Si ++ siOf ys b.Si, siOf xs a.Si ++ siOf ys b.Si⟩ else none
  | .add, .str x, .str y => if x.length + y.length ≤ sizeLine then some (scal (.str (x ++ y))) else none
  | .mul, .lst xs, .int k => if -(2 ^ 63) ≤ k ∧ k < 2 ^ 63 ∧ xs.length * k.toNat ≤ sizeLine ∧ noLs xs = true then
      some ⟨.lst (List.replicate k.toNat xs).flatten, true, true, [], []⟩ else none
  | _, _, _ => none
def isNon : D → Bool
  | .non => true
  | _ => false
def isBl (b : Bool) : D → Bool
  | .bl c => c == b
  | _ => false
def cmpD (o : CO) (a b : D) : Option Bool := match o, a, b with
  | .eq, a, b => if plain a && plain b then some (eqv a b) else none
  | .ne, a, b => if plain a && plain b then some (!eqv a b) else none
  | .lt, .int i, .int j => some (decide (i < j))
  | .le, .int i, .int j => some (decide (i ≤ j))
  | .gt, .int i, .int j => some (decide (j < i))
  | .ge, .int i, .int j => some (decide (j ≤ i))
  | .is_, a, .non => some (isNon a)
  | .isn, a, .non => some (!isNon a)
  | .is_, a, .bl b => some (isBl b a)
  | .isn, a, .bl b => some (!isBl b a)
  | .in_, a, .lst ys => if plain a && plain (.lst ys) then some (ys.any fun z => eqv z a) else none
  | .nin, a, .lst ys => if plain a && plain (.lst ys) then some (!ys.any fun z => eqv z a) else none
  | .in_, a, .tup ys => if plain a && plain (.tup ys) then some (ys.any fun z => eqv z a) else none
  | .nin, a, .tup ys => if plain a && plain (.tup ys) then some (!ys.any fun z => eqv z a) else none
  | _, _, _ => none
def opN (a : Tm) : Option Tm := match a.d with
  | .int i => some (scal (.int (-i)))
  | _ => none
def tyIs : Ty → D → Bool
  | .int, .int _ => true
  | .int, .bl _ => true
  | .bool, .bl _ => true
  | .str, .str _ => true
  | .list, .lst _ => true
  | .list, .frz _ => true
  | .tuple, .tup _ => true
  | _, _ => false
/-- of what isinstance is asked -/
def tyOk : D → Bool
  | .non => true
  | .bl _ => true
  | .int _ => true
  | .str _ => true
  | .tup _ => true
  | .lst _ => true
  | .frz _ => true
  | _ => false
def opSub (a i : Tm) : Option Tm := match a.d, i.d with
  | .lst xs, .int k => (L2.atI xs k).map fun d => ⟨d, false, a.u, a.Si, a.Si⟩
  | .tup xs, .int k => (L2.atI xs k).map fun d => ⟨d, false, a.u, a.Si, a.Si⟩
  | .frz xs, .int k => (L2.atI xs k).map fun d => ⟨d, false, a.u, a.Si, a.Si⟩
  | _, _ => none
def cutD (xs : List D) (lo hi : Option Int) : List D := (xs.drop (HT.sIx xs.length 0 lo)).take (HT.sIx xs.length xs.length hi - HT.sIx xs.length 0 lo)
def opSlc (a : Tm) (lo hi : Option Int) : Option Tm := match a.d with
  | .lst xs => some ⟨.lst (cutD xs lo hi), true, a.u || noLs xs, siOf xs a.Si, siOf xs a.Si⟩
  | .frz xs => some ⟨.lst (cutD xs lo hi), true, a.u || noLs xs, siOf xs a.Si, siOf xs a.Si⟩
  | _ => none
def bools : List D → Option (List Bool)
  | [] => some []
  | .bl b :: r => (bools r).map (b :: ·)
  | _ => none
def intsD : List D → Option (List Int)
  | [] => some []
  | .int b :: r => (intsD r).map (b :: ·)
  | _ => none
/-- the items of a list, a tuple -/
def seqOf : D → Option (List D)
  | .lst xs => some xs
  | .tup xs => some xs
  | .frz xs => some xs
  | _ => none
/-- built-in functions whose answer holds no list -/
def opFs (f : BF) (ds : List D) : Option D := match f, ds with
  | .len, [.lst xs] => some (.int xs.length)
  | .len, [.tup xs] => some (.int xs.length)
  | .len, [.frz xs] => some (.int xs.length)
  | .len, [.str x] => if x.length ≤ sizeLine then some (.int x.length) else none
  | .abs, [.int i] => some (.int (if i < 0 then -i else i))
  | .int_, [.int i] => some (.int i)
  | .int_, [.bl b] => some (.int (if b then 1 else 0))
  | .repr_, [a] => if reprOk a then some (.str (reprS a)) else none
  | .all_, [.lst xs] => (bools xs).map fun bs => .bl (bs.all id)
  | .any_, [.lst xs] => (bools xs).map fun bs => .bl (bs.any id)
  | .sum_, [.lst xs] => (intsD xs).map fun ns => .int ns.sum
  | .max_, [.int i, .int j] => some (.int (if j > i then j else i))
  | .min_, [.int i, .int j] => some (.int (if j < i then j else i))
  | _, _ => none
def opF (f : BF) (ts : List Tm) : Option Tm := match f with
  | .list_ => match ts with
    | [a] => (seqOf a.d).map fun xs => ⟨.lst xs, true, a.u || noLs xs, siOf xs a.Si, siOf xs a.Si⟩
    | _ => none
  | f => (opFs f (ts.map (·.d))).map scal
def rngOf (ts : List Tm) : Option (List D) := match ts with
  | [a] => match a.d with
    | .int j => if -(2 ^ 62) ≤ j ∧ j < 2 ^ 62 then some ((List.range j.toNat).map fun k => D.int ((0 : Int) + (k : Nat))) else none
    | _ => none
  | [a, b] => match a.d, b.d with
    | .int i, .int j => if -(2 ^ 62) ≤ i ∧ i < 2 ^ 62 ∧ -(2 ^ 62) ≤ j ∧ j < 2 ^ 62 then some ((List.range (j - i).toNat).map fun k => D.int (i + (k : Nat))) else none
    | _, _ => none
  | _ => none
def listOf : D → Option (List D)
  | .lst xs => some xs
  | _ => none

def zipOf : D → D → Option (List D × List D)
  | .lst xs, .lst ys => some (xs, ys)
  | .tup xs, .tup ys => some (xs, ys)
  | _, _ => none

/-! ### targets -/
mutual
def bindT (S : List Nat) : T → D → St → Option St
  | .nm i, d, δ => if i < δ.length then some (δ.set i (some ⟨d, .sh, S⟩)) else none
  | .tp l, d, δ => match seqOf d with
    | some ds => if ds.length = l.length then bindTs S l ds δ else none
    | none => none
def bindTs (S : List Nat) : List T → List D → St → Option St
  | [], [], δ => some δ
  | t :: ts, d :: ds, δ => match bindT S t d δ with
    | some δ' => bindTs S ts ds δ'
    | none => none
  | _, _, _ => none
end

/-! ### loops -/
/-- what is walked: the items; S of what stands still meanwhile; S of the items -/
structure Wk where
  ds : List D
  S : List Nat
  Si : List Nat
def compLoop (body : List Nat → D → St → Option (List Tm × St)) : List Nat → List D → St → Option (List Tm × St)
  | _, [], δ => some ([], δ)
  | P, d :: ds, δ => match body P d δ with
    | some (t, δ1) => match compLoop body (P ++ unionS t) ds δ1 with
      | some (ts, δ2) => some (t ++ ts, δ2)
      | none => none
    | none => none
/-- a list of values under way -/
def mkLst (ts : List Tm) : Option Tm := if ts.length ≤ sizeLine then some ⟨.lst (ts.map (·.d)), true, ts.all (·.un) && apartS ts, unionS ts, unionS ts⟩ else none
def mkTup (ts : List Tm) : Option Tm := if ts.length ≤ sizeLine then some ⟨.tup (ts.map (·.d)), false, ts.all (·.un) && apartS ts, unionS ts, unionS ts⟩ else none
/-- a comprehension's list: of what is taken from slots nothing is claimed -/
def mkComp (ts : List Tm) : Option Tm := if ts.length < sizeLine then some ⟨.lst (ts.map (·.d)), true, ts.all (fun t => t.un && t.S.isEmpty), unionS ts, unionS ts⟩ else none

/-! ### calls -/
def retTm (r : Ret) (S : List Nat) : Tm := if S.isEmpty then ⟨r.d, r.fr, r.u, [], []⟩ else if r.u || noL r.d then ⟨r.d, r.fr, r.u, [], []⟩ else ⟨r.d, r.fr, false, S, S⟩
/-- the changed list comes back into its slot; So: what the other arguments borrow, Sa: what all borrow -/
def isLst : D → Bool
  | .lst _ => true
  | _ => false
def fstLst : List Tm → Bool
  | t :: _ => isLst t.d
  | _ => false
def putIo (P So Sa : List Nat) (v : Option Nat) (r : Ret) (δ : St) : Option (Tm × St) := match v, r.ios with
  | some x, [d] => match δ[x]? with
    | some (some s) => if s.k.cl && isLst s.d && !P.contains x && !So.contains x then
        some (retTm r (Sa.filter (· != x)), (kill x δ).set x (some ⟨d, if s.k.dp then .own else s.k, Sa.filter (· != x)⟩)) else none
    | _ => none
  | _, _ => none
/-- what is used up goes -/
def eatAll (P : List Nat) : List Nat → St → Option St
  | [], δ => some δ
  | x :: xs, δ => match δ[x]? with
    | some (some s) => if decide (s.k = .deep) && !P.contains x then eatAll P xs ((kill x δ).set x none) else none
    | _ => none
/-- the call's answer; x0: the slot that is the first argument -/
def callRet (P : List Nat) (g : Sig) (x0 : Option Nat) (ar : List Tm) (r : Ret) (δ : St) : Option (Tm × St) := match g.con, g.io with
  | [], [] => some (retTm r (unionS ar), δ)
  | [], [0] => if fstLst ar then putIo P (unionS (ar.drop 1)) (unionS ar) x0 r δ else none
  | [0], [] => match ar with
    | [t] => if t.un && noL r.d then match eatAll P t.S δ with
        | some δ' => some (scal r.d, δ')
        | none => none
      else none
    | _ => none
  | _, _ => none
def doCall (C : Calls) (G : Sigs) (P : List Nat) (f : Str) (x0 : Option Nat) (ts : List Tm) (ks : List (Str × Tm)) (δ : St) : Option (Tm × St) :=
  match G f with
  | none => none
  | some g => match bindP g ts ks with
    | none => none
    | some ar => match C f (ar.map (·.d)) with
      | none => none
      | some r => callRet P g x0 ar r δ

/-! ### expressions -/
section
variable (C : Calls) (G : Sigs)
mutual
def evE (P : List Nat) : E → St → Option (Tm × St)
  | .var i, δ => match rd i δ with
    | some t => some (t, δ)
    | none => none
  | .con d, δ => some (scal d, δ)
  | .bin o a b, δ => match evE P a δ with
    | some (x, δ1) => match evE (P ++ x.S) b δ1 with
      | some (y, δ2) => match opB o x y with
        | some t => some (t, δ2)
        | none => none
      | none => none
    | none => none
  | .neg a, δ => match evE P a δ with
    | some (x, δ1) => match opN x with
      | some t => some (t, δ1)
      | none => none
    | none => none
  | .not_ a, δ => match evE P a δ with
    | some (x, δ1) => match truth x.d with
      | some b => some (scal (.bl (!b)), δ1)
      | none => none
    | none => none
  | .and_ a b, δ => match evE P a δ with
    | some (x, δ1) => match truth x.d with
      | some true => evE P b δ1
      | some false => some (x, δ1)
      | none => none
    | none => none
  | .or_ a b, δ => match evE P a δ with
    | some (x, δ1) => match truth x.d with
      | some true => some (x, δ1)
      | some false => evE P b δ1
      | none => none
    | none => none
  | .cmp o a b, δ => match evE P a δ with
    | some (x, δ1) => match evE (P ++ x.S) b δ1 with
      | some (y, δ2) => match cmpD o x.d y.d with
        | some r => some (scal (.bl r), δ2)
        | none => none
      | none => none
    | none => none
  | .chn a o b p c, δ => match evE P a δ with
    | some (x, δ1) => match evE (P ++ x.S) b δ1 with
      | some (y, δ2) => match cmpD o x.d y.d with
        | some true => match evE (P ++ y.S) c δ2 with
          | some (z, δ3) => match cmpD p y.d z.d with
            | some r => some (scal (.bl r), δ3)
            | none => none
          | none => none
        | some false => some (scal (.bl false), δ2)
        | none => none
      | none => none
    | none => none
  | .ife c a b, δ => match evE P c δ with
    | some (x, δ1) => match truth x.d with
      | some true => evE P a δ1
      | some false => evE P b δ1
      | none => none
    | none => none
  | .tup es, δ => match evEs P es δ with
    | some (ts, δ1) => match mkTup ts with
      | some t => some (t, δ1)
      | none => none
    | none => none
  | .lst es, δ => match evEs P es δ with
    | some (ts, δ1) => match mkLst ts with
      | some t => some (t, δ1)
      | none => none
    | none => none
  | .call f x0 es ks, δ => match evEs P es δ with
    | some (ts, δ1) => match evKs (P ++ unionS ts) ks δ1 with
      | some (kt, δ2) => doCall C G P f x0 ts kt δ2
      | none => none
    | none => none
  | .bif f es, δ => match evEs P es δ with
    | some (ts, δ1) => match opF f ts with
      | some t => some (t, δ1)
      | none => none
    | none => none
  | .isi a tys, δ => match evE P a δ with
    | some (x, δ1) => if tyOk x.d then some (scal (.bl (tys.any fun t => tyIs t x.d)), δ1) else none
    | none => none
  | .sub a i, δ => match evE P a δ with
    | some (x, δ1) => match evE (P ++ x.S) i δ1 with
      | some (y, δ2) => match opSub x y with
        | some t => some (t, δ2)
        | none => none
      | none => none
    | none => none
  | .slc a lo hi, δ => match evE P a δ with
    | some (x, δ1) => match evO (P ++ x.S) lo δ1 with
      | some (l, δ2) => match evO (P ++ x.S) hi δ2 with
        | some (h, δ3) => match opSlc x l h with
          | some t => some (t, δ3)
          | none => none
        | none => none
      | none => none
    | none => none
  | .comp own elt t it c, δ => if !disj own P then none else match evI P it δ with
    | some (w, δ1) => match compLoop (fun P d δ => match bindT w.Si t d δ with
        | some δa => match evC P c δa with
          | some (true, δb) => match evE P elt δb with
            | some (x, δc) => some ([x], forget own δc)
            | none => none
          | some (false, δb) => some ([], forget own δb)
          | none => none
        | none => none) (P ++ w.S) w.ds (forget own δ1) with
      | some (ts, δ2) => match mkComp ts with
        | some t => some (t, δ2)
        | none => none
      | none => none
    | none => none
  | .comp2 own own1 elt t it c t1 it1 c1, δ => if !disj own P then none else match evI P it δ with
    | some (w, δ1) => match compLoop (fun P d δ => match bindT w.Si t d δ with
        | some δa => match evC P c δa with
          | some (true, δb) => match evI P it1 δb with
            | some (w1, δc) => match compLoop (fun P d δ => match bindT w1.Si t1 d δ with
                | some δe => match evC P c1 δe with
                  | some (true, δf) => match evE P elt δf with
                    | some (x, δg) => some ([x], forget own1 δg)
                    | none => none
                  | some (false, δf) => some ([], forget own1 δf)
                  | none => none
                | none => none) (P ++ w1.S) w1.ds (forget own1 δc) with
              | some (ts, δd) => some (ts, forget own δd)
              | none => none
            | none => none
          | some (false, δb) => some ([], forget own δb)
          | none => none
        | none => none) (P ++ w.S) w.ds (forget own δ1) with
      | some (ts, δ2) => match mkComp ts with
        | some t => some (t, δ2)
        | none => none
      | none => none
    | none => none
  | .mth _ _ _, _ => none
  | .pop _ _, _ => none
  | .walk _, _ => none
  | .never, _ => none
def evEs (P : List Nat) : Es → St → Option (List Tm × St)
  | .nil, δ => some ([], δ)
  | .cons e es, δ => match evE P e δ with
    | some (t, δ1) => match evEs (P ++ t.S) es δ1 with
      | some (ts, δ2) => some (t :: ts, δ2)
      | none => none
    | none => none
def evKs (P : List Nat) : Ks → St → Option (List (Str × Tm) × St)
  | .nil, δ => some ([], δ)
  | .cons k e es, δ => match evE P e δ with
    | some (t, δ1) => match evKs (P ++ t.S) es δ1 with
      | some (ts, δ2) => some ((k, t) :: ts, δ2)
      | none => none
    | none => none
/-- a part of a slice -/
def evO (P : List Nat) : Eo → St → Option (Option Int × St)
  | .no, δ => some (none, δ)
  | .yes e, δ => match evE P e δ with
    | some (t, δ1) => match t.d with
      | .int i => some (some i, δ1)
      | _ => none
    | none => none
/-- a clause's test -/
def evC (P : List Nat) : Eo → St → Option (Bool × St)
  | .no, δ => some (true, δ)
  | .yes e, δ => match evE P e δ with
    | some (t, δ1) => match truth t.d with
      | some b => some (b, δ1)
      | none => none
    | none => none
def evI (P : List Nat) : It → St → Option (Wk × St)
  | .seq a, δ => match evE P a δ with
    | some (t, δ1) => match seqOf t.d with
      | some ds => some (⟨ds, t.S, t.Si⟩, δ1)
      | none => none
    | none => none
  | .rng es, δ => match evEs P es δ with
    | some (ts, δ1) => match rngOf ts with
      | some ds => some (⟨ds, [], []⟩, δ1)
      | none => none
    | none => none
  | .enum a, δ => match evE P a δ with
    | some (t, δ1) => match listOf t.d with
      | some ds => some (⟨ds.zipIdx.map fun q => .tup [.int (q.2 : Nat), q.1], t.S, t.Si⟩, δ1)
      | none => none
    | none => none
  | .zip a b strict, δ => match evE P a δ with
    | some (t, δ1) => match evE (P ++ t.S) b δ1 with
      | some (u, δ2) => match zipOf t.d u.d with
        | some (ds, es) => if strict && ds.length != es.length then none else
            some (⟨(ds.zip es).map fun q => .tup [q.1, q.2], t.S ++ u.S, t.Si ++ u.Si⟩, δ2)
        | none => none
      | none => none
    | none => none
end
end

/-! ### statements -/
inductive Outc where
  | nx (δ : St)
  | ret (t : Tm) (δ : St)
  | brk (δ : St)
  | cont (δ : St)
def forLoop (body : D → St → Option Outc) : List D → St → Option Outc
  | [], δ => some (.nx δ)
  | d :: ds, δ => match body d δ with
    | some (.nx δ') => forLoop body ds δ'
    | some (.cont δ') => forLoop body ds δ'
    | some (.brk δ') => some (.nx δ')
    | some (.ret t δ') => some (.ret t δ')
    | none => none
def whileLoop (test : St → Option (Bool × St)) (body : St → Option Outc) : Nat → St → Option Outc
  | 0, _ => none
  | n + 1, δ => match test δ with
    | some (false, δ') => some (.nx δ')
    | some (true, δ') => match body δ' with
      | some (.nx δ'') => whileLoop test body n δ''
      | some (.cont δ'') => whileLoop test body n δ''
      | some (.brk δ'') => some (.nx δ'')
      | some (.ret t δ'') => some (.ret t δ'')
      | none => none
    | none => none
/-- an item's place within nested lists, changed -/
def putAt : D → List Int → D → Option D
  | .lst xs, [k], d => (L2.ixN xs.length k).map fun j => .lst (xs.set j d)
  | .lst xs, k :: ks, d => match L2.ixN xs.length k with
    | some j => match xs[j]? with
      | some x => (putAt x ks d).map fun y => .lst (xs.set j y)
      | none => none
    | none => none
  | _, _, _ => none
def appAt : D → List Int → D → Option D
  | .lst xs, [], d => if xs.length < sizeLine then some (.lst (xs ++ [d])) else none
  | .lst xs, k :: ks, d => match L2.ixN xs.length k with
    | some j => match xs[j]? with
      | some x => (appAt x ks d).map fun y => .lst (xs.set j y)
      | none => none
    | none => none
  | _, _, _ => none
def intsT : List Tm → Option (List Int)
  | [] => some []
  | t :: ts => match t.d with
    | .int i => (intsT ts).map (i :: ·)
    | _ => none
/-- a claimed slot's list has got t within -/
def grown (x : Nat) (s : Sl) (d : D) (t : Tm) (δ : St) : St := (kill x δ).set x (some (if t.un && t.S.isEmpty then ⟨d, s.k, s.S⟩ else ⟨d, if s.k.dp then .own else s.k, s.S ++ t.S⟩))
def Es.len : Es → Nat
  | .nil => 0
  | .cons _ es => es.len + 1
/-- plain names all stored at once -/
def setAll : List Nat → List Tm → St → Option St
  | [], [], δ => some δ
  | i :: is, t :: ts, δ => if i < δ.length then setAll is ts (δ.set i (some ⟨t.d, .sh, []⟩)) else none
  | _, _, _ => none

section
variable (C : Calls) (G : Sigs) (wf : Nat)
mutual
def evS (P : List Nat) : S → St → Option Outc
  | .ex e, δ => match evE C G P e δ with
    | some (_, δ1) => some (.nx δ1)
    | none => none
  | .asg t e, δ => match evE C G P e δ with
    | some (v, δ1) => match t with
      | .nm i => if i < δ1.length ∧ ioFree δ1 v.S = true then some (.nx (δ1.set i (some (slOf i v)))) else none
      | .tp l => if ioFree δ1 v.S then match bindT v.S (.tp l) v.d δ1 with
          | some δ2 => some (.nx δ2)
          | none => none
        else none
    | none => none
  | .par l es, δ => match evEs C G P es δ with
    | some (ts, δ1) => if ts.all (fun t => noL t.d) then match setAll l ts δ1 with
        | some δ2 => some (.nx δ2)
        | none => none
      else none
    | none => none
  | .put x path e, δ => match evE C G P e δ with
    | some (v, δ1) => match rd x δ1, evEs C G (P ++ v.S) path δ1 with
      | some _, some (ps, δ2) => match δ2[x]? with
        | some (some s) => if s.k.cl && !P.contains x && !v.S.contains x then
            match intsT ps with
            | some [k] => match putAt s.d [k] v.d with
              | some d => some (.nx (grown x s d v δ2))
              | none => none
            | _ => none
          else none
        | _ => none
      | _, _ => none
    | none => none
  | .aug x i o e, δ => match o, rd x δ, evE C G P i δ with
    | .add, some _, some (j, δ1) => match rd x δ1, j.d with
      | some a, .int k => if !isLst a.d then none else match opSub a j with
        | some old => match old.d, evE C G P e δ1 with
          | .int m, some (v, δ2) => match v.d, δ2[x]? with
            | .int n, some (some s) => if s.k.cl && !P.contains x then
                match putAt s.d [k] (.int (m + n)) with
                | some d => some (.nx (grown x s d (scal (.int (m + n))) δ2))
                | none => none
              else none
            | _, _ => none
          | _, _ => none
        | none => none
      | _, _ => none
    | _, _, _ => none
  | .app x path e, δ => match path with
    | .nil => match rd x δ, evE C G P e δ with
      | some a0, some (v, δ2) => if !isLst a0.d then none else match δ2[x]? with
        | some (some s) => if s.k.cl && !P.contains x && !v.S.contains x then
            match appAt s.d [] v.d with
            | some d => some (.nx (grown x s d v δ2))
            | none => none
          else none
        | _ => none
      | _, _ => none
    | _ => none
  | .ins _ _ _, _ => none
  | .if_ c a b, δ => match evE C G P c δ with
    | some (x, δ1) => match truth x.d with
      | some true => evSs P a δ1
      | some false => evSs P b δ1
      | none => none
    | none => none
  | .for_ t it b, δ => match evI C G P it δ with
    | some (w, δ1) => if ioFree δ1 w.S then forLoop (fun d δ => match bindT w.Si t d δ with
        | some δa => evSs (P ++ w.S) b δa
        | none => none) w.ds δ1 else none
    | none => none
  | .whl c b, δ => whileLoop (fun δ => match evE C G P c δ with
      | some (x, δ1) => match truth x.d with
        | some r => some (r, δ1)
        | none => none
      | none => none) (fun δ => evSs P b δ) wf δ
  | .ret e, δ => match evE C G P e δ with
    | some (t, δ1) => if ioFree δ1 t.S then some (.ret t δ1) else none
    | none => none
  | .retV i, δ => match rd i δ, δ[i]? with
    | some t, some (some s) => if ioFree δ t.S then some (.ret ⟨t.d, s.k.cl && isLst t.d, t.u, t.S, t.Si⟩ δ) else none
    | _, _ => none
  | .retN, δ => some (.ret (scal .non) δ)
  | .pass, δ => some (.nx δ)
  | .brk, δ => some (.brk δ)
  | .cont, δ => some (.cont δ)
  | .never, _ => none
def evSs (P : List Nat) : Ss → St → Option Outc
  | .nil, δ => some (.nx δ)
  | .cons s ss, δ => match evS P s δ with
    | some (.nx δ1) => evSs P ss δ1
    | r => r
end
end

/-! ### defs -/
structure Fn where
  np : Nat
  nn : Nat
  io : List Nat
  body : Ss
inductive Df where
  | code (g : Sig) (f : Fn)
  | prim (g : Sig) (s : Nat → List D → Option Ret)
def Df.sig : Df → Sig
  | .code g _ => g
  | .prim g _ => g
abbrev Prog := Str → Option Df
def Prog.sigs (Γ : Prog) : Sigs := fun f => (Γ f).map (·.sig)
def entry (f : Fn) (ds : List D) : St := ((ds.zipIdx.map fun q => some ⟨q.1, if f.io.contains q.2 then .io else .sh, []⟩) ++ List.replicate (f.nn - ds.length) none)
def iosOf (δ : St) : List Nat → Option (List D)
  | [] => some []
  | p :: ps => match δ[p]? with
    | some (some s) => if s.k = .io then (iosOf δ ps).map (s.d :: ·) else none
    | _ => none
/-- what the changed parameters borrow -/
def iosS (δ : St) (io : List Nat) : List Nat := io.flatMap fun p => match δ[p]? with
  | some (some s) => s.S
  | _ => []
def finish (f : Fn) (t : Tm) (δ : St) : Option Ret := match iosOf δ f.io with
  | some ios => some ⟨t.d, t.fr && disj t.S (iosS δ f.io), t.u && disj t.S (iosS δ f.io), ios⟩
  | none => none
def runFn (C : Calls) (G : Sigs) (wf : Nat) (f : Fn) (ds : List D) : Option Ret :=
  if ds.length = f.np then match evSs C G wf [] f.body (entry f ds) with
    | some (.nx δ) => finish f (scal .non) δ
    | some (.ret t δ) => finish f t δ
    | _ => none
  else none
def callN (Γ : Prog) (wf : Nat) : Nat → Calls
  | 0, _, _ => none
  | n + 1, f, ds => match Γ f with
    | some (.code _ fn) => runFn (callN Γ wf n) Γ.sigs wf fn ds
    | some (.prim _ s) => s n ds
    | none => none
end PP

/-! PPStrip: from the machine's syntax to ours; what isn't served becomes never. -/
namespace PP
open PySem (Str Scope NameKind Comprehension Keyword)
abbrev PE_ := PySem.Expr
/-- of a def: its slots' names; of the text: its defs, its constants -/
structure Cn where
  N : List Str
  gd : List Str
  gc : List (Str × D)
def slotIx (N : List Str) (x : Str) : Option Nat := match N.idxOf? x with
  | some i => some i
  | none => none
/-- a name that a block sees -/
def visIn (sc : Scope) (x : Str) : Bool := match sc.names.lookup x with
  | some .local => true
  | some .cell => true
  | some .free => true
  | _ => false
def locIn (sc : Scope) (x : Str) : Bool := match sc.names.lookup x with
  | some .local => true
  | some .cell => true
  | _ => false
def gloIn (sc : Scope) (x : Str) : Bool := match sc.names.lookup x with
  | some .globalImplicit => true
  | _ => false
def okName (x : Str) : Bool := !(x == ("__debug__" : Str)) && !(x == ("__classdict__" : Str))
def slotOf (c : Cn) (sc : Scope) (x : Str) : Option Nat := if visIn sc x && okName x then c.N.idxOf? x else none
def slotTo (c : Cn) (sc : Scope) (x : Str) : Option Nat := if locIn sc x && okName x then c.N.idxOf? x else none
def bfOf (x : Str) : Option BF :=
  if x = ("len" : Str) then some .len else if x = ("abs" : Str) then some .abs else if x = ("int" : Str) then some .int_
  else if x = ("repr" : Str) then some .repr_ else if x = ("list" : Str) then some .list_
  else if x = ("all" : Str) then some .all_ else if x = ("any" : Str) then some .any_ else if x = ("sum" : Str) then some .sum_
  else if x = ("max" : Str) then some .max_ else if x = ("min" : Str) then some .min_ else none
def tyOf (x : Str) : Option Ty :=
  if x = ("int" : Str) then some .int else if x = ("bool" : Str) then some .bool else if x = ("str" : Str) then some .str
  else if x = ("list" : Str) then some .list else if x = ("tuple" : Str) then some .tuple else if x = ("dict" : Str) then some .dict else none
/-- a built-in name that the text leaves alone -/
def bltIn (c : Cn) (sc : Scope) (x : Str) : Bool := gloIn sc x && !c.gd.contains x && (c.gc.lookup x).isNone
def isStar : PE_ → Bool
  | .Starred .. => true
  | _ => false
def isSlice : PE_ → Bool
  | .Slice .. => true
  | _ => false
def isSet : PE_ → Bool
  | .Set .. => true
  | _ => false
def isTupE : PE_ → Bool
  | .Tuple .. => true
  | _ => false
def coOf : PySem.CmpOp → CO
  | .Eq => .eq | .NotEq => .ne | .Lt => .lt | .LtE => .le | .Gt => .gt | .GtE => .ge | .Is => .is_ | .IsNot => .isn | .In => .in_ | .NotIn => .nin
def opOf : PySem.Operator → Option B2
  | .Add => some .add | .Sub => some .sub | .Mult => some .mul | .FloorDiv => some .fdiv | .Mod => some .mod | .Pow => some .pow
  | _ => none
def tysOf (c : Cn) (sc : Scope) : PE_ → Option (List Ty)
  | .Name x _ => if bltIn c sc x then (tyOf x).map fun t => [t] else none
  | .Tuple [.Name x _, .Name y _] _ _ => if bltIn c sc x && bltIn c sc y then (match tyOf x, tyOf y with
      | some t, some u => some [t, u]
      | _, _ => none) else none
  | _ => none
/-- a block's own names with their slots -/
def ownOf (N : List Str) (scope : Scope) : List (Str × Nat) := scope.names.filterMap fun (n, k) => if k == .local || k == .cell then (N.idxOf? n).map fun i => (n, i) else none
mutual
def stT (c : Cn) (sc : Scope) : PE_ → Option T
  | .Name x _ => (slotTo c sc x).map .nm
  | .Tuple es _ _ => (stTs c sc es).map .tp
  | _ => none
def stTs (c : Cn) (sc : Scope) : List PE_ → Option (List T)
  | [] => some []
  | e :: es => match stT c sc e, stTs c sc es with
    | some t, some ts => some (t :: ts)
    | _, _ => none
end
def T.ixs : T → List Nat
  | .nm i => [i]
  | .tp l => ixsAll l
where ixsAll : List T → List Nat
  | [] => []
  | t :: ts => T.ixs t ++ ixsAll ts
def isStrict : List Keyword → Option Bool
  | [] => some false
  | [⟨some k, .Constant (.bool true) _ _, _⟩] => if k = ("strict" : Str) then some true else none
  | _ => none
/-- the target's own slots are all of the block -/
def tOwn (t : T) (own : List (Str × Nat)) : Bool := t.ixs.all fun i => (own.map (·.2)).contains i
/-- a walk; tup: its target is a written tuple -/
def itOf (tup : Bool) : E → It
  | .walk it => match it with
    | .enum a => if tup then .enum a else .seq .never
    | .zip a b s => if tup then .zip a b s else .seq .never
    | it => it
  | e => .seq e
/-- the first argument's slot, where it is a name -/
def fstOf (c : Cn) (sc : Scope) : List PE_ → Option Nat
  | .Name y _ :: _ => slotOf c sc y
  | _ => none
/-- what is only walked is no value -/
def noWalk : E → E
  | .walk _ => .never
  | e => e
def nameE (c : Cn) (sc : Scope) (x : Str) : E := match slotOf c sc x with
  | some i => .var i
  | none => if gloIn sc x && okName x && !c.gd.contains x then (match c.gc.lookup x with
    | some d => .con d
    | none => .never) else .never
def constE : PySem.Const → E
  | .none => .con .non
  | .bool b => .con (.bl b)
  | .int i => .con (.int i)
  | .str x => .con (.str x)
  | _ => .never
def binE (o : PySem.Operator) (a b : E) : E := match opOf o with
  | some p => .bin p a b
  | none => .never
def unE (o : PySem.UnaryOp) (a : E) : E := match o with
  | .Not => .not_ a
  | .USub => .neg a
  | _ => .never
def zipE (ks : List Keyword) : Es → E
  | .cons a (.cons b .nil) => match isStrict ks with
    | some s => .walk (.zip a b s)
    | none => .never
  | _ => .never
def isiE (c : Cn) (sc : Scope) : List PE_ → Es → E
  | [_, t], .cons a _ => match tysOf c sc t with
    | some ts => .isi a ts
    | none => .never
  | _, _ => .never
def enumE : Es → E
  | .cons a .nil => .walk (.enum a)
  | _ => .never
def bifE (x : Str) (l : Es) : E := match bfOf x with
  | some b => .bif b l
  | none => .never
/-- f(..): f's name, the arguments as written, as they are for us -/
def callE (c : Cn) (sc : Scope) (x : Str) (es : List PE_) (ks : List Keyword) (l : Es) (m : Ks) : E :=
  if gloIn sc x && okName x && !es.any isStar then
    (if c.gd.contains x then (if ks.isEmpty then .call x (fstOf c sc es) l .nil else if es.isEmpty && ks.all (fun q => q.arg.isSome) then .call x none .nil m else .never)
    else if (c.gc.lookup x).isSome then .never
    else if x = ("zip" : Str) then zipE ks l
    else if !ks.isEmpty then .never
    else if x = ("isinstance" : Str) then isiE c sc es l
    else if x = ("range" : Str) then .walk (.rng l)
    else if x = ("enumerate" : Str) then enumE l
    else bifE x l)
  else .never
def nameOf : PE_ → Option Str
  | .Name x _ => some x
  | _ => none
def compE (c : Cn) (sc scope : Scope) (t it : PE_) (ifs : List PE_) (a : Int) (elt i : E) (o : Eo) : E :=
  if L2.blkC c.N sc scope (ownOf c.N scope) && decide (a = 0) && decide (ifs.length ≤ 1) && !isSet it then (match stT c (L2.relS scope sc) t with
    | some t' => if tOwn t' (ownOf c.N scope) then .comp ((ownOf c.N scope).map (·.2)) elt t' (itOf (isTupE t) i) o else .never
    | none => .never) else .never
def compE2 (c : Cn) (sc scope : Scope) (t it : PE_) (ifs : List PE_) (a : Int) (t1 it1 : PE_) (ifs1 : List PE_) (a1 : Int) (elt i : E) (o : Eo) (i1 : E) (o1 : Eo) : E :=
  if L2.blkC c.N sc scope (ownOf c.N scope) && decide (a = 0) && decide (ifs.length ≤ 1) && !isSet it && decide (a1 = 0) && decide (ifs1.length ≤ 1) && !isSet it1 then (match stT c (L2.relS scope sc) t with
    | some t' => (match stT c (L2.relS scope sc) t1 with
      | some t1' => if tOwn t' (ownOf c.N scope) && tOwn t1' (ownOf c.N scope) then .comp2 ((ownOf c.N scope).map (·.2)) t1'.ixs elt t' (itOf (isTupE t) i) o t1' (itOf (isTupE t1) i1) o1 else .never
      | none => .never)
    | none => .never) else .never
mutual
def stE (c : Cn) (sc : Scope) : PE_ → E
  | .Constant k _ _ => constE k
  | .Name x _ => nameE c sc x
  | .BoolOp op es _ => match op with
    | .And => stAnd c sc es
    | .Or => stOr c sc es
  | .BinOp a o b _ => binE o (stE c sc a) (stE c sc b)
  | .UnaryOp o a _ => unE o (stE c sc a)
  | .IfExp t a b _ => .ife (stE c sc t) (stE c sc a) (stE c sc b)
  | .Compare a [o] [b] _ => if isSet b then .never else .cmp (coOf o) (stE c sc a) (stE c sc b)
  | .Compare a [o, p] [b, d] _ => if isSet b || isSet d then .never else .chn (stE c sc a) (coOf o) (stE c sc b) (coOf p) (stE c sc d)
  | .Tuple es _ _ => if es.any isStar then .never else .tup (stEs c sc es)
  | .List es _ => if es.any isStar then .never else .lst (stEs c sc es)
  | .Subscript a (.Slice lo hi none _) _ => .slc (stE c sc a) (stO c sc lo) (stO c sc hi)
  | .Subscript a i _ => if isSlice i then .never else .sub (stE c sc a) (stE c sc i)
  | .Call f es ks _ => match nameOf f with
    | some x => callE c sc x es ks (stEs c sc es) (stKs c sc ks)
    | none => .never
  | .ListComp elt [⟨t, it, ifs, a⟩] scope _ => compE c sc scope t it ifs a (stE c (L2.relS scope sc) elt) (stE c sc it) (stC c (L2.relS scope sc) ifs)
  | .ListComp elt [⟨t, it, ifs, a⟩, ⟨t1, it1, ifs1, a1⟩] scope _ => compE2 c sc scope t it ifs a t1 it1 ifs1 a1 (stE c (L2.relS scope sc) elt) (stE c sc it) (stC c (L2.relS scope sc) ifs) (stE c (L2.relS scope sc) it1) (stC c (L2.relS scope sc) ifs1)
  | _ => .never
def stAnd (c : Cn) (sc : Scope) : List PE_ → E
  | [] => .never
  | [a] => noWalk (stE c sc a)
  | a :: es => .and_ (stE c sc a) (stAnd c sc es)
def stOr (c : Cn) (sc : Scope) : List PE_ → E
  | [] => .never
  | [a] => noWalk (stE c sc a)
  | a :: es => .or_ (stE c sc a) (stOr c sc es)
def stEs (c : Cn) (sc : Scope) : List PE_ → Es
  | [] => .nil
  | e :: es => .cons (stE c sc e) (stEs c sc es)
def stKs (c : Cn) (sc : Scope) : List Keyword → Ks
  | [] => .nil
  | ⟨k, e, _⟩ :: ks => match k with
    | some x => .cons x (stE c sc e) (stKs c sc ks)
    | none => .cons ("" : Str) .never .nil
def stO (c : Cn) (sc : Scope) : Option PE_ → Eo
  | none => .no
  | some e => .yes (stE c sc e)
def stC (c : Cn) (sc : Scope) : List PE_ → Eo
  | [] => .no
  | [e] => .yes (stE c sc e)
  | _ => .yes .never
end
def retE (c : Cn) (sc : Scope) (e : PE_) (p : E) : S := match e with
  | .Name x _ => (match slotOf c sc x with
    | some i => .retV i
    | none => .ret p)
  | _ => .ret p
def exprS (c : Cn) (sc : Scope) : PE_ → S
  | .Constant (.str _) _ _ => .pass
  | .Call (.Attribute (.Name x _) m ap) [a] [] p => if ap.endLine == p.line && !isStar a && m == ("append" : Str) then (match slotOf c sc x with
    | some i => .app i .nil (stE c sc a)
    | none => .never) else .never
  | .Call f es ks p => .ex (stE c sc (.Call f es ks p))
  | _ => .never
/-- two plain names of a def get values all at once -/
def swap2 (sc : Scope) (x y : Str) (px py : PySem.Pos) (a b : PE_) : Bool :=
  sc.kind == .function && !isStar a && !isStar b && sc.names.lookup x == some .local && sc.names.lookup y == some .local && py.line == px.line && !(y == x) && !([a, b].all (PySem.foldedForSure 8)) && !([a, b].all (PySem.constantsAlone 8))
def parS (c : Cn) (sc : Scope) (x y : Str) (px py : PySem.Pos) (a b : PE_) : S := match slotTo c sc x with
  | some i => (match slotTo c sc y with
    | some j => if swap2 sc x y px py a b && !(i == j) then .par [i, j] (.cons (stE c sc a) (.cons (stE c sc b) .nil)) else .never
    | none => .never)
  | none => .never
def nameS (c : Cn) (sc : Scope) (x : Str) (e : PE_) : S := match slotTo c sc x with
  | some i => .asg (.nm i) (stE c sc e)
  | none => .never
def isCompE : PE_ → Bool
  | .ListComp .. => true
  | .SetComp .. => true
  | .DictComp .. => true
  | _ => false
def tupS (c : Cn) (sc : Scope) (tl : List PE_) (e : PE_) : S := if isTupE e || isCompE e then .never else match stTs c sc tl with
  | some ts => .asg (.tp ts) (stE c sc e)
  | none => .never
def putS (c : Cn) (sc : Scope) (x : Str) (i e : PE_) : S := if isSlice i then .never else match slotOf c sc x with
  | some k => .put k (.cons (stE c sc i) .nil) (stE c sc e)
  | none => .never
def asgS (c : Cn) (sc : Scope) : List PE_ → PE_ → S
  | [.Name x _], e => nameS c sc x e
  | [.Tuple [.Name x px, .Name y py] _ _], .Tuple [a, b] _ _ => parS c sc x y px py a b
  | [.Tuple tl _ _], e => tupS c sc tl e
  | [.Subscript (.Name x _) i _], e => putS c sc x i e
  | _, _ => .never
def augS (c : Cn) (sc : Scope) : PE_ → PySem.Operator → PE_ → S
  | .Subscript (.Name x _) i _, .Add, e => if isSlice i then .never else (match slotOf c sc x with
    | some k => .aug k (stE c sc i) .add (stE c sc e)
    | none => .never)
  | _, _, _ => .never
def forS (c : Cn) (sc : Scope) (t it : PE_) (b : Ss) : S := if isSet it then .never else match stT c sc t with
  | some t' => .for_ t' (itOf (isTupE t) (stE c sc it)) b
  | none => .never
mutual
def stS (c : Cn) (sc : Scope) : PySem.Stmt → S
  | .Expr e _ => exprS c sc e
  | .Assign ts e _ => asgS c sc ts e
  | .AugAssign t op e _ => augS c sc t op e
  | .If t a b _ => .if_ (stE c sc t) (stSs c sc a) (stSs c sc b)
  | .For t it b els _ => if els.isEmpty then forS c sc t it (stSs c sc b) else .never
  | .While t b els _ => if els.isEmpty then .whl (stE c sc t) (stSs c sc b) else .never
  | .Return none _ => .retN
  | .Return (some e) _ => retE c sc e (stE c sc e)
  | .Pass _ => .pass
  | .Break _ => .brk
  | .Continue _ => .cont
  | _ => .never
def stSs (c : Cn) (sc : Scope) : List PySem.Stmt → Ss
  | [] => .nil
  | s :: ss => .cons (stS c sc s) (stSs c sc ss)
end
end PP

/-! PPProg: the defs of a text as evaluator code. -/
namespace PP
open PySem (Str Scope NameKind Comprehension Keyword Arguments Stmt)
def locNames (sc : Scope) : List Str := sc.names.filterMap fun (n, k) => if k == .local || k == .cell then some n else none
mutual
/-- the names of all blocks within -/
def blkE : PE_ → List Str
  | .BoolOp _ es _ => blkEs es
  | .BinOp a _ b _ => blkE a ++ blkE b
  | .UnaryOp _ a _ => blkE a
  | .IfExp t a b _ => blkE t ++ (blkE a ++ blkE b)
  | .Compare a _ es _ => blkE a ++ blkEs es
  | .Tuple es _ _ => blkEs es
  | .List es _ => blkEs es
  | .Subscript a i _ => blkE a ++ blkE i
  | .Slice lo hi st _ => blkO lo ++ (blkO hi ++ blkO st)
  | .Call f es ks _ => blkE f ++ (blkEs es ++ blkKs ks)
  | .Attribute a _ _ => blkE a
  | .ListComp elt gens scope _ => locNames scope ++ (blkE elt ++ blkGs gens)
  | _ => []
def blkEs : List PE_ → List Str
  | [] => []
  | e :: es => blkE e ++ blkEs es
def blkO : Option PE_ → List Str
  | none => []
  | some e => blkE e
def blkKs : List Keyword → List Str
  | [] => []
  | ⟨_, e, _⟩ :: ks => blkE e ++ blkKs ks
def blkGs : List Comprehension → List Str
  | [] => []
  | ⟨_, it, ifs, _⟩ :: gs => blkE it ++ (blkEs ifs ++ blkGs gs)
end
mutual
def blkS : Stmt → List Str
  | .Expr e _ => blkE e
  | .Assign ts e _ => blkEs ts ++ blkE e
  | .AugAssign t _ e _ => blkE t ++ blkE e
  | .If t a b _ => blkE t ++ (blkSs a ++ blkSs b)
  | .For _ it b _ _ => blkE it ++ blkSs b
  | .While t b _ _ => blkE t ++ blkSs b
  | .Return (some e) _ => blkE e
  | _ => []
def blkSs : List Stmt → List Str
  | [] => []
  | s :: ss => blkS s ++ blkSs ss
end
def addNew (l : List Str) (x : Str) : List Str := if l.contains x then l else l ++ [x]
def slotsOf (ps : List Str) (sc : Scope) (body : List Stmt) : List Str := (locNames sc ++ blkSs body).foldl addNew ps
def paramsOf (a : Arguments) : Option (List Str) := match a with
  | ⟨[], args, none, [], [], none, []⟩ => some (args.map (·.arg))
  | _ => none
def defNames (body : List Stmt) : List Str := body.filterMap fun s => match s with
  | .FunctionDef n _ _ _ _ _ _ _ _ _ => some n
  | _ => none
/-- the classes and defs of the text: names that are no constants and no built-ins -/
def ownNames (body : List Stmt) : List Str := body.filterMap fun s => match s with
  | .FunctionDef n _ _ _ _ _ _ _ _ _ => some n
  | .ClassDef n _ _ _ _ _ _ _ _ _ _ => some n
  | _ => none
def intC : PE_ → Option Int
  | .Constant (.int i) _ _ => some i
  | .UnaryOp .USub (.Constant (.int i) _ _) _ => some (-i)
  | _ => none
/-- the module's constants: ints, pairs of ints -/
def constsOf (body : List Stmt) : List (Str × D) := body.filterMap fun s => match s with
  | .Assign [.Name x _] (.Constant (.int i) _ _) _ => some (x, .int i)
  | .Assign [.Name x _] (.Tuple [a, b] _ _) _ => (match intC a, intC b with
    | some i, some j => some (x, .tup [.int i, .int j])
    | _, _ => none)
  | _ => none
def cnOf (P : PySem.Program) (N : List Str) : Cn := ⟨N, ownNames P.main.body, constsOf P.main.body⟩
def dfOf (P : PySem.Program) (ioT : List (Str × List Nat)) (kwT : List (Str × List (List Str))) : Stmt → Option (Str × Df)
  | .FunctionDef n a b _ _ _ sc _ _ _ => match paramsOf a with
    | some ps => let N := slotsOf ps sc b
      let io := (ioT.lookup n).getD []
      some (n, .code ⟨ps, io, [], (kwT.lookup n).getD []⟩ ⟨ps.length, N.length, io, stSs (cnOf P N) sc b⟩)
    | none => none
  | _ => none
def codeTab (P : PySem.Program) (ioT : List (Str × List Nat)) (kwT : List (Str × List (List Str))) : List (Str × Df) := P.main.body.filterMap (dfOf P ioT kwT)
def progOf (P : PySem.Program) (ioT : List (Str × List Nat)) (kwT : List (Str × List (List Str))) (prims : List (Str × Df)) : Prog := fun f => match prims.lookup f with
  | some d => some d
  | none => (codeTab P ioT kwT).lookup f
end PP

/-! PPRep: how data lie in the abstract heap; what stays; the frame's relation. -/
namespace PP
open PySem L2
abbrev Fg := PySem.W.Frag
/-- a list that never changes -/
def StL (K : Fg) (H : Hp) (a : Addr) (xs : List V) : Prop :=
  (∃ o, H a = some (.frz o (.lst xs))) ∨
    ∃ (o : Obj) (its : Array Value) (n : Nat), K.lookup a = some o ∧ o.cls = .type "list" ∧ o.dict = none ∧ o.data = .seq its n ∧ its.size ≤ sizeLine ∧ Vals xs its.toList
theorem StL.sq {K : Fg} {H : Hp} {a : Addr} {xs : List V} (h : StL K H a xs) : SqL K H a xs := by
  rcases h with ⟨o, h⟩ | h
  · exact .inl (.inr ⟨o, h⟩)
  · exact .inr h
mutual
/-- v is the data d in H; its own lists stand at fp -/
inductive Rp (K : Fg) (H : Hp) : V → D → List Addr → Prop
  | non : Rp K H .non .non []
  | bl (b : Bool) : Rp K H (.bl b) (.bl b) []
  | int (i : Int) : Rp K H (.int i) (.int i) []
  | str (x : Str) : Rp K H (.str x) (.str x) []
  | lst {a : Addr} {xs : List V} {ds : List D} {fp : List Addr} : H a = some (.lst xs) → RpAll K H xs ds fp → a ∉ fp → Rp K H (.ref a) (.lst ds) (a :: fp)
  | frz {a : Addr} {xs : List V} {ds : List D} {fp : List Addr} : StL K H a xs → RpAll K H xs ds fp → a ∉ fp → Rp K H (.ref a) (.frz ds) fp
  | tup {a : Addr} {xs : List V} {ds : List D} {fp : List Addr} : SqT K H a xs → RpAll K H xs ds fp → a ∉ fp → Rp K H (.ref a) (.tup ds) fp
inductive RpAll (K : Fg) (H : Hp) : List V → List D → List Addr → Prop
  | nil : RpAll K H [] [] []
  | cons {v : V} {vs : List V} {d : D} {ds : List D} {fp fq : List Addr} : Rp K H v d fp → RpAll K H vs ds fq → RpAll K H (v :: vs) (d :: ds) (fp ++ fq)
end
/-- what may change: the lists of M -/
def Kp (M : Addr → Prop) (H H' : Hp) : Prop := ∀ a o, H a = some o → H' a = some o ∨ (M a ∧ ∃ xs ys, o = .lst xs ∧ H' a = some (.lst ys))
section
variable {K : Fg} {M M' : Addr → Prop} {H H' H1 H2 : Hp} {a : Addr} {o : HO} {v : V} {d : D} {fp : List Addr} {xs vs : List V} {ds : List D}
theorem Kp.refl : Kp M H H := fun _ _ h => .inl h
theorem Kp.mono (h : Kp M H H') (m : ∀ a, M a → M' a) : Kp M' H H' := fun a o e => (h a o e).imp id fun ⟨x, y⟩ => ⟨m a x, y⟩
theorem Kp.trans (h : Kp M H H1) (k : Kp M H1 H2) : Kp M H H2 := fun a o e => by
  rcases h a o e with q | ⟨m, xs, ys, rfl, q⟩
  · exact k a o q
  · rcases k a _ q with q' | ⟨_, _, zs, _, q'⟩
    · exact .inr ⟨m, xs, ys, rfl, q'⟩
    · exact .inr ⟨m, xs, zs, rfl, q'⟩
theorem Kp.new (h : H a = none) : Kp M H (upd H a o) := fun b u e => .inl (by rw [upd_ne (ne_of_none e h)]; exact e)
theorem Kp.put (h : H a = some (.lst xs)) (m : M a) : Kp M H (upd H a (.lst vs)) := fun b u e => by
  by_cases hb : b = a
  · subst hb; rw [h] at e; cases e
    exact .inr ⟨m, _, _, rfl, upd_same⟩
  · exact .inl (by rw [upd_ne hb]; exact e)
theorem Kp.none (h : Kp M H H') (e : H' a = none) : H a = none := by
  cases q : H a with
  | none => rfl
  | some o =>
    rcases h a o q with z | ⟨_, _, _, _, z⟩ <;> (rw [e] at z; cases z)
theorem Kp.at (h : Kp M H H') (e : H a = some o) (n : ¬ M a) : H' a = some o := (h a o e).elim id fun ⟨m, _⟩ => (n m).elim
theorem Kp.rdT (h : Kp M H H') (e : Rd H a (.tup xs)) : Rd H' a (.tup xs) := by
  rcases e with e | ⟨o, e⟩
  · rcases h a _ e with z | ⟨_, _, _, z, _⟩
    · exact .inl z
    · cases z
  · rcases h a _ e with z | ⟨_, _, _, z, _⟩
    · exact .inr ⟨o, z⟩
    · cases z
theorem Kp.sqT (h : Kp M H H') (e : SqT K H a xs) : SqT K H' a xs := e.imp h.rdT id
theorem Kp.stL (h : Kp M H H') (e : StL K H a xs) : StL K H' a xs := by
  rcases e with ⟨o, e⟩ | e
  · rcases h a _ e with z | ⟨_, _, _, z, _⟩
    · exact .inl ⟨o, z⟩
    · cases z
  · exact .inr e
mutual
theorem Rp.stay (k : Kp M H H') : ∀ {v : V} {d : D} {fp : List Addr}, Rp K H v d fp → (∀ a ∈ fp, ¬ M a) → Rp K H' v d fp
  | _, _, _, .non, _ => .non
  | _, _, _, .bl b, _ => .bl b
  | _, _, _, .int i, _ => .int i
  | _, _, _, .str x, _ => .str x
  | _, _, _, .lst h r n, m => .lst (k.at h (m _ List.mem_cons_self)) (r.stay k fun a ha => m a (List.mem_cons_of_mem _ ha)) n
  | _, _, _, .frz h r n, m => .frz (k.stL h) (r.stay k m) n
  | _, _, _, .tup h r n, m => .tup (k.sqT h) (r.stay k m) n
theorem RpAll.stay (k : Kp M H H') : ∀ {vs : List V} {ds : List D} {fp : List Addr}, RpAll K H vs ds fp → (∀ a ∈ fp, ¬ M a) → RpAll K H' vs ds fp
  | _, _, _, .nil, _ => .nil
  | _, _, _, .cons h r, m => .cons (h.stay k fun a ha => m a (List.mem_append_left _ ha)) (r.stay k fun a ha => m a (List.mem_append_right _ ha))
end
mutual
/-- the lists of data are tracked -/
theorem Rp.there : ∀ {v : V} {d : D} {fp : List Addr}, Rp K H v d fp → ∀ a ∈ fp, ∃ xs, H a = some (.lst xs)
  | _, _, _, .non, _, h => nomatch h
  | _, _, _, .bl _, _, h => nomatch h
  | _, _, _, .int _, _, h => nomatch h
  | _, _, _, .str _, _, h => nomatch h
  | _, _, _, .lst e r _, a, h => by
    rcases List.mem_cons.mp h with q | q
    · subst q; exact ⟨_, e⟩
    · exact r.there a q
  | _, _, _, .frz _ r _, a, h => r.there a h
  | _, _, _, .tup _ r _, a, h => r.there a h
theorem RpAll.there : ∀ {vs : List V} {ds : List D} {fp : List Addr}, RpAll K H vs ds fp → ∀ a ∈ fp, ∃ xs, H a = some (.lst xs)
  | _, _, _, .nil, _, h => nomatch h
  | _, _, _, .cons x r, a, h => (List.mem_append.mp h).elim (x.there a) (r.there a)
end
mutual
theorem Rp.noL : ∀ {v : V} {d : D} {fp : List Addr}, Rp K H v d fp → PP.noL d = true → fp = []
  | _, _, _, .non, _ => rfl
  | _, _, _, .bl _, _ => rfl
  | _, _, _, .int _, _ => rfl
  | _, _, _, .str _, _ => rfl
  | _, _, _, .lst _ _ _, h => by simp [PP.noL] at h
  | _, _, _, .frz _ r _, h => r.noL (by simpa [PP.noL] using h)
  | _, _, _, .tup _ r _, h => r.noL (by simpa [PP.noL] using h)
theorem RpAll.noL : ∀ {vs : List V} {ds : List D} {fp : List Addr}, RpAll K H vs ds fp → noLs ds = true → fp = []
  | _, _, _, .nil, _ => rfl
  | _, _, _, .cons x r, h => by
    simp only [noLs, Bool.and_eq_true] at h
    rw [x.noL h.1, r.noL h.2]; rfl
end
theorem RpAll.length (r : RpAll K H vs ds fp) : vs.length = ds.length := by
  induction vs generalizing ds fp with
  | nil => cases r; rfl
  | cons v vs ih => cases r with | cons _ r => simp [ih r]
theorem RpAll.get : ∀ {vs : List V} {ds : List D} {fp : List Addr}, RpAll K H vs ds fp → ∀ {i : Nat} {d : D}, ds[i]? = some d → ∃ v fq, vs[i]? = some v ∧ Rp K H v d fq ∧ fq.Sublist fp
  | _, _, _, .nil, i, d, h => by simp at h
  | _, _, _, .cons x r, 0, d, h => by
    have e := Option.some.inj (show some _ = some d from h)
    subst e
    exact ⟨_, _, rfl, x, List.sublist_append_left _ _⟩
  | _, _, _, .cons x r, i + 1, d, h => by
    obtain ⟨v, fq, e, q, s⟩ := r.get (i := i) (d := d) h
    exact ⟨v, fq, e, q, s.trans (List.sublist_append_right _ _)⟩
theorem RpAll.append : ∀ {vs ws : List V} {ds es : List D} {fp fq : List Addr}, RpAll K H vs ds fp → RpAll K H ws es fq → RpAll K H (vs ++ ws) (ds ++ es) (fp ++ fq)
  | _, _, _, _, _, _, .nil, s => s
  | _, _, _, _, _, _, .cons x r, s => by
    rw [List.append_assoc]
    exact .cons x (r.append s)
theorem RpAll.drop : ∀ {vs : List V} {ds : List D} {fp : List Addr} (n : Nat), RpAll K H vs ds fp → ∃ fq, RpAll K H (vs.drop n) (ds.drop n) fq ∧ fq.Sublist fp
  | _, _, _, 0, r => ⟨_, r, List.Sublist.refl _⟩
  | _, _, _, n + 1, .nil => ⟨_, .nil, List.Sublist.refl _⟩
  | _, _, _, n + 1, .cons _ r => by
    obtain ⟨fq, q, s⟩ := r.drop n
    exact ⟨fq, q, s.trans (List.sublist_append_right _ _)⟩
theorem RpAll.take : ∀ {vs : List V} {ds : List D} {fp : List Addr} (n : Nat), RpAll K H vs ds fp → ∃ fq, RpAll K H (vs.take n) (ds.take n) fq ∧ fq.Sublist fp
  | _, _, _, 0, _ => ⟨[], .nil, List.nil_sublist _⟩
  | _, _, _, n + 1, .nil => ⟨_, .nil, List.Sublist.refl _⟩
  | _, _, _, n + 1, .cons x r => by
    obtain ⟨fq, q, s⟩ := r.take n
    exact ⟨_, .cons x q, List.Sublist.append (List.Sublist.refl _) s⟩
/-- an item changed: the lists are those that were, without the item's, and the new one's -/
theorem RpAll.set : ∀ {vs : List V} {ds : List D} {fp : List Addr} {i : Nat} {w : V} {e : D} {fe : List Addr}, RpAll K H vs ds fp → Rp K H w e fe → i < ds.length →
    ∃ f1 f2, RpAll K H (vs.set i w) (ds.set i e) (f1 ++ (fe ++ f2)) ∧ (f1 ++ f2).Sublist fp
  | _, _, _, _, _, _, _, .nil, _, h => by simp at h
  | _, _, _, 0, _, _, _, .cons (fp := fp) (fq := fq) x r, y, _ => by
    refine ⟨[], fq, ?_, by simpa using List.sublist_append_right fp fq⟩
    have q := RpAll.cons y r
    simpa using q
  | _, _, _, i + 1, _, _, _, .cons (fp := fp) (fq := fq) x r, y, h => by
    obtain ⟨f1, f2, q, s⟩ := r.set (i := i) y (by simpa using h)
    refine ⟨fp ++ f1, f2, ?_, ?_⟩
    · rw [List.append_assoc]; exact .cons x q
    · rw [List.append_assoc]; exact List.Sublist.append (List.Sublist.refl _) s
theorem RpAll.rep {vs : List V} {ds : List D} (r : RpAll K H vs ds []) : ∀ n, RpAll K H (List.replicate n vs).flatten (List.replicate n ds).flatten []
  | 0 => .nil
  | n + 1 => by
    have h := r.append (r.rep n)
    simpa [List.replicate_succ] using h
end
end PP

/-! PPRel: the frame's relation, what evaluation may do to it, a value under way. -/
namespace PP
open PySem L2
/-- ghosts: the heap at the entry, the changed parameters' lists by slot, the lists that the arguments reach; X: lists that values under way keep for themselves -/
structure Gh where
  F0 : Hp
  IO : List (Nat × Addr)
  R : Addr → Prop
  X : Addr → Prop
/-- slot i claims the list a -/
def clm (δ : PP.St) (fps : Nat → List Addr) (i : Nat) (a : Addr) : Prop :=
  ∃ s, δ[i]? = some (some s) ∧ ((s.k = .deep ∧ a ∈ fps i) ∨ ((s.k = .own ∨ s.k = .io) ∧ (fps i).head? = some a))
structure FR (K : Fg) (g : Gh) (σ : L2.St) (H : Hp) (δ : PP.St) (fps : Nat → List Addr) : Prop where
  len : δ.length = σ.length
  rep : ∀ i s, δ[i]? = some (some s) → ∃ v, σ[i]? = some (some v) ∧ Rp K H v s.d (fps i)
  top : ∀ i s, δ[i]? = some (some s) → s.k = .own ∨ s.k = .io → ∃ a tl, fps i = a :: tl ∧ a ∉ tl ∧ σ[i]? = some (some (.ref a))
  io : ∀ i s, δ[i]? = some (some s) → s.k = .io → ∃ a, (i, a) ∈ g.IO ∧ (fps i).head? = some a
  mine : ∀ i s a, δ[i]? = some (some s) → s.k ≠ .io → clm δ fps i a → g.F0 a = none
  deep : ∀ i s, δ[i]? = some (some s) → s.k = .deep → (fps i).Nodup ∧ s.S = []
  excl : ∀ i j s a, i ≠ j → clm δ fps i a → δ[j]? = some (some s) → a ∈ fps j → i ∈ s.S ∧ ¬ clm δ fps j a
  reach : ∀ j s a, δ[j]? = some (some s) → a ∈ fps j → g.R a ∨ g.F0 a = none ∨ ∃ i, (i, a) ∈ g.IO
  frame : Kp (fun a => ∃ i, (i, a) ∈ g.IO) g.F0 H
  priv : ∀ j s a, δ[j]? = some (some s) → a ∈ fps j → ¬ g.X a
  old : ∀ a, g.X a → H a ≠ none
/-- what an expression may do: the lists that unprotected slots claim may change; claims only shrink -/
structure Ev (P : List Nat) (H : Hp) (δ : PP.St) (fps : Nat → List Addr) (H' : Hp) (δ' : PP.St) (fps' : Nat → List Addr) : Prop where
  kp : Kp (fun a => ∃ i, i ∉ P ∧ clm δ fps i a) H H'
  sub : ∀ i a, clm δ' fps' i a → clm δ fps i a
  deep : ∀ i ∈ P, ∀ s, δ[i]? = some (some s) → s.k = .deep → δ'[i]? = some (some s) ∧ fps' i = fps i
  len : δ'.length = δ.length
/-- no slot reaches the list a -/
def Away (δ : PP.St) (fps : Nat → List Addr) (a : Addr) : Prop := ∀ j s, δ[j]? = some (some s) → a ∉ fps j
/-- slot i claims all lists within, a among them -/
def dclm (δ : PP.St) (fps : Nat → List Addr) (i : Nat) (a : Addr) : Prop := ∃ s, δ[i]? = some (some s) ∧ s.k = .deep ∧ a ∈ fps i
/-- a value under way: v with the flags of t; Hs: the heap when its evaluation began -/
structure TO (K : Fg) (g : Gh) (Hs H : Hp) (δ : PP.St) (fps : Nat → List Addr) (v : V) (t : Tm) (fp : List Addr) : Prop where
  rep : Rp K H v t.d fp
  cl : ∀ i a, clm δ fps i a → a ∈ fp → i ∈ t.S
  cli : ∀ i a, clm δ fps i a → a ∈ fp → v ≠ .ref a → i ∈ t.Si
  u : t.u = true → fp.Nodup ∧ ∀ a ∈ fp, (∃ i ∈ t.S, dclm δ fps i a) ∨ (Hs a = none ∧ Away δ fps a)
  fr : t.fr = true → ∃ a tl, fp = a :: tl ∧ a ∉ tl ∧ v = .ref a ∧ Hs a = none ∧ Away δ fps a
  reach : ∀ a ∈ fp, g.R a ∨ g.F0 a = none ∨ ∃ i, (i, a) ∈ g.IO
  priv : ∀ a ∈ fp, ¬ g.X a
/-- the lists of fp that no slot reaches are kept -/
def Gh.hide (g : Gh) (δ : PP.St) (fps : Nat → List Addr) (fp : List Addr) : Gh := { g with X := fun a => g.X a ∨ (a ∈ fp ∧ Away δ fps a) }
section
variable {K : Fg} {g : Gh} {P P' : List Nat} {σ : L2.St} {H H1 H2 H' Hs : Hp} {δ δ1 δ2 δ' : PP.St} {fps fps1 fps2 fps' : Nat → List Addr} {v : V} {t : Tm} {fp : List Addr} {d : D}
theorem Ev.refl : Ev P H δ fps H δ fps := ⟨.refl, fun _ _ h => h, fun _ _ _ h _ => ⟨h, rfl⟩, rfl⟩
theorem Ev.back (e : Ev P H δ fps H1 δ1 fps1) : ∀ x, H1 x = none → H x = none := fun _ h => e.kp.none h
theorem Ev.trans (a : Ev P H δ fps H1 δ1 fps1) (b : Ev P H1 δ1 fps1 H2 δ2 fps2) : Ev P H δ fps H2 δ2 fps2 where
  kp := a.kp.trans (b.kp.mono fun x ⟨i, n, c⟩ => ⟨i, n, a.sub i x c⟩)
  sub := fun i x c => a.sub i x (b.sub i x c)
  deep := fun i hi s e k => by
    obtain ⟨e1, f1⟩ := a.deep i hi s e k
    obtain ⟨e2, f2⟩ := b.deep i hi s e1 k
    exact ⟨e2, f2.trans f1⟩
  len := b.len.trans a.len
theorem Ev.mono (a : Ev P' H δ fps H1 δ1 fps1) (h : ∀ i ∈ P, i ∈ P') : Ev P H δ fps H1 δ1 fps1 :=
  ⟨a.kp.mono fun x ⟨i, n, c⟩ => ⟨i, fun z => n (h i z), c⟩, a.sub, fun i hi => a.deep i (h i hi), a.len⟩
/-- new objects, nothing else -/
theorem Ev.kept (h : Kp (fun _ => False) H H') : Ev P H δ fps H' δ fps := ⟨h.mono fun _ z => z.elim, fun _ _ h => h, fun _ _ _ h _ => ⟨h, rfl⟩, rfl⟩
theorem Ev.new {a : Addr} {o : HO} (n : H a = none) : Ev P H δ fps (upd H a o) δ fps := .kept (Kp.new n)
/-- the frame's relation behind new objects -/
theorem FR.kept (f : FR K g σ H δ fps) (k : Kp (fun _ => False) H H') : FR K g σ H' δ fps where
  len := f.len
  rep := fun i s e => let ⟨v, h1, h2⟩ := f.rep i s e; ⟨v, h1, h2.stay k fun _ _ z => z⟩
  top := f.top
  io := f.io
  mine := f.mine
  deep := f.deep
  excl := f.excl
  reach := f.reach
  frame := f.frame.trans (k.mono fun _ z => z.elim)
  priv := f.priv
  old := fun a x z => f.old a x (k.none z)
/-- what is kept, let go -/
theorem FR.less {X' : Addr → Prop} (f : FR K { g with X := X' } σ H δ fps) (h : ∀ a, g.X a → X' a) : FR K g σ H δ fps :=
  ⟨f.len, f.rep, f.top, f.io, f.mine, f.deep, f.excl, f.reach, f.frame, fun j s a e m z => f.priv j s a e m (h a z), fun a z => f.old a (h a z)⟩
theorem FR.shown {δ0 : PP.St} {fps0 : Nat → List Addr} (f : FR K (g.hide δ0 fps0 fp) σ H δ fps) : FR K g σ H δ fps := f.less (g := g) fun _ h => .inl h
/-- lists that no slot reaches may be kept -/
theorem FR.hide (f : FR K g σ H δ fps) (h : ∀ a ∈ fp, H a ≠ none) : FR K (g.hide δ fps fp) σ H δ fps :=
  ⟨f.len, f.rep, f.top, f.io, f.mine, f.deep, f.excl, f.reach, f.frame, fun j s a e m z => z.elim (f.priv j s a e m) fun z => z.2 j s e m, fun a z => z.elim (f.old a) fun z => h a z.1⟩
theorem FR.new {a : Addr} {o : HO} (f : FR K g σ H δ fps) (n : H a = none) : FR K g σ (upd H a o) δ fps := f.kept (Kp.new n)
/-- a new address is out of reach -/
theorem FR.out (f : FR K g σ H δ fps) {a : Addr} (n : H a = none) : Away δ fps a := fun j s e m => by
  obtain ⟨v, _, r⟩ := f.rep j s e
  obtain ⟨xs, h⟩ := r.there a m
  rw [n] at h; cases h
theorem clm.mem {i : Nat} {a : Addr} (c : clm δ fps i a) : ∃ s, δ[i]? = some (some s) ∧ a ∈ fps i := by
  obtain ⟨s, e, ⟨_, m⟩ | ⟨_, m⟩⟩ := c
  · exact ⟨s, e, m⟩
  · exact ⟨s, e, List.mem_of_mem_head? (by rw [m]; rfl)⟩
theorem dclm.clm {i : Nat} {a : Addr} (c : dclm δ fps i a) : clm δ fps i a := let ⟨s, e, k, m⟩ := c; ⟨s, e, .inl ⟨k, m⟩⟩
/-- a claimed list lies in the heap -/
theorem FR.has (f : FR K g σ H δ fps) {i : Nat} {a : Addr} (c : clm δ fps i a) : ∃ xs, H a = some (.lst xs) := by
  obtain ⟨s, e, m⟩ := c.mem
  obtain ⟨v, _, r⟩ := f.rep i s e
  exact r.there a m
theorem TO.of_noL (r : Rp K H v d []) (u : Bool) (S Si : List Nat) : TO K g Hs H δ fps v ⟨d, false, u, S, Si⟩ [] :=
  ⟨r, (fun _ _ _ h => nomatch h), (fun _ _ _ h => nomatch h), (fun _ => ⟨.nil, (fun _ h => nomatch h)⟩), (fun h => nomatch h), (fun _ h => nomatch h), (fun _ h => nomatch h)⟩
theorem TO.scal (r : Rp K H v d []) : TO K g Hs H δ fps v (PP.scal d) [] :=
  ⟨r, (fun _ _ _ h => nomatch h), (fun _ _ _ h => nomatch h), (fun h => nomatch h), (fun h => nomatch h), (fun _ h => nomatch h), (fun _ h => nomatch h)⟩
/-- behind the evaluation of what comes next -/
theorem TO.shown {δ0 : PP.St} {fps0 : Nat → List Addr} {fq : List Addr} (a : TO K (g.hide δ0 fps0 fq) Hs H δ fps v t fp) : TO K g Hs H δ fps v t fp := ⟨a.rep, a.cl, a.cli, a.u, a.fr, a.reach, fun x hx z => a.priv x hx (.inl z)⟩
theorem TO.later (a : TO K g Hs H1 δ1 fps1 v t fp) (e : Ev P H1 δ1 fps1 H2 δ2 fps2) (f : FR K (g.hide δ1 fps1 fp) σ H2 δ2 fps2) (h : ∀ i ∈ t.S, i ∈ P) : TO K g Hs H2 δ2 fps2 v t fp := by
  have out : ∀ x ∈ fp, Away δ1 fps1 x → Away δ2 fps2 x := fun x hx o j s e2 m => f.priv j s x e2 m (.inr ⟨hx, o⟩)
  refine ⟨a.rep.stay e.kp fun x hx ⟨i, n, c⟩ => n (h i (a.cl i x c hx)), fun i x c hx => a.cl i x (e.sub i x c) hx, fun i x c hx => a.cli i x (e.sub i x c) hx, fun hu => ?_, fun hf => ?_, a.reach, a.priv⟩
  · obtain ⟨n, q⟩ := a.u hu
    refine ⟨n, fun x hx => ?_⟩
    rcases q x hx with ⟨i, hi, s, e1, k, m⟩ | ⟨q1, q2⟩
    · obtain ⟨e2, f2⟩ := e.deep i (h i hi) s e1 k
      exact .inl ⟨i, hi, s, e2, k, by rw [f2]; exact m⟩
    · exact .inr ⟨q1, out x hx q2⟩
  · obtain ⟨x, tl, e1, n, z, q1, q2⟩ := a.fr hf
    exact ⟨x, tl, e1, n, z, q1, out x (by rw [e1]; exact List.mem_cons_self) q2⟩
/-- begun earlier -/
theorem TO.since (a : TO K g H1 H2 δ2 fps2 v t fp) (h : ∀ x, H1 x = none → H x = none) : TO K g H H2 δ2 fps2 v t fp :=
  ⟨a.rep, a.cl, a.cli, (fun hu => let ⟨n, q⟩ := a.u hu; ⟨n, fun x hx => (q x hx).imp id fun z => ⟨h x z.1, z.2⟩⟩), (fun hf => let ⟨x, tl, e, n, z, q, o⟩ := a.fr hf; ⟨x, tl, e, n, z, h x q, o⟩), a.reach, a.priv⟩
/-- behind new objects -/
theorem TO.kept (a : TO K g Hs H δ fps v t fp) (k : Kp (fun _ => False) H H') : TO K g Hs H' δ fps v t fp :=
  ⟨a.rep.stay k fun _ _ z => z, a.cl, a.cli, a.u, a.fr, a.reach, a.priv⟩
/-- a slot read -/
theorem FR.read (f : FR K g σ H δ fps) {x : Nat} (h : rd x δ = some t) : ∃ v, σ[x]? = some (some v) ∧ TO K g Hs H δ fps v t (fps x) := by
  unfold rd at h
  cases e : δ[x]? with
  | none => rw [e] at h; cases h
  | some o =>
    cases o with
    | none => rw [e] at h; cases h
    | some s =>
      rw [e] at h
      cases h
      obtain ⟨v, hv, r⟩ := f.rep x s e
      have mem : ∀ i a, clm δ fps i a → a ∈ fps x → i ∈ (if s.k.cl = true then x :: s.S else s.S) := fun i a c ha => by
        by_cases hi : i = x
        · subst hi
          obtain ⟨s', e', q⟩ := c
          rw [e] at e'; cases e'
          rcases q with ⟨q, _⟩ | ⟨q | q, _⟩ <;> simp [q, Kd.cl]
        · have := (f.excl i x s a hi c e ha).1
          split
          · exact List.mem_cons_of_mem _ this
          · exact this
      refine ⟨v, hv, r, mem, fun i a c ha hne => ?_, fun hu => ?_, (fun h => nomatch h), (fun a ha => f.reach x s a e ha), fun a ha => f.priv x s a e ha⟩
      · show i ∈ (if s.k.dp = true then x :: s.S else s.S)
        by_cases hi : i = x
        · subst hi
          obtain ⟨s', e', q⟩ := id c
          rw [e] at e'; cases e'
          rcases q with ⟨q, _⟩ | ⟨q, q2⟩
          · simp [q, Kd.dp]
          · obtain ⟨b, tl, e1, _, e3⟩ := f.top i s e q
            rw [e1] at q2
            have q3 : b = a := by simpa using q2
            rw [hv] at e3
            have e4 : v = .ref b := Option.some.inj (Option.some.inj e3)
            exact absurd (by rw [e4, q3]) hne
        · have := (f.excl i x s a hi c e ha).1
          split
          · exact List.mem_cons_of_mem _ this
          · exact this
      · have k : s.k = .deep := by
          have : s.k.dp = true := hu
          cases hk : s.k <;> simp [hk, Kd.dp] at this
          rfl
        obtain ⟨d1, _⟩ := f.deep x s e k
        exact ⟨d1, fun a ha => .inl ⟨x, by show x ∈ (if s.k.cl = true then x :: s.S else s.S); simp [k, Kd.cl], s, e, k, ha⟩⟩
end
end PP

/-! PPOps: operators and built-in functions by data. -/
namespace PP
open PySem PySem.Spec PyProof.Rows L2
section
variable {K : Fg} {H : Hp} {v : V} {d : D} {fp : List Addr}
mutual
theorem Rp.dp : ∀ {v : V} {d : D} {fp : List Addr}, Rp K H v d fp → isPy d = true → Dp K H v (py d)
  | _, _, _, .non, _ => by simp only [py]; exact .non
  | _, _, _, .bl b, _ => by simp only [py]; exact .bl b
  | _, _, _, .int i, _ => by simp only [py]; exact .int i
  | _, _, _, .str x, _ => by simp only [py]; exact .str x
  | _, _, _, .lst e r _, h => by simp only [py]; exact .lst (.of e) (r.dp (by simpa [isPy] using h))
  | _, _, _, .tup e r _, h => by simp only [py]; exact .tup e (r.dp (by simpa [isPy] using h))
  | _, _, _, .frz _ _ _, h => by simp [isPy] at h
theorem RpAll.dp : ∀ {vs : List V} {ds : List D} {fp : List Addr}, RpAll K H vs ds fp → isPys ds = true → DpAll K H vs (pys ds)
  | _, _, _, .nil, _ => by simp only [pys]; exact .nil
  | _, _, _, .cons x r, h => by
    simp only [isPys, Bool.and_eq_true] at h
    simp only [pys]
    exact .cons (x.dp h.1) (r.dp h.2)
end
mutual
theorem py_lay : ∀ d : D, isPy d = true → (py d).canLay0 = true
  | .non, _ => by simp [py, PyData.canLay0]
  | .bl _, _ => by simp [py, PyData.canLay0]
  | .int _, _ => by simp [py, PyData.canLay0]
  | .str x, h => by simpa [py, isPy] using h
  | .tup ds, h => by simp only [py, PyData.canLay0]; exact pys_lay ds (by simpa [isPy] using h)
  | .lst ds, h => by simp only [py, PyData.canLay0]; exact pys_lay ds (by simpa [isPy] using h)
  | .frz _, h => by simp [isPy] at h
  | .edct, h => by simp [isPy] at h
  | .cls _, h => by simp [isPy] at h
  | .exc _ _, h => by simp [isPy] at h
  | .fn _ _, h => by simp [isPy] at h
theorem pys_lay : ∀ ds : List D, isPys ds = true → PyData.canLayAll0 (pys ds) = true
  | [], _ => by simp [pys, PyData.canLayAll0]
  | d :: ds, h => by
    simp only [isPys, Bool.and_eq_true] at h
    simp only [pys, PyData.canLayAll0, Bool.and_eq_true]
    exact ⟨py_lay d h.1, pys_lay ds h.2⟩
end
mutual
theorem py_dep : ∀ d : D, (py d).depth ≤ dep d
  | .non => by simp [py, PyData.depth]
  | .bl _ => by simp [py, PyData.depth]
  | .int _ => by simp [py, PyData.depth]
  | .str x => by simp [py, PyData.depth]
  | .tup ds => by simp only [py, PyData.depth, dep]; have := pys_dep ds; omega
  | .lst ds => by simp only [py, PyData.depth, dep]; have := pys_dep ds; omega
  | .frz _ => by simp [py, PyData.depth]
  | .edct => by simp [py, PyData.depth]
  | .cls _ => by simp [py, PyData.depth]
  | .exc _ _ => by simp [py, PyData.depth]
  | .fn _ _ => by simp [py, PyData.depth]
theorem pys_dep : ∀ ds : List D, PyData.depthAll (pys ds) ≤ deps ds
  | [] => by simp [pys, PyData.depthAll]
  | d :: ds => by
    simp only [pys, PyData.depthAll, deps]
    have h1 := py_dep d
    have h2 := pys_dep ds
    omega
end
theorem plain_shaped {d : D} (h : plain d = true) : isPy d = true ∧ SeqAt.shaped (py d) = true := by
  simp only [plain, Bool.and_eq_true, decide_eq_true_eq] at h
  refine ⟨h.1, ?_⟩
  unfold SeqAt.shaped
  rw [Bool.and_eq_true]
  exact ⟨py_lay d h.1, decide_eq_true (Nat.le_trans (py_dep d) (by omega))⟩
mutual
theorem eqv_py : ∀ a b : D, isPy a = true → isPy b = true → PyData.eqv (py a) (py b) = eqv a b
  | .lst xs, .lst ys, ha, hb => by simp only [py, PyData.eqv, eqv]; exact eqvs_py xs ys (by simpa [isPy] using ha) (by simpa [isPy] using hb)
  | .tup xs, .tup ys, ha, hb => by simp only [py, PyData.eqv, eqv]; exact eqvs_py xs ys (by simpa [isPy] using ha) (by simpa [isPy] using hb)
  | .non, b, _, hb => by cases b <;> first | simp [isPy] at hb; done | simp [py, PyData.eqv, eqv]
  | .bl x, b, _, hb => by cases b <;> first | simp [isPy] at hb; done | simp [py, PyData.eqv, eqv]
  | .int i, b, _, hb => by cases b <;> first | simp [isPy] at hb; done | simp [py, PyData.eqv, eqv]
  | .str x, b, _, hb => by cases b <;> first | simp [isPy] at hb; done | simp [py, PyData.eqv, eqv]
  | .lst xs, b, ha, hb => by cases b <;> first
      | (simp [isPy] at hb; done)
      | (simp [py, PyData.eqv, eqv]; done)
      | (simp only [py, PyData.eqv, eqv]; exact eqvs_py xs _ (by simpa [isPy] using ha) (by simpa [isPy] using hb))
  | .tup xs, b, ha, hb => by cases b <;> first
      | (simp [isPy] at hb; done)
      | (simp [py, PyData.eqv, eqv]; done)
      | (simp only [py, PyData.eqv, eqv]; exact eqvs_py xs _ (by simpa [isPy] using ha) (by simpa [isPy] using hb))
  | .frz _, _, h, _ => by simp [isPy] at h
  | .edct, _, h, _ => by simp [isPy] at h
  | .cls _, _, h, _ => by simp [isPy] at h
  | .exc _ _, _, h, _ => by simp [isPy] at h
  | .fn _ _, _, h, _ => by simp [isPy] at h
theorem eqvs_py : ∀ as bs : List D, isPys as = true → isPys bs = true → PyData.eqvAll (pys as) (pys bs) = eqvs as bs
  | [], [], _, _ => by simp [pys, PyData.eqvAll, eqvs]
  | [], _ :: _, _, _ => by simp [pys, PyData.eqvAll, eqvs]
  | _ :: _, [], _, _ => by simp [pys, PyData.eqvAll, eqvs]
  | a :: as, b :: bs, ha, hb => by
    simp only [isPys, Bool.and_eq_true] at ha hb
    simp only [pys, PyData.eqvAll, eqvs]
    rw [eqv_py a b ha.1 hb.1, eqvs_py as bs ha.2 hb.2]
end
theorem py_items {ds : List D} (h : isPy (.lst ds) = true) : isPys ds = true := by simpa [isPy] using h
theorem py_itemsT {ds : List D} (h : isPy (.tup ds) = true) : isPys ds = true := by simpa [isPy] using h
mutual
theorem py_nodict : ∀ d : D, (py d).hasDict = false
  | .non => by simp [py, PyData.hasDict]
  | .bl _ => by simp [py, PyData.hasDict]
  | .int _ => by simp [py, PyData.hasDict]
  | .str x => by simp [py, PyData.hasDict]
  | .tup ds => by simp only [py, PyData.hasDict]; exact pys_nodict ds
  | .lst ds => by simp only [py, PyData.hasDict]; exact pys_nodict ds
  | .frz _ => by simp [py, PyData.hasDict]
  | .edct => by simp [py, PyData.hasDict]
  | .cls _ => by simp [py, PyData.hasDict]
  | .exc _ _ => by simp [py, PyData.hasDict]
  | .fn _ _ => by simp [py, PyData.hasDict]
theorem pys_nodict : ∀ ds : List D, PyData.hasDictAll (pys ds) = false
  | [] => by simp [pys, PyData.hasDictAll]
  | d :: ds => by simp only [pys, PyData.hasDictAll, py_nodict d, pys_nodict ds, Bool.or_self]
end
theorem any_py {ys : List D} {a : D} (h : isPys ys = true) (ha : isPy a = true) : ((pys ys).any fun z => PyData.eqv z (py a)) = ys.any fun z => eqv z a := by
  induction ys with
  | nil => rfl
  | cons y ys ih =>
    simp only [isPys, Bool.and_eq_true] at h
    simp only [pys, List.any_cons]
    rw [eqv_py y a h.1 ha, ih h.2]
end
section
variable {X : Cx} {pins : List (Addr × Obj)} {s : Shared} {σ : L2.St} {H : Hp} {x y : V} {v u : Value} {Q : VK} {a b : D} {fp fq : List Addr} {r : Bool}
theorem isTag {x : V} {a : D} (h : Rp X.K H x a fp) : (decide (x = .non)) = isNon a ∧ ∀ c, x = .bl c ↔ a = .bl c := by
  cases h <;> simp [isNon]
theorem cmp_ok (hu : X.A.units + 70 < cLine) {o : CO} {op : CmpOp} (ho : coOf op = o) (h : cmpD o a b = some r) (I : Inv X pins σ H s) (rx : RelV x v) (ry : RelV y u) (ra : Rp X.K H x a fp) (rb : Rp X.K H y b fq) (q : Q (.bl r) H) :
    wpAny (model X.prog X.w) X.A (compareOp op v u) (EP X pins σ Q) X.xe s := by
  subst ho
  cases op with
  | Eq =>
    simp only [coOf, cmpD] at h
    split at h
    · rename_i hp
      rw [Bool.and_eq_true] at hp
      obtain ⟨p1, s1⟩ := plain_shaped hp.1
      obtain ⟨p2, s2⟩ := plain_shaped hp.2
      cases h
      refine op_eqD (by omega) pins s σ H x y v u Q I rx ry ⟨_, _, ra.dp p1, rb.dp p2, s1, s2, ?_⟩
      rw [eqv_py a b p1 p2]; exact q
    · cases h
  | NotEq =>
    simp only [coOf, cmpD] at h
    split at h
    · rename_i hp
      rw [Bool.and_eq_true] at hp
      obtain ⟨p1, s1⟩ := plain_shaped hp.1
      obtain ⟨p2, s2⟩ := plain_shaped hp.2
      cases h
      refine op_neD (by omega) pins s σ H x y v u Q I rx ry ⟨_, _, ra.dp p1, rb.dp p2, s1, s2, ?_⟩
      rw [eqv_py a b p1 p2]; exact q
    · cases h
  | Lt =>
    cases ra <;> first | (simp [coOf, cmpD] at h; done) | (cases rb <;> first | (simp [coOf, cmpD] at h; done) | skip)
    simp only [coOf, cmpD, Option.some.injEq] at h
    subst h
    exact op_lt pins s σ H _ _ v u Q I rx ry ⟨_, _, rfl, rfl, q⟩
  | LtE =>
    cases ra <;> first | (simp [coOf, cmpD] at h; done) | (cases rb <;> first | (simp [coOf, cmpD] at h; done) | skip)
    simp only [coOf, cmpD, Option.some.injEq] at h
    subst h
    exact op_le pins s σ H _ _ v u Q I rx ry ⟨_, _, rfl, rfl, q⟩
  | Gt =>
    cases ra <;> first | (simp [coOf, cmpD] at h; done) | (cases rb <;> first | (simp [coOf, cmpD] at h; done) | skip)
    simp only [coOf, cmpD, Option.some.injEq] at h
    subst h
    exact op_gt pins s σ H _ _ v u Q I rx ry ⟨_, _, rfl, rfl, q⟩
  | GtE =>
    cases ra <;> first | (simp [coOf, cmpD] at h; done) | (cases rb <;> first | (simp [coOf, cmpD] at h; done) | skip)
    simp only [coOf, cmpD, Option.some.injEq] at h
    subst h
    exact op_ge pins s σ H _ _ v u Q I rx ry ⟨_, _, rfl, rfl, q⟩
  | Is =>
    cases rb <;> first | (simp [coOf, cmpD] at h; done) | skip
    · simp only [coOf, cmpD, Option.some.injEq] at h
      subst h
      exact op_isN pins s σ H _ _ v u Q I rx ry ⟨rfl, by rw [(isTag ra).1]; exact q⟩
    · rename_i c
      simp only [coOf, cmpD, Option.some.injEq] at h
      subst h
      cases (show u = Value.bool c from ry)
      cases ra <;> first
        | (cases (show v = Value.none from rx); exact wpAny_is_plain rfl ⟨.bl _, H, I, rfl, q⟩)
        | (cases (show v = Value.bool _ from rx); exact wpAny_is_plain rfl ⟨.bl _, H, I, rfl, by
            rename_i e
            have z : (Value.bool e == Value.bool c) = (e == c) := by cases e <;> cases c <;> rfl
            rw [z]; exact q⟩)
        | (obtain ⟨t, rfl⟩ := rx; exact wpAny_is_plain rfl ⟨.bl _, H, I, rfl, q⟩)
        | (cases rx; exact wpAny_is_plain rfl ⟨.bl _, H, I, rfl, q⟩)
  | IsNot =>
    cases rb <;> first | (simp [coOf, cmpD] at h; done) | skip
    · simp only [coOf, cmpD, Option.some.injEq] at h
      subst h
      exact op_notN pins s σ H _ _ v u Q I rx ry ⟨rfl, by rw [(isTag ra).1]; exact q⟩
    · rename_i c
      simp only [coOf, cmpD, Option.some.injEq] at h
      subst h
      cases (show u = Value.bool c from ry)
      cases ra <;> first
        | (cases (show v = Value.none from rx); exact wpAny_isNot_plain rfl ⟨.bl _, H, I, rfl, q⟩)
        | (cases (show v = Value.bool _ from rx); exact wpAny_isNot_plain rfl ⟨.bl _, H, I, rfl, by
            rename_i e
            have z : (Value.bool e == Value.bool c) = (e == c) := by cases e <;> cases c <;> rfl
            rw [z]; exact q⟩)
        | (obtain ⟨t, rfl⟩ := rx; exact wpAny_isNot_plain rfl ⟨.bl _, H, I, rfl, q⟩)
        | (cases rx; exact wpAny_isNot_plain rfl ⟨.bl _, H, I, rfl, q⟩)
  | In =>
    cases rb <;> first | (simp [coOf, cmpD] at h; done) | skip
    · rename_i e rr n
      simp only [coOf, cmpD] at h
      split at h
      · rename_i hp
        rw [Bool.and_eq_true] at hp
        obtain ⟨p1, s1⟩ := plain_shaped hp.1
        obtain ⟨p2, s2⟩ := plain_shaped hp.2
        cases h
        have p3 := py_items p2
        refine op_inD (by omega) pins s σ H _ _ v u Q I rx ry ⟨_, _, ra.dp p1, (Rp.lst e rr n).dp p2, s1, s2, ?_⟩
        rw [any_py p3 p1]; exact q
      · cases h
    · rename_i e rr n
      simp only [coOf, cmpD] at h
      split at h
      · rename_i hp
        rw [Bool.and_eq_true] at hp
        obtain ⟨p1, s1⟩ := plain_shaped hp.1
        obtain ⟨p2, s2⟩ := plain_shaped hp.2
        cases h
        have p3 := py_itemsT p2
        obtain ⟨as, r1⟩ := Dp.reads I _ _ v (ra.dp p1) rx
        obtain ⟨bs, r2⟩ := Dp.reads I _ _ u ((Rp.tup e rr n).dp p2) ry
        refine SeqAt.in_tuple_reads (by simpa only [py] using r2) r1 (pys_lay _ p3) (py_lay _ p1) (room_in_shaped s1 (by omega)) ⟨.bl _, H, I, rfl, ?_⟩
        rw [any_py p3 p1]; exact q
      · cases h
  | NotIn =>
    cases rb <;> first | (simp [coOf, cmpD] at h; done) | skip
    · rename_i e rr n
      simp only [coOf, cmpD] at h
      split at h
      · rename_i hp
        rw [Bool.and_eq_true] at hp
        obtain ⟨p1, s1⟩ := plain_shaped hp.1
        obtain ⟨p2, s2⟩ := plain_shaped hp.2
        cases h
        have p3 := py_items p2
        refine op_notInD (by omega) pins s σ H _ _ v u Q I rx ry ⟨_, _, ra.dp p1, (Rp.lst e rr n).dp p2, s1, s2, ?_⟩
        rw [any_py p3 p1]; exact q
      · cases h
    · rename_i e rr n
      simp only [coOf, cmpD] at h
      split at h
      · rename_i hp
        rw [Bool.and_eq_true] at hp
        obtain ⟨p1, s1⟩ := plain_shaped hp.1
        obtain ⟨p2, s2⟩ := plain_shaped hp.2
        cases h
        have p3 := py_itemsT p2
        obtain ⟨as, r1⟩ := Dp.reads I _ _ v (ra.dp p1) rx
        obtain ⟨bs, r2⟩ := Dp.reads I _ _ u ((Rp.tup e rr n).dp p2) ry
        refine SeqAt.notIn_tuple_reads (by simpa only [py] using r2) r1 (pys_lay _ p3) (py_lay _ p1) (room_in_shaped s1 (by omega)) ⟨.bl _, H, I, rfl, ?_⟩
        rw [any_py p3 p1]; exact q
      · cases h
end

/-! ### arithmetic -/
/-- how an operator's answer lies: it holds no list, or it is a new list of these items -/
def NewL (K : Fg) (H : Hp) (ds : List D) (fp : List Addr) (Q : VK) : Prop := ∀ (p : Addr) (xs : List V), H p = none → RpAll K H xs ds fp → Q (.ref p) (upd H p (.lst xs))
section
variable {X : Cx} {pins : List (Addr × Obj)} {s : Shared} {σ : L2.St} {H : Hp} {x y : V} {v u : Value} {Q : VK} {a b : Tm} {t : Tm} {fp fq : List Addr}
/-- items of a list, without its own place -/
def itf (d : D) (fp : List Addr) : List Addr := match d with
  | .lst _ => fp.tail
  | _ => fp
theorem int_of (h : Rp X.K H x (.int i) fp) : x = .int i := by cases h; rfl
theorem opB_ok {o : Operator} {p : B2} (ho : opOf o = some p) (h : opB p a b = some t) (I : Inv X pins σ H s) (rx : RelV x v) (ry : RelV y u) (ra : Rp X.K H x a.d fp) (rb : Rp X.K H y b.d fq)
    (q1 : t = scal t.d → (∀ z, Rp X.K H z t.d [] → Q z H))
    (q2 : ∀ xs ys, a.d = .lst xs → b.d = .lst ys → t = ⟨.lst (xs ++ ys), true, (a.u || noLs xs) && (b.u || noLs ys) && disj (siOf xs a.Si) (siOf ys b.Si), siOf xs a.Si ++ siOf ys b.Si, siOf xs a.Si ++ siOf ys b.Si⟩ → NewL X.K H (xs ++ ys) (fp.tail ++ fq.tail) Q)
    (q3 : ∀ ds, t = ⟨.lst ds, true, true, [], []⟩ → NewL X.K H ds [] Q) :
    wpAny (model X.prog X.w) X.A (binaryOp o v u) (EP X pins σ Q) X.xe s := by
  obtain ⟨da, _, _, _, _⟩ := a
  obtain ⟨db, _, _, _, _⟩ := b
  simp only at ra rb q2 q3
  cases o <;> simp only [opOf, Option.some.injEq, reduceCtorEq] at ho <;> subst ho
  · -- add
    cases ra <;> first | (simp [opB] at h; done) | (cases rb <;> first | (simp [opB] at h; done) | skip)
    · simp only [opB, Option.some.injEq] at h
      subst h
      exact op_add pins s σ H _ _ v u Q I rx ry ⟨_, _, rfl, rfl, q1 rfl _ (.int _)⟩
    · simp only [opB] at h
      split at h
      · rename_i hz
        simp only [Option.some.injEq] at h
        subst h
        exact op_add_str pins s σ H _ _ v u Q I rx ry ⟨_, _, rfl, rfl, hz, q1 rfl _ (.str _)⟩
      · cases h
    · rename_i l1 xs1 ds1 fp1 e1 r1 n1 l2 xs2 ds2 fp2 e2 r2 n2
      simp only [opB] at h
      split at h
      · rename_i hz
        simp only [Option.some.injEq] at h
        have q := q2 _ _ rfl rfl h.symm
        refine op_cat pins s σ H _ _ v u Q I rx ry ⟨_, _, _, _, rfl, rfl, e1, e2, ?_, fun p hp => q p _ hp (r1.append r2)⟩
        rw [r1.length, r2.length]; exact hz
      · cases h
  · -- sub
    cases ra <;> first | (simp [opB] at h; done) | (cases rb <;> first | (simp [opB] at h; done) | skip)
    simp only [opB, Option.some.injEq] at h
    subst h
    exact op_sub pins s σ H _ _ v u Q I rx ry ⟨_, _, rfl, rfl, q1 rfl _ (.int _)⟩
  · -- mul
    cases ra <;> first | (simp [opB] at h; done) | (cases rb <;> first | (simp [opB] at h; done) | skip)
    · simp only [opB] at h
      split at h
      · rename_i hz
        simp only [Option.some.injEq] at h
        subst h
        exact op_mulW pins s σ H _ _ v u Q I rx ry ⟨_, _, rfl, rfl, hz, q1 rfl _ (.int _)⟩
      · cases h
    · rename_i l1 xs1 ds1 fp1 e1 r1 n1 k
      simp only [opB] at h
      split at h
      · rename_i hz
        simp only [Option.some.injEq] at h
        have nl := hz.2.2.2
        have q := q3 _ h.symm
        have e0 := r1.noL nl
        subst e0
        refine op_rep pins s σ H _ _ v u Q I rx ry ⟨_, _, _, rfl, rfl, e1, hz.1, hz.2.1, ?_, fun p hp => q p _ hp (r1.rep _)⟩
        rw [r1.length]; exact hz.2.2.1
      · cases h
  · -- mod
    cases ra <;> first | (simp [opB] at h; done) | (cases rb <;> first | (simp [opB] at h; done) | skip)
    simp only [opB] at h
    split at h
    · rename_i hz
      simp only [Option.some.injEq] at h
      subst h
      exact op_mod pins s σ H _ _ v u Q I rx ry ⟨_, _, rfl, rfl, hz, q1 rfl _ (.int _)⟩
    · cases h
  · -- pow
    cases ra <;> first | (simp [opB] at h; done) | (cases rb <;> first | (simp [opB] at h; done) | skip)
    simp only [opB] at h
    split at h
    · rename_i hz
      simp only [Option.some.injEq] at h
      subst h
      exact op_pow pins s σ H _ _ v u Q I rx ry ⟨_, _, rfl, rfl, hz, q1 rfl _ (.int _)⟩
    · cases h
  · -- floordiv
    cases ra <;> first | (simp [opB] at h; done) | (cases rb <;> first | (simp [opB] at h; done) | skip)
    simp only [opB] at h
    split at h
    · rename_i hz
      simp only [Option.some.injEq] at h
      subst h
      exact op_fdivW pins s σ H _ _ v u Q I rx ry ⟨_, _, rfl, rfl, hz, q1 rfl _ (.int _)⟩
    · cases h
end
/-! ### items -/
section
variable {X : Cx} {pins : List (Addr × Obj)} {s : Shared} {σ : L2.St} {H : Hp} {x y : V} {v u : Value} {Q : VK} {a b : Tm} {t : Tm} {fp fq : List Addr}
theorem ixN_map {n : Nat} {k : Int} : ixN n k = ixN n k := rfl
theorem atI_rp {K : Fg} {xs : List V} {ds : List D} {k : Int} {d : D} {fp : List Addr} (r : RpAll K H xs ds fp) (h : atI ds k = some d) : ∃ v fq, atI xs k = some v ∧ Rp K H v d fq ∧ fq.Sublist fp := by
  unfold atI at h ⊢
  rw [r.length]
  cases e : ixN ds.length k with
  | none => rw [e] at h; cases h
  | some j =>
    rw [e] at h
    exact r.get (i := j) h
theorem opSub_ok' {K : Fg} (h : opSub a b = some t) (ra : Rp K H x a.d fp) (rb : Rp K H y b.d fq)
    (q : ∀ z fr, Rp K H z t.d fr → fr.Sublist (itf a.d fp) → Q z H) : rIx K x y H Q := by
  obtain ⟨da, _, _, _, _⟩ := a
  obtain ⟨db, _, _, _, _⟩ := b
  simp only at ra rb q
  cases ra <;> first | (simp [opSub] at h; done) | (cases rb <;> first | (simp [opSub] at h; done) | skip)
  · rename_i e r n k
    simp only [opSub] at h
    obtain ⟨d, hd, e2⟩ := Option.map_eq_some_iff.mp h
    obtain ⟨w, fr, h1, h2, h3⟩ := atI_rp r hd
    exact .inl ⟨_, _, _, w, rfl, rfl, .of e, h1, q w fr (by rw [← e2]; exact h2) h3⟩
  · rename_i e r n k
    simp only [opSub] at h
    obtain ⟨d, hd, e2⟩ := Option.map_eq_some_iff.mp h
    obtain ⟨w, fr, h1, h2, h3⟩ := atI_rp r hd
    exact .inl ⟨_, _, _, w, rfl, rfl, e.sq, h1, q w fr (by rw [← e2]; exact h2) h3⟩
  · rename_i e r n k
    simp only [opSub] at h
    obtain ⟨d, hd, e2⟩ := Option.map_eq_some_iff.mp h
    obtain ⟨w, fr, h1, h2, h3⟩ := atI_rp r hd
    exact .inr (.inl ⟨_, _, _, w, rfl, rfl, e, h1, q w fr (by rw [← e2]; exact h2) h3⟩)
theorem opSub_ok (h : opSub a b = some t) (ra : Rp X.K H x a.d fp) (rb : Rp X.K H y b.d fq)
    (q : ∀ z fr, Rp X.K H z t.d fr → fr.Sublist (itf a.d fp) → Q z H) : rIx X.K x y H Q := by
  obtain ⟨da, _, _, _, _⟩ := a
  obtain ⟨db, _, _, _, _⟩ := b
  simp only at ra rb q
  cases ra <;> first | (simp [opSub] at h; done) | (cases rb <;> first | (simp [opSub] at h; done) | skip)
  · rename_i e r n k
    simp only [opSub] at h
    obtain ⟨d, hd, e2⟩ := Option.map_eq_some_iff.mp h
    obtain ⟨w, fr, h1, h2, h3⟩ := atI_rp r hd
    exact .inl ⟨_, _, _, w, rfl, rfl, .of e, h1, q w fr (by rw [← e2]; exact h2) h3⟩
  · rename_i e r n k
    simp only [opSub] at h
    obtain ⟨d, hd, e2⟩ := Option.map_eq_some_iff.mp h
    obtain ⟨w, fr, h1, h2, h3⟩ := atI_rp r hd
    exact .inl ⟨_, _, _, w, rfl, rfl, e.sq, h1, q w fr (by rw [← e2]; exact h2) h3⟩
  · rename_i e r n k
    simp only [opSub] at h
    obtain ⟨d, hd, e2⟩ := Option.map_eq_some_iff.mp h
    obtain ⟨w, fr, h1, h2, h3⟩ := atI_rp r hd
    exact .inr (.inl ⟨_, _, _, w, rfl, rfl, e, h1, q w fr (by rw [← e2]; exact h2) h3⟩)
end
/-! ### built-in functions -/
theorem bools_rp {K : Fg} {H : Hp} : ∀ {ds : List D} {xs : List V} {fp : List Addr} {bs : List Bool}, RpAll K H xs ds fp → bools ds = some bs → xs = bs.map V.bl
  | [], _, _, bs, r, h => by
    cases r
    simp only [bools, Option.some.injEq] at h
    subst h; rfl
  | .bl b :: ds, _, _, bs, r, h => by
    cases r with
    | cons x r =>
      cases x
      simp only [bools] at h
      obtain ⟨cs, h1, h2⟩ := Option.map_eq_some_iff.mp h
      subst h2
      rw [bools_rp r h1]; rfl
  | .non :: _, _, _, _, _, h => by simp [bools] at h
  | .int _ :: _, _, _, _, _, h => by simp [bools] at h
  | .str _ :: _, _, _, _, _, h => by simp [bools] at h
  | .tup _ :: _, _, _, _, _, h => by simp [bools] at h
  | .lst _ :: _, _, _, _, _, h => by simp [bools] at h
  | .frz _ :: _, _, _, _, _, h => by simp [bools] at h
  | .edct :: _, _, _, _, _, h => by simp [bools] at h
  | .cls _ :: _, _, _, _, _, h => by simp [bools] at h
  | .exc _ _ :: _, _, _, _, _, h => by simp [bools] at h
  | .fn _ _ :: _, _, _, _, _, h => by simp [bools] at h
theorem ints_rp {K : Fg} {H : Hp} : ∀ {ds : List D} {xs : List V} {fp : List Addr} {bs : List Int}, RpAll K H xs ds fp → intsD ds = some bs → xs = bs.map V.int
  | [], _, _, bs, r, h => by
    cases r
    simp only [intsD, Option.some.injEq] at h
    subst h; rfl
  | .int b :: ds, _, _, bs, r, h => by
    cases r with
    | cons x r =>
      cases x
      simp only [intsD] at h
      obtain ⟨cs, h1, h2⟩ := Option.map_eq_some_iff.mp h
      subst h2
      rw [ints_rp r h1]; rfl
  | .non :: _, _, _, _, _, h => by simp [intsD] at h
  | .bl _ :: _, _, _, _, _, h => by simp [intsD] at h
  | .str _ :: _, _, _, _, _, h => by simp [intsD] at h
  | .tup _ :: _, _, _, _, _, h => by simp [intsD] at h
  | .lst _ :: _, _, _, _, _, h => by simp [intsD] at h
  | .frz _ :: _, _, _, _, _, h => by simp [intsD] at h
  | .edct :: _, _, _, _, _, h => by simp [intsD] at h
  | .cls _ :: _, _, _, _, _, h => by simp [intsD] at h
  | .exc _ _ :: _, _, _, _, _, h => by simp [intsD] at h
  | .fn _ _ :: _, _, _, _, _, h => by simp [intsD] at h
def valF : BF → Value
  | .len => .builtin "len"
  | .abs => .builtin "abs"
  | .int_ => .type "int"
  | .bool_ => .type "bool"
  | .str_ => .type "str"
  | .repr_ => .builtin "repr"
  | .list_ => .type "list"
  | .tuple_ => .type "tuple"
  | .sum_ => .builtin "sum"
  | .max_ => .builtin "max"
  | .min_ => .builtin "min"
  | .all_ => .builtin "all"
  | .any_ => .builtin "any"
  | .sorted_ => .builtin "sorted"
  | .ord_ => .builtin "ord"
  | .lrange => .type "list"
theorem RpAll.one {K : Fg} {H : Hp} {vs : List V} {d : D} {fp : List Addr} (r : RpAll K H vs [d] fp) : ∃ v, vs = [v] ∧ Rp K H v d fp := by
  cases r with
  | cons x r => cases r; exact ⟨_, rfl, by simpa using x⟩
theorem RpAll.two {K : Fg} {H : Hp} {vs : List V} {d e : D} {fp : List Addr} (r : RpAll K H vs [d, e] fp) : ∃ v w fq fr, vs = [v, w] ∧ Rp K H v d fq ∧ Rp K H w e fr ∧ fp = fq ++ fr := by
  cases r with
  | cons x r => 
    obtain ⟨w, e1, r'⟩ := r.one
    subst e1
    exact ⟨_, _, _, _, rfl, x, r', rfl⟩
section
variable {X : Cx} {pins : List (Addr × Obj)} {s : Shared} {σ : L2.St} {H : Hp} {Q : VK} {vs : List V} {us : List Value} {ds : List D} {d : D} {fp : List Addr}
theorem repr_ok (hu : X.A.units + 70 < cLine) (hg : X.A.guards = some []) (h : reprOk d = true) {x : V} {v : Value} (I : Inv X pins σ H s) (rx : RelV x v) (ra : Rp X.K H x d fp) (q : Q (.str (reprS d)) H) :
    wpAny (model X.prog X.w) X.A (call (.builtin "repr") [v]) (EP X pins σ Q) X.xe s := by
  simp only [reprOk, Bool.and_eq_true, decide_eq_true_eq] at h
  obtain ⟨⟨⟨h1, h2⟩, h3⟩, h4⟩ := h
  obtain ⟨as, r⟩ := Dp.reads I _ _ v (ra.dp h1) rx
  have fin : ∀ (h' : Heap) (u : Tok) (tk : Nat), (∀ b o, s.heap.get? b = some o → h'.get? b = some o) → EP X pins σ Q (.str (py d).shown u) { s with heap := h', toks := tk } := fun h' u tk k =>
    ⟨.str (reprS d), H, I.kept (t' := tk) k, ⟨u, rfl⟩, q⟩
  have hd : (py d).hasDict = true → sysModules ∉ as := fun hh => by rw [py_nodict d] at hh; cases hh
  have hdep : X.A.units + ((py d).depth + 1) < cLine := by have := py_dep d; omega
  cases ra with
  | non =>
    cases (show v = Value.none from rx)
    exact P.repr_of_none (fin _ _ _ fun _ _ e => e)
  | bl b =>
    cases (show v = Value.bool b from rx)
    exact P.repr_of_bool (fin _ _ _ fun _ _ e => e)
  | int i =>
    obtain ⟨t, rfl⟩ := rx
    exact P.repr_of_int (by simpa [py, PyData.showable] using h2) (fin _ _ _ fun _ _ e => e)
  | str z =>
    obtain ⟨t, rfl⟩ := rx
    exact P.repr_of_str (fin _ _ _ fun _ _ e => e) (by simp only [py, PyData.shown] at h4; omega)
  | lst e rr n =>
    cases (show v = Value.ref _ from rx)
    exact repr_of_reads' r h2 hd hg hdep (fun _ _ e => e) (fun h' u tk k => fin h' u tk k) (by omega)
  | tup e rr _ =>
    cases (show v = Value.ref _ from rx)
    exact repr_of_reads' r h2 hd hg hdep (fun _ _ e => e) (fun h' u tk k => fin h' u tk k) (by omega)
  | frz e rr _ => simp [isPy] at h1

theorem callS_ok (hu : X.A.units + 70 < cLine) (hg : X.A.guards = some []) (hc : X.calm = true) {f : BF} (h : opFs f ds = some d) (I : Inv X pins σ H s) (rs : Vals vs us) (ra : RpAll X.K H vs ds fp) (q : ∀ z, Rp X.K H z d [] → Q z H) :
    wpAny (model X.prog X.w) X.A (call (valF f) us) (EP X pins σ Q) X.xe s := by
  unfold opFs at h
  split at h
  · cases h
    obtain ⟨v, rfl, r⟩ := ra.one
    cases r with
    | lst e r n =>
      refine call_len_seq pins s σ H _ us Q I rs ⟨_, _, rfl, .inl (.of e), ?_⟩
      rw [r.length]; exact q _ (.int _)
  · cases h
    obtain ⟨v, rfl, r⟩ := ra.one
    cases r with
    | tup e r _ =>
      refine call_len_seq pins s σ H _ us Q I rs ⟨_, _, rfl, .inr e, ?_⟩
      rw [r.length]; exact q _ (.int _)
  · cases h
    obtain ⟨v, rfl, r⟩ := ra.one
    cases r with
    | frz e r _ =>
      refine call_len_seq pins s σ H _ us Q I rs ⟨_, _, rfl, .inl e.sq, ?_⟩
      rw [r.length]; exact q _ (.int _)
  · split at h
    · rename_i hz
      cases h
      obtain ⟨v, rfl, r⟩ := ra.one
      cases r
      exact call_len_str pins s σ H _ us Q I rs ⟨_, rfl, hz, q _ (.int _)⟩
    · cases h
  · cases h
    obtain ⟨v, rfl, r⟩ := ra.one
    cases r
    exact call_abs pins s σ H _ us Q I rs ⟨_, rfl, q _ (.int _)⟩
  · cases h
    obtain ⟨v, rfl, r⟩ := ra.one
    cases r
    exact call_int1 pins s σ H _ us Q I rs (.inl ⟨_, rfl, q _ (.int _)⟩)
  · cases h
    obtain ⟨v, rfl, r⟩ := ra.one
    cases r
    exact call_int1 pins s σ H _ us Q I rs (.inr ⟨_, rfl, q _ (.int _)⟩)
  · split at h
    · rename_i hr
      cases h
      obtain ⟨v, rfl, r⟩ := ra.one
      obtain ⟨u, rfl, ru⟩ := vals1 rs
      exact repr_ok hu hg hr I ru r (q _ (.str _))
    · cases h
  · obtain ⟨bs, h1, h2⟩ := Option.map_eq_some_iff.mp h
    subst h2
    obtain ⟨v, rfl, r⟩ := ra.one
    cases r with
    | lst e r n =>
      have eb := bools_rp r h1
      subst eb
      exact cr_all hc pins s σ H _ us Q I rs ⟨_, _, rfl, .of e, q _ (.bl _)⟩
  · obtain ⟨bs, h1, h2⟩ := Option.map_eq_some_iff.mp h
    subst h2
    obtain ⟨v, rfl, r⟩ := ra.one
    cases r with
    | lst e r n =>
      have eb := bools_rp r h1
      subst eb
      exact cr_any hc pins s σ H _ us Q I rs ⟨_, _, rfl, .of e, q _ (.bl _)⟩
  · obtain ⟨bs, h1, h2⟩ := Option.map_eq_some_iff.mp h
    subst h2
    obtain ⟨v, rfl, r⟩ := ra.one
    cases r with
    | lst e r n =>
      have eb := ints_rp r h1
      subst eb
      exact cr_sum hc pins s σ H _ us Q I rs ⟨_, _, rfl, .of e, q _ (.int _)⟩
  · cases h
    obtain ⟨v, w, fq, fr, rfl, r1, r2, rfl⟩ := ra.two
    cases r1; cases r2
    exact call_max2 hc pins s σ H _ us Q I rs ⟨_, _, rfl, q _ (.int _)⟩
  · cases h
    obtain ⟨v, w, fq, fr, rfl, r1, r2, rfl⟩ := ra.two
    cases r1; cases r2
    exact call_min2 hc pins s σ H _ us Q I rs ⟨_, _, rfl, q _ (.int _)⟩
  · cases h
theorem callL_ok {a : D} {items : List D} (h : seqOf a = some items) (I : Inv X pins σ H s) {x : V} (rs : Vals [x] us) (ra : Rp X.K H x a fp) (q : ∀ (p : Addr) (xs : List V), H p = none → RpAll X.K H xs items (itf a fp) → Q (.ref p) (upd H p (.lst xs))) :
    wpAny (model X.prog X.w) X.A (call (.type "list") us) (EP X pins σ Q) X.xe s := by
  cases ra with
  | lst e r n =>
    simp only [seqOf, Option.some.injEq] at h
    subst h
    exact call_list_of pins s σ H _ us Q I rs ⟨_, _, rfl, .inl (.of e), fun l hl => q l _ hl r⟩
  | frz e r _ =>
    simp only [seqOf, Option.some.injEq] at h
    subst h
    exact call_list_of pins s σ H _ us Q I rs ⟨_, _, rfl, .inl e.sq, fun l hl => q l _ hl r⟩
  | tup e r _ =>
    simp only [seqOf, Option.some.injEq] at h
    subst h
    exact call_list_of pins s σ H _ us Q I rs ⟨_, _, rfl, .inr e, fun l hl => q l _ hl r⟩
  | non => simp [seqOf] at h
  | bl b => simp [seqOf] at h
  | int i => simp [seqOf] at h
  | str z => simp [seqOf] at h
/-! ### isinstance -/
def tyName : Ty → String
  | .int => "int"
  | .bool => "bool"
  | .str => "str"
  | .list => "list"
  | .tuple => "tuple"
  | .dict => "dict"
  | .cls _ => "object"
def clsName : D → String
  | .non => "NoneType"
  | .bl _ => "bool"
  | .int _ => "int"
  | .str _ => "str"
  | .tup _ => "tuple"
  | .lst _ => "list"
  | .frz _ => "list"
  | _ => "object"
theorem tyX_of {x : V} {a : D} (r : Rp X.K H x a fp) : TyX X.K H x (.type (clsName a)) := by
  cases r with
  | non => exact .base .non
  | bl b => exact .base (.bl b)
  | int i => exact .base (.int i)
  | str z => exact .base (.str z)
  | lst e r n => exact .base (.lst e)
  | frz e r _ =>
    rcases e with ⟨o, e⟩ | ⟨o, its, n, e, c, _⟩
    · exact .base (.frz e)
    · exact .kList e c
  | tup e r _ =>
    rcases e with (e | ⟨o, e⟩) | ⟨o, its, n, e, c, _⟩
    · exact .base (.tup e)
    · exact .fTuple e
    · exact .kTuple e c
/-- no class of the text is asked for -/
def Ty.isB : Ty → Bool
  | .cls _ => false
  | _ => true
theorem kit_is {K : Fg} {a : D} (h : tyOk a = true) {t : Ty} (ht : t.isB = true) : PySem.W.kitOne K (.type (clsName a)) (.type (tyName t)) = some (tyIs t a) := by
  cases t <;> cases a <;> first | (simp [tyOk] at h; done) | (simp [Ty.isB] at ht; done) | exact kit_ty (by simp only [clsName, tyName, tyIs]; decide +kernel)
theorem kit_iss {K : Fg} {a : D} (h : tyOk a = true) : ∀ {ts : List Ty}, ts.all Ty.isB = true → PySem.W.kitAny K (.type (clsName a)) (ts.map fun t => Value.type (tyName t)) = some (ts.any fun t => tyIs t a)
  | [], _ => rfl
  | t :: ts, ht => by
    simp only [List.all_cons, Bool.and_eq_true] at ht
    simp only [List.map_cons, List.any_cons]
    refine kitAny_cons (kit_is h ht.1) (fun e => ?_) (fun e => by rw [e]; rfl)
    rw [e, Bool.false_or]
    exact kit_iss h ht.2
end
end PP

/-! PPIts: the items of a list under way; values in a row. -/
namespace PP
open PySem L2
/-- items: xs with the data ds; their lists stand at fp -/
structure Its (K : Fg) (g : Gh) (Hs H : Hp) (δ : PP.St) (fps : Nat → List Addr) (xs : List V) (ds : List D) (u : Bool) (S : List Nat) (fp : List Addr) : Prop where
  rep : RpAll K H xs ds fp
  cl : ∀ i a, clm δ fps i a → a ∈ fp → i ∈ S
  u : u = true → fp.Nodup ∧ ∀ a ∈ fp, (∃ i ∈ S, dclm δ fps i a) ∨ (Hs a = none ∧ Away δ fps a)
  reach : ∀ a ∈ fp, g.R a ∨ g.F0 a = none ∨ ∃ i, (i, a) ∈ g.IO
  priv : ∀ a ∈ fp, ¬ g.X a
section
variable {K : Fg} {g : Gh} {P P' : List Nat} {σ : L2.St} {H H1 H2 H' Hs : Hp} {δ δ1 δ2 δ' : PP.St} {fps fps1 fps2 fps' : Nat → List Addr} {v : V} {t : Tm} {fp fq : List Addr} {d : D} {xs ys : List V} {ds es : List D} {u w : Bool} {S T : List Nat}
/-- two slots that hold one list, each by a claim: one slot -/
theorem FR.same (f : FR K g σ H δ fps) {i j : Nat} {a : Addr} (c : clm δ fps i a) (e : clm δ fps j a) : i = j := by
  by_cases h : i = j
  · exact h
  · obtain ⟨s, e1, m⟩ := e.mem
    exact absurd e (f.excl i j s a h c e1 m).2
theorem Away.not (h : Away δ fps a) {i : Nat} (c : clm δ fps i a) : False := by
  obtain ⟨s, e, m⟩ := c.mem
  exact h i s e m
theorem Its.nil : Its K g Hs H δ fps [] [] u S [] := ⟨.nil, (fun _ _ _ h => nomatch h), (fun _ => ⟨.nil, (fun _ h => nomatch h)⟩), (fun _ h => nomatch h), (fun _ h => nomatch h)⟩
/-- nothing borrowed where no list is -/
theorem Its.si (h : Its K g Hs H δ fps xs ds u S fp) : Its K g Hs H δ fps xs ds (u || noLs ds) (siOf ds S) fp := by
  unfold siOf
  split
  · rename_i e
    have e' : S = [] := by cases S <;> simp at e; rfl
    subst e'
    cases hn : noLs ds with
    | true => have := h.rep.noL hn; subst this; exact ⟨h.rep, (fun _ _ _ h => nomatch h), (fun _ => ⟨.nil, (fun _ h => nomatch h)⟩), (fun _ h => nomatch h), (fun _ h => nomatch h)⟩
    | false => rw [Bool.or_false]; exact h
  · cases hn : noLs ds with
    | true => have := h.rep.noL hn; subst this; exact ⟨h.rep, (fun _ _ _ h => nomatch h), (fun _ => ⟨.nil, (fun _ h => nomatch h)⟩), (fun _ h => nomatch h), (fun _ h => nomatch h)⟩
    | false => rw [Bool.or_false]; exact h
theorem Its.app (f : FR K g σ H δ fps) (h : Its K g Hs H δ fps xs ds u S fp) (k : Its K g H1 H δ fps ys es w T fq) (b : ∀ x, H1 x = none → Hs x = none) (ex : ∀ a ∈ fp, H1 a ≠ none) : Its K g Hs H δ fps (xs ++ ys) (ds ++ es) (u && w && disj S T) (S ++ T) (fp ++ fq) := by
  refine ⟨h.rep.append k.rep, fun i a c m => ?_, fun e => ?_, fun a m => (List.mem_append.mp m).elim (h.reach a) (k.reach a), fun a m => (List.mem_append.mp m).elim (h.priv a) (k.priv a)⟩
  · exact (List.mem_append.mp m).elim (fun m => List.mem_append_left _ (h.cl i a c m)) fun m => List.mem_append_right _ (k.cl i a c m)
  · simp only [Bool.and_eq_true] at e
    obtain ⟨⟨e1, e2⟩, e3⟩ := e
    obtain ⟨n1, q1⟩ := h.u e1
    obtain ⟨n2, q2⟩ := k.u e2
    refine ⟨List.nodup_append.mpr ⟨n1, n2, fun a m1 c m2 e => ?_⟩, fun a m => ?_⟩
    · subst e
      rcases q1 a m1 with ⟨i, hi, c1⟩ | ⟨_, o1⟩
      · rcases q2 a m2 with ⟨j, hj, c2⟩ | ⟨_, o2⟩
        · have := f.same c1.clm c2.clm
          subst this
          unfold disj at e3
          rw [List.all_eq_true] at e3
          have := e3 i hi
          simp at this
          exact this hj
        · exact o2.not c1.clm
      · rcases q2 a m2 with ⟨j, hj, c2⟩ | ⟨z, _⟩
        · exact o1.not c2.clm
        · exact ex a m1 z
    · rcases List.mem_append.mp m with m | m
      · exact (q1 a m).imp (fun ⟨i, hi, c⟩ => ⟨i, List.mem_append_left _ hi, c⟩) id
      · exact (q2 a m).imp (fun ⟨i, hi, c⟩ => ⟨i, List.mem_append_right _ hi, c⟩) fun ⟨z, o⟩ => ⟨b a z, o⟩
theorem Its.sub (h : Its K g Hs H δ fps xs ds u S fp) (r : RpAll K H ys es fq) (s : fq.Sublist fp) : Its K g Hs H δ fps ys es u S fq :=
  ⟨r, fun i a c m => h.cl i a c (s.subset m), fun e => let ⟨n, q⟩ := h.u e; ⟨n.sublist s, fun a m => q a (s.subset m)⟩, fun a m => h.reach a (s.subset m), fun a m => h.priv a (s.subset m)⟩
theorem Its.weak (h : Its K g Hs H δ fps xs ds u S fp) (hu : w = true → u = true) (hS : ∀ i ∈ S, i ∈ T) : Its K g Hs H δ fps xs ds w T fp :=
  ⟨h.rep, fun i a c m => hS i (h.cl i a c m), fun e => let ⟨n, q⟩ := h.u (hu e); ⟨n, fun a m => (q a m).imp (fun ⟨i, hi, c⟩ => ⟨i, hS i hi, c⟩) id⟩, h.reach, h.priv⟩
/-- an item -/
theorem Its.item (h : Its K g Hs H δ fps xs ds u S fp) (r : Rp K H v d fq) (s : fq.Sublist fp) : TO K g Hs H δ fps v ⟨d, false, u, S, S⟩ fq :=
  ⟨r, fun i a c m => h.cl i a c (s.subset m), fun i a c m _ => h.cl i a c (s.subset m), fun e => let ⟨n, q⟩ := h.u e; ⟨n.sublist s, fun a m => q a (s.subset m)⟩, (fun e => nomatch e), fun a m => h.reach a (s.subset m), fun a m => h.priv a (s.subset m)⟩
/-- the items of a value -/
theorem TO.items (h : TO K g Hs H δ fps v t fp) (s : seqOf t.d = some ds) : ∃ a xs, v = .ref a ∧ Its K g Hs H δ fps xs ds t.u t.Si (itf t.d fp) ∧ ((SqL K H a xs ∧ ((∃ l, t.d = .lst l) ∨ ∃ l, t.d = .frz l)) ∨ (SqT K H a xs ∧ ∃ l, t.d = .tup l)) ∧ a ∉ itf t.d fp := by
  have hr := h.rep
  have core : ∀ (a : Addr) (fq : List Addr) (xs : List V), v = .ref a → fq.Sublist fp → a ∉ fq → RpAll K H xs ds fq → Its K g Hs H δ fps xs ds t.u t.Si fq := fun a fq xs ev s na r =>
    ⟨r, fun i b c m => h.cli i b c (s.subset m) (by rw [ev]; intro z; cases z; exact na m), fun e => by
      obtain ⟨n, q⟩ := h.u e
      refine ⟨n.sublist s, fun b m => (q b (s.subset m)).imp (fun ⟨i, hi, c⟩ => ⟨i, h.cli i b c.clm (s.subset m) (by rw [ev]; intro z; cases z; exact na m), c⟩) id⟩, fun b m => h.reach b (s.subset m), fun b m => h.priv b (s.subset m)⟩
  obtain ⟨td, tf, tu, tS, tSi⟩ := t
  simp only at hr s core ⊢
  cases hr with
  | lst e r n =>
    simp only [seqOf, Option.some.injEq] at s
    subst s
    exact ⟨_, _, rfl, core _ _ _ rfl (List.sublist_cons_self _ _) n r, .inl ⟨.of e, .inl ⟨_, rfl⟩⟩, n⟩
  | frz e r n =>
    simp only [seqOf, Option.some.injEq] at s
    subst s
    exact ⟨_, _, rfl, core _ _ _ rfl (List.Sublist.refl _) n r, .inl ⟨e.sq, .inr ⟨_, rfl⟩⟩, n⟩
  | tup e r n =>
    simp only [seqOf, Option.some.injEq] at s
    subst s
    exact ⟨_, _, rfl, core _ _ _ rfl (List.Sublist.refl _) n r, .inr ⟨e, _, rfl⟩, n⟩
  | non => simp [seqOf] at s
  | bl b => simp [seqOf] at s
  | int i => simp [seqOf] at s
  | str z => simp [seqOf] at s
theorem Its.kept (h : Its K g Hs H δ fps xs ds u S fp) (k : Kp (fun _ => False) H H') : Its K g Hs H' δ fps xs ds u S fp := ⟨h.rep.stay k fun _ _ z => z, h.cl, h.u, h.reach, h.priv⟩
theorem Its.since (h : Its K g H1 H δ fps xs ds u S fp) (b : ∀ x, H1 x = none → Hs x = none) : Its K g Hs H δ fps xs ds u S fp :=
  ⟨h.rep, h.cl, fun e => let ⟨n, q⟩ := h.u e; ⟨n, fun a m => (q a m).imp id fun ⟨z, o⟩ => ⟨b a z, o⟩⟩, h.reach, h.priv⟩
/-- a new list of items -/
theorem Its.lst (h : Its K g Hs H δ fps xs ds u S fp) (f : FR K g σ H δ fps) {p : Addr} (hp : H p = none) (b : ∀ x, H x = none → Hs x = none) (b0 : ∀ x, H x = none → g.F0 x = none) :
    TO K g Hs (upd H p (.lst xs)) δ fps (.ref p) ⟨.lst ds, true, u, S, S⟩ (p :: fp) := by
  have np : p ∉ fp := fun m => by obtain ⟨_, e⟩ := h.rep.there p m; rw [hp] at e; cases e
  have nc : ∀ i, ¬ clm δ fps i p := fun i c => by obtain ⟨_, e⟩ := f.has c; rw [hp] at e; cases e
  have h' := h.kept (Kp.new (o := .lst xs) hp)
  refine ⟨.lst upd_same h'.rep np, fun i a c m => ?_, fun i a c m _ => ?_, fun e => ?_, fun _ => ⟨p, fp, rfl, np, rfl, b p hp, f.out hp⟩, fun a m => ?_, fun a m => ?_⟩
  · rcases List.mem_cons.mp m with z | m
    · subst z; exact absurd c (nc i)
    · exact h.cl i a c m
  · rcases List.mem_cons.mp m with z | m
    · subst z; exact absurd c (nc i)
    · exact h.cl i a c m
  · obtain ⟨n, q⟩ := h.u e
    refine ⟨List.nodup_cons.mpr ⟨np, n⟩, fun a m => ?_⟩
    rcases List.mem_cons.mp m with z | m
    · subst z; exact .inr ⟨b a hp, f.out hp⟩
    · exact q a m
  · rcases List.mem_cons.mp m with z | m
    · subst z; exact .inr (.inl (b0 a hp))
    · exact h.reach a m
  · rcases List.mem_cons.mp m with z | m
    · subst z; exact fun x => f.old a x hp
    · exact h.priv a m
/-- a new tuple -/
theorem Its.tup (h : Its K g Hs H δ fps xs ds u S fp) {p : Addr} (hp : H p = none) : TO K g Hs (upd H p (.tup xs)) δ fps (.ref p) ⟨.tup ds, false, u, S, S⟩ fp := by
  have np : p ∉ fp := fun m => by obtain ⟨_, e⟩ := h.rep.there p m; rw [hp] at e; cases e
  have h' := h.kept (Kp.new (o := .tup xs) hp)
  exact ⟨.tup (.of upd_same) h'.rep np, h.cl, fun i a c m _ => h.cl i a c m, h.u, (fun e => nomatch e), h.reach, h.priv⟩
theorem FR.back0 (f : FR K g σ H δ fps) : ∀ x, H x = none → g.F0 x = none := fun _ h => f.frame.none h
/-- values in a row, each evaluated behind those ahead of it -/
inductive TOs (K : Fg) (g : Gh) (H : Hp) (δ : PP.St) (fps : Nat → List Addr) (He : Hp) : Hp → List V → List Tm → List (List Addr) → Prop
  | nil {Hs : Hp} : (∀ x, He x = none → Hs x = none) → TOs K g H δ fps He Hs [] [] []
  | cons {Hs H1 : Hp} {v : V} {vs : List V} {t : Tm} {ts : List Tm} {fp : List Addr} {fl : List (List Addr)} : TO K g Hs H δ fps v t fp → (∀ x, H1 x = none → Hs x = none) → (∀ a ∈ fp, H1 a ≠ none) → TOs K g H δ fps He H1 vs ts fl → TOs K g H δ fps He Hs (v :: vs) (t :: ts) (fp :: fl)
variable {He : Hp}
variable {vs : List V} {ts : List Tm} {fl : List (List Addr)}
theorem TO.its (h : TO K g Hs H δ fps v t fp) : Its K g Hs H δ fps [v] [t.d] t.un t.S fp := by
  have r : RpAll K H [v] [t.d] fp := by simpa using RpAll.cons h.rep .nil
  refine ⟨r, h.cl, fun e => ?_, h.reach, h.priv⟩
  unfold Tm.un at e
  cases hu : t.u with
  | true => exact h.u hu
  | false =>
    rw [hu, Bool.false_or] at e
    have := h.rep.noL e
    subst this
    exact ⟨.nil, (fun _ h => nomatch h)⟩
theorem disj_un {a : Tm} {ts : List Tm} (h : ts.all (fun u => disj a.S u.S) = true) : disj a.S (unionS ts) = true := by
  unfold disj unionS
  rw [List.all_eq_true]
  intro x hx
  simp only [Bool.not_eq_true', List.contains_eq_mem, decide_eq_false_iff_not, List.mem_flatMap, not_exists, not_and]
  intro t ht z
  rw [List.all_eq_true] at h
  have := h t ht
  unfold disj at this
  rw [List.all_eq_true] at this
  have := this x hx
  simp at this
  exact this z
theorem TOs.its (f : FR K g σ H δ fps) : ∀ {Hs : Hp} {vs : List V} {ts : List Tm} {fl : List (List Addr)}, TOs K g H δ fps He Hs vs ts fl → Its K g Hs H δ fps vs (ts.map (·.d)) (ts.all (·.un) && apartS ts) (unionS ts) fl.flatten
  | _, _, _, _, .nil _ => .nil
  | _, _, _, _, .cons (t := t) (ts := ts) x b ex r => by
    have q := Its.app f x.its (r.its f) b ex
    refine q.weak (fun e => ?_) fun i hi => hi
    simp only [apartS, List.all_cons, Bool.and_eq_true] at e ⊢
    obtain ⟨⟨e1, e2⟩, e3, e4⟩ := e
    exact ⟨⟨e1, e2, e4⟩, disj_un e3⟩
theorem TOs.since (h : TOs K g H δ fps He H1 vs ts fl) (b : ∀ x, H1 x = none → Hs x = none) : TOs K g H δ fps He Hs vs ts fl := by
  cases h with
  | nil e => exact .nil fun x z => b x (e x z)
  | cons x b' ex r => exact .cons (x.since b) (fun y z => b y (b' y z)) ex r
theorem TOs.shown {δ0 : PP.St} {fps0 : Nat → List Addr} {fq : List Addr} : ∀ {Hs : Hp} {vs : List V} {ts : List Tm} {fl : List (List Addr)}, TOs K (g.hide δ0 fps0 fq) H δ fps He Hs vs ts fl → TOs K g H δ fps He Hs vs ts fl
  | _, _, _, _, .nil b => .nil b
  | _, _, _, _, .cons x b ex r => .cons x.shown b ex r.shown
theorem FR.hideLess {δ0 : PP.St} {fps0 : Nat → List Addr} (f : FR K (g.hide δ0 fps0 fq) σ H δ fps) (h : ∀ a ∈ fp, a ∈ fq) : FR K (g.hide δ0 fps0 fp) σ H δ fps := FR.less (g := g.hide δ0 fps0 fp) f fun a z => z.imp id fun z => ⟨h a z.1, z.2⟩
theorem TOs.later : ∀ {Hs : Hp} {vs : List V} {ts : List Tm} {fl : List (List Addr)}, TOs K g H1 δ1 fps1 He Hs vs ts fl → Ev P H1 δ1 fps1 H2 δ2 fps2 → FR K (g.hide δ1 fps1 fl.flatten) σ H2 δ2 fps2 → (∀ i ∈ unionS ts, i ∈ P) → TOs K g H2 δ2 fps2 He Hs vs ts fl
  | _, _, _, _, .nil b, _, _, _ => .nil b
  | _, _, _, _, .cons x b ex r, e, f, h => .cons (x.later e (f.hideLess fun a m => by rw [List.flatten_cons]; exact List.mem_append_left _ m) fun i hi => h i (by unfold unionS; rw [List.flatMap_cons]; exact List.mem_append_left _ hi)) b ex (r.later e (f.hideLess fun a m => by rw [List.flatten_cons]; exact List.mem_append_right _ m) fun i hi => h i (by unfold unionS at hi ⊢; rw [List.flatMap_cons]; exact List.mem_append_right _ hi))
theorem TOs.ex : ∀ {Hs : Hp} {vs : List V} {ts : List Tm} {fl : List (List Addr)}, TOs K g H δ fps He Hs vs ts fl → ∀ a ∈ fl.flatten, H a ≠ none
  | _, _, _, _, .nil b, a, m => by simp at m
  | _, _, _, _, .cons x b ex r, a, m => by
    rw [List.flatten_cons] at m
    rcases List.mem_append.mp m with m | m
    · intro z
      obtain ⟨_, e⟩ := x.rep.there a m
      rw [z] at e; cases e
    · exact r.ex a m
theorem TOs.kept : ∀ {Hs : Hp} {vs : List V} {ts : List Tm} {fl : List (List Addr)}, TOs K g H δ fps He Hs vs ts fl → Kp (fun _ => False) H H' → TOs K g H' δ fps He Hs vs ts fl
  | _, _, _, _, .nil b, _ => .nil b
  | _, _, _, _, .cons x b ex r, k => .cons (x.kept k) b ex (r.kept k)
theorem TOs.length : ∀ {Hs : Hp} {vs : List V} {ts : List Tm} {fl : List (List Addr)}, TOs K g H δ fps He Hs vs ts fl → vs.length = ts.length ∧ fl.length = ts.length
  | _, _, _, _, .nil _ => ⟨rfl, rfl⟩
  | _, _, _, _, .cons _ _ _ r => by simp [r.length.1, r.length.2]
theorem TOs.app : ∀ {Hs : Hp} {vs ws : List V} {ts us : List Tm} {fl fm : List (List Addr)}, TOs K g H δ fps H1 Hs vs ts fl → TOs K g H δ fps He H1 ws us fm → TOs K g H δ fps He Hs (vs ++ ws) (ts ++ us) (fl ++ fm)
  | _, _, _, _, _, _, _, .nil b, s => s.since b
  | _, _, _, _, _, _, _, .cons x b ex r, s => .cons x b ex (r.app s)
theorem TOs.one (x : TO K g Hs H δ fps v t fp) (b : ∀ x, He x = none → Hs x = none) (ex : ∀ a ∈ fp, He a ≠ none) : TOs K g H δ fps He Hs [v] [t] [fp] := .cons x b ex (.nil fun _ z => z)
theorem TO.ex (x : TO K g Hs H δ fps v t fp) : ∀ a ∈ fp, H a ≠ none := fun a m z => by
  obtain ⟨_, e⟩ := x.rep.there a m
  rw [z] at e; cases e
end
end PP

/-! PPSound1: the readings that evaluation gives; the cases without blocks and calls of the text's functions. -/
namespace PP
open PySem PySem.Spec PyProof.Rows L2
section
variable (K : Fg) (C : Calls) (G : Sigs)
def tE (e : E) : L2.TE := fun σ H Q => ∃ g P δ fps t δ', FR K g σ H δ fps ∧ evE C G P e δ = some (t, δ') ∧ ∀ v H' fps' fp, FR K g σ H' δ' fps' → Ev P H δ fps H' δ' fps' → TO K g H H' δ' fps' v t fp → Q v H'
def tT (e : E) : L2.TT := fun σ H Q => ∃ g P δ fps t δ' b, FR K g σ H δ fps ∧ evE C G P e δ = some (t, δ') ∧ truth t.d = some b ∧ ∀ H' fps', FR K g σ H' δ' fps' → Ev P H δ fps H' δ' fps' → Q b H'
def tAs (es : Es) : L2.TA := fun σ H Q => ∃ g P δ fps ts δ', FR K g σ H δ fps ∧ evEs C G P es δ = some (ts, δ') ∧ ∀ vs H' fps' fl, FR K g σ H' δ' fps' → Ev P H δ fps H' δ' fps' → TOs K g H' δ' fps' H' H vs ts fl → Q vs H'
def tKs (ks : Ks) : L2.TA := fun σ H Q => ∃ g P δ fps ts δ', FR K g σ H δ fps ∧ evKs C G P ks δ = some (ts, δ') ∧ ∀ vs H' fps' fl, FR K g σ H' δ' fps' → Ev P H δ fps H' δ' fps' → TOs K g H' δ' fps' H' H vs (ts.map (·.2)) fl → Q vs H'
def tO (o : Eo) : L2.TO := fun σ H Q => ∃ g P δ fps i δ', FR K g σ H δ fps ∧ evO C G P o δ = some (i, δ') ∧ ∀ H' fps', FR K g σ H' δ' fps' → Ev P H δ fps H' δ' fps' → Q i H'
def tC (o : Eo) : L2.TT := fun σ H Q => ∃ g P δ fps b δ', FR K g σ H δ fps ∧ evC C G P o δ = some (b, δ') ∧ ∀ H' fps', FR K g σ H' δ' fps' → Ev P H δ fps H' δ' fps' → Q b H'
end
theorem _root_.L2.PE.imp {X : Cx} {e : Expr} {t t' : L2.TE} (h : PE X e t) (i : ∀ σ H Q, t' σ H Q → t σ H Q) : PE X e t' := ⟨fun pins s σ H Q I q => h.run pins s σ H Q I (i σ H Q q)⟩
theorem _root_.L2.PT.imp {X : Cx} {e : Expr} {t t' : L2.TT} (h : PT X e t) (i : ∀ σ H Q, t' σ H Q → t σ H Q) : PT X e t' := ⟨fun pins s σ H Q I q => h.run pins s σ H Q I (i σ H Q q)⟩
theorem _root_.L2.PW.imp {X : Cx} {e : Expr} {t t' : L2.TT} (h : PW X e t) (i : ∀ σ H Q, t' σ H Q → t σ H Q) : PW X e t' := ⟨fun w pins s σ H Q I q => h.run w pins s σ H Q I (i σ H Q q)⟩
theorem _root_.L2.PA.imp {X : Cx} {e : List Expr} {t t' : L2.TA} (h : PA X e t) (i : ∀ σ H Q, t' σ H Q → t σ H Q) : PA X e t' := ⟨fun p pins s σ H Q I q => h.run p pins s σ H Q I (i σ H Q q)⟩
theorem _root_.L2.PI.imp {X : Cx} {tg e : Expr} {t t' : L2.TI} (h : PI X tg e t) (i : ∀ σ H Q, t' σ H Q → t σ H Q) : PI X tg e t' := ⟨fun pins s σ H Q I q => h.run pins s σ H Q I (i σ H Q q)⟩
/-- a value's truth -/
theorem truV {K : Fg} {H : Hp} {v : V} {d : D} {fp : List Addr} {b : Bool} (r : Rp K H v d fp) (h : truth d = some b) : TruV K v H b := by
  cases r with
  | non => simp only [truth, Option.some.injEq] at h; subst h; rfl
  | bl c => simp only [truth, Option.some.injEq] at h; subst h; rfl
  | int i => simp only [truth, Option.some.injEq] at h; subst h; rfl
  | str x =>
    simp only [truth] at h
    split at h
    · rename_i hz
      simp only [Option.some.injEq] at h
      subst h
      refine ⟨hz, ?_⟩
      cases x.length <;> rfl
    · cases h
  | lst e r n =>
    simp only [truth, Option.some.injEq] at h; subst h
    refine .inl ⟨_, .of e, ?_⟩
    cases r <;> rfl
  | frz e r n =>
    simp only [truth, Option.some.injEq] at h; subst h
    refine .inl ⟨_, e.sq, ?_⟩
    cases r <;> rfl
  | tup e r n =>
    simp only [truth, Option.some.injEq] at h; subst h
    refine .inr (.inl ⟨_, e, ?_⟩)
    cases r <;> rfl
section
variable {X : Cx} {C : Calls} {G : Sigs} {a b e : Expr} {p q : E} {pos : Pos}
theorem pe_never : PE X e (tE X.K C G .never) := ⟨fun pins s σ H Q I h => by
  obtain ⟨g, P, δ, fps, t, δ', f, h, _⟩ := h
  simp [evE] at h⟩
theorem pt_never : PT X e (tT X.K C G .never) := ⟨fun pins s σ H Q I h => by
  obtain ⟨g, P, δ, fps, t, δ', b, f, h, _⟩ := h
  simp [evE] at h⟩
theorem pw_never : PW X e (tT X.K C G .never) := ⟨fun _ pins s σ H Q I h => by
  obtain ⟨g, P, δ, fps, t, δ', b, f, h, _⟩ := h
  simp [evE] at h⟩
/-- a test by its value's truth -/
theorem pt_val (h : PE X e (tE X.K C G p)) (he : ∀ whole, isTrue e X.env whole = (do let v ← whole; standAt e.pos; holding [v] (truthy v))) : PT X e (tT X.K C G p) :=
  (pt_truth h he).imp fun σ H Q ⟨g, P, δ, fps, t, δ', b, f, h, tr, q⟩ => ⟨g, P, δ, fps, t, δ', f, h, fun v H' fps' fp f' ev to => ⟨b, truV to.rep tr, q H' fps' f' ev⟩⟩
theorem pe_con {d : D} {v : V} (h : PE X e (L2.tC v)) (r : ∀ H, Rp X.K H v d []) : PE X e (tE X.K C G (.con d)) :=
  h.imp fun σ H Q ⟨g, P, δ, fps, t, δ', f, h, q⟩ => by
    simp only [evE, Option.some.injEq, Prod.mk.injEq] at h
    obtain ⟨rfl, rfl⟩ := h
    exact q v H fps [] f .refl (.scal (r H))
theorem pe_vr {i : Nat} {x : Str} (hN : X.N[i]? = some x) (hv : Vis X.env.scope x) (hd : (x == ("__debug__" : Str)) = false) (hcd : (x == ("__classdict__" : Str)) = false) : PE X (.Name x pos) (tE X.K C G (.var i)) :=
  (pe_var hN hv hd hcd).imp fun σ H Q ⟨g, P, δ, fps, t, δ', f, h, q⟩ => by
    simp only [evE] at h
    split at h
    · rename_i u e
      simp only [Option.some.injEq, Prod.mk.injEq] at h
      obtain ⟨rfl, rfl⟩ := h
      obtain ⟨v, hv, to⟩ := f.read (Hs := H) (g := g) e
      exact ⟨v, hv, q v H fps _ f .refl to⟩
    · cases h
theorem mem_l {α : Type} {P S : List α} : ∀ i ∈ P, i ∈ P ++ S := fun _ h => List.mem_append_left _ h
theorem mem_r {α : Type} {P S : List α} : ∀ i ∈ S, i ∈ P ++ S := fun _ h => List.mem_append_right _ h
/-- two values in a row -/
theorem two {X : Cx} {C : Calls} {G : Sigs} {g : Gh} {P : List Nat} {p q : E} {δ δ1 δ2 : PP.St} {fps : Nat → List Addr} {σ : L2.St} {H : Hp} {x y : Tm} {R : V → V → Hp → Prop} (f : FR X.K g σ H δ fps) (h1 : evE C G P p δ = some (x, δ1)) (h2 : evE C G (P ++ x.S) q δ1 = some (y, δ2))
    (r : ∀ v w H1 H2 fps2 fp fq, FR X.K g σ H2 δ2 fps2 → Ev P H δ fps H2 δ2 fps2 → TO X.K g H H2 δ2 fps2 v x fp → TO X.K g H1 H2 δ2 fps2 w y fq → (∀ x, H1 x = none → H x = none) → (∀ x, H2 x = none → H1 x = none) → (∀ a ∈ fp, H1 a ≠ none) → R v w H2) :
    tE X.K C G p σ H fun v H1 => tE X.K C G q σ H1 fun w H2 => R v w H2 :=
  ⟨g, P, δ, fps, x, δ1, f, h1, fun v H1 fps1 fp f1 e1 to1 => ⟨g.hide δ1 fps1 fp, P ++ x.S, δ1, fps1, y, δ2, f1.hide to1.ex, h2, fun w H2 fps2 fq f2 e2 to2 =>
    r v w H1 H2 fps2 fp fq f2.shown (e1.trans (e2.mono mem_l)) (to1.later e2 f2 mem_r) to2.shown e1.back e2.back to1.ex⟩⟩
theorem pe_bin {o : Operator} {m : B2} (ho : opOf o = some m) (ha : PE X a (tE X.K C G p)) (hb : PE X b (tE X.K C G q)) : PE X (.BinOp a o b pos) (tE X.K C G (.bin m p q)) := by
  have op : OpR X (binaryOp o) (fun v w H Q => ∃ x y t fp fq, opB m x y = some t ∧ Rp X.K H v x.d fp ∧ Rp X.K H w y.d fq ∧ (t = scal t.d → (∀ z, Rp X.K H z t.d [] → Q z H)) ∧
    (∀ xs ys, x.d = .lst xs → y.d = .lst ys → t = ⟨.lst (xs ++ ys), true, (x.u || noLs xs) && (y.u || noLs ys) && disj (siOf xs x.Si) (siOf ys y.Si), siOf xs x.Si ++ siOf ys y.Si, siOf xs x.Si ++ siOf ys y.Si⟩ → NewL X.K H (xs ++ ys) (fp.tail ++ fq.tail) Q) ∧
    (∀ ds, t = ⟨.lst ds, true, true, [], []⟩ → NewL X.K H ds [] Q)) := by
    intro pins s σ H v w vv ww Q I rv rw ⟨x, y, t, fp, fq, h, r1, r2, q1, q2, q3⟩
    exact opB_ok ho h I rv rw r1 r2 q1 q2 q3
  refine (pe_op op ha hb).imp ?_
  intro σ H Q ⟨g, P, δ, fps, t, δ', f, h, qq⟩
  simp only [evE] at h
  split at h
  · rename_i x δ1 e1
    split at h
    · rename_i y δ2 e2
      split at h
      · rename_i t' e3
        simp only [Option.some.injEq, Prod.mk.injEq] at h
        obtain ⟨rfl, rfl⟩ := h
        refine two f e1 e2 fun v w H1 H2 fps2 fp fq f2 ev tv tw b1 b2 ex => ⟨x, y, _, fp, fq, e3, tv.rep, tw.rep, fun e z r => ?_, fun xs ys ex' ey et p zs hp r => ?_, fun ds et p zs hp r => ?_⟩
        · exact qq z H2 fps2 [] f2 ev (by rw [e]; exact .scal r)
        · obtain ⟨_, xv, _, i1, _⟩ := tv.items (by rw [ex']; rfl)
          obtain ⟨_, yv, _, i2, _⟩ := tw.items (by rw [ey]; rfl)
          have hfp : itf x.d fp = fp.tail := by rw [ex']; rfl
          have hfq : itf y.d fq = fq.tail := by rw [ey]; rfl
          rw [hfp] at i1
          rw [hfq] at i2
          have i3 := Its.app f2 i1.si i2.si b1 (fun a m => ex a (List.mem_of_mem_tail m))
          have i4 : Its X.K g H H2 _ fps2 zs (xs ++ ys) _ _ (fp.tail ++ fq.tail) := ⟨r, i3.cl, i3.u, i3.reach, i3.priv⟩
          subst et
          exact qq _ _ fps2 _ (f2.new hp) (ev.trans (.new hp)) (i4.lst f2 hp (fun x h => b1 x (b2 x h)) f2.back0)
        · subst et
          have i4 : Its X.K g H H2 δ2 fps2 zs ds true [] [] := ⟨r, (fun _ _ _ h => nomatch h), (fun _ => ⟨.nil, (fun _ h => nomatch h)⟩), (fun _ h => nomatch h), (fun _ h => nomatch h)⟩
          exact qq _ _ fps2 _ (f2.new hp) (ev.trans (.new hp)) (i4.lst f2 hp (fun x h => b1 x (b2 x h)) f2.back0)
      · cases h
    · cases h
  · cases h
theorem nobe {op : CmpOp} {b : PE_} (h : isSet b = false) : behindInMarks op b = false := by
  cases b <;> first | rfl | (simp [isSet] at h)
/-- a comparison by data -/
def rCmp (K : Fg) (op : CmpOp) : R2 := fun v w H Q => ∃ a b fp fq r, cmpD (coOf op) a b = some r ∧ Rp K H v a fp ∧ Rp K H w b fq ∧ Q (.bl r) H
theorem opr_cmp {op : CmpOp} (hu : X.A.units + 70 < cLine) : OpR X (compareOp op) (rCmp X.K op) := by
  intro pins s σ H v w vv ww Q I rv rw ⟨a, b, fp, fq, r, h, r1, r2, q⟩
  exact cmp_ok hu rfl h I rv rw r1 r2 q
theorem ev_cmp {K : Fg} {C : Calls} {G : Sigs} {p q : E} {g : Gh} {P : List Nat} {o : CO} {δ δ' : PP.St} {t : Tm} (h : evE C G P (.cmp o p q) δ = some (t, δ')) : ∃ x δ1 y r, evE C G P p δ = some (x, δ1) ∧ evE C G (P ++ x.S) q δ1 = some (y, δ') ∧ cmpD o x.d y.d = some r ∧ t = scal (.bl r) := by
  simp only [evE] at h
  split at h
  · rename_i x δ1 e1
    split at h
    · rename_i y δ2 e2
      split at h
      · rename_i r e3
        simp only [Option.some.injEq, Prod.mk.injEq] at h
        obtain ⟨rfl, rfl⟩ := h
        exact ⟨x, δ1, y, r, e1, e2, e3, rfl⟩
      · cases h
    · cases h
  · cases h
theorem pe_cm {op : CmpOp} (hu : X.A.units + 70 < cLine) (ha : PE X a (tE X.K C G p)) (hb : PE X b (tE X.K C G q)) (hs : isSet b = false) : PE X (.Compare a [op] [b] pos) (tE X.K C G (.cmp (coOf op) p q)) ∧ PT X (.Compare a [op] [b] pos) (tT X.K C G (.cmp (coOf op) p q)) := by
  refine ⟨(pe_cmpR (opr_cmp hu) ha hb (nobe hs)).imp ?_, (pt_cmpR (opr_cmp hu) ha hb (nobe hs)).imp ?_⟩
  · intro σ H Q ⟨g, P, δ, fps, t, δ', f, h, qq⟩
    obtain ⟨x, δ1, y, r, e1, e2, e3, rfl⟩ := ev_cmp (K := X.K) (g := g) h
    exact two f e1 e2 fun v w H1 H2 fps2 fp fq f2 ev tv tw _ _ _ => ⟨_, _, fp, fq, r, e3, tv.rep, tw.rep, qq _ H2 fps2 [] f2 ev (.scal (.bl r))⟩
  · intro σ H Q ⟨g, P, δ, fps, t, δ', c, f, h, ht, qq⟩
    obtain ⟨x, δ1, y, r, e1, e2, e3, rfl⟩ := ev_cmp (K := X.K) (g := g) h
    simp only [scal, truth, Option.some.injEq] at ht
    subst ht
    exact two f e1 e2 fun v w H1 H2 fps2 fp fq f2 ev tv tw _ _ _ => ⟨_, _, fp, fq, r, e3, tv.rep, tw.rep, r, rfl, qq H2 fps2 f2 ev⟩
theorem ev_chn {C : Calls} {G : Sigs} {p q r : E} {P : List Nat} {o o2 : CO} {δ δ' : PP.St} {t : Tm} (h : evE C G P (.chn p o q o2 r) δ = some (t, δ')) : ∃ x δ1 y δ2, evE C G P p δ = some (x, δ1) ∧ evE C G (P ++ x.S) q δ1 = some (y, δ2) ∧
    ((cmpD o x.d y.d = some false ∧ t = scal (.bl false) ∧ δ' = δ2) ∨ (cmpD o x.d y.d = some true ∧ ∃ z k, evE C G (P ++ y.S) r δ2 = some (z, δ') ∧ cmpD o2 y.d z.d = some k ∧ t = scal (.bl k))) := by
  simp only [evE] at h
  split at h
  · rename_i x δ1 e1
    split at h
    · rename_i y δ2 e2
      refine ⟨x, δ1, y, δ2, e1, e2, ?_⟩
      split at h
      · rename_i e3
        split at h
        · rename_i z δ3 e4
          split at h
          · rename_i k e5
            simp only [Option.some.injEq, Prod.mk.injEq] at h
            obtain ⟨rfl, rfl⟩ := h
            exact .inr ⟨e3, z, k, e4, e5, rfl⟩
          · cases h
        · cases h
      · rename_i e3
        simp only [Option.some.injEq, Prod.mk.injEq] at h
        obtain ⟨rfl, rfl⟩ := h
        exact .inl ⟨e3, rfl, rfl⟩
      · cases h
    · cases h
  · cases h
theorem pe_ch {op op2 : CmpOp} {c : PE_} {r : E} (hu : X.A.units + 70 < cLine) (ha : PE X a (tE X.K C G p)) (hb : PE X b (tE X.K C G q)) (hc : PE X c (tE X.K C G r)) (hs : isSet c = false) :
    PE X (.Compare a [op, op2] [b, c] pos) (tE X.K C G (.chn p (coOf op) q (coOf op2) r)) ∧ PT X (.Compare a [op, op2] [b, c] pos) (tT X.K C G (.chn p (coOf op) q (coOf op2) r)) := by
  have hm : lastMarks [op, op2] [b, c] = false := nobe (op := op2) hs
  refine ⟨(pe_chain (opr_cmp hu) (opr_cmp hu) ha hb hc hm).imp ?_, (pt_chain (opr_cmp hu) (opr_cmp hu) ha hb hc hm).imp ?_⟩
  · intro σ H Q ⟨g, P, δ, fps, t, δ', f, h, qq⟩
    obtain ⟨x, δ1, y, δ2, e1, e2, hh⟩ := ev_chn h
    refine two f e1 e2 fun v w H1 H2 fps2 fp fq f2 ev tv tw _ _ _ => ?_
    rcases hh with ⟨e3, rfl, rfl⟩ | ⟨e3, z, k, e4, e5, rfl⟩
    · exact ⟨_, _, fp, fq, _, e3, tv.rep, tw.rep, false, rfl, qq _ H2 fps2 [] f2 ev (.scal (.bl false))⟩
    · exact ⟨_, _, fp, fq, _, e3, tv.rep, tw.rep, true, rfl, g.hide δ2 fps2 fq, P ++ y.S, δ2, fps2, z, δ', f2.hide tw.ex, e4, fun v3 H3 fps3 fr f3 ev3 tz =>
        ⟨_, _, fq, fr, k, e5, (tw.later ev3 f3 mem_r).rep, tz.rep, qq _ H3 fps3 [] f3.shown (ev.trans (ev3.mono mem_l)) (.scal (.bl k))⟩⟩
  · intro σ H Q ⟨g, P, δ, fps, t, δ', cc, f, h, ht, qq⟩
    obtain ⟨x, δ1, y, δ2, e1, e2, hh⟩ := ev_chn h
    refine two f e1 e2 fun v w H1 H2 fps2 fp fq f2 ev tv tw _ _ _ => ?_
    rcases hh with ⟨e3, rfl, rfl⟩ | ⟨e3, z, k, e4, e5, rfl⟩
    · simp only [scal, truth, Option.some.injEq] at ht
      subst ht
      exact ⟨_, _, fp, fq, _, e3, tv.rep, tw.rep, false, rfl, _, rfl, qq H2 fps2 f2 ev⟩
    · simp only [scal, truth, Option.some.injEq] at ht
      subst ht
      exact ⟨_, _, fp, fq, _, e3, tv.rep, tw.rep, true, rfl, g.hide δ2 fps2 fq, P ++ y.S, δ2, fps2, z, δ', f2.hide tw.ex, e4, fun v3 H3 fps3 fr f3 ev3 tz =>
        ⟨_, _, fq, fr, k, e5, (tw.later ev3 f3 mem_r).rep, tz.rep, k, rfl, qq H3 fps3 f3.shown (ev.trans (ev3.mono mem_l))⟩⟩
theorem pe_ng (ha : PE X a (tE X.K C G p)) : PE X (.UnaryOp .USub a pos) (tE X.K C G (.neg p)) := by
  refine (pe_un un_neg ha).imp fun σ H Q ⟨g, P, δ, fps, t, δ', f, h, qq⟩ => ?_
  simp only [evE] at h
  split at h
  · rename_i x δ1 e1
    split at h
    · rename_i t' e2
      simp only [Option.some.injEq, Prod.mk.injEq] at h
      obtain ⟨rfl, rfl⟩ := h
      refine ⟨g, P, δ, fps, x, δ1, f, e1, fun v H' fps' fp f' ev to => ?_⟩
      unfold opN at e2
      split at e2
      · rename_i i ei
        simp only [Option.some.injEq] at e2
        subst e2
        have r := to.rep
        rw [ei] at r
        exact ⟨i, int_of r, qq _ H' fps' [] f' ev (.scal (.int _))⟩
      · cases e2
    · cases h
  · cases h
theorem pe_nt (ha : PE X a (tE X.K C G p)) : PE X (.UnaryOp .Not a pos) (tE X.K C G (.not_ p)) := by
  refine (pe_notT ha).imp fun σ H Q ⟨g, P, δ, fps, t, δ', f, h, qq⟩ => ?_
  simp only [evE] at h
  split at h
  · rename_i x δ1 e1
    split at h
    · rename_i b e2
      simp only [Option.some.injEq, Prod.mk.injEq] at h
      obtain ⟨rfl, rfl⟩ := h
      exact ⟨g, P, δ, fps, x, δ1, f, e1, fun v H' fps' fp f' ev to => ⟨b, truV to.rep e2, qq _ H' fps' [] f' ev (.scal (.bl _))⟩⟩
    · cases h
  · cases h
theorem pt_nt (ha : PT X a (tT X.K C G p)) : PT X (.UnaryOp .Not a pos) (tT X.K C G (.not_ p)) := by
  refine (L2.pt_not ha).imp fun σ H Q ⟨g, P, δ, fps, t, δ', c, f, h, ht, qq⟩ => ?_
  simp only [evE] at h
  split at h
  · rename_i x δ1 e1
    split at h
    · rename_i b e2
      simp only [Option.some.injEq, Prod.mk.injEq] at h
      obtain ⟨rfl, rfl⟩ := h
      simp only [scal, truth, Option.some.injEq] at ht
      subst ht
      exact ⟨g, P, δ, fps, x, δ1, b, f, e1, e2, fun H' fps' f' ev => qq H' fps' f' ev⟩
    · cases h
  · cases h
theorem ev_and {C : Calls} {G : Sigs} {p q : E} {P : List Nat} {δ δ' : PP.St} {t : Tm} (h : evE C G P (.and_ p q) δ = some (t, δ')) : ∃ x δ1 k, evE C G P p δ = some (x, δ1) ∧ truth x.d = some k ∧ ((k = true ∧ evE C G P q δ1 = some (t, δ')) ∨ (k = false ∧ t = x ∧ δ' = δ1)) := by
  simp only [evE] at h
  split at h
  · rename_i x δ1 e1
    split at h
    · rename_i e2
      exact ⟨x, δ1, true, e1, e2, .inl ⟨rfl, h⟩⟩
    · rename_i e2
      simp only [Option.some.injEq, Prod.mk.injEq] at h
      obtain ⟨rfl, rfl⟩ := h
      exact ⟨_, _, false, e1, e2, .inr ⟨rfl, rfl, rfl⟩⟩
    · cases h
  · cases h
theorem ev_or {C : Calls} {G : Sigs} {p q : E} {P : List Nat} {δ δ' : PP.St} {t : Tm} (h : evE C G P (.or_ p q) δ = some (t, δ')) : ∃ x δ1 k, evE C G P p δ = some (x, δ1) ∧ truth x.d = some k ∧ ((k = false ∧ evE C G P q δ1 = some (t, δ')) ∨ (k = true ∧ t = x ∧ δ' = δ1)) := by
  simp only [evE] at h
  split at h
  · rename_i x δ1 e1
    split at h
    · rename_i e2
      simp only [Option.some.injEq, Prod.mk.injEq] at h
      obtain ⟨rfl, rfl⟩ := h
      exact ⟨_, _, true, e1, e2, .inr ⟨rfl, rfl, rfl⟩⟩
    · rename_i e2
      exact ⟨x, δ1, false, e1, e2, .inl ⟨rfl, h⟩⟩
    · cases h
  · cases h
variable {rest : List PE_}
theorem pe_an (ha : PE X a (tE X.K C G p)) (hb : PE X (.BoolOp .And (b :: rest) pos) (tE X.K C G q)) : PE X (.BoolOp .And (a :: b :: rest) pos) (tE X.K C G (.and_ p q)) := by
  refine (pe_andT ha hb).imp fun σ H Q ⟨g, P, δ, fps, t, δ', f, h, qq⟩ => ?_
  obtain ⟨x, δ1, k, e1, e2, hh⟩ := ev_and h
  refine ⟨g, P, δ, fps, x, δ1, f, e1, fun v H' fps' fp f' ev to => ⟨k, truV to.rep e2, ?_⟩⟩
  rcases hh with ⟨rfl, e3⟩ | ⟨rfl, rfl, rfl⟩
  · exact ⟨g, P, δ1, fps', t, δ', f', e3, fun w H2 fps2 fq f2 ev2 tw => qq w H2 fps2 fq f2 (ev.trans ev2) (tw.since ev.back)⟩
  · exact qq v H' fps' fp f' ev to
theorem pe_or_ (ha : PE X a (tE X.K C G p)) (hb : PE X (.BoolOp .Or (b :: rest) pos) (tE X.K C G q)) : PE X (.BoolOp .Or (a :: b :: rest) pos) (tE X.K C G (.or_ p q)) := by
  refine (pe_orT ha hb).imp fun σ H Q ⟨g, P, δ, fps, t, δ', f, h, qq⟩ => ?_
  obtain ⟨x, δ1, k, e1, e2, hh⟩ := ev_or h
  refine ⟨g, P, δ, fps, x, δ1, f, e1, fun v H' fps' fp f' ev to => ⟨k, truV to.rep e2, ?_⟩⟩
  rcases hh with ⟨rfl, e3⟩ | ⟨rfl, rfl, rfl⟩
  · exact ⟨g, P, δ1, fps', t, δ', f', e3, fun w H2 fps2 fq f2 ev2 tw => qq w H2 fps2 fq f2 (ev.trans ev2) (tw.since ev.back)⟩
  · exact qq v H' fps' fp f' ev to
theorem pw_an (ha : PT X a (tT X.K C G p)) (hb : PW X (.BoolOp .And (b :: rest) pos) (tT X.K C G q)) : PW X (.BoolOp .And (a :: b :: rest) pos) (tT X.K C G (.and_ p q)) := by
  refine (pw_and ha hb).imp fun σ H Q ⟨g, P, δ, fps, t, δ', c, f, h, ht, qq⟩ => ?_
  obtain ⟨x, δ1, k, e1, e2, hh⟩ := ev_and h
  refine ⟨g, P, δ, fps, x, δ1, k, f, e1, e2, fun H' fps' f' ev => ?_⟩
  rcases hh with ⟨rfl, e3⟩ | ⟨rfl, rfl, rfl⟩
  · rw [if_pos rfl]
    exact ⟨g, P, δ1, fps', t, δ', c, f', e3, ht, fun H2 fps2 f2 ev2 => qq H2 fps2 f2 (ev.trans ev2)⟩
  · rw [if_neg (by decide)]
    rw [e2] at ht
    simp only [Option.some.injEq] at ht
    subst ht
    exact qq H' fps' f' ev
theorem pw_or_ (ha : PT X a (tT X.K C G p)) (hb : PW X (.BoolOp .Or (b :: rest) pos) (tT X.K C G q)) : PW X (.BoolOp .Or (a :: b :: rest) pos) (tT X.K C G (.or_ p q)) := by
  refine (pw_or ha hb).imp fun σ H Q ⟨g, P, δ, fps, t, δ', c, f, h, ht, qq⟩ => ?_
  obtain ⟨x, δ1, k, e1, e2, hh⟩ := ev_or h
  refine ⟨g, P, δ, fps, x, δ1, k, f, e1, e2, fun H' fps' f' ev => ?_⟩
  rcases hh with ⟨rfl, e3⟩ | ⟨rfl, rfl, rfl⟩
  · rw [if_neg (by decide)]
    exact ⟨g, P, δ1, fps', t, δ', c, f', e3, ht, fun H2 fps2 f2 ev2 => qq H2 fps2 f2 (ev.trans ev2)⟩
  · rw [if_pos rfl]
    rw [e2] at ht
    simp only [Option.some.injEq] at ht
    subst ht
    exact qq H' fps' f' ev
theorem ev_ife {C : Calls} {G : Sigs} {p q r : E} {P : List Nat} {δ δ' : PP.St} {t : Tm} (h : evE C G P (.ife r p q) δ = some (t, δ')) : ∃ x δ1 k, evE C G P r δ = some (x, δ1) ∧ truth x.d = some k ∧ evE C G P (if k = true then p else q) δ1 = some (t, δ') := by
  simp only [evE] at h
  split at h
  · rename_i x δ1 e1
    split at h
    · rename_i e2
      exact ⟨x, δ1, true, e1, e2, h⟩
    · rename_i e2
      exact ⟨x, δ1, false, e1, e2, h⟩
    · cases h
  · cases h
theorem pe_if {c : PE_} {r : E} (hc : PT X c (tT X.K C G r)) (ha : PE X a (tE X.K C G p)) (hb : PE X b (tE X.K C G q)) : PE X (.IfExp c a b pos) (tE X.K C G (.ife r p q)) := by
  refine (pe_ifExp hc ha hb).imp fun σ H Q ⟨g, P, δ, fps, t, δ', f, h, qq⟩ => ?_
  obtain ⟨x, δ1, k, e1, e2, e3⟩ := ev_ife h
  refine ⟨g, P, δ, fps, x, δ1, k, f, e1, e2, fun H' fps' f' ev => ?_⟩
  cases k with
  | true => exact ⟨g, P, δ1, fps', t, δ', f', e3, fun w H2 fps2 fq f2 ev2 tw => qq w H2 fps2 fq f2 (ev.trans ev2) (tw.since ev.back)⟩
  | false => exact ⟨g, P, δ1, fps', t, δ', f', e3, fun w H2 fps2 fq f2 ev2 tw => qq w H2 fps2 fq f2 (ev.trans ev2) (tw.since ev.back)⟩
theorem pt_if {c : PE_} {r : E} (hc : PT X c (tT X.K C G r)) (ha : PT X a (tT X.K C G p)) (hb : PT X b (tT X.K C G q)) : PT X (.IfExp c a b pos) (tT X.K C G (.ife r p q)) := by
  refine ⟨fun pins s σ H Q I ⟨g, P, δ, fps, t, δ', cc, f, h, ht, qq⟩ => ?_⟩
  obtain ⟨x, δ1, k, e1, e2, e3⟩ := ev_ife h
  show wpAny _ _ (do if ← isTrue c X.env (eval c X.env) then isTrue a X.env (eval a X.env) else isTrue b X.env (eval b X.env)) _ _ _
  refine wpAny_bind (thn (hc.run pins s σ H (fun k' H' => k' = k ∧ ∃ fps', FR X.K g σ H' δ1 fps' ∧ Ev P H δ fps H' δ1 fps') I ⟨g, P, δ, fps, x, δ1, k, f, e1, e2, fun H' fps' f' ev => ⟨rfl, fps', f', ev⟩⟩) fun k' s1 ⟨H1, I1, ek, fps1, f1, ev1⟩ => ?_)
  subst ek
  cases k' with
  | true => exact ha.run pins s1 σ H1 Q I1 ⟨g, P, δ1, fps1, t, δ', cc, f1, e3, ht, fun H2 fps2 f2 ev2 => qq H2 fps2 f2 (ev1.trans ev2)⟩
  | false => exact hb.run pins s1 σ H1 Q I1 ⟨g, P, δ1, fps1, t, δ', cc, f1, e3, ht, fun H2 fps2 f2 ev2 => qq H2 fps2 f2 (ev1.trans ev2)⟩
end
end PP

/-! PPSound2: displays, items, slices, built-in functions, isinstance; what is walked. -/
namespace PP
open PySem PySem.Spec PyProof.Rows L2
section
variable {X : Cx} {C : Calls} {G : Sigs} {a b e : PE_} {es : List PE_} {p q : E} {l : Es} {pos : Pos}
theorem star_one {e : PE_} {es : List PE_} {env : Env} (h : isStar e = false) : starEach (e :: es) env = (false, eval e env) :: starEach es env := by
  cases e <;> first | rfl | (simp [isStar] at h)
theorem star_all {env : Env} : ∀ {es : List PE_}, es.any isStar = false → (starEach es env).any (·.1) = false
  | [], _ => rfl
  | e :: es, h => by
    simp only [List.any_cons, Bool.or_eq_false_iff] at h
    rw [star_one h.1, List.any_cons, star_all h.2]
    rfl
theorem back_any {pos : Pos} (l : List (Bool × Sem Value)) : (backTo pos l).any (·.1) = l.any (·.1) := by
  unfold backTo
  rw [List.any_map]
  rfl
theorem star_back {env : Env} {es : List PE_} (h : es.any isStar = false) : (backTo pos (starEach es env)).any (·.1) = false := by rw [back_any, star_all h]
theorem pa_nil' : PA X [] (tAs X.K C G .nil) := pa_nil.imp fun σ H Q ⟨g, P, δ, fps, t, δ', f, h, qq⟩ => by
  simp only [evEs, Option.some.injEq, Prod.mk.injEq] at h
  obtain ⟨rfl, rfl⟩ := h
  exact qq [] H fps [] f .refl (.nil fun _ z => z)
theorem pa_cons' (ha : PE X a (tE X.K C G p)) (hr : PA X es (tAs X.K C G l)) (hs : isStar a = false) : PA X (a :: es) (tAs X.K C G (.cons p l)) := by
  refine (pa_cons ha hr (star_one hs)).imp fun σ H Q ⟨g, P, δ, fps, ts, δ', f, h, qq⟩ => ?_
  simp only [evEs] at h
  split at h
  · rename_i x δ1 e1
    split at h
    · rename_i xs δ2 e2
      simp only [Option.some.injEq, Prod.mk.injEq] at h
      obtain ⟨rfl, rfl⟩ := h
      exact ⟨g, P, δ, fps, x, δ1, f, e1, fun v H1 fps1 fp f1 ev1 to => ⟨g.hide δ1 fps1 fp, P ++ x.S, δ1, fps1, xs, δ2, f1.hide to.ex, e2, fun vs H2 fps2 fl f2 ev2 tos =>
        qq (v :: vs) H2 fps2 (fp :: fl) f2.shown (ev1.trans (ev2.mono mem_l)) (.cons (to.later ev2 f2 mem_r) ev1.back to.ex tos.shown)⟩⟩
    · cases h
  · cases h
/-- the values of keywords -/
theorem pk_nil' : PK X [] (tKs X.K C G .nil) := ⟨fun pos pins s σ H Q I ⟨g, P, δ, fps, t, δ', f, h, qq⟩ => by
  simp only [evKs, Option.some.injEq, Prod.mk.injEq] at h
  obtain ⟨rfl, rfl⟩ := h
  exact pk_nil.run pos pins s σ H Q I (qq [] H fps [] f .refl (.nil fun _ z => z))⟩
theorem pk_cons' {k : Str} {kpos : Pos} {ks : List Keyword} {m : Ks} (ha : PE X a (tE X.K C G p)) (hr : PK X ks (tKs X.K C G m)) : PK X (⟨some k, a, kpos⟩ :: ks) (tKs X.K C G (.cons k p m)) :=
  ⟨fun pos pins s σ H Q I ⟨g, P, δ, fps, ts, δ', f, h, qq⟩ => by
    simp only [evKs] at h
    split at h
    · rename_i x δ1 e1
      split at h
      · rename_i xs δ2 e2
        simp only [Option.some.injEq, Prod.mk.injEq] at h
        obtain ⟨rfl, rfl⟩ := h
        exact (pk_cons ha hr).run pos pins s σ H Q I ⟨g, P, δ, fps, x, δ1, f, e1, fun v H1 fps1 fp f1 ev1 to => ⟨g.hide δ1 fps1 fp, P ++ x.S, δ1, fps1, xs, δ2, f1.hide to.ex, e2, fun vs H2 fps2 fl f2 ev2 tos =>
          qq (v :: vs) H2 fps2 (fp :: fl) f2.shown (ev1.trans (ev2.mono mem_l)) (.cons (to.later ev2 f2 mem_r) ev1.back to.ex tos.shown)⟩⟩
      · cases h
    · cases h⟩
theorem pe_tu {x1 : Nat} (h : PA X es (tAs X.K C G l)) : PE X (.Tuple es x1 pos) (tE X.K C G (.tup l)) := by
  refine (pe_tup h).imp fun σ H Q ⟨g, P, δ, fps, t, δ', f, hh, qq⟩ => ?_
  simp only [evE] at hh
  split at hh
  · rename_i ts δ1 e1
    split at hh
    · rename_i t' e2
      simp only [Option.some.injEq, Prod.mk.injEq] at hh
      obtain ⟨rfl, rfl⟩ := hh
      unfold mkTup at e2
      split at e2
      · rename_i hz
        simp only [Option.some.injEq] at e2
        subst e2
        refine ⟨g, P, δ, fps, ts, δ1, f, e1, fun vs H1 fps1 fl f1 ev1 tos => ⟨by rw [tos.length.1]; exact hz, fun r hr => ?_⟩⟩
        exact qq _ _ fps1 _ (f1.new hr) (ev1.trans (.new hr)) ((tos.its f1).tup hr)
      · cases e2
    · cases hh
  · cases hh
theorem pe_ls (h : PA X es (tAs X.K C G l)) : PE X (.List es pos) (tE X.K C G (.lst l)) := by
  refine (pe_lst h).imp fun σ H Q ⟨g, P, δ, fps, t, δ', f, hh, qq⟩ => ?_
  simp only [evE] at hh
  split at hh
  · rename_i ts δ1 e1
    split at hh
    · rename_i t' e2
      simp only [Option.some.injEq, Prod.mk.injEq] at hh
      obtain ⟨rfl, rfl⟩ := hh
      unfold mkLst at e2
      split at e2
      · rename_i hz
        simp only [Option.some.injEq] at e2
        subst e2
        refine ⟨g, P, δ, fps, ts, δ1, f, e1, fun vs H1 fps1 fl f1 ev1 tos => ⟨by rw [tos.length.1]; exact hz, fun r hr => ?_⟩⟩
        exact qq _ _ fps1 _ (f1.new hr) (ev1.trans (.new hr)) ((tos.its f1).lst f1 hr ev1.back f1.back0)
      · cases e2
    · cases hh
  · cases hh
theorem plain_ix {b : PE_} (h : isSlice b = false) : PlainIx b := by
  intro o i
  cases b <;> first | rfl | (simp [isSlice] at h)
theorem sub_tm {x y t : Tm} (h : opSub x y = some t) : t = ⟨t.d, false, x.u, x.Si, x.Si⟩ ∧ ∃ ds, seqOf x.d = some ds := by
  obtain ⟨xd, _, xu, _, xS⟩ := x
  unfold opSub at h
  split at h
  · rename_i e1 _
    obtain ⟨d, _, e⟩ := Option.map_eq_some_iff.mp h
    subst e
    exact ⟨rfl, _, by rw [e1]; rfl⟩
  · rename_i e1 _
    obtain ⟨d, _, e⟩ := Option.map_eq_some_iff.mp h
    subst e
    exact ⟨rfl, _, by rw [e1]; rfl⟩
  · rename_i e1 _
    obtain ⟨d, _, e⟩ := Option.map_eq_some_iff.mp h
    subst e
    exact ⟨rfl, _, by rw [e1]; rfl⟩
  · cases h
theorem pe_sb (ha : PE X a (tE X.K C G p)) (hb : PE X b (tE X.K C G q)) (hs : isSlice b = false) : PE X (.Subscript a b pos) (tE X.K C G (.sub p q)) := by
  refine (pe_ix ix_seq ha hb (plain_ix hs)).imp fun σ H Q ⟨g, P, δ, fps, t, δ', f, h, qq⟩ => ?_
  simp only [evE] at h
  split at h
  · rename_i x δ1 e1
    split at h
    · rename_i y δ2 e2
      split at h
      · rename_i t' e3
        simp only [Option.some.injEq, Prod.mk.injEq] at h
        obtain ⟨rfl, rfl⟩ := h
        refine two f e1 e2 fun v w H1 H2 fps2 fp fq f2 ev tv tw b1 b2 ex => opSub_ok e3 tv.rep tw.rep fun z fr r s => ?_
        obtain ⟨et, ds, es⟩ := sub_tm e3
        obtain ⟨_, xs, _, i1, _⟩ := tv.items es
        have to := i1.item r s
        rw [← et] at to
        exact qq z H2 fps2 fr f2 ev to
      · cases h
    · cases h
  · cases h
theorem po_no : PO X none (tO X.K C G .no) := ⟨fun pins s σ H Q I ⟨g, P, δ, fps, t, δ', f, h, qq⟩ => by
  simp only [evO, Option.some.injEq, Prod.mk.injEq] at h
  obtain ⟨rfl, rfl⟩ := h
  exact po_none.run pins s σ H Q I (qq H fps f .refl)⟩
theorem po_yes (ha : PE X a (tE X.K C G p)) : PO X (some a) (tO X.K C G (.yes p)) := ⟨fun pins s σ H Q I ⟨g, P, δ, fps, t, δ', f, h, qq⟩ => by
  simp only [evO] at h
  split at h
  · rename_i x δ1 e1
    split at h
    · rename_i i ei
      simp only [Option.some.injEq, Prod.mk.injEq] at h
      obtain ⟨rfl, rfl⟩ := h
      refine (po_some ha).run pins s σ H Q I ⟨g, P, δ, fps, x, δ1, f, e1, fun v H1 fps1 fp f1 ev1 to => ?_⟩
      have r := to.rep
      rw [ei] at r
      exact ⟨i, int_of r, qq H1 fps1 f1 ev1⟩
    · cases h
  · cases h⟩
theorem pe_sc {lo hi : Option PE_} {ol oh : Eo} {p2 : Pos} (ha : PE X a (tE X.K C G p)) (hl : PO X lo (tO X.K C G ol)) (hh : PO X hi (tO X.K C G oh)) : PE X (.Subscript a (.Slice lo hi none p2) pos) (tE X.K C G (.slc p ol oh)) := by
  refine (pe_slice sl_list ha hl hh).imp fun σ H Q ⟨g, P, δ, fps, t, δ', f, h, qq⟩ => ?_
  simp only [evE] at h
  split at h
  · rename_i x δ1 e1
    split at h
    · rename_i i1 δ2 e2
      split at h
      · rename_i i2 δ3 e3
        split at h
        · rename_i t' e4
          simp only [Option.some.injEq, Prod.mk.injEq] at h
          obtain ⟨rfl, rfl⟩ := h
          refine ⟨g, P, δ, fps, x, δ1, f, e1, fun v H1 fps1 fp f1 ev1 to => ⟨g.hide δ1 fps1 fp, P ++ x.S, δ1, fps1, i1, δ2, f1.hide to.ex, e2, fun H2 fps2 f2 ev2 => ⟨g.hide δ1 fps1 fp, P ++ x.S, δ2, fps2, i2, δ3, f2, e3, fun H3 fps3 f3h ev3 => ?_⟩⟩⟩
          have ev := ev2.trans ev3
          have to3 := to.later ev f3h mem_r
          have f3 := f3h.shown
          have evA := ev1.trans (ev.mono mem_l)
          have seq : ∃ ds, seqOf x.d = some ds ∧ ((∃ l, x.d = .lst l) ∨ ∃ l, x.d = .frz l) ∧ t' = ⟨.lst (cutD ds i1 i2), true, x.u || noLs ds, siOf ds x.Si, siOf ds x.Si⟩ := by
            unfold opSlc at e4
            split at e4
            · rename_i l el
              simp only [Option.some.injEq] at e4
              exact ⟨l, by rw [el]; rfl, .inl ⟨l, el⟩, e4.symm⟩
            · rename_i l el
              simp only [Option.some.injEq] at e4
              exact ⟨l, by rw [el]; rfl, .inr ⟨l, el⟩, e4.symm⟩
            · cases e4
          obtain ⟨ds, es, ek, et⟩ := seq
          obtain ⟨aa, xs, ev', it, hk, _⟩ := to3.items es
          have sq : SqL X.K H3 aa xs := by
            rcases hk with ⟨z, _⟩ | ⟨_, l, el⟩
            · exact z
            · rcases ek with ⟨l2, e2⟩ | ⟨l2, e2⟩ <;> (rw [el] at e2; cases e2)
          refine ⟨aa, xs, ev', sq, fun r hr => ?_⟩
          subst et
          obtain ⟨fq, r1, s1⟩ := it.rep.drop (HT.sIx xs.length 0 i1)
          obtain ⟨fr, r2, s2⟩ := r1.take (HT.sIx xs.length xs.length i2 - HT.sIx xs.length 0 i1)
          have hl : xs.length = ds.length := it.rep.length
          have e5 : cutD ds i1 i2 = (ds.drop (HT.sIx xs.length 0 i1)).take (HT.sIx xs.length xs.length i2 - HT.sIx xs.length 0 i1) := by unfold cutD; rw [hl]
          have r3 : RpAll X.K H3 (cutV xs i1 i2) (cutD ds i1 i2) fr := by rw [e5]; exact r2
          have i2' := it.si.sub r3 (s2.trans s1)
          exact qq _ _ fps3 _ (f3.new hr) (evA.trans (.new hr)) (i2'.lst f3 hr evA.back f3.back0)
        · cases h
      · cases h
    · cases h
  · cases h
/-- the built-in functions' values -/
theorem bf_boot {x : Str} {f : BF} (h : bfOf x = some f) : bootBuiltins x = some (valF f) ∧ (x ≠ "__name__") ∧ (x == ("__debug__" : Str)) = false ∧ ((∃ n, valF f = .builtin n) ∨ ∃ n, valF f = .type n) := by
  unfold bfOf at h
  repeat' split at h
  all_goals first
    | (rename_i hx
       simp only [Option.some.injEq] at h
       subst h
       rw [hx]
       refine ⟨by decide +kernel, by decide, by decide, ?_⟩
       first | exact .inl ⟨_, rfl⟩ | exact .inr ⟨_, rfl⟩)
    | cases h
theorem opFs_ne {f : BF} : opFs f [] = none := by cases f <;> rfl
/-- scalars -/
def rBf (K : Fg) (f : BF) : List V → Hp → VK → Prop := fun vs H Q => (f ≠ .list_ ∧ ∃ ds fp d, opFs f ds = some d ∧ RpAll K H vs ds fp ∧ ∀ z, Rp K H z d [] → Q z H) ∨
  (f = .list_ ∧ ∃ x d items fp, vs = [x] ∧ seqOf d = some items ∧ Rp K H x d fp ∧ ∀ (p : Addr) (xs : List V), H p = none → RpAll K H xs items (itf d fp) → Q (.ref p) (upd H p (.lst xs)))
theorem callR_bf {f : BF} (hu : X.A.units + 70 < cLine) (hg : X.A.guards = some []) (hc : X.calm = true) : CallR X (valF f) (rBf X.K f) := by
  intro pins s σ H vs us Q I r h
  rcases h with ⟨_, ds, fp, d, h, ra, q⟩ | ⟨rfl, x, d, items, fp, rfl, h, ra, q⟩
  · exact callS_ok hu hg hc h I r ra q
  · exact callL_ok h I r ra q
theorem pe_bf {x : Str} {f : BF} {p0 : Pos} (hu : X.A.units + 70 < cLine) (hg : X.A.guards = some []) (hc : X.calm = true) (hx : bfOf x = some f) (gl : Gl X x) (hm : X.mg x = none) (h : PA X es (tAs X.K C G l)) (hs : es.any isStar = false) (hl : es = [] → l = .nil) :
    PE X (.Call (.Name x p0) es [] pos) (tE X.K C G (.bif f l)) := by
  obtain ⟨hb, hn, hd, hv⟩ := bf_boot hx
  have key : ∀ σ H Q, tE X.K C G (.bif f l) σ H Q → es ≠ [] ∧ tAs X.K C G l σ H fun vs H1 => rBf X.K f vs H1 Q := by
    intro σ H Q ⟨g, P, δ, fps, t, δ', f0, hh, qq⟩
    simp only [evE] at hh
    split at hh
    · rename_i ts δ1 e1
      split at hh
      · rename_i t' e2
        simp only [Option.some.injEq, Prod.mk.injEq] at hh
        obtain ⟨rfl, rfl⟩ := hh
        refine ⟨fun z => ?_, g, P, δ, fps, ts, δ1, f0, e1, fun vs H1 fps1 fl f1 ev1 tos => ?_⟩
        · have := hl z
          subst this
          simp only [evEs, Option.some.injEq, Prod.mk.injEq] at e1
          obtain ⟨rfl, rfl⟩ := e1
          unfold opF at e2
          split at e2
          · cases e2
          · rw [show ([] : List Tm).map (·.d) = [] from rfl, opFs_ne] at e2; cases e2
        · unfold opF at e2
          split at e2
          · split at e2
            · rename_i a
              obtain ⟨xs, e3, e4⟩ := Option.map_eq_some_iff.mp e2
              cases tos with
              | cons to b1 ex1 r =>
                cases r with
                | nil b2 =>
                  refine .inr ⟨rfl, _, a.d, xs, _, rfl, e3, to.rep, fun r zs hr rz => ?_⟩
                  obtain ⟨_, xs', _, it, _⟩ := to.items e3
                  have i2 := it.si
                  have i3 : Its X.K g H H1 _ fps1 zs xs _ _ _ := ⟨rz, i2.cl, i2.u, i2.reach, i2.priv⟩
                  subst e4
                  exact qq _ _ fps1 _ (f1.new hr) (ev1.trans (.new hr)) (i3.lst f1 hr ev1.back f1.back0)
            · cases e2
          · rename_i hne
            obtain ⟨d, e3, e4⟩ := Option.map_eq_some_iff.mp e2
            subst e4
            exact .inl ⟨fun z => by first | exact hne z | exact hne _ z | (subst z; exact hne rfl), _, _, d, e3, (tos.its f1).rep, fun z r => qq z H1 fps1 [] f1 ev1 (.scal r)⟩
      · cases hh
    · cases hh
  cases es with
  | nil => exact ⟨fun pins s σ H Q I h => absurd rfl (key σ H Q h).1⟩
  | cons e es =>
    simp only [List.any_cons, Bool.or_eq_false_iff] at hs
    rcases hv with ⟨n, hv⟩ | ⟨n, hv⟩
    · have cr := callR_bf (f := f) hu hg hc
      rw [hv] at cr hb
      exact (pe_callB cr gl hm hb h hn hd (star_one hs.1) (star_back hs.2)).imp fun σ H Q h => (key σ H Q h).2
    · have cr := callR_bf (f := f) hu hg hc
      rw [hv] at cr hb
      exact (pe_callTy cr gl hm hb h hn hd (star_one hs.1) (star_back hs.2)).imp fun σ H Q h => (key σ H Q h).2
/-- a type's name -/
theorem ty_boot {x : Str} {t : Ty} (h : tyOf x = some t) : bootBuiltins x = some (.type (tyName t)) ∧ (x ≠ "__name__") ∧ (x == ("__debug__" : Str)) = false ∧ t.isB = true := by
  unfold tyOf at h
  repeat' split at h
  all_goals first
    | (rename_i hx
       simp only [Option.some.injEq] at h
       subst h
       rw [hx]
       exact ⟨by decide +kernel, by decide, by decide, rfl⟩)
    | cases h
theorem ev_isi {C : Calls} {G : Sigs} {p : E} {P : List Nat} {δ δ' : PP.St} {t : Tm} {ts : List Ty} (h : evE C G P (.isi p ts) δ = some (t, δ')) : ∃ x, evE C G P p δ = some (x, δ') ∧ tyOk x.d = true ∧ t = scal (.bl (ts.any fun t => tyIs t x.d)) := by
  simp only [evE] at h
  split at h
  · rename_i x δ1 e1
    split at h
    · rename_i ho
      simp only [Option.some.injEq, Prod.mk.injEq] at h
      obtain ⟨rfl, rfl⟩ := h
      exact ⟨x, e1, ho, rfl⟩
    · cases h
  · cases h
theorem pe_is1 {x : Str} {t : Ty} {p0 p1 : Pos} (hx : tyOf x = some t) (gl : Gl X x) (hm : X.mg x = none) (gi : Gl X "isinstance") (hi : X.mg "isinstance" = none) (ha : PE X a (tE X.K C G p)) (hs : isStar a = false) :
    PE X (.Call (.Name "isinstance" p0) [a, .Name x p1] [] pos) (tE X.K C G (.isi p [t])) := by
  obtain ⟨hb, hn, hd, ht⟩ := ty_boot hx
  refine (pe_callB call_isi gi hi boot_isinstance (pa_cons ha (pa_cons (pe_bltn (v := .ty (tyName t)) gl hm hb rfl hn hd) pa_nil (star_one rfl)) (star_one hs)) (by decide) (by decide) (star_one hs) (star_back rfl)).imp ?_
  intro σ H Q ⟨g, P, δ, fps, t', δ', f, h, qq⟩
  obtain ⟨y, e1, ho, rfl⟩ := ev_isi h
  refine ⟨g, P, δ, fps, y, δ', f, e1, fun v H1 fps1 fp f1 ev1 to => ?_⟩
  refine ⟨v, _, _, _, _, rfl, .ty _, tyX_of to.rep, kit_is ho ht, ?_⟩
  have z := qq (.bl ([t].any fun t => tyIs t y.d)) H1 fps1 [] f1 ev1 (.scal (.bl _))
  simpa using z
theorem pe_is2 {x y : Str} {t u : Ty} {p0 p1 p2 p3 : Pos} {kk : Nat} (hx : tyOf x = some t) (hy : tyOf y = some u) (gl : Gl X x) (hm : X.mg x = none) (gl2 : Gl X y) (hm2 : X.mg y = none) (gi : Gl X "isinstance") (hi : X.mg "isinstance" = none) (ha : PE X a (tE X.K C G p)) (hs : isStar a = false) :
    PE X (.Call (.Name "isinstance" p0) [a, .Tuple [.Name x p1, .Name y p2] kk p3] [] pos) (tE X.K C G (.isi p [t, u])) := by
  obtain ⟨hb, hn, hd, ht⟩ := ty_boot hx
  obtain ⟨hb2, hn2, hd2, hu⟩ := ty_boot hy
  refine (pe_callB call_isiT gi hi boot_isinstance (pa_cons ha (pa_cons (pe_tup (pa_cons (pe_bltn (v := .ty (tyName t)) gl hm hb rfl hn hd) (pa_cons (pe_bltn (v := .ty (tyName u)) gl2 hm2 hb2 rfl hn2 hd2) pa_nil (star_one rfl)) (star_one rfl))) pa_nil (star_one rfl)) (star_one hs)) (by decide) (by decide) (star_one hs) (star_back rfl)).imp ?_
  intro σ H Q ⟨g, P, δ, fps, t', δ', f, h, qq⟩
  obtain ⟨z, e1, ho, rfl⟩ := ev_isi h
  refine ⟨g, P, δ, fps, z, δ', f, e1, fun v H1 fps1 fp f1 ev1 to => ⟨by show 2 ≤ sizeLine; decide, fun r hr => ?_⟩⟩
  have kp : Kp (fun _ => False) H1 (upd H1 r (.tup [.ty (tyName t), .ty (tyName u)])) := Kp.new hr
  refine ⟨v, r, _, _, _, _, rfl, upd_same, .cons (.ty _) (.cons (.ty _) .nil), tyX_of (to.kept kp).rep, kit_iss (ts := [t, u]) ho (by simp [ht, hu]), ?_⟩
  exact qq _ _ fps1 [] (f1.new hr) (ev1.trans (.new hr)) (.scal (.bl _))
end
end PP

/-! PPWalk: what loops and comprehensions walk. -/
namespace PP
open PySem PySem.Spec PyProof.Rows L2
/-- what is walked: at turn i it yields the item i, as long as the lists at fA stand -/
structure WO (K : Fg) (g : Gh) (H : Hp) (δ : PP.St) (fps : Nat → List Addr) (J : L2.It) (w : Wk) (fA fI : List Addr) : Prop where
  cl : ∀ i a, clm δ fps i a → a ∈ fA → i ∈ w.S
  cli : ∀ i a, clm δ fps i a → a ∈ fI → i ∈ w.Si
  sub : ∀ a ∈ fI, a ∈ fA
  ex : ∀ a ∈ fA, ∃ xs, H a = some (.lst xs)
  reach : ∀ a ∈ fA, g.R a ∨ g.F0 a = none ∨ ∃ i, (i, a) ∈ g.IO
  priv : ∀ a ∈ fA, ¬ g.X a
  go : ∀ (M : Addr → Prop) H2, Kp M H H2 → (∀ a ∈ fA, ¬ M a) → ∀ i d, w.ds[i]? = some d → J.go i H2 ∧ ∀ x H3, J.yld i H2 x H3 → Kp (fun _ => False) H2 H3 ∧ ∃ fq, Rp K H3 x d fq ∧ ∀ a ∈ fq, a ∈ fI
  stop : ∀ (M : Addr → Prop) H2, Kp M H H2 → (∀ a ∈ fA, ¬ M a) → J.stop w.ds.length H2
def tI (K : Fg) (C : Calls) (G : Sigs) (it : PP.It) : L2.TI := fun σ H R => ∃ g P δ fps w δ', FR K g σ H δ fps ∧ evI C G P it δ = some (w, δ') ∧
  ∀ J H' fps' fA fI, FR K g σ H' δ' fps' → Ev P H δ fps H' δ' fps' → WO K g H' δ' fps' J w fA fI → R J H'
section
variable {K : Fg} {g : Gh} {Hs H H2 : Hp} {δ : PP.St} {fps : Nat → List Addr} {v : V} {t : Tm} {fp : List Addr} {ds : List D} {a : Addr}
theorem stay_lst {M : Addr → Prop} {xs : List V} (k : Kp M H H2) (h : SqL K H a xs) (n : (∃ ys, H a = some (.lst ys)) → ¬ M a) : SqL K H2 a xs := by
  rcases h with (h | ⟨o, h⟩) | h
  · exact .of (k.at h (n ⟨_, h⟩))
  · rcases k a _ h with z | ⟨_, _, _, z, _⟩
    · exact .inl (.inr ⟨o, z⟩)
    · cases z
  · exact .inr h
theorem RpAll.get' {H : Hp} {xs : List V} {fp : List Addr} (r : RpAll K H xs ds fp) {i : Nat} {d : D} (h : ds[i]? = some d) : ∃ v fq, xs[i]? = some v ∧ Rp K H v d fq ∧ ∀ a ∈ fq, a ∈ fp := by
  obtain ⟨v, fq, h1, h2, h3⟩ := r.get h
  exact ⟨v, fq, h1, h2, fun a m => h3.subset m⟩
/-- how a sequence stands, as long as its lists do -/
theorem seq_at (to : TO K g Hs H δ fps v t fp) (s : seqOf t.d = some ds) : ∃ a xs, v = .ref a ∧ RpAll K H xs ds (itf t.d fp) ∧
    ((SqL K H a xs ∧ ((∃ l, t.d = .lst l) ∨ ∃ l, t.d = .frz l) ∧ ∀ (M : Addr → Prop) H2, Kp M H H2 → (∀ a ∈ fp, ¬ M a) → SqL K H2 a xs) ∨
     (SqT K H a xs ∧ (∃ l, t.d = .tup l) ∧ ∀ (M : Addr → Prop) H2, Kp M H H2 → SqT K H2 a xs)) ∧
    (∀ b ∈ itf t.d fp, b ∈ fp) ∧ ∀ (M : Addr → Prop) H2, Kp M H H2 → (∀ a ∈ fp, ¬ M a) → RpAll K H2 xs ds (itf t.d fp) := by
  have hr := to.rep
  obtain ⟨td, tf, tu, tS, tSi⟩ := t
  simp only at hr s ⊢
  cases hr with
  | lst e r n =>
    simp only [seqOf, Option.some.injEq] at s
    subst s
    exact ⟨_, _, rfl, r, .inl ⟨.of e, .inl ⟨_, rfl⟩, fun M H2 k m => .of (k.at e (m _ List.mem_cons_self))⟩, fun b m => List.mem_cons_of_mem _ m, fun M H2 k m => r.stay k fun b hb => m b (List.mem_cons_of_mem _ hb)⟩
  | frz e r n =>
    simp only [seqOf, Option.some.injEq] at s
    subst s
    exact ⟨_, _, rfl, r, .inl ⟨e.sq, .inr ⟨_, rfl⟩, fun M H2 k m => (k.stL e).sq⟩, fun b m => m, fun M H2 k m => r.stay k m⟩
  | tup e r n =>
    simp only [seqOf, Option.some.injEq] at s
    subst s
    exact ⟨_, _, rfl, r, .inr ⟨e, ⟨_, rfl⟩, fun M H2 k => k.sqT e⟩, fun b m => m, fun M H2 k m => r.stay k m⟩
  | non => simp [seqOf] at s
  | bl b => simp [seqOf] at s
  | int i => simp [seqOf] at s
  | str z => simp [seqOf] at s
/-- a sequence is walked -/
theorem wo_seq (to : TO K g Hs H δ fps v t fp) (s : seqOf t.d = some ds) : ∃ a fI, v = .ref a ∧
    (((∃ xs, SqL K H a xs) ∧ WO K g H δ fps (Itl K a) ⟨ds, t.S, t.Si⟩ fp fI) ∨ ((∃ xs, SqT K H a xs) ∧ WO K g H δ fps (Itt K a) ⟨ds, t.S, t.Si⟩ fp fI)) := by
  obtain ⟨_, _, ev2, it, _, _⟩ := to.items s
  obtain ⟨a, xs, ev, r, hk, hsub, hst⟩ := seq_at to s
  refine ⟨a, itf t.d fp, ev, ?_⟩
  have hl := r.length
  rcases hk with ⟨q, _, hs⟩ | ⟨q, _, hs⟩
  · refine .inl ⟨⟨xs, q⟩, to.cl, it.cl, hsub, to.rep.there, to.reach, to.priv, fun M H2 k m i d hd => ?_, fun M H2 k m => ⟨xs, hs M H2 k m, by rw [hl]; exact Nat.le_refl _⟩⟩
    have q2 := hs M H2 k m
    obtain ⟨y, fq, h1, h2, h3⟩ := (hst M H2 k m).get' hd
    refine ⟨⟨xs, y, q2, h1⟩, fun x H3 ⟨e, hx⟩ => ?_⟩
    subst e
    have := hx xs q2
    rw [h1] at this
    cases this
    exact ⟨.refl, fq, h2, h3⟩
  · refine .inr ⟨⟨xs, q⟩, to.cl, it.cl, hsub, to.rep.there, to.reach, to.priv, fun M H2 k m i d hd => ?_, fun M H2 k m => ⟨xs, hs M H2 k, by rw [hl]; exact Nat.le_refl _⟩⟩
    have q2 := hs M H2 k
    obtain ⟨y, fq, h1, h2, h3⟩ := (hst M H2 k m).get' hd
    refine ⟨⟨xs, y, q2, h1⟩, fun x H3 ⟨e, hx⟩ => ?_⟩
    subst e
    have := hx xs q2
    rw [h1] at this
    cases this
    exact ⟨.refl, fq, h2, h3⟩
end
section
variable {X : Cx} {C : Calls} {G : Sigs} {a b e tg : PE_} {es : List PE_} {p q : E} {l : Es} {pos : Pos}
/-- a list or a tuple, whichever comes -/
def iSeq (K : Fg) (tl : L2.TE) : L2.TI := fun σ H R => tl σ H fun x H1 => ∃ a, x = .ref a ∧ (((∃ xs, SqL K H1 a xs) ∧ R (Itl K a) H1) ∨ ((∃ xs, SqT K H1 a xs) ∧ R (Itt K a) H1))
theorem pi_seq {l : PE_} {tl : L2.TE} (hl : PE X l tl) : PI X tg l (iSeq X.K tl) := by
  constructor
  intro pins s σ H R I h
  refine thn (hl.run pins s σ H _ I h) fun v s1 ⟨x, H1, I1, r1, ⟨ad, ex, q1⟩⟩ => ?_
  subst ex
  cases r1
  have new : ∀ c ∈ [s1.heap.objs.size], FpOk X pins H1 c := fun c hc => by
    rw [List.mem_singleton.mp hc]
    exact I1.fpOk (Nat.le_refl _) (I1.hok.fresh (Nat.le_refl _))
  rcases q1 with ⟨⟨xs, hq⟩, q⟩ | ⟨⟨xs, hq⟩, q⟩
  · obtain ⟨us, rv, pl, _⟩ := I1.list hq
    exact wpAny_pyIter_list pl.isList ⟨_, [s1.heap.objs.size], _, _, H1, rfl, I1.kept (t' := s1.toks) fun c o z => Heap.get?_push_of_some _ z, turn_list ad _, ⟨_, Heap.get?_push_size _ rfl, rfl, rfl⟩, new, q⟩
  · obtain ⟨us, rv, pl, _⟩ := I1.tuple hq
    exact wpAny_pyIter_tuple (show s1.heap.IsTuple ad us.toArray from pl) ⟨_, [s1.heap.objs.size], _, _, H1, rfl, I1.kept (t' := s1.toks) fun c o z => Heap.get?_push_of_some _ z, turn_tuple ad _, ⟨_, Heap.get?_push_size _ rfl, rfl, rfl⟩, new, q⟩
theorem pi_never : PI X tg e (tI X.K C G (.seq .never)) := ⟨fun pins s σ H Q I h => by
  obtain ⟨g, P, δ, fps, t, δ', f, h, _⟩ := h
  simp [evI, evE] at h⟩
theorem pi_sq (ha : PE X a (tE X.K C G p)) : PI X tg a (tI X.K C G (.seq p)) := by
  refine (pi_seq ha).imp fun σ H R ⟨g, P, δ, fps, w, δ', f, h, qq⟩ => ?_
  simp only [evI] at h
  split at h
  · rename_i t δ1 e1
    split at h
    · rename_i ds e2
      simp only [Option.some.injEq, Prod.mk.injEq] at h
      obtain ⟨rfl, rfl⟩ := h
      refine ⟨g, P, δ, fps, t, δ1, f, e1, fun v H1 fps1 fp f1 ev1 to => ?_⟩
      obtain ⟨ad, fI, ev, h⟩ := wo_seq to e2
      refine ⟨ad, ev, ?_⟩
      rcases h with ⟨x, w⟩ | ⟨x, w⟩
      · exact .inl ⟨x, qq _ H1 fps1 fp fI f1 ev1 w⟩
      · exact .inr ⟨x, qq _ H1 fps1 fp fI f1 ev1 w⟩
    · cases h
  · cases h
theorem wo_rng {K : Fg} {g : Gh} {H : Hp} {δ : PP.St} {fps : Nat → List Addr} (lo : Int) (n : Nat) : WO K g H δ fps (Itr lo n) ⟨(List.range n).map fun k => D.int (lo + (k : Nat)), [], []⟩ [] [] := by
  refine ⟨(fun _ _ _ h => nomatch h), (fun _ _ _ h => nomatch h), (fun _ h => nomatch h), (fun _ h => nomatch h), (fun _ h => nomatch h), (fun _ h => nomatch h), fun M H2 k m i d hd => ?_, fun M H2 k m => ?_⟩
  · rw [List.getElem?_map] at hd
    obtain ⟨j, h1, h2⟩ := Option.map_eq_some_iff.mp hd
    obtain ⟨h3, h4⟩ := List.getElem?_eq_some_iff.mp h1
    rw [List.getElem_range] at h4
    subst h4 h2
    rw [List.length_range] at h3
    refine ⟨h3, fun x H3 ⟨e, ex⟩ => ?_⟩
    subst e ex
    exact ⟨.refl, [], .int _, (fun _ h => nomatch h)⟩
  · show n ≤ _
    simp
theorem pi_rn {p0 : Pos} (gl : Gl X "range") (hm : X.mg "range" = none) (h : PA X es (tAs X.K C G l)) (hs : es.any isStar = false) (hl : es.length = l.len) : PI X tg (.Call (.Name "range" p0) es [] pos) (tI X.K C G (.rng l)) := by
  have key : ∀ σ H R, tI X.K C G (.rng l) σ H R → tAs X.K C G l σ H fun vs H1 => vs.length = l.len ∧ ((∃ j : Int, vs = [.int j] ∧ -(2 ^ 62) ≤ j ∧ j < 2 ^ 62 ∧ R (Itr 0 j.toNat) H1) ∨ (∃ i j : Int, vs = [.int i, .int j] ∧ (-(2 ^ 62) ≤ i ∧ i < 2 ^ 62 ∧ -(2 ^ 62) ≤ j ∧ j < 2 ^ 62) ∧ R (Itr i (j - i).toNat) H1)) := by
    intro σ H R ⟨g, P, δ, fps, w, δ', f, hh, qq⟩
    simp only [evI] at hh
    split at hh
    · rename_i ts δ1 e1
      split at hh
      · rename_i ds e2
        simp only [Option.some.injEq, Prod.mk.injEq] at hh
        obtain ⟨rfl, rfl⟩ := hh
        refine ⟨g, P, δ, fps, ts, δ1, f, e1, fun vs H1 fps1 fl f1 ev1 tos => ?_⟩
        have hlen : ∀ (l : Es) (P : List Nat) (δ δ' : PP.St) (ts : List Tm), evEs C G P l δ = some (ts, δ') → ts.length = l.len := by
          intro l
          induction l using Es.rec (motive_1 := fun _ => True) (motive_3 := fun _ => True) (motive_4 := fun _ => True) (motive_5 := fun _ => True) with
          | nil => intro P δ δ' ts h; simp only [evEs, Option.some.injEq, Prod.mk.injEq] at h; rw [← h.1]; rfl
          | cons e es _ ih =>
            intro P δ δ' ts h
            simp only [evEs] at h
            split at h
            · split at h
              · rename_i e2
                simp only [Option.some.injEq, Prod.mk.injEq] at h
                rw [← h.1]
                simp [Es.len, ih _ _ _ _ e2]
              · cases h
            · cases h
          | _ => trivial
        refine ⟨by rw [tos.length.1]; exact hlen _ _ _ _ _ e1, ?_⟩
        unfold rngOf at e2
        split at e2
        · rename_i t
          split at e2
          · rename_i j ej
            split at e2
            · rename_i hz
              simp only [Option.some.injEq] at e2
              subst e2
              cases tos with
              | cons to b1 ex1 r =>
                cases r with
                | nil b2 =>
                  have r := to.rep
                  rw [ej] at r
                  exact .inl ⟨j, by rw [int_of r], hz.1, hz.2, qq _ H1 fps1 [] [] f1 ev1 (wo_rng 0 j.toNat)⟩
            · cases e2
          · cases e2
        · rename_i t u
          split at e2
          · rename_i i j ei ej
            split at e2
            · rename_i hz
              simp only [Option.some.injEq] at e2
              subst e2
              cases tos with
              | cons to b1 ex1 r =>
                cases r with
                | cons to2 b2 ex2 r =>
                  cases r with
                  | nil b3 =>
                    have r := to.rep
                    rw [ei] at r
                    have r2 := to2.rep
                    rw [ej] at r2
                    exact .inr ⟨i, j, by rw [int_of r, int_of r2], hz, qq _ H1 fps1 [] [] f1 ev1 (wo_rng i (j - i).toNat)⟩
            · cases e2
          · cases e2
        · cases e2
      · cases hh
    · cases hh
  have no : ∀ (bad : ∀ (vs : List V), vs.length = l.len → (∀ j, vs ≠ [j]) ∧ ∀ i j, vs ≠ [i, j]), PI X tg (.Call (.Name "range" p0) es [] pos) (tI X.K C G (.rng l)) := fun bad => ⟨fun pins s σ H R I hh => by
    obtain ⟨g, P, δ, fps, w, δ', f, h0, qq⟩ := hh
    exfalso
    simp only [evI] at h0
    split at h0
    · rename_i ts δ1 e1
      split at h0
      · rename_i ds e2
        have hlen : ∀ (l : Es) (P : List Nat) (δ δ' : PP.St) (ts : List Tm), evEs C G P l δ = some (ts, δ') → ts.length = l.len := by
          intro l
          induction l using Es.rec (motive_1 := fun _ => True) (motive_3 := fun _ => True) (motive_4 := fun _ => True) (motive_5 := fun _ => True) with
          | nil => intro P δ δ' ts h; simp only [evEs, Option.some.injEq, Prod.mk.injEq] at h; rw [← h.1]; rfl
          | cons e es _ ih =>
            intro P δ δ' ts h
            simp only [evEs] at h
            split at h
            · split at h
              · rename_i e2
                simp only [Option.some.injEq, Prod.mk.injEq] at h
                rw [← h.1]
                simp [Es.len, ih _ _ _ _ e2]
              · cases h
            · cases h
          | _ => trivial
        have hz := hlen _ _ _ _ _ e1
        unfold rngOf at e2
        split at e2
        · exact (bad [.non] (by rw [← hz]; rfl)).1 _ rfl
        · exact (bad [.non, .non] (by rw [← hz]; rfl)).2 _ _ rfl
        · cases e2
      · cases h0
    · cases h0⟩
  match es, hl, h, hs with
  | [], hl, h, hs => exact no fun vs e => ⟨fun j z => by rw [z] at e; rw [← e] at hl; simp at hl, fun i j z => by rw [z] at e; rw [← e] at hl; simp at hl⟩
  | [a], hl, h, hs =>
    simp only [List.any_cons, Bool.or_eq_false_iff] at hs
    refine (pi_range1 gl hm h (by rw [star_one hs.1]; rfl)).imp fun σ H R hh => ?_
    obtain ⟨g, P, δ, fps, ts, δ', f, e, qq⟩ := key σ H R hh
    refine ⟨g, P, δ, fps, ts, δ', f, e, fun vs H1 fps1 fl f1 ev1 tos => ?_⟩
    obtain ⟨hz, h⟩ := qq vs H1 fps1 fl f1 ev1 tos
    rcases h with h | ⟨i, j, rfl, _⟩
    · exact h
    · rw [← hl] at hz; simp at hz
  | [a, b], hl, h, hs =>
    simp only [List.any_cons, Bool.or_eq_false_iff] at hs
    refine (pi_range2 gl hm h (by rw [star_one hs.1, star_one hs.2.1]; rfl) (by rw [star_one hs.2.1]; rfl)).imp fun σ H R hh => ?_
    obtain ⟨g, P, δ, fps, ts, δ', f, e, qq⟩ := key σ H R hh
    refine ⟨g, P, δ, fps, ts, δ', f, e, fun vs H1 fps1 fl f1 ev1 tos => ?_⟩
    obtain ⟨hz, h⟩ := qq vs H1 fps1 fl f1 ev1 tos
    rcases h with ⟨j, rfl, _⟩ | h
    · rw [← hl] at hz; simp at hz
    · exact h
  | a :: b :: c :: r, hl, h, hs => exact no fun vs e => ⟨fun j z => by rw [z] at e; rw [← e] at hl; simp at hl, fun i j z => by rw [z] at e; rw [← e] at hl; simp at hl⟩
theorem list_of {d : D} {ds : List D} (h : listOf d = some ds) : d = .lst ds := by
  unfold listOf at h
  split at h
  · simp only [Option.some.injEq] at h
    rw [h]
  · cases h
theorem pi_en {p0 tpos : Pos} {elts : List PE_} {kk : Nat} (gl : Gl X "enumerate") (hm : X.mg "enumerate" = none) (ha : PE X a (tE X.K C G p)) (hs : isStar a = false) : PI X (.Tuple elts kk tpos) (.Call (.Name "enumerate" p0) [a] [] pos) (tI X.K C G (.enum p)) := by
  refine (pi_enum gl hm (pa_cons ha pa_nil (star_one hs)) (by rw [star_one hs]; rfl)).imp fun σ H R ⟨g, P, δ, fps, w, δ', f, h, qq⟩ => ?_
  simp only [evI] at h
  split at h
  · rename_i t δ1 e1
    split at h
    · rename_i ds e2
      simp only [Option.some.injEq, Prod.mk.injEq] at h
      obtain ⟨rfl, rfl⟩ := h
      refine ⟨g, P, δ, fps, t, δ1, f, e1, fun v H1 fps1 fp f1 ev1 to => ?_⟩
      have ed := list_of e2
      have es : seqOf t.d = some ds := by rw [ed]; rfl
      obtain ⟨_, _, ev2, it, _, _⟩ := to.items es
      obtain ⟨ad, xs, ev, r, hk, hsub, hst⟩ := seq_at to es
      rcases hk with ⟨q, _, hq⟩ | ⟨_, ⟨l, z⟩, _⟩
      · have hl := r.length
        refine ⟨ad, xs, by rw [ev], q, qq _ H1 fps1 fp (itf t.d fp) f1 ev1 ⟨to.cl, it.cl, hsub, to.rep.there, to.reach, to.priv, fun M H2 k m i d hd => ?_, fun M H2 k m => ⟨xs, hq M H2 k m, by simp [hl]⟩⟩⟩
        rw [List.getElem?_map, List.getElem?_zipIdx] at hd
        obtain ⟨q0, h1, h2⟩ := Option.map_eq_some_iff.mp hd
        obtain ⟨d0, h3, h4⟩ := Option.map_eq_some_iff.mp h1
        subst h4
        simp only [Nat.zero_add] at h2
        have q2 := hq M H2 k m
        obtain ⟨y, fq, g1, g2, g3⟩ := (hst M H2 k m).get' h3
        refine ⟨⟨xs, y, q2, g1⟩, fun x H3 hy => ?_⟩
        obtain ⟨T, z, ex, hT, eH, hz⟩ := hy
        have := hz xs q2
        rw [g1] at this
        cases this
        subst ex eH h2
        have kp : Kp (fun _ => False) H2 (upd H2 T (.tup [.int (i : Nat), y])) := Kp.new hT
        refine ⟨kp, fq, ?_, g3⟩
        refine .tup (.of upd_same) ?_ fun mT => ?_
        · have g4 := g2.stay kp fun _ _ z => z
          have := RpAll.cons (Rp.int (K := X.K) (H := upd H2 T (.tup [.int (i : Nat), y])) (i : Nat)) (RpAll.cons g4 .nil)
          simpa using this
        · obtain ⟨_, e⟩ := g2.there T mT
          rw [hT] at e; cases e
      · rw [ed] at z; cases z
    · cases h
  · cases h
end
end PP

/-! PPTgt: targets. -/
namespace PP
open PySem PySem.Spec PyProof.Rows L2
/-- only the slots ix were bound anew, without a claim -/
structure Only (ix : List Nat) (σ : L2.St) (δ : PP.St) (fps : Nat → List Addr) (σ' : L2.St) (δ' : PP.St) (fps' : Nat → List Addr) : Prop where
  off : ∀ j, j ∉ ix → δ'[j]? = δ[j]? ∧ fps' j = fps j ∧ σ'[j]? = σ[j]?
  clm : ∀ i a, clm δ' fps' i a → clm δ fps i a ∧ i ∉ ix
  len : σ'.length = σ.length ∧ δ'.length = δ.length
def setF (fps : Nat → List Addr) (i : Nat) (fp : List Addr) : Nat → List Addr := fun j => if j = i then fp else fps j
theorem setF_same {fps : Nat → List Addr} {i : Nat} {fp : List Addr} : setF fps i fp i = fp := if_pos rfl
theorem setF_ne {fps : Nat → List Addr} {i j : Nat} {fp : List Addr} (h : j ≠ i) : setF fps i fp j = fps j := if_neg h
theorem set_same {α : Type} {l : List α} {i : Nat} {x : α} (h : i < l.length) : (l.set i x)[i]? = some x := List.getElem?_set_self h
theorem set_ne {α : Type} {l : List α} {i j : Nat} {x : α} (h : j ≠ i) : (l.set i x)[j]? = l[j]? := List.getElem?_set_ne (Ne.symm h)
section
variable {K : Fg} {g : Gh} {σ σ' : L2.St} {H : Hp} {δ δ' : PP.St} {fps fps' : Nat → List Addr} {v : V} {d : D} {fp : List Addr} {i : Nat} {S : List Nat}
/-- claims behind a slot's new value -/
theorem clm_set {s : Sl} (hi : i < δ.length) {j : Nat} {a : Addr} : clm (δ.set i (some s)) (setF fps i fp) j a ↔ (j ≠ i ∧ clm δ fps j a) ∨ (j = i ∧ ((s.k = .deep ∧ a ∈ fp) ∨ ((s.k = .own ∨ s.k = .io) ∧ fp.head? = some a))) := by
  constructor
  · rintro ⟨u, e, h⟩
    by_cases hj : j = i
    · subst hj
      rw [set_same hi] at e
      rw [setF_same] at h
      cases e
      exact .inr ⟨rfl, h⟩
    · rw [set_ne hj] at e
      rw [setF_ne hj] at h
      exact .inl ⟨hj, u, e, h⟩
  · rintro (⟨hj, u, e, h⟩ | ⟨rfl, h⟩)
    · exact ⟨u, by rw [set_ne hj]; exact e, by rw [setF_ne hj]; exact h⟩
    · exact ⟨s, set_same hi, by rw [setF_same]; exact h⟩
/-- what a value claims of its lists -/
def clS (s : Sl) (fp : List Addr) (a : Addr) : Prop := (s.k = .deep ∧ a ∈ fp) ∨ ((s.k = .own ∨ s.k = .io) ∧ fp.head? = some a)
theorem clS.mem {s : Sl} {a : Addr} (h : clS s fp a) : a ∈ fp := by
  rcases h with ⟨_, m⟩ | ⟨_, m⟩
  · exact m
  · exact List.mem_of_mem_head? (by rw [m]; rfl)
/-- a slot gets a value -/
theorem FR.put (f : FR K g σ H δ fps) {s : Sl} (hi : i < δ.length) (r : Rp K H v s.d fp)
    (top : s.k = .own ∨ s.k = .io → ∃ a tl, fp = a :: tl ∧ a ∉ tl ∧ v = .ref a) (io : s.k ≠ .io) (mine : ∀ a, clS s fp a → g.F0 a = none) (deep : s.k = .deep → fp.Nodup ∧ s.S = [])
    (ex1 : ∀ j u a, j ≠ i → clS s fp a → δ[j]? = some (some u) → a ∈ fps j → i ∈ u.S ∧ ¬ clm δ fps j a)
    (ex2 : ∀ j a, j ≠ i → clm δ fps j a → a ∈ fp → j ∈ s.S ∧ ¬ clS s fp a) (reach : ∀ a ∈ fp, g.R a ∨ g.F0 a = none ∨ ∃ i, (i, a) ∈ g.IO) (priv : ∀ a ∈ fp, ¬ g.X a) : FR K g (σ.set i (some v)) H (δ.set i (some s)) (setF fps i fp) := by
  have hi' : i < σ.length := by rw [← f.len]; exact hi
  have at_ : ∀ {j : Nat} {u : Sl}, (δ.set i (some s))[j]? = some (some u) → (j = i ∧ u = s) ∨ (j ≠ i ∧ δ[j]? = some (some u)) := fun {j u} e => by
    by_cases hj : j = i
    · subst hj
      rw [set_same hi] at e
      cases e
      exact .inl ⟨rfl, rfl⟩
    · rw [set_ne hj] at e
      exact .inr ⟨hj, e⟩
  refine ⟨by rw [List.length_set, List.length_set]; exact f.len, fun j u e => ?_, fun j u e k => ?_, fun j u e k => ?_, fun j u a e k c => ?_, fun j u e k => ?_, fun j l u a hjl c e m => ?_, fun j u a e m => ?_, f.frame, fun j u a e m => ?_, f.old⟩
  · rcases at_ e with ⟨rfl, rfl⟩ | ⟨hj, e⟩
    · exact ⟨v, set_same hi', by rw [setF_same]; exact r⟩
    · obtain ⟨w, h1, h2⟩ := f.rep j u e
      exact ⟨w, by rw [set_ne hj]; exact h1, by rw [setF_ne hj]; exact h2⟩
  · rcases at_ e with ⟨rfl, rfl⟩ | ⟨hj, e⟩
    · obtain ⟨a, tl, h1, h2, h3⟩ := top k
      exact ⟨a, tl, by rw [setF_same]; exact h1, h2, by rw [set_same hi', h3]⟩
    · obtain ⟨a, tl, h1, h2, h3⟩ := f.top j u e k
      exact ⟨a, tl, by rw [setF_ne hj]; exact h1, h2, by rw [set_ne hj]; exact h3⟩
  · rcases at_ e with ⟨rfl, rfl⟩ | ⟨hj, e⟩
    · exact absurd k io
    · rw [setF_ne hj]; exact f.io j u e k
  · rcases (clm_set hi).mp c with ⟨hj, c1⟩ | ⟨rfl, c1⟩
    · rw [set_ne hj] at e
      exact f.mine j u a e k c1
    · exact mine a c1
  · rcases at_ e with ⟨rfl, rfl⟩ | ⟨hj, e⟩
    · rw [setF_same]; exact deep k
    · rw [setF_ne hj]; exact f.deep j u e k
  · rcases (clm_set hi).mp c with ⟨hj, c1⟩ | ⟨rfl, c1⟩
    · rcases at_ e with ⟨rfl, rfl⟩ | ⟨hl, e⟩
      · rw [setF_same] at m
        obtain ⟨h1, h2⟩ := ex2 j a hj c1 m
        refine ⟨h1, fun c2 => ?_⟩
        rcases (clm_set hi).mp c2 with ⟨z, _⟩ | ⟨_, c2⟩
        · exact z rfl
        · exact h2 c2
      · rw [setF_ne hl] at m
        obtain ⟨h1, h2⟩ := f.excl j l u a hjl c1 e m
        refine ⟨h1, fun c2 => ?_⟩
        rcases (clm_set hi).mp c2 with ⟨_, c2⟩ | ⟨z, _⟩
        · exact h2 c2
        · exact hl z
    · rcases at_ e with ⟨z, _⟩ | ⟨hl, e⟩
      · exact absurd z.symm hjl
      · rw [setF_ne hl] at m
        obtain ⟨h1, h2⟩ := ex1 l u a hl c1 e m
        refine ⟨h1, fun c2 => ?_⟩
        rcases (clm_set hi).mp c2 with ⟨_, c2⟩ | ⟨z, _⟩
        · exact h2 c2
        · exact hl z
  · rcases at_ e with ⟨rfl, rfl⟩ | ⟨hj, e⟩
    · rw [setF_same] at m; exact reach a m
    · rw [setF_ne hj] at m; exact f.reach j u a e m
  · rcases at_ e with ⟨rfl, rfl⟩ | ⟨hj, e⟩
    · rw [setF_same] at m; exact priv a m
    · rw [setF_ne hj] at m; exact f.priv j u a e m
/-- .. without a claim -/
theorem FR.bind (f : FR K g σ H δ fps) (hi : i < δ.length) (r : Rp K H v d fp) (cl : ∀ j a, clm δ fps j a → a ∈ fp → j ∈ S) (reach : ∀ a ∈ fp, g.R a ∨ g.F0 a = none ∨ ∃ i, (i, a) ∈ g.IO) (priv : ∀ a ∈ fp, ¬ g.X a) :
    FR K g (σ.set i (some v)) H (δ.set i (some ⟨d, .sh, S⟩)) (setF fps i fp) ∧ Only [i] σ δ fps (σ.set i (some v)) (δ.set i (some ⟨d, .sh, S⟩)) (setF fps i fp) := by
  have no : ∀ a, ¬ clS ⟨d, .sh, S⟩ fp a := fun a c => by
    rcases c with ⟨k, _⟩ | ⟨k | k, _⟩ <;> cases k
  refine ⟨f.put (s := ⟨d, .sh, S⟩) hi r (fun k => by rcases k with k | k <;> cases k) (fun k => by cases k) (fun a c => absurd c (no a)) (fun k => by cases k) (fun j u a _ c => absurd c (no a)) (fun j a _ c m => ⟨cl j a c m, no a⟩) reach priv, ⟨fun j hj => ?_, fun j a c => ?_, by simp⟩⟩
  · have hj : j ≠ i := by simpa using hj
    exact ⟨set_ne hj, setF_ne hj, set_ne hj⟩
  · rcases (clm_set hi).mp c with ⟨hj, c1⟩ | ⟨rfl, c1⟩
    · exact ⟨c1, by simpa using hj⟩
    · exact absurd c1 (no a)
theorem Only.trans {ix iy : List Nat} {σ1 : L2.St} {δ1 : PP.St} {fps1 : Nat → List Addr} (a : Only ix σ δ fps σ1 δ1 fps1) (b : Only iy σ1 δ1 fps1 σ' δ' fps') : Only (ix ++ iy) σ δ fps σ' δ' fps' where
  off := fun j hj => by
    simp only [List.mem_append, not_or] at hj
    obtain ⟨a1, a2, a3⟩ := a.off j hj.1
    obtain ⟨b1, b2, b3⟩ := b.off j hj.2
    exact ⟨b1.trans a1, b2.trans a2, b3.trans a3⟩
  clm := fun i x c => by
    obtain ⟨c1, h1⟩ := b.clm i x c
    obtain ⟨c2, h2⟩ := a.clm i x c1
    exact ⟨c2, by simp [h1, h2]⟩
  len := ⟨b.len.1.trans a.len.1, b.len.2.trans a.len.2⟩
end
def tG (K : Fg) (t : T) : L2.TG := fun v σ H R => ∃ S g δ fps d fp δ', FR K g σ H δ fps ∧ Rp K H v d fp ∧ bindT S t d δ = some δ' ∧ (∀ i a, clm δ fps i a → a ∈ fp → i ∈ S) ∧ (∀ a ∈ fp, g.R a ∨ g.F0 a = none ∨ ∃ i, (i, a) ∈ g.IO) ∧ (∀ a ∈ fp, ¬ g.X a) ∧
  ∀ σ' fps', FR K g σ' H δ' fps' → Only t.ixs σ δ fps σ' δ' fps' → R σ' H
def tGs (K : Fg) (ts : List T) : L2.TGs := fun vs σ H R => ∃ S g δ fps ds fp δ', FR K g σ H δ fps ∧ RpAll K H vs ds fp ∧ bindTs S ts ds δ = some δ' ∧ (∀ i a, clm δ fps i a → a ∈ fp → i ∈ S) ∧ (∀ a ∈ fp, g.R a ∨ g.F0 a = none ∨ ∃ i, (i, a) ∈ g.IO) ∧ (∀ a ∈ fp, ¬ g.X a) ∧
  ∀ σ' fps', FR K g σ' H δ' fps' → Only (T.ixs.ixsAll ts) σ δ fps σ' δ' fps' → R σ' H
theorem idx_get {N : List Str} {x : Str} {i : Nat} (h : N.idxOf? x = some i) : N[i]? = some x := by
  unfold List.idxOf? at h
  obtain ⟨hi, hp, _⟩ := List.findIdx?_eq_some_iff_getElem.mp h
  rw [List.getElem?_eq_getElem hi]
  exact congrArg some (by simpa using hp)
theorem slotTo_ok {c : Cn} {sc : Scope} {x : Str} {i : Nat} (h : slotTo c sc x = some i) : c.N[i]? = some x ∧ Loc sc x ∧ okName x = true := by
  unfold slotTo at h
  split at h
  · rename_i hb
    simp only [Bool.and_eq_true] at hb
    refine ⟨idx_get h, ?_, hb.2⟩
    have := hb.1
    unfold locIn at this
    split at this
    · exact .inl (by assumption)
    · exact .inr (by assumption)
    · cases this
  · cases h
theorem slotOf_ok {c : Cn} {sc : Scope} {x : Str} {i : Nat} (h : slotOf c sc x = some i) : c.N[i]? = some x ∧ Vis sc x ∧ okName x = true := by
  unfold slotOf at h
  split at h
  · rename_i hb
    simp only [Bool.and_eq_true] at hb
    refine ⟨idx_get h, ?_, hb.2⟩
    have := hb.1
    unfold visIn at this
    split at this
    · exact .inl (by assumption)
    · exact .inr (.inl (by assumption))
    · exact .inr (.inr (by assumption))
    · cases this
  · cases h
theorem okName_ok {x : Str} (h : okName x = true) : (x == ("__debug__" : Str)) = false ∧ (x == ("__classdict__" : Str)) = false := by
  unfold okName at h
  simpa using h
section
variable {X : Cx} {c : Cn} {sc : Scope}
theorem pg_or {tg : PE_} {t u : L2.TG} (h : PG X tg t) (k : PG X tg u) : PG X tg (fun v σ H Q => t v σ H Q ∨ u v σ H Q) := ⟨fun pins s σ H v w Q I r q => q.elim (h.run pins s σ H v w Q I r) (k.run pins s σ H v w Q I r)⟩
theorem stT_shape {e : PE_} {t : T} (h : stT c sc e = some t) : (∃ x p, e = .Name x p) ∨ ∃ es k p, e = .Tuple es k p := by
  cases e <;> first | exact .inl ⟨_, _, rfl⟩ | exact .inr ⟨_, _, _, rfl⟩ | (simp [stT] at h)
theorem stTs_each {env : Env} : ∀ {es : List PE_} {ts : List T}, stTs c sc es = some ts → (assignEach es env).length = ts.length ∧ (assignEach es env).findIdx? (·.1) = none ∧ es.length = ts.length
  | [], ts, h => by
    simp only [stTs, Option.some.injEq] at h
    subst h
    exact ⟨rfl, rfl, rfl⟩
  | e :: es, ts, h => by
    simp only [stTs] at h
    split at h
    · rename_i t us h1 h2
      simp only [Option.some.injEq] at h
      subst h
      obtain ⟨i1, i2, i3⟩ := stTs_each (env := env) h2
      rcases stT_shape h1 with ⟨x, p, rfl⟩ | ⟨l, k, p, rfl⟩
      · refine ⟨?_, ?_, by simp [i3]⟩
        · show ((false, _) :: assignEach es env).length = _
          simp [i1]
        · show ((false, _) :: assignEach es env).findIdx? (·.1) = _
          simp [List.findIdx?_cons, i2]
      · refine ⟨?_, ?_, by simp [i3]⟩
        · show ((false, _) :: assignEach es env).length = _
          simp [i1]
        · show ((false, _) :: assignEach es env).findIdx? (·.1) = _
          simp [List.findIdx?_cons, i2]
    · cases h
mutual
theorem pg_ok (hN : X.N = c.N) (nd : X.N.Nodup) (hs : X.env.scope = sc) (hc : X.calm = true) : ∀ (e : PE_) (t : T), stT c sc e = some t → (∀ i ∈ t.ixs, ∀ x, X.N[i]? = some x → X.fn x = true ∨ X.env.scope.names.lookup x = some .local) → PG X e (tG X.K t)
  | .Name x p, t, h, hf => by
    simp only [stT] at h
    obtain ⟨i, h1, h2⟩ := Option.map_eq_some_iff.mp h
    subst h2
    obtain ⟨n, lo, ok⟩ := slotTo_ok h1
    rw [← hN] at n
    rw [← hs] at lo
    refine ⟨fun pins s σ H v u Q I r hh => (pg_name nd n lo (hf i (by simp [T.ixs]) x n)).run pins s σ H v u Q I r ?_⟩
    obtain ⟨S, g, δ, fps, d, fp, δ', f, rp, hb, cl, re, pr, q⟩ := hh
    simp only [bindT] at hb
    split at hb
    · rename_i hi
      simp only [Option.some.injEq] at hb
      subst hb
      obtain ⟨f2, o2⟩ := f.bind hi rp cl re pr
      exact q _ _ f2 o2
    · cases hb
  | .Tuple es k p, t, h, hf => by
    simp only [stT] at h
    obtain ⟨ts, h1, h2⟩ := Option.map_eq_some_iff.mp h
    subst h2
    have ih := pgs_ok hN nd hs hc es ts h1 (fun i hi => hf i (by simpa [T.ixs] using hi))
    obtain ⟨e1, e2, e3⟩ := stTs_each (env := X.env) h1
    refine ⟨fun pins s σ H v u Q I r hh => (pg_or (pg_tup hc ih e1 e2) (pg_unl hc ih e1 e2)).run pins s σ H v u Q I r ?_⟩
    obtain ⟨S, g, δ, fps, d, fp, δ', f, rp, hb, cl, re, pr, q⟩ := hh
    simp only [bindT] at hb
    split at hb
    · rename_i ds es'
      split at hb
      · rename_i hz
        have fin : ∀ (xs : List V) (fq : List Addr), RpAll X.K H xs ds fq → (∀ a ∈ fq, a ∈ fp) → xs.length = ts.length ∧ tGs X.K ts xs σ H Q := fun xs fq r m =>
          ⟨by rw [r.length]; exact hz, S, g, δ, fps, ds, fq, δ', f, r, hb, fun i a cc ma => cl i a cc (m a ma), fun a ma => re a (m a ma), fun a ma => pr a (m a ma), fun σ' fps' f' o' => q σ' fps' f' (by simpa [T.ixs] using o')⟩
        cases rp with
        | lst e rr n =>
          simp only [seqOf, Option.some.injEq] at es'
          subst es'
          obtain ⟨a1, a2⟩ := fin _ _ rr fun a m => List.mem_cons_of_mem _ m
          exact .inr ⟨_, _, rfl, .of e, a1, a2⟩
        | frz e rr n =>
          simp only [seqOf, Option.some.injEq] at es'
          subst es'
          obtain ⟨a1, a2⟩ := fin _ _ rr fun a m => m
          exact .inr ⟨_, _, rfl, e.sq, a1, a2⟩
        | tup e rr n =>
          simp only [seqOf, Option.some.injEq] at es'
          subst es'
          obtain ⟨a1, a2⟩ := fin _ _ rr fun a m => m
          exact .inl ⟨_, _, rfl, e, a1, a2⟩
        | non => simp [seqOf] at es'
        | bl b => simp [seqOf] at es'
        | int i => simp [seqOf] at es'
        | str z => simp [seqOf] at es'
      · cases hb
    · cases hb
theorem pgs_ok (hN : X.N = c.N) (nd : X.N.Nodup) (hs : X.env.scope = sc) (hc : X.calm = true) : ∀ (es : List PE_) (ts : List T), stTs c sc es = some ts → (∀ i ∈ T.ixs.ixsAll ts, ∀ x, X.N[i]? = some x → X.fn x = true ∨ X.env.scope.names.lookup x = some .local) → PGs X es (tGs X.K ts)
  | [], ts, h, hf => by
    simp only [stTs, Option.some.injEq] at h
    subst h
    refine ⟨fun pins s σ H vs us Q I r hh => pgs_nil.run pins s σ H vs us Q I r ?_⟩
    obtain ⟨S, g, δ, fps, ds, fp, δ', f, rp, hb, cl, re, pr, q⟩ := hh
    cases rp with
    | nil =>
      simp only [bindTs, Option.some.injEq] at hb
      subst hb
      exact ⟨rfl, q σ fps f ⟨fun _ _ => ⟨rfl, rfl, rfl⟩, fun i a c => ⟨c, by simp [T.ixs.ixsAll]⟩, rfl, rfl⟩⟩
    | cons x r => simp [bindTs] at hb
  | e :: es, ts, h, hf => by
    simp only [stTs] at h
    split at h
    · rename_i t us h1 h2
      simp only [Option.some.injEq] at h
      subst h
      have p1 := pg_ok hN nd hs hc e t h1 (fun i hi => hf i (by simp [T.ixs.ixsAll, hi]))
      have p2 := pgs_ok hN nd hs hc es us h2 (fun i hi => hf i (by simp [T.ixs.ixsAll, hi]))
      have hst : (assignEach (e :: es) X.env).map (·.2) = assign e X.env :: (assignEach es X.env).map (·.2) := by
        rcases stT_shape h1 with ⟨x, p, rfl⟩ | ⟨l, k, p, rfl⟩ <;> rfl
      refine ⟨fun pins s σ H vs ws Q I r hh => (pgs_cons p1 p2 hst).run pins s σ H vs ws Q I r ?_⟩
      obtain ⟨S, g, δ, fps, ds, fp, δ', f, rp, hb, cl, re, pr, q⟩ := hh
      cases rp with
      | nil => simp [bindTs] at hb
      | cons x rr =>
        simp only [bindTs] at hb
        split at hb
        · rename_i δ1 hb1
          refine ⟨_, _, rfl, S, g, δ, fps, _, _, δ1, f, x, hb1, fun i a cc m => cl i a cc (List.mem_append_left _ m), fun a m => re a (List.mem_append_left _ m), fun a m => pr a (List.mem_append_left _ m), fun σ1 fps1 f1 o1 => ?_⟩
          exact ⟨S, g, δ1, fps1, _, _, δ', f1, rr, hb, fun i a cc m => cl i a (o1.clm i a cc).1 (List.mem_append_right _ m), fun a m => re a (List.mem_append_right _ m), fun a m => pr a (List.mem_append_right _ m), fun σ2 fps2 f2 o2 => q σ2 fps2 f2 (o1.trans o2)⟩
        · cases hb
    · cases h
end
end
end PP

/-! PPComp: list comprehensions. -/
namespace PP
open PySem PySem.Spec PyProof.Rows L2
section
variable {K : Fg} {g : Gh} {P P' : List Nat} {σ σ' : L2.St} {H H' H1 H2 : Hp} {δ δ' : PP.St} {fps fps' : Nat → List Addr} {own : List Nat}
theorem forget_len : ∀ (own : List Nat) (δ : PP.St), (forget own δ).length = δ.length
  | [], _ => rfl
  | i :: own, δ => by
    unfold forget
    rw [List.foldl_cons]
    have := forget_len own (δ.set i none)
    unfold forget at this
    rw [this, List.length_set]
theorem forget_some : ∀ {own : List Nat} {δ : PP.St} {i : Nat} {s : Sl}, (forget own δ)[i]? = some (some s) → δ[i]? = some (some s) ∧ i ∉ own
  | [], _, _, _, h => ⟨h, by simp⟩
  | j :: own, δ, i, s, h => by
    have h' : (forget own (δ.set j none))[i]? = some (some s) := h
    obtain ⟨h1, h2⟩ := forget_some h'
    by_cases e : i = j
    · subst e
      by_cases hl : i < δ.length
      · rw [set_same hl] at h1; cases h1
      · rw [List.getElem?_eq_none (by simpa using hl)] at h1; cases h1
    · rw [set_ne e] at h1
      exact ⟨h1, by simp [e, h2]⟩
theorem forget_off : ∀ {own : List Nat} {δ : PP.St} {i : Nat}, i ∉ own → (forget own δ)[i]? = δ[i]?
  | [], _, _, _ => rfl
  | j :: own, δ, i, h => by
    simp only [List.mem_cons, not_or] at h
    have : (forget own (δ.set j none))[i]? = _ := forget_off h.2
    exact this.trans (set_ne h.1)
theorem clm_forget {i : Nat} {a : Addr} (c : clm (forget own δ) fps i a) : clm δ fps i a := let ⟨s, e, h⟩ := c; ⟨s, (forget_some e).1, h⟩
theorem wipe_off : ∀ {vs : List Nat} {i : Nat}, i ∉ vs → (wipe σ vs)[i]? = σ[i]?
  | [], _, _ => rfl
  | j :: vs, i, h => by
    simp only [List.mem_cons, not_or] at h
    unfold wipe
    rw [set_ne h.1]
    exact wipe_off h.2
theorem wipe_on : ∀ {vs : List Nat} {i : Nat}, i ∈ vs → i < σ.length → (wipe σ vs)[i]? = some none
  | j :: vs, i, h, hl => by
    unfold wipe
    by_cases e : i = j
    · subst e
      rw [set_same (by rw [wipe_length]; exact hl)]
    · rw [set_ne e]
      exact wipe_on ((List.mem_cons.mp h).resolve_left e) hl
theorem wipe_eq {vs : List Nat} (hl : σ'.length = σ.length) (h : ∀ j, j ∉ vs → σ'[j]? = (wipe σ vs)[j]?) : wipe σ' vs = wipe σ vs := by
  apply List.ext_getElem?
  intro i
  by_cases hi : i ∈ vs
  · by_cases hz : i < σ.length
    · rw [wipe_on hi hz, wipe_on hi (by rw [hl]; exact hz)]
    · rw [List.getElem?_eq_none (by rw [wipe_length, hl]; omega), List.getElem?_eq_none (by rw [wipe_length]; omega)]
  · rw [wipe_off hi]
    exact h i hi
theorem FR.forget (f : FR K g σ H δ fps) (own : List Nat) : FR K g (wipe σ own) H (PP.forget own δ) fps where
  len := by rw [forget_len, wipe_length]; exact f.len
  rep := fun i s e => by
    obtain ⟨e1, n⟩ := forget_some e
    obtain ⟨v, h1, h2⟩ := f.rep i s e1
    exact ⟨v, by rw [wipe_off n]; exact h1, h2⟩
  top := fun i s e k => by
    obtain ⟨e1, n⟩ := forget_some e
    obtain ⟨a, tl, h1, h2, h3⟩ := f.top i s e1 k
    exact ⟨a, tl, h1, h2, by rw [wipe_off n]; exact h3⟩
  io := fun i s e k => f.io i s (forget_some e).1 k
  mine := fun i s a e k c => f.mine i s a (forget_some e).1 k (clm_forget c)
  deep := fun i s e k => f.deep i s (forget_some e).1 k
  excl := fun i j s a h c e m => let ⟨h1, h2⟩ := f.excl i j s a h (clm_forget c) (forget_some e).1 m; ⟨h1, fun z => h2 (clm_forget z)⟩
  reach := fun j s a e m => f.reach j s a (forget_some e).1 m
  frame := f.frame
  priv := fun j s a e m => f.priv j s a (forget_some e).1 m
  old := f.old
theorem FR.unwipe (f : FR K g (wipe σ own) H δ fps) : FR K g σ H δ fps where
  len := by rw [f.len, wipe_length]
  rep := fun i s e => let ⟨v, h1, h2⟩ := f.rep i s e; ⟨v, (wipe_some h1).1, h2⟩
  top := fun i s e k => let ⟨a, tl, h1, h2, h3⟩ := f.top i s e k; ⟨a, tl, h1, h2, (wipe_some h3).1⟩
  io := f.io
  mine := f.mine
  deep := f.deep
  excl := f.excl
  reach := f.reach
  frame := f.frame
  priv := f.priv
  old := f.old
/-- a hidden list is changed -/
theorem FR.poke {D : Addr} {xs ys : List V} (f : FR K g σ H δ fps) (hx : g.X D) (hd : H D = some (.lst xs)) (h0 : g.F0 D = none) : FR K g σ (upd H D (.lst ys)) δ fps where
  len := f.len
  rep := fun i s e => let ⟨v, h1, h2⟩ := f.rep i s e; ⟨v, h1, h2.stay (Kp.put (M := fun a => a = D) hd rfl) fun a m z => f.priv i s a e m (by rw [z]; exact hx)⟩
  top := f.top
  io := f.io
  mine := f.mine
  deep := f.deep
  excl := f.excl
  reach := f.reach
  frame := fun a o e => by
    by_cases z : a = D
    · subst z; rw [h0] at e; cases e
    · rw [upd_ne z]; exact f.frame a o e
  priv := f.priv
  old := fun a x z => by
    by_cases q : a = D
    · subst q; rw [upd_same] at z; cases z
    · rw [upd_ne q] at z; exact f.old a x z
def allU (ts : List Tm) : Bool := ts.all fun t => t.un && t.S.isEmpty
/-- what a comprehension keeps to itself: its new list, the items that are all its own -/
def gC (g : Gh) (D : Addr) (ts : List Tm) (fp : List Addr) : Gh := { g with X := fun a => g.X a ∨ a = D ∨ (allU ts = true ∧ a ∈ fp) }
/-- what a comprehension may do: its list D grows -/
structure EvD (D : Addr) (P : List Nat) (H : Hp) (δ : PP.St) (fps : Nat → List Addr) (H' : Hp) (δ' : PP.St) (fps' : Nat → List Addr) : Prop where
  kp : Kp (fun a => a = D ∨ ∃ i, i ∉ P ∧ clm δ fps i a) H H'
  sub : ∀ i a, clm δ' fps' i a → clm δ fps i a
  deep : ∀ i ∈ P, ∀ s, δ[i]? = some (some s) → s.k = .deep → δ'[i]? = some (some s) ∧ fps' i = fps i
  len : δ'.length = δ.length
/-- amid a comprehension: D the new list, the items ts so far; Hz: the heap at its begin; Hb, δb, fpsb: whence the loop runs -/
structure CI (K : Fg) (g : Gh) (D : Addr) (Hz : Hp) (hid : Addr → Prop) (P : List Nat) (Hb : Hp) (δb : PP.St) (fpsb : Nat → List Addr) (τ : L2.St) (H : Hp) (δ : PP.St) (fps : Nat → List Addr) (vs : List V) (ts : List Tm) (fp : List Addr) : Prop where
  fr : FR K (gC g D ts fp) τ H δ fps
  d : H D = some (.lst vs)
  d0 : Hz D = none
  ev : EvD D P Hb δb fpsb H δ fps
  rep : RpAll K H vs (ts.map (·.d)) fp
  cl : ∀ i a, clm δ fps i a → a ∈ fp → i ∈ unionS ts
  u : allU ts = true → fp.Nodup ∧ ∀ a ∈ fp, Hz a = none ∧ (hid a ∨ Hb a = none)
  reach : ∀ a ∈ fp, g.R a ∨ g.F0 a = none ∨ ∃ i, (i, a) ∈ g.IO
  priv : ∀ a ∈ fp, ¬ g.X a ∧ a ≠ D
  old : ∀ x, Hb x = none → Hz x = none
  f0 : ∀ x, Hz x = none → g.F0 x = none
theorem unionS_app (a b : List Tm) : unionS (a ++ b) = unionS a ++ unionS b := by unfold unionS; exact List.flatMap_append
theorem allU_app (a b : List Tm) : allU (a ++ b) = (allU a && allU b) := by unfold allU; exact List.all_append
/-- a comprehension's loop: by its turns -/
theorem cloop {D : Addr} {hid : Addr → Prop} {Hz Hb H0 : Hp} {δb δw δ0 δE : PP.St} {fpsb fps0 : Nat → List Addr} {τ : L2.St} {body : List Nat → PP.D → PP.St → Option (List Tm × PP.St)} {w : Wk} {J : L2.It} {fA fI : List Addr} {Tn : V → Hp → (Hp → Prop) → Prop} {Pl P : List Nat} {vs0 : List V} {ts0 tsN : List Tm} {fp0 : List Addr}
    (wo : WO K g Hb δw fpsb J w fA fI) (nD : ∀ a ∈ fA, a ≠ D) (hw : ∀ i a, clm δb fpsb i a → clm δw fpsb i a) (hP : ∀ i ∈ w.S, i ∈ P) (hPl : ∀ i ∈ P, i ∈ Pl) (hPt : ∀ i ∈ unionS ts0, i ∈ Pl) (hz : ts0.length + tsN.length < sizeLine)
    (run : compLoop body Pl w.ds δ0 = some (tsN, δE)) (st : CI K g D Hz hid P Hb δb fpsb τ H0 δ0 fps0 vs0 ts0 fp0)
    (step : ∀ (Pl : List Nat) (d : PP.D) (H : Hp) (δ δ' : PP.St) (fps : Nat → List Addr) (vs : List V) (ts t : List Tm) (fp fq : List Addr) (x : V) (H' : Hp) (Nx : Hp → Prop), body Pl d δ = some (t, δ') → (∀ i ∈ P, i ∈ Pl) → (∀ i ∈ unionS ts, i ∈ Pl) → ts.length + t.length < sizeLine →
      CI K g D Hz hid P Hb δb fpsb τ H δ fps vs ts fp → Kp (fun _ => False) H H' → Rp K H' x d fq → (∀ a ∈ fq, a ∈ fI) → (∀ H2 fps2 vs2 fp2, CI K g D Hz hid P Hb δb fpsb τ H2 δ' fps2 vs2 (ts ++ t) fp2 → Nx H2) → Tn x H' Nx) :
    ∃ W : Nat → Nat → Hp → Prop, (∃ m, W 0 m H0) ∧ ∀ i m H, W i m H → (J.stop i H ∧ ∃ fps vs fp, CI K g D Hz hid P Hb δb fpsb τ H δE fps vs (ts0 ++ tsN) fp) ∨
      (J.go i H ∧ ∃ Nx : Hp → Prop, (∀ H', Nx H' → ∃ m', m' < m ∧ W (i + 1) m' H') ∧ ∀ x H', J.yld i H x H' → Tn x H' Nx) := by
  refine ⟨fun i m H => m = w.ds.length - i ∧ i ≤ w.ds.length ∧ ∃ Pl δ fps vs ts tsR fp, compLoop body Pl (w.ds.drop i) δ = some (tsR, δE) ∧ ts ++ tsR = ts0 ++ tsN ∧ (∀ i ∈ P, i ∈ Pl) ∧ (∀ i ∈ unionS ts, i ∈ Pl) ∧ CI K g D Hz hid P Hb δb fpsb τ H δ fps vs ts fp,
    ⟨_, rfl, Nat.zero_le _, Pl, δ0, fps0, vs0, ts0, tsN, fp0, by simpa using run, rfl, hPl, hPt, st⟩, ?_⟩
  rintro i m H ⟨rfl, hi, Pl, δ, fps, vs, ts, tsR, fp, run, et, h1, h2, st⟩
  have nM : ∀ a ∈ fA, ¬ (a = D ∨ ∃ i, i ∉ P ∧ clm δb fpsb i a) := fun a ha z => z.elim (nD a ha) fun ⟨i, n, c⟩ => n (hP i (wo.cl i a (hw i a c) ha))
  by_cases hl : i < w.ds.length
  · rw [List.drop_eq_getElem_cons hl] at run
    simp only [compLoop] at run
    split at run
    · rename_i t δ1 hb
      split at run
      · rename_i tsR' δ2 hr
        simp only [Option.some.injEq, Prod.mk.injEq] at run
        obtain ⟨rfl, rfl⟩ := run
        obtain ⟨go, yl⟩ := wo.go _ H st.ev.kp nM i _ (List.getElem?_eq_getElem hl)
        have hz' : ts.length + t.length < sizeLine := by
          have := congrArg List.length et
          simp only [List.length_append] at this
          omega
        refine .inr ⟨go, fun H' => ∃ fps2 vs2 fp2, CI K g D Hz hid P Hb δb fpsb τ H' δ1 fps2 vs2 (ts ++ t) fp2, fun H' ⟨fps2, vs2, fp2, st2⟩ => ⟨w.ds.length - (i + 1), by omega, rfl, hl, Pl ++ unionS t, δ1, fps2, vs2, ts ++ t, tsR', fp2, hr, by rw [← et, List.append_assoc], fun j hj => List.mem_append_left _ (h1 j hj), fun j hj => ?_, st2⟩, fun x H' hy => ?_⟩
        · rw [unionS_app] at hj
          exact (List.mem_append.mp hj).elim (fun z => List.mem_append_left _ (h2 j z)) fun z => List.mem_append_right _ z
        · obtain ⟨kp, fq, rp, hf⟩ := yl x H' hy
          exact step Pl _ H δ δ1 fps vs ts t fp fq x H' _ hb h1 h2 hz' st kp rp hf fun H2 fps2 vs2 fp2 st2 => ⟨fps2, vs2, fp2, st2⟩
      · cases run
    · cases run
  · have hi' : i = w.ds.length := by omega
    subst hi'
    rw [List.drop_length] at run
    simp only [compLoop, Option.some.injEq, Prod.mk.injEq] at run
    obtain ⟨rfl, rfl⟩ := run
    rw [List.append_nil] at et
    subst et
    exact .inl ⟨wo.stop _ H st.ev.kp nM, fps, vs, fp, st⟩
end
theorem FR.hide2 {ts ts' : List Tm} {fp fq : List Addr} {D : Addr} {K : Fg} {g : Gh} {σ : L2.St} {H : Hp} {δ : PP.St} {fps : Nat → List Addr} (f : FR K (gC g D ts fp) σ H δ fps) (h : ∀ a, allU ts' = true → a ∈ fq → ((allU ts = true ∧ a ∈ fp) ∨ (Away δ fps a ∧ H a ≠ none))) : FR K (gC g D ts' fq) σ H δ fps :=
  ⟨f.len, f.rep, f.top, f.io, f.mine, f.deep, f.excl, f.reach, f.frame, fun j s a e m z => by
    rcases z with z | z | ⟨z1, z2⟩
    · exact f.priv j s a e m (.inl z)
    · exact f.priv j s a e m (.inr (.inl z))
    · rcases h a z1 z2 with q | ⟨q, _⟩
      · exact f.priv j s a e m (.inr (.inr q))
      · exact q j s e m, fun a z => by
    rcases z with z | z | ⟨z1, z2⟩
    · exact f.old a (.inl z)
    · exact f.old a (.inr (.inl z))
    · rcases h a z1 z2 with q | ⟨_, q⟩
      · exact f.old a (.inr (.inr q))
      · exact q⟩
section
variable {K : Fg} {g : Gh} {D : Addr} {Hz Hb H H' H2 : Hp} {hid : Addr → Prop} {P Pl : List Nat} {δb δ δa δc : PP.St} {fpsb fps fpsa fpsc : Nat → List Addr} {τ σ2 : L2.St} {vs : List V} {ts : List Tm} {fp fq : List Addr} {own ix : List Nat}
/-- a turn without a new item -/
theorem CI.turn (st : CI K g D Hz hid P Hb δb fpsb τ H δ fps vs ts fp) (kp0 : Kp (fun _ => False) H H') (hPl : ∀ i ∈ P, i ∈ Pl) (hPt : ∀ i ∈ unionS ts, i ∈ Pl) (hb : ∀ i s, δb[i]? = some (some s) → i ∉ own) (hix : ∀ i ∈ ix, i ∈ own)
    (off : ∀ j, j ∉ ix → δa[j]? = δ[j]? ∧ fpsa j = fps j) (oc : ∀ i a, clm δa fpsa i a → clm δ fps i a) (ol : δa.length = δ.length)
    (fa : FR K (gC g D ts fp) σ2 H' δa fpsa) (fc : FR K (gC g D ts fp) σ2 H2 δc fpsc) (hτ : wipe σ2 own = τ)
    (kp : Kp (fun a => ∃ i, i ∉ Pl ∧ clm δa fpsa i a) H' H2) (sub : ∀ i a, clm δc fpsc i a → clm δa fpsa i a) (deep : ∀ i ∈ P, i ∉ own → ∀ s, δa[i]? = some (some s) → s.k = .deep → δc[i]? = some (some s) ∧ fpsc i = fpsa i) (len : δc.length = δa.length) :
    CI K g D Hz hid P Hb δb fpsb τ H2 (forget own δc) fpsc vs ts fp where
  fr := by rw [← hτ]; exact fc.forget own
  d := by
    refine kp.at (kp0.at st.d fun z => z) fun ⟨i, _, c⟩ => ?_
    obtain ⟨s, e, m⟩ := c.mem
    exact fa.priv i s D e m (.inr (.inl rfl))
  d0 := st.d0
  ev := by
    refine ⟨?_, fun i a c => st.ev.sub i a (oc i a (sub i a (clm_forget c))), fun i hi s e k => ?_, by rw [forget_len, len, ol, st.ev.len]⟩
    · refine (st.ev.kp.trans (kp0.mono fun _ z => z.elim)).trans (kp.mono fun a ⟨i, n, c⟩ => .inr ⟨i, fun z => n (hPl i z), st.ev.sub i a (oc i a c)⟩)
    · obtain ⟨e1, e2⟩ := st.ev.deep i hi s e k
      have no := hb i s e
      obtain ⟨o1, o2⟩ := off i fun z => no (hix i z)
      obtain ⟨d1, d2⟩ := deep i hi no s (by rw [o1]; exact e1) k
      exact ⟨by rw [forget_off no]; exact d1, d2.trans (o2.trans e2)⟩
  rep := (st.rep.stay kp0 fun _ _ z => z).stay kp fun a m ⟨i, n, c⟩ => n (hPt i (st.cl i a (oc i a c) m))
  cl := fun i a c m => st.cl i a (oc i a (sub i a (clm_forget c))) m
  u := st.u
  reach := st.reach
  priv := st.priv
  old := st.old
  f0 := st.f0
/-- a new item -/
theorem CI.push (st : CI K g D Hz hid P Hb δb fpsb τ H δ fps vs ts fp) {y : V} {t : Tm} {Hs : Hp} (to : TO K (gC g D ts fp) Hs H δc fpsc y t fq) (hc : ∀ i a, clm δ fps i a → clm δc fpsc i a) (ha : ∀ a, Away δc fpsc a → Away δ fps a) (hs : ∀ x, Hs x = none → Hb x = none) :
    CI K g D Hz hid P Hb δb fpsb τ (upd H D (.lst (vs ++ [y]))) δ fps (vs ++ [y]) (ts ++ [t]) (fp ++ fq) := by
  have nD : ∀ a ∈ fq, a ≠ D := fun a m z => to.priv a m (.inr (.inl z))
  have kpD : Kp (fun a => a = D) H (upd H D (.lst (vs ++ [y]))) := Kp.put st.d rfl
  have un : allU (ts ++ [t]) = true → allU ts = true ∧ fq.Nodup ∧ ∀ a ∈ fq, Hs a = none ∧ Away δc fpsc a := fun h => by
    rw [allU_app, Bool.and_eq_true] at h
    refine ⟨h.1, ?_⟩
    have h2 : (t.un && t.S.isEmpty) = true := by simpa [allU] using h.2
    rw [Bool.and_eq_true] at h2
    have hS : t.S = [] := by simpa using h2.2
    unfold Tm.un at h2
    cases hu : t.u with
    | true =>
      obtain ⟨n, q⟩ := to.u hu
      refine ⟨n, fun a m => ?_⟩
      rcases q a m with ⟨i, hi, _⟩ | q
      · rw [hS] at hi; cases hi
      · exact q
    | false =>
      rw [hu, Bool.false_or] at h2
      have := to.rep.noL h2.1
      subst this
      exact ⟨.nil, fun a m => nomatch m⟩
  refine ⟨?_, upd_same, st.d0, ⟨?_, st.ev.sub, st.ev.deep, st.ev.len⟩, ?_, fun i a c m => ?_, fun h => ?_, fun a m => (List.mem_append.mp m).elim (st.reach a) (to.reach a), fun a m => (List.mem_append.mp m).elim (st.priv a) fun m => ⟨fun z => to.priv a m (.inl z), nD a m⟩, st.old, st.f0⟩
  · refine FR.hide2 (ts := ts) (fp := fp) (st.fr.poke (.inr (.inl rfl)) st.d (st.f0 D st.d0)) fun a h m => ?_
    obtain ⟨h1, _, h3⟩ := un h
    rcases List.mem_append.mp m with m | m
    · exact .inl ⟨h1, m⟩
    · refine .inr ⟨ha a (h3 a m).2, fun z => ?_⟩
      rw [upd_ne (nD a m)] at z
      exact to.ex a m z
  · exact st.ev.kp.trans (kpD.mono fun a z => .inl z)
  · rw [List.map_append]
    exact (st.rep.stay kpD fun a m => (st.priv a m).2).append (by simpa using RpAll.cons (to.rep.stay kpD nD) .nil)
  · rw [unionS_app]
    rcases List.mem_append.mp m with m | m
    · exact List.mem_append_left _ (st.cl i a c m)
    · refine List.mem_append_right _ ?_
      have := to.cl i a (hc i a c) m
      simpa [unionS] using this
  · obtain ⟨h1, h2, h3⟩ := un h
    obtain ⟨n, q⟩ := st.u h1
    refine ⟨List.nodup_append.mpr ⟨n, h2, fun a m b m2 e => ?_⟩, fun a m => ?_⟩
    · subst e
      exact to.priv a m2 (.inr (.inr ⟨h1, m⟩))
    · rcases List.mem_append.mp m with m | m
      · exact q a m
      · have := hs a (h3 a m).1
        exact ⟨st.old a this, .inr this⟩
end
section
variable {X : Cx} {C : Calls} {G : Sigs}
theorem blk_mono {P Q : Prop} (h : P) (k : P → Q) : Q := k h
/-- an item's turn: target, test, item -/
def Tn1 (K : Fg) (C : Calls) (G : Sigs) (D : Addr) (own : List Nat) (t : T) (co : Eo) (pe : E) (τ : L2.St) : V → Hp → (Hp → Prop) → Prop := fun x H' Nx => tG K t x τ H' fun σ2 H2 => wipe σ2 own = τ ∧ tC K C G co σ2 H2 fun b H3 =>
  if b = true then tE K C G pe σ2 H3 fun y H4 => ∃ acc, H4 D = some (.lst acc) ∧ acc.length < sizeLine ∧ Nx (upd H4 D (.lst (acc ++ [y]))) else Nx H3
/-- the evaluator's turn -/
def body1 (C : Calls) (G : Sigs) (own : List Nat) (t : T) (S : List Nat) (co : Eo) (pe : E) : List Nat → PP.D → PP.St → Option (List Tm × PP.St) := fun P d δ => match bindT S t d δ with
  | some δa => match evC C G P co δa with
    | some (true, δb) => match evE C G P pe δb with
      | some (x, δc) => some ([x], forget own δc)
      | none => none
    | some (false, δb) => some ([], forget own δb)
    | none => none
  | none => none
theorem turn1 {K : Fg} {g : Gh} {D : Addr} {Hz Hb : Hp} {hid : Addr → Prop} {P : List Nat} {δb : PP.St} {fpsb : Nat → List Addr} {τ σ0 : L2.St} {own : List Nat} {t : T} {S : List Nat} {co : Eo} {pe : E} {fI : List Addr} (hτ : τ = wipe σ0 own) (hb : ∀ i s, δb[i]? = some (some s) → i ∉ own) (hT : ∀ i ∈ t.ixs, i ∈ own)
    (cli : ∀ i a, clm δb fpsb i a → a ∈ fI → i ∈ S) (re : ∀ a ∈ fI, g.R a ∨ g.F0 a = none ∨ ∃ i, (i, a) ∈ g.IO) (pri : ∀ a ∈ fI, ¬ g.X a ∧ a ≠ D ∧ ¬ hid a ∧ Hb a ≠ none) :
    ∀ (Pl : List Nat) (d : PP.D) (H : Hp) (δ δ' : PP.St) (fps : Nat → List Addr) (vs : List V) (ts tt : List Tm) (fp fq : List Addr) (x : V) (H' : Hp) (Nx : Hp → Prop), body1 C G own t S co pe Pl d δ = some (tt, δ') → (∀ i ∈ P, i ∈ Pl) → (∀ i ∈ unionS ts, i ∈ Pl) → ts.length + tt.length < sizeLine →
      CI K g D Hz hid P Hb δb fpsb τ H δ fps vs ts fp → Kp (fun _ => False) H H' → Rp K H' x d fq → (∀ a ∈ fq, a ∈ fI) → (∀ H2 fps2 vs2 fp2, CI K g D Hz hid P Hb δb fpsb τ H2 δ' fps2 vs2 (ts ++ tt) fp2 → Nx H2) → Tn1 K C G D own t co pe τ x H' Nx := by
  intro Pl d H δ δ' fps vs ts tt fp fq x H' Nx hbody hP hPt hz st kp0 rp hf nx
  unfold body1 at hbody
  split at hbody
  · rename_i δa ba
    have f1 := st.fr.kept kp0
    refine ⟨S, gC g D ts fp, δ, fps, d, fq, δa, f1, rp, ba, fun i a c m => cli i a (st.ev.sub i a c) (hf a m), fun a m => re a (hf a m), fun a m z => ?_, fun σ2 fpsa fa oa => ⟨?_, ?_⟩⟩
    · obtain ⟨p1, p2, p3, p4⟩ := pri a (hf a m)
      rcases z with z | z | ⟨z1, z2⟩
      · exact p1 z
      · exact p2 z
      · rcases ((st.u z1).2 a z2).2 with q | q
        · exact p3 q
        · exact p4 q
    · rw [hτ]
      refine wipe_eq (by rw [oa.len.1, hτ, wipe_length]) fun j hj => ?_
      rw [← hτ]
      exact (oa.off j fun z => hj (hT j z)).2.2
    · have hw : wipe σ2 own = τ := by
        rw [hτ]
        refine wipe_eq (by rw [oa.len.1, hτ, wipe_length]) fun j hj => ?_
        rw [← hτ]
        exact (oa.off j fun z => hj (hT j z)).2.2
      have off : ∀ j, j ∉ t.ixs → δa[j]? = δ[j]? ∧ fpsa j = fps j := fun j hj => ⟨(oa.off j hj).1, (oa.off j hj).2.1⟩
      have oc : ∀ i a, clm δa fpsa i a → clm δ fps i a := fun i a c => (oa.clm i a c).1
      split at hbody
      · rename_i δ2 hc
        split at hbody
        · rename_i y δ3 he
          simp only [Option.some.injEq, Prod.mk.injEq] at hbody
          obtain ⟨rfl, rfl⟩ := hbody
          refine ⟨_, Pl, δa, fpsa, true, δ2, fa, hc, fun H3 fps3 f3 ev3 => ?_⟩
          dsimp only
          rw [if_pos rfl]
          refine ⟨_, Pl, δ2, fps3, y, δ3, f3, he, fun v H4 fps4 fq4 f4 ev4 to => ?_⟩
          have ev := ev3.trans ev4
          have st2 := st.turn kp0 hP hPt hb hT off oc oa.len.2 fa f4 hw ev.kp ev.sub (fun i hi _ => ev.deep i (hP i hi)) ev.len
          have back : ∀ x, H3 x = none → Hb x = none := fun x z => by
            have z1 := kp0.none (ev3.back x z)
            exact st.ev.kp.none z1
          refine ⟨vs, st2.d, by have := st.rep.length; simp at this hz; omega, nx _ _ _ _ (st2.push to (fun i a c => clm_forget c) (fun a aw j s e m => aw j s (forget_some e).1 m) back)⟩
        · cases hbody
      · rename_i δ2 hc
        simp only [Option.some.injEq, Prod.mk.injEq] at hbody
        obtain ⟨rfl, rfl⟩ := hbody
        refine ⟨_, Pl, δa, fpsa, false, δ2, fa, hc, fun H3 fps3 f3 ev3 => ?_⟩
        dsimp only
        rw [if_neg (by decide)]
        have st2 := st.turn kp0 hP hPt hb hT off oc oa.len.2 fa f3 hw ev3.kp ev3.sub (fun i hi _ => ev3.deep i (hP i hi)) ev3.len
        exact nx _ _ _ _ (by rw [List.append_nil]; exact st2)
      · cases hbody
  · cases hbody
/-- the loop's begin -/
theorem CI.start {K : Fg} {g : Gh} {D : Addr} {H1 : Hp} {P : List Nat} {δ1 : PP.St} {fps1 : Nat → List Addr} {σ : L2.St} (f : FR K g σ H1 δ1 fps1) (hD : H1 D = none) (own : List Nat) :
    CI K g D H1 (fun _ => False) P H1 (forget own δ1) fps1 (wipe σ own) (upd H1 D (.lst [])) (forget own δ1) fps1 [] [] [] where
  fr := by
    have f2 := (f.new (o := .lst []) hD).forget own
    refine ⟨f2.len, f2.rep, f2.top, f2.io, f2.mine, f2.deep, f2.excl, f2.reach, f2.frame, fun j s a e m z => ?_, fun a z => ?_⟩
    · rcases z with z | z | ⟨_, z⟩
      · exact f2.priv j s a e m z
      · subst z; exact f.out hD j s (forget_some e).1 m
      · cases z
    · rcases z with z | z | ⟨_, z⟩
      · exact f2.old a z
      · subst z; rw [upd_same]; exact fun z => nomatch z
      · cases z
  d := upd_same
  d0 := hD
  ev := ⟨(Kp.new (M := fun _ => False) hD).mono fun _ z => False.elim z, fun _ _ c => c, fun _ _ _ e _ => ⟨e, rfl⟩, rfl⟩
  rep := .nil
  cl := fun _ _ _ m => nomatch m
  u := fun _ => ⟨.nil, fun _ m => nomatch m⟩
  reach := fun _ m => nomatch m
  priv := fun _ m => nomatch m
  old := fun _ z => z
  f0 := f.back0
/-- the list that it gives -/
theorem CI.done {K : Fg} {g : Gh} {D : Addr} {H0 H1 H : Hp} {P P0 : List Nat} {δ0 δ1 δE : PP.St} {fps0 fps1 fps : Nat → List Addr} {σ : L2.St} {own : List Nat} {vs : List V} {ts : List Tm} {fp : List Addr} {t : Tm} {Q : VK}
    (st : CI K g D H1 (fun _ => False) P H1 (forget own δ1) fps1 (wipe σ own) H δE fps vs ts fp) (ev1 : Ev P0 H0 δ0 fps0 H1 δ1 fps1) (hP : ∀ i ∈ P0, i ∈ P) (hd : ∀ i ∈ P0, i ∉ own) (hm : mkComp ts = some t) (hX : ¬ g.X D)
    (q : ∀ v H' fps' fp, FR K g σ H' δE fps' → Ev P0 H0 δ0 fps0 H' δE fps' → TO K g H0 H' δE fps' v t fp → Q v H') : Q (.ref D) H := by
  have fD : FR K (gC g D ts fp) σ H δE fps := st.fr.unwipe
  have f : FR K g σ H δE fps := FR.less (g := g) fD fun _ z => .inl z
  have ev2 : Ev P0 H1 δ1 fps1 H δE fps := by
    refine ⟨fun a o e => ?_, fun i a c => clm_forget (st.ev.sub i a c), fun i hi s e k => ?_, by rw [st.ev.len, forget_len]⟩
    · rcases st.ev.kp a o e with z | ⟨z | ⟨i, n, c⟩, r⟩
      · exact .inl z
      · subst z; rw [st.d0] at e; cases e
      · exact .inr ⟨⟨i, fun z => n (hP i z), clm_forget c⟩, r⟩
    · exact st.ev.deep i (hP i hi) s (by rw [forget_off (hd i hi)]; exact e) k
  unfold mkComp at hm
  split at hm
  · simp only [Option.some.injEq] at hm
    subst hm
    have nD : D ∉ fp := fun m => (st.priv D m).2 rfl
    have aw : Away δE fps D := fun j s e m => fD.priv j s D e m (.inr (.inl rfl))
    refine q _ _ _ (D :: fp) f (ev1.trans ev2) ⟨.lst st.d st.rep nD, fun i a c m => ?_, fun i a c m _ => ?_, fun h => ?_, fun _ => ⟨D, fp, rfl, nD, rfl, ev1.back D st.d0, aw⟩, fun a m => ?_, fun a m => ?_⟩
    · rcases List.mem_cons.mp m with z | m
      · subst z; exact (aw.not c).elim
      · exact st.cl i a c m
    · rcases List.mem_cons.mp m with z | m
      · subst z; exact (aw.not c).elim
      · exact st.cl i a c m
    · obtain ⟨n, z⟩ := st.u h
      refine ⟨List.nodup_cons.mpr ⟨nD, n⟩, fun a m => .inr ?_⟩
      rcases List.mem_cons.mp m with y | m
      · subst y; exact ⟨ev1.back _ st.d0, aw⟩
      · exact ⟨ev1.back a (z a m).1, fun j s e m2 => fD.priv j s a e m2 (.inr (.inr ⟨h, m⟩))⟩
    · rcases List.mem_cons.mp m with z | m
      · subst z; exact .inr (.inl (st.f0 _ st.d0))
      · exact st.reach a m
    · rcases List.mem_cons.mp m with z | m
      · subst z
        exact hX
      · exact (st.priv a m).1
  · cases hm
/-- [item for target in walked if test] -/
theorem tLc_ok {K : Fg} {own : List Nat} {t : T} {it : PP.It} {co : Eo} {pe : E} (hT : ∀ i ∈ t.ixs, i ∈ own) (σ : L2.St) (H : Hp) (Q : VK) (h : tE K C G (.comp own pe t it co) σ H Q) : tLc (tI K C G it) (tG K t) (tC K C G co) (tE K C G pe) own σ H Q := by
  obtain ⟨g, P, δ, fps, tm, δ', f, h, q⟩ := h
  simp only [evE] at h
  split at h
  · cases h
  rename_i hd
  have hd' : ∀ i ∈ P, i ∉ own := fun i hi z => by
    simp only [Bool.not_eq_true', Bool.not_eq_false] at hd
    unfold disj at hd
    rw [List.all_eq_true] at hd
    have := hd i z
    simp at this
    exact this hi
  split at h
  · rename_i w δ1 e1
    split at h
    · rename_i ts δ2 e2
      split at h
      · rename_i t' e3
        simp only [Option.some.injEq, Prod.mk.injEq] at h
        obtain ⟨rfl, rfl⟩ := h
        refine ⟨g, P, δ, fps, w, δ1, f, e1, fun J H1 fps1 fA fI f1 ev1 wo D hD => ?_⟩
        have nD : ∀ a ∈ fA, a ≠ D := fun a m z => by
          obtain ⟨_, e⟩ := wo.ex a m
          rw [z, hD] at e; cases e
        have hz : ([] : List Tm).length + ts.length < sizeLine := by
          unfold mkComp at e3
          split at e3
          · simpa using (by assumption)
          · cases e3
        obtain ⟨W, w0, turn⟩ := cloop (Tn := Tn1 K C G D own t co pe (wipe σ own)) wo nD (fun i a c => clm_forget c) mem_r (fun i h => h) (fun i h => by simp [unionS] at h) hz e2 (CI.start f1 hD own)
          (turn1 (σ0 := σ) rfl (fun i s e => (forget_some e).2) hT (fun i a c m => wo.cli i a (clm_forget c) m) (fun a m => wo.reach a (wo.sub a m)) fun a m => ⟨wo.priv a (wo.sub a m), nD a (wo.sub a m), fun z => z, fun z => by
            obtain ⟨_, e⟩ := wo.ex a (wo.sub a m)
            rw [z] at e; cases e⟩)
        refine ⟨W, w0, fun i m H hW => ?_⟩
        rcases turn i m H hW with ⟨st, fpsE, vs, fp, ci⟩ | ⟨go, Nx, hN, tn⟩
        · exact .inl ⟨st, ci.done ev1 mem_l hd' e3 (fun x => f1.old D x hD) q⟩
        · exact .inr ⟨go, Nx, hN, tn⟩
      · cases h
    · cases h
  · cases h
/-- a turn of the first of two clauses -/
def Tn2 (K : Fg) (C : Calls) (G : Sigs) (D : Addr) (own own1 : List Nat) (t : T) (co : Eo) (it1 : PP.It) (t1 : T) (co1 : Eo) (pe : E) (τ : L2.St) : V → Hp → (Hp → Prop) → Prop := fun x H' Nx => tG K t x τ H' fun σ2 H2 => wipe σ2 own = τ ∧ tC K C G co σ2 H2 fun b H3 =>
  if b = true then tI K C G it1 σ2 H3 fun J1 H4 => ∃ W1 : Nat → Nat → Hp → Prop, (∃ m, W1 0 m H4) ∧ ∀ j k H, W1 j k H → (J1.stop j H ∧ Nx H) ∨ (J1.go j H ∧ ∃ Nx1 : Hp → Prop, (∀ H', Nx1 H' → ∃ k', k' < k ∧ W1 (j + 1) k' H') ∧ ∀ x H', J1.yld j H x H' → Tn1 K C G D own1 t1 co1 pe (wipe σ2 own1) x H' Nx1) else Nx H3
def body2 (C : Calls) (G : Sigs) (own own1 : List Nat) (t : T) (S : List Nat) (co : Eo) (it1 : PP.It) (t1 : T) (co1 : Eo) (pe : E) : List Nat → PP.D → PP.St → Option (List Tm × PP.St) := fun P d δ => match bindT S t d δ with
  | some δa => match evC C G P co δa with
    | some (true, δb) => match evI C G P it1 δb with
      | some (w1, δc) => match compLoop (body1 C G own1 t1 w1.Si co1 pe) (P ++ w1.S) w1.ds (forget own1 δc) with
        | some (ts, δd) => some (ts, forget own δd)
        | none => none
      | none => none
    | some (false, δb) => some ([], forget own δb)
    | none => none
  | none => none
theorem turn2 {K : Fg} {g : Gh} {D : Addr} {Hz : Hp} {P : List Nat} {δb : PP.St} {fpsb : Nat → List Addr} {τ σ0 : L2.St} {own own1 : List Nat} {t t1 : T} {S : List Nat} {co co1 : Eo} {it1 : PP.It} {pe : E} {fI : List Addr} (hτ : τ = wipe σ0 own) (hb : ∀ i s, δb[i]? = some (some s) → i ∉ own) (hT : ∀ i ∈ t.ixs, i ∈ own) (ho : ∀ i ∈ own1, i ∈ own) (hT1 : ∀ i ∈ t1.ixs, i ∈ own1)
    (cli : ∀ i a, clm δb fpsb i a → a ∈ fI → i ∈ S) (re : ∀ a ∈ fI, g.R a ∨ g.F0 a = none ∨ ∃ i, (i, a) ∈ g.IO) (pri : ∀ a ∈ fI, ¬ g.X a ∧ a ≠ D ∧ Hz a ≠ none) :
    ∀ (Pl : List Nat) (d : PP.D) (H : Hp) (δ δ' : PP.St) (fps : Nat → List Addr) (vs : List V) (ts tt : List Tm) (fp fq : List Addr) (x : V) (H' : Hp) (Nx : Hp → Prop), body2 C G own own1 t S co it1 t1 co1 pe Pl d δ = some (tt, δ') → (∀ i ∈ P, i ∈ Pl) → (∀ i ∈ unionS ts, i ∈ Pl) → ts.length + tt.length < sizeLine →
      CI K g D Hz (fun _ => False) P Hz δb fpsb τ H δ fps vs ts fp → Kp (fun _ => False) H H' → Rp K H' x d fq → (∀ a ∈ fq, a ∈ fI) → (∀ H2 fps2 vs2 fp2, CI K g D Hz (fun _ => False) P Hz δb fpsb τ H2 δ' fps2 vs2 (ts ++ tt) fp2 → Nx H2) → Tn2 K C G D own own1 t co it1 t1 co1 pe τ x H' Nx := by
  intro Pl d H δ δ' fps vs ts tt fp fq x H' Nx hbody hP hPt hz st kp0 rp hf nx
  unfold body2 at hbody
  split at hbody
  · rename_i δa ba
    have f1 := st.fr.kept kp0
    refine ⟨S, gC g D ts fp, δ, fps, d, fq, δa, f1, rp, ba, fun i a c m => cli i a (st.ev.sub i a c) (hf a m), fun a m => re a (hf a m), fun a m z => ?_, fun σ2 fpsa fa oa => ?_⟩
    · obtain ⟨p1, p2, p4⟩ := pri a (hf a m)
      rcases z with z | z | ⟨z1, z2⟩
      · exact p1 z
      · exact p2 z
      · exact p4 ((st.u z1).2 a z2).1
    · have hw : wipe σ2 own = τ := by
        rw [hτ]
        refine wipe_eq (by rw [oa.len.1, hτ, wipe_length]) fun j hj => ?_
        rw [← hτ]
        exact (oa.off j fun z => hj (hT j z)).2.2
      refine ⟨hw, ?_⟩
      have off : ∀ j, j ∉ t.ixs → δa[j]? = δ[j]? ∧ fpsa j = fps j := fun j hj => ⟨(oa.off j hj).1, (oa.off j hj).2.1⟩
      have oc : ∀ i a, clm δa fpsa i a → clm δ fps i a := fun i a c => (oa.clm i a c).1
      split at hbody
      · rename_i δ2 hc
        split at hbody
        · rename_i w1 δ3 he
          split at hbody
          · rename_i ts2 δ4 hl
            simp only [Option.some.injEq, Prod.mk.injEq] at hbody
            obtain ⟨rfl, rfl⟩ := hbody
            refine ⟨_, Pl, δa, fpsa, true, δ2, fa, hc, fun H3 fps3 f3 ev3 => ?_⟩
            dsimp only
            rw [if_pos rfl]
            refine ⟨_, Pl, δ2, fps3, w1, δ3, f3, he, fun J1 H4 fps4 fA1 fI1 f4 ev4 wo1 => ?_⟩
            have ev := ev3.trans ev4
            have st2 := st.turn kp0 hP hPt hb hT off oc oa.len.2 fa f4 hw ev.kp ev.sub (fun i hi _ => ev.deep i (hP i hi)) ev.len
            have oc4 : ∀ i a, clm δ3 fps4 i a → clm δ fps i a := fun i a c => oc i a (ev.sub i a c)
            have zb : ∀ x, H4 x = none → Hz x = none := fun x z => st.ev.kp.none (kp0.none (ev.back x z))
            have nD1 : ∀ a ∈ fA1, a ≠ D := fun a m z => wo1.priv a m (.inr (.inl z))
            -- amid: the inner loop's begin
            have s1 : CI K g D Hz (fun a => allU ts = true ∧ a ∈ fp) (Pl ++ w1.S) H4 (forget own1 δ3) fps4 (wipe σ2 own1) H4 (forget own1 δ3) fps4 vs ts fp :=
              ⟨f4.forget own1, st2.d, st.d0, ⟨Kp.refl, fun _ _ c => c, fun _ _ _ e _ => ⟨e, rfl⟩, rfl⟩, st2.rep, fun i a c m => st.cl i a (oc4 i a (clm_forget c)) m, fun h => ⟨(st.u h).1, fun a m => ⟨((st.u h).2 a m).1, .inl ⟨h, m⟩⟩⟩, st.reach, st.priv, zb, st.f0⟩
            obtain ⟨W1, w0, turn⟩ := cloop (g := g) (Tn := Tn1 K C G D own1 t1 co1 pe (wipe σ2 own1)) (WO.mk wo1.cl wo1.cli wo1.sub wo1.ex wo1.reach (fun a m z => wo1.priv a m (.inl z)) wo1.go wo1.stop) nD1 (fun i a c => clm_forget c) mem_r (fun i h => h) (fun i h => List.mem_append_left _ (hPt i h)) hz hl s1
              (turn1 (g := g) (σ0 := σ2) rfl (fun i s e => (forget_some e).2) hT1 (fun i a c m => wo1.cli i a (clm_forget c) m) (fun a m => wo1.reach a (wo1.sub a m)) fun a m => ⟨fun z => wo1.priv a (wo1.sub a m) (.inl z), nD1 a (wo1.sub a m), fun z => wo1.priv a (wo1.sub a m) (.inr (.inr z)), fun z => by
                obtain ⟨_, e⟩ := wo1.ex a (wo1.sub a m)
                rw [z] at e; cases e⟩)
            refine ⟨W1, w0, fun j k Hj hW => ?_⟩
            rcases turn j k Hj hW with ⟨stp, fpsE, vsE, fpE, ci⟩ | ⟨go, Nx1, hN, tn⟩
            · refine .inl ⟨stp, nx Hj fpsE vsE fpE ?_⟩
              have hww : wipe (wipe σ2 own1) own = τ := by
                rw [← hw]
                refine wipe_eq (wipe_length _ _) fun j hj => ?_
                rw [wipe_off (fun z => hj (ho j z)), wipe_off hj]
              refine ⟨by rw [← hww]; exact ci.fr.forget own, ci.d, st.d0, ⟨?_, fun i a c => st.ev.sub i a (oc4 i a (clm_forget (ci.ev.sub i a (clm_forget c)))), fun i hi s e kk => ?_, ?_⟩, ci.rep, fun i a c m => ci.cl i a (clm_forget c) m, fun h => ⟨(ci.u h).1, fun a m => ⟨((ci.u h).2 a m).1, .inr ((ci.u h).2 a m).1⟩⟩, ci.reach, ci.priv, st.old, st.f0⟩
              · refine (st.ev.kp.trans (kp0.mono fun _ z => False.elim z)).trans ((ev.kp.mono fun a ⟨i, n, c⟩ => .inr ⟨i, fun z => n (hP i z), st.ev.sub i a (oc i a c)⟩).trans (ci.ev.kp.mono fun a z => z.imp id fun ⟨i, n, c⟩ => ⟨i, fun z => n (List.mem_append_left _ (hP i z)), st.ev.sub i a (oc4 i a (clm_forget c))⟩))
              · obtain ⟨e1, e2⟩ := st.ev.deep i hi s e kk
                have no := hb i s e
                obtain ⟨o1, o2⟩ := off i fun z => no (hT i z)
                obtain ⟨d1, d2⟩ := ev.deep i (hP i hi) s (by rw [o1]; exact e1) kk
                obtain ⟨c1, c2⟩ := ci.ev.deep i (List.mem_append_left _ (hP i hi)) s (by rw [forget_off fun z => no (ho i z)]; exact d1) kk
                exact ⟨by rw [forget_off no]; exact c1, c2.trans (d2.trans (o2.trans e2))⟩
              · rw [forget_len, ci.ev.len, forget_len, ev.len, oa.len.2, st.ev.len]
            · exact .inr ⟨go, Nx1, hN, tn⟩
          · cases hbody
        · cases hbody
      · rename_i δ2 hc
        simp only [Option.some.injEq, Prod.mk.injEq] at hbody
        obtain ⟨rfl, rfl⟩ := hbody
        refine ⟨_, Pl, δa, fpsa, false, δ2, fa, hc, fun H3 fps3 f3 ev3 => ?_⟩
        dsimp only
        rw [if_neg (by decide)]
        have st2 := st.turn kp0 hP hPt hb hT off oc oa.len.2 fa f3 hw ev3.kp ev3.sub (fun i hi _ => ev3.deep i (hP i hi)) ev3.len
        exact nx _ _ _ _ (by rw [List.append_nil]; exact st2)
      · cases hbody
  · cases hbody
/-- [item for .. for ..] -/
theorem tLc2_ok {K : Fg} {own own1 : List Nat} {t t1 : T} {it it1 : PP.It} {co co1 : Eo} {pe : E} (hT : ∀ i ∈ t.ixs, i ∈ own) (ho : ∀ i ∈ own1, i ∈ own) (hT1 : ∀ i ∈ t1.ixs, i ∈ own1) (σ : L2.St) (H : Hp) (Q : VK) (h : tE K C G (.comp2 own own1 pe t it co t1 it1 co1) σ H Q) :
    tLc2 (tI K C G it) (tG K t) (tC K C G co) (tI K C G it1) (tG K t1) (tC K C G co1) (tE K C G pe) own own1 σ H Q := by
  obtain ⟨g, P, δ, fps, tm, δ', f, h, q⟩ := h
  simp only [evE] at h
  split at h
  · cases h
  rename_i hd
  have hd' : ∀ i ∈ P, i ∉ own := fun i hi z => by
    simp only [Bool.not_eq_true', Bool.not_eq_false] at hd
    unfold disj at hd
    rw [List.all_eq_true] at hd
    have := hd i z
    simp at this
    exact this hi
  split at h
  · rename_i w δ1 e1
    split at h
    · rename_i ts δ2 e2
      split at h
      · rename_i t' e3
        simp only [Option.some.injEq, Prod.mk.injEq] at h
        obtain ⟨rfl, rfl⟩ := h
        refine ⟨g, P, δ, fps, w, δ1, f, e1, fun J H1 fps1 fA fI f1 ev1 wo D hD => ?_⟩
        have nD : ∀ a ∈ fA, a ≠ D := fun a m z => by
          obtain ⟨_, e⟩ := wo.ex a m
          rw [z, hD] at e; cases e
        have hz : ([] : List Tm).length + ts.length < sizeLine := by
          unfold mkComp at e3
          split at e3
          · simpa using (by assumption)
          · cases e3
        obtain ⟨W, w0, turn⟩ := cloop (Tn := Tn2 K C G D own own1 t co it1 t1 co1 pe (wipe σ own)) wo nD (fun i a c => clm_forget c) mem_r (fun i h => h) (fun i h => by simp [unionS] at h) hz e2 (CI.start f1 hD own)
          (turn2 (σ0 := σ) rfl (fun i s e => (forget_some e).2) hT ho hT1 (fun i a c m => wo.cli i a (clm_forget c) m) (fun a m => wo.reach a (wo.sub a m)) fun a m => ⟨wo.priv a (wo.sub a m), nD a (wo.sub a m), fun z => by
            obtain ⟨_, e⟩ := wo.ex a (wo.sub a m)
            rw [z] at e; cases e⟩)
        refine ⟨W, w0, fun i m H hW => ?_⟩
        rcases turn i m H hW with ⟨st, fpsE, vs, fp, ci⟩ | ⟨go, Nx, hN, tn⟩
        · exact .inl ⟨st, ci.done ev1 mem_l hd' e3 (fun x => f1.old D x hD) q⟩
        · exact .inr ⟨go, Nx, hN, tn⟩
      · cases h
    · cases h
  · cases h
end
end PP

/-! PPMut: a claimed slot's list changes; slots used up. -/
namespace PP
open PySem PySem.Spec PyProof.Rows L2
section
variable {K : Fg} {g : Gh} {P : List Nat} {σ : L2.St} {H H' : Hp} {δ δ' : PP.St} {fps : Nat → List Addr} {x : Nat} {s : Sl}
theorem kill_some {j : Nat} {u : Sl} (h : (kill x δ)[j]? = some (some u)) : δ[j]? = some (some u) ∧ x ∉ u.S := by
  unfold kill at h
  rw [List.getElem?_map] at h
  obtain ⟨o, h1, h2⟩ := Option.map_eq_some_iff.mp h
  cases o with
  | none => simp at h2
  | some w =>
    simp only at h2
    split at h2
    · cases h2
    · rename_i hc
      simp only [Option.some.injEq] at h2
      subst h2
      exact ⟨h1, by simpa using hc⟩
theorem kill_keep {j : Nat} {u : Sl} (h : δ[j]? = some (some u)) (n : x ∉ u.S) : (kill x δ)[j]? = some (some u) := by
  unfold kill
  rw [List.getElem?_map, h]
  simp [n]
theorem kill_len : (kill x δ).length = δ.length := by unfold kill; simp
theorem lt_of_some {α : Type} {l : List (Option α)} {i : Nat} {a : α} (h : l[i]? = some (some a)) : i < l.length := (List.getElem?_eq_some_iff.mp h).1
/-- the slot's new state -/
abbrev mutS (δ : PP.St) (x : Nat) (d : D) (k : Kd) (S : List Nat) : PP.St := (kill x δ).set x (some ⟨d, k, S⟩)
theorem mut_at {d : D} {k : Kd} {S : List Nat} (e : δ[x]? = some (some s)) {j : Nat} {u : Sl} (h : (mutS δ x d k S)[j]? = some (some u)) : (j = x ∧ u = ⟨d, k, S⟩) ∨ (j ≠ x ∧ δ[j]? = some (some u) ∧ x ∉ u.S) := by
  by_cases hj : j = x
  · subst hj
    rw [set_same (by rw [kill_len]; exact lt_of_some e)] at h
    cases h
    exact .inl ⟨rfl, rfl⟩
  · rw [set_ne hj] at h
    exact .inr ⟨hj, kill_some h⟩
theorem mut_clm {d : D} {k : Kd} {S : List Nat} {fp : List Addr} (e : δ[x]? = some (some s)) {j : Nat} {b : Addr} (c : clm (mutS δ x d k S) (setF fps x fp) j b) : (j ≠ x ∧ clm δ fps j b) ∨ (j = x ∧ clS ⟨d, k, S⟩ fp b) := by
  obtain ⟨u, h, q⟩ := c
  rcases mut_at e h with ⟨rfl, rfl⟩ | ⟨hj, h1, _⟩
  · rw [setF_same] at q
    exact .inr ⟨rfl, q⟩
  · rw [setF_ne hj] at q
    exact .inl ⟨hj, u, h1, q⟩
/-- the list at a, claimed by slot x, is changed -/
theorem FR.mut {a : Addr} {tl tl' : List Addr} {d : D} {k : Kd} {S : List Nat} (f : FR K g σ H δ fps) (e : δ[x]? = some (some s)) (hf : fps x = a :: tl) (hv : σ[x]? = some (some (.ref a))) (hk : s.k ≠ .sh)
    (kk : k = s.k ∨ (s.k = .deep ∧ k = .own)) (kp : Kp (fun b => b = a ∨ (s.k = .deep ∧ b ∈ tl)) H H') (rp : Rp K H' (.ref a) d (a :: tl')) (na : a ∉ tl')
    (cl : ∀ i b, i ≠ x → clm δ fps i b → b ∈ tl' → i ∈ S) (dp : k = .deep → (a :: tl').Nodup ∧ S = [] ∧ ∀ b ∈ tl', b ∈ fps x ∨ (Away δ fps b ∧ g.F0 b = none)) (re : ∀ b ∈ tl', g.R b ∨ g.F0 b = none ∨ ∃ i, (i, b) ∈ g.IO) (pr : ∀ b ∈ tl', ¬ g.X b) :
    FR K g σ H' (mutS δ x d k S) (setF fps x (a :: tl')) := by
  have hx : a ∈ fps x := by rw [hf]; exact List.mem_cons_self
  have ca : clm δ fps x a := by
    refine ⟨s, e, ?_⟩
    cases hs : s.k with
    | sh => exact absurd hs hk
    | own => exact .inr ⟨.inl rfl, by rw [hf]; rfl⟩
    | deep => exact .inl ⟨rfl, hx⟩
    | io => exact .inr ⟨.inr rfl, by rw [hf]; rfl⟩
  have cM : ∀ b, b = a ∨ (s.k = .deep ∧ b ∈ tl) → clm δ fps x b := fun b h => by
    rcases h with rfl | ⟨h1, h2⟩
    · exact ca
    · exact ⟨s, e, .inl ⟨h1, by rw [hf]; exact List.mem_cons_of_mem _ h2⟩⟩
  have hk' : k ≠ .sh := by
    rcases kk with rfl | ⟨_, rfl⟩
    · exact hk
    · exact fun z => nomatch z
  have kio : k = .io → s.k = .io := fun z => by
    rcases kk with h | ⟨_, h⟩
    · rw [← h]; exact z
    · rw [h] at z; cases z
  have sio : k ≠ .io → s.k ≠ .io := fun z y => by
    rcases kk with h | ⟨h, _⟩
    · exact z (h.trans y)
    · rw [y] at h; cases h
  have mn : ∀ b, clS ⟨d, k, S⟩ (a :: tl') b → b = a ∨ (k = .deep ∧ b ∈ tl') := fun b c => by
    rcases c with ⟨h, m⟩ | ⟨_, m⟩
    · rcases List.mem_cons.mp m with z | m
      · exact .inl z
      · exact .inr ⟨h, m⟩
    · exact .inl (by simpa using m.symm)
  have ra : g.R a ∨ g.F0 a = none ∨ ∃ i, (i, a) ∈ g.IO := f.reach x s a e hx
  refine ⟨by rw [List.length_set, kill_len]; exact f.len, fun j u h => ?_, fun j u h hk2 => ?_, fun j u h hk2 => ?_, fun j u b h hk2 c => ?_, fun j u h hk2 => ?_, fun i j u b hij c h m => ?_, fun j u b h m => ?_, fun b o h => ?_, fun j u b h m => ?_, fun b z y => f.old b z (kp.none y)⟩
  · rcases mut_at e h with ⟨rfl, rfl⟩ | ⟨hj, h1, h2⟩
    · exact ⟨_, hv, by rw [setF_same]; exact rp⟩
    · obtain ⟨w, w1, w2⟩ := f.rep j u h1
      refine ⟨w, w1, ?_⟩
      rw [setF_ne hj]
      exact w2.stay kp fun b m z => h2 (f.excl x j u b (Ne.symm hj) (cM b z) h1 m).1
  · rcases mut_at e h with ⟨rfl, rfl⟩ | ⟨hj, h1, h2⟩
    · exact ⟨a, tl', setF_same, na, hv⟩
    · rw [setF_ne hj]
      exact f.top j u h1 hk2
  · rcases mut_at e h with ⟨rfl, rfl⟩ | ⟨hj, h1, h2⟩
    · obtain ⟨b, hb, hh⟩ := f.io j s e (kio hk2)
      rw [hf] at hh
      have : a = b := by simpa using hh
      subst this
      exact ⟨a, hb, by rw [setF_same]; rfl⟩
    · rw [setF_ne hj]
      exact f.io j u h1 hk2
  · rcases mut_clm e c with ⟨hj, c1⟩ | ⟨rfl, c1⟩
    · rcases mut_at e h with ⟨z, _⟩ | ⟨_, h1, _⟩
      · exact absurd z hj
      · exact f.mine j u b h1 hk2 c1
    · rcases mut_at e h with ⟨_, rfl⟩ | ⟨z, _⟩
      · rcases mn b c1 with rfl | ⟨hd, m⟩
        · exact f.mine j s b e (sio hk2) ca
        · rcases (dp hd).2.2 b m with m1 | ⟨_, m1⟩
          · have hsd : s.k = .deep := by
              rcases kk with h | ⟨h, _⟩
              · rw [← h]; exact hd
              · exact h
            exact f.mine j s b e (sio hk2) ⟨s, e, .inl ⟨hsd, m1⟩⟩
          · exact m1
      · exact absurd rfl z
  · rcases mut_at e h with ⟨rfl, rfl⟩ | ⟨hj, h1, h2⟩
    · obtain ⟨d1, d2, _⟩ := dp hk2
      exact ⟨by rw [setF_same]; exact d1, d2⟩
    · rw [setF_ne hj]
      exact f.deep j u h1 hk2
  · have cx : ∀ b, clS ⟨d, k, S⟩ (a :: tl') b → clm δ fps x b ∨ (Away δ fps b ∧ g.F0 b = none) := fun b c => by
      rcases mn b c with rfl | ⟨hd, m⟩
      · exact .inl ca
      · refine ((dp hd).2.2 b m).imp (fun m1 => ?_) id
        have hsd : s.k = .deep := by
          rcases kk with h | ⟨h, _⟩
          · rw [← h]; exact hd
          · exact h
        exact ⟨s, e, .inl ⟨hsd, m1⟩⟩
    rcases mut_clm e c with ⟨hi, c1⟩ | ⟨rfl, c1⟩
    · rcases mut_at e h with ⟨rfl, rfl⟩ | ⟨hj, h1, h2⟩
      · rw [setF_same] at m
        rcases List.mem_cons.mp m with rfl | m
        · exact absurd (f.same c1 ca) hi
        · refine ⟨cl i b hi c1 m, fun c2 => ?_⟩
          rcases mut_clm e c2 with ⟨z, _⟩ | ⟨_, c2⟩
          · exact z rfl
          · rcases cx b c2 with q | ⟨q, _⟩
            · exact hi (f.same c1 q)
            · exact q.not c1
      · rw [setF_ne hj] at m
        obtain ⟨q1, q2⟩ := f.excl i j u b hij c1 h1 m
        refine ⟨q1, fun c2 => ?_⟩
        rcases mut_clm e c2 with ⟨_, c2⟩ | ⟨z, _⟩
        · exact q2 c2
        · exact hj z
    · rcases mut_at e h with ⟨z, _⟩ | ⟨hj, h1, h2⟩
      · exact absurd z.symm hij
      · rw [setF_ne hj] at m
        rcases cx b c1 with q | ⟨q, _⟩
        · exact absurd (f.excl i j u b hij q h1 m).1 h2
        · exact absurd m (q j u h1)
  · rcases mut_at e h with ⟨rfl, rfl⟩ | ⟨hj, h1, h2⟩
    · rw [setF_same] at m
      rcases List.mem_cons.mp m with rfl | m
      · exact ra
      · exact re b m
    · rw [setF_ne hj] at m
      exact f.reach j u b h1 m
  · rcases f.frame b o h with z | ⟨m, xs, ys, rfl, z⟩
    · rcases kp b o z with y | ⟨m, xs, ys, rfl, y⟩
      · exact .inl y
      · have cb := cM b m
        by_cases hio : s.k = .io
        · have : b = a := by
            rcases m with m | ⟨m, _⟩
            · exact m
            · rw [hio] at m; cases m
          subst this
          obtain ⟨b', hb, hh⟩ := f.io x s e hio
          rw [hf] at hh
          have : b = b' := by simpa using hh
          subst this
          exact .inr ⟨⟨x, hb⟩, xs, ys, rfl, y⟩
        · have := f.mine x s b e hio cb
          rw [this] at h; cases h
    · rcases kp b _ z with y | ⟨_, xs2, ys2, _, y⟩
      · exact .inr ⟨m, xs, ys, rfl, y⟩
      · exact .inr ⟨m, xs, ys2, rfl, y⟩
  · rcases mut_at e h with ⟨rfl, rfl⟩ | ⟨hj, h1, h2⟩
    · rw [setF_same] at m
      rcases List.mem_cons.mp m with rfl | m
      · exact f.priv j s b e hx
      · exact pr b m
    · rw [setF_ne hj] at m
      exact f.priv j u b h1 m
end
end PP

/-! PPCall: what a function promises; its calls. -/
namespace PP
open PySem PySem.Spec PyProof.Rows L2
/-- values with their data and lists -/
inductive RpL (K : Fg) (H : Hp) : List V → List D → List (List Addr) → Prop
  | nil : RpL K H [] [] []
  | cons {v : V} {d : D} {fp : List Addr} {vs : List V} {ds : List D} {fl : List (List Addr)} : Rp K H v d fp → RpL K H vs ds fl → RpL K H (v :: vs) (d :: ds) (fp :: fl)
/-- an answer: new lists, or the arguments' -/
structure RetOk (K : Fg) (H : Hp) (fl : List (List Addr)) (v : V) (r : Ret) (H' : Hp) (fp : List Addr) : Prop where
  rep : Rp K H' v r.d fp
  src : ∀ a ∈ fp, a ∈ fl.flatten ∨ H a = none
  fr : r.fr = true → ∃ a tl, fp = a :: tl ∧ a ∉ tl ∧ v = .ref a ∧ H a = none
  u : r.u = true → fp.Nodup ∧ ∀ a ∈ fp, H a = none
/-- the promise: arguments in, answer out -/
def spF (K : Fg) (g : Sig) (Cf : List D → Option Ret) : List V → Hp → VK → Prop := fun vs H Q => ∃ ds fl r, RpL K H vs ds fl ∧ Cf ds = some r ∧ ds.length = g.ps.length ∧
  ((g.io = [] ∧ g.con = [] ∧ ∀ v H' fp, Kp (fun _ => False) H H' → RetOk K H fl v r H' fp → Q v H') ∨
   (∃ p a tl d', g.io = [p] ∧ g.con = [] ∧ fl[p]? = some (a :: tl) ∧ (∀ j fq, j ≠ p → fl[j]? = some fq → a ∉ fq) ∧ a ∉ tl ∧ vs[p]? = some (.ref a) ∧ r.ios = [d'] ∧
      ∀ v H' fp tl', Kp (fun b => b = a) H H' → RetOk K H fl v r H' fp → a ∉ fp → Rp K H' (.ref a) d' (a :: tl') → a ∉ tl' → (∀ b ∈ tl', b ∈ fl.flatten ∨ H b = none) →
        (r.fr = true → ∃ b bl, fp = b :: bl ∧ b ∉ tl') → (r.u = true → ∀ b ∈ fp, b ∉ tl') → Q v H') ∨
   (∃ fp0, g.io = [] ∧ g.con = [0] ∧ fl = [fp0] ∧ fp0.Nodup ∧ ∀ v H', Kp (fun b => b ∈ fp0) H H' → Rp K H' v r.d [] → Q v H'))
/-- a function of the text keeps its promise (as the library's FnOk, with no guard's code about) -/
structure FnG (P : Program) (w : World) (K : Fg) (mg : Str → Option Value) (base : Heap) (k : Nat) (f : Addr) (fd : FuncData) (ps : List Str) (sp : List V → Hp → VK → Prop) : Prop where
  len : ∀ vs H Q, sp vs H Q → vs.length = ps.length
  run : ∀ (A : Around) (outer : List Env) (s : Shared) (H : Hp) (args : Args) (us : List Value) (vs : List V) (Q : VK), Room k A → A.guards = some [] → Env0 P w K mg base A outer s H → BindsTo s fd args (ps.zip us) → Vals vs us → sp vs H Q →
    codeAny (model P w) A (.call (.ref f) args) (CR CX0 outer P w H s Q E0) s
/-- by names: the values in the parameters' order -/
def reorder {α : Type} (ks ps : List Str) (ws : List α) : Option (List α) := ps.mapM fun p => (ks.zip ws).lookup p
/-- a function of the text, as its calls need it -/
structure CallOk (P : Program) (w : World) (K : Fg) (mg : Str → Option Value) (base : Heap) (k : Nat) (f : Str) (g : Sig) (Cf : List D → Option Ret) : Prop where
  ok : ∃ fa fd, mg f = some (.ref fa) ∧ PySem.W.keepIn K (.ref fa) = true ∧ FnG P w K mg base k fa fd g.ps (spF K g Cf) ∧
    (∀ (s : Shared) (us : List Value), us.length = g.ps.length → BindsTo s fd ⟨us, []⟩ (g.ps.zip us)) ∧
    (∀ ks ∈ g.kw, ∀ (s : Shared) (us ws : List Value), reorder ks g.ps us = some ws → us.length = ks.length → BindsTo s fd ⟨[], ks.zip us⟩ (g.ps.zip ws))
section
variable {X : Cx} {pins : List (Addr × Obj)} {σ : L2.St} {H : Hp} {s : Shared} {Q : VK} {k : Nat} {fa : Addr} {fd : FuncData} {ps : List Str} {sp : List V → Hp → VK → Prop}
theorem run_g {us ws : List Value} {kw : List (Str × Value)} {vs : List V} (F : FnG X.prog X.w X.K X.mg X.base k fa fd ps sp) (hr : Room k X.A) (hg : X.A.guards = some []) (I : Inv X pins σ H s) (hb : BindsTo s fd ⟨us, kw⟩ (ps.zip ws)) (r : Vals vs ws) (h : sp vs H Q) :
    wpAny (model X.prog X.w) X.A (call (.ref fa) us kw) (EP X pins σ Q) X.xe s := by
  refine wpAny_call (codeAny_mono (F.run X.A X.stack s H ⟨us, kw⟩ ws vs Q hr hg I.env0 hb r h) fun r s' hq => ?_)
  match r, hq with
  | .error _, hq => exact False.elim hq
  | .ok (.ret u), hq => exact I.after hq
  | .ok .next, hq => exact False.elim hq
  | .ok .brk, hq => exact False.elim hq
  | .ok .cont, hq => exact False.elim hq
theorem kw_all {pos : Pos} {env : Env} : ∀ {kws : List Keyword}, (∀ q ∈ kws, q.arg.isSome = true) → (backToKw pos (keywordEach kws env)).all (·.1.isSome) = true ∧ (backToKw pos (keywordEach kws env)).any (·.1.isNone) = false ∧ (backToKw pos (keywordEach kws env)).filterMap (·.1) = kws.filterMap (·.arg)
  | [], _ => ⟨rfl, rfl, rfl⟩
  | ⟨nm, e, p⟩ :: r, h => by
    obtain ⟨h1, h2, h3⟩ := kw_all (pos := pos) (env := env) fun q hq => h q (List.mem_cons_of_mem _ hq)
    have h0 := h ⟨nm, e, p⟩ List.mem_cons_self
    cases nm with
    | none => cases h0
    | some x =>
      refine ⟨?_, ?_, ?_⟩
      · show ((some x).isSome && (backToKw pos (keywordEach r env)).all _) = true
        rw [h1]; rfl
      · show ((some x).isNone || (backToKw pos (keywordEach r env)).any _) = false
        rw [h2]; rfl
      · show x :: (backToKw pos (keywordEach r env)).filterMap _ = _
        rw [h3]; rfl
/-- f(e, ..) -/
theorem pe_pos {x : Str} {p0 pos : Pos} {es : List PE_} {C : Calls} {G : Sigs} {l : Es} (F : FnG X.prog X.w X.K X.mg X.base k fa fd ps sp) (hr : Room k X.A) (hg : X.A.guards = some []) (gl : Gl X x) (hm : X.mg x = some (.ref fa)) (hk : PySem.W.keepIn X.K (.ref fa) = true) (hdb : (x == ("__debug__" : Str)) = false)
    (hb : ∀ (s : Shared) (us : List Value), us.length = ps.length → BindsTo s fd ⟨us, []⟩ (ps.zip us)) (ha : PA X es (tAs X.K C G l)) (hs : es.any isStar = false) (hl : es = [] → l = .nil) : PE X (.Call (.Name x p0) es [] pos) (fun σ H Q => tAs X.K C G l σ H fun vs H1 => sp vs H1 Q) := by
  constructor
  intro pins s σ H Q I h
  refine wpAny_Call_Name_kw (ld_glob I gl hm ?_ hdb)
  have fin : ∀ (s1 : Shared) (H1 : Hp) (us : List Value) (vs : List V), Inv X pins σ H1 s1 → Vals vs us → sp vs H1 Q → wpAny (model X.prog X.w) X.A (call (.ref fa) us) (EP X pins σ Q) X.xe s1 := fun s1 H1 us vs I1 r q =>
    run_g F hr hg I1 (hb s1 us (by rw [← r.length]; exact F.len _ _ _ q)) r q
  cases es with
  | nil =>
    have := hl rfl
    subst this
    obtain ⟨g, P, δ, fps, ts, δ', f, h0, q⟩ := h
    simp only [evEs, Option.some.injEq, Prod.mk.injEq] at h0
    obtain ⟨rfl, rfl⟩ := h0
    exact PySem.W.callWith_K0 I.kIn hk (fin s H [] [] I .nil (q [] H fps [] f .refl (.nil fun _ z => z)))
  | cons e es =>
    simp only [List.any_cons, Bool.or_eq_false_iff] at hs
    exact PySem.W.callWith_K (h₀ := X.base) I.ok.mod.kin hk (thn (ha.run pos pins s σ H _ I h) fun us s1 ⟨vs, H1, I1, r, q⟩ => ⟨I1.kIn, fin s1 H1 us vs I1 r q⟩) (star_one hs.1) (star_back hs.2)
/-- f(k = v, ..) -/
theorem pe_kw {x : Str} {p0 pos : Pos} {kws : List Keyword} {ks : List Str} {t : L2.TA} (F : FnG X.prog X.w X.K X.mg X.base k fa fd ps sp) (hr : Room k X.A) (hg : X.A.guards = some []) (gl : Gl X x) (hm : X.mg x = some (.ref fa)) (hk : PySem.W.keepIn X.K (.ref fa) = true) (hdb : (x == ("__debug__" : Str)) = false)
    (hks : kws.filterMap (·.arg) = ks) (hall : ∀ q ∈ kws, q.arg.isSome = true) (hb : ∀ (s : Shared) (us ws : List Value), reorder ks ps us = some ws → us.length = ks.length → BindsTo s fd ⟨[], ks.zip us⟩ (ps.zip ws)) (ha : PK X kws t) :
    PE X (.Call (.Name x p0) [] kws pos) (fun σ H Q => t σ H fun zs H1 => zs.length = ks.length ∧ ∃ vs, reorder ks ps zs = some vs ∧ sp vs H1 Q) := by
  constructor
  intro pins s σ H Q I h
  refine wpAny_Call_Name_kw (ld_glob I gl hm ?_ hdb)
  obtain ⟨k1, k2, k3⟩ := kw_all (pos := pos) (env := X.env) hall
  refine PySem.W.callWith_KW0 (h₀ := X.base) I.ok.mod.kin hk k1 (thn (ha.run pos pins s σ H _ I h) fun us s1 ⟨zs, H1, I1, r, hl, vs, hv, q⟩ => ⟨I1.kIn, ?_⟩) (by rw [k2]; rfl)
  rw [k3, hks]
  have key : ∀ (ps : List Str) (vs : List V), (ps.mapM fun p => (ks.zip zs).lookup p) = some vs → ∃ ws, (ps.mapM fun p => (ks.zip us).lookup p) = some ws ∧ Vals vs ws := by
    have one : ∀ (ks : List Str) (zs : List V) (us : List Value) (p : Str) (v : V), Vals zs us → (ks.zip zs).lookup p = some v → ∃ u, (ks.zip us).lookup p = some u ∧ RelV v u := by
      intro ks
      induction ks with
      | nil => intro zs us p v r h; simp at h
      | cons k0 ks ih =>
        intro zs us p v r h
        cases r with
        | nil => simp at h
        | cons r0 r =>
          simp only [List.zip_cons_cons, List.lookup_cons] at h ⊢
          split at h
          · simp only [Option.some.injEq] at h
            subst h
            exact ⟨_, rfl, r0⟩
          · exact ih _ _ _ _ r h
    intro ps
    induction ps with
    | nil => intro vs h; simp only [List.mapM_nil, Option.pure_def, Option.some.injEq] at h; subst h; exact ⟨[], rfl, .nil⟩
    | cons p ps ih =>
      intro vs h
      simp only [List.mapM_cons, Option.bind_eq_bind, Option.bind_eq_some_iff, Option.pure_def, Option.some.injEq] at h
      obtain ⟨v, h1, vr, h2, rfl⟩ := h
      obtain ⟨u, g1, g2⟩ := one ks zs us p v r h1
      obtain ⟨ws, g3, g4⟩ := ih vr h2
      exact ⟨u :: ws, by simp [List.mapM_cons, g1, g3], .cons g2 g4⟩
  obtain ⟨ws, hw, rv⟩ := key ps vs hv
  exact run_g F hr hg I1 (hb s1 us ws hw (by rw [← r.length]; exact hl)) rv q
end
section
variable {K : Fg} {g : Gh} {P : List Nat} {σ : L2.St} {Hs H H' : Hp} {δs δ δ' : PP.St} {fpss fps fps' : Nat → List Addr}
/-- values under way, in any order -/
inductive TAs (K : Fg) (g : Gh) (Hs H : Hp) (δ : PP.St) (fps : Nat → List Addr) : List V → List Tm → List (List Addr) → Prop
  | nil : TAs K g Hs H δ fps [] [] []
  | cons {v : V} {vs : List V} {t : Tm} {ts : List Tm} {fp : List Addr} {fl : List (List Addr)} : TO K g Hs H δ fps v t fp → TAs K g Hs H δ fps vs ts fl → TAs K g Hs H δ fps (v :: vs) (t :: ts) (fp :: fl)
theorem TOs.ta {He : Hp} : ∀ {H0 : Hp} {vs : List V} {ts : List Tm} {fl : List (List Addr)}, TOs K g H δ fps He H0 vs ts fl → (∀ x, H0 x = none → Hs x = none) → TAs K g Hs H δ fps vs ts fl
  | _, _, _, _, .nil _, _ => .nil
  | _, _, _, _, .cons x b _ r, h => .cons (x.since h) (r.ta fun y z => h y (b y z))
theorem TAs.rpl : ∀ {vs : List V} {ts : List Tm} {fl : List (List Addr)}, TAs K g Hs H δ fps vs ts fl → RpL K H vs (ts.map (·.d)) fl
  | _, _, _, .nil => .nil
  | _, _, _, .cons x r => .cons x.rep r.rpl
theorem TAs.get : ∀ {vs : List V} {ts : List Tm} {fl : List (List Addr)}, TAs K g Hs H δ fps vs ts fl → ∀ {i : Nat} {t : Tm}, ts[i]? = some t → ∃ v fp, vs[i]? = some v ∧ fl[i]? = some fp ∧ TO K g Hs H δ fps v t fp
  | _, _, _, .nil, i, t, h => by simp at h
  | _, _, _, .cons x r, 0, t, h => by
    simp at h; subst h
    exact ⟨_, _, rfl, rfl, x⟩
  | _, _, _, .cons x r, i + 1, t, h => by
    obtain ⟨v, fp, h1, h2, h3⟩ := r.get (i := i) (t := t) h
    exact ⟨v, fp, h1, h2, h3⟩
theorem TAs.fl : ∀ {vs : List V} {ts : List Tm} {fl : List (List Addr)}, TAs K g Hs H δ fps vs ts fl → ∀ {i : Nat} {fp : List Addr}, fl[i]? = some fp → ∃ v t, vs[i]? = some v ∧ ts[i]? = some t ∧ TO K g Hs H δ fps v t fp
  | _, _, _, .nil, i, t, h => by simp at h
  | _, _, _, .cons x r, 0, t, h => by
    simp at h; subst h
    exact ⟨_, _, rfl, rfl, x⟩
  | _, _, _, .cons x r, i + 1, t, h => by
    obtain ⟨v, fp, h1, h2, h3⟩ := r.fl (i := i) (fp := t) h
    exact ⟨v, fp, h1, h2, h3⟩
theorem TAs.mem {vs : List V} {ts : List Tm} {fl : List (List Addr)} (h : TAs K g Hs H δ fps vs ts fl) {a : Addr} (m : a ∈ fl.flatten) : ∃ (i : Nat) (v : V) (t : Tm) (fp : List Addr), ts[i]? = some t ∧ fl[i]? = some fp ∧ a ∈ fp ∧ TO K g Hs H δ fps v t fp := by
  obtain ⟨fp, h1, h2⟩ := List.mem_flatten.mp m
  obtain ⟨i, hi, h3⟩ := List.getElem_of_mem h1
  obtain ⟨v, t, _, h4, h5⟩ := h.fl (i := i) (fp := fp) (by rw [List.getElem?_eq_getElem hi, h3])
  exact ⟨i, v, t, fp, h4, by rw [List.getElem?_eq_getElem hi, h3], h2, h5⟩
theorem mem_union {ts : List Tm} {i j : Nat} {t : Tm} (h : ts[i]? = some t) (m : j ∈ t.S) : j ∈ unionS ts := by
  unfold unionS
  exact List.mem_flatMap.mpr ⟨t, List.mem_of_getElem? h, m⟩
/-- a call's answer as a value under way -/
theorem ret_to {S : List Nat} {F fp : List Addr} {v : V} {r : Ret} (back : ∀ x, H x = none → Hs x = none) (rep : Rp K H' v r.d fp) (src : ∀ a ∈ fp, a ∈ F ∨ H a = none) (hF : ∀ a ∈ F, H a ≠ none)
    (hcl : ∀ i a, clm δ' fps' i a → a ∈ fp → a ∈ F ∧ i ∈ S) (u : r.u = true → fp.Nodup ∧ ∀ a ∈ fp, H a = none ∧ Away δ' fps' a) (fr : r.fr = true → ∃ a tl, fp = a :: tl ∧ a ∉ tl ∧ v = .ref a ∧ H a = none ∧ Away δ' fps' a)
    (re : ∀ a ∈ fp, g.R a ∨ g.F0 a = none ∨ ∃ i, (i, a) ∈ g.IO) (pr : ∀ a ∈ fp, ¬ g.X a) : TO K g Hs H' δ' fps' v (retTm r S) fp := by
  have fr' : r.fr = true → ∃ a tl, fp = a :: tl ∧ a ∉ tl ∧ v = .ref a ∧ Hs a = none ∧ Away δ' fps' a := fun h => let ⟨a, tl, h1, h2, h3, h4, h5⟩ := fr h; ⟨a, tl, h1, h2, h3, back a h4, h5⟩
  unfold retTm
  split
  · rename_i hS
    have hS' : S = [] := by simpa using hS
    subst hS'
    exact ⟨rep, fun i a c m => absurd (hcl i a c m).2 (by simp), fun i a c m _ => absurd (hcl i a c m).2 (by simp), fun h => let ⟨n, q⟩ := u h; ⟨n, fun a m => .inr ⟨back a (q a m).1, (q a m).2⟩⟩, fr', re, pr⟩
  · split
    · rename_i hu
      rw [Bool.or_eq_true] at hu
      have no : ∀ i a, clm δ' fps' i a → a ∈ fp → False := fun i a c m => by
        rcases hu with hu | hu
        · exact hF a (hcl i a c m).1 ((u hu).2 a m).1
        · have := rep.noL hu
          subst this
          cases m
      exact ⟨rep, fun i a c m => (no i a c m).elim, fun i a c m _ => (no i a c m).elim, fun h => let ⟨n, q⟩ := u h; ⟨n, fun a m => .inr ⟨back a (q a m).1, (q a m).2⟩⟩, fr', re, pr⟩
    · exact ⟨rep, fun i a c m => (hcl i a c m).2, fun i a c m _ => (hcl i a c m).2, (fun h => nomatch h), fr', re, pr⟩
/-- the slots used up -/
theorem eat_some {P : List Nat} : ∀ {S : List Nat} {δ δ' : PP.St}, eatAll P S δ = some δ' → (∀ x ∈ S, x ∉ P ∧ ∃ s, δ[x]? = some (some s) ∧ s.k = .deep) ∧ δ'.length = δ.length ∧ (∀ j u, δ'[j]? = some (some u) → δ[j]? = some (some u) ∧ j ∉ S ∧ ∀ x ∈ S, x ∉ u.S) ∧ ∀ j u, δ[j]? = some (some u) → j ∉ S → (∀ x ∈ S, x ∉ u.S) → δ'[j]? = some (some u)
  | [], δ, δ', h => by
    simp only [eatAll, Option.some.injEq] at h
    subst h
    exact ⟨(fun _ h => nomatch h), rfl, fun j u e => ⟨e, by simp, by simp⟩, fun j u e _ _ => e⟩
  | x :: S, δ, δ', h => by
    simp only [eatAll] at h
    split at h
    · rename_i s e
      split at h
      · rename_i hc
        simp only [Bool.and_eq_true, decide_eq_true_eq, Bool.not_eq_true', List.contains_eq_mem, decide_eq_false_iff_not] at hc
        obtain ⟨h1, h2, h3, h4⟩ := eat_some h
        have at_ : ∀ {j : Nat} {u : Sl}, ((kill x δ).set x none)[j]? = some (some u) → j ≠ x ∧ δ[j]? = some (some u) ∧ x ∉ u.S := fun {j u} e2 => by
          by_cases hj : j = x
          · subst hj
            rw [set_same (by rw [kill_len]; exact lt_of_some e)] at e2
            cases e2
          · rw [set_ne hj] at e2
            exact ⟨hj, kill_some e2⟩
        refine ⟨fun y hy => ?_, by rw [h2, List.length_set, kill_len], fun j u e2 => ?_, fun j u e2 n1 n2 => ?_⟩
        · rcases List.mem_cons.mp hy with rfl | hy
          · exact ⟨hc.2, s, e, hc.1⟩
          · obtain ⟨n, u, e2, k⟩ := h1 y hy
            exact ⟨n, u, (at_ e2).2.1, k⟩
        · obtain ⟨e3, n1, n2⟩ := h3 j u e2
          obtain ⟨q1, q2, q3⟩ := at_ e3
          refine ⟨q2, by simp [q1, n1], fun y hy => ?_⟩
          rcases List.mem_cons.mp hy with rfl | hy
          · exact q3
          · exact n2 y hy
        · simp only [List.mem_cons, not_or] at n1
          refine h4 j u ?_ n1.2 fun y hy => n2 y (List.mem_cons_of_mem _ hy)
          rw [set_ne n1.1]
          exact kill_keep e2 (n2 x List.mem_cons_self)
      · cases h
    · cases h
theorem un_fp {t : Tm} {v : V} {fp : List Addr} (to : TO K g Hs H δ fps v t fp) (h : t.un = true) : fp.Nodup ∧ ∀ a ∈ fp, (∃ i ∈ t.S, dclm δ fps i a) ∨ (Hs a = none ∧ Away δ fps a) := by
  unfold Tm.un at h
  cases hu : t.u with
  | true => exact to.u hu
  | false =>
    rw [hu, Bool.false_or] at h
    have := to.rep.noL h
    subst this
    exact ⟨.nil, fun a m => nomatch m⟩
/-- THE CALL: from the arguments to the answer -/
theorem call_ok {sg : Sig} {Cf : List D → Option Ret} {x0 : Option Nat} {ar : List Tm} {r : Ret} {vs : List V} {fl : List (List Addr)} {t : Tm} {Q : VK} (f : FR K g σ H δ fps) (ev : Ev P Hs δs fpss H δ fps) (f0s : ∀ x, Hs x = none → g.F0 x = none) (ta : TAs K g Hs H δ fps vs ar fl)
    (hx : ∀ x, x0 = some x → ∃ v, vs[0]? = some v ∧ σ[x]? = some (some v)) (hC : Cf (ar.map (·.d)) = some r) (hl : ar.length = sg.ps.length) (h : callRet P sg x0 ar r δ = some (t, δ'))
    (q : ∀ v H' fps' fp, FR K g σ H' δ' fps' → Ev P Hs δs fpss H' δ' fps' → TO K g Hs H' δ' fps' v t fp → Q v H') : spF K sg Cf vs H Q := by
  have hF : ∀ a ∈ fl.flatten, H a ≠ none := fun a m z => by
    obtain ⟨i, v, t, fp, _, _, m2, to⟩ := ta.mem m
    exact to.ex a m2 z
  have reF : ∀ a ∈ fl.flatten, g.R a ∨ g.F0 a = none ∨ ∃ i, (i, a) ∈ g.IO := fun a m => by
    obtain ⟨i, v, t, fp, _, _, m2, to⟩ := ta.mem m
    exact to.reach a m2
  have prF : ∀ a ∈ fl.flatten, ¬ g.X a := fun a m => by
    obtain ⟨i, v, t, fp, _, _, m2, to⟩ := ta.mem m
    exact to.priv a m2
  have clF : ∀ i a, clm δ fps i a → a ∈ fl.flatten → i ∈ unionS ar := fun i a c m => by
    obtain ⟨j, v, t, fp, h1, _, m2, to⟩ := ta.mem m
    exact mem_union h1 (to.cl i a c m2)
  have nwc : ∀ a, H a = none → ∀ i, ¬ clm δ fps i a := fun a z i c => by
    obtain ⟨_, e⟩ := f.has c
    rw [z] at e; cases e
  refine ⟨_, fl, r, ta.rpl, hC, by simpa using hl, ?_⟩
  unfold callRet at h
  split at h
  · rename_i hcon hio
    simp only [Option.some.injEq, Prod.mk.injEq] at h
    obtain ⟨rfl, rfl⟩ := h
    refine .inl ⟨hio, hcon, fun v H' fp kp ro => ?_⟩
    refine q v H' fps fp (f.kept kp) (ev.trans (.kept kp)) (ret_to (F := fl.flatten) ev.back ro.rep ro.src hF (fun i a c m => ?_) (fun h => ?_) (fun h => ?_) (fun a m => ?_) fun a m => ?_)
    · rcases ro.src a m with z | z
      · exact ⟨z, clF i a c z⟩
      · exact (nwc a z i c).elim
    · obtain ⟨n, z⟩ := ro.u h
      exact ⟨n, fun a m => ⟨z a m, f.out (z a m)⟩⟩
    · obtain ⟨a, tl, h1, h2, h3, h4⟩ := ro.fr h
      exact ⟨a, tl, h1, h2, h3, h4, f.out h4⟩
    · rcases ro.src a m with z | z
      · exact reF a z
      · exact .inr (.inl (f.back0 a z))
    · rcases ro.src a m with z | z
      · exact prF a z
      · exact fun y => f.old a y z
  · rename_i hcon hio
    split at h
    · rename_i hfl
      unfold putIo at h
      split at h
      · rename_i x d' hd
        split at h
        · rename_i s e
          split at h
          · rename_i hk
            simp only [Bool.and_eq_true, Bool.not_eq_true', List.contains_eq_mem, decide_eq_false_iff_not] at hk
            obtain ⟨⟨⟨hk1, hkl⟩, hk2⟩, hk3⟩ := hk
            simp only [Option.some.injEq, Prod.mk.injEq] at h
            obtain ⟨rfl, rfl⟩ := h
            obtain ⟨v0, hv0, hs0⟩ := hx x rfl
            have hsh : s.k ≠ .sh := fun z => by rw [z] at hk1; cases hk1
            obtain ⟨a, tl, hfx, hva⟩ : ∃ a tl, fps x = a :: tl ∧ v0 = .ref a := by
              obtain ⟨w, w1, w2⟩ := f.rep x s e
              rw [hs0] at w1
              have w3 : v0 = w := Option.some.inj (Option.some.inj w1)
              subst w3
              cases hsd : s.d with
              | lst l =>
                rw [hsd] at w2
                generalize hg : fps x = fx at w2
                cases w2 with
                | lst _ _ _ => exact ⟨_, _, rfl, rfl⟩
              | _ => rw [hsd] at hkl; cases hkl
            subst hva
            have ca : clm δ fps x a := by
              refine ⟨s, e, ?_⟩
              cases hs : s.k with
              | sh => exact absurd hs hsh
              | own => exact .inr ⟨.inl rfl, by rw [hfx]; rfl⟩
              | deep => exact .inl ⟨rfl, by rw [hfx]; exact List.mem_cons_self⟩
              | io => exact .inr ⟨.inr rfl, by rw [hfx]; rfl⟩
            cases ta with
            | nil => cases hfl
            | @cons w0 vs' t0 ts' fp0 fl' to rest =>
              have hw0 : w0 = .ref a := Option.some.inj hv0
              subst hw0
              obtain ⟨tl0, hf0, hn0⟩ : ∃ tl0, fp0 = a :: tl0 ∧ a ∉ tl0 := by
                have rp := to.rep
                have hl0 : isLst t0.d = true := hfl
                cases hsd : t0.d with
                | lst l =>
                  rw [hsd] at rp
                  cases rp with
                  | lst _ _ n => exact ⟨_, rfl, n⟩
                | _ => rw [hsd] at hl0; cases hl0
              have oth : ∀ (j : Nat) (fq : List Addr), fl'[j]? = some fq → a ∉ fq := fun j fq hj m => by
                obtain ⟨v, t, _, h1, tj⟩ := rest.fl hj
                exact hk3 (mem_union (ts := ts') h1 (tj.cl x a ca m))
              have Fx : ∀ b, b ∈ (fp0 :: fl').flatten → ∀ i, i ≠ x → clm δ fps i b → i ∈ (unionS (t0 :: ts')).filter (· != x) := fun b m i hi c => by
                rw [List.mem_filter]
                exact ⟨clF i b c m, by simpa using hi⟩
              refine .inr (.inl ⟨0, a, tl0, d', hio, hcon, by rw [hf0]; rfl, fun j fq hj hf => ?_, hn0, rfl, hd, fun v H' fp tl' kp ro na rp' na' src' hfr hu => ?_⟩)
              · cases j with
                | zero => exact absurd rfl hj
                | succ j => exact oth j fq hf
              · have kp2 : Kp (fun b => b = a ∨ (s.k = .deep ∧ b ∈ tl)) H H' := kp.mono fun b z => .inl z
                have kcase : (if s.k.dp = true then Kd.own else s.k) = s.k ∨ (s.k = .deep ∧ (if s.k.dp = true then Kd.own else s.k) = .own) := by
                  cases hs : s.k <;> simp [Kd.dp]
                have kdp : (if s.k.dp = true then Kd.own else s.k) ≠ .deep := by
                  cases hs : s.k <;> simp [Kd.dp]
                have f2 : FR K g σ H' (mutS δ x d' (if s.k.dp = true then .own else s.k) ((unionS (t0 :: ts')).filter (· != x))) (setF fps x (a :: tl')) :=
                  f.mut e hfx hs0 hsh kcase kp2 rp' na' (fun i b hi c m => by
                    rcases src' b m with z | z
                    · exact Fx b z i hi c
                    · exact (nwc b z i c).elim) (fun z => absurd z kdp) (fun b m => by
                    rcases src' b m with z | z
                    · exact reF b z
                    · exact .inr (.inl (f.back0 b z))) fun b m => by
                    rcases src' b m with z | z
                    · exact prF b z
                    · exact fun y => f.old b y z
                have cl2 : ∀ i b, clm (mutS δ x d' (if s.k.dp = true then .own else s.k) ((unionS (t0 :: ts')).filter (· != x))) (setF fps x (a :: tl')) i b → (i ≠ x ∧ clm δ fps i b) ∨ (i = x ∧ b = a) := fun i b c => by
                  rcases mut_clm e c with z | ⟨rfl, c1⟩
                  · exact .inl z
                  · rcases c1 with ⟨z, _⟩ | ⟨_, m⟩
                    · exact absurd z kdp
                    · exact .inr ⟨rfl, by simpa using m.symm⟩
                have aw2 : ∀ b, H b = none → b ∉ tl' → Away (mutS δ x d' (if s.k.dp = true then .own else s.k) ((unionS (t0 :: ts')).filter (· != x))) (setF fps x (a :: tl')) b := fun b z n j u ej m => by
                  rcases mut_at e ej with ⟨rfl, rfl⟩ | ⟨hj, h1, _⟩
                  · rw [setF_same] at m
                    rcases List.mem_cons.mp m with y | m
                    · subst y
                      obtain ⟨_, y⟩ := f.has ca
                      rw [z] at y; cases y
                    · exact n m
                  · rw [setF_ne hj] at m
                    exact f.out z j u h1 m
                have evm : Ev P Hs δs fpss H' (mutS δ x d' (if s.k.dp = true then .own else s.k) ((unionS (t0 :: ts')).filter (· != x))) (setF fps x (a :: tl')) := by
                  refine ev.trans ⟨kp.mono fun b z => ⟨x, hk2, by rw [z]; exact ca⟩, fun i b c => ?_, fun i hi u eu k => ?_, by rw [List.length_set, kill_len]⟩
                  · rcases cl2 i b c with ⟨_, z⟩ | ⟨rfl, rfl⟩
                    · exact z
                    · exact ca
                  · have hix : i ≠ x := fun z => hk2 (by rw [← z]; exact hi)
                    exact ⟨by rw [set_ne hix]; exact kill_keep eu (by rw [(f.deep i u eu k).2]; simp), setF_ne hix⟩
                refine q v H' _ fp f2 evm (ret_to (F := (fp0 :: fl').flatten) ev.back ro.rep ro.src hF (fun i b c m => ?_) (fun h => ?_) (fun h => ?_) (fun b m => ?_) fun b m => ?_)
                · rcases cl2 i b c with ⟨hi, c1⟩ | ⟨_, rfl⟩
                  · rcases ro.src b m with z | z
                    · exact ⟨z, Fx b z i hi c1⟩
                    · exact (nwc b z i c1).elim
                  · exact absurd m na
                · obtain ⟨n, z⟩ := ro.u h
                  exact ⟨n, fun b m => ⟨z b m, aw2 b (z b m) (hu h b m)⟩⟩
                · obtain ⟨b, bl, h1, h2, h3, h4⟩ := ro.fr h
                  obtain ⟨b2, bl2, h5, h6⟩ := hfr h
                  rw [h1] at h5
                  cases h5
                  exact ⟨b, bl, h1, h2, h3, h4, aw2 b h4 h6⟩
                · rcases ro.src b m with z | z
                  · exact reF b z
                  · exact .inr (.inl (f.back0 b z))
                · rcases ro.src b m with z | z
                  · exact prF b z
                  · exact fun y => f.old b y z
          · cases h
        · cases h
      · cases h
    · cases h
  · rename_i hcon hio
    split at h
    · rename_i t0
      split at h
      · rename_i hu
        rw [Bool.and_eq_true] at hu
        split at h
        · rename_i δ2 he
          simp only [Option.some.injEq, Prod.mk.injEq] at h
          obtain ⟨rfl, rfl⟩ := h
          obtain ⟨e1, e2, e3, e4⟩ := eat_some he
          cases ta with
          | @cons v0 _ _ _ fp0 _ to rest =>
            cases rest with
            | nil =>
              obtain ⟨nd, own⟩ := un_fp to hu.1
              refine .inr (.inr ⟨fp0, hio, hcon, rfl, nd, fun v H' kp rp => ?_⟩)
              have out : ∀ j u a, δ2[j]? = some (some u) → a ∈ fps j → a ∉ fp0 := fun j u a ej m m0 => by
                obtain ⟨d1, d2, d3⟩ := e3 j u ej
                rcases own a m0 with ⟨i, hi, c⟩ | ⟨_, aw⟩
                · by_cases hij : i = j
                  · subst hij; exact d2 hi
                  · exact d3 i hi (f.excl i j u a hij c.clm d1 m).1
                · exact aw j u d1 m
              have cl2 : ∀ i a, clm δ2 fps i a → clm δ fps i a := fun i a ⟨u, ej, h⟩ => ⟨u, (e3 i u ej).1, h⟩
              have f0 : ∀ a ∈ fp0, g.F0 a = none := fun a m => by
                rcases own a m with ⟨i, hi, c⟩ | ⟨z, _⟩
                · obtain ⟨u, ei, hk⟩ := (e1 i hi).2
                  exact f.mine i u a ei (by rw [hk]; exact fun z => nomatch z) c.clm
                · exact f0s a z
              have f2 : FR K g σ H' δ2 fps := by
                refine ⟨by rw [e2]; exact f.len, fun j u ej => ?_, fun j u ej => f.top j u (e3 j u ej).1, fun j u ej => f.io j u (e3 j u ej).1, fun j u a ej k c => f.mine j u a (e3 j u ej).1 k (cl2 j a c), fun j u ej => f.deep j u (e3 j u ej).1, fun i j u a hij c ej m => ?_, fun j u a ej => f.reach j u a (e3 j u ej).1, fun a o h0 => ?_, fun j u a ej => f.priv j u a (e3 j u ej).1, fun a x z => f.old a x (kp.none z)⟩
                · obtain ⟨w, h1, h2⟩ := f.rep j u (e3 j u ej).1
                  exact ⟨w, h1, h2.stay kp fun a m m0 => out j u a ej m m0⟩
                · obtain ⟨q1, q2⟩ := f.excl i j u a hij (cl2 i a c) (e3 j u ej).1 m
                  exact ⟨q1, fun z => q2 (cl2 j a z)⟩
                · rcases f.frame a o h0 with z | ⟨m, xs, ys, rfl, z⟩
                  · rcases kp a o z with y | ⟨m0, _⟩
                    · exact .inl y
                    · rw [f0 a m0] at h0; cases h0
                  · rcases kp a _ z with y | ⟨m0, _⟩
                    · exact .inr ⟨m, xs, ys, rfl, y⟩
                    · rw [f0 a m0] at h0; cases h0
              have ev2 : Ev P Hs δs fpss H' δ2 fps := by
                refine ⟨fun a o h0 => ?_, fun i a c => ev.sub i a (cl2 i a c), fun i hi u eu k => ?_, by rw [e2]; exact ev.len⟩
                · rcases ev.kp a o h0 with z | ⟨m, xs, ys, rfl, z⟩
                  · rcases kp a o z with y | ⟨m0, xs, ys, rfl, y⟩
                    · exact .inl y
                    · rcases own a m0 with ⟨i, hi, c⟩ | ⟨y2, _⟩
                      · exact .inr ⟨⟨i, (e1 i hi).1, ev.sub i a c.clm⟩, xs, ys, rfl, y⟩
                      · rw [y2] at h0; cases h0
                  · rcases kp a _ z with y | ⟨_, xs2, ys2, _, y⟩
                    · exact .inr ⟨m, xs, ys, rfl, y⟩
                    · exact .inr ⟨m, xs, ys2, rfl, y⟩
                · obtain ⟨q1, q2⟩ := ev.deep i hi u eu k
                  refine ⟨e4 i u q1 (fun z => (e1 i z).1 hi) fun y hy => ?_, q2⟩
                  rw [(f.deep i u q1 k).2]
                  simp
              exact q v H' fps [] f2 ev2 (.scal rp)
        · cases h
      · cases h
    · cases h
  · cases h
end
end PP

/-! PPSoundE: every expression that the evaluator serves does what it says. -/
namespace PP
open PySem PySem.Spec PyProof.Rows L2
/-- the built-in names that the evaluator serves -/
def boots : List Str := ["len", "abs", "int", "repr", "list", "all", "any", "sum", "max", "min", "zip", "isinstance", "range", "enumerate", "bool", "str", "tuple", "dict"]
/-- where the code runs -/
structure Wd (X : Cx) (c : Cn) (C : Calls) (G : Sigs) : Prop where
  calm : X.calm = true
  N : X.N = c.N
  nd : X.N.Nodup
  units : X.A.units + 70 < cLine
  guards : X.A.guards = some []
  blt : ∀ x, c.gd.contains x = false → c.gc.lookup x = none → boots.contains x = true → X.mg x = none
  con : ∀ x d, c.gd.contains x = false → c.gc.lookup x = some d → ∃ u v, X.mg x = some u ∧ RelV v u ∧ ∀ H, Rp X.K H v d []
  calls : ∀ f g, c.gd.contains f = true → G f = some g → ∃ k, Room k X.A ∧ CallOk X.prog X.w X.K X.mg X.base k f g (C f)
theorem Wd.blk {X : Cx} {c : Cn} {C : Calls} {G : Sigs} (h : Wd X c C G) (s : Shared) (H : Hp) (scope : Scope) (cenv : Env) (fp : List Addr) : Wd (X.blk s H scope cenv fp) c C G :=
  ⟨h.calm, h.N, h.nd, h.units, h.guards, h.blt, h.con, h.calls⟩
def isWalk : E → Bool
  | .walk _ => true
  | _ => false
theorem itOf_seq {b : Bool} {p : E} (h : isWalk p = false) : itOf b p = .seq p := by
  cases p <;> first | rfl | (simp [isWalk] at h)
section
variable {X : Cx} {c : Cn} {sc : Scope} {C : Calls} {G : Sigs}
theorem gl_of (hs : X.env.scope = sc) {x : Str} (h : gloIn sc x = true) : Gl X x := by
  unfold gloIn at h
  split at h
  · rename_i e
    show X.env.scope.names.lookup x = _
    rw [hs]; exact e
  · cases h
/-- the three readings of an expression -/
structure Ok3 (X : Cx) (C : Calls) (G : Sigs) (e : PE_) (p : E) : Prop where
  pe : PE X e (tE X.K C G p)
  pt : PT X e (tT X.K C G p)
  pi : ∀ tg, PI X tg e (tI X.K C G (itOf (isTupE tg) p))
theorem ok_never {e : PE_} : Ok3 X C G e .never := ⟨pe_never, pt_never, fun tg => pi_never⟩
theorem ok_of {e : PE_} {p : E} (h : PE X e (tE X.K C G p)) (t : PT X e (tT X.K C G p)) (w : isWalk p = false) : Ok3 X C G e p := ⟨h, t, fun tg => by rw [itOf_seq w]; exact pi_sq h⟩
theorem ok_val {e : PE_} {p : E} (h : PE X e (tE X.K C G p)) (w : isWalk p = false) (he : ∀ whole, isTrue e X.env whole = (do let v ← whole; standAt e.pos; holding [v] (truthy v))) : Ok3 X C G e p := ok_of h (pt_val h he) w
theorem pe_walk {e : PE_} {it : PP.It} : PE X e (tE X.K C G (.walk it)) := ⟨fun pins s σ H Q I h => by
  obtain ⟨g, P, δ, fps, t, δ', f, h, _⟩ := h
  simp [evE] at h⟩
theorem pt_walk {e : PE_} {it : PP.It} : PT X e (tT X.K C G (.walk it)) := ⟨fun pins s σ H Q I h => by
  obtain ⟨g, P, δ, fps, t, δ', b, f, h, _⟩ := h
  simp [evE] at h⟩
theorem tup_of {tg : PE_} (h : isTupE tg = true) : ∃ es k p, tg = .Tuple es k p := by
  cases tg <;> first | exact ⟨_, _, _, rfl⟩ | (simp [isTupE] at h)
theorem fold_of {e : PE_} (h : isSet e = false) (env : Env) : ∀ x, foldedSetIterable e env x = pure x := by
  intro x
  cases e <;> first | rfl | (simp [isSet] at h)
theorem stEs_len (c : Cn) (sc : Scope) : ∀ es : List PE_, (stEs c sc es).len = es.length
  | [] => by simp only [stEs]; rfl
  | e :: es => by simp only [stEs, Es.len, stEs_len c sc es, List.length_cons]
theorem stEs_nil {es : List PE_} (h : es = []) : stEs c sc es = .nil := by subst h; simp only [stEs]
/-- a call of the text's function, by places -/
theorem pe_fn {x : Str} {p0 pos : Pos} {es : List PE_} (W : Wd X c C G) (hs : X.env.scope = sc) (gl : Gl X x) (hgd : c.gd.contains x = true) (hdb : (x == ("__debug__" : Str)) = false) (hst : es.any isStar = false) (ha : PA X es (tAs X.K C G (stEs c sc es))) (hr : ∀ e r, es = e :: r → PA X r (tAs X.K C G (stEs c sc r))) :
    PE X (.Call (.Name x p0) es [] pos) (tE X.K C G (.call x (fstOf c sc es) (stEs c sc es) .nil)) := by
  constructor
  intro pins s σ H Q I h
  obtain ⟨g, P, δ, fps, t, δ', f, h, qq⟩ := h
  simp only [evE] at h
  split at h
  · rename_i ts δ1 e1
    simp only [evKs] at h
    unfold doCall at h
    split at h
    · cases h
    · rename_i sg hsg
      split at h
      · cases h
      · rename_i ar hbp
        split at h
        · cases h
        · rename_i r hC
          obtain ⟨k, rm, ck⟩ := W.calls x sg hgd hsg
          obtain ⟨fa, fd, hm, hk, F, hb1, hb2⟩ := ck.ok
          simp only [bindP, List.isEmpty_nil, if_true] at hbp
          split at hbp
          · rename_i hlen
            simp only [Option.some.injEq] at hbp
            subst hbp
            have base : ∀ vs H2 fps2 fl, FR X.K g σ H2 δ1 fps2 → Ev P H δ fps H2 δ1 fps2 → TOs X.K g H2 δ1 fps2 H2 H vs ts fl → (∀ y, fstOf c sc es = some y → ∃ v, vs[0]? = some v ∧ σ[y]? = some (some v)) → spF X.K sg (C x) vs H2 Q := fun vs H2 fps2 fl f2 ev2 tos hv =>
              call_ok f2 ev2 f.back0 (tos.ta fun _ z => z) hv hC hlen h qq
            have hstar : ∀ e r, es = e :: r → isStar e = false ∧ r.any isStar = false := fun e r z => by
              rw [z] at hst
              simpa [List.any_cons, Bool.or_eq_false_iff] using hst
            by_cases hf : ∃ y, fstOf c sc es = some y
            · obtain ⟨y, hy⟩ := hf
              have hes : ∃ z pz r, es = .Name z pz :: r ∧ slotOf c sc z = some y := by
                unfold fstOf at hy
                split at hy
                · exact ⟨_, _, _, rfl, hy⟩
                · cases hy
              obtain ⟨z, pz, rr, rfl, hz⟩ := hes
              obtain ⟨n1, n2, n3⟩ := slotOf_ok hz
              rw [← W.N] at n1
              rw [← hs] at n2
              obtain ⟨o1, o2⟩ := okName_ok n3
              have pv : PE X (.Name z pz) (tVar y) := pe_var n1 n2 o1 o2
              have pr := hr _ _ rfl
              have hstE : stE c sc (.Name z pz) = .var y := by simp only [stE]; unfold nameE; rw [hz]
              have pa : PA X (.Name z pz :: rr) (tCons (tVar y) (tAs X.K C G (stEs c sc rr))) := pa_cons pv pr (star_one rfl)
              simp only [stEs, hstE, evEs, evE] at e1
              split at e1
              · rename_i t0 δ0 e0
                split at e0
                · rename_i t0' er
                  simp only [Option.some.injEq, Prod.mk.injEq] at e0
                  obtain ⟨rfl, rfl⟩ := e0
                  split at e1
                  · rename_i ts' δ2 e2
                    simp only [Option.some.injEq, Prod.mk.injEq] at e1
                    obtain ⟨rfl, rfl⟩ := e1
                    have fin : ∀ (s1 : Shared) (H1 : Hp) (us : List Value) (vs : List V), L2.Inv X pins σ H1 s1 → Vals vs us → spF X.K sg (C x) vs H1 Q → wpAny (model X.prog X.w) X.A (call (.ref fa) us) (EP X pins σ Q) X.xe s1 := fun s1 H1 us vs I1 r q =>
                      run_g F rm W.guards I1 (hb1 s1 us (by rw [← r.length]; exact F.len _ _ _ q)) r q
                    refine wpAny_Call_Name_kw (ld_glob I gl hm ?_ hdb)
                    refine PySem.W.callWith_K (h₀ := X.base) I.ok.mod.kin hk (thn (pa.run pos pins s σ H (fun vs H1 => spF X.K sg (C x) vs H1 Q) I ?_) fun us s1 ⟨vs, H1, I1, r, q⟩ => ⟨I1.kIn, fin s1 H1 us vs I1 r q⟩) (star_one rfl) (star_back (hstar _ _ rfl).2)
                    obtain ⟨v, hv, to⟩ := f.read (Hs := H) (g := g) er
                    refine ⟨v, hv, g.hide δ fps (fps y), _, δ, fps, ts', _, f.hide to.ex, e2, fun vs H2 fps2 fl f2 ev2 tos => ?_⟩
                    refine base (v :: vs) H2 fps2 (fps y :: fl) f2.shown (ev2.mono mem_l) (.cons (to.later ev2 f2 mem_r) (fun _ z => z) to.ex tos.shown) fun y' hy' => ?_
                    rw [hy] at hy'
                    cases hy'
                    exact ⟨v, rfl, hv⟩
                  · cases e1
                · cases e0
              · cases e1
            · refine (pe_pos F rm W.guards gl hm hk hdb hb1 ha hst fun z => stEs_nil z).run pins s σ H Q I ⟨g, P, δ, fps, ts, δ1, f, e1, fun vs H2 fps2 fl f2 ev2 tos => base vs H2 fps2 fl f2 ev2 tos fun y hy => absurd ⟨y, hy⟩ hf⟩
          · cases hbp
  · cases h
theorem ks_names (c : Cn) (sc : Scope) : ∀ (ks : List Keyword), (ks.all fun q => q.arg.isSome) = true → ∀ {P : List Nat} {δ δ' : PP.St} {ts : List (Str × Tm)}, evKs C G P (stKs c sc ks) δ = some (ts, δ') → ts.map (·.1) = ks.filterMap (·.arg)
  | [], _, P, δ, δ', ts, h => by
    simp only [stKs, evKs, Option.some.injEq, Prod.mk.injEq] at h
    rw [← h.1]; rfl
  | ⟨none, e, p⟩ :: ks, ha, _, _, _, _, _ => by simp at ha
  | ⟨some x, e, p⟩ :: ks, ha, P, δ, δ', ts, h => by
    simp only [stKs, evKs] at h
    split at h
    · rename_i t δ1 e1
      split at h
      · rename_i ts' δ2 e2
        simp only [Option.some.injEq, Prod.mk.injEq] at h
        rw [← h.1]
        have := ks_names c sc ks (by simpa using ha) e2
        simp [this]
      · cases h
    · cases h
theorem lookup_ta {K : Fg} {g : Gh} {Hs H : Hp} {δ : PP.St} {fps : Nat → List Addr} : ∀ {ks : List (Str × Tm)} {vs : List V} {fl : List (List Addr)}, TAs K g Hs H δ fps vs (ks.map (·.2)) fl → ∀ {p : Str} {t : Tm}, ks.lookup p = some t → ∃ v fp, ((ks.map (·.1)).zip vs).lookup p = some v ∧ TO K g Hs H δ fps v t fp
  | [], _, _, _, p, t, h => by simp at h
  | (k, u) :: ks, _, _, .cons x r, p, t, h => by
    simp only [List.map_cons, List.zip_cons_cons, List.lookup_cons] at h ⊢
    split at h
    · simp only [Option.some.injEq] at h
      subst h
      exact ⟨_, _, rfl, x⟩
    · exact lookup_ta r h
theorem reorder_ta {K : Fg} {g : Gh} {Hs H : Hp} {δ : PP.St} {fps : Nat → List Addr} {ks : List (Str × Tm)} {vs : List V} {fl : List (List Addr)} (ta : TAs K g Hs H δ fps vs (ks.map (·.2)) fl) : ∀ {ps : List Str} {ar : List Tm}, (ps.mapM fun p => ks.lookup p) = some ar → ∃ ws fm, (ps.mapM fun p => ((ks.map (·.1)).zip vs).lookup p) = some ws ∧ TAs K g Hs H δ fps ws ar fm ∧ ar.length = ps.length
  | [], ar, h => by
    simp only [List.mapM_nil, Option.pure_def, Option.some.injEq] at h
    subst h
    exact ⟨[], [], rfl, .nil, rfl⟩
  | p :: ps, ar, h => by
    simp only [List.mapM_cons, Option.bind_eq_bind, Option.bind_eq_some_iff, Option.pure_def, Option.some.injEq] at h
    obtain ⟨t, h1, tr, h2, rfl⟩ := h
    obtain ⟨v, fp, g1, g2⟩ := lookup_ta ta h1
    obtain ⟨ws, fm, g3, g4, g5⟩ := reorder_ta ta h2
    exact ⟨v :: ws, fp :: fm, by simp [List.mapM_cons, g1, g3], .cons g2 g4, by simp [g5]⟩
/-- .. by names -/
theorem pe_fnk {x : Str} {p0 pos : Pos} {ks : List Keyword} (W : Wd X c C G) (gl : Gl X x) (hgd : c.gd.contains x = true) (hdb : (x == ("__debug__" : Str)) = false) (hne : ks.isEmpty = false) (hall : (ks.all fun q => q.arg.isSome) = true) (ha : PK X ks (tKs X.K C G (stKs c sc ks))) :
    PE X (.Call (.Name x p0) [] ks pos) (tE X.K C G (.call x none .nil (stKs c sc ks))) := by
  constructor
  intro pins s σ H Q I h
  obtain ⟨g, P, δ, fps, t, δ', f, h, qq⟩ := h
  simp only [evE, evEs, unionS, List.flatMap_nil, List.append_nil] at h
  split at h
  · rename_i kt δ1 e1
    unfold doCall at h
    split at h
    · cases h
    · rename_i sg hsg
      split at h
      · cases h
      · rename_i ar hbp
        split at h
        · cases h
        · rename_i r hC
          obtain ⟨k, rm, ck⟩ := W.calls x sg hgd hsg
          obtain ⟨fa, fd, hm, hk, F, hb1, hb2⟩ := ck.ok
          have hn := ks_names c sc ks hall e1
          have hkne : kt.isEmpty = false := by
            cases kt with
            | nil =>
              cases ks with
              | nil => cases hne
              | cons q ks =>
                obtain ⟨nm, e, p⟩ := q
                cases nm with
                | none => simp at hall
                | some x => simp at hn
            | cons _ _ => rfl
          unfold bindP at hbp
          rw [hkne] at hbp
          simp only [Bool.false_eq_true, if_false, List.isEmpty_nil, Bool.true_and] at hbp
          split at hbp
          · rename_i hkw
            have hkw' : kt.map (·.1) ∈ sg.kw := by simpa using hkw
            refine (pe_kw F rm W.guards gl hm hk hdb (ks := kt.map (·.1)) hn.symm (fun q hq => by
              have := List.all_eq_true.mp hall q hq
              exact this) (hb2 _ hkw') ha).run pins s σ H Q I ⟨g, P, δ, fps, kt, δ1, f, e1, fun vs H2 fps2 fl f2 ev2 tos => ?_⟩
            obtain ⟨ws, fm, g1, g2, g3⟩ := reorder_ta (tos.ta fun _ z => z) hbp
            exact ⟨by rw [tos.length.1]; simp, ws, g1, call_ok f2 ev2 f.back0 g2 (fun y hy => by cases hy) hC g3 h qq⟩
          · cases hbp
  · cases h
end
end PP

/-! PPZipA: zip(a, b, strict=True): how it is made. -/
namespace PP
open PySem PySem.Spec PyProof.Rows
/-- a zip's own record; b: strict -/
abbrev ZipS (h : Heap) (z ti to : Addr) (free : Value) : Prop := h.get? z = some { cls := .type "zip", dict := none, data := .fields #[free, .bool false, .bool true, .ref ti, .ref to], slots := #[] }
abbrev zs1 (h : Heap) (p q : Obj) : Heap := (h.push p).push q
abbrev zs2 (h : Heap) (p q : Obj) : Heap := (zs1 h p q).push { cls := .type "tuple", data := .seq #[.ref h.objs.size, .ref (h.push p).objs.size] }
abbrev zs3 (h : Heap) (p q : Obj) : Heap := (zs2 h p q).push { cls := .type "tuple", data := .seq #[.none, .none] }
abbrev zs4 (h : Heap) (p q : Obj) : Heap := (zs3 h p q).push { cls := .type "zip", data := .fields #[.none, .bool false, .bool true, .ref (zs1 h p q).objs.size, .ref (zs2 h p q).objs.size] }
theorem tyc_zip (a b c : Value) : checkTypeCall "zip" ⟨[a, b], [(Str.ofString "strict", c)]⟩ = pure () := by kernel_rfl
theorem newc_zip (a b c : Value) : checkBuiltinCall "zip.__new__" ⟨[.type "zip", a, b], [(Str.ofString "strict", c)]⟩ = pure () := by kernel_rfl
theorem init_zip (obj a b c : Value) : argsOk "object.__init__" ⟨[obj, a, b], [(Str.ofString "strict", c)]⟩ := by unfold argsOk; kernel_rfl
theorem new_zipS {u v : Value} {p q : Obj} {Ku Kv : Heap → Prop} (U : Begins u p Ku) (V : Begins v q Kv) :
    Meets (Builtin.«zip.__new__» ⟨[.type "zip", u, v], [(Str.ofString "strict", .bool true)]⟩) (fun _ R s => (Ku s.heap ∧ Kv s.heap) ∧ R (.ok (.ret (.ref (zs3 s.heap p q).objs.size))) { s with heap := zs4 s.heap p q }) :=
  .of_wp fun prog w A R s h => by
    obtain ⟨hp, gg, dr, tk, os⟩ := s
    obtain ⟨⟨ku, kv⟩, h⟩ := h
    have hsub := sub_zip
    have i1 : ∀ {B : Around} {E : Value → Shared → Prop} {Q : Value → Shared → Prop}, Q (.ref hp.objs.size) ⟨hp.push p, gg, dr, tk, os⟩ → wpAny (model prog w) B (pyIter u) Q E ⟨hp, gg, dr, tk, os⟩ := fun z => U.iter prog w _ _ _ _ ku z
    have i2 : ∀ {B : Around} {E : Value → Shared → Prop} {Q : Value → Shared → Prop}, Q (.ref (hp.push p).objs.size) ⟨zs1 hp p q, gg, dr, tk, os⟩ → wpAny (model prog w) B (pyIter v) Q E ⟨hp.push p, gg, dr, tk, os⟩ := fun z =>
      V.iter prog w _ _ ⟨hp.push p, gg, dr, tk, os⟩ _ (V.keeps _ _ kv fun b o e => Heap.get?_push_of_some _ e) z
    have n1 : (Str.ofString "strict" == ("strict" : Str)) = true := by decide +kernel
    have n2 : (Str.ofString "strict" != ("strict" : Str)) = false := by decide +kernel
    wp_walk using i1, i2
    exact ⟨_, rfl, h⟩
section
variable {prog : Program} {w : World} {A : Around} {E : Value → Shared → Prop} {s : Shared}
theorem zipS_made {u v : Value} {p q : Obj} {Ku Kv : Heap → Prop} {Q : Value → Shared → Prop} (U : Begins u p Ku) (V : Begins v q Kv) (ku : Ku s.heap) (kv : Kv s.heap)
    (h : ∀ h', ZipS h' (s.heap.objs.size + 4) (s.heap.objs.size + 2) (s.heap.objs.size + 3) .none → IsPair h' (s.heap.objs.size + 2) (.ref s.heap.objs.size) (.ref (s.heap.objs.size + 1)) → IsPair h' (s.heap.objs.size + 3) .none .none →
      h'.get? s.heap.objs.size = some p → h'.get? (s.heap.objs.size + 1) = some q → h'.objs.size = s.heap.objs.size + 5 → (∀ c o, s.heap.get? c = some o → h'.get? c = some o) → Q (.ref (s.heap.objs.size + 4)) { s with heap := h' }) :
    wpAny (model prog w) A (call (.type "zip") [u, v] [(Str.ofString "strict", .bool true)]) Q E s := by
  refine callType_newKw F.called_zip (by decide) (tyc_zip _ _ _) (newc_zip _ _ _) (fun obj => init_zip obj _ _ _) F.entry_zip_new (new_zipS U V) ⟨⟨ku, kv⟩, ?_⟩
  generalize hn : s.heap.objs.size = n at h
  have a1 : (s.heap.push p).objs.size = n + 1 := by rw [Heap.size_push, hn]
  have a2 : (zs1 s.heap p q).objs.size = n + 2 := by rw [Heap.size_push, a1]
  have a3 : (zs2 s.heap p q).objs.size = n + 3 := by rw [Heap.size_push, a2]
  have a4 : (zs3 s.heap p q).objs.size = n + 4 := by rw [Heap.size_push, a3]
  have a5 : (zs4 s.heap p q).objs.size = n + 5 := by rw [Heap.size_push, a4]
  have up : ∀ {h0 : Heap} {o' : Obj} {c : Addr} {o : Obj}, h0.get? c = some o → (h0.push o').get? c = some o := fun e => Heap.get?_push_of_some _ e
  have g4 : (zs4 s.heap p q).get? (zs3 s.heap p q).objs.size = some { cls := .type "zip", data := .fields #[.none, .bool false, .bool true, .ref (zs1 s.heap p q).objs.size, .ref (zs2 s.heap p q).objs.size] } := Heap.get?_push_size _ rfl
  have g3 : (zs4 s.heap p q).get? (zs2 s.heap p q).objs.size = some { cls := .type "tuple", data := .seq #[.none, .none] } := up (Heap.get?_push_size _ rfl)
  have g2 : (zs4 s.heap p q).get? (zs1 s.heap p q).objs.size = some { cls := .type "tuple", data := .seq #[.ref s.heap.objs.size, .ref (s.heap.push p).objs.size] } := up (up (Heap.get?_push_size _ rfl))
  have g1 : (zs4 s.heap p q).get? (s.heap.push p).objs.size = some q := up (up (up (Heap.get?_push_size _ V.free)))
  have g0 : (zs4 s.heap p q).get? s.heap.objs.size = some p := up (up (up (up (Heap.get?_push_size _ U.free))))
  rw [a4, a3, a2] at g4
  rw [a3] at g3
  rw [a2, a1, hn] at g2
  rw [a1] at g1
  rw [hn] at g0
  show _ ∧ _
  rw [a4]
  exact ⟨⟨_, g4, rfl⟩, h _ g4 g2 g3 g0 g1 a5 fun c o e => up (up (up (up (up e))))⟩
end
end PP

/-! PPZipB: a strict zip's turns. -/
namespace PP
open PySem PySem.Spec PyProof.Rows
/-- an iterator at i over what stands at l: at turn k, St; what stands, Sq -/
structure Drw (i l : Addr) (xs : Array Value) (St : Heap → Nat → Prop) (Sq : Heap → Prop) : Prop where
  st : ∀ {h h' : Heap} {k : Nat} {a : Addr}, St h k → Heap.ExtBut a h h' → i ≠ a → St h' k
  sq : ∀ {h h' : Heap} {a : Addr}, Sq h → Heap.ExtBut a h h' → l ≠ a → Sq h'
  at_ : ∀ {h h' : Heap} {k : Nat}, St h k → (∀ o, h.get? i = some o → h'.get? i = some o) → St h' k
  ob : ∀ {h : Heap} {k : Nat}, St h k → ∃ o, h.get? i = some o ∧ ∀ v, o.data ≠ .cell v
  item : ∀ {prog : Program} {w : World} {A : Around} {E : Value → Shared → Prop} {s : Shared} {k : Nat} {x : Value} {Q : Value → Shared → Prop}, St s.heap k → Sq s.heap → xs[k]? = some x → (∀ h', St h' (k + 1) → Heap.SameBut i s.heap h' → Q x { s with heap := h' }) → wpAny (model prog w) A (Builtin.SmallTypes.nextOf (.ref i)) Q E s
  stop : ∀ {prog : Program} {w : World} {A : Around} {E : Value → Shared → Prop} {s : Shared} {k : Nat} {Q : Value → Shared → Prop}, A.handled = none → St s.heap k → Sq s.heap → xs[k]? = none → (∀ h' e, Heap.ExtBut i s.heap h' → (∃ o, h'.get? e = some o ∧ o.cls = .type "StopIteration") → E (.ref e) { s with heap := h' }) → wpAny (model prog w) A (Builtin.SmallTypes.nextOf (.ref i)) Q E s
theorem drw_list (i l : Addr) (xs : Array Value) : Drw i l xs (fun h k => h.IsListIter i l k) (fun h => h.IsList l xs) where
  st := fun h e n => h.extBut e n
  sq := fun h e n => h.extBut e n
  at_ := fun h k => h.at fun o e => k o e
  ob := fun ⟨o, e, _, d⟩ => ⟨o, e, fun v z => by rw [d] at z; cases z⟩
  item := fun h q x k => wpAny_nextOf_list_item h q x k
  stop := fun hh h q x k => wpAny_nextOf_list_end hh h q x k
theorem drw_tup (i l : Addr) (xs : Array Value) : Drw i l xs (fun h k => h.IsTupleIter i l k) (fun h => h.IsTuple l xs) where
  st := fun h e n => h.extBut e n
  sq := fun h e n => h.extBut e n
  at_ := fun h k => h.at fun o e => k o e
  ob := fun ⟨o, e, _, d⟩ => ⟨o, e, fun v z => by rw [d] at z; cases z⟩
  item := fun h q x k => RZ.nextOf_tuple_item h q x k
  stop := fun hh h q x k => RZ.nextOf_tuple_end hh h q x k
section
variable {prog : Program} {w : World} {A : Around} {E : Value → Shared → Prop} {s : Shared} {i l : Addr} {xs : Array Value} {St : Heap → Nat → Prop} {Sq : Heap → Prop} {k : Nat}
theorem draw_item {x : Value} {Q : Option Value → Shared → Prop} (D : Drw i l xs St Sq) (h : St s.heap k) (q : Sq s.heap) (hx : xs[k]? = some x) (hQ : ∀ h', St h' (k + 1) → Heap.SameBut i s.heap h' → Q (some x) { s with heap := h' }) :
    wpAny (model prog w) A (Builtin.SmallTypes.nextOrEnd (.ref i)) Q E s := by
  unfold Builtin.SmallTypes.nextOrEnd
  exact wpAny_bind (wpAny_attempt (D.item h q hx fun h' a b => wpAny_pure (hQ h' a b)))
theorem draw_end {Q : Option Value → Shared → Prop} (D : Drw i l xs St Sq) (hh : A.handled = none) (h : St s.heap k) (q : Sq s.heap) (hx : xs[k]? = none) (hQ : ∀ h', Heap.ExtBut i s.heap h' → Q none { s with heap := h' }) :
    wpAny (model prog w) A (Builtin.SmallTypes.nextOrEnd (.ref i)) Q E s := by
  unfold Builtin.SmallTypes.nextOrEnd
  refine wpAny_bind (wpAny_attempt (D.stop hh h q hx fun h' e ext ⟨o, ho, hc⟩ => ?_))
  refine wpAny_bind (wpAny_isInstance (T := "StopIteration") (b := true) ⟨o, ho, hc⟩ isSubtype_stop ?_)
  exact wpAny_pure (hQ h' ext)
/-- apart -/
structure Apt (z ti to i j l m : Addr) : Prop where
  tiz : ti ≠ z
  toz : to ≠ z
  iz : i ≠ z
  jz : j ≠ z
  tit : ti ≠ to
  tii : ti ≠ i
  tij : ti ≠ j
  toi : to ≠ i
  toj : to ≠ j
  ij : i ≠ j
  lz : l ≠ z
  lt : l ≠ to
  li : l ≠ i
  lj : l ≠ j
  mz : m ≠ z
  mt : m ≠ to
  mi : m ≠ i
  mj : m ≠ j
variable {z ti to j m : Addr} {ys : Array Value} {St' : Heap → Nat → Prop} {Sq' : Heap → Prop} {a b : Value}
theorem zs_item {x y : Value} {Q : Value → Shared → Prop} (D : Drw i l xs St Sq) (D' : Drw j m ys St' Sq') (P : Apt z ti to i j l m) (hz : ZipS s.heap z ti to .none) (hti : IsPair s.heap ti (.ref i) (.ref j)) (hto : IsPair s.heap to a b)
    (h1 : St s.heap k) (h2 : St' s.heap k) (q1 : Sq s.heap) (q2 : Sq' s.heap) (hx : xs[k]? = some x) (hy : ys[k]? = some y)
    (hQ : ∀ h', ZipS h' z ti to (rawInt s.heap.objs.size) → IsPair h' to x y → St h' (k + 1) → St' h' (k + 1) → IsPair h' s.heap.objs.size x y → h'.objs.size = s.heap.objs.size + 1 →
      (∀ c o, c ≠ z → c ≠ to → c ≠ i → c ≠ j → s.heap.get? c = some o → h'.get? c = some o) → Q (.ref s.heap.objs.size) { s with heap := h' }) :
    wpAny (model prog w) A (Builtin.«zip.__next__» ⟨[.ref z], []⟩) (fun fin s' => ∃ v, fin = .done (.ret v) ∧ Q v s') E s := by
  show wpAny _ _ (field (.ref z) 2 >>= _) _ _ _
  refine wpAny_bind (wpAny_field hz rfl (x := Value.bool true) rfl ?_)
  show wpAny _ _ (field (.ref z) 3 >>= _) _ _ _
  refine wpAny_bind (wpAny_field hz rfl (x := Value.ref ti) rfl ?_)
  refine wpAny_bind (wpAny_seqItems hti rfl ?_)
  show wpAny _ _ (Builtin.SmallTypes.ownedTupleIsFree (.ref z) >>= _) _ _ _
  unfold Builtin.SmallTypes.ownedTupleIsFree
  refine wpAny_bind (wpAny_bind (wpAny_field hz rfl (x := Value.none) rfl (wpAny_pure ?_)))
  simp only [if_true]
  refine wpAny_bind (wpAny_rule (wpAny_bind (wpAny_field hz rfl (x := Value.ref to) rfl ?_)))
  refine wpAny_bind (wpAny_setField_rec hz (by simp) fun g1 z1 b1 => ?_)
  replace z1 : ZipS g1 z ti to .ellipsis := z1
  simp only [List.zipIdx_cons, List.zipIdx_nil, List.forIn_cons, List.forIn_nil]
  refine wpAny_bind (wpAny_bind (wpAny_bind (wpAny_onRaise ?_)))
  show wpAny _ _ (Builtin.SmallTypes.nextOrEnd (.ref i)) _ _ _
  refine draw_item D (D.st h1 b1.extBut P.iz) (D.sq q1 b1.extBut P.lz) hx fun g2 s2 b2 => ?_
  have t2 : IsPair g2 to a b := b2.extBut _ _ P.toi (b1.extBut _ _ P.toz hto)
  refine wpAny_bind (wpAny_seqItems t2 rfl ?_)
  refine wpAny_bind (wpAny_updateSeq_pair t2 fun g3 t3 b3 => ?_)
  replace t3 : IsPair g3 to x b := t3
  refine wpAny_bind (wpAny_letGo (wpAny_pure ?_))
  refine wpAny_bind (wpAny_bind (wpAny_onRaise ?_))
  show wpAny _ _ (Builtin.SmallTypes.nextOrEnd (.ref j)) _ _ _
  refine draw_item D' (D'.st (D'.st (D'.st h2 b1.extBut P.jz) b2.extBut P.ij.symm) b3.extBut P.toj.symm) (D'.sq (D'.sq (D'.sq q2 b1.extBut P.mz) b2.extBut P.mi) b3.extBut P.mt) hy fun g4 s4 b4 => ?_
  have t4 : IsPair g4 to x b := b4.extBut _ _ P.toj t3
  refine wpAny_bind (wpAny_seqItems t4 rfl ?_)
  refine wpAny_bind (wpAny_updateSeq_pair t4 fun g5 t5 b5 => ?_)
  replace t5 : IsPair g5 to x y := t5
  refine wpAny_bind (wpAny_letGo (wpAny_pure (wpAny_pure ?_)))
  refine wpAny_bind (wpAny_seqItems t5 rfl (wpAny_bind (wpAny_newTuple ?_)))
  have sz : g5.objs.size = s.heap.objs.size := by rw [b5.1, b4.1, b3.1, b2.1, b1.1]
  have z5 : ZipS g5 z ti to .ellipsis := b5.extBut _ _ P.toz.symm (b4.extBut _ _ P.jz.symm (b3.extBut _ _ P.toz.symm (b2.extBut _ _ P.iz.symm z1)))
  have keep5 : ∀ c o, c ≠ z → c ≠ to → c ≠ i → c ≠ j → s.heap.get? c = some o → g5.get? c = some o := fun c o n1 n2 n3 n4 e => b5.extBut _ _ n2 (b4.extBut _ _ n4 (b3.extBut _ _ n2 (b2.extBut _ _ n3 (b1.extBut _ _ n1 e))))
  have i5 : St g5 (k + 1) := D.st (D.st (D.st s2 b3.extBut P.toi.symm) b4.extBut P.ij) b5.extBut P.toi.symm
  have j5 : St' g5 (k + 1) := D'.st s4 b5.extBut P.toj.symm
  have zlt : z < g5.objs.size := Heap.lt_size z5
  show wpAny _ _ (Builtin.SmallTypes.ownedTupleHandOut (.ref z) (.ref g5.objs.size) >>= _) _ _ _
  unfold Builtin.SmallTypes.ownedTupleHandOut
  have z6 : ZipS (g5.push { cls := .type "tuple", data := .seq #[x, y] }) z ti to .ellipsis := Heap.get?_push_of_some _ z5
  refine wpAny_bind (wpAny_bind (wpAny_setField_rec z6 (by simp) fun g7 z7 b7 => ?_))
  replace z7 : ZipS g7 z ti to (rawInt g5.objs.size) := z7
  refine wpAny_setField_rec z7 (by simp) fun g8 z8 b8 => ?_
  replace z8 : ZipS g8 z ti to (rawInt g5.objs.size) := z8
  have up : ∀ c o, c ≠ z → g5.get? c = some o → g8.get? c = some o := fun c o n e => b8.extBut _ _ n (b7.extBut _ _ n (Heap.get?_push_of_some _ e))
  have pr8 : IsPair g8 g5.objs.size x y := b8.extBut _ _ (Nat.ne_of_gt zlt) (b7.extBut _ _ (Nat.ne_of_gt zlt) (Heap.get?_push_size _ rfl))
  have sz8 : g8.objs.size = g5.objs.size + 1 := by rw [b8.1, b7.1, Heap.size_push]
  rw [sz] at z8 pr8 sz8
  refine wpAny_pure ⟨_, rfl, ?_⟩
  show Q (.ref g5.objs.size) _
  rw [sz]
  exact hQ g8 z8 (up _ _ P.toz t5) (D.at_ i5 fun o e => up _ o P.iz e) (D'.at_ j5 fun o e => up _ o P.jz e) pr8 sz8 fun c o n1 n2 n3 n4 e => up c o n1 (keep5 c o n1 n2 n3 n4 e)
/-- StopIteration, raised -/
theorem stopped {α : Type} {Q : α → Shared → Prop} (hh : A.handled = none) (hE : ∀ h' e, (∀ c o, s.heap.get? c = some o → h'.get? c = some o) → (∃ o, h'.get? e = some o ∧ o.cls = .type "StopIteration") → E (.ref e) { s with heap := h' }) : wpAny (model prog w) A (Builtin.SmallTypes.stopIteration : Sem α) Q E s := by
  unfold Builtin.SmallTypes.stopIteration
  refine wpAny_bind ?_
  simp only [newExc, newTuple]
  refine wpAny_bind (wpAny_newObj_type ?_ (by size_fits))
  refine wpAny_bind (m := firstArgMember _ _) (wpAny_of_eq (a := Value.none) (by first | rfl | (simp only [firstArgMember]; rfl)) ?_)
  refine wpAny_newObj_type ?_ (by size_fits)
  simp only [raiseNew]
  refine wpAny_bind (wpAny_handled ?_)
  rw [hh]
  refine wpAny_bind (wpAny_pure (wpAny_throw ?_))
  exact hE _ _ (fun c o x => Heap.get?_push_of_some _ (Heap.get?_push_of_some _ x)) ⟨_, Heap.get?_push_size _ rfl, rfl⟩
/-- both at their end -/
theorem zs_end {Q : Fin → Shared → Prop} (hh : A.handled = none) (D : Drw i l xs St Sq) (D' : Drw j m ys St' Sq') (P : Apt z ti to i j l m) (hz : ZipS s.heap z ti to .none) (hti : IsPair s.heap ti (.ref i) (.ref j)) (hto : IsPair s.heap to a b)
    (h1 : St s.heap k) (h2 : St' s.heap k) (q1 : Sq s.heap) (q2 : Sq' s.heap) (hx : xs[k]? = none) (hy : ys[k]? = none)
    (hE : ∀ h' e, (∀ c o, c ≠ z → c ≠ to → c ≠ i → c ≠ j → s.heap.get? c = some o → h'.get? c = some o) → (∃ o, h'.get? e = some o ∧ o.cls = .type "StopIteration") → E (.ref e) { s with heap := h' }) :
    wpAny (model prog w) A (Builtin.«zip.__next__» ⟨[.ref z], []⟩) Q E s := by
  show wpAny _ _ (field (.ref z) 2 >>= _) _ _ _
  refine wpAny_bind (wpAny_field hz rfl (x := Value.bool true) rfl ?_)
  show wpAny _ _ (field (.ref z) 3 >>= _) _ _ _
  refine wpAny_bind (wpAny_field hz rfl (x := Value.ref ti) rfl ?_)
  refine wpAny_bind (wpAny_seqItems hti rfl ?_)
  show wpAny _ _ (Builtin.SmallTypes.ownedTupleIsFree (.ref z) >>= _) _ _ _
  unfold Builtin.SmallTypes.ownedTupleIsFree
  refine wpAny_bind (wpAny_bind (wpAny_field hz rfl (x := Value.none) rfl (wpAny_pure ?_)))
  simp only [if_true]
  refine wpAny_bind (wpAny_rule (wpAny_bind (wpAny_field hz rfl (x := Value.ref to) rfl ?_)))
  refine wpAny_bind (wpAny_setField_rec hz (by simp) fun g1 z1 b1 => ?_)
  replace z1 : ZipS g1 z ti to .ellipsis := z1
  simp only [List.zipIdx_cons, List.zipIdx_nil, List.forIn_cons, List.forIn_nil]
  refine wpAny_bind (wpAny_bind (wpAny_bind (wpAny_onRaise ?_)))
  show wpAny _ _ (Builtin.SmallTypes.nextOrEnd (.ref i)) _ _ _
  refine draw_end D hh (D.st h1 b1.extBut P.iz) (D.sq q1 b1.extBut P.lz) hx fun g2 b2 => ?_
  have z2 : ZipS g2 z ti to .ellipsis := b2 _ _ P.iz.symm z1
  refine wpAny_bind (wpAny_setField_rec z2 (by simp) fun g3 z3 b3 => ?_)
  have j3 : St' g3 k := D'.st (D'.st (D'.st h2 b1.extBut P.jz) b2 P.ij.symm) b3.extBut P.jz
  have q3 : Sq' g3 := D'.sq (D'.sq (D'.sq q2 b1.extBut P.mz) b2 P.mi) b3.extBut P.mz
  refine wpAny_bind ?_
  show wpAny _ _ (forIn [(Value.ref j, 1)] PUnit.unit _ >>= fun _ => rule _ >>= fun _ => Builtin.SmallTypes.stopIteration) _ _ _
  simp only [List.forIn_cons, List.forIn_nil]
  refine wpAny_bind (wpAny_bind (wpAny_bind (draw_end D' hh j3 q3 hy fun g4 b4 => ?_)))
  simp only [Option.isSome_none, Bool.false_eq_true, if_false]
  refine wpAny_pure (wpAny_pure (wpAny_bind (wpAny_rule ?_)))
  refine stopped hh fun h' e ext he => hE h' e (fun c o n1 n2 n3 n4 x => ext c o (b4 _ _ n4 (b3.extBut _ _ n1 (b2 _ _ n3 (b1.extBut _ _ n1 x))))) he
end
end PP

/-! PPZipC: a strict zip, walked. -/
namespace PP
open PySem PySem.Spec PyProof.Rows L2
/-- which kind: a tuple (true), a list -/
def StK (t : Bool) (i l : Addr) (h : Heap) (k : Nat) : Prop := if t = true then h.IsTupleIter i l k else h.IsListIter i l k
def SqK (t : Bool) (l : Addr) (xs : Array Value) (h : Heap) : Prop := if t = true then h.IsTuple l xs else h.IsList l xs
def Sq2 (K : Fg) (t : Bool) (H : Hp) (a : Addr) (xs : List V) : Prop := if t = true then SqT K H a xs else SqL K H a xs
theorem drw_k (t : Bool) (i l : Addr) (xs : Array Value) : Drw i l xs (StK t i l) (SqK t l xs) := by
  cases t
  · exact drw_list i l xs
  · exact drw_tup i l xs
section
variable {X : Cx} {pins : List (Addr × Obj)} {σ : L2.St} {H : Hp} {s : Shared} {t : Bool} {a : Addr} {xs ys : List V}
theorem sq2_at (I : L2.Inv X pins σ H s) (h : Sq2 X.K t H a xs) : ∃ its : List Value, Vals xs its ∧ SqK t a its.toArray s.heap := by
  cases t
  · obtain ⟨its, r, p, _⟩ := I.list h
    exact ⟨its, r, p.isList⟩
  · obtain ⟨its, r, p, _⟩ := I.tuple h
    exact ⟨its, r, show s.heap.IsTuple a its.toArray from p⟩
theorem sq2_inj (I : L2.Inv X pins σ H s) (h : Sq2 X.K t H a xs) (k : Sq2 X.K t H a ys) : xs = ys := by
  cases t
  · exact I.list_inj h k
  · exact I.tuple_inj h k
end
/-- what it yields -/
def ItzS (K : Fg) (t : Bool) (a b : Addr) : L2.It :=
  ⟨fun i H => ∃ xs ys x y, Sq2 K t H a xs ∧ Sq2 K t H b ys ∧ xs[i]? = some x ∧ ys[i]? = some y,
   fun i H v H' => ∃ T x y, v = .ref T ∧ H T = none ∧ H' = upd H T (.tup [x, y]) ∧ (∀ xs, Sq2 K t H a xs → xs[i]? = some x) ∧ ∀ ys, Sq2 K t H b ys → ys[i]? = some y,
   fun i H => ∃ xs ys, Sq2 K t H a xs ∧ Sq2 K t H b ys ∧ xs.length ≤ i ∧ ys.length ≤ i⟩
theorem zs_go {prog : Program} {w : World} {A : Around} {E : Value → Shared → Prop} {s : Shared} {elts : List PE_} {kk : Nat} {pos : Pos} {z ti to T : Addr} {Q : Unit → Shared → Prop} (hz : ZipS s.heap z ti to (rawInt T)) (hQ : ∀ h', ZipS h' z ti to .none → Heap.SameBut z s.heap h' → Q () { s with heap := h' }) :
    wpAny (model prog w) A (letOwnedTupleGo (.Tuple elts kk pos) (.ref z) (.ref T)) Q E s := by
  unfold letOwnedTupleGo
  refine wpAny_bind (wpAny_load hz ?_)
  show wpAny _ _ (if (_ && (#[rawInt T, Value.bool false, Value.bool true, Value.ref ti, Value.ref to] : Array Value)[0]? == some (rawInt T)) = true then _ else _) Q E s
  rw [if_pos (by simp)]
  refine wpAny_bind (wpAny_rule ?_)
  show wpAny _ _ (setField (.ref z) 0 Value.none) Q E s
  exact wpAny_setField_rec hz (by simp) fun h' a b => hQ h' a b
theorem zs_self {prog : Program} {w : World} {A : Around} {E : Value → Shared → Prop} {s : Shared} {z ti to : Addr} {f : Value} {Q : Value → Shared → Prop} (hz : ZipS s.heap z ti to f) (h : Q (.ref z) s) : wpAny (model prog w) A (pyIter (.ref z)) Q E s := by
  have ty : s.TypeIs (.ref z) "zip" := ⟨_, hz, rfl⟩
  refine wpAny_pyIter_slot ty F.slot_zip_iter (wpAny_call_entry F.slot_zip_iter ty F.entry_zip_iter ?_ (F.args_zip_iter_1 _))
  exact (show wpAny _ _ (ret (.ref z)) _ _ s from wpAny_pure ⟨_, rfl, "zip", _, ty, F.slot_zip_next.lookup, h⟩)
theorem turn_zs {P : Program} {w : World} {K : Fg} {t : Bool} {elts : List PE_} {kk : Nat} {tpos : Pos} {a b z ti to i j : Addr} (D : Apt z ti to i j a b) :
    Turn P w K (.Tuple elts kk tpos) (ItzS K t a b) [z, ti, to, i, j] z (fun k h => ZipS h z ti to .none ∧ IsPair h ti (.ref i) (.ref j) ∧ (∃ x y, IsPair h to x y) ∧ StK t i a h k ∧ StK t j b h k) where
  mem := by simp
  obj := fun k h st c hc => by
    obtain ⟨hz, hti, ⟨x, y, hto⟩, h1, h2⟩ := st
    have hc' : c = z ∨ c = ti ∨ c = to ∨ c = i ∨ c = j := by simpa using hc
    rcases hc' with e | e | e | e | e
    · rw [e]; exact ⟨_, hz, fun v q => nomatch q⟩
    · rw [e]; exact ⟨_, hti, fun v q => nomatch q⟩
    · rw [e]; exact ⟨_, hto, fun v q => nomatch q⟩
    · rw [e]; exact (drw_k t i a #[]).ob h1
    · rw [e]; exact (drw_k t j b #[]).ob h2
  keep := fun k h h' st kp => by
    obtain ⟨hz, hti, ⟨x, y, hto⟩, h1, h2⟩ := st
    exact ⟨kp z (by simp) _ hz, kp ti (by simp) _ hti, ⟨x, y, kp to (by simp) _ hto⟩, (drw_k t i a #[]).at_ h1 fun o q => kp i (by simp) o q, (drw_k t j b #[]).at_ h2 fun o q => kp j (by simp) o q⟩
  item := by
    intro X hP hw hK hc k pins s σ H E I hf st hg
    subst hP hw hK
    obtain ⟨hz, hti, ⟨x0, y0, hto⟩, h1, h2⟩ := st
    obtain ⟨xs, ys, x, y, hqx, hqy, hx, hy⟩ := hg
    obtain ⟨us, r1, p1⟩ := sq2_at I hqx
    obtain ⟨vs, r2, p2⟩ := sq2_at I hqy
    obtain ⟨u, hu, ru⟩ := r1.get hx
    obtain ⟨v, hv, rv⟩ := r2.get hy
    have zl : z < s.heap.objs.size := Heap.lt_size hz
    have ty : s.TypeIs (.ref z) "zip" := ⟨_, hz, rfl⟩
    unfold pyNext
    refine wpAny_bind (wpAny_attempt (wpAny_callSpecial?_slot (name := Str.ofString "__next__") ty F.slot_zip_next (wpAny_call_entry F.slot_zip_next ty F.entry_zip_next
      (zs_item (x := u) (y := v) (drw_k t i a us.toArray) (drw_k t j b vs.toArray) D hz hti hto h1 h2 p1 p2 (by simpa using hu) (by simpa using hv) fun h' z' to' i' j' pr sz kp => wpAny_pure ?_) (F.args_zip_next_1 _))))
    refine ⟨_, rfl, zs_go (s := { s with heap := h' }) z' fun h2' z2 sb => ?_⟩
    have tp : h2'.get? s.heap.objs.size = some { cls := .type "tuple", data := .seq #[u, v] } := (sb.2 _ (Nat.ne_of_gt zl)).trans pr
    have new : ObjOk X.prog X.w (upd H s.heap.objs.size (.tup [x, y])) h2' s.heap.objs.size (.tup [x, y]) := ⟨by show 2 ≤ sizeLine; decide, [u, v], .cons ru (.cons rv .nil), ⟨_, tp, rfl, _, rfl⟩⟩
    have I1 : L2.Inv X pins σ (upd H s.heap.objs.size (.tup [x, y])) { s with heap := h2' } := by
      refine I.turnedNew (t' := s.toks) (ch := [z, ti, to, i, j]) (fun c o nb q => ?_) hf (Nat.le_refl _) new
      simp only [List.mem_cons, List.not_mem_nil, or_false, not_or] at nb
      exact (sb.2 c nb.1).trans (kp c o nb.1 nb.2.2.1 nb.2.2.2.1 nb.2.2.2.2 q)
    refine ⟨.ref s.heap.objs.size, _, I1, rfl, ⟨_, x, y, rfl, I.hok.fresh (Nat.le_refl _), rfl, fun l hl => by rw [sq2_inj I hl hqx]; exact hx, fun l hl => by rw [sq2_inj I hl hqy]; exact hy⟩, ⟨z2, (sb.2 _ D.tiz).trans (kp _ _ D.tiz D.tit D.tii D.tij hti), ⟨u, v, (sb.2 _ D.toz).trans to'⟩, (drw_k t i a #[]).at_ i' fun o q => (sb.2 _ D.iz).trans q, (drw_k t j b #[]).at_ j' fun o q => (sb.2 _ D.jz).trans q⟩, fun c hcm => ?_⟩
    have lt : c < s.heap.objs.size := by
      have e' : c = z ∨ c = ti ∨ c = to ∨ c = i ∨ c = j := by simpa using hcm
      rcases e' with e | e | e | e | e
      · rw [e]; exact zl
      · rw [e]; exact Heap.lt_size hti
      · rw [e]; exact Heap.lt_size hto
      · rw [e]; obtain ⟨_, q, _⟩ := (drw_k t i a #[]).ob h1; exact Heap.lt_size q
      · rw [e]; obtain ⟨_, q, _⟩ := (drw_k t j b #[]).ob h2; exact Heap.lt_size q
    rw [upd_ne (Nat.ne_of_lt lt)]
    exact (hf c hcm).1
  done := by
    intro X hP hw hK hc k pins s σ H E I hf st hg
    subst hP hw hK
    obtain ⟨hz, hti, ⟨x0, y0, hto⟩, h1, h2⟩ := st
    obtain ⟨xs, ys, hqx, hqy, lx, ly⟩ := hg
    obtain ⟨us, r1, p1⟩ := sq2_at I hqx
    obtain ⟨vs, r2, p2⟩ := sq2_at I hqy
    have l1 := r1.length
    have l2 := r2.length
    have ty : s.TypeIs (.ref z) "zip" := ⟨_, hz, rfl⟩
    unfold pyNext
    refine wpAny_bind (wpAny_attempt (wpAny_callSpecial?_slot (name := Str.ofString "__next__") ty F.slot_zip_next (wpAny_call_entry F.slot_zip_next ty F.entry_zip_next
      (zs_end (I.ok.hd hc) (drw_k t i a us.toArray) (drw_k t j b vs.toArray) D hz hti hto h1 h2 p1 p2 (by simp; omega) (by simp; omega) fun h' e kp ⟨o, ho, hco⟩ => ?_) (F.args_zip_next_1 _))))
    refine wpAny_bind (wpAny_isInstance (T := "StopIteration") (b := true) ⟨o, ho, hco⟩ isSubtype_stop (wpAny_pure ⟨rfl, ?_⟩))
    refine I.turnedL (t' := s.toks) (ch := [z, ti, to, i, j]) (fun c o nb q => ?_) hf
    simp only [List.mem_cons, List.not_mem_nil, or_false, not_or] at nb
    exact kp c o nb.1 nb.2.2.1 nb.2.2.2.1 nb.2.2.2.2 q
  self := fun A k s Q E st h => zs_self st.1 h
end PP

/-! PPZip: zip, walked. -/
namespace PP
open PySem PySem.Spec PyProof.Rows L2
theorem ty_kw {M : Model} {A : Around} {E : Value → Shared → Prop} {s : Shared} {pos : Pos} {T : String} {args : List (Bool × Sem Value)} {kws : List (Option Str × Sem Value)} {Q : Value → Shared → Prop} (h1 : args.any (·.1) = false) (h2 : kws.any (·.1.isNone) = false)
    (h : wpAny M A (evalArgs (.type T) true args kws) (fun c s' => wpAny M A (call (.type T) ([] ++ c.pos) c.kw) Q E s') E s) : wpAny M A (callWith pos (.type T) [] args kws) Q E s := by
  unfold callWith
  refine wpAny_bind (wpAny_holding (wpAny_mono h (fun c s' hc => wpAny_bind (wpAny_standAt ?_)) fun _ _ z => z))
  simp only [h1, h2, Bool.or_false]
  exact wpAny_bind (wpAny_pure (wpAny_bind (wpAny_mono hc (fun v s'' hv => wpAny_bind (wpAny_holding (wpAny_point (wpAny_pure hv)))) fun _ _ z => z)))
def begT (t : Bool) (a : Addr) : Obj := if t = true then { cls := .type "tuple_iterator", data := .fields #[.ref a, .int 0 0] } else { cls := .type "list_iterator", data := .fields #[.ref a, .int 0 0] }
theorem beg_k (t : Bool) (a : Addr) (xs : Array Value) : Begins (.ref a) (begT t a) (SqK t a xs) := by
  cases t
  · exact begins_list a xs
  · exact begins_tuple a xs
theorem beg_st {t : Bool} {a i : Addr} {h : Heap} (e : h.get? i = some (begT t a)) : StK t i a h 0 := by
  cases t
  · exact ⟨_, e, rfl, rfl⟩
  · exact ⟨_, e, rfl, rfl⟩
theorem sqk_lt {t : Bool} {a : Addr} {xs : Array Value} {h : Heap} (e : SqK t a xs h) : a < h.objs.size := by
  cases t
  · obtain ⟨_, q, _⟩ := e; exact Heap.lt_size q
  · obtain ⟨_, q, _⟩ := e; exact Heap.lt_size q
theorem apt_new {n a b : Nat} (ha : a < n) (hb : b < n) : Apt (n + 4) (n + 2) (n + 3) n (n + 1) a b := by
  constructor <;> (intro z; simp only [Addr] at *; omega)
section
variable {X : Cx} {C : Calls} {G : Sigs} {a b : PE_} {p q : E}
/-- .. without strict -/
def ItzN (K : Fg) (t : Bool) (a b : Addr) : L2.It :=
  ⟨fun i H => ∃ xs ys x y, Sq2 K t H a xs ∧ Sq2 K t H b ys ∧ xs[i]? = some x ∧ ys[i]? = some y,
   fun i H v H' => ∃ T x y, v = .ref T ∧ H T = none ∧ H' = upd H T (.tup [x, y]) ∧ (∀ xs, Sq2 K t H a xs → xs[i]? = some x) ∧ ∀ ys, Sq2 K t H b ys → ys[i]? = some y,
   fun i H => ∃ xs ys, Sq2 K t H a xs ∧ Sq2 K t H b ys ∧ (xs.length ≤ i ∨ ys.length ≤ i)⟩
/-- the iterators that zip gives -/
def iZ (K : Fg) (st : Bool) (ta : L2.TA) : L2.TI := fun σ H R => ta σ H fun vs H1 => ∃ a b t xs ys, vs = [.ref a, .ref b] ∧ Sq2 K t H1 a xs ∧ Sq2 K t H1 b ys ∧ R (if st = true then ItzS K t a b else ItzN K t a b) H1
theorem pi_zs {p0 pos tpos kp cp : Pos} {cj : Nat} {elts : List PE_} {kk : Nat} {ta : L2.TA} (gl : Gl X "zip") (hm : X.mg "zip" = none) (ha : PA X [a, b] ta) (sa : isStar a = false) (sb : isStar b = false) :
    PI X (.Tuple elts kk tpos) (.Call (.Name "zip" p0) [a, b] [⟨some "strict", .Constant (.bool true) cj cp, kp⟩] pos) (iZ X.K true ta) := by
  constructor
  intro pins s σ H R I h
  have e1 : starEach [a, b] X.env = (false, eval a X.env) :: starEach [b] X.env := star_one sa
  have pk : PK X [⟨some "strict", .Constant (.bool true) cj cp, kp⟩] (tCons (L2.tC (.bl true)) tNil) := pk_cons L2.pe_bl pk_nil
  refine wpAny_Call_Name_kw (ld_blt I gl hm boot_zip (ty_kw (star_back (by simp [sa, sb])) (by rfl) ?_))
  have ev := ha.run pos pins s σ H _ I h
  rw [e1] at ev ⊢
  refine evalArgs_kwB (by rfl) (thn ev fun us s1 ⟨vs, H1, I1, r1, c, d, t, xs, ys, ex, hx, hy, q⟩ => ?_)
  refine thn (pk.run pos pins s1 σ H1 (fun zs H2 => zs = [.bl true] ∧ H2 = H1) I1 ⟨rfl, rfl⟩) fun ws s2 ⟨zs, H2, I2, r2, ez, eH⟩ => ?_
  subst ez eH ex
  cases r2 with
  | cons w1 w2 =>
    cases w2
    cases (show _ = Value.bool true from w1)
    cases r1 with
    | cons v1 v2 =>
      cases v2 with
      | cons v3 v4 =>
        cases v4
        cases v1
        cases v3
        obtain ⟨us, ru, p1⟩ := sq2_at I2 hx
        obtain ⟨vs, rv, p2⟩ := sq2_at I2 hy
        show wpAny _ _ (call (.type "zip") [.ref c, .ref d] [(Str.ofString "strict", .bool true)]) _ _ _
        refine zipS_made (beg_k t c us.toArray) (beg_k t d vs.toArray) p1 p2 fun h' g4 g2 g3 g0 g1 sz kp => zs_self g4 ?_
        have new : ∀ m, m ∈ [s2.heap.objs.size + 4, s2.heap.objs.size + 2, s2.heap.objs.size + 3, s2.heap.objs.size, s2.heap.objs.size + 1] → FpOk X pins H2 m := fun m hm => by
          have ge : s2.heap.objs.size ≤ m := by
            simp only [List.mem_cons, List.not_mem_nil, or_false] at hm
            rcases hm with z | z | z | z | z <;> (rw [z]; simp only [Addr] at *; omega)
          exact I2.fpOk ge (I2.hok.fresh ge)
        exact ⟨s2.heap.objs.size + 4, [s2.heap.objs.size + 4, s2.heap.objs.size + 2, s2.heap.objs.size + 3, s2.heap.objs.size, s2.heap.objs.size + 1], _, _, H2, rfl, I2.kept (t' := s2.toks) kp, turn_zs (apt_new (sqk_lt p1) (sqk_lt p2)), ⟨g4, g2, ⟨_, _, g3⟩, beg_st g0, beg_st g1⟩, new, q⟩
theorem tE_mono {K : Fg} {σ : L2.St} {H : Hp} {Q Q' : VK} (h : tE K C G p σ H Q) (m : ∀ v H', Q v H' → Q' v H') : tE K C G p σ H Q' := by
  obtain ⟨g, P, δ, fps, t, δ', f, e, q⟩ := h
  exact ⟨g, P, δ, fps, t, δ', f, e, fun v H' fps' fp f' ev to => m v H' (q v H' fps' fp f' ev to)⟩
theorem pi_zn {p0 pos tpos : Pos} {elts : List PE_} {kk : Nat} (gl : Gl X "zip") (hm : X.mg "zip" = none) (ha : PA X [a, b] (tCons (tE X.K C G p) (tCons (tE X.K C G q) tNil))) (sa : isStar a = false) (sb : isStar b = false) :
    PI X (.Tuple elts kk tpos) (.Call (.Name "zip" p0) [a, b] [] pos) (iZ X.K false (tCons (tE X.K C G p) (tCons (tE X.K C G q) tNil))) := by
  refine (RZ.pi_zipA gl hm ha (star_one sa) (star_back (by simp [sb]))).imp fun σ H R h => ?_
  refine tE_mono (Q := fun v H1 => tE X.K C G q σ H1 fun w H2 => ∃ a b t xs ys, [v, w] = [.ref a, .ref b] ∧ Sq2 X.K t H2 a xs ∧ Sq2 X.K t H2 b ys ∧ R (ItzN X.K t a b) H2) h fun v H1 h1 => tE_mono h1 fun w H2 ⟨c, d, t, xs, ys, e, s1, s2, r⟩ => ?_
  cases t with
  | false => exact ⟨c, d, xs, ys, e, .inl ⟨s1, s2, r⟩⟩
  | true => exact ⟨c, d, xs, ys, e, .inr ⟨s1, s2, r⟩⟩
/-- two sequences walked side by side -/
theorem wo_zip {K : Fg} {g : Gh} {Hs Hs' H : Hp} {δ : PP.St} {fps : Nat → List Addr} {v w : V} {x y : Tm} {fp fq : List Addr} {ds es : List D} {st : Bool} (tv : TO K g Hs H δ fps v x fp) (tw : TO K g Hs' H δ fps w y fq) (hz : zipOf x.d y.d = some (ds, es)) (hst : st = true → ds.length = es.length) :
    ∃ a b t xs ys fA fI, v = .ref a ∧ w = .ref b ∧ Sq2 K t H a xs ∧ Sq2 K t H b ys ∧ WO K g H δ fps (if st = true then ItzS K t a b else ItzN K t a b) ⟨(ds.zip es).map fun q => D.tup [q.1, q.2], x.S ++ y.S, x.Si ++ y.Si⟩ fA fI := by
  have shape : ∃ t : Bool, seqOf x.d = some ds ∧ seqOf y.d = some es ∧ (t = true → (∃ l, x.d = .tup l) ∧ ∃ l, y.d = .tup l) ∧ (t = false → (∃ l, x.d = .lst l) ∧ ∃ l, y.d = .lst l) := by
    unfold zipOf at hz
    split at hz
    · rename_i l m e1 e2
      simp only [Option.some.injEq, Prod.mk.injEq] at hz
      obtain ⟨rfl, rfl⟩ := hz
      exact ⟨false, by rw [e1]; rfl, by rw [e2]; rfl, (fun z => nomatch z), fun _ => ⟨⟨_, e1⟩, _, e2⟩⟩
    · rename_i l m e1 e2
      simp only [Option.some.injEq, Prod.mk.injEq] at hz
      obtain ⟨rfl, rfl⟩ := hz
      exact ⟨true, by rw [e1]; rfl, by rw [e2]; rfl, (fun _ => ⟨⟨_, e1⟩, _, e2⟩), fun z => nomatch z⟩
    · cases hz
  obtain ⟨t, s1, s2, k1, k2⟩ := shape
  obtain ⟨_, _, ev0, i1, _, _⟩ := tv.items s1
  obtain ⟨_, _, ew0, i2, _, _⟩ := tw.items s2
  obtain ⟨a, xs, ev, r1, h1, sub1, st1⟩ := seq_at tv s1
  obtain ⟨b, ys, ew, r2, h2, sub2, st2⟩ := seq_at tw s2
  have q1 : Sq2 K t H a xs ∧ ∀ (M : Addr → Prop) H2, Kp M H H2 → (∀ a ∈ fp, ¬ M a) → Sq2 K t H2 a xs := by
    cases t with
    | true =>
      obtain ⟨l, e⟩ := (k1 rfl).1
      rcases h1 with ⟨_, z, _⟩ | ⟨q, _, hs⟩
      · rcases z with ⟨l2, z⟩ | ⟨l2, z⟩ <;> (rw [e] at z; cases z)
      · exact ⟨q, fun M H2 k _ => hs M H2 k⟩
    | false =>
      obtain ⟨l, e⟩ := (k2 rfl).1
      rcases h1 with ⟨q, _, hs⟩ | ⟨_, ⟨l2, z⟩, _⟩
      · exact ⟨q, hs⟩
      · rw [e] at z; cases z
  have q2 : Sq2 K t H b ys ∧ ∀ (M : Addr → Prop) H2, Kp M H H2 → (∀ a ∈ fq, ¬ M a) → Sq2 K t H2 b ys := by
    cases t with
    | true =>
      obtain ⟨l, e⟩ := (k1 rfl).2
      rcases h2 with ⟨_, z, _⟩ | ⟨q, _, hs⟩
      · rcases z with ⟨l2, z⟩ | ⟨l2, z⟩ <;> (rw [e] at z; cases z)
      · exact ⟨q, fun M H2 k _ => hs M H2 k⟩
    | false =>
      obtain ⟨l, e⟩ := (k2 rfl).2
      rcases h2 with ⟨q, _, hs⟩ | ⟨_, ⟨l2, z⟩, _⟩
      · exact ⟨q, hs⟩
      · rw [e] at z; cases z
  have l1 := r1.length
  have l2 := r2.length
  refine ⟨a, b, t, xs, ys, fp ++ fq, itf x.d fp ++ itf y.d fq, ev, ew, q1.1, q2.1, ?_⟩
  have go : ∀ (M : Addr → Prop) H2, Kp M H H2 → (∀ a ∈ fp ++ fq, ¬ M a) → ∀ (i : Nat) (d : D), ((ds.zip es).map fun q => D.tup [q.1, q.2])[i]? = some d → (∃ (xs ys : List V) (x y : V), Sq2 K t H2 a xs ∧ Sq2 K t H2 b ys ∧ xs[i]? = some x ∧ ys[i]? = some y) ∧
      ∀ (z : V) (H3 : Hp), (∃ (T : Addr) (x y : V), z = .ref T ∧ H2 T = none ∧ H3 = upd H2 T (.tup [x, y]) ∧ (∀ xs, Sq2 K t H2 a xs → xs[i]? = some x) ∧ ∀ ys, Sq2 K t H2 b ys → ys[i]? = some y) → Kp (fun _ => False) H2 H3 ∧ ∃ fr, Rp K H3 z d fr ∧ ∀ c ∈ fr, c ∈ itf x.d fp ++ itf y.d fq := by
    intro M H2 k m i d hd
    rw [List.getElem?_map] at hd
    obtain ⟨q, e1, e2⟩ := Option.map_eq_some_iff.mp hd
    obtain ⟨d1, d2⟩ := q
    rw [List.getElem?_zip_eq_some] at e1
    simp only at e1 e2
    have m1 : ∀ c ∈ fp, ¬ M c := fun c hc => m c (List.mem_append_left _ hc)
    have m2 : ∀ c ∈ fq, ¬ M c := fun c hc => m c (List.mem_append_right _ hc)
    have a1 := q1.2 M H2 k m1
    have a2 := q2.2 M H2 k m2
    obtain ⟨v1, f1, g1, g2, g3⟩ := (st1 M H2 k m1).get' e1.1
    obtain ⟨v2, f2, g4, g5, g6⟩ := (st2 M H2 k m2).get' e1.2
    refine ⟨⟨xs, ys, v1, v2, a1, a2, g1, g4⟩, fun z H3 ⟨T, x', y', ez, hT, eH, hx, hy⟩ => ?_⟩
    have h3 := hx xs a1
    rw [g1] at h3
    cases h3
    have h4 := hy ys a2
    rw [g4] at h4
    cases h4
    subst ez eH e2
    have kp : Kp (fun _ => False) H2 (upd H2 T (.tup [v1, v2])) := Kp.new hT
    refine ⟨kp, f1 ++ f2, .tup (.of upd_same) (by simpa using RpAll.cons (g2.stay kp fun _ _ z => z) (RpAll.cons (g5.stay kp fun _ _ z => z) .nil)) fun mT => ?_, fun c hc => (List.mem_append.mp hc).elim (fun h => List.mem_append_left _ (g3 c h)) fun h => List.mem_append_right _ (g6 c h)⟩
    rcases List.mem_append.mp mT with mT | mT
    · obtain ⟨_, e⟩ := g2.there T mT
      rw [hT] at e; cases e
    · obtain ⟨_, e⟩ := g5.there T mT
      rw [hT] at e; cases e
  refine ⟨fun i c h m => ?_, fun i c h m => ?_, fun c m => ?_, fun c m => ?_, fun c m => ?_, fun c m => ?_, ?_, ?_⟩
  · exact (List.mem_append.mp m).elim (fun m => List.mem_append_left _ (tv.cl i c h m)) fun m => List.mem_append_right _ (tw.cl i c h m)
  · exact (List.mem_append.mp m).elim (fun m => List.mem_append_left _ (i1.cl i c h m)) fun m => List.mem_append_right _ (i2.cl i c h m)
  · exact (List.mem_append.mp m).elim (fun m => List.mem_append_left _ (sub1 c m)) fun m => List.mem_append_right _ (sub2 c m)
  · exact (List.mem_append.mp m).elim (tv.rep.there c) (tw.rep.there c)
  · exact (List.mem_append.mp m).elim (tv.reach c) (tw.reach c)
  · exact (List.mem_append.mp m).elim (tv.priv c) (tw.priv c)
  · intro M H2 k m i d hd
    cases st
    · exact go M H2 k m i d hd
    · exact go M H2 k m i d hd
  · intro M H2 k m
    have a1 := q1.2 M H2 k fun c hc => m c (List.mem_append_left _ hc)
    have a2 := q2.2 M H2 k fun c hc => m c (List.mem_append_right _ hc)
    have hlen : ((ds.zip es).map fun q => D.tup [q.1, q.2]).length = min ds.length es.length := by simp
    cases st with
    | false =>
      refine ⟨xs, ys, a1, a2, ?_⟩
      show xs.length ≤ ((ds.zip es).map _).length ∨ ys.length ≤ ((ds.zip es).map _).length
      rw [hlen]
      omega
    | true =>
      have := hst rfl
      refine ⟨xs, ys, a1, a2, ?_, ?_⟩
      · show xs.length ≤ ((ds.zip es).map _).length
        rw [hlen]; omega
      · show ys.length ≤ ((ds.zip es).map _).length
        rw [hlen]; omega
theorem pi_zp {p0 pos tpos : Pos} {elts : List PE_} {kk : Nat} {ks : List Keyword} {st : Bool} (hc : X.calm = true) (gl : Gl X "zip") (hm : X.mg "zip" = none) (hk : isStrict ks = some st) (ha : PE X a (tE X.K C G p)) (hb : PE X b (tE X.K C G q)) (sa : isStar a = false) (sb : isStar b = false) :
    PI X (.Tuple elts kk tpos) (.Call (.Name "zip" p0) [a, b] ks pos) (tI X.K C G (.zip p q st)) := by
  have pa : PA X [a, b] (tCons (tE X.K C G p) (tCons (tE X.K C G q) tNil)) := pa_cons ha (pa_cons hb pa_nil (star_one sb)) (star_one sa)
  have base : PI X (.Tuple elts kk tpos) (.Call (.Name "zip" p0) [a, b] ks pos) (iZ X.K st (tCons (tE X.K C G p) (tCons (tE X.K C G q) tNil))) := by
    unfold isStrict at hk
    split at hk
    · simp only [Option.some.injEq] at hk
      subst hk
      exact pi_zn gl hm pa sa sb
    · split at hk
      · rename_i he
        simp only [Option.some.injEq] at hk
        subst hk he
        exact pi_zs gl hm pa sa sb
      · cases hk
    · cases hk
  refine base.imp fun σ H R ⟨g, P, δ, fps, w, δ', f, h, qq⟩ => ?_
  simp only [evI] at h
  split at h
  · rename_i x δ1 e1
    split at h
    · rename_i y δ2 e2
      split at h
      · rename_i ds es hz
        split at h
        · cases h
        · rename_i hst
          simp only [Option.some.injEq, Prod.mk.injEq] at h
          obtain ⟨rfl, rfl⟩ := h
          refine two f e1 e2 fun v w H1 H2 fps2 fp fq f2 ev tv tw b1 b2 ex => ?_
          obtain ⟨c, d, t, xs, ys, fA, fI, ev', ew', s1, s2, wo⟩ := wo_zip (st := st) tv tw hz (fun h => by
            subst h
            simpa using hst)
          subst ev' ew'
          exact ⟨c, d, t, xs, ys, rfl, s1, s2, qq _ H2 fps2 fA fI f2 ev wo⟩
      · cases h
    · cases h
  · cases h
end
end PP

/-! PPSoundM: THE EXPRESSIONS. -/
namespace PP
open PySem PySem.Spec PyProof.Rows L2
section
variable {c : Cn} {C : Calls} {G : Sigs}
theorem bltIn_ok {X : Cx} {sc : Scope} (W : Wd X c C G) (hs : X.env.scope = sc) {x : Str} (h : bltIn c sc x = true) (hb : boots.contains x = true) : Gl X x ∧ X.mg x = none := by
  unfold bltIn at h
  simp only [Bool.and_eq_true, Bool.not_eq_true'] at h
  exact ⟨gl_of hs h.1.1, W.blt x h.1.2 (by simpa using h.2) hb⟩
theorem ty_ne {x : Str} {t : Ty} (h : tyOf x = some t) : boots.contains x = true := by
  unfold tyOf at h
  repeat' split at h
  all_goals first
    | (rename_i hx; rw [hx]; decide)
    | cases h
theorem bf_ne {x : Str} {t : BF} (h : bfOf x = some t) : boots.contains x = true := by
  unfold bfOf at h
  repeat' split at h
  all_goals first
    | (rename_i hx; rw [hx]; decide)
    | cases h
theorem stE_sub {sc : Scope} {a i : PE_} {p : Pos} (h : isSlice i = false) : stE c sc (.Subscript a i p) = .sub (stE c sc a) (stE c sc i) := by
  cases i <;> first | (simp [isSlice] at h; done) | simp only [stE, isSlice, Bool.false_eq_true, if_false]
theorem scope_blk {X : Cx} {sc : Scope} (hs : X.env.scope = sc) (s : Shared) (H : Hp) (scope : Scope) (C0 : Addr) (cl : List (Str × Addr)) (fp : List Addr) : (X.blk s H scope (compEnvC scope cl C0 X.env) fp).env.scope = relS scope sc := by
  rw [← hs]; rfl
/-- a block's own names may be stored to -/
theorem own_fn {X : Cx} {sc scope : Scope} {own : List (Str × Nat)} (W : Wd X c C G) (hs : X.env.scope = sc) (ho : own = ownOf c.N scope) (ok : BlkOk c.N sc scope own) {t : T} (ht : tOwn t own = true) (s : Shared) (H : Hp) (C0 : Addr) (cl : List (Str × Addr)) (fp : List Addr) :
    ∀ i ∈ t.ixs, ∀ x, (X.blk s H scope (compEnvC scope cl C0 X.env) fp).N[i]? = some x → (X.blk s H scope (compEnvC scope cl C0 X.env) fp).fn x = true ∨ (X.blk s H scope (compEnvC scope cl C0 X.env) fp).env.scope.names.lookup x = some .local := by
  intro i hi x hx
  unfold tOwn at ht
  rw [List.all_eq_true] at ht
  have h1 := ht i hi
  simp only [List.contains_eq_mem, decide_eq_true_eq, List.mem_map] at h1
  obtain ⟨⟨n, j⟩, h2, h3⟩ := h1
  simp only at h3
  subst h3
  have h4 := ok.ix (n, j) h2
  have hx' : c.N[j]? = some x := by rw [← W.N]; exact hx
  rw [hx'] at h4
  have : x = n := Option.some.inj h4
  subst this
  rw [ho] at h2
  unfold ownOf at h2
  obtain ⟨⟨m, k⟩, h5, h6⟩ := List.mem_filterMap.mp h2
  simp only at h6
  split at h6
  · rename_i hk
    obtain ⟨i2, _, h8⟩ := Option.map_eq_some_iff.mp h6
    have hmx : m = x := congrArg Prod.fst h8
    subst hmx
    have hl := ok.uniq _ h5
    simp only at hl
    have hk' : k = .local ∨ k = .cell := by simpa using hk
    rcases hk' with rfl | rfl
    · right
      show (relS scope X.env.scope).names.lookup m = _
      unfold relS
      exact lookup_relS_keep (by decide) hl
    · left
      show (scope.names.lookup m == some .cell) = true
      rw [hl]; rfl
  · cases h6
theorem noWalk_or (p : E) : noWalk p = p ∨ noWalk p = .never := by cases p <;> first | exact .inl rfl | exact .inr rfl
mutual
theorem E_ok : ∀ (e : PE_) (X : Cx) (sc : Scope), Wd X c C G → X.env.scope = sc → Ok3 X C G e (stE c sc e)
  | .Constant k kk pos, X, sc, W, hs => by
    simp only [stE]
    cases k <;> simp only [constE] <;> first
      | exact ok_never
      | exact ok_val (pe_con L2.pe_non fun H => .non) rfl fun _ => rfl
      | exact ok_val (pe_con L2.pe_bl fun H => .bl _) rfl fun _ => rfl
      | exact ok_val (pe_con L2.pe_int fun H => .int _) rfl fun _ => rfl
      | exact ok_val (pe_con L2.pe_str fun H => .str _) rfl fun _ => rfl
  | .Name x pos, X, sc, W, hs => by
    simp only [stE]
    unfold nameE
    split
    · rename_i i h
      obtain ⟨n1, n2, n3⟩ := slotOf_ok h
      obtain ⟨o1, o2⟩ := okName_ok n3
      exact ok_val (pe_vr (by rw [W.N]; exact n1) (by rw [hs]; exact n2) o1 o2) rfl fun _ => rfl
    · split
      · rename_i h
        simp only [Bool.and_eq_true, Bool.not_eq_true'] at h
        split
        · rename_i d hd
          obtain ⟨u, v, h1, h2, h3⟩ := W.con x d h.2 hd
          exact ok_val (pe_con (L2.pe_glob (gl_of hs h.1.1) h1 h2 (okName_ok h.1.2).1) h3) rfl fun _ => rfl
        · exact ok_never
      · exact ok_never
  | .BoolOp op es pos, X, sc, W, hs => by
    cases op with
    | And =>
      simp only [stE]
      obtain ⟨h1, h2, h3⟩ := And_ok es X sc W hs pos
      exact ok_of h1 h2.pt h3
    | Or =>
      simp only [stE]
      obtain ⟨h1, h2, h3⟩ := Or_ok es X sc W hs pos
      exact ok_of h1 h2.pt h3
  | .BinOp a o b pos, X, sc, W, hs => by
    have ha := E_ok a X sc W hs
    have hb := E_ok b X sc W hs
    simp only [stE]
    unfold binE
    split
    · rename_i m ho
      exact ok_val (pe_bin ho ha.pe hb.pe) rfl fun _ => rfl
    · exact ok_never
  | .UnaryOp o a pos, X, sc, W, hs => by
    have ha := E_ok a X sc W hs
    simp only [stE]
    cases o <;> simp only [unE] <;> first
      | exact ok_never
      | exact ok_of (pe_nt ha.pe) (pt_nt ha.pt) rfl
      | exact ok_val (pe_ng ha.pe) rfl fun _ => rfl
  | .IfExp t a b pos, X, sc, W, hs => by
    have ht := E_ok t X sc W hs
    have ha := E_ok a X sc W hs
    have hb := E_ok b X sc W hs
    simp only [stE]
    exact ok_of (pe_if ht.pt ha.pe hb.pe) (pt_if ht.pt ha.pt hb.pt) rfl
  | .Compare a [o] [b] pos, X, sc, W, hs => by
    have ha := E_ok a X sc W hs
    have hb := E_ok b X sc W hs
    simp only [stE]
    split
    · exact ok_never
    · rename_i h
      obtain ⟨h1, h2⟩ := pe_cm (pos := pos) (op := o) W.units ha.pe hb.pe (by simpa using h)
      exact ok_of h1 h2 rfl
  | .Compare a [o, o2] [b, d] pos, X, sc, W, hs => by
    have ha := E_ok a X sc W hs
    have hb := E_ok b X sc W hs
    have hd := E_ok d X sc W hs
    simp only [stE]
    split
    · exact ok_never
    · rename_i h
      simp only [Bool.or_eq_true, not_or, Bool.not_eq_true] at h
      obtain ⟨h1, h2⟩ := pe_ch (pos := pos) (op := o) (op2 := o2) W.units ha.pe hb.pe hd.pe h.2
      exact ok_of h1 h2 rfl
  | .Tuple es k pos, X, sc, W, hs => by
    simp only [stE]
    split
    · exact ok_never
    · rename_i h
      exact ok_val (pe_tu (Es_ok es X sc W hs (by simpa using h)).1) rfl fun _ => rfl
  | .List es pos, X, sc, W, hs => by
    simp only [stE]
    split
    · exact ok_never
    · rename_i h
      exact ok_val (pe_ls (Es_ok es X sc W hs (by simpa using h)).1) rfl fun _ => rfl
  | .Subscript a i pos, X, sc, W, hs => by
    have ha := E_ok a X sc W hs
    by_cases hi : isSlice i = true
    · cases i with
      | Slice lo up st p =>
        cases st with
        | none =>
          simp only [stE]
          exact ok_val (pe_sc ha.pe (O_ok lo X sc W hs) (O_ok up X sc W hs)) rfl fun _ => rfl
        | some z =>
          simp only [stE, isSlice, if_true]
          exact ok_never
      | _ => simp [isSlice] at hi
    · have hi' : isSlice i = false := by simpa using hi
      rw [stE_sub hi']
      exact ok_val (pe_sb ha.pe (E_ok i X sc W hs).pe hi') rfl fun _ => rfl
  | .Call f es ks pos, X, sc, W, hs => by
    cases f with
    | Name x p0 =>
      simp only [stE, nameOf]
      unfold callE
      split
      · rename_i h
        simp only [Bool.and_eq_true, Bool.not_eq_true'] at h
        obtain ⟨⟨hg, hok⟩, hst⟩ := h
        have gl := gl_of hs hg
        have hdb := (okName_ok hok).1
        split
        · rename_i hgd
          split
          · rename_i hke
            have hk0 : ks = [] := by simpa using hke
            subst hk0
            obtain ⟨pa, pr⟩ := Es_ok es X sc W hs hst
            exact ok_val (pe_fn W hs gl hgd hdb hst pa pr) rfl fun _ => rfl
          · rename_i hke
            split
            · rename_i h2
              simp only [Bool.and_eq_true] at h2
              have he0 : es = [] := by simpa using h2.1
              subst he0
              exact ok_val (pe_fnk W gl hgd hdb (by simpa using hke) h2.2 (Ks_ok ks X sc W hs h2.2)) rfl fun _ => rfl
            · exact ok_never
        · rename_i hgd
          have hgd' : c.gd.contains x = false := by simpa using hgd
          split
          · exact ok_never
          · rename_i hgc
            have hgc' : c.gc.lookup x = none := by
              cases hq : c.gc.lookup x with
              | none => rfl
              | some d => rw [hq] at hgc; exact absurd rfl hgc
            split
            · rename_i hz
              subst hz
              have hm := W.blt _ hgd' hgc' (by decide)
              match es, hst with
              | [], _ => simp only [stEs, zipE]; exact ok_never
              | [a], _ => simp only [stEs, zipE]; exact ok_never
              | a :: b :: d :: r, _ => simp only [stEs, zipE]; exact ok_never
              | [a, b], hst =>
              simp only [stEs, zipE]
              split
              · rename_i st hks
                simp only [List.any_cons, Bool.or_eq_false_iff] at hst
                have ha := E_ok a X sc W hs
                have hb := E_ok b X sc W hs
                refine ⟨pe_walk, pt_walk, fun tg => ?_⟩
                show PI X tg _ (tI X.K C G (if isTupE tg then .zip _ _ _ else .seq .never))
                split
                · rename_i ht
                  obtain ⟨ts, k, pp, rfl⟩ := tup_of ht
                  exact pi_zp W.calm gl hm hks ha.pe hb.pe hst.1 hst.2.1
                · exact pi_never
              · exact ok_never
            · split
              · exact ok_never
              · rename_i hkk
                have hk0 : ks = [] := by simpa using hkk
                subst hk0
                split
                · rename_i hi
                  subst hi
                  have hm := W.blt _ hgd' hgc' (by decide)
                  match es, hst with
                  | [], _ => simp only [stEs, isiE]; exact ok_never
                  | [a], _ => simp only [stEs, isiE]; exact ok_never
                  | a :: b :: d :: r, _ => simp only [stEs, isiE]; exact ok_never
                  | [a, t], hst =>
                    have ha := E_ok a X sc W hs
                    simp only [List.any_cons, Bool.or_eq_false_iff] at hst
                    simp only [stEs, isiE]
                    split
                    · rename_i ts hts
                      refine ok_val ?_ rfl fun _ => rfl
                      unfold tysOf at hts
                      split at hts
                      · rename_i y p1
                        split at hts
                        · rename_i hb
                          obtain ⟨u, h1, h2⟩ := Option.map_eq_some_iff.mp hts
                          subst h2
                          obtain ⟨g1, g2⟩ := bltIn_ok W hs hb (ty_ne h1)
                          exact pe_is1 h1 g1 g2 gl hm ha.pe hst.1
                        · cases hts
                      · rename_i y p1 y2 p2 k2 p3
                        split at hts
                        · rename_i hb
                          rw [Bool.and_eq_true] at hb
                          split at hts
                          · rename_i u1 u2 h1 h2
                            simp only [Option.some.injEq] at hts
                            subst hts
                            obtain ⟨g1, g2⟩ := bltIn_ok W hs hb.1 (ty_ne h1)
                            obtain ⟨g3, g4⟩ := bltIn_ok W hs hb.2 (ty_ne h2)
                            exact pe_is2 h1 h2 g1 g2 g3 g4 gl hm ha.pe hst.1
                          · cases hts
                        · cases hts
                      · cases hts
                    · exact ok_never
                · split
                  · rename_i hr
                    subst hr
                    have hm := W.blt _ hgd' hgc' (by decide)
                    exact ⟨pe_walk, pt_walk, fun tg => pi_rn gl hm (Es_ok es X sc W hs hst).1 hst (stEs_len c sc es).symm⟩
                  · split
                    · rename_i hr
                      subst hr
                      have hm := W.blt _ hgd' hgc' (by decide)
                      match es, hst with
                      | [], _ => simp only [stEs, enumE]; exact ok_never
                      | a :: b :: r, _ => simp only [stEs, enumE]; exact ok_never
                      | [a], hst =>
                        have ha := E_ok a X sc W hs
                        simp only [List.any_cons, Bool.or_eq_false_iff] at hst
                        simp only [stEs, enumE]
                        refine ⟨pe_walk, pt_walk, fun tg => ?_⟩
                        show PI X tg _ (tI X.K C G (if isTupE tg then .enum _ else .seq .never))
                        split
                        · rename_i ht
                          obtain ⟨ts, k, pp, rfl⟩ := tup_of ht
                          exact pi_en gl hm ha.pe hst.1
                        · exact pi_never
                    · unfold bifE
                      split
                      · rename_i b hb
                        have hm := W.blt _ hgd' hgc' (bf_ne hb)
                        exact ok_val (pe_bf W.units W.guards W.calm hb gl hm (Es_ok es X sc W hs hst).1 hst fun z => stEs_nil z) rfl fun _ => rfl
                      · exact ok_never
      · exact ok_never
    | _ => simp only [stE, nameOf]; exact ok_never
  | .ListComp elt [⟨t, it, ifs, a⟩] scope pos, X, sc, W, hs => by
    have hit := E_ok it X sc W hs
    simp only [stE]
    unfold compE
    split
    · rename_i h
      simp only [Bool.and_eq_true, decide_eq_true_eq, Bool.not_eq_true'] at h
      obtain ⟨⟨⟨hb, ha⟩, hl⟩, hset⟩ := h
      subst ha
      split
      · rename_i t' ht
        split
        · rename_i ho
          have ok : BlkOk X.N X.env.scope scope (ownOf c.N scope) := by rw [W.N, hs]; exact blkOk_by hb
          have ok' : BlkOk c.N sc scope (ownOf c.N scope) := blkOk_by hb
          have hT : ∀ i ∈ t'.ixs, i ∈ (ownOf c.N scope).map (·.2) := fun i hi => by
            unfold tOwn at ho
            rw [List.all_eq_true] at ho
            simpa using ho i hi
          refine ok_val ((pe_lc W.calm W.nd (hit.pi t) ok (fun s H C0 cl fp => ?_) (fun s H C0 cl fp => ?_) (fun s H C0 cl fp => ?_) (fold_of hset X.env)).imp (tLc_ok hT)) rfl fun _ => rfl
          · exact pg_ok (W.blk s H scope _ fp).N (W.blk s H scope _ fp).nd (scope_blk hs s H scope C0 cl fp) W.calm t t' ht (own_fn W hs rfl ok' ho s H C0 cl fp)
          · exact C_ok ifs _ _ (W.blk s H scope _ fp) (scope_blk hs s H scope C0 cl fp) hl
          · exact (E_ok elt _ _ (W.blk s H scope _ fp) (scope_blk hs s H scope C0 cl fp)).pe
        · exact ok_never
      · exact ok_never
    · exact ok_never
  | .ListComp elt [⟨t, it, ifs, a⟩, ⟨t1, it1, ifs1, a1⟩] scope pos, X, sc, W, hs => by
    have hit := E_ok it X sc W hs
    simp only [stE]
    unfold compE2
    split
    · rename_i h
      simp only [Bool.and_eq_true, decide_eq_true_eq, Bool.not_eq_true'] at h
      obtain ⟨⟨⟨⟨⟨⟨hb, ha⟩, hl⟩, hset⟩, ha1⟩, hl1⟩, hset1⟩ := h
      subst ha ha1
      split
      · rename_i t' ht
        split
        · rename_i t1' ht1
          split
          · rename_i ho
            rw [Bool.and_eq_true] at ho
            have ok : BlkOk X.N X.env.scope scope (ownOf c.N scope) := by rw [W.N, hs]; exact blkOk_by hb
            have ok' : BlkOk c.N sc scope (ownOf c.N scope) := blkOk_by hb
            have hT : ∀ i ∈ t'.ixs, i ∈ (ownOf c.N scope).map (·.2) := fun i hi => by
              have := ho.1
              unfold tOwn at this
              rw [List.all_eq_true] at this
              simpa using this i hi
            have hT1 : ∀ i ∈ t1'.ixs, i ∈ (ownOf c.N scope).map (·.2) := fun i hi => by
              have := ho.2
              unfold tOwn at this
              rw [List.all_eq_true] at this
              simpa using this i hi
            refine ok_val ((pe_lc2 W.calm W.nd (hit.pi t) ok hT1 (fun s H C0 cl fp => ?_) (fun s H C0 cl fp => ?_) (fun s H C0 cl fp => ?_) (fun s H C0 cl fp => ?_) (fun s H C0 cl fp => ?_) (fun s H C0 cl fp => ?_) (fold_of hset X.env) (fun env => fold_of hset1 env)).imp (tLc2_ok hT hT1 fun i h => h)) rfl fun _ => rfl
            · exact pg_ok (W.blk s H scope _ fp).N (W.blk s H scope _ fp).nd (scope_blk hs s H scope C0 cl fp) W.calm t t' ht (own_fn W hs rfl ok' ho.1 s H C0 cl fp)
            · exact C_ok ifs _ _ (W.blk s H scope _ fp) (scope_blk hs s H scope C0 cl fp) hl
            · exact (E_ok it1 _ _ (W.blk s H scope _ fp) (scope_blk hs s H scope C0 cl fp)).pi t1
            · exact pg_ok (W.blk s H scope _ fp).N (W.blk s H scope _ fp).nd (scope_blk hs s H scope C0 cl fp) W.calm t1 t1' ht1 (own_fn W hs rfl ok' ho.2 s H C0 cl fp)
            · exact C_ok ifs1 _ _ (W.blk s H scope _ fp) (scope_blk hs s H scope C0 cl fp) hl1
            · exact (E_ok elt _ _ (W.blk s H scope _ fp) (scope_blk hs s H scope C0 cl fp)).pe
          · exact ok_never
        · exact ok_never
      · exact ok_never
    · exact ok_never
  | .NamedExpr _ _ _, X, sc, W, hs => by simp only [stE]; exact ok_never
  | .Lambda _ _ _ _, X, sc, W, hs => by simp only [stE]; exact ok_never
  | .Dict _ _ _, X, sc, W, hs => by simp only [stE]; exact ok_never
  | .Set _ _ _, X, sc, W, hs => by simp only [stE]; exact ok_never
  | .SetComp _ _ _ _, X, sc, W, hs => by simp only [stE]; exact ok_never
  | .DictComp _ _ _ _ _, X, sc, W, hs => by simp only [stE]; exact ok_never
  | .GeneratorExp _ _ _ _, X, sc, W, hs => by simp only [stE]; exact ok_never
  | .Await _ _, X, sc, W, hs => by simp only [stE]; exact ok_never
  | .Yield _ _, X, sc, W, hs => by simp only [stE]; exact ok_never
  | .YieldFrom _ _, X, sc, W, hs => by simp only [stE]; exact ok_never
  | .FormattedValue _ _ _ _, X, sc, W, hs => by simp only [stE]; exact ok_never
  | .JoinedStr _ _, X, sc, W, hs => by simp only [stE]; exact ok_never
  | .Attribute _ _ _, X, sc, W, hs => by simp only [stE]; exact ok_never
  | .Starred _ _, X, sc, W, hs => by simp only [stE]; exact ok_never
  | .Slice _ _ _ _, X, sc, W, hs => by simp only [stE]; exact ok_never
  | .Compare _ [] _ _, X, sc, W, hs => by simp only [stE]; exact ok_never
  | .Compare _ [_] [] _, X, sc, W, hs => by simp only [stE]; exact ok_never
  | .Compare _ [_] (_ :: _ :: _) _, X, sc, W, hs => by simp only [stE]; exact ok_never
  | .Compare _ [_, _] [] _, X, sc, W, hs => by simp only [stE]; exact ok_never
  | .Compare _ [_, _] [_] _, X, sc, W, hs => by simp only [stE]; exact ok_never
  | .Compare _ [_, _] (_ :: _ :: _ :: _) _, X, sc, W, hs => by simp only [stE]; exact ok_never
  | .Compare _ (_ :: _ :: _ :: _) _ _, X, sc, W, hs => by simp only [stE]; exact ok_never
  | .ListComp _ [] _ _, X, sc, W, hs => by simp only [stE]; exact ok_never
  | .ListComp _ (_ :: _ :: _ :: _) _ _, X, sc, W, hs => by simp only [stE]; exact ok_never
theorem And_ok : ∀ (es : List PE_) (X : Cx) (sc : Scope), Wd X c C G → X.env.scope = sc → ∀ pos, PE X (.BoolOp .And es pos) (tE X.K C G (stAnd c sc es)) ∧ PW X (.BoolOp .And es pos) (tT X.K C G (stAnd c sc es)) ∧ isWalk (stAnd c sc es) = false
  | [], X, sc, W, hs, pos => by simp only [stAnd]; exact ⟨pe_never, pw_never, rfl⟩
  | [a], X, sc, W, hs, pos => by
    have ha := E_ok a X sc W hs
    simp only [stAnd]
    have hn : isWalk (noWalk (stE c sc a)) = false := by cases stE c sc a <;> rfl
    rcases noWalk_or (stE c sc a) with h | h
    · rw [h]
      exact ⟨pe_one ha.pe, pw_and1 ha.pt, by rw [← h]; exact hn⟩
    · rw [h]
      exact ⟨pe_never, pw_never, rfl⟩
  | a :: b :: r, X, sc, W, hs, pos => by
    have ha := E_ok a X sc W hs
    obtain ⟨h1, h2, h3⟩ := And_ok (b :: r) X sc W hs pos
    simp only [stAnd]
    exact ⟨pe_an ha.pe h1, pw_an ha.pt h2, rfl⟩
theorem Or_ok : ∀ (es : List PE_) (X : Cx) (sc : Scope), Wd X c C G → X.env.scope = sc → ∀ pos, PE X (.BoolOp .Or es pos) (tE X.K C G (stOr c sc es)) ∧ PW X (.BoolOp .Or es pos) (tT X.K C G (stOr c sc es)) ∧ isWalk (stOr c sc es) = false
  | [], X, sc, W, hs, pos => by simp only [stOr]; exact ⟨pe_never, pw_never, rfl⟩
  | [a], X, sc, W, hs, pos => by
    have ha := E_ok a X sc W hs
    simp only [stOr]
    have hn : isWalk (noWalk (stE c sc a)) = false := by cases stE c sc a <;> rfl
    rcases noWalk_or (stE c sc a) with h | h
    · rw [h]
      exact ⟨pe_one ha.pe, pw_or1 ha.pt, by rw [← h]; exact hn⟩
    · rw [h]
      exact ⟨pe_never, pw_never, rfl⟩
  | a :: b :: r, X, sc, W, hs, pos => by
    have ha := E_ok a X sc W hs
    obtain ⟨h1, h2, h3⟩ := Or_ok (b :: r) X sc W hs pos
    simp only [stOr]
    exact ⟨pe_or_ ha.pe h1, pw_or_ ha.pt h2, rfl⟩
theorem Es_ok : ∀ (es : List PE_) (X : Cx) (sc : Scope), Wd X c C G → X.env.scope = sc → es.any isStar = false → PA X es (tAs X.K C G (stEs c sc es)) ∧ ∀ e r, es = e :: r → PA X r (tAs X.K C G (stEs c sc r))
  | [], X, sc, W, hs, h => by simp only [stEs]; exact ⟨pa_nil', fun _ _ z => nomatch z⟩
  | a :: es, X, sc, W, hs, h => by
    simp only [List.any_cons, Bool.or_eq_false_iff] at h
    have ih := Es_ok es X sc W hs h.2
    simp only [stEs]
    refine ⟨pa_cons' (E_ok a X sc W hs).pe ih.1 h.1, fun e r z => ?_⟩
    injection z with _ z2
    rw [← z2]
    exact ih.1
theorem Ks_ok : ∀ (ks : List Keyword) (X : Cx) (sc : Scope), Wd X c C G → X.env.scope = sc → (ks.all fun q => q.arg.isSome) = true → PK X ks (tKs X.K C G (stKs c sc ks))
  | [], X, sc, W, hs, h => by simp only [stKs]; exact pk_nil'
  | ⟨none, e, p⟩ :: ks, X, sc, W, hs, h => by simp at h
  | ⟨some x, e, p⟩ :: ks, X, sc, W, hs, h => by
    simp only [stKs]
    exact pk_cons' (E_ok e X sc W hs).pe (Ks_ok ks X sc W hs (by simpa using h))
theorem O_ok : ∀ (o : Option PE_) (X : Cx) (sc : Scope), Wd X c C G → X.env.scope = sc → PO X o (tO X.K C G (stO c sc o))
  | none, X, sc, W, hs => by simp only [stO]; exact po_no
  | some e, X, sc, W, hs => by simp only [stO]; exact po_yes (E_ok e X sc W hs).pe
theorem C_ok : ∀ (ifs : List PE_) (X : Cx) (sc : Scope), Wd X c C G → X.env.scope = sc → ifs.length ≤ 1 → PTs X ifs (tC X.K C G (stC c sc ifs))
  | [], X, sc, W, hs, h => by
    simp only [stC]
    refine ⟨fun pins s σ H Q I ⟨g, P, δ, fps, b, δ', f, h, q⟩ => pts_nil.run pins s σ H Q I ?_⟩
    simp only [evC, Option.some.injEq, Prod.mk.injEq] at h
    obtain ⟨rfl, rfl⟩ := h
    exact q H fps f .refl
  | [e], X, sc, W, hs, h => by
    simp only [stC]
    refine ⟨fun pins s σ H Q I ⟨g, P, δ, fps, b, δ', f, h, q⟩ => (pts_one (E_ok e X sc W hs).pt).run pins s σ H Q I ?_⟩
    simp only [evC] at h
    split at h
    · rename_i t δ1 e1
      split at h
      · rename_i b' hb
        simp only [Option.some.injEq, Prod.mk.injEq] at h
        obtain ⟨rfl, rfl⟩ := h
        exact ⟨g, P, δ, fps, t, _, _, f, e1, hb, q⟩
      · cases h
    · cases h
  | _ :: _ :: _, X, sc, W, hs, h => by simp at h
end
end
end PP

/-! PPRun: statements' readings; stores. -/
namespace PP
open PySem PySem.Spec PyProof.Rows L2
/-- what a statement may do -/
structure EvS (P : List Nat) (H : Hp) (δ : PP.St) (fps : Nat → List Addr) (H' : Hp) (δ' : PP.St) (fps' : Nat → List Addr) : Prop where
  kp : Kp (fun a => ∃ i, i ∉ P ∧ clm δ fps i a) H H'
  sub : ∀ i a, clm δ' fps' i a → clm δ fps i a ∨ H a = none
  len : δ'.length = δ.length
/-- what is given back -/
structure RO (K : Fg) (g : Gh) (H : Hp) (δ : PP.St) (fps : Nat → List Addr) (v : V) (t : Tm) (fp : List Addr) : Prop where
  rep : Rp K H v t.d fp
  cl : ∀ i a, clm δ fps i a → a ∈ fp → i ∈ t.S
  u : t.u = true → fp.Nodup ∧ ∀ a ∈ fp, g.F0 a = none ∧ ((∃ i ∈ t.S, clm δ fps i a) ∨ Away δ fps a)
  fr : t.fr = true → ∃ a tl, fp = a :: tl ∧ a ∉ tl ∧ v = .ref a ∧ g.F0 a = none ∧ ((∃ i ∈ t.S, clm δ fps i a) ∨ Away δ fps a)
  reach : ∀ a ∈ fp, g.R a ∨ g.F0 a = none ∨ ∃ i, (i, a) ∈ g.IO
  io : ioFree δ t.S = true
/-- what is asked of the end -/
def EndOk (K : Fg) (g : Gh) (P : List Nat) (H : Hp) (δ : PP.St) (fps : Nat → List Addr) (D : Ends) : Outc → Prop
  | .nx δ' => ∀ σ' H' fps', FR K g σ' H' δ' fps' → EvS P H δ fps H' δ' fps' → D.nx σ' H'
  | .brk δ' => ∀ σ' H' fps', FR K g σ' H' δ' fps' → EvS P H δ fps H' δ' fps' → D.bk σ' H'
  | .cont δ' => ∀ σ' H' fps', FR K g σ' H' δ' fps' → EvS P H δ fps H' δ' fps' → D.ct σ' H'
  | .ret t δ' => ∀ v σ' H' fps' fp, FR K g σ' H' δ' fps' → RO K g H' δ' fps' v t fp → D.rt v H'
def tS (K : Fg) (C : Calls) (G : Sigs) (wf : Nat) (s : S) : L2.TS := fun D σ H => ∃ g P δ fps o, FR K g σ H δ fps ∧ evS C G wf P s δ = some o ∧ EndOk K g P H δ fps D o
def tSs (K : Fg) (C : Calls) (G : Sigs) (wf : Nat) (s : Ss) : L2.TS := fun D σ H => ∃ g P δ fps o, FR K g σ H δ fps ∧ evSs C G wf P s δ = some o ∧ EndOk K g P H δ fps D o
section
variable {K : Fg} {g : Gh} {P P' : List Nat} {σ : L2.St} {H H1 H2 H' Hs : Hp} {δ δ1 δ2 δ' : PP.St} {fps fps1 fps2 fps' : Nat → List Addr} {v : V} {t : Tm} {fp : List Addr} {D : Ends} {o : Outc} {i : Nat}
theorem EvS.refl : EvS P H δ fps H δ fps := ⟨.refl, fun _ _ c => .inl c, rfl⟩
theorem Ev.s (e : Ev P H δ fps H' δ' fps') : EvS P H δ fps H' δ' fps' := ⟨e.kp, fun i a c => .inl (e.sub i a c), e.len⟩
theorem EvS.back (e : EvS P H δ fps H1 δ1 fps1) : ∀ x, H1 x = none → H x = none := fun _ h => e.kp.none h
theorem EvS.trans (a : EvS P H δ fps H1 δ1 fps1) (b : EvS P H1 δ1 fps1 H2 δ2 fps2) : EvS P H δ fps H2 δ2 fps2 where
  kp := fun x o h => by
    rcases a.kp x o h with z | ⟨m, xs, ys, rfl, z⟩
    · rcases b.kp x o z with y | ⟨⟨i, n, c⟩, xs, ys, rfl, y⟩
      · exact .inl y
      · rcases a.sub i x c with c | c
        · exact .inr ⟨⟨i, n, c⟩, xs, ys, rfl, y⟩
        · rw [c] at h; cases h
    · rcases b.kp x _ z with y | ⟨_, xs2, ys2, _, y⟩
      · exact .inr ⟨m, xs, ys, rfl, y⟩
      · exact .inr ⟨m, xs, ys2, rfl, y⟩
  sub := fun i x c => by
    rcases b.sub i x c with c | c
    · exact a.sub i x c
    · exact .inr (a.back x c)
  len := b.len.trans a.len
theorem EvS.mono (a : EvS P' H δ fps H1 δ1 fps1) (h : ∀ i ∈ P, i ∈ P') : EvS P H δ fps H1 δ1 fps1 := ⟨a.kp.mono fun x ⟨i, n, c⟩ => ⟨i, fun z => n (h i z), c⟩, a.sub, a.len⟩
theorem EndOk.after (e : EvS P H δ fps H1 δ1 fps1) (h : EndOk K g P H δ fps D o) : EndOk K g P H1 δ1 fps1 D o := by
  cases o with
  | nx δ' => exact fun σ' H' fps' f e' => h σ' H' fps' f (e.trans e')
  | brk δ' => exact fun σ' H' fps' f e' => h σ' H' fps' f (e.trans e')
  | cont δ' => exact fun σ' H' fps' f e' => h σ' H' fps' f (e.trans e')
  | ret t δ' => exact h
/-- a value stored into a slot -/
theorem FR.store (f : FR K g σ H δ fps) (to : TO K g Hs H δ fps v t fp) (b0 : ∀ x, Hs x = none → g.F0 x = none) (hi : i < δ.length) :
    FR K g (σ.set i (some v)) H (δ.set i (some (slOf i t))) (setF fps i fp) ∧ ∀ j a, clm (δ.set i (some (slOf i t))) (setF fps i fp) j a → clm δ fps j a ∨ Hs a = none := by
  unfold slOf
  split
  · rename_i hu
    rw [Bool.and_eq_true] at hu
    obtain ⟨nd, own⟩ := to.u hu.1
    have hS : ∀ j ∈ t.S, j = i := fun j hj => by
      have := List.all_eq_true.mp hu.2 j hj
      simpa using this
    have own' : ∀ a ∈ fp, dclm δ fps i a ∨ (Hs a = none ∧ Away δ fps a) := fun a m => by
      rcases own a m with ⟨j, hj, c⟩ | q
      · rw [hS j hj] at c; exact .inl c
      · exact .inr q
    have mem : ∀ a, clS ⟨t.d, .deep, []⟩ fp a → a ∈ fp := fun a c => c.mem
    refine ⟨f.put (s := ⟨t.d, .deep, []⟩) hi to.rep (fun k => by rcases k with k | k <;> cases k) (fun k => by cases k) (fun a c => ?_) (fun _ => ⟨nd, rfl⟩) (fun j u a hj c e m => ?_) (fun j a hj c m => ?_) to.reach to.priv, fun j a c => ?_⟩
    · rcases own' a (mem a c) with c | ⟨z, _⟩
      · obtain ⟨s, e, k, m⟩ := id c
        exact f.mine i s a e (by rw [k]; exact fun z => nomatch z) c.clm
      · exact b0 a z
    · rcases own' a (mem a c) with c | ⟨_, z⟩
      · exact f.excl i j u a (Ne.symm hj) c.clm e m
      · exact absurd m (z j u e)
    · exact absurd (hS j (to.cl j a c m)) hj
    · rcases (clm_set hi).mp c with ⟨_, c1⟩ | ⟨rfl, c1⟩
      · exact .inl c1
      · rcases own' a (mem a c1) with c | ⟨z, _⟩
        · exact .inl c.clm
        · exact .inr z
  · split
    · rename_i hf
      obtain ⟨a0, tl, e0, n0, ev, z0, aw⟩ := to.fr hf
      have top : ∀ a, clS ⟨t.d, .own, t.Si⟩ fp a → a = a0 := fun a c => by
        rcases c with ⟨k, _⟩ | ⟨_, m⟩
        · cases k
        · rw [e0] at m; simpa using m.symm
      refine ⟨f.put (s := ⟨t.d, .own, t.Si⟩) hi to.rep (fun _ => ⟨a0, tl, e0, n0, ev⟩) (fun k => by cases k) (fun a c => by rw [top a c]; exact b0 a0 z0) (fun k => by cases k) (fun j u a hj c e m => ?_) (fun j a hj c m => ?_) to.reach to.priv, fun j a c => ?_⟩
      · rw [top a c] at m
        exact absurd m (aw j u e)
      · have hne : a ≠ a0 := fun z => by rw [z] at c; exact aw.not c
        refine ⟨to.cli j a c m fun z => ?_, fun z => hne (top a z)⟩
        rw [ev] at z
        injection z with z
        exact hne z.symm
      · rcases (clm_set hi).mp c with ⟨_, c1⟩ | ⟨rfl, c1⟩
        · exact .inl c1
        · rw [top a c1]; exact .inr z0
    · have no : ∀ a, ¬ clS ⟨t.d, .sh, t.S⟩ fp a := fun a c => by rcases c with ⟨k, _⟩ | ⟨k | k, _⟩ <;> cases k
      obtain ⟨f2, o2⟩ := f.bind (d := t.d) (S := t.S) hi to.rep to.cl to.reach to.priv
      exact ⟨f2, fun j a c => .inl (o2.clm j a c).1⟩
end
end PP

/-! PPStmt: the statements, one by one. -/
namespace PP
open PySem PySem.Spec PyProof.Rows L2
theorem _root_.L2.PS.imp {X : Cx} {e : Stmt} {t t' : L2.TS} (h : PS X e t) (i : ∀ D σ H, t' D σ H → t D σ H) : PS X e t' := ⟨fun pins s σ H D I q => h.run pins s σ H D I (i D σ H q)⟩
theorem _root_.L2.PSs.imp {X : Cx} {e : List Stmt} {t t' : L2.TS} (h : PSs X e t) (i : ∀ D σ H, t' D σ H → t D σ H) : PSs X e t' := ⟨fun pins s σ H D I q => h.run pins s σ H D I (i D σ H q)⟩
section
variable {X : Cx} {C : Calls} {G : Sigs} {wf : Nat} {a b e : PE_} {p q : E} {pos : Pos} {st : Stmt}
theorem ps_nv : PS X st (tS X.K C G wf .never) := ⟨fun pins s σ H D I h => by
  obtain ⟨g, P, δ, fps, o, f, h, _⟩ := h
  simp [evS] at h⟩
theorem ps_ps {w : L2.TS} (h : PS X st tNext) : PS X st (tS X.K C G wf .pass) := h.imp fun D σ H ⟨g, P, δ, fps, o, f, h, q⟩ => by
  simp only [evS, Option.some.injEq] at h
  subst h
  exact q σ H fps f .refl
theorem ps_bk : PS X (.Break pos) (tS X.K C G wf .brk) := ps_break.imp fun D σ H ⟨g, P, δ, fps, o, f, h, q⟩ => by
  simp only [evS, Option.some.injEq] at h
  subst h
  exact q σ H fps f .refl
theorem ps_ct : PS X (.Continue pos) (tS X.K C G wf .cont) := ps_continue.imp fun D σ H ⟨g, P, δ, fps, o, f, h, q⟩ => by
  simp only [evS, Option.some.injEq] at h
  subst h
  exact q σ H fps f .refl
theorem ps_ex (he : PE X e (tE X.K C G p)) (hs : swapsWith e none pos.line X.env = pure false) : PS X (.Expr e pos) (tS X.K C G wf (.ex p)) := (ps_expr he hs).imp fun D σ H ⟨g, P, δ, fps, o, f, h, q⟩ => by
  simp only [evS] at h
  split at h
  · rename_i t δ1 e1
    simp only [Option.some.injEq] at h
    subst h
    exact ⟨g, P, δ, fps, t, δ1, f, e1, fun v H1 fps1 fp f1 ev to => q σ H1 fps1 f1 ev.s⟩
  · cases h
theorem ioFree_nil {δ : PP.St} : ioFree δ [] = true := rfl
theorem ps_rN : PS X (.Return none pos) (tS X.K C G wf .retN) := ps_retN.imp fun D σ H ⟨g, P, δ, fps, o, f, h, q⟩ => by
  simp only [evS, Option.some.injEq] at h
  subst h
  exact q .non σ H fps [] f ⟨.non, (fun _ _ _ h => nomatch h), (fun h => nomatch h), (fun h => nomatch h), (fun _ h => nomatch h), ioFree_nil⟩
theorem RO.of {K : Fg} {g : Gh} {σ : L2.St} {Hs H : Hp} {δ : PP.St} {fps : Nat → List Addr} {v : V} {t : Tm} {fp : List Addr} (f : FR K g σ H δ fps) (to : TO K g Hs H δ fps v t fp) (b0 : ∀ x, Hs x = none → g.F0 x = none) (io : ioFree δ t.S = true) : RO K g H δ fps v t fp := by
  refine ⟨to.rep, to.cl, fun h => ?_, fun h => ?_, to.reach, io⟩
  · obtain ⟨n, q⟩ := to.u h
    refine ⟨n, fun a m => ?_⟩
    rcases q a m with ⟨i, hi, c⟩ | ⟨z, aw⟩
    · refine ⟨?_, .inl ⟨i, hi, c.clm⟩⟩
      obtain ⟨s, e, k, m⟩ := id c
      exact f.mine i s a e (by rw [k]; exact fun z => nomatch z) c.clm
    · exact ⟨b0 a z, .inr aw⟩
  · obtain ⟨a, tl, h1, h2, h3, h4, h5⟩ := to.fr h
    exact ⟨a, tl, h1, h2, h3, b0 a h4, .inr h5⟩
theorem ps_rt (he : PE X e (tE X.K C G p)) : PS X (.Return (some e) pos) (tS X.K C G wf (.ret p)) := (ps_ret he).imp fun D σ H ⟨g, P, δ, fps, o, f, h, q⟩ => by
  simp only [evS] at h
  split at h
  · rename_i t δ1 e1
    split at h
    · rename_i io
      simp only [Option.some.injEq] at h
      subst h
      exact ⟨g, P, δ, fps, t, δ1, f, e1, fun v H1 fps1 fp f1 ev to => q v σ H1 fps1 fp f1 (.of f1 to f.back0 io)⟩
    · cases h
  · cases h
theorem ps_rv {x : Str} {i : Nat} {pos' : Pos} (he : PE X (.Name x pos') (tVar i)) : PS X (.Return (some (.Name x pos')) pos) (tS X.K C G wf (.retV i)) := (ps_ret he).imp fun D σ H ⟨g, P, δ, fps, o, f, h, q⟩ => by
  simp only [evS] at h
  split at h
  · rename_i t s er es
    split at h
    · rename_i io
      simp only [Option.some.injEq] at h
      subst h
      obtain ⟨v, hv, to⟩ := f.read (Hs := H) (g := g) er
      refine ⟨v, hv, q v σ H fps (fps i) f ?_⟩
      have r := RO.of f to f.back0 io
      refine ⟨r.rep, r.cl, r.u, fun h => ?_, r.reach, io⟩
      simp only [Bool.and_eq_true] at h
      obtain ⟨h1, h2⟩ := h
      have rp := to.rep
      obtain ⟨a, tl, e1, e2, e3⟩ : ∃ a tl, fps i = a :: tl ∧ a ∉ tl ∧ v = .ref a := by
        generalize fps i = fx at rp
        cases hd : t.d with
        | lst l =>
          rw [hd] at rp
          cases rp with
          | lst _ _ n => exact ⟨_, _, rfl, n, rfl⟩
        | _ => rw [hd] at h2; cases h2
      have ca : clm δ fps i a := by
        refine ⟨s, es, ?_⟩
        cases hs : s.k with
        | sh => rw [hs] at h1; cases h1
        | own => exact .inr ⟨.inl rfl, by rw [e1]; rfl⟩
        | deep => exact .inl ⟨rfl, by rw [e1]; exact List.mem_cons_self⟩
        | io => exact .inr ⟨.inr rfl, by rw [e1]; rfl⟩
      have hi : i ∈ t.S := to.cl i a ca (by rw [e1]; exact List.mem_cons_self)
      refine ⟨a, tl, e1, e2, e3, f.mine i s a es (fun z => ?_) ca, .inl ⟨i, hi, ca⟩⟩
      have := List.all_eq_true.mp io i hi
      rw [es] at this
      simp [z] at this
    · cases h
  · cases h
/-- a name gets a value -/
theorem asg_ok {K : Fg} {i : Nat} {D : Ends} {σ : L2.St} {H : Hp} (h : tS K C G wf (.asg (.nm i) p) D σ H) : tE K C G p σ H fun v H1 => gName i v σ H1 D.nx := by
  obtain ⟨g, P, δ, fps, o, f, h, q⟩ := h
  simp only [evS] at h
  split at h
  · rename_i t δ1 e1
    split at h
    · rename_i hi
      simp only [Option.some.injEq] at h
      subst h
      refine ⟨g, P, δ, fps, t, δ1, f, e1, fun v H1 fps1 fp f1 ev to => ?_⟩
      obtain ⟨f2, c2⟩ := f1.store to f.back0 hi.1
      refine q _ H1 _ f2 ⟨ev.kp, fun j a c => ?_, by rw [List.length_set]; exact ev.len⟩
      rcases c2 j a c with c | c
      · exact .inl (ev.sub j a c)
      · exact .inr c
    · cases h
  · cases h
theorem asgT_ok {K : Fg} {l : List T} {D : Ends} {σ : L2.St} {H : Hp} (h : tS K C G wf (.asg (.tp l) p) D σ H) : tE K C G p σ H fun v H1 => tG K (.tp l) v σ H1 D.nx := by
  obtain ⟨g, P, δ, fps, o, f, h, q⟩ := h
  simp only [evS] at h
  split at h
  · rename_i t δ1 e1
    split at h
    · split at h
      · rename_i δ2 hb
        simp only [Option.some.injEq] at h
        subst h
        refine ⟨g, P, δ, fps, t, δ1, f, e1, fun v H1 fps1 fp f1 ev to => ⟨t.S, g, δ1, fps1, t.d, fp, δ2, f1, to.rep, hb, to.cl, to.reach, to.priv, fun σ2 fps2 f2 o2 => ?_⟩⟩
        refine q σ2 H1 fps2 f2 (ev.s.trans ⟨.refl, fun i a c => .inl (o2.clm i a c).1, o2.len.2⟩)
      · cases h
    · cases h
  · cases h
/-- a claimed list's item set, or one more -/
theorem grow_ok {K : Fg} {g : Gh} {σ : L2.St} {Hs H H' : Hp} {δ : PP.St} {fps : Nat → List Addr} {x : Nat} {s : Sl} {v : V} {t : Tm} {fe f1 f2 tl : List Addr} {a : Addr} {d : PP.D} (f : FR K g σ H δ fps) (e : δ[x]? = some (some s)) (hk : s.k.cl = true) (hS : x ∉ t.S) (hf : fps x = a :: tl) (na : a ∉ tl) (hv : σ[x]? = some (some (.ref a)))
    (to : TO K g Hs H δ fps v t fe) (b0 : ∀ x, Hs x = none → g.F0 x = none) (kp : Kp (fun b => b = a) H H') (sl : (f1 ++ f2).Sublist tl) (rp : Rp K H' (.ref a) d (a :: (f1 ++ (fe ++ f2)))) :
    FR K g σ H' (grown x s d t δ) (setF fps x (a :: (f1 ++ (fe ++ f2)))) ∧ ∀ i b, clm (grown x s d t δ) (setF fps x (a :: (f1 ++ (fe ++ f2)))) i b → clm δ fps i b ∨ Hs b = none := by
  have hsh : s.k ≠ .sh := fun z => by rw [z] at hk; cases hk
  have ca : clm δ fps x a := by
    refine ⟨s, e, ?_⟩
    cases hs : s.k with
    | sh => exact absurd hs hsh
    | own => exact .inr ⟨.inl rfl, by rw [hf]; rfl⟩
    | deep => exact .inl ⟨rfl, by rw [hf]; exact List.mem_cons_self⟩
    | io => exact .inr ⟨.inr rfl, by rw [hf]; rfl⟩
  have nfe : a ∉ fe := fun m => hS (to.cl x a ca m)
  have mtl : ∀ b, b ∈ f1 ++ (fe ++ f2) → b ∈ tl ∨ b ∈ fe := fun b m => by
    simp only [List.mem_append] at m
    rcases m with m | m | m
    · exact .inl (sl.subset (List.mem_append_left _ m))
    · exact .inr m
    · exact .inl (sl.subset (List.mem_append_right _ m))
  have nat : a ∉ f1 ++ (fe ++ f2) := fun m => (mtl a m).elim na nfe
  have kp2 : Kp (fun b => b = a ∨ (s.k = .deep ∧ b ∈ tl)) H H' := kp.mono fun b z => .inl z
  have mx : ∀ b ∈ tl, b ∈ fps x := fun b m => by rw [hf]; exact List.mem_cons_of_mem _ m
  have re : ∀ b ∈ f1 ++ (fe ++ f2), g.R b ∨ g.F0 b = none ∨ ∃ i, (i, b) ∈ g.IO := fun b m => (mtl b m).elim (fun m => f.reach x s b e (mx b m)) (to.reach b)
  have pr : ∀ b ∈ f1 ++ (fe ++ f2), ¬ g.X b := fun b m => (mtl b m).elim (fun m => f.priv x s b e (mx b m)) (to.priv b)
  unfold grown
  by_cases hu : (t.un && t.S.isEmpty) = true
  · rw [if_pos hu]
    rw [Bool.and_eq_true] at hu
    have hS0 : t.S = [] := by simpa using hu.2
    obtain ⟨nd, own⟩ := un_fp to hu.1
    have fresh : ∀ b ∈ fe, Hs b = none ∧ Away δ fps b := fun b m => by
      rcases own b m with ⟨i, hi, _⟩ | q
      · rw [hS0] at hi; cases hi
      · exact q
    have F := f.mut (k := s.k) (S := s.S) (d := d) e hf hv hsh (.inl rfl) kp2 rp nat (fun i b hi c m => by
        rcases mtl b m with m | m
        · exact (f.excl i x s b hi c e (mx b m)).1
        · exact ((fresh b m).2.not c).elim) (fun hd => by
        obtain ⟨d1, d2⟩ := f.deep x s e hd
        rw [hf] at d1
        refine ⟨?_, d2, fun b m => ?_⟩
        · rw [List.nodup_cons] at d1
          have n12 := d1.2.sublist sl
          refine List.nodup_cons.mpr ⟨nat, ?_⟩
          rw [List.nodup_append] at n12 ⊢
          obtain ⟨n1, n2, n3⟩ := n12
          refine ⟨n1, ?_, fun b m c m2 ebc => ?_⟩
          · rw [List.nodup_append]
            refine ⟨nd, n2, fun b m c m2 ebc => ?_⟩
            subst ebc
            exact (fresh b m).2 x s e (mx b (sl.subset (List.mem_append_right _ m2)))
          · subst ebc
            rcases List.mem_append.mp m2 with m2 | m2
            · exact (fresh b m2).2 x s e (mx b (sl.subset (List.mem_append_left _ m)))
            · exact n3 b m b m2 rfl
        · rcases mtl b m with m | m
          · exact .inl (mx b m)
          · exact .inr ⟨(fresh b m).2, b0 b (fresh b m).1⟩) re pr
    refine ⟨F, fun i b c => ?_⟩
    rcases mut_clm e c with ⟨_, c1⟩ | ⟨rfl, c1⟩
    · exact .inl c1
    · rcases c1 with ⟨k, m⟩ | ⟨_, m⟩
      · rcases List.mem_cons.mp m with rfl | m
        · exact .inl ca
        · rcases mtl b m with m | m
          · exact .inl ⟨s, e, .inl ⟨k, mx b m⟩⟩
          · exact .inr (fresh b m).1
      · have : b = a := by simpa using m.symm
        rw [this]; exact .inl ca
  · rw [if_neg hu]
    have kcase : (if s.k.dp = true then Kd.own else s.k) = s.k ∨ (s.k = .deep ∧ (if s.k.dp = true then Kd.own else s.k) = .own) := by
      cases hs : s.k <;> simp [Kd.dp]
    have kdp : (if s.k.dp = true then Kd.own else s.k) ≠ .deep := by
      cases hs : s.k <;> simp [Kd.dp]
    have F := f.mut (k := if s.k.dp = true then .own else s.k) (S := s.S ++ t.S) (d := d) e hf hv hsh kcase kp2 rp nat (fun i b hi c m => by
        rcases mtl b m with m | m
        · exact List.mem_append_left _ (f.excl i x s b hi c e (mx b m)).1
        · exact List.mem_append_right _ (to.cl i b c m)) (fun z => absurd z kdp) re pr
    refine ⟨F, fun i b c => ?_⟩
    rcases mut_clm e c with ⟨_, c1⟩ | ⟨rfl, c1⟩
    · exact .inl c1
    · rcases c1 with ⟨k, _⟩ | ⟨_, m⟩
      · exact absurd k kdp
      · have : b = a := by simpa using m.symm
        rw [this]; exact .inl ca
end
end PP

/-! PPStmt2: lists changed; loops. -/
namespace PP
open PySem PySem.Spec PyProof.Rows L2
section
variable {K : Fg} {H : Hp} {a : Addr} {vs : List V} {ds : List D} {tl fe : List Addr} {v : V} {d : PP.D}
theorem upd_set {j : Nat} (e : H a = some (.lst vs)) (r : RpAll K H vs ds tl) (na : a ∉ tl) (rv : Rp K H v d fe) (nf : a ∉ fe) (hj : j < ds.length) :
    ∃ f1 f2, (f1 ++ f2).Sublist tl ∧ Rp K (upd H a (.lst (vs.set j v))) (.ref a) (.lst (ds.set j d)) (a :: (f1 ++ (fe ++ f2))) := by
  obtain ⟨f1, f2, h1, h2⟩ := r.set rv hj
  have kp : Kp (fun b => b = a) H (upd H a (.lst (vs.set j v))) := Kp.put e rfl
  have nn : a ∉ f1 ++ (fe ++ f2) := fun m => by
    simp only [List.mem_append] at m
    rcases m with m | m | m
    · exact na (h2.subset (List.mem_append_left _ m))
    · exact nf m
    · exact na (h2.subset (List.mem_append_right _ m))
  exact ⟨f1, f2, h2, .lst upd_same (h1.stay kp fun b m z => nn (by rw [← z]; exact m)) nn⟩
theorem upd_app (e : H a = some (.lst vs)) (r : RpAll K H vs ds tl) (na : a ∉ tl) (rv : Rp K H v d fe) (nf : a ∉ fe) : Rp K (upd H a (.lst (vs ++ [v]))) (.ref a) (.lst (ds ++ [d])) (a :: (tl ++ (fe ++ []))) := by
  have kp : Kp (fun b => b = a) H (upd H a (.lst (vs ++ [v]))) := Kp.put e rfl
  have h1 := r.append (by simpa using RpAll.cons rv .nil)
  have nn : a ∉ tl ++ (fe ++ []) := fun m => by
    simp only [List.append_nil, List.mem_append] at m
    exact m.elim na nf
  rw [← List.append_nil fe] at h1
  exact .lst upd_same (h1.stay kp fun b m z => nn (by rw [← z]; exact m)) nn
end
theorem slot_lst {K : Fg} {g : Gh} {σ : L2.St} {H : Hp} {δ : PP.St} {fps : Nat → List Addr} {x : Nat} {s : Sl} {ds : List D} (f : FR K g σ H δ fps) (e : δ[x]? = some (some s)) (h : s.d = .lst ds) : ∃ a vs tl, σ[x]? = some (some (.ref a)) ∧ fps x = a :: tl ∧ a ∉ tl ∧ H a = some (.lst vs) ∧ RpAll K H vs ds tl := by
  obtain ⟨w, w1, w2⟩ := f.rep x s e
  rw [h] at w2
  generalize hg : fps x = fx at w2
  cases w2 with
  | lst e r n => exact ⟨_, _, _, w1, rfl, n, e, r⟩
theorem claim_top {K : Fg} {g : Gh} {σ : L2.St} {H : Hp} {δ : PP.St} {fps : Nat → List Addr} {x : Nat} {s : Sl} {a : Addr} {tl : List Addr} (e : δ[x]? = some (some s)) (hk : s.k.cl = true) (hf : fps x = a :: tl) : clm δ fps x a := by
  refine ⟨s, e, ?_⟩
  cases hs : s.k with
  | sh => rw [hs] at hk; cases hk
  | own => exact .inr ⟨.inl rfl, by rw [hf]; rfl⟩
  | deep => exact .inl ⟨rfl, by rw [hf]; exact List.mem_cons_self⟩
  | io => exact .inr ⟨.inr rfl, by rw [hf]; rfl⟩
theorem ixN_lt {n : Nat} {k : Int} {j : Nat} (h : ixN n k = some j) : j < n := (ixN_seq h).2.1
theorem put_lst {d d' v : D} {k : Int} (h : putAt d [k] v = some d') : ∃ ds j, d = .lst ds ∧ ixN ds.length k = some j ∧ d' = .lst (ds.set j v) := by
  cases d with
  | lst ds =>
    simp only [putAt] at h
    obtain ⟨j, h1, h2⟩ := Option.map_eq_some_iff.mp h
    exact ⟨_, j, rfl, h1, h2.symm⟩
  | _ => simp [putAt] at h
theorem app_lst {d d' v : D} (h : appAt d [] v = some d') : ∃ ds, d = .lst ds ∧ ds.length < sizeLine ∧ d' = .lst (ds ++ [v]) := by
  cases d with
  | lst ds =>
    simp only [appAt] at h
    split at h
    · simp only [Option.some.injEq] at h
      exact ⟨_, rfl, by assumption, h.symm⟩
    · cases h
  | _ => simp [appAt] at h
theorem int_is {K : Fg} {H : Hp} {x : V} {i : Int} {fp : List Addr} (h : Rp K H x (.int i) fp) : x = .int i := by cases h; rfl
theorem EvS.grow {P : List Nat} {H H2 H3 : Hp} {δ δ2 δ3 : PP.St} {fps fps2 fps3 : Nat → List Addr} (e : EvS P H δ fps H2 δ2 fps2) (kp : Kp (fun a => ∃ i, i ∉ P ∧ clm δ2 fps2 i a) H2 H3) (cl : ∀ i b, clm δ3 fps3 i b → clm δ2 fps2 i b ∨ H b = none) (len : δ3.length = δ2.length) : EvS P H δ fps H3 δ3 fps3 where
  kp := (e.trans (δ2 := δ2) (fps2 := fps2) ⟨kp, fun _ _ c => .inl c, rfl⟩).kp
  sub := fun i b c => (cl i b c).elim (e.sub i b) .inr
  len := len.trans e.len
section
variable {X : Cx} {C : Calls} {G : Sigs} {wf : Nat} {a b e : PE_} {p q : E} {pos : Pos} {st : Stmt}
theorem len_grown {x : Nat} {s : Sl} {d : D} {t : Tm} {δ : PP.St} : (grown x s d t δ).length = δ.length := by unfold grown; rw [List.length_set, kill_len]
/-- x[i] = e -/
theorem put_ok {K : Fg} {x : Nat} {D : Ends} {σ : L2.St} {H : Hp} (h : tS K C G wf (.put x (.cons p .nil) q) D σ H) : tE K C G q σ H fun v H1 => gSub (tVar x) (tE K C G p) rSetL v σ H1 D.nx := by
  obtain ⟨g, P, δ, fps, o, f, h, qq⟩ := h
  simp only [evS] at h
  split at h
  · rename_i v δ1 e1
    simp only [evEs] at h
    split at h
    · rename_i a0 ps δ2 er e2
      split at e2
      · rename_i ix δ3 e3
        simp only [Option.some.injEq, Prod.mk.injEq] at e2
        obtain ⟨rfl, rfl⟩ := e2
        split at h
        · rename_i s es
          split at h
          · rename_i hk
            simp only [Bool.and_eq_true, Bool.not_eq_true', List.contains_eq_mem, decide_eq_false_iff_not] at hk
            split at h
            · rename_i k hks
              split at h
              · rename_i d hp
                simp only [Option.some.injEq] at h
                subst h
                have hik : ix.d = .int k := by
                  simp only [intsT] at hks
                  split at hks
                  · rename_i i hi
                    simp only [Option.map_some, Option.some.injEq, List.cons.injEq, and_true] at hks
                    rw [hi, hks]
                  · cases hks
                obtain ⟨ds, j, h1, h2, h3⟩ := put_lst hp
                refine ⟨g, P, δ, fps, v, δ1, f, e1, fun w H1 fps1 fe f1 ev1 to => ?_⟩
                obtain ⟨w0, hw0, _⟩ := f1.read (Hs := H) (g := g) er
                refine ⟨w0, hw0, g.hide δ1 fps1 fe, P ++ v.S, δ1, fps1, ix, δ3, f1.hide to.ex, e3, fun wi H2 fps2 fi f2h ev2 toi => ?_⟩
                have f2 := f2h.shown
                have to2 := to.later ev2 f2h mem_r
                obtain ⟨a, vs, tl, g1, g2, g3, g4, g5⟩ := slot_lst f2 es h1
                rw [hw0] at g1
                have : w0 = .ref a := Option.some.inj (Option.some.inj g1)
                subst this
                have ri := toi.rep
                rw [hik] at ri
                have hwi := int_is ri
                subst hwi
                have ca := claim_top (K := K) (g := g) (σ := σ) (H := H2) es hk.1.1 g2
                have nfe : a ∉ fe := fun m => hk.2 (to2.cl x a ca m)
                obtain ⟨fa, fb, u1, u2⟩ := upd_set g4 g5 g3 to2.rep nfe (ixN_lt h2)
                refine ⟨a, vs, k, j, rfl, rfl, g4, by rw [g5.length]; exact h2, ?_⟩
                have kpa : Kp (fun b => b = a) H2 (upd H2 a (.lst (vs.set j w))) := Kp.put g4 rfl
                have ev := ev1.trans (ev2.mono mem_l)
                rw [← h3] at u2
                obtain ⟨F, cl⟩ := grow_ok f2 es hk.1.1 hk.2 g2 g3 hw0 to2 f.back0 kpa u1 u2
                exact qq σ _ _ F (ev.s.grow (kpa.mono fun b z => ⟨x, hk.1.2, by rw [z]; exact ca⟩) cl len_grown)
              · cases h
            · cases h
          · cases h
        · cases h
      · cases e2
    · cases h
  · cases h
/-- x.append(e) -/
theorem app_ok {K : Fg} {x : Nat} {D : Ends} {σ : L2.St} {H : Hp} (h : tS K C G wf (.app x .nil q) D σ H) : tBM K "list" rAppend (tVar x) (tCons (tE K C G q) tNil) σ H (fun _ H1 => D.nx σ H1) := by
  obtain ⟨g, P, δ, fps, o, f, h, qq⟩ := h
  simp only [evS] at h
  split at h
  · rename_i a0 v δ2 er e1
    split at h
    · cases h
    · rename_i hl
      split at h
      · rename_i s es
        split at h
        · rename_i hk
          simp only [Bool.and_eq_true, Bool.not_eq_true', List.contains_eq_mem, decide_eq_false_iff_not] at hk
          split at h
          · rename_i d hp
            simp only [Option.some.injEq] at h
            subst h
            obtain ⟨ds, h1, hz, h3⟩ := app_lst hp
            obtain ⟨w0, hw0, to0⟩ := f.read (Hs := H) (g := g) er
            have r0 := to0.rep
            have ty : tyV K "list" w0 H := by
              generalize fps x = fx at r0
              cases hd : a0.d with
              | lst l =>
                rw [hd] at r0
                cases r0 with
                | lst e _ _ => exact .inl ⟨rfl, _, .of e⟩
              | _ => rw [hd] at hl; simp [isLst] at hl
            refine ⟨w0, hw0, ty, g, P, δ, fps, v, δ2, f, e1, fun w H2 fps2 fe f2 ev to => ?_⟩
            obtain ⟨a, vs, tl, g1, g2, g3, g4, g5⟩ := slot_lst f2 es h1
            rw [hw0] at g1
            have : w0 = .ref a := Option.some.inj (Option.some.inj g1)
            subst this
            have ca := claim_top (K := K) (g := g) (σ := σ) (H := H2) es hk.1.1 g2
            have nfe : a ∉ fe := fun m => hk.2 (to.cl x a ca m)
            have u2 := upd_app g4 g5 g3 to.rep nfe
            refine ⟨a, vs, w, rfl, rfl, g4, by rw [g5.length]; exact hz, ?_⟩
            have kpa : Kp (fun b => b = a) H2 (upd H2 a (.lst (vs ++ [w]))) := Kp.put g4 rfl
            rw [← h3] at u2
            obtain ⟨F, cl⟩ := grow_ok f2 es hk.1.1 hk.2 g2 g3 hw0 to f.back0 kpa (by simp) u2
            exact qq σ _ _ F (ev.s.grow (kpa.mono fun b z => ⟨x, hk.1.2, by rw [z]; exact ca⟩) cl len_grown)
          · cases h
        · cases h
      · cases h
  · cases h
/-- x[i] += e, of ints -/
theorem aug_ok {K : Fg} {x : Nat} {o : B2} {D : Ends} {σ : L2.St} {H : Hp} (h : tS K C G wf (.aug x p o q) D σ H) : o = .add ∧ tAugS (tVar x) (tE K C G p) (tE K C G q) (rIxL K) (ipI fun i j => i + j) rSetL D σ H := by
  obtain ⟨g, P, δ, fps, oc, f, h, qq⟩ := h
  simp only [evS] at h
  split at h
  · rename_i r0 j δ1 er0 e1
    split at h
    · rename_i a0 k er hj
      split at h
      · cases h
      rename_i hla
      split at h
      · rename_i old eo
        split at h
        · rename_i m v δ2 hm e2
          split at h
          · rename_i n s hn es
            split at h
            · rename_i hk
              simp only [Bool.and_eq_true, Bool.not_eq_true', List.contains_eq_mem, decide_eq_false_iff_not] at hk
              split at h
              · rename_i d hp
                simp only [Option.some.injEq] at h
                subst h
                obtain ⟨ds, jj, h1, h2, h3⟩ := put_lst hp
                refine ⟨rfl, ?_⟩
                obtain ⟨w0, hw0, _⟩ := f.read (Hs := H) (g := g) er0
                refine ⟨w0, hw0, g, P, δ, fps, j, δ1, f, e1, fun wi H1 fps1 fi f1 ev1 toi => ?_⟩
                obtain ⟨w1, hw1, to1⟩ := f1.read (Hs := H1) (g := g) er
                rw [hw0] at hw1
                have : w0 = w1 := Option.some.inj (Option.some.inj hw1)
                subst this
                obtain ⟨b, xs, hb, hx, hat⟩ : ∃ b xs, w0 = .ref b ∧ SqL K H1 b xs ∧ atI xs k = some (.int m) := by
                  have r0 := to1.rep
                  generalize fps1 x = fx at r0
                  cases hd : a0.d with
                  | lst l =>
                    rw [hd] at r0
                    cases r0 with
                    | lst e r _ =>
                      simp only [opSub, hd, hj] at eo
                      obtain ⟨d0, h4, h5⟩ := Option.map_eq_some_iff.mp eo
                      obtain ⟨y, fy, y1, y2, _⟩ := atI_rp r h4
                      rw [← h5] at hm
                      simp only at hm
                      rw [hm] at y2
                      rw [int_is y2] at y1
                      exact ⟨_, _, rfl, .of e, y1⟩
                  | _ => rw [hd] at hla; simp [isLst] at hla
                have ri0 := toi.rep
                rw [hj] at ri0
                refine ⟨b, xs, k, .int m, hb, int_is ri0, hx, hat, ?_⟩
                refine ⟨g, P, δ1, fps1, v, δ2, f1, e2, fun wv H2 fps2 fv f2 ev2 tov => ?_⟩
                have rv := tov.rep
                rw [hn] at rv
                have hv := int_is rv
                subst hv
                refine ⟨m, n, rfl, rfl, ?_⟩
                obtain ⟨a, vs, tl, g1, g2, g3, g4, g5⟩ := slot_lst f2 es h1
                rw [hw0] at g1
                have : w0 = .ref a := Option.some.inj (Option.some.inj g1)
                subst this
                have ri := toi.rep
                rw [hj] at ri
                have hwi := int_is ri
                subst hwi
                have ca := claim_top (K := K) (g := g) (σ := σ) (H := H2) es hk.1 g2
                have ts : TO K g H H2 δ2 fps2 (.int (m + n)) (scal (.int (m + n))) [] := .scal (.int _)
                obtain ⟨fa, fb, u1, u2⟩ := upd_set g4 g5 g3 ts.rep (by simp) (ixN_lt h2)
                have kpa : Kp (fun b => b = a) H2 (upd H2 a (.lst (vs.set jj (.int (m + n))))) := Kp.put g4 rfl
                have h3' : d = .lst (ds.set jj (scal (.int (m + n))).d) := h3
                rw [← h3'] at u2
                obtain ⟨F, cl⟩ := grow_ok f2 es hk.1 (by simp [scal]) g2 g3 hw0 ts f.back0 kpa u1 u2
                refine ⟨a, vs, k, jj, rfl, rfl, g4, by rw [g5.length]; exact h2, ?_⟩
                exact qq σ _ _ F ((ev1.trans ev2).s.grow (kpa.mono fun b z => ⟨x, hk.2, by rw [z]; exact ca⟩) cl len_grown)
              · cases h
            · cases h
          · cases h
        · cases h
      · cases h
    · cases h
  · cases h
theorem get_lst : PGet X (rIxL X.K) := by
  intro pins s σ H o i ov iv Q I ro ri ⟨p, xs, k, z, ho, hi, hq, he, q⟩
  have line := line63
  subst ho hi
  cases ro
  obtain ⟨t, rfl⟩ := ri
  obtain ⟨its, r, pl, hz⟩ := I.list hq
  obtain ⟨j, h1, h2, h3, h4, h5⟩ := atI_get he
  obtain ⟨w, ew, rw'⟩ := r.get h2
  have hl := r.length
  have fin : EP X pins σ Q w s := ⟨z, H, I, rw', q⟩
  by_cases h0 : 0 ≤ k
  · have hj : k.toNat = j := Option.some.inj ((seqIndex_of h0 h5).symm.trans h1)
    exact wpAny_getItem_list pl.isList h0 (by omega) (by rw [hj]; simpa using ew) fin
  · have hj : (k + (its.toArray.size : Int)).toNat = j := by
      have := Option.some.inj ((seqIndex_neg (by omega) h4).symm.trans h1)
      rw [List.size_toArray, ← hl]
      exact this
    exact wpAny_getItem_list_neg pl.isList (by omega) (by rw [List.size_toArray] <;> omega) (by omega) (by rw [hj]; simpa using ew) fin
end
end PP

/-! PPLoop: if, for, while, rows. -/
namespace PP
open PySem PySem.Spec PyProof.Rows L2
section
variable {K : Fg} {C : Calls} {G : Sigs} {wf : Nat} {p : E} {it : PP.It} {t : T} {b b1 b2 : Ss} {s : S} {D : Ends} {σ : L2.St} {H : Hp}
theorem if_ok (h : tS K C G wf (.if_ p b1 b2) D σ H) : tIfS (tT K C G p) (tSs K C G wf b1) (tSs K C G wf b2) D σ H := by
  obtain ⟨g, P, δ, fps, o, f, h, q⟩ := h
  simp only [evS] at h
  split at h
  · rename_i x δ1 e1
    split at h
    · rename_i ht
      refine ⟨g, P, δ, fps, x, δ1, true, f, e1, ht, fun H1 fps1 f1 ev1 => ?_⟩
      exact ⟨g, P, δ1, fps1, o, f1, h, q.after ev1.s⟩
    · rename_i ht
      refine ⟨g, P, δ, fps, x, δ1, false, f, e1, ht, fun H1 fps1 f1 ev1 => ?_⟩
      exact ⟨g, P, δ1, fps1, o, f1, h, q.after ev1.s⟩
    · cases h
  · cases h
theorem nil_ok (h : tSs K C G wf .nil D σ H) : tNext D σ H := by
  obtain ⟨g, P, δ, fps, o, f, h, q⟩ := h
  simp only [evSs, Option.some.injEq] at h
  subst h
  exact q σ H fps f .refl
theorem cons_ok (h : tSs K C G wf (.cons s b) D σ H) : tSeq (tS K C G wf s) (tSs K C G wf b) D σ H := by
  obtain ⟨g, P, δ, fps, o, f, h, q⟩ := h
  simp only [evSs] at h
  split at h
  · rename_i δ1 e1
    exact ⟨g, P, δ, fps, .nx δ1, f, e1, fun σ1 H1 fps1 f1 ev1 => ⟨g, P, δ1, fps1, o, f1, h, q.after ev1⟩⟩
  · rename_i r hr
    refine ⟨g, P, δ, fps, o, f, h, ?_⟩
    cases o with
    | nx δ1 => exact absurd h (fun z => hr δ1 z)
    | brk δ1 => exact q
    | cont δ1 => exact q
    | ret t δ1 => exact q
def forBody (C : Calls) (G : Sigs) (wf : Nat) (P : List Nat) (S : List Nat) (t : T) (b : Ss) : PP.D → PP.St → Option Outc := fun d δ => match bindT S t d δ with
  | some δa => evSs C G wf P b δa
  | none => none
def whTest (C : Calls) (G : Sigs) (P : List Nat) (p : E) : PP.St → Option (Bool × PP.St) := fun δ => match evE C G P p δ with
  | some (x, δ1) => match truth x.d with
    | some r => some (r, δ1)
    | none => none
  | none => none
theorem for_ok (h : tS K C G wf (.for_ t it b) D σ H) : tFor (tI K C G it) (tG K t) (tSs K C G wf b) D σ H := by
  obtain ⟨g, P, δ, fps, o, f, h, q⟩ := h
  simp only [evS] at h
  split at h
  · rename_i w δ1 e1
    split at h
    · refine ⟨g, P, δ, fps, w, δ1, f, e1, fun J H1 fps1 fA fI f1 ev1 wo => ?_⟩
      have q1 : EndOk K g P H1 δ1 fps1 D o := q.after ev1.s
      have h : forLoop (forBody C G wf (P ++ w.S) w.Si t b) w.ds δ1 = some o := h
      refine ⟨fun i m σ' H' => m = w.ds.length - i ∧ i ≤ w.ds.length ∧ ∃ δ' fps', forLoop (forBody C G wf (P ++ w.S) w.Si t b) (w.ds.drop i) δ' = some o ∧ FR K g σ' H' δ' fps' ∧ EvS (P ++ w.S) H1 δ1 fps1 H' δ' fps', ⟨_, rfl, Nat.zero_le _, δ1, fps1, by simpa using h, f1, .refl⟩, ?_⟩
      rintro i m σ' H' ⟨rfl, hi, δ', fps', run, f', ev'⟩
      have nM : ∀ a ∈ fA, ¬ ∃ i, i ∉ P ++ w.S ∧ clm δ1 fps1 i a := fun a ha ⟨i, n, c⟩ => n (List.mem_append_right _ (wo.cl i a c ha))
      by_cases hl : i < w.ds.length
      · rw [List.drop_eq_getElem_cons hl] at run
        obtain ⟨go, yl⟩ := wo.go _ H' ev'.kp nM i _ (List.getElem?_eq_getElem hl)
        refine .inr ⟨go, fun σ2 H2 => ∃ δ2 fps2, forLoop (forBody C G wf (P ++ w.S) w.Si t b) (w.ds.drop (i + 1)) δ2 = some o ∧ FR K g σ2 H2 δ2 fps2 ∧ EvS (P ++ w.S) H1 δ1 fps1 H2 δ2 fps2, fun σ2 H2 ⟨δ2, fps2, r2, f2, e2⟩ => ⟨_, by omega, rfl, hl, δ2, fps2, r2, f2, e2⟩, fun x H2 hy => ?_⟩
        obtain ⟨kp0, fq, rp, hf⟩ := yl x H2 hy
        simp only [forLoop] at run
        unfold forBody at run
        have f0 := f'.kept kp0
        have ev0 : EvS (P ++ w.S) H1 δ1 fps1 H2 δ' fps' := ev'.trans ⟨kp0.mono fun _ z => False.elim z, fun _ _ c => .inl c, rfl⟩
        have exA : ∀ a ∈ fA, H1 a ≠ none := fun a m z => by
          obtain ⟨_, e⟩ := wo.ex a m
          rw [z] at e; cases e
        have bind : ∀ δa, bindT w.Si t w.ds[i] δ' = some δa → ∀ R : L2.St → Hp → Prop, (∀ σ3 fps3, FR K g σ3 H2 δa fps3 → EvS (P ++ w.S) H1 δ1 fps1 H2 δa fps3 → R σ3 H2) → tG K t x σ' H2 R := fun δa hb R hR =>
          ⟨w.Si, g, δ', fps', w.ds[i], fq, δa, f0, rp, hb, fun j a c m => by
            rcases ev'.sub j a c with c | c
            · exact wo.cli j a c (hf a m)
            · exact absurd c (exA a (wo.sub a (hf a m))), fun a m => wo.reach a (wo.sub a (hf a m)), fun a m => wo.priv a (wo.sub a (hf a m)), fun σ3 fps3 f3 o3 => hR σ3 fps3 f3 (ev0.trans ⟨.refl, fun j a c => .inl (o3.clm j a c).1, o3.len.2⟩)⟩
        cases hb : bindT w.Si t w.ds[i] δ' with
        | none => rw [hb] at run; simp at run
        | some δa =>
          rw [hb] at run
          simp only at run
          refine bind δa hb _ fun σ3 fps3 f3 ev3 => ?_
          cases hbody : evSs C G wf (P ++ w.S) b δa with
          | none => rw [hbody] at run; simp at run
          | some r =>
            rw [hbody] at run
            refine ⟨g, P ++ w.S, δa, fps3, r, f3, hbody, ?_⟩
            cases r with
            | nx δ4 => exact fun σ4 H4 fps4 f4 ev4 => ⟨δ4, fps4, run, f4, ev3.trans ev4⟩
            | cont δ4 => exact fun σ4 H4 fps4 f4 ev4 => ⟨δ4, fps4, run, f4, ev3.trans ev4⟩
            | brk δ4 =>
              simp only [Option.some.injEq] at run
              subst run
              exact fun σ4 H4 fps4 f4 ev4 => q1 σ4 H4 fps4 f4 ((ev3.trans ev4).mono mem_l)
            | ret t4 δ4 =>
              simp only [Option.some.injEq] at run
              subst run
              exact q1
      · have hi' : i = w.ds.length := by omega
        subst hi'
        rw [List.drop_length] at run
        simp only [forLoop, Option.some.injEq] at run
        subst run
        exact .inl ⟨wo.stop _ H' ev'.kp nM, q1 σ' H' fps' f' (ev'.mono mem_l)⟩
    · cases h
  · cases h
theorem while_ok (h : tS K C G wf (.whl p b) D σ H) : tWhile (tT K C G p) (tSs K C G wf b) D σ H := by
  obtain ⟨g, P, δ, fps, o, f, h, q⟩ := h
  simp only [evS] at h
  have h : whileLoop (whTest C G P p) (fun δ => evSs C G wf P b δ) wf δ = some o := h
  refine ⟨fun m σ' H' => ∃ δ' fps', whileLoop (whTest C G P p) (fun δ => evSs C G wf P b δ) m δ' = some o ∧ FR K g σ' H' δ' fps' ∧ EvS P H δ fps H' δ' fps', ⟨wf, δ, fps, h, f, .refl⟩, ?_⟩
  rintro m σ' H' ⟨δ', fps', run, f', ev'⟩
  cases m with
  | zero => simp [whileLoop] at run
  | succ m =>
    simp only [whileLoop, whTest] at run
    cases he : evE C G P p δ' with
    | none => rw [he] at run; simp at run
    | some xd =>
      obtain ⟨x, δ1⟩ := xd
      rw [he] at run
      simp only at run
      cases ht : truth x.d with
      | none => rw [ht] at run; simp at run
      | some r =>
        rw [ht] at run
        simp only at run
        refine ⟨g, P, δ', fps', x, δ1, r, f', he, ht, fun H1 fps1 f1 ev1 => ?_⟩
        have e1 := ev'.trans ev1.s
        cases r with
        | false =>
          simp only [Option.some.injEq] at run
          subst run
          exact q σ' H1 fps1 f1 e1
        | true =>
          simp only [if_true]
          simp only at run
          refine ⟨fun σ2 H2 => ∃ δ2 fps2, whileLoop (whTest C G P p) (fun δ => evSs C G wf P b δ) m δ2 = some o ∧ FR K g σ2 H2 δ2 fps2 ∧ EvS P H δ fps H2 δ2 fps2, fun σ2 H2 z => ⟨m, by omega, z⟩, ?_⟩
          cases hbody : evSs C G wf P b δ1 with
          | none => rw [hbody] at run; simp at run
          | some r =>
            rw [hbody] at run
            refine ⟨g, P, δ1, fps1, r, f1, hbody, ?_⟩
            cases r with
            | nx δ4 => exact fun σ4 H4 fps4 f4 ev4 => ⟨δ4, fps4, run, f4, e1.trans ev4⟩
            | cont δ4 => exact fun σ4 H4 fps4 f4 ev4 => ⟨δ4, fps4, run, f4, e1.trans ev4⟩
            | brk δ4 =>
              simp only [Option.some.injEq] at run
              subst run
              exact fun σ4 H4 fps4 f4 ev4 => q σ4 H4 fps4 f4 (e1.trans ev4)
            | ret t4 δ4 =>
              simp only [Option.some.injEq] at run
              subst run
              exact q
/-- names that get scalars all at once -/
theorem setAll2 {g : Gh} {P : List Nat} {H : Hp} {δ δ' : PP.St} {fps : Nat → List Addr} {i j : Nat} {x y : Tm} {v w : V} (f : FR K g σ H δ fps) (h : setAll [i, j] [x, y] δ = some δ') (hx : noL x.d = true) (hy : noL y.d = true) (rx : Rp K H v x.d []) (ry : Rp K H w y.d []) :
    ∃ fps', FR K g ((σ.set i (some v)).set j (some w)) H δ' fps' ∧ (∀ k a, clm δ' fps' k a → clm δ fps k a) ∧ δ'.length = δ.length := by
  simp only [setAll] at h
  split at h
  · rename_i hi
    split at h
    · rename_i hj
      simp only [Option.some.injEq] at h
      subst h
      obtain ⟨f1, o1⟩ := f.bind (S := []) hi rx (fun _ _ _ m => nomatch m) (fun _ m => nomatch m) (fun _ m => nomatch m)
      obtain ⟨f2, o2⟩ := f1.bind (S := []) hj ry (fun _ _ _ m => nomatch m) (fun _ m => nomatch m) (fun _ m => nomatch m)
      exact ⟨_, f2, fun k a c => (o1.clm k a (o2.clm k a c).1).1, by rw [o2.len.2, o1.len.2]⟩
    · cases h
  · cases h
theorem par_ok {i j : Nat} {p q : E} (h : tS K C G wf (.par [i, j] (.cons p (.cons q .nil))) D σ H) : tPar i j (tAs K C G (.cons p (.cons q .nil))) D σ H := by
  obtain ⟨g, P, δ, fps, o, f, h, qq⟩ := h
  simp only [evS] at h
  split at h
  · rename_i ts δ1 e1
    split at h
    · rename_i hn
      split at h
      · rename_i δ2 e2
        simp only [Option.some.injEq] at h
        subst h
        refine ⟨g, P, δ, fps, ts, δ1, f, e1, fun vs H1 fps1 fl f1 ev1 tos => ?_⟩
        match ts, tos, hn, e2 with
        | [], _, _, e2 => simp [setAll] at e2
        | [x], _, _, e2 =>
          simp only [setAll] at e2
          split at e2 <;> cases e2
        | x :: y :: z :: r, _, _, e2 =>
          simp only [setAll] at e2
          split at e2
          · split at e2 <;> cases e2
          · cases e2
        | [x, y], tos, hn, e2 =>
          simp only [List.all_cons, List.all_nil, Bool.and_true, Bool.and_eq_true] at hn
          cases tos with
          | cons to b1 ex1 r =>
            cases r with
            | cons to2 b2 ex2 r =>
              cases r with
              | nil b3 =>
                have z1 := to.rep.noL hn.1
                have z2 := to2.rep.noL hn.2
                have r1 := to.rep
                rw [z1] at r1
                have r2 := to2.rep
                rw [z2] at r2
                obtain ⟨fps2, f2, c2, l2⟩ := setAll2 (P := P) f1 e2 hn.1 hn.2 r1 r2
                exact ⟨_, _, rfl, qq _ H1 fps2 f2 (ev1.s.trans ⟨.refl, fun k a c => .inl (c2 k a c), l2⟩)⟩
      · cases h
    · cases h
  · cases h
end
end PP

/-! PPSoundS: THE STATEMENTS. -/
namespace PP
open PySem PySem.Spec PyProof.Rows L2
/-- a def's body runs -/
structure Ws (X : Cx) (c : Cn) (C : Calls) (G : Sigs) : Prop where
  w : Wd X c C G
  fn : ∀ x, X.fn x = true
  own : PassesOwn (model X.prog X.w) X.A X.env X.xe
section
variable {X : Cx} {c : Cn} {sc : Scope} {C : Calls} {G : Sigs} {wf : Nat}
theorem asg_never {K : Fg} {t : T} {D : Ends} {σ : L2.St} {H : Hp} (h : tS K C G wf (.asg t .never) D σ H) : False := by
  obtain ⟨g, P, δ, fps, o, f, h, q⟩ := h
  simp [evS, evE] at h
theorem sw_no {e tg : PE_} {l : Nat} {env : Env} (h : (∀ x p, tg ≠ .Name x p) ∨ isCompE e = false) : swapsWith e (some tg) l env = pure false := by
  rcases h with h | h
  · cases tg <;> first | (exact absurd rfl (h _ _)) | (cases e <;> rfl)
  · cases e <;> first | rfl | (simp [isCompE] at h)
theorem swst_no {tg e : PE_} {env : Env} (h : (∀ es k p, tg ≠ .Tuple es k p) ∨ isTupE e = false) (h2 : ∀ es p, tg ≠ .List es p) : swappedStores [tg] e env = pure none := by
  rcases h with h | h
  · cases tg <;> first | (exact absurd rfl (h _ _ _)) | (exact absurd rfl (h2 _ _)) | rfl
  · cases e <;> first | (simp [isTupE] at h; done) | (cases tg <;> rfl)
theorem name_ok {x : Str} {px : Pos} {e : PE_} {pos : Pos} (W : Ws X c C G) (hs : X.env.scope = sc) : PS X (.Assign [.Name x px] e pos) (tS X.K C G wf (nameS c sc x e)) := by
  unfold nameS
  split
  · rename_i i hi
    obtain ⟨n1, n2, n3⟩ := slotTo_ok hi
    rw [← W.w.N] at n1
    rw [← hs] at n2
    have he := E_ok e X sc W.w hs
    by_cases hc : isCompE e = true
    · cases e with
      | ListComp elt gens scope p2 =>
        obtain ⟨b, hb, hl⟩ : ∃ b, swapsWith (.ListComp elt gens scope p2) (some (.Name x px)) pos.line X.env = pure b ∧ (b = true → X.env.kindOf x = some .local) := by
          refine ⟨_, rfl, fun h => ?_⟩
          simp only [Bool.and_eq_true, beq_iff_eq] at h
          exact h.1.1.2
        cases b with
        | false => exact (ps_set W.w.nd n1 n2 he.pe hb (.inl (W.fn x))).imp fun D σ H h => asg_ok h
        | true =>
          have hyl : X.env.scope.names.lookup x = some .local := hl rfl
          match gens, hb with
          | [], _ => exact ⟨fun pins s σ H D I h => by simp only [stE] at h; exact (asg_never h).elim⟩
          | _ :: _ :: _ :: _, _ => exact ⟨fun pins s σ H D I h => by simp only [stE] at h; exact (asg_never h).elim⟩
          | [⟨t, it, ifs, a⟩], hb =>
            have hit := E_ok it X sc W.w hs
            refine ⟨fun pins s σ H D I h => ?_⟩
            simp only [stE] at h
            unfold compE at h
            split at h
            · rename_i hh
              simp only [Bool.and_eq_true, decide_eq_true_eq, Bool.not_eq_true'] at hh
              obtain ⟨⟨⟨hbl, ha⟩, hll⟩, hset⟩ := hh
              subst ha
              split at h
              · rename_i t' ht
                split at h
                · rename_i ho
                  have ok : BlkOk X.N X.env.scope scope (ownOf c.N scope) := by rw [W.w.N, hs]; exact blkOk_by hbl
                  have ok' : BlkOk c.N sc scope (ownOf c.N scope) := blkOk_by hbl
                  have hT : ∀ i ∈ t'.ixs, i ∈ (ownOf c.N scope).map (·.2) := fun i hi => by
                    unfold tOwn at ho
                    rw [List.all_eq_true] at ho
                    simpa using ho i hi
                  refine (ps_setLc (te := tE X.K C G (stE c (relS scope sc) elt)) (tt := tC X.K C G (stC c (relS scope sc) ifs)) (g := tG X.K t') W.w.calm W.w.nd n1 hyl hb (hit.pi t) ok (fun s H C0 cl fp => pg_ok (W.w.blk s H scope _ fp).N (W.w.blk s H scope _ fp).nd (scope_blk hs s H scope C0 cl fp) W.w.calm t t' ht (own_fn W.w hs rfl ok' ho s H C0 cl fp))
                    (fun s H C0 cl fp => C_ok ifs _ _ (W.w.blk s H scope _ fp) (scope_blk hs s H scope C0 cl fp) hll) (fun s H C0 cl fp => (E_ok elt _ _ (W.w.blk s H scope _ fp) (scope_blk hs s H scope C0 cl fp)).pe) (fold_of hset X.env)).run pins s σ H D I ?_
                  exact tLc_ok hT σ H _ (asg_ok h)
                · exact (asg_never h).elim
              · exact (asg_never h).elim
            · exact (asg_never h).elim
          | [⟨t, it, ifs, a⟩, ⟨t1, it1, ifs1, a1⟩], hb =>
            have hit := E_ok it X sc W.w hs
            refine ⟨fun pins s σ H D I h => ?_⟩
            simp only [stE] at h
            unfold compE2 at h
            split at h
            · rename_i hh
              simp only [Bool.and_eq_true, decide_eq_true_eq, Bool.not_eq_true'] at hh
              obtain ⟨⟨⟨⟨⟨⟨hbl, ha⟩, hll⟩, hset⟩, ha1⟩, hl1⟩, hset1⟩ := hh
              subst ha ha1
              split at h
              · rename_i t' ht
                split at h
                · rename_i t1' ht1
                  split at h
                  · rename_i ho
                    rw [Bool.and_eq_true] at ho
                    have ok : BlkOk X.N X.env.scope scope (ownOf c.N scope) := by rw [W.w.N, hs]; exact blkOk_by hbl
                    have ok' : BlkOk c.N sc scope (ownOf c.N scope) := blkOk_by hbl
                    have hT : ∀ i ∈ t'.ixs, i ∈ (ownOf c.N scope).map (·.2) := fun i hi => by
                      have := ho.1
                      unfold tOwn at this
                      rw [List.all_eq_true] at this
                      simpa using this i hi
                    have hT1 : ∀ i ∈ t1'.ixs, i ∈ (ownOf c.N scope).map (·.2) := fun i hi => by
                      have := ho.2
                      unfold tOwn at this
                      rw [List.all_eq_true] at this
                      simpa using this i hi
                    refine (ps_setLc2 (te := tE X.K C G (stE c (relS scope sc) elt)) (tt := tC X.K C G (stC c (relS scope sc) ifs)) (tt1 := tC X.K C G (stC c (relS scope sc) ifs1)) (g := tG X.K t') (g1 := tG X.K t1') (wi1 := tI X.K C G (itOf (isTupE t1) (stE c (relS scope sc) it1))) W.w.calm W.w.nd n1 hyl hb (hit.pi t) ok hT1 (fun s H C0 cl fp => pg_ok (W.w.blk s H scope _ fp).N (W.w.blk s H scope _ fp).nd (scope_blk hs s H scope C0 cl fp) W.w.calm t t' ht (own_fn W.w hs rfl ok' ho.1 s H C0 cl fp))
                      (fun s H C0 cl fp => C_ok ifs _ _ (W.w.blk s H scope _ fp) (scope_blk hs s H scope C0 cl fp) hll) (fun s H C0 cl fp => (E_ok it1 _ _ (W.w.blk s H scope _ fp) (scope_blk hs s H scope C0 cl fp)).pi t1)
                      (fun s H C0 cl fp => pg_ok (W.w.blk s H scope _ fp).N (W.w.blk s H scope _ fp).nd (scope_blk hs s H scope C0 cl fp) W.w.calm t1 t1' ht1 (own_fn W.w hs rfl ok' ho.2 s H C0 cl fp))
                      (fun s H C0 cl fp => C_ok ifs1 _ _ (W.w.blk s H scope _ fp) (scope_blk hs s H scope C0 cl fp) hl1) (fun s H C0 cl fp => (E_ok elt _ _ (W.w.blk s H scope _ fp) (scope_blk hs s H scope C0 cl fp)).pe) (fold_of hset X.env) (fun env => fold_of hset1 env)).run pins s σ H D I ?_
                    exact tLc2_ok hT hT1 (fun i h => h) σ H _ (asg_ok h)
                  · exact (asg_never h).elim
                · exact (asg_never h).elim
              · exact (asg_never h).elim
            · exact (asg_never h).elim
      | SetComp a b d f => exact ⟨fun pins s σ H D I h => by simp only [stE] at h; exact (asg_never h).elim⟩
      | DictComp a b d f g => exact ⟨fun pins s σ H D I h => by simp only [stE] at h; exact (asg_never h).elim⟩
      | _ => simp [isCompE] at hc
    · have hc' : isCompE e = false := by simpa using hc
      exact (ps_set W.w.nd n1 n2 he.pe (sw_no (.inr hc')) (.inl (W.fn x))).imp fun D σ H h => asg_ok h
  · exact ps_nv
theorem swap2_ok {x y : Str} {px py pt pt2 : Pos} {a b : PE_} {kt k2 : Nat} (hs : X.env.scope = sc) (h : swap2 sc x y px py a b = true) : swappedStores [.Tuple [.Name x px, .Name y py] kt pt] (.Tuple [a, b] k2 pt2) X.env = pure (some [x, y]) := by
  unfold swap2 at h
  simp only [Bool.and_eq_true, Bool.not_eq_true', beq_iff_eq] at h
  obtain ⟨⟨⟨⟨⟨⟨⟨⟨h1, h2⟩, h3⟩, h4⟩, h5⟩, h6⟩, h7⟩, h8⟩, h9⟩ := h
  have kx : X.env.kindOf x = some .local := by show X.env.scope.names.lookup x = _; rw [hs]; exact h4
  have ky : X.env.kindOf y = some .local := by show X.env.scope.names.lookup y = _; rw [hs]; exact h5
  have kb : X.env.blockKind = .function := by unfold Env.blockKind; rw [hs, h1]; rfl
  have e0 : ∀ (f : PE_ → Bool), (∀ z, isStar z = false → f z = false) → [a, b].any f = false := fun f hf => by simp [hf a h2, hf b h3]
  unfold swappedStores
  simp only [List.length_cons, List.length_nil, kb, kx, ky, List.filterMap_cons, List.filterMap_nil, List.head?_cons, Option.map_some, Option.getD_some, Expr.pos, h6, h8, h9]
  rw [e0 _ (by intro z hz; cases z <;> first | rfl | (simp [isStar] at hz))]
  have hd : ([x, y] : List Str).eraseDups = [x, y] := by
    simp [List.eraseDups_cons, h7]
  simp [hd]
theorem ar_ok {x y : Str} {px py pt pt2 pos : Pos} {a b : PE_} {kt k2 : Nat} (W : Ws X c C G) (hs : X.env.scope = sc) : PS X (.Assign [.Tuple [.Name x px, .Name y py] kt pt] (.Tuple [a, b] k2 pt2) pos) (tS X.K C G wf (parS c sc x y px py a b)) := by
  unfold parS
  split
  · rename_i i hi
    split
    · rename_i j hj
      split
      · rename_i h
        rw [Bool.and_eq_true] at h
        obtain ⟨hsw, hij⟩ := h
        have hij' : i ≠ j := by simpa using hij
        obtain ⟨n1, _, _⟩ := slotTo_ok hi
        obtain ⟨m1, _, _⟩ := slotTo_ok hj
        rw [← W.w.N] at n1 m1
        have sw := hsw
        unfold swap2 at hsw
        simp only [Bool.and_eq_true, Bool.not_eq_true', beq_iff_eq] at hsw
        obtain ⟨⟨⟨⟨⟨⟨⟨⟨_, h2⟩, h3⟩, h4⟩, h5⟩, _⟩, _⟩, _⟩, _⟩ := hsw
        rw [← hs] at h4 h5
        have pa : PA X [a, b] (tAs X.K C G (.cons (stE c sc a) (.cons (stE c sc b) .nil))) := pa_cons' (E_ok a X sc W.w hs).pe (pa_cons' (E_ok b X sc W.w hs).pe pa_nil' h3) h2
        exact (ps_par W.w.calm W.w.nd n1 m1 hij' h4 h5 pa (swap2_ok hs sw) rfl).imp fun D σ H h => par_ok h
      · exact ps_nv
    · exact ps_nv
  · exact ps_nv
theorem tup_ok {tl : List PE_} {k : Nat} {q pos : Pos} {e : PE_} (W : Ws X c C G) (hs : X.env.scope = sc) : PS X (.Assign [.Tuple tl k q] e pos) (tS X.K C G wf (tupS c sc tl e)) := by
  unfold tupS
  split
  · exact ps_nv
  · rename_i h
    simp only [Bool.or_eq_true, not_or, Bool.not_eq_true] at h
    split
    · rename_i ts ht
      have pg : PG X (.Tuple tl k q) (tG X.K (.tp ts)) := pg_ok W.w.N W.w.nd hs W.w.calm (.Tuple tl k q) (.tp ts) (by simp only [stT, ht]; rfl) fun i hi x hx => .inl (W.fn x)
      exact (ps_asg (E_ok e X sc W.w hs).pe pg (show swapsWith e (some (.Tuple tl k q)) pos.line X.env = pure false from sw_no (.inr h.2)) (swst_no (.inr h.1) fun _ _ z => nomatch z) rfl).imp fun D σ H h => asgT_ok h
    · exact ps_nv
theorem put_st {x : Str} {i e : PE_} {px q pos : Pos} (W : Ws X c C G) (hs : X.env.scope = sc) : PS X (.Assign [.Subscript (.Name x px) i q] e pos) (tS X.K C G wf (putS c sc x i e)) := by
  unfold putS
  split
  · exact ps_nv
  · rename_i hi
    split
    · rename_i k hk
      obtain ⟨n1, n2, n3⟩ := slotOf_ok hk
      rw [← W.w.N] at n1
      rw [← hs] at n2
      obtain ⟨o1, o2⟩ := okName_ok n3
      have pv : PE X (.Name x px) (tVar k) := pe_var n1 n2 o1 o2
      have pg : PG X (.Subscript (.Name x px) i q) (gSub (tVar k) (tE X.K C G (stE c sc i)) rSetL) := pg_sub pv (E_ok i X sc W.w hs).pe set_list (by
        intro v
        cases i <;> first | rfl | (simp [isSlice] at hi))
      exact (ps_asg (E_ok e X sc W.w hs).pe pg (show swapsWith e (some (.Subscript (.Name x px) i q)) pos.line X.env = pure false from sw_no (.inl fun _ _ z => nomatch z)) (swst_no (.inl fun _ _ _ z => nomatch z) fun _ _ z => nomatch z) rfl).imp fun D σ H h => put_ok h
    · exact ps_nv
theorem asgS_ok {e : PE_} {pos : Pos} (W : Ws X c C G) (hs : X.env.scope = sc) : ∀ ts : List PE_, PS X (.Assign ts e pos) (tS X.K C G wf (asgS c sc ts e)) := by
  intro ts
  unfold asgS
  split
  · exact name_ok W hs
  · exact ar_ok W hs
  · exact tup_ok W hs
  · exact put_st W hs
  · exact ps_nv
theorem augS_ok {t e : PE_} {op : Operator} {pos : Pos} (W : Ws X c C G) (hs : X.env.scope = sc) : PS X (.AugAssign t op e pos) (tS X.K C G wf (augS c sc t op e)) := by
  unfold augS
  split
  · rename_i x px i q
    split
    · exact ps_nv
    · rename_i hi
      split
      · rename_i k hk
        obtain ⟨n1, n2, n3⟩ := slotOf_ok hk
        rw [← W.w.N] at n1
        rw [← hs] at n2
        obtain ⟨o1, o2⟩ := okName_ok n3
        have pv : PE X (.Name x px) (tVar k) := pe_var n1 n2 o1 o2
        exact (ps_augS pv (E_ok i X sc W.w hs).pe get_lst (E_ok e X sc W.w hs).pe ip_add set_list (by
          intro ov iv new
          cases i <;> first | rfl | (simp [isSlice] at hi))).imp fun D σ H h => (aug_ok h).2
      · exact ps_nv
  · exact ps_nv
theorem exprS_ok {e : PE_} {pos : Pos} (W : Ws X c C G) (hs : X.env.scope = sc) : PS X (.Expr e pos) (tS X.K C G wf (exprS c sc e)) := by
  unfold exprS
  split
  · exact ps_doc.imp fun D σ H ⟨g, P, δ, fps, o, f, h, q⟩ => by
      simp only [evS, Option.some.injEq] at h
      subst h
      exact q σ H fps f .refl
  · rename_i x px m ap a cpos
    split
    · rename_i h
      simp only [Bool.and_eq_true, Bool.not_eq_true', beq_iff_eq] at h
      obtain ⟨⟨h1, h2⟩, h3⟩ := h
      subst h3
      split
      · rename_i k hk
        obtain ⟨n1, n2, n3⟩ := slotOf_ok hk
        rw [← W.w.N] at n1
        rw [← hs] at n2
        obtain ⟨o1, o2⟩ := okName_ok n3
        have pv : PE X (.Name x px) (tVar k) := pe_var n1 n2 o1 o2
        have bm := pe_bm (X := X) (apos := ap) (cpos := cpos) PySem.F.plainAttrs_list PySem.F.slot_list_append PySem.F.type_list_append mt_append pv (pa_cons (E_ok a X sc W.w hs).pe pa_nil (star_one h2)) rfl
          (by rw [star_one h2]; rfl) (by simpa using h1) (star_one h2) rfl
        exact (ps_expr bm rfl).imp fun D σ H h => app_ok h
      · exact ps_nv
    · exact ps_nv
  · exact ps_ex (E_ok _ X sc W.w hs).pe rfl
  · exact ps_nv
theorem retS_ok {e : PE_} {pos : Pos} (W : Ws X c C G) (hs : X.env.scope = sc) : PS X (.Return (some e) pos) (tS X.K C G wf (retE c sc e (stE c sc e))) := by
  unfold retE
  split
  · rename_i x px
    split
    · rename_i i hk
      obtain ⟨n1, n2, n3⟩ := slotOf_ok hk
      rw [← W.w.N] at n1
      rw [← hs] at n2
      obtain ⟨o1, o2⟩ := okName_ok n3
      exact ps_rv (pe_var n1 n2 o1 o2)
    · exact ps_rt (E_ok _ X sc W.w hs).pe
  · exact ps_rt (E_ok _ X sc W.w hs).pe
mutual
theorem S_ok (W : Ws X c C G) (hs : X.env.scope = sc) : ∀ s : Stmt, PS X s (tS X.K C G wf (stS c sc s))
  | .Expr e pos => by simp only [stS]; exact exprS_ok W hs
  | .Assign ts e pos => by simp only [stS]; exact asgS_ok W hs ts
  | .AugAssign t op e pos => by simp only [stS]; exact augS_ok W hs
  | .If t a b pos => by
    simp only [stS]
    exact (ps_if (E_ok t X sc W.w hs).pt (Ss_ok W hs a) (Ss_ok W hs b)).imp fun D σ H h => if_ok h
  | .For t it b [] pos => by
    simp only [stS, List.isEmpty_nil, if_true]
    have hb := Ss_ok W hs b
    unfold forS
    split
    · exact ps_nv
    · rename_i hset
      split
      · rename_i t' ht
        have pg : PG X t (tG X.K t') := pg_ok W.w.N W.w.nd hs W.w.calm t t' ht fun i hi x hx => .inl (W.fn x)
        exact (ps_for W.own W.w.calm ((E_ok it X sc W.w hs).pi t) pg hb (fold_of (by simpa using hset) X.env)).imp fun D σ H h => for_ok h
      · exact ps_nv
  | .For t it b (_ :: _) pos => by simp only [stS, List.isEmpty_cons, Bool.false_eq_true, if_false]; exact ps_nv
  | .While t b [] pos => by
    simp only [stS, List.isEmpty_nil, if_true]
    exact (ps_while W.own (E_ok t X sc W.w hs).pt (Ss_ok W hs b)).imp fun D σ H h => while_ok h
  | .While t b (_ :: _) pos => by simp only [stS, List.isEmpty_cons, Bool.false_eq_true, if_false]; exact ps_nv
  | .Return none pos => by simp only [stS]; exact ps_rN
  | .Return (some e) pos => by simp only [stS]; exact retS_ok W hs
  | .Pass pos => by simp only [stS]; exact ps_ps (w := tNext) ps_pass
  | .Break pos => by simp only [stS]; exact ps_bk
  | .Continue pos => by simp only [stS]; exact ps_ct
  | .FunctionDef .. => by simp only [stS]; exact ps_nv
  | .AsyncFunctionDef .. => by simp only [stS]; exact ps_nv
  | .ClassDef .. => by simp only [stS]; exact ps_nv
  | .Delete .. => by simp only [stS]; exact ps_nv
  | .TypeAlias .. => by simp only [stS]; exact ps_nv
  | .AnnAssign .. => by simp only [stS]; exact ps_nv
  | .AsyncFor .. => by simp only [stS]; exact ps_nv
  | .With .. => by simp only [stS]; exact ps_nv
  | .AsyncWith .. => by simp only [stS]; exact ps_nv
  | .Match .. => by simp only [stS]; exact ps_nv
  | .Raise .. => by simp only [stS]; exact ps_nv
  | .Try .. => by simp only [stS]; exact ps_nv
  | .TryStar .. => by simp only [stS]; exact ps_nv
  | .Assert .. => by simp only [stS]; exact ps_nv
  | .Import .. => by simp only [stS]; exact ps_nv
  | .ImportFrom .. => by simp only [stS]; exact ps_nv
  | .Global .. => by simp only [stS]; exact ps_nv
  | .Nonlocal .. => by simp only [stS]; exact ps_nv
theorem Ss_ok (W : Ws X c C G) (hs : X.env.scope = sc) : ∀ s : List Stmt, PSs X s (tSs X.K C G wf (stSs c sc s))
  | [] => by simp only [stSs]; exact pss_nil.imp fun D σ H h => nil_ok h
  | s :: r => by simp only [stSs]; exact (pss_cons (S_ok W hs s) (Ss_ok W hs r)).imp fun D σ H h => cons_ok h
end
end
end PP

/-! PPFn: a def's body keeps the def's promise. -/
namespace PP
open PySem PySem.Spec PyProof.Rows L2
theorem RpL.length {K : Fg} {H : Hp} : ∀ {vs : List V} {ds : List D} {fl : List (List Addr)}, RpL K H vs ds fl → vs.length = ds.length ∧ fl.length = ds.length
  | _, _, _, .nil => ⟨rfl, rfl⟩
  | _, _, _, .cons _ r => by simp [r.length.1, r.length.2]
theorem RpL.get {K : Fg} {H : Hp} : ∀ {vs : List V} {ds : List D} {fl : List (List Addr)}, RpL K H vs ds fl → ∀ {i : Nat} {d : D}, ds[i]? = some d → ∃ v fp, vs[i]? = some v ∧ fl[i]? = some fp ∧ Rp K H v d fp
  | _, _, _, .nil, i, d, h => by simp at h
  | _, _, _, .cons x r, 0, d, h => by simp at h; subst h; exact ⟨_, _, rfl, rfl, x⟩
  | _, _, _, .cons x r, i + 1, d, h => by
    obtain ⟨v, fp, h1, h2, h3⟩ := r.get (i := i) (d := d) h
    exact ⟨v, fp, h1, h2, h3⟩
theorem entry_at {f : Fn} {ds : List D} {i : Nat} {s : Sl} (h : (entry f ds)[i]? = some (some s)) : ∃ d, ds[i]? = some d ∧ s = ⟨d, if f.io.contains i then .io else .sh, []⟩ := by
  unfold entry at h
  by_cases hi : i < ds.length
  · rw [List.getElem?_append_left (by simpa using hi), List.getElem?_map, List.getElem?_zipIdx, List.getElem?_eq_getElem hi] at h
    simp only [Option.map_some, Option.some.injEq] at h
    refine ⟨_, List.getElem?_eq_getElem hi, ?_⟩
    rw [← h]
    simp
  · rw [List.getElem?_append_right (by simpa using hi), List.getElem?_replicate] at h
    split at h <;> cases h
def fpsOf (fl : List (List Addr)) (i : Nat) : List Addr := (fl[i]?).getD []
/-- the frame at the entry -/
theorem FR.entry {K : Fg} {H : Hp} {f : Fn} {N : List Str} {vs : List V} {ds : List D} {fl : List (List Addr)} (r : RpL K H vs ds fl) (hn : f.nn = N.length) (hl : ds.length ≤ N.length) {IO : List (Nat × Addr)}
    (io1 : ∀ i, f.io.contains i = true → i < ds.length → ∃ a tl, fl[i]? = some (a :: tl) ∧ a ∉ tl ∧ vs[i]? = some (.ref a) ∧ (i, a) ∈ IO ∧ ∀ j fq, j ≠ i → fl[j]? = some fq → a ∉ fq) :
    FR K ⟨H, IO, fun a => a ∈ fl.flatten, fun _ => False⟩ (L2.start N vs) H (PP.entry f ds) (fpsOf fl) := by
  have hv := r.length
  have mem : ∀ {i : Nat} {a : Addr}, a ∈ fpsOf fl i → a ∈ fl.flatten := fun {i a} m => by
    unfold fpsOf at m
    cases e : fl[i]? with
    | none => rw [e] at m; simp at m
    | some fp => rw [e] at m; exact List.mem_flatten.mpr ⟨fp, List.mem_of_getElem? e, m⟩
  have kd : ∀ {i : Nat} {s : Sl}, (PP.entry f ds)[i]? = some (some s) → s.k = .own ∨ s.k = .io ∨ s.k = .deep → s.k = .io ∧ ∃ a tl, fl[i]? = some (a :: tl) ∧ a ∉ tl ∧ vs[i]? = some (.ref a) ∧ (i, a) ∈ IO ∧ ∀ j fq, j ≠ i → fl[j]? = some fq → a ∉ fq := fun {i s} e k => by
    obtain ⟨d, h1, h2⟩ := entry_at e
    subst h2
    by_cases hc : f.io.contains i = true
    · exact ⟨if_pos hc, io1 i hc (List.getElem?_eq_some_iff.mp h1).1⟩
    · have z : (if f.io.contains i = true then Kd.io else Kd.sh) = .sh := if_neg hc
      simp only [z] at k
      rcases k with k | k | k <;> cases k
  have st : ∀ {i : Nat} {v : V}, vs[i]? = some v → (L2.start N vs)[i]? = some (some v) := fun {i v} h => by
    unfold L2.start
    obtain ⟨h1, h2⟩ := List.getElem?_eq_some_iff.mp h
    rw [List.getElem?_append_left (by simpa using h1), List.getElem?_map, h]
    rfl
  have cl1 : ∀ {i : Nat} {a : Addr}, clm (PP.entry f ds) (fpsOf fl) i a → ∃ tl, fl[i]? = some (a :: tl) ∧ ∀ j fq, j ≠ i → fl[j]? = some fq → a ∉ fq := fun {i a} ⟨s, e, h⟩ => by
    rcases h with ⟨k, _⟩ | ⟨k, m⟩
    · obtain ⟨k2, _⟩ := kd e (.inr (.inr k))
      rw [k] at k2; cases k2
    · obtain ⟨_, b, tl, g1, g2, g3, g4, g5⟩ := kd e (k.elim .inl fun k => .inr (.inl k))
      unfold fpsOf at m
      rw [g1] at m
      have : b = a := by simpa using m
      subst this
      exact ⟨tl, g1, g5⟩
  refine ⟨?_, fun i s e => ?_, fun i s e k => ?_, fun i s e k => ?_, fun i s a e k c => ?_, fun i s e k => ?_, fun i j s a hij c e m => ?_, fun j s a e m => .inl (mem m), .refl, fun j s a e m z => z, fun a z => z.elim⟩
  · unfold PP.entry L2.start
    simp only [List.length_append, List.length_map, List.length_zipIdx, List.length_replicate]
    omega
  · obtain ⟨d, h1, h2⟩ := entry_at e
    subst h2
    obtain ⟨v, fp, g1, g2, g3⟩ := r.get h1
    refine ⟨v, st g1, ?_⟩
    unfold fpsOf
    rw [g2]
    exact g3
  · obtain ⟨_, a, tl, g1, g2, g3, _⟩ := kd e (k.elim .inl fun k => .inr (.inl k))
    exact ⟨a, tl, by unfold fpsOf; rw [g1]; rfl, g2, st g3⟩
  · obtain ⟨_, a, tl, g1, g2, g3, g4, _⟩ := kd e (.inr (.inl k))
    exact ⟨a, g4, by unfold fpsOf; rw [g1]; rfl⟩
  · obtain ⟨s', e', h⟩ := c
    rw [e] at e'; cases e'
    rcases h with ⟨k2, _⟩ | ⟨k2, _⟩
    · exact absurd (kd e (.inr (.inr k2))).1 k
    · exact absurd (kd e (k2.elim .inl fun k => .inr (.inl k))).1 k
  · have := (kd e (.inr (.inr k))).1
    rw [k] at this; cases this
  · obtain ⟨tl, _, g⟩ := cl1 c
    unfold fpsOf at m
    cases q : fl[j]? with
    | none => rw [q] at m; simp at m
    | some fq =>
      rw [q] at m
      exact absurd m (g j fq (Ne.symm hij) q)
/-- the end of a body that changes nothing of the arguments -/
theorem fin_A {K : Fg} {H H' : Hp} {fl : List (List Addr)} {f : Fn} {σ : L2.St} {δ : PP.St} {fps : Nat → List Addr} {v : V} {t : Tm} {fp : List Addr} {r : Ret} {P : Addr → Prop} (hio : f.io = []) (fr : FR K ⟨H, [], fun a => a ∈ fl.flatten, fun _ => False⟩ σ H' δ fps) (ro : RO K ⟨H, [], fun a => a ∈ fl.flatten, fun _ => False⟩ H' δ fps v t fp) (h : finish f t δ = some r) :
    Kp (fun _ => False) H H' ∧ RetOk K H fl v r H' fp := by
  unfold finish at h
  rw [hio] at h
  simp only [iosOf, Option.some.injEq] at h
  subst h
  refine ⟨fr.frame.mono (fun a ⟨i, m⟩ => by cases m), ⟨ro.rep, fun a m => ?_, fun h => ?_, fun h => ?_⟩⟩
  · rcases ro.reach a m with z | z | ⟨i, z⟩
    · exact .inl z
    · exact .inr z
    · cases z
  · simp only [Bool.and_eq_true] at h
    obtain ⟨a, tl, h1, h2, h3, h4, _⟩ := ro.fr h.1
    exact ⟨a, tl, h1, h2, h3, h4⟩
  · simp only [Bool.and_eq_true] at h
    obtain ⟨n, q⟩ := ro.u h.1
    exact ⟨n, fun a m => (q a m).1⟩
theorem disj_not {a b : List Nat} (h : disj a b = true) {i : Nat} (ha : i ∈ a) (hb : i ∈ b) : False := by
  unfold disj at h
  rw [List.all_eq_true] at h
  have := h i ha
  simp at this
  exact this hb
/-- .. of a body that changes the list at a, its first argument's -/
theorem fin_B {K : Fg} {H H' : Hp} {fl : List (List Addr)} {f : Fn} {σ : L2.St} {δ : PP.St} {fps : Nat → List Addr} {v : V} {t : Tm} {fp : List Addr} {r : Ret} {p : Nat} {a : Addr} (hio : f.io = [p]) (ha : a ∈ fl.flatten) (fr : FR K ⟨H, [(p, a)], fun a => a ∈ fl.flatten, fun _ => False⟩ σ H' δ fps) (ro : RO K ⟨H, [(p, a)], fun a => a ∈ fl.flatten, fun _ => False⟩ H' δ fps v t fp) (h : finish f t δ = some r) :
    ∃ d' tl', r.ios = [d'] ∧ Kp (fun b => b = a) H H' ∧ RetOk K H fl v r H' fp ∧ a ∉ fp ∧ Rp K H' (.ref a) d' (a :: tl') ∧ a ∉ tl' ∧ (∀ b ∈ tl', b ∈ fl.flatten ∨ H b = none) ∧ (r.fr = true → ∃ b bl, fp = b :: bl ∧ b ∉ tl') ∧ (r.u = true → ∀ b ∈ fp, b ∉ tl') := by
  unfold finish at h
  rw [hio] at h
  simp only [iosOf] at h
  cases e : δ[p]? with
  | none => rw [e] at h; simp at h
  | some o =>
    cases o with
    | none => rw [e] at h; simp at h
    | some s =>
      rw [e] at h
      by_cases hk : s.k = .io
      · simp only [hk, if_true, Option.map_some, Option.some.injEq] at h
        subst h
        obtain ⟨b, hb, hh⟩ := fr.io p s e hk
        have hba : b = a := by simpa using hb
        subst hba
        obtain ⟨b2, tl', h1, h2, h3⟩ := fr.top p s e (.inr hk)
        rw [h1] at hh
        have : b2 = b := by simpa using hh
        subst this
        obtain ⟨w, w1, w2⟩ := fr.rep p s e
        rw [h3] at w1
        have : V.ref b2 = w := Option.some.inj (Option.some.inj w1)
        subst this
        rw [h1] at w2
        have cp : clm δ fps p b2 := ⟨s, e, .inr ⟨.inr hk, by rw [h1]; rfl⟩⟩
        have src : ∀ c, (c ∈ fl.flatten ∨ H c = none ∨ ∃ i, (i, c) ∈ [(p, b2)]) → c ∈ fl.flatten ∨ H c = none := fun c z => by
          rcases z with z | z | ⟨i, z⟩
          · exact .inl z
          · exact .inr z
          · have : c = b2 := by simp at z; exact z.2
            rw [this]; exact .inl ha
        have nio : ∀ i ∈ t.S, i ≠ p := fun i hi z => by
          have := List.all_eq_true.mp ro.io i hi
          rw [z, e] at this
          simp [hk] at this
        have nt : disj t.S (iosS δ [p]) = true → ∀ c, ((∃ i ∈ t.S, clm δ fps i c) ∨ Away δ fps c) → c ∉ tl' := fun hd c z m => by
          have hS : iosS δ [p] = s.S := by simp [iosS, e]
          rw [hS] at hd
          rcases z with ⟨i, hi, c1⟩ | z
          · exact disj_not hd hi (fr.excl i p s c (nio i hi) c1 e (by rw [h1]; exact List.mem_cons_of_mem _ m)).1
          · exact z p s e (by rw [h1]; exact List.mem_cons_of_mem _ m)
        refine ⟨s.d, tl', rfl, fr.frame.mono (fun c ⟨i, m⟩ => by simp at m; exact m.2), ⟨ro.rep, fun c m => src c (ro.reach c m), fun h => ?_, fun h => ?_⟩, fun m => ?_, w2, h2, fun c m => src c (fr.reach p s c e (by rw [h1]; exact List.mem_cons_of_mem _ m)), fun h => ?_, fun h c m => ?_⟩
        · simp only [Bool.and_eq_true] at h
          obtain ⟨c, bl, q1, q2, q3, q4, _⟩ := ro.fr h.1
          exact ⟨c, bl, q1, q2, q3, q4⟩
        · simp only [Bool.and_eq_true] at h
          obtain ⟨n, q⟩ := ro.u h.1
          exact ⟨n, fun c m => (q c m).1⟩
        · exact nio p (ro.cl p b2 cp m) rfl
        · simp only [Bool.and_eq_true] at h
          obtain ⟨c, bl, q1, q2, q3, q4, q5⟩ := ro.fr h.1
          exact ⟨c, bl, q1, nt h.2 c q5⟩
        · simp only [Bool.and_eq_true] at h
          exact nt h.2 c ((ro.u h.1).2 c m).2
      · simp [hk] at h
end PP

/-! PPFn2: THE RULE for a def; all defs by the calls' depth. -/
namespace PP
open PySem PySem.Spec PyProof.Rows L2
/-- what a text's names hold, apart from its functions -/
structure Nm (K : Fg) (mg : Str → Option Value) (c : Cn) : Prop where
  blt : ∀ x, c.gd.contains x = false → c.gc.lookup x = none → boots.contains x = true → mg x = none
  con : ∀ x d, c.gd.contains x = false → c.gc.lookup x = some d → ∃ u v, mg x = some u ∧ RelV v u ∧ ∀ H, Rp K H v d []
section
variable {P : Program} {w : World} {K : Fg} {mg : Str → Option Value} {base : Heap} {x qual : Str} {params : Arguments} {body : List Stmt} {scope : Scope} {f : Addr} {fd : FuncData} {N ps : List Str} {c : Cn} {sig : Sig} {fn : Fn} {C : Calls} {G : Sigs} {wf k : Nat}
theorem spF_len {Cf : List D → Option Ret} {vs : List V} {H : Hp} {Q : VK} (h : spF K sig Cf vs H Q) : vs.length = sig.ps.length := by
  obtain ⟨ds, fl, r, h1, _, h2, _⟩ := h
  rw [h1.length.1, h2]
/-- the body, from the entry to the end -/
theorem body_ok {X : Cx} (W : Ws X c C G) (hsc : X.env.scope = scope) (hK : X.K = K) (hb : fn.body = stSs c scope body) (hnn : fn.nn = c.N.length) (hio : fn.io = sig.io) (hcon : sig.con = []) (hN : sig.ps.length ≤ c.N.length) {vs : List V} {H : Hp} {Q : VK}
    (h : spF K sig (runFn C G wf fn) vs H Q) : tSs X.K C G wf (stSs c scope body) { nx := fun _ H' => Q .non H', rt := Q } (L2.start c.N vs) H := by
  subst hK
  obtain ⟨ds, fl, r, rl, hrun, hlen, cs⟩ := h
  unfold runFn at hrun
  split at hrun
  · rename_i hnp
    have fin : ∀ (IO : List (Nat × Addr)), FR X.K ⟨H, IO, fun a => a ∈ fl.flatten, fun _ => False⟩ (L2.start c.N vs) H (entry fn ds) (fpsOf fl) →
        (∀ (σ' : L2.St) (H' : Hp) (δ : PP.St) (fps : Nat → List Addr) (v : V) (t : Tm) (fp : List Addr), FR X.K ⟨H, IO, fun a => a ∈ fl.flatten, fun _ => False⟩ σ' H' δ fps → RO X.K ⟨H, IO, fun a => a ∈ fl.flatten, fun _ => False⟩ H' δ fps v t fp → finish fn t δ = some r → Q v H') →
        tSs X.K C G wf (stSs c scope body) { nx := fun _ H' => Q .non H', rt := Q } (L2.start c.N vs) H := fun IO f0 hq => by
      rw [hb] at hrun
      cases ho : evSs C G wf [] (stSs c scope body) (entry fn ds) with
      | none => rw [ho] at hrun; cases hrun
      | some o =>
        rw [ho] at hrun
        refine ⟨_, [], _, _, o, f0, ho, ?_⟩
        cases o with
        | nx δ => exact fun σ' H' fps' f' _ => hq σ' H' δ fps' .non (scal .non) [] f' ⟨.non, (fun _ _ _ h => nomatch h), (fun h => nomatch h), (fun h => nomatch h), (fun _ h => nomatch h), ioFree_nil⟩ hrun
        | ret t δ => exact fun v σ' H' fps' fp f' ro => hq σ' H' δ fps' v t fp f' ro hrun
        | brk δ => cases hrun
        | cont δ => cases hrun
    rcases cs with ⟨c1, c2, q⟩ | ⟨p, a, tl, d', c1, c2, c3, c4, c5, c6, c7, q⟩ | ⟨fp0, c1, c2, _⟩
    · refine fin [] (FR.entry rl hnn (by omega) fun i hi => ?_) fun σ' H' δ fps v t fp f' ro hf => ?_
      · rw [hio, c1] at hi; cases hi
      · obtain ⟨kp, ro'⟩ := fin_A (P := fun _ => False) (hio.trans c1) f' ro hf
        exact q v H' fp kp ro'
    · have ha : a ∈ fl.flatten := List.mem_flatten.mpr ⟨_, List.mem_of_getElem? c3, List.mem_cons_self⟩
      refine fin [(p, a)] (FR.entry rl hnn (by omega) fun i hi hl => ?_) fun σ' H' δ fps v t fp f' ro hf => ?_
      · rw [hio, c1] at hi
        have : i = p := by simpa using hi
        subst this
        exact ⟨a, tl, c3, c5, c6, by simp, c4⟩
      · obtain ⟨d2, tl', g1, g2, g3, g4, g5, g6, g7, g8, g9⟩ := fin_B (hio.trans c1) ha f' ro hf
        rw [c7] at g1
        have : d' = d2 := by simpa using g1
        subst this
        exact q v H' fp tl' g2 g3 g4 g5 g6 g7 g8 g9
    · rw [hcon] at c2; cases c2
  · cases hrun
/-- THE RULE -/
theorem fn_code (F : FunD K x qual params body scope [] [] f fd) (S : FnScope N ps scope) (hcN : c.N = N) (hps : sig.ps = ps) (hb : fn.body = stSs c scope body) (hnn : fn.nn = N.length) (hio : fn.io = sig.io) (hcon : sig.con = []) (nm : Nm K mg c)
    (calls : ∀ f g, c.gd.contains f = true → G f = some g → CallOk P w K mg base k f g (C f)) : FnG P w K mg base (k + 1) f fd ps (spF K sig (runFn C G wf fn)) := by
  obtain ⟨oc, od, dV, kV, doc, pm, an, cdv, ct, osl, rfl, lk, hcd, _, _⟩ := F.ex
  have hpl : ps.length ≤ N.length := by
    have := congrArg List.length S.pre
    rw [List.length_take] at this
    omega
  refine ⟨fun vs H Q h => by rw [spF_len h, hps], ?_⟩
  intro A outer s H args us vs Q hr hg e0 hbt rv hsp
  have hl : vs.length = ps.length := by rw [spF_len hsp, hps]
  have KX : K.In s.heap := e0.mod.kin.keeps fun b o e => (e0.bs b o e).1
  have lim : s.heap.NoLimit := e0.mod.nolimit.keeps fun b o e => (e0.bs b o e).1
  have hkind : ∀ y ∈ ps.zip us, scope.names.lookup y.1 = some .local ∨ (scope.names.lookup y.1 = some .cell ∧ ((cellsFrom (s.heap.objs.size + 1) scope.names []).lookup y.1).isSome = true) := by
    rintro ⟨n, u⟩ hy
    rcases S.par n (List.of_mem_zip hy).1 with q | q
    · exact .inl q
    · exact .inr ⟨q, PySem.W.cellsFrom_some _ _ _ (.inl q)⟩
  refine codeAny_call_function hr.depth (KX _ _ lk) rfl S.co S.gen rfl (PySem.W.codeRec_of KX hcd) (hbt _ _ _ _ ?_)
  refine wpAny_newFunctionEnv_cells S.kind hkind fun env he s1 xc => ?_
  subst he
  refine ⟨lim.keeps xc.toInCall.keep, codeAny_func ?_⟩
  have I := inv_start (CX := CX0) (w := w) (E := E0) (qual := qual) (f := f) (cd := cdv) S hr.hd e0 hl rv xc
  have room : Room k (A.deeper (envOfC qual scope s.heap.objs.size f cdv)) := hr.deeper _
  have W : Ws (cxOf CX0 P w K mg base N qual scope f cdv A outer s H E0) c C G :=
    ⟨⟨rfl, hcN.symm, S.nd, by have := room.un; show (A.deeper _).units + 70 < _; omega, hg, nm.blt, nm.con, fun f g h1 h2 => ⟨k, room, calls f g h1 h2⟩⟩, fun _ => rfl, passes_of (X := cxOf CX0 P w K mg base N qual scope f cdv A outer s H E0) rfl⟩
  have PB := Ss_ok (wf := wf) W rfl body
  have hq := body_ok (X := cxOf CX0 P w K mg base N qual scope f cdv A outer s H E0) W rfl rfl hb (by rw [hcN]; exact hnn) hio hcon (by rw [hps, hcN]; exact hpl) hsp
  rw [hcN] at hq
  refine wpAny_mono (PB.run [] s1 (L2.start N vs) H _ I hq) (fun fl s' hs => ?_) fun e s' hs => hs
  have out : ∀ {σ' : L2.St} {H' : Hp} {v : V} {u : Value}, L2.Inv (cxOf CX0 P w K mg base N qual scope f cdv A outer s H E0) [] σ' H' s' → RelV v u → Q v H' → CE outer P w H s Q u s' :=
    fun {σ' H' v u} J r q => ⟨v, H', J.os, J.bare, J.base, J.hok, r, q⟩
  match fl, hs with
  | .ret u, ⟨v, σ', H', J, r, q⟩ => exact out J r q
  | .next, ⟨σ', H', J, q⟩ => exact out (v := V.non) (u := Value.none) J rfl q
  | .brk, ⟨_, _, _, q⟩ => exact False.elim q
  | .cont, ⟨_, _, _, q⟩ => exact False.elim q
end
/-- what is known of a text's functions: where each stands, how it is called -/
structure Tab (P : Program) (w : World) (K : Fg) (mg : Str → Option Value) (Γ : Prog) (own : List Str) : Prop where
  at_ : ∀ f df, own.contains f = true → Γ f = some df → ∃ fa fd, mg f = some (.ref fa) ∧ PySem.W.keepIn K (.ref fa) = true ∧
    (∀ (s : Shared) (us : List Value), us.length = df.sig.ps.length → BindsTo s fd ⟨us, []⟩ (df.sig.ps.zip us)) ∧
    (∀ ks ∈ df.sig.kw, ∀ (s : Shared) (us ws : List Value), reorder ks df.sig.ps us = some ws → us.length = ks.length → BindsTo s fd ⟨[], ks.zip us⟩ (df.sig.ps.zip ws)) ∧
    (match df with
      | .code sig fn => ∃ (qual : Str) (params : Arguments) (body : List Stmt) (scope : Scope) (c : Cn), FunD K f qual params body scope [] [] fa fd ∧ FnScope c.N sig.ps scope ∧ fn.body = stSs c scope body ∧ fn.nn = c.N.length ∧ fn.io = sig.io ∧ sig.con = [] ∧ Nm K mg c ∧ (∀ g, c.gd.contains g = true → own.contains g = true)
      | .prim sig sem => ∀ (base : Heap), K.In base → base.Ns mainGlobals mg → ∀ n, FnG P w K mg base (n + 1) fa fd sig.ps (spF K sig (sem n)))
/-- ALL FUNCTIONS, by the calls' depth -/
theorem all_ok {P : Program} {w : World} {K : Fg} {mg : Str → Option Value} {base : Heap} {Γ : Prog} {own : List Str} {wf : Nat} (T : Tab P w K mg Γ own) (kb : K.In base) (nb : base.Ns mainGlobals mg) : ∀ (n : Nat) (f : Str) (g : Sig), own.contains f = true → Γ.sigs f = some g → CallOk P w K mg base n f g (callN Γ wf n f) := by
  intro n
  induction n with
  | zero =>
    intro f g ho hg
    obtain ⟨df, hd, rfl⟩ := Option.map_eq_some_iff.mp hg
    obtain ⟨fa, fd, h1, h2, h3, h4, _⟩ := T.at_ f df ho hd
    refine ⟨fa, fd, h1, h2, ⟨fun vs H Q h => spF_len h, fun A outer s H args us vs Q _ _ _ _ _ h => ?_⟩, h3, h4⟩
    obtain ⟨ds, fl, r, _, hc, _⟩ := h
    cases hc
  | succ n ih =>
    intro f g ho hg
    obtain ⟨df, hd, rfl⟩ := Option.map_eq_some_iff.mp hg
    obtain ⟨fa, fd, h1, h2, h3, h4, h5⟩ := T.at_ f df ho hd
    refine ⟨fa, fd, h1, h2, ?_, h3, h4⟩
    cases df with
    | code sig fn =>
      obtain ⟨qual, params, body, scope, c, F, S, hb, hnn, hio, hcon, nm, hgd⟩ := h5
      have hC : callN Γ wf (n + 1) f = runFn (callN Γ wf n) Γ.sigs wf fn := by
        funext ds
        simp only [callN, hd]
      rw [hC]
      exact fn_code F S rfl rfl hb hnn hio hcon nm fun f' g' a b => ih f' g' (hgd f' a) b
    | prim sig sem =>
      have hC : callN Γ wf (n + 1) f = sem n := by
        funext ds
        simp only [callN, hd]
      rw [hC]
      exact h5 base kb nb n
/-- one function, its object once for every base -/
theorem one_ok {P : Program} {w : World} {K : Fg} {mg : Str → Option Value} {Γ : Prog} {own : List Str} {wf : Nat} (T : Tab P w K mg Γ own) {f : Str} {g : Sig} (ho : own.contains f = true) (hg : Γ.sigs f = some g) : ∃ fa fd, mg f = some (.ref fa) ∧
    (∀ (s : Shared) (us : List Value), us.length = g.ps.length → BindsTo s fd ⟨us, []⟩ (g.ps.zip us)) ∧ ∀ base : Heap, K.In base → base.Ns mainGlobals mg → ∀ n, FnG P w K mg base (n + 1) fa fd g.ps (spF K g (callN Γ wf (n + 1) f)) := by
  obtain ⟨df, hd, rfl⟩ := Option.map_eq_some_iff.mp hg
  obtain ⟨fa, fd, h1, h2, h3, h4, h5⟩ := T.at_ f df ho hd
  refine ⟨fa, fd, h1, h3, fun base kb nb n => ?_⟩
  cases df with
  | code sig fn =>
    obtain ⟨qual, params, body, scope, c, F, S, hb, hnn, hio, hcon, nm, hgd⟩ := h5
    have hC : callN Γ wf (n + 1) f = runFn (callN Γ wf n) Γ.sigs wf fn := by
      funext ds
      simp only [callN, hd]
    rw [hC]
    exact fn_code F S rfl rfl hb hnn hio hcon nm fun f' g' a b => all_ok T kb nb n f' g' (hgd f' a) b
  | prim sig sem =>
    have hC : callN Γ wf (n + 1) f = sem n := by
      funext ds
      simp only [callN, hd]
    rw [hC]
    exact h5 base kb nb n
end PP

/-! PPEnd: from the law's def to the law's row. -/
namespace PP
open PySem PySem.Spec PyProof.Rows L2
section
variable {P : Program} {w : World} {K : Fg} {mg mb : Str → Option Value} {fa a : Addr} {s₁ : Shared} {vals : List Value} {ns : List Int}
/-- the script among what is tracked: as it stands, for ever; or it is one of the written part's own -/
def scr (K : Fg) (a : Addr) (vals : List Value) (ns : List Int) : Hp := fun b => if b = a ∧ K.lookup a = none then some (.frz { cls := .type "list", data := .seq vals.toArray } (.lst (ns.map V.int))) else none
theorem scr_some {b : Addr} {u : HO} (h : scr K a vals ns b = some u) : b = a ∧ K.lookup a = none ∧ u = .frz { cls := .type "list", data := .seq vals.toArray } (.lst (ns.map V.int)) := by
  unfold scr at h
  split at h
  · rename_i hc
    simp only [Option.some.injEq] at h
    exact ⟨hc.1, hc.2, h.symm⟩
  · cases h
theorem scr_rp (hK : ∀ o, K.lookup a = some o → o = { cls := .type "list", data := .seq vals.toArray }) (hv : Vals (ns.map V.int) vals) (hl : vals.length ≤ sizeLine) : Rp K (scr K a vals ns) (.ref a) (.frz (ns.map D.int)) [] := by
  have items : ∀ l : List Int, RpAll K (scr K a vals ns) (l.map V.int) (l.map D.int) [] := by
    intro l
    induction l with
    | nil => exact .nil
    | cons i l ih => simpa using RpAll.cons (Rp.int (K := K) (H := scr K a vals ns) i) ih
  refine .frz ?_ (items ns) (by simp)
  cases hk : K.lookup a with
  | none => exact .inl ⟨_, if_pos ⟨rfl, hk⟩⟩
  | some o =>
    have := hK o hk
    subst this
    exact .inr ⟨_, vals.toArray, 0, hk, rfl, rfl, rfl, by simpa using hl, by simpa using hv⟩
/-- the law's def is called with the script: it gives True -/
theorem law_runs {x : Str} {fd : FuncData} {k : Nat} {sig : Sig} {Cf : List D → Option Ret} {r : Ret} (KX : K.In s₁.heap) (hns : s₁.heap.Ns mainGlobals mg) (hbn : s₁.heap.Ns builtinsNs mb) (hbb : ∀ x : Str, x ≠ "__name__" → mb x = bootBuiltins x) (hlim : s₁.heap.NoLimit) (hgen : s₁.gens = #[])
    (ha : s₁.heap.get? a = some { cls := .type "list", data := .seq vals.toArray }) (hi : IntsAre vals ns) (hl : ns.length ≤ sizeLine) (room : Room k callerA)
    (F : ∀ base : Heap, K.In base → base.Ns mainGlobals mg → FnG P w K mg base k fa fd [x] (spF K sig Cf)) (bind : ∀ (s : Shared) (u : Value), BindsTo s fd ⟨[u], []⟩ [(x, u)])
    (hps : sig.ps.length = 1) (hio : sig.io = []) (hcon : sig.con = []) (hr : Cf [.frz (ns.map D.int)] = some r) (ht : r.d = .bl true) :
    codeAny (model P w) callerA (.call (.ref fa) ⟨[.ref a], []⟩) (fun r s' => r = .ok (.ret (.bool true)) ∧ OldK s₁.heap s'.heap ∧ s'.os = s₁.os ∧ AllBare s'.gens) s₁ := by
  have hv : Vals (ns.map V.int) vals := vals_ints hi
  have hln : vals.length ≤ sizeLine := by rw [← hi.length] at hl; exact hl
  have own : ∀ o, K.lookup a = some o → o = { cls := .type "list", data := .seq vals.toArray } := fun o e => Option.some.inj ((KX a o e).symm.trans ha)
  generalize hH : scr K a vals ns = H
  have rp : Rp K H (.ref a) (.frz (ns.map D.int)) [] := by rw [← hH]; exact scr_rp own hv hln
  have only : ∀ {b : Addr} {u : HO}, H b = some u → b = a ∧ K.lookup a = none ∧ u = .frz { cls := .type "list", data := .seq vals.toArray } (.lst (ns.map V.int)) := fun {b u} e => by
    rw [← hH] at e; exact scr_some e
  have ok : HOk P w H s₁.heap := fun b u e => by
    obtain ⟨rfl, _, rfl⟩ := only e
    exact ⟨ha, by rw [List.length_map]; exact hl, vals, 0, hv, ha⟩
  have stays : ∀ {b : Addr} {o : Obj}, s₁.heap.get? b = some o → H b = none → (hidT s₁.heap H).get? b = some o := fun e n => hidT_get e n
  have noDict : ∀ {b : Addr} {o : Obj} {es : Array DictEntry} {ep : Nat}, s₁.heap.get? b = some o → o.data = .dict es ep → H b = none := fun {b o es ep} e d => by
    cases q : H b with
    | none => rfl
    | some u =>
      obtain ⟨rfl, _, _⟩ := only q
      rw [ha] at e
      cases e
      cases (show Data.seq vals.toArray _ = Data.dict es ep from d)
  have names : ∀ {b : Addr} {m : Str → Option Value}, s₁.heap.Ns b m → (hidT s₁.heap H).Ns b m := fun {b m} z => by
    obtain ⟨o, es, ep, e, d, q⟩ := z
    exact ⟨o, es, ep, stays e (noDict e d), d, q⟩
  have kin : K.In (hidT s₁.heap H) := fun b o e => stays (KX b o e) (by
    cases q : H b with
    | none => rfl
    | some u =>
      obtain ⟨rfl, z, _⟩ := only q
      rw [z] at e
      cases e)
  have env : Env0 P w K mg (hidT s₁.heap H) callerA [] s₁ H := by
    refine ⟨rfl, ⟨kin, names hns, ⟨mb, names hbn, hbb⟩, ?_⟩, fun b o e => of_hidT e, Nat.le_of_eq (hidT_size _ _), trivial, (fun b hb => nomatch hb), ok, .of_eq hgen⟩
    obtain ⟨mc, h1, h2⟩ := hlim
    exact ⟨mc, names h1, h2⟩
  have sp : spF K sig Cf [.ref a] H (fun v _ => v = .bl true) := by
    refine ⟨[.frz (ns.map D.int)], [[]], r, .cons rp .nil, hr, by rw [hps]; rfl, .inl ⟨hio, hcon, fun v H' fp _ ro => ?_⟩⟩
    have := ro.rep
    rw [ht] at this
    cases this
    rfl
  refine codeAny_mono ((F _ kin (names hns)).run callerA [] s₁ H ⟨[.ref a], []⟩ [.ref a] [.ref a] _ room rfl env (bind s₁ (.ref a)) (.cons rfl .nil) sp) fun res s' h => ?_
  match res, h with
  | .error _, h => exact False.elim h
  | .ok .next, h => exact False.elim h
  | .ok .brk, h => exact False.elim h
  | .ok .cont, h => exact False.elim h
  | .ok (.ret u), ⟨v, H', os, bare, un, ok', rv, hv'⟩ =>
    have hv2 : v = .bl true := hv'
    subst hv2
    have hu : u = Value.bool true := rv
    subst hu
    refine ⟨rfl, OldK.of_keep fun b o e => ?_, os, bare⟩
    cases q : H b with
    | none => exact un.keep b o e q (fun z => nomatch z) (by simp)
    | some u =>
      obtain ⟨_, _, hu⟩ := only q
      subst hu
      have z := un.frzs b _ _ q
      have e1 := (ok' b _ z).1
      have e2 := (ok b _ q).1
      rw [e] at e2
      cases e2
      exact e1
/-- a law's row: from its def's promise, and what the evaluator gives -/
theorem walk_pp {l : PySem.W.OpenLaw} {n k : Nat} {q : Program} {loose : List Str} {XP : (Str → Option Value) → Heap → Prop} {YP : World → Heap → Prop} {d : DefRec} {x : Str} {sig : Sig} {Cf : List D → Option Ret}
    (hn : l.most = some n) (hn2 : n ≤ sizeLine) (hdf : d.params.defaults = []) (room : Room k callerA) (hps : sig.ps.length = 1) (hio : sig.io = []) (hcon : sig.con = [])
    (F : ∀ (w : World) (mg : Str → Option Value) (fa : Addr) (h : Heap), YP w h → h.Ns mainGlobals mg → mg d.name = some (.ref fa) →
      ∃ (K : Fg) (fd : FuncData), K.In h ∧ (∀ (s : Shared) (u : Value), BindsTo s fd ⟨[u], []⟩ [(x, u)]) ∧ ∀ base : Heap, K.In base → base.Ns mainGlobals mg → FnG l.prog w K mg base k fa fd [x] (spF K sig Cf))
    (law : ∀ ns : List Int, ns.length ≤ n → (∀ z ∈ ns, Builtin.Int.intBits z ≤ 1048576) → ∃ r, Cf [.frz (ns.map D.int)] = some r ∧ r.d = .bl true) :
    PySem.W.WalkO q loose XP YP l.row.toRowW d [] (fun f vs => PySem.call f vs) := by
  refine Att.attach_callB hn hdf fun w s₀ s₁ mg mb fa o pm cd doc a vs ns G Y ho hd hcd hmg hobj hints hlen hbits hgen => ?_
  obtain ⟨K, fd, KX, hb, hF⟩ := F w mg fa _ Y G.T.g hmg
  obtain ⟨r, hr, ht⟩ := law ns hlen hbits
  exact law_runs KX G.T.g G.T.b G.T.builtins G.T.nolimit hgen hobj hints (Nat.le_trans hlen hn2) room hF hb hps hio hcon hr ht
end
end PP

/-! PPHead: what a text's names hold, from the head's facts. -/
namespace PP
open PySem PySem.Spec PyProof.Rows L2
theorem zip_lookup : ∀ {ps : List Str} {us : List Value} {p : Str}, ps.length = us.length → p ∈ ps → ((ps.zip us).lookup p).isSome = true
  | [], _, _, _, h => nomatch h
  | q :: ps, [], _, hl, _ => by simp at hl
  | q :: ps, u :: us, p, hl, h => by
    simp only [List.zip_cons_cons, List.lookup_cons]
    split
    · rfl
    · rename_i hn
      refine zip_lookup (by simpa using hl) ((List.mem_cons.mp h).resolve_left fun z => ?_)
      rw [z] at hn; simp at hn
theorem zip_map : ∀ {ps : List Str} {us : List Value} {al : List (Str × Value)}, ps.Nodup → ps.length = us.length → (∀ p ∈ ps, al.lookup p = (ps.zip us).lookup p) → ps.filterMap (fun n => (al.lookup n).map (n, ·)) = ps.zip us
  | [], us, al, _, hl, _ => by simp
  | q :: ps, [], al, _, hl, _ => by simp at hl
  | q :: ps, u :: us, al, nd, hl, h => by
    have h0 := h q List.mem_cons_self
    simp only [List.zip_cons_cons, List.lookup_cons, beq_self_eq_true] at h0
    simp only [List.filterMap_cons, h0, Option.map_some, List.zip_cons_cons]
    rw [List.nodup_cons] at nd
    congr 1
    refine zip_map nd.2 (by simpa using hl) fun p hp => ?_
    have h1 := h p (List.mem_cons_of_mem _ hp)
    simp only [List.zip_cons_cons, List.lookup_cons] at h1
    have hne : (p == q) = false := by
      have : p ≠ q := fun z => nd.1 (by rw [← z]; exact hp)
      simpa using this
    rw [hne] at h1
    exact h1
theorem bind_pos {fd : FuncData} {args : List Arg} {us : List Value} (hp : fd.params = ⟨[], args, none, [], [], none, []⟩) (hd : fd.defaults = .none) (hn : (args.map (·.arg)).Nodup) (hl : us.length = args.length) : bindArgs fd ⟨us, []⟩ = pure ((args.map (·.arg)).zip us) := by
  unfold bindArgs
  have hz : (args.map (·.arg)).length = us.length := by simp [hl]
  have e1 : (args.map (·.arg)).filter (fun n => (((args.map (·.arg)).zip us).lookup n).isNone) = [] := by
    rw [List.filter_eq_nil_iff]
    intro p hp
    have := zip_lookup (us := us) hz hp
    simpa using this
  have e2 : seqItems? Value.none = pure none := rfl
  have e3 := zip_map hn hz fun p _ => rfl
  rw [List.filterMap_map] at e3
  simp [hp, hd, e2, hl]
  rw [if_neg, e3]
  simp [hp]
  intro x hx
  have := List.mem_of_mem_take hx
  obtain ⟨y, hy, rfl⟩ := List.mem_map.mp this
  have := zip_lookup (us := us) hz (List.mem_map.mpr ⟨y, hy, rfl⟩)
  simpa using this

/-- a def's scope, as the rule wants it -/
def fnScC (N ps : List Str) (sc : Scope) : Bool :=
  (match sc.kind with | .function => true | _ => false) && !sc.isCoroutine && !sc.isGenerator && decide N.Nodup && decide (N.take ps.length = ps) &&
    (ps.all fun x => decide (sc.names.lookup x = some .local) || decide (sc.names.lookup x = some .cell)) && (sc.names.all fun y => decide (y.2 ≠ .free))
theorem fnSc_ok {N ps : List Str} {sc : Scope} (h : fnScC N ps sc = true) : FnScope N ps sc := by
  unfold fnScC at h
  simp only [Bool.and_eq_true, decide_eq_true_eq, Bool.not_eq_true', List.all_eq_true, Bool.or_eq_true] at h
  obtain ⟨⟨⟨⟨⟨⟨h1, h2⟩, h3⟩, h4⟩, h5⟩, h6⟩, h7⟩ := h
  refine ⟨?_, h2, h3, h4, h5, h6, h7⟩
  split at h1
  · assumption
  · cases h1
/-- the defs of a text, for the head -/
def defsOf (body : List Stmt) : List He.DefD := body.filterMap fun s => match s with
  | .FunctionDef n a b _ _ _ sc _ _ _ => some ⟨(n, none), n, n, a, b, sc, [], []⟩
  | _ => none
/-- the constants that are tuples -/
def tupsOf (l : List (Str × D)) : List (Str × List He.Dv) := l.filterMap fun q => match q.2 with
  | .tup [.int i, .int j] => some (q.1, [.int i, .int j])
  | _ => none
def factsOf (P : Program) : List He.Fa := (defNames P.main.body).map .glo ++ ((tupsOf (constsOf P.main.body)).map fun q => .glo q.1) ++ boots.map .free ++ (constsOf P.main.body).filterMap fun q => match q.2 with
  | .int i => some (.int q.1 i)
  | _ => none
def moreOf (P : Program) (K : Fg) : Bool := (tupsOf (constsOf P.main.body)).all fun q => He.tupB K q.1 q.2
/-- what the head tells -/
structure Told (P : Program) (K : Fg) (h : Heap) (mg : Str → Option Value) : Prop where
  kin : K.In h
  ns : h.Ns mainGlobals mg
  says : He.SaysD (factsOf P) (defsOf P.main.body) K
  more : moreOf P K = true
theorem Told.nm {P : Program} {K : Fg} {h : Heap} {mg : Str → Option Value} (t : Told P K h mg) (N : List Str) : Nm K mg (cnOf P N) := by
  refine ⟨fun x _ _ hb => ?_, fun x d _ hd => ?_⟩
  · have hm : He.Fa.free x ∈ factsOf P := by
      unfold factsOf
      refine List.mem_append_left _ (List.mem_append_right _ (List.mem_map.mpr ⟨x, by simpa using hb, rfl⟩))
    exact He.free_ok t.kin t.ns (t.says.facts hm)
  · have hm : (x, d) ∈ constsOf P.main.body := PySem.mem_of_lookup hd
    have hm2 := hm
    unfold constsOf at hm
    obtain ⟨s, _, hs⟩ := List.mem_filterMap.mp hm
    have cases_ : (∃ i, d = .int i) ∨ ∃ i j, d = .tup [.int i, .int j] := by
      split at hs
      · simp only [Option.some.injEq, Prod.mk.injEq] at hs
        exact .inl ⟨_, hs.2.symm⟩
      · split at hs
        · simp only [Option.some.injEq, Prod.mk.injEq] at hs
          exact .inr ⟨_, _, hs.2.symm⟩
        · cases hs
      · cases hs
    rcases cases_ with ⟨i, rfl⟩ | ⟨i, j, rfl⟩
    · have hf : He.Fa.int x i ∈ factsOf P := by
        unfold factsOf
        exact List.mem_append_right _ (List.mem_filterMap.mpr ⟨_, hm2, rfl⟩)
      obtain ⟨tk, e⟩ := He.int_ok t.kin t.ns (t.says.facts hf)
      exact ⟨_, .int i, e, ⟨tk, rfl⟩, fun H => .int i⟩
    · have ht : (x, [He.Dv.int i, He.Dv.int j]) ∈ tupsOf (constsOf P.main.body) := List.mem_filterMap.mpr ⟨_, hm2, rfl⟩
      have hf : He.Fa.glo x ∈ factsOf P := by
        unfold factsOf
        exact List.mem_append_left _ (List.mem_append_left _ (List.mem_append_right _ (List.mem_map.mpr ⟨_, ht, rfl⟩)))
      have e := He.glo_ok t.kin t.ns (t.says.facts hf)
      have hb := List.all_eq_true.mp t.more _ ht
      refine ⟨_, .ref _, e, rfl, fun H => ?_⟩
      have sq := He.tupB_ok hb H
      exact .tup sq (by simpa [He.Dv.v] using RpAll.cons (Rp.int (K := K) (H := H) i) (RpAll.cons (Rp.int j) .nil)) (by simp)
/-- a text's checks -/
def chkText (P : Program) : Bool := P.main.body.all fun s => match s with
  | .FunctionDef n a b _ _ _ sc _ _ _ => (match paramsOf a with
    | some ps => fnScC (slotsOf ps sc b) ps sc
    | none => true)
  | _ => true
theorem params_of {a : Arguments} {ps : List Str} (h : paramsOf a = some ps) : ∃ args, a = ⟨[], args, none, [], [], none, []⟩ ∧ ps = args.map (·.arg) := by
  unfold paramsOf at h
  split at h
  · simp only [Option.some.injEq] at h
    exact ⟨_, rfl, h.symm⟩
  · cases h
/-- how a text's function is called by names: to be shown for the few that are -/
def KwOk (P : Program) (ioT : List (Str × List Nat)) (kwT : List (Str × List (List Str))) : Prop := ∀ f sig fn, (codeTab P ioT kwT).lookup f = some (.code sig fn) → ∀ ks ∈ sig.kw, ∀ (fd : FuncData) (us ws : List Value), (∃ args, fd.params = ⟨[], args, none, [], [], none, []⟩ ∧ sig.ps = args.map (·.arg)) → fd.defaults = .none → reorder ks sig.ps us = some ws → us.length = ks.length → bindArgs fd ⟨[], ks.zip us⟩ = pure (sig.ps.zip ws)
theorem gd_own {P : Program} {N : List Str} : (cnOf P N).gd = ownNames P.main.body := rfl
theorem tab_of {P : Program} {w : World} {K : Fg} {h : Heap} {mg : Str → Option Value} {ioT : List (Str × List Nat)} {kwT : List (Str × List (List Str))} {prims : List (Str × Df)} (t : Told P K h mg) (chk : chkText P = true) (kw : KwOk P ioT kwT)
    (hp : ∀ f sig sem, prims.lookup f = some (.prim sig sem) → ∃ fa fd, mg f = some (.ref fa) ∧ PySem.W.keepIn K (.ref fa) = true ∧ (∀ (s : Shared) (us : List Value), us.length = sig.ps.length → BindsTo s fd ⟨us, []⟩ (sig.ps.zip us)) ∧ sig.kw = [] ∧
      ∀ (base : Heap), K.In base → base.Ns mainGlobals mg → ∀ n, FnG P w K mg base (n + 1) fa fd sig.ps (spF K sig (sem n))) (hpc : ∀ f sig fn, prims.lookup f ≠ some (.code sig fn)) : Tab P w K mg (progOf P ioT kwT prims) (ownNames P.main.body) := by
  refine ⟨fun f df ho hd => ?_⟩
  unfold progOf at hd
  split at hd
  · rename_i d e
    simp only [Option.some.injEq] at hd
    subst hd
    cases d with
    | code sig fn => exact absurd e (hpc f sig fn)
    | prim sig sem =>
      obtain ⟨fa, fd, h1, h2, h3, h4, h5⟩ := hp f sig sem e
      exact ⟨fa, fd, h1, h2, h3, (fun ks hk => by rw [show (Df.prim sig sem).sig.kw = [] from h4] at hk; cases hk), h5⟩
  · have hm : (f, df) ∈ codeTab P ioT kwT := PySem.mem_of_lookup hd
    unfold codeTab at hm
    obtain ⟨s, hs, hdf⟩ := List.mem_filterMap.mp hm
    unfold dfOf at hdf
    split at hdf
    · rename_i n a b x1 x2 x3 sc x4 x5 x6
      split at hdf
      · rename_i ps hps
        simp only [Option.some.injEq, Prod.mk.injEq] at hdf
        obtain ⟨rfl, rfl⟩ := hdf
        obtain ⟨args, ha, hpa⟩ := params_of hps
        have hdm : (⟨(n, none), n, n, a, b, sc, [], []⟩ : He.DefD) ∈ defsOf P.main.body := List.mem_filterMap.mpr ⟨_, hs, rfl⟩
        obtain ⟨fd, F⟩ := t.says.defs hdm
        have hg : He.Fa.glo n ∈ factsOf P := by
          unfold factsOf
          exact List.mem_append_left _ (List.mem_append_left _ (List.mem_append_left _ (List.mem_map.mpr ⟨n, List.mem_filterMap.mpr ⟨_, hs, rfl⟩, rfl⟩)))
        have gm := He.glo_ok t.kin t.ns (t.says.facts hg)
        have ck := List.all_eq_true.mp chk _ hs
        simp only [hps] at ck
        have S := fnSc_ok ck
        have nd : (args.map (·.arg)).Nodup := by
          rw [← hpa, ← S.pre]
          exact S.nd.sublist (List.take_sublist _ _)
        have Fx := F.ex
        obtain ⟨oc, od, dV, kV, doc, pm, an, cdv, ct, osl, hfd, lk, hcd, hD, hK⟩ := Fx
        have hdn : fd.params = ⟨[], args, none, [], [], none, []⟩ ∧ fd.defaults = .none := by
          rw [hfd, ha]
          refine ⟨rfl, ?_⟩
          rcases hD with ⟨_, z⟩ | ⟨e, _⟩
          · rw [z]
          · exact absurd rfl e
        refine ⟨_, fd, gm, F.kp, fun s us hl => ?_, fun ks hk s us ws hr hl => ?_, ?_⟩
        · refine .of_eq ?_
          show bindArgs fd ⟨us, []⟩ = pure (ps.zip us)
          rw [hpa]
          exact bind_pos hdn.1 hdn.2 nd (by simpa [Df.sig, hpa] using hl)
        · exact .of_eq (kw _ _ _ hd ks hk fd us ws ⟨args, hdn.1, hpa⟩ hdn.2 hr hl)
        · exact ⟨n, a, b, sc, cnOf P (slotsOf ps sc b), F, S, rfl, rfl, rfl, rfl, t.nm _, fun g hg => hg⟩
      · cases hdf
    · cases hdf
theorem kw_loop {normal : List Str} (f : Str × Value → (List (Str × Value)) × (List (Str × Value)) → Sem (ForInStep ((List (Str × Value)) × (List (Str × Value)))))
    (hf : ∀ k v sl ex, normal.contains k = true → (sl.lookup k).isSome = false → f (k, v) ⟨sl, ex⟩ = pure (.yield ⟨sl ++ [(k, v)], ex⟩)) :
    ∀ (kw : List (Str × Value)) (sl ex : List (Str × Value)), (∀ q ∈ kw, normal.contains q.1 = true ∧ (sl.lookup q.1).isSome = false) → (kw.map (·.1)).Nodup → forIn kw ((sl, ex) : _ × _) f = pure ⟨sl ++ kw, ex⟩
  | [], sl, ex, _, _ => by simp
  | (k, v) :: kw, sl, ex, h, nd => by
    obtain ⟨h1, h2⟩ := h (k, v) List.mem_cons_self
    rw [List.forIn_cons, hf k v sl ex h1 h2]
    simp only [List.map_cons, List.nodup_cons] at nd
    have := kw_loop f hf kw (sl ++ [(k, v)]) ex (fun q hq => by
      obtain ⟨g1, g2⟩ := h q (List.mem_cons_of_mem _ hq)
      refine ⟨g1, ?_⟩
      have hne : (q.1 == k) = false := by
        have : q.1 ≠ k := fun z => nd.1 (by rw [← z]; exact List.mem_map.mpr ⟨q, hq, rfl⟩)
        simpa using this
      rw [List.lookup_append, Option.isSome_or, g2]
      simp [List.lookup, hne]) nd.2
    simpa using this
theorem mapM_zip : ∀ {ps : List Str} {kw : List (Str × Value)} {ws : List Value}, (ps.mapM fun p => kw.lookup p) = some ws → ps.filterMap (fun n => (kw.lookup n).map (n, ·)) = ps.zip ws ∧ ∀ p ∈ ps, ∃ v, kw.lookup p = some v
  | [], kw, ws, h => by simp
  | p :: ps, kw, ws, h => by
    simp only [List.mapM_cons, Option.bind_eq_bind, Option.bind_eq_some_iff, Option.pure_def, Option.some.injEq] at h
    obtain ⟨v, h1, wr, h2, rfl⟩ := h
    obtain ⟨i1, i2⟩ := mapM_zip h2
    refine ⟨by simp [h1, i1], fun q hq => ?_⟩
    rcases List.mem_cons.mp hq with rfl | hq
    · exact ⟨v, h1⟩
    · exact i2 q hq
theorem bind_kw {fd : FuncData} {args : List Arg} {kw : List (Str × Value)} {ws : List Value} (hp : fd.params = ⟨[], args, none, [], [], none, []⟩) (hd : fd.defaults = .none) (hn : (args.map (·.arg)).Nodup) (hk : ∀ q ∈ kw, (args.map (·.arg)).contains q.1 = true) (hkn : (kw.map (·.1)).Nodup)
    (hw : (args.map (·.arg)).mapM (fun p => kw.lookup p) = some ws) : bindArgs fd ⟨[], kw⟩ = pure ((args.map (·.arg)).zip ws) := by
  unfold bindArgs
  have e2 : seqItems? Value.none = pure none := rfl
  simp only [hp, List.map_nil, List.nil_append, List.zip_nil_right]
  rw [kw_loop (normal := args.map (·.arg)) _ ?hf kw [] [] (fun q hq => ⟨hk q hq, rfl⟩) hkn]
  · have e3 := mapM_zip hw
    rw [List.filterMap_map] at e3
    simp [hd, e2]
    rw [if_neg, e3.1]
    simp
    intro x hx
    obtain ⟨y, hy, rfl⟩ := List.mem_map.mp (List.mem_of_mem_take hx)
    obtain ⟨v, hv⟩ := e3.2 _ (List.mem_map.mpr ⟨y, hy, rfl⟩)
    exact ⟨v, PySem.mem_of_lookup hv⟩
  · intro k v sl ex h1 h2
    simp [h1, h2]
    simp at h1
    obtain ⟨x, hx, e⟩ := h1
    exact fun h => absurd e (h x hx)
theorem zip_keys {α : Type} : ∀ {ks : List Str} {us : List α}, us.length = ks.length → (ks.zip us).map (·.1) = ks
  | [], us, h => by simp
  | k :: ks, [], h => by simp at h
  | k :: ks, u :: us, h => by simp [zip_keys (ks := ks) (us := us) (by simpa using h)]
/-- calls by names: the names are the parameters', once each -/
def kwC (ps : List Str) (ks : List Str) : Bool := (ks.all fun k => ps.contains k) && decide ks.Nodup
theorem kw_of {P : Program} {ioT : List (Str × List Nat)} {kwT : List (Str × List (List Str))} (h : ((codeTab P ioT kwT).all fun q => q.2.sig.kw.all fun ks => kwC q.2.sig.ps ks) = true) (nd : ((codeTab P ioT kwT).all fun q => decide q.2.sig.ps.Nodup) = true) : KwOk P ioT kwT := by
  intro f sig fn hl ks hk fd us ws ⟨args, hp, hps⟩ hd hr hlen
  have hm := PySem.mem_of_lookup hl
  have h1 : kwC sig.ps ks = true := List.all_eq_true.mp (List.all_eq_true.mp h _ hm) ks hk
  have h2 := List.all_eq_true.mp nd _ hm
  simp only [decide_eq_true_eq] at h2
  have h2' : sig.ps.Nodup := h2
  unfold kwC at h1
  simp only [Bool.and_eq_true, decide_eq_true_eq, List.all_eq_true] at h1
  rw [hps] at h1 hr h2' ⊢
  have kk := zip_keys (ks := ks) (us := us) hlen
  refine bind_kw hp hd h2' (fun q hq => ?_) (by rw [kk]; exact h1.2) hr
  have hq1 : q.1 ∈ ks := by
    have : q.1 ∈ (ks.zip us).map (·.1) := List.mem_map.mpr ⟨q, hq, rfl⟩
    rw [kk] at this
    exact this
  have := h1.1 q.1 hq1
  exact this
end PP

/-! PPSpoilt: the laws' _law_spoilt, by hand: all lists within are once each and new; it uses them up and says True. -/
namespace PP
open PySem PySem.Spec PyProof.Rows L2
/-- the last item is no text -/
def lastOk (ds : List D) : Bool := match ds.getLast? with
  | some (.str _) => false
  | _ => true
/-- what may be asked -/
def spOk : Nat → D → Bool
  | 0, _ => false
  | n + 1, .tup ds => decide (ds.length < 1000000) && ds.all (spOk n)
  | n + 1, .lst ds => plain (.lst ds) && decide (ds.length < 1000000) && lastOk ds && ds.all (spOk n)
  | _ + 1, .non => true
  | _ + 1, .bl _ => true
  | _ + 1, .int _ => true
  | _ + 1, .str _ => true
  | _ + 1, _ => false
def spoilt (n : Nat) : List D → Option Ret
  | [d] => if spOk n d then some ⟨.bl true, false, false, []⟩ else none
  | _ => none
def spSig : Sig := ⟨["told"], [], [0], []⟩
/-- its promise -/
def spT (K : Fg) (n : Nat) : List V → Hp → VK → Prop := fun vs H Q => ∃ v d fp, vs = [v] ∧ Rp K H v d fp ∧ fp.Nodup ∧ spOk n d = true ∧ ∀ H', Kp (fun b => b ∈ fp) H H' → Q (.bl true) H'
theorem spT_of {K : Fg} {n : Nat} {vs : List V} {H : Hp} {Q : VK} (h : spF K spSig (spoilt n) vs H Q) : spT K n vs H Q := by
  obtain ⟨ds, fl, r, rl, hC, hlen, cs⟩ := h
  rcases cs with ⟨_, c2, _⟩ | ⟨_, _, _, _, _, c2, _⟩ | ⟨fp0, _, _, hfl, nd, q⟩
  · cases c2
  · cases c2
  · subst hfl
    cases rl with
    | cons r1 r2 =>
      cases r2
      unfold spoilt at hC
      simp only at hC
      split at hC
      · rename_i ho
        simp only [Option.some.injEq] at hC
        subst hC
        exact ⟨_, _, _, rfl, r1, nd, ho, fun H' kp => q _ _ kp (.bl true)⟩
      · cases hC
/-- what the text of the def is -/
def isT1 : E → Bool
  | .isi (.var 0) [.tuple] => true
  | _ => false
def isT2 : E → Bool
  | .not_ (.isi (.var 0) [.list]) => true
  | _ => false
def isT3 : E → Bool
  | .and_ (.cmp .ne (.var 0) (.lst .nil)) (.and_ (.isi (.sub (.var 0) (.neg (.con (.int 1)))) [.str]) (.cmp .eq (.sub (.var 0) (.neg (.con (.int 1)))) (.con (.str x)))) => x == "spoilt"
  | _ => false
def isC (b : Bool) : E → Bool
  | .con (.bl c) => c == b
  | _ => false
def isS : E → Bool
  | .con (.str x) => decide (x.length ≤ 100)
  | _ => false
def isAll (f : Nat) : E → Bool
  | .bif .all_ (.cons (.var g) .nil) => g == f
  | _ => false
/-- the recursive part -/
structure LcOk (c : Cn) (sc scope : Scope) (nm x y it : Str) (i : Nat) : Prop where
  blk : blkC c.N sc scope (ownOf c.N scope) = true
  it : slotOf c sc it = some 0
  y : slotTo c (relS scope sc) y = some i
  x : slotOf c (relS scope sc) x = some i
  own : i ∈ (ownOf c.N scope).map (·.2)
  gl : gloIn (relS scope sc) nm = true
  ok : okName nm = true
def lcC (c : Cn) (sc scope : Scope) (nm x y it : Str) : Bool := blkC c.N sc scope (ownOf c.N scope) && slotOf c sc it == some 0 && gloIn (relS scope sc) nm && okName nm &&
  match slotTo c (relS scope sc) y with
  | some i => slotOf c (relS scope sc) x == some i && ((ownOf c.N scope).map (·.2)).contains i
  | none => false
theorem lcC_ok {c : Cn} {sc scope : Scope} {nm x y it : Str} (h : lcC c sc scope nm x y it = true) : ∃ i, LcOk c sc scope nm x y it i := by
  unfold lcC at h
  simp only [Bool.and_eq_true, beq_iff_eq] at h
  obtain ⟨⟨⟨⟨h1, h2⟩, h3⟩, h4⟩, h5⟩ := h
  split at h5
  · rename_i i hi
    simp only [Bool.and_eq_true, beq_iff_eq] at h5
    exact ⟨i, h1, h2, hi, h5.1, by simpa using h5.2, h3, h4⟩
  · cases h5
inductive Shape (nm : Str) (c : Cn) (sc : Scope) : List Stmt → Prop
  | mk {t1 t2 t3 r2 r3 r4 e3 : PE_} {sc1 sc2 : Scope} {x1 y1 i1 f2 x2 y2 i2 o3 : Str} {f j1 j2 : Nat} {p1 p2 p3 p4 p5 p6 p7 p8 p9 p10 p11 p12 p13 p14 p15 p16 p17 p18 p19 p20 p21 p22 p23 p24 p25 p26 p27 : Pos}
      (h1 : isT1 (stE c sc t1) = true) (h2 : isT2 (stE c sc t2) = true) (h3 : isT3 (stE c sc t3) = true) (l1 : LcOk c sc sc1 nm x1 y1 i1 j1) (l2 : LcOk c sc sc2 nm x2 y2 i2 j2)
      (g2 : isC true (stE c sc r2) = true) (g3 : isC false (stE c sc r3) = true) (ga : bltIn c sc "all" = true) (hf : slotTo c sc f2 = some f) (f0 : f ≠ 0) (ho : slotOf c sc o3 = some 0) (hs : isS (stE c sc e3) = true) (hs2 : isStar e3 = false) (hpos : (p24.endLine == p25.line) = true) (g4 : isAll f (stE c sc r4) = true) :
      Shape nm c sc [.If t1 [.Return (some (.Call (.Name "all" p1) [.ListComp (.Call (.Name nm p2) [.Name x1 p3] [] p4) [⟨.Name y1 p5, .Name i1 p6, [], 0⟩] sc1 p7] [] p8)) p9] [] p10,
        .If t2 [.Return (some r2) p11] [] p12, .If t3 [.Return (some r3) p13] [] p14,
        .Assign [.Name f2 p15] (.ListComp (.Call (.Name nm p16) [.Name x2 p17] [] p18) [⟨.Name y2 p19, .Name i2 p20, [], 0⟩] sc2 p21) p22,
        .Expr (.Call (.Attribute (.Name o3 p23) "append" p24) [e3] [] p25) p26, .Return (some r4) p27]
def shapeC (nm : Str) (c : Cn) (sc : Scope) : List Stmt → Bool
  | [.If t1 [.Return (some (.Call (.Name a1 _) [.ListComp (.Call (.Name n1 _) [.Name x1 _] [] _) [⟨.Name y1 _, .Name i1 _, [], z1⟩] sc1 _] [] _)) _] [] _,
        .If t2 [.Return (some r2) _] [] _, .If t3 [.Return (some r3) _] [] _,
        .Assign [.Name f2 _] (.ListComp (.Call (.Name n2 _) [.Name x2 _] [] _) [⟨.Name y2 _, .Name i2 _, [], z2⟩] sc2 _) _,
        .Expr (.Call (.Attribute (.Name o3 _) m3 p24) [e3] [] p25) _, .Return (some r4) _] =>
    decide (a1 = "all") && decide (n1 = nm) && decide (n2 = nm) && decide (m3 = "append") && decide (z1 = 0) && decide (z2 = 0) && (isT1 (stE c sc t1) && isT2 (stE c sc t2) && isT3 (stE c sc t3) && lcC c sc sc1 nm x1 y1 i1 && lcC c sc sc2 nm x2 y2 i2 && isC true (stE c sc r2) && isC false (stE c sc r3)) &&
    (bltIn c sc "all" && slotOf c sc o3 == some 0 && isS (stE c sc e3) && !isStar e3 && (p24.endLine == p25.line)) && (match slotTo c sc f2 with
      | some f => decide (f ≠ 0) && isAll f (stE c sc r4)
      | none => false)
  | _ => false
theorem shapeC_ok {nm : Str} {c : Cn} {sc : Scope} {b : List Stmt} (h : shapeC nm c sc b = true) : Shape nm c sc b := by
  unfold shapeC at h
  split at h
  · simp only [Bool.and_eq_true, decide_eq_true_eq, beq_iff_eq, Bool.not_eq_true'] at h
    obtain ⟨⟨⟨hA, hB⟩, hC⟩, h13⟩ := h
    obtain ⟨⟨⟨⟨⟨e1, e2⟩, e3⟩, e4⟩, e5⟩, e6⟩ := hA
    obtain ⟨⟨⟨⟨⟨⟨h1, h2⟩, h3⟩, h4⟩, h5⟩, h6⟩, h7⟩ := hB
    obtain ⟨⟨⟨⟨h8, h9⟩, h10⟩, h11⟩, h12⟩ := hC
    subst e1 e2 e3 e4 e5 e6
    obtain ⟨j1, l1⟩ := lcC_ok h4
    obtain ⟨j2, l2⟩ := lcC_ok h5
    split at h13
    · rename_i f hf
      simp only [Bool.and_eq_true, decide_eq_true_eq] at h13
      exact .mk h1 h2 h3 l1 l2 h6 h7 h8 hf h13.1 h9 h10 h11 (by simpa using h12) h13.2
    · cases h13
  · cases h
/-- a frame whose slots claim nothing -/
theorem FR.look {K : Fg} {σ : L2.St} {H : Hp} {δ : PP.St} {fps : Nat → List Addr} (hl : δ.length = σ.length) (h : ∀ i s, δ[i]? = some (some s) → s.k = .sh ∧ ∃ v, σ[i]? = some (some v) ∧ Rp K H v s.d (fps i)) :
    FR K ⟨H, [], fun _ => True, fun _ => False⟩ σ H δ fps := by
  have no : ∀ i a, ¬ clm δ fps i a := fun i a ⟨s, e, c⟩ => by
    have := (h i s e).1
    rcases c with ⟨k, _⟩ | ⟨k | k, _⟩ <;> (rw [this] at k; cases k)
  refine ⟨hl, fun i s e => (h i s e).2, fun i s e k => ?_, fun i s e k => ?_, fun i s a _ _ c => (no i a c).elim, fun i s e k => ?_, fun i j s a _ c => (no i a c).elim, fun _ _ _ _ _ => .inl trivial, .refl, fun _ _ _ _ _ z => z, fun _ z => z.elim⟩
  · have := (h i s e).1
    rcases k with k | k <;> (rw [this] at k; cases k)
  · have := (h i s e).1
    rw [this] at k; cases k
  · have := (h i s e).1
    rw [this] at k; cases k
theorem pe_posA {X : Cx} {k : Nat} {fa : Addr} {fd : FuncData} {ps : List Str} {sp : List V → Hp → VK → Prop} {x : Str} {p0 pos : Pos} {e : PE_} {es : List PE_} {t : L2.TA} (F : FnG X.prog X.w X.K X.mg X.base k fa fd ps sp) (hr : Room k X.A) (hg : X.A.guards = some []) (gl : Gl X x) (hm : X.mg x = some (.ref fa)) (hk : PySem.W.keepIn X.K (.ref fa) = true) (hdb : (x == ("__debug__" : Str)) = false)
    (hb : ∀ (s : Shared) (us : List Value), us.length = ps.length → BindsTo s fd ⟨us, []⟩ (ps.zip us)) (ha : PA X (e :: es) t) (hs : (e :: es).any isStar = false) : PE X (.Call (.Name x p0) (e :: es) [] pos) (fun σ H Q => t σ H fun vs H1 => sp vs H1 Q) := by
  constructor
  intro pins s σ H Q I h
  refine wpAny_Call_Name_kw (ld_glob I gl hm ?_ hdb)
  simp only [List.any_cons, Bool.or_eq_false_iff] at hs
  exact PySem.W.callWith_K (h₀ := X.base) I.ok.mod.kin hk (thn (ha.run pos pins s σ H _ I h) fun us s1 ⟨vs, H1, I1, r, q⟩ => ⟨I1.kIn, run_g F hr hg I1 (hb s1 us (by rw [← r.length]; exact F.len _ _ _ q)) r q⟩) (star_one hs.1) (star_back hs.2)
/-- the walk over the parts -/
theorem sp_loop {K : Fg} {n ip : Nat} {own : List Nat} {σ : L2.St} {H : Hp} {J : L2.It} {xs : List V} {ds : List D} {tl : List Addr} {Qd : Hp → Prop} {top : Hp → Prop} {D : Addr}
    (jgo : ∀ i H' x, top H' → xs[i]? = some x → J.go i H' ∧ ∀ y H2, J.yld i H' y H2 → H2 = H' ∧ y = x) (jstop : ∀ i H', top H' → xs.length ≤ i → J.stop i H') (topK : ∀ H' H2, top H' → Kp (fun b => b ∈ tl ∨ b = D) H' H2 → top H2)
    (hip : ip ∈ own) (hlt : ip < σ.length) (r : RpAll K H xs ds tl) (nd : tl.Nodup) (ok : ds.all (spOk n) = true) (hz : ds.length < 1000000) (h0 : top H) (hD : H D = none)
    (hq : ∀ H', Kp (fun b => b ∈ tl) H H' → H' D = some (.lst ((List.replicate xs.length true).map V.bl)) → top H' → Qd H') :
    ∃ W : Nat → Nat → Hp → Prop, (∃ m, W 0 m (upd H D (.lst []))) ∧ ∀ i m H', W i m H' →
      (J.stop i H' ∧ Qd H') ∨ (J.go i H' ∧ ∃ Nx : Hp → Prop, (∀ H2, Nx H2 → ∃ m', m' < m ∧ W (i + 1) m' H2) ∧ ∀ x H2, J.yld i H' x H2 → gName ip x (wipe σ own) H2 fun σ2 H2 => wipe σ2 own = wipe σ own ∧ tYes σ2 H2 fun b H3 =>
        if b = true then (tCons (tVar ip) tNil σ2 H3 fun vs H4 => spT K n vs H4 fun y H4 => ∃ acc, H4 D = some (.lst acc) ∧ acc.length < sizeLine ∧ Nx (upd H4 D (.lst (acc ++ [y])))) else Nx H3) := by
  have hxl := r.length
  have here : ∀ b ∈ tl, H b ≠ none := fun b m z => by
    obtain ⟨_, e⟩ := r.there b m
    rw [e] at z; cases z
  have nD : D ∉ tl := fun m => here D m hD
  refine ⟨fun i m H' => i ≤ xs.length ∧ m = xs.length - i ∧ Kp (fun b => b ∈ tl) H H' ∧ top H' ∧ (∃ fq, RpAll K H' (xs.drop i) (ds.drop i) fq ∧ fq.Nodup ∧ ∀ b ∈ fq, b ∈ tl) ∧ H' D = some (.lst ((List.replicate i true).map V.bl)), ⟨_, Nat.zero_le _, rfl, (Kp.new hD), topK _ _ h0 (Kp.new hD), ⟨tl, ?_, nd, fun b h => h⟩, upd_same⟩, fun i m H' ⟨hi, hm, kp, tp, ⟨fq, rq, nq, sq⟩, hd⟩ => ?_⟩
  · exact r.stay (Kp.new (M := fun _ => False) hD) fun _ _ z => z
  · by_cases he : i = xs.length
    · subst he
      exact .inl ⟨jstop _ _ tp (Nat.le_refl _), hq H' kp hd tp⟩
    · have hlt2 : i < xs.length := by omega
      have hx : xs[i]? = some xs[i] := List.getElem?_eq_getElem hlt2
      have hdl : i < ds.length := by omega
      obtain ⟨g1, g2⟩ := jgo i H' _ tp hx
      refine .inr ⟨g1, fun H2 => ∃ m', m' < m ∧ (i + 1 ≤ xs.length ∧ m' = xs.length - (i + 1) ∧ Kp (fun b => b ∈ tl) H H2 ∧ top H2 ∧ (∃ fq, RpAll K H2 (xs.drop (i + 1)) (ds.drop (i + 1)) fq ∧ fq.Nodup ∧ ∀ b ∈ fq, b ∈ tl) ∧ H2 D = some (.lst ((List.replicate (i + 1) true).map V.bl))), fun H2 h => h, fun x H2 hy => ?_⟩
      obtain ⟨rfl, rfl⟩ := g2 x H2 hy
      show wipe ((wipe σ own).set ip (some xs[i])) own = wipe σ own ∧ _
      refine ⟨?_, ?_⟩
      · refine wipe_eq (by rw [List.length_set, wipe_length]) fun j hj => ?_
        have hne : j ≠ ip := fun z => hj (by rw [z]; exact hip)
        rw [List.getElem?_set_ne (Ne.symm hne)]
      · simp only [tYes, ↓reduceIte]
        refine ⟨xs[i], ?_, ?_⟩
        · rw [List.getElem?_set_self (by rw [wipe_length]; exact hlt)]
        · rw [List.drop_eq_getElem_cons hlt2, List.drop_eq_getElem_cons hdl] at rq
          cases rq with
          | @cons _ _ _ _ f1 f2 r1 r2 =>
            rw [List.nodup_append] at nq
            obtain ⟨n1, n2, n3⟩ := nq
            simp only [tNil]
            have okd : spOk n ds[i] = true := List.all_eq_true.mp ok _ (List.getElem_mem hdl)
            refine ⟨_, _, f1, rfl, r1, n1, okd, fun H4 kp4 => ⟨(List.replicate i true).map V.bl, ?_, ?_, ?_⟩⟩
            · have : D ∉ f1 := fun m => nD (sq D (List.mem_append_left _ m))
              exact kp4.at hd this
            · have : (1000000 : Nat) ≤ sizeLine := by decide
              simp only [List.length_map, List.length_replicate]
              omega
            · have kq : Kp (fun b => b ∈ tl) H2 H4 := kp4.mono fun b m => sq b (List.mem_append_left _ m)
              have hd4 : H4 D = some (.lst ((List.replicate i true).map V.bl)) := kp4.at hd fun m => nD (sq D (List.mem_append_left _ m))
              have kd : Kp (fun b => b = D) H4 (upd H4 D (.lst ((List.replicate i true).map V.bl ++ [V.bl true]))) := Kp.put hd4 rfl
              refine ⟨xs.length - (i + 1), by omega, hlt2, rfl, ?_, ?_, ⟨f2, ?_, n2, fun b m => sq b (List.mem_append_right _ m)⟩, ?_⟩
              · intro b o e
                have hb : b ≠ D := fun z => by rw [z, hD] at e; cases e
                rw [upd_ne hb]
                exact (kp.trans kq) b o e
              · exact topK _ _ tp ((kq.mono fun b m => .inl m).trans (kd.mono fun b z => .inr z))
              · refine (r2.stay kp4 fun b m z => ?_).stay kd fun b m z => ?_
                · exact n3 b z b m rfl
                · exact nD (by rw [← z]; exact sq b (List.mem_append_right _ m))
              · rw [upd_same, List.replicate_succ', List.map_append]; rfl
def C0 : Calls := fun _ _ => none
def G0 : Sigs := fun _ => none
/-- a def whose body is read by hand -/
theorem fn_gen {P : Program} {w : World} {K : Fg} {mg : Str → Option Value} {base : Heap} {x qual : Str} {params : Arguments} {body : List Stmt} {scope : Scope} {f : Addr} {fd : FuncData} {N ps : List Str} {c : Cn} {k : Nat} {sp : List V → Hp → VK → Prop}
    (F : FunD K x qual params body scope [] [] f fd) (S : FnScope N ps scope) (hcN : c.N = N) (nm : Nm K mg c) (hlen : ∀ vs H Q, sp vs H Q → vs.length = ps.length)
    (B : ∀ X : Cx, Ws X c C0 G0 → X.env.scope = scope → X.prog = P → X.w = w → X.K = K → X.mg = mg → X.base = base → Room k X.A → ∃ t, PSs X body t ∧ ∀ vs H Q, sp vs H Q → t { nx := fun _ H' => Q .non H', rt := Q } (L2.start N vs) H) : FnG P w K mg base (k + 1) f fd ps sp := by
  obtain ⟨oc, od, dV, kV, doc, pm, an, cdv, ct, osl, rfl, lk, hcd, _, _⟩ := F.ex
  refine ⟨hlen, ?_⟩
  intro A outer s H args us vs Q hr hg e0 hbt rv hsp
  have hl : vs.length = ps.length := hlen _ _ _ hsp
  have KX : K.In s.heap := e0.mod.kin.keeps fun b o e => (e0.bs b o e).1
  have lim : s.heap.NoLimit := e0.mod.nolimit.keeps fun b o e => (e0.bs b o e).1
  have hkind : ∀ y ∈ ps.zip us, scope.names.lookup y.1 = some .local ∨ (scope.names.lookup y.1 = some .cell ∧ ((cellsFrom (s.heap.objs.size + 1) scope.names []).lookup y.1).isSome = true) := by
    rintro ⟨n, u⟩ hy
    rcases S.par n (List.of_mem_zip hy).1 with q | q
    · exact .inl q
    · exact .inr ⟨q, PySem.W.cellsFrom_some _ _ _ (.inl q)⟩
  refine codeAny_call_function hr.depth (KX _ _ lk) rfl S.co S.gen rfl (PySem.W.codeRec_of KX hcd) (hbt _ _ _ _ ?_)
  refine wpAny_newFunctionEnv_cells S.kind hkind fun env he s1 xc => ?_
  subst he
  refine ⟨lim.keeps xc.toInCall.keep, codeAny_func ?_⟩
  have I := inv_start (CX := CX0) (w := w) (E := E0) (qual := qual) (f := f) (cd := cdv) S hr.hd e0 hl rv xc
  have room : Room k (A.deeper (envOfC qual scope s.heap.objs.size f cdv)) := hr.deeper _
  have W : Ws (cxOf CX0 P w K mg base N qual scope f cdv A outer s H E0) c C0 G0 :=
    ⟨⟨rfl, hcN.symm, S.nd, by have := room.un; show (A.deeper _).units + 70 < _; omega, hg, nm.blt, nm.con, fun f g h1 h2 => by cases h2⟩, fun _ => rfl, passes_of (X := cxOf CX0 P w K mg base N qual scope f cdv A outer s H E0) rfl⟩
  obtain ⟨t, PB, hq⟩ := B _ W rfl rfl rfl rfl rfl rfl room
  refine wpAny_mono (PB.run [] s1 (L2.start N vs) H _ I (hq vs H Q hsp)) (fun fl s' hs => ?_) fun e s' hs => hs
  have out : ∀ {σ' : L2.St} {H' : Hp} {v : V} {u : Value}, L2.Inv (cxOf CX0 P w K mg base N qual scope f cdv A outer s H E0) [] σ' H' s' → RelV v u → Q v H' → CE outer P w H s Q u s' :=
    fun {σ' H' v u} J r q => ⟨v, H', J.os, J.bare, J.base, J.hok, r, q⟩
  match fl, hs with
  | .ret u, ⟨v, σ', H', J, r, q⟩ => exact out J r q
  | .next, ⟨σ', H', J, q⟩ => exact out (v := V.non) (u := Value.none) J rfl q
  | .brk, ⟨_, _, _, q⟩ => exact False.elim q
  | .cont, ⟨_, _, _, q⟩ => exact False.elim q
section
variable {X : Cx} {c : Cn} {sc : Scope}
/-- the recursive part's reading -/
theorem lc_read {n k : Nat} {fa : Addr} {fd : FuncData} {scope : Scope} {nm x y it : Str} {i : Nat} {p1 p2 p3 p4 p5 p6 : Pos} (W : Ws X c C0 G0) (hs : X.env.scope = sc) (l : LcOk c sc scope nm x y it i) (F : FnG X.prog X.w X.K X.mg X.base k fa fd ["told"] (spT X.K n)) (hr : Room k X.A) (hm : X.mg nm = some (.ref fa)) (hk : PySem.W.keepIn X.K (.ref fa) = true)
    (hb : ∀ (s : Shared) (us : List Value), us.length = ["told"].length → BindsTo s fd ⟨us, []⟩ ((["told"] : List Str).zip us)) :
    PE X (.ListComp (.Call (.Name nm p1) [.Name x p2] [] p3) [⟨.Name y p4, .Name it p5, [], 0⟩] scope p6) (tLc (iSeq X.K (tVar 0)) (gName i) tYes (fun σ H Q => tCons (tVar i) tNil σ H fun vs H1 => spT X.K n vs H1 Q) ((ownOf c.N scope).map (·.2))) ∧
    ∀ {z : Str} {j : Nat} {q1 q2 : Pos}, slotTo c sc z = some j → PS X (.Assign [.Name z q1] (.ListComp (.Call (.Name nm p1) [.Name x p2] [] p3) [⟨.Name y p4, .Name it p5, [], 0⟩] scope p6) q2) (tAsg (tLc (iSeq X.K (tVar 0)) (gName i) tYes (fun σ H Q => tCons (tVar i) tNil σ H fun vs H1 => spT X.K n vs H1 Q) ((ownOf c.N scope).map (·.2))) (gName j)) := by
  obtain ⟨n1, n2, n3⟩ := slotOf_ok l.it
  rw [← W.w.N] at n1
  rw [← hs] at n2
  obtain ⟨o1, o2⟩ := okName_ok n3
  have pv : PE X (.Name it p5) (tVar 0) := pe_var n1 n2 o1 o2
  have pi : PI X (.Name y p4) (.Name it p5) (iSeq X.K (tVar 0)) := pi_seq pv
  have ok : BlkOk X.N X.env.scope scope (ownOf c.N scope) := by rw [W.w.N, hs]; exact blkOk_by l.blk
  have ok' : BlkOk c.N sc scope (ownOf c.N scope) := blkOk_by l.blk
  obtain ⟨m1, m2, m3⟩ := slotTo_ok l.y
  rw [← W.w.N] at m1
  obtain ⟨k1, k2, k3⟩ := slotOf_ok l.x
  rw [← W.w.N] at k1
  obtain ⟨o3, o4⟩ := okName_ok k3
  have pg : ∀ (s : Shared) (H : Hp) (C : Addr) (cl : List (Str × Addr)) (fp : List Addr), PG (X.blk s H scope (compEnvC scope cl C X.env) fp) (.Name y p4) (gName i) := fun s H C cl fp =>
    pg_name (X := X.blk s H scope (compEnvC scope cl C X.env) fp) W.w.nd m1 (by rw [scope_blk hs s H scope C cl fp]; exact m2) (own_fn W.w hs rfl ok' (t := .nm i) (by unfold tOwn; simp only [T.ixs, List.all_cons, List.all_nil, Bool.and_true]; simpa using l.own) s H C cl fp i (by simp [T.ixs]) y m1)
  have pe : ∀ (s : Shared) (H : Hp) (C : Addr) (cl : List (Str × Addr)) (fp : List Addr), PE (X.blk s H scope (compEnvC scope cl C X.env) fp) (.Call (.Name nm p1) [.Name x p2] [] p3) (fun σ H Q => tCons (tVar i) tNil σ H fun vs H1 => spT X.K n vs H1 Q) := fun s H C cl fp =>
    pe_posA (X := X.blk s H scope (compEnvC scope cl C X.env) fp) F hr W.w.guards (gl_of (scope_blk hs s H scope C cl fp) l.gl) hm hk (okName_ok l.ok).1 hb (pa_cons (pe_var k1 (by rw [scope_blk hs s H scope C cl fp]; exact k2) o3 o4) pa_nil (star_one rfl)) rfl
  have main := pe_lc W.w.calm W.w.nd pi ok pg (fun _ _ _ _ _ => pts_nil) pe (fold_of rfl X.env) (pos := p6)
  refine ⟨main, fun {z j q1 q2} hz => ?_⟩
  obtain ⟨z1, z2, z3⟩ := slotTo_ok hz
  rw [← W.w.N] at z1
  rw [← hs] at z2
  obtain ⟨b, hb2, hl⟩ : ∃ b, swapsWith (.ListComp (.Call (.Name nm p1) [.Name x p2] [] p3) [⟨.Name y p4, .Name it p5, [], 0⟩] scope p6) (some (.Name z q1)) q2.line X.env = pure b ∧ (b = true → X.env.kindOf z = some .local) := by
    refine ⟨_, rfl, fun h => ?_⟩
    simp only [Bool.and_eq_true, beq_iff_eq] at h
    exact h.1.1.2
  cases b with
  | false => exact ps_set W.w.nd z1 z2 main hb2 (.inl (W.fn z))
  | true => exact ps_setLc W.w.calm W.w.nd z1 (hl rfl) hb2 pi ok pg (fun _ _ _ _ _ => pts_nil) pe (fold_of rfl X.env)
theorem at_last {ds : List D} (h : ds ≠ []) : L2.atI ds (-1) = some (ds.getLast h) := by
  have hlen : 0 < ds.length := List.length_pos_iff.mpr h
  have e1 : L2.ixN ds.length (-1) = some (ds.length - 1) := by
    unfold L2.ixN
    rw [if_neg (by omega), if_pos (by omega)]
    congr 1
    omega
  unfold L2.atI
  rw [e1, List.getLast_eq_getElem]
  exact List.getElem?_eq_getElem (by omega)
theorem isPys_mem : ∀ {ds : List D}, isPys ds = true → ∀ d ∈ ds, isPy d = true
  | [], _, d, m => by cases m
  | x :: xs, h, d, m => by
    simp only [isPys, Bool.and_eq_true] at h
    rcases List.mem_cons.mp m with rfl | m
    · exact h.1
    · exact isPys_mem h.2 d m
theorem isPy_ty {d : D} (h : isPy d = true) : tyOk d = true := by
  cases d <;> first | rfl | (simp [isPy] at h)
/-- a test at a frame that claims nothing -/
theorem test_ok {K : Fg} {σ : L2.St} {H : Hp} {δ δ' : PP.St} {fps : Nat → List Addr} {e : E} {t : Tm} {b : Bool} {Q : Bool → Hp → Prop} (hl : δ.length = σ.length) (h : ∀ i s, δ[i]? = some (some s) → s.k = .sh ∧ ∃ v, σ[i]? = some (some v) ∧ Rp K H v s.d (fps i))
    (he : evE C0 G0 [] e δ = some (t, δ')) (ht : truth t.d = some b) (q : ∀ H', Kp (fun _ => False) H H' → Q b H') : tT K C0 G0 e σ H Q :=
  ⟨_, [], δ, fps, t, δ', b, FR.look hl h, he, ht, fun H' fps' f' ev => q H' (ev.kp.mono fun a ⟨i, _, s, e, c⟩ => by
    have := (h i s e).1
    rcases c with ⟨k, _⟩ | ⟨k | k, _⟩ <;> (rw [this] at k; cases k))⟩
theorem val_ok {K : Fg} {σ : L2.St} {H : Hp} {δ δ' : PP.St} {fps : Nat → List Addr} {e : E} {t : Tm} {Q : VK} (hl : δ.length = σ.length) (h : ∀ i s, δ[i]? = some (some s) → s.k = .sh ∧ ∃ v, σ[i]? = some (some v) ∧ Rp K H v s.d (fps i))
    (he : evE C0 G0 [] e δ = some (t, δ')) (q : ∀ v H' fp, Kp (fun _ => False) H H' → Rp K H' v t.d fp → Q v H') : tE K C0 G0 e σ H Q :=
  ⟨_, [], δ, fps, t, δ', FR.look hl h, he, fun v H' fps' fp f' ev to => q v H' fp (ev.kp.mono fun a ⟨i, _, s, e, c⟩ => by
    have := (h i s e).1
    rcases c with ⟨k, _⟩ | ⟨k | k, _⟩ <;> (rw [this] at k; cases k)) to.rep⟩
def δ1 (m : Nat) (d : D) : PP.St := some ⟨d, .sh, []⟩ :: List.replicate m none
theorem δ1_at {m : Nat} {d : D} {i : Nat} {s : Sl} (h : (δ1 m d)[i]? = some (some s)) : i = 0 ∧ s = ⟨d, .sh, []⟩ := by
  cases i with
  | zero => simp [δ1] at h; exact ⟨rfl, h.symm⟩
  | succ i =>
    simp only [δ1, List.getElem?_cons_succ, List.getElem?_replicate] at h
    split at h <;> cases h
theorem t1_of {e : E} (h : isT1 e = true) : e = .isi (.var 0) [.tuple] := by
  unfold isT1 at h
  split at h
  · rfl
  · cases h
theorem t2_of {e : E} (h : isT2 e = true) : e = .not_ (.isi (.var 0) [.list]) := by
  unfold isT2 at h
  split at h
  · rfl
  · cases h
theorem t3_of {e : E} (h : isT3 e = true) : e = .and_ (.cmp .ne (.var 0) (.lst .nil)) (.and_ (.isi (.sub (.var 0) (.neg (.con (.int 1)))) [.str]) (.cmp .eq (.sub (.var 0) (.neg (.con (.int 1)))) (.con (.str "spoilt")))) := by
  unfold isT3 at h
  split at h
  · have := beq_iff_eq.mp h
    subst this
    rfl
  · cases h
theorem c_of {b : Bool} {e : E} (h : isC b e = true) : e = .con (.bl b) := by
  unfold isC at h
  split at h
  · have := beq_iff_eq.mp h
    subst this
    rfl
  · cases h
theorem s_of {e : E} (h : isS e = true) : ∃ x, e = .con (.str x) := by
  unfold isS at h
  split at h
  · exact ⟨_, rfl⟩
  · cases h
theorem all_of {f : Nat} {e : E} (h : isAll f e = true) : e = .bif .all_ (.cons (.var f) .nil) := by
  unfold isAll at h
  split at h
  · have := beq_iff_eq.mp h
    subst this
    rfl
  · cases h
theorem bools_map (bs : List Bool) : bools (bs.map D.bl) = some bs := by
  induction bs with
  | nil => rfl
  | cons b bs ih => simp [bools, ih]
theorem bls_rep {K : Fg} {H : Hp} (bs : List Bool) : RpAll K H (bs.map V.bl) (bs.map D.bl) [] := by
  induction bs with
  | nil => exact .nil
  | cons b bs ih => simpa using RpAll.cons (Rp.bl (K := K) (H := H) b) ih
theorem all_true (n : Nat) : (List.replicate n true).all id = true := by
  rw [List.all_eq_true]
  intro b hb
  rw [(List.mem_replicate.mp hb).2]; rfl
/-- the body -/
theorem sp_body {nm : Str} {body : List Stmt} {n k : Nat} {fa : Addr} {fd : FuncData} (W : Ws X c C0 G0) (hs : X.env.scope = sc) (sh : Shape nm c sc body) (F : FnG X.prog X.w X.K X.mg X.base k fa fd ["told"] (spT X.K n)) (hr : Room k X.A) (hm : X.mg nm = some (.ref fa)) (hk : PySem.W.keepIn X.K (.ref fa) = true)
    (hb : ∀ (s : Shared) (us : List Value), us.length = ["told"].length → BindsTo s fd ⟨us, []⟩ ((["told"] : List Str).zip us)) :
    ∃ t, PSs X body t ∧ ∀ vs H Q, spT X.K (n + 1) vs H Q → t { nx := fun _ H' => Q .non H', rt := Q } (L2.start c.N vs) H := by
  obtain ⟨h1, h2, h3, l1, l2, g2, g3, ga, hf, f0, ho, hss, hs2, hpos, g4⟩ := sh
  rename_i t1 t2 t3 r2 r3 r4 e3 sc1 sc2 x1 y1 i1 f2 x2 y2 i2 o3 f j1 j2 p1 p2 p3 p4 p5 p6 p7 p8 p9 p10 p11 p12 p13 p14 p15 p16 p17 p18 p19 p20 p21 p22 p23 p24 p25 p26 p27
  obtain ⟨a1, a2⟩ := bltIn_ok W.w hs ga (by decide)
  obtain ⟨n1, n2, n3⟩ := slotOf_ok ho
  rw [← W.w.N] at n1
  rw [← hs] at n2
  obtain ⟨o1, o2⟩ := okName_ok n3
  obtain ⟨q1, q2, q3⟩ := slotTo_ok hf
  have k1 := t1_of h1
  have k2 := t2_of h2
  have k3 := t3_of h3
  have kr2 := c_of g2
  have kr3 := c_of g3
  obtain ⟨xa, ka⟩ := s_of hss
  have k4 := all_of g4
  have E1 := (E_ok t1 X sc W.w hs).pt
  have E2 := (E_ok t2 X sc W.w hs).pt
  have E3 := (E_ok t3 X sc W.w hs).pt
  have R2 := (E_ok r2 X sc W.w hs).pe
  have R3 := (E_ok r3 X sc W.w hs).pe
  have R4 := (E_ok r4 X sc W.w hs).pe
  have EA := (E_ok e3 X sc W.w hs).pe
  rw [k1] at E1
  rw [k2] at E2
  rw [k3] at E3
  rw [kr2] at R2
  rw [kr3] at R3
  rw [k4] at R4
  rw [ka] at EA
  have LC1 := (lc_read (p1 := p2) (p2 := p3) (p3 := p4) (p4 := p5) (p5 := p6) (p6 := p7) W hs l1 F hr hm hk hb).1
  have LC2 := (lc_read (p1 := p16) (p2 := p17) (p3 := p18) (p4 := p19) (p5 := p20) (p6 := p21) W hs l2 F hr hm hk hb).2 (q1 := p15) (q2 := p22) hf
  have ALL : PE X (.Call (.Name "all" p1) [.ListComp (.Call (.Name nm p2) [.Name x1 p3] [] p4) [⟨.Name y1 p5, .Name i1 p6, [], 0⟩] sc1 p7] [] p8) _ := pe_callB (cr_all W.w.calm) a1 a2 (by decide +kernel) (pa_cons LC1 pa_nil (star_one rfl)) (by decide) (by decide) (star_one rfl) rfl
  have pv : PE X (.Name o3 p23) (tVar 0) := pe_var n1 n2 o1 o2
  have bm := pe_bm (X := X) (apos := p24) (cpos := p25) PySem.F.plainAttrs_list PySem.F.slot_list_append PySem.F.type_list_append mt_append pv (pa_cons EA pa_nil (star_one hs2)) rfl
    (by rw [star_one hs2]; rfl) hpos (star_one hs2) rfl
  refine ⟨_, pss_cons (ps_if E1 (pss_cons (ps_ret ALL) pss_nil) pss_nil) (pss_cons (ps_if E2 (pss_cons (ps_ret R2) pss_nil) pss_nil) (pss_cons (ps_if E3 (pss_cons (ps_ret R3) pss_nil) pss_nil) (pss_cons LC2 (pss_cons (ps_expr bm rfl) (pss_cons (ps_ret R4) pss_nil))))), ?_⟩
  rintro vs H Q ⟨v, d, fp, rfl, r, nd, ok, q⟩
  have hN : 0 < c.N.length := by
    obtain ⟨h, _⟩ := List.getElem?_eq_some_iff.mp n1
    rw [W.w.N] at h; exact h
  have hfN : f < c.N.length := (List.getElem?_eq_some_iff.mp q1).1
  generalize hσ : L2.start c.N [v] = σ
  have hl : σ.length = c.N.length := by rw [← hσ]; simp [L2.start]; omega
  have hv : σ[0]? = some (some v) := by rw [← hσ]; simp [L2.start]
  have hlj : ∀ {sc1 : Scope} {x1 y1 i1 : Str} {j : Nat}, LcOk c sc sc1 nm x1 y1 i1 j → j < σ.length := fun l => by
    rw [hl]; exact (List.getElem?_eq_some_iff.mp (slotTo_ok l.y).1).1
  have look : ∀ {H1 : Hp}, Kp (fun _ => False) H H1 → ∀ (i : Nat) (s : Sl), (δ1 (c.N.length - 1) d)[i]? = some (some s) → s.k = .sh ∧ ∃ v, σ[i]? = some (some v) ∧ Rp X.K H1 v s.d fp := fun kp i s e => by
    obtain ⟨rfl, rfl⟩ := δ1_at e
    exact ⟨rfl, v, hv, r.stay kp fun _ _ z => z⟩
  have ld : (δ1 (c.N.length - 1) d).length = σ.length := by rw [hl]; simp [δ1]; omega
  have rd0 : rd 0 (δ1 (c.N.length - 1) d) = some ⟨d, false, false, [], []⟩ := rfl
  have run1 : ∀ {ty : Ty} {H1 : Hp} {Qb : Bool → Hp → Prop}, Kp (fun _ => False) H H1 → tyOk d = true → (∀ H', Kp (fun _ => False) H1 H' → Qb (tyIs ty d) H') → tT X.K C0 G0 (.isi (.var 0) [ty]) σ H1 Qb := fun {ty H1 Qb} kp hy hq =>
    test_ok (δ' := δ1 (c.N.length - 1) d) (t := scal (.bl (tyIs ty d))) ld (look kp) (by simp [evE, rd0, hy]) rfl hq
  have run2 : ∀ {ty : Ty} {H1 : Hp} {Qb : Bool → Hp → Prop}, Kp (fun _ => False) H H1 → tyOk d = true → (∀ H', Kp (fun _ => False) H1 H' → Qb (!tyIs ty d) H') → tT X.K C0 G0 (.not_ (.isi (.var 0) [ty])) σ H1 Qb := fun {ty H1 Qb} kp hy hq =>
    test_ok (δ' := δ1 (c.N.length - 1) d) (t := scal (.bl (!tyIs ty d))) ld (look kp) (by simp [evE, rd0, hy, truth, scal]) rfl hq
  have scalar : tyIs .tuple d = false → tyIs .list d = false → tyOk d = true → tSeq (tIfS (tT X.K C0 G0 (.isi (.var 0) [.tuple])) (tSeq (tRet (tCB (rAll X.K) (tCons (tLc (iSeq X.K (tVar 0)) (gName j1) tYes (fun σ H Q => tCons (tVar j1) tNil σ H fun vs H1 => spT X.K n vs H1 Q) ((ownOf c.N sc1).map (·.2))) tNil))) tNext) tNext) (tSeq (tIfS (tT X.K C0 G0 (.not_ (.isi (.var 0) [.list]))) (tSeq (tRet (tE X.K C0 G0 (.con (.bl true)))) tNext) tNext) (tSeq (tIfS (tT X.K C0 G0 (.and_ (.cmp .ne (.var 0) (.lst .nil)) (.and_ (.isi (.sub (.var 0) (.neg (.con (.int 1)))) [.str]) (.cmp .eq (.sub (.var 0) (.neg (.con (.int 1)))) (.con (.str "spoilt")))))) (tSeq (tRet (tE X.K C0 G0 (.con (.bl false)))) tNext) tNext)
        (tSeq (tAsg (tLc (iSeq X.K (tVar 0)) (gName j2) tYes (fun σ H Q => tCons (tVar j2) tNil σ H fun vs H1 => spT X.K n vs H1 Q) ((ownOf c.N sc2).map (·.2))) (gName f)) (tSeq (tDrop (tBM X.K "list" rAppend (tVar 0) (tCons (tE X.K C0 G0 (.con (.str xa))) tNil))) (tSeq (tRet (tE X.K C0 G0 (.bif .all_ (.cons (.var f) .nil)))) tNext))))) { nx := fun _ H' => Q .non H', rt := Q } σ H := fun e1 e2 e3 => by
    refine run1 .refl e3 fun H1 kp1 => ?_
    rw [e1]
    refine run2 kp1 e3 fun H2 kp2 => ?_
    rw [e2]
    refine val_ok (δ' := δ1 (c.N.length - 1) d) (t := scal (.bl true)) ld (look (kp1.trans kp2)) (by simp [evE]) fun v' H3 fp3 kp3 r3 => ?_
    cases r3
    exact q H3 (((kp1.trans kp2).trans kp3).mono fun _ z => z.elim)
  cases d with
  | non => exact scalar rfl rfl rfl
  | bl b => exact scalar rfl rfl rfl
  | int i => exact scalar rfl rfl rfl
  | str x => exact scalar rfl rfl rfl
  | frz ds => simp [spOk] at ok
  | edct => simp [spOk] at ok
  | cls x => simp [spOk] at ok
  | exc x d => simp [spOk] at ok
  | fn k c => simp [spOk] at ok
  | tup ds =>
    simp only [spOk, Bool.and_eq_true, decide_eq_true_eq] at ok
    refine run1 .refl rfl fun H1 kp1 => ?_
    have r1 := r.stay kp1 fun _ _ z => z
    cases r1 with
    | @tup a xs _ tl sq ra na =>
      rw [if_pos (show tyIs .tuple (D.tup ds) = true from rfl)]
      simp only [tSeq, tRet, tCB, tCons, tNil, tLc, iSeq, tVar]
      refine ⟨.ref a, hv, a, rfl, .inr ⟨⟨xs, sq⟩, fun D hD => ?_⟩⟩
      refine sp_loop (J := Itt X.K a) (top := fun H' => SqT X.K H' a xs) (fun i H' x tp hx => ⟨⟨xs, x, tp, hx⟩, fun y H2 hy => ⟨hy.1, ?_⟩⟩) (fun i H' tp hi => ⟨xs, tp, hi⟩) (fun H' H2 tp kp => kp.sqT tp) l1.own (hlj l1) ra nd ok.2 ok.1 sq hD fun H' kp hd tp => ?_
      · have := hy.2 xs tp
        rw [hx] at this
        exact (Option.some.inj this).symm
      · show rAll X.K [V.ref D] H' Q
        refine ⟨D, List.replicate xs.length true, rfl, .of hd, ?_⟩
        rw [all_true]
        exact q H' ((kp1.mono fun _ z => z.elim).trans kp)
  | lst ds =>
    simp only [spOk, Bool.and_eq_true, decide_eq_true_eq] at ok
    obtain ⟨⟨⟨ok1, ok2⟩, ok3⟩, ok4⟩ := ok
    refine run1 .refl rfl fun H1 kp1 => ?_
    rw [if_neg (show ¬ tyIs .tuple (D.lst ds) = true from fun z => nomatch z)]
    refine run2 kp1 rfl fun H2 kp2 => ?_
    rw [if_neg (show ¬ (!tyIs .list (D.lst ds)) = true from fun z => nomatch z)]
    have t3f : ∃ t, evE C0 G0 [] (.and_ (.cmp .ne (.var 0) (.lst .nil)) (.and_ (.isi (.sub (.var 0) (.neg (.con (.int 1)))) [.str]) (.cmp .eq (.sub (.var 0) (.neg (.con (.int 1)))) (.con (.str "spoilt"))))) (δ1 (c.N.length - 1) (.lst ds)) = some (t, δ1 (c.N.length - 1) (.lst ds)) ∧ truth t.d = some false := by
      have pe : plain (.lst []) = true := rfl
      have z0 : (0 : Nat) ≤ sizeLine := by decide
      cases hds : ds with
      | nil =>
        subst hds
        refine ⟨scal (.bl false), ?_, rfl⟩
        simp [evE, evEs, rd0, mkLst, z0, cmpD, ok1, pe, eqv, eqvs, truth, scal]
      | cons d0 dr =>
        rw [← hds]
        have hne : ds ≠ [] := by rw [hds]; simp
        have hlast := at_last hne
        have hpy := ok1
        unfold plain at hpy
        simp only [Bool.and_eq_true, isPy] at hpy
        have hl1 := isPys_mem hpy.1 _ (List.getLast_mem hne)
        have hq : ds.getLast? = some (ds.getLast hne) := List.getLast?_eq_some_getLast hne
        unfold lastOk at ok3
        rw [hq] at ok3
        have hty := isPy_ty hl1
        have hns : tyIs .str (ds.getLast hne) = false := by
          generalize ds.getLast hne = dl at ok3
          cases dl <;> first | rfl | (simp at ok3)
        have hev : eqv (.lst ds) (.lst []) = false := by rw [hds]; rfl
        refine ⟨scal (.bl false), ?_, rfl⟩
        simp [evE, evEs, rd0, mkLst, z0, cmpD, ok1, pe, hev, truth, scal, opN, opSub, hlast, hty, hns]
    obtain ⟨t3v, hev, htr⟩ := t3f
    refine test_ok ld (look (kp1.trans kp2)) hev htr fun H3 kp3 => ?_
    rw [if_neg (show ¬ false = true from fun z => nomatch z)]
    have kp03 : Kp (fun _ => False) H H3 := (kp1.trans kp2).trans kp3
    have r3 := r.stay kp03 fun _ _ z => z
    cases r3 with
    | @lst a xs _ tl e ra na =>
      simp only [tSeq, tNext, tAsg, tLc, iSeq, tVar]
      refine ⟨.ref a, hv, a, rfl, .inl ⟨⟨xs, .of e⟩, fun D hD => ?_⟩⟩
      have hDa : a ≠ D := fun z => by rw [z, hD] at e; cases e
      refine sp_loop (J := Itl X.K a) (top := fun H' => H' a = some (.lst xs)) (fun i H' x tp hx => ⟨⟨xs, x, .of tp, hx⟩, fun y H2 hy => ⟨hy.1, ?_⟩⟩) (fun i H' tp hi => ⟨xs, .of tp, hi⟩) (fun H' H2 tp kp => kp.at tp fun z => z.elim na hDa) l2.own (hlj l2) ra (List.nodup_cons.mp nd).2 ok4 ok2 e hD fun H4 kp4 hd4 tp4 => ?_
      · have := hy.2 xs (.of tp)
        rw [hx] at this
        exact (Option.some.inj this).symm
      · have hlf : f < σ.length := by rw [hl]; exact hfN
        have hv' : (σ.set f (some (.ref D)))[0]? = some (some (.ref a)) := by
          rw [List.getElem?_set_ne f0]; exact hv
        refine ⟨.ref a, hv', .inl ⟨rfl, _, .of tp4⟩, ?_⟩
        refine val_ok (δ := List.replicate c.N.length none) (fps := fun _ => []) (δ' := List.replicate c.N.length none) (t := scal (.str xa)) (by simp [hl]) (fun i s e => by
          rw [List.getElem?_replicate] at e
          split at e <;> cases e) (by simp [evE]) fun y H5 fp5 kp5 r5 => ?_
        have tp5 : H5 a = some (.lst xs) := kp5.at tp4 fun z => z
        have hd5 := kp5.at hd4 fun z => z
        have hxl := ra.length
        refine ⟨a, xs, y, rfl, rfl, tp5, ?_, ?_⟩
        · have : (1000000 : Nat) ≤ sizeLine := by decide
          omega
        · have kp6 : Kp (fun b => b = a) H5 (upd H5 a (.lst (xs ++ [y]))) := Kp.put tp5 rfl
          have hd6 : (upd H5 a (.lst (xs ++ [y]))) D = some (.lst ((List.replicate xs.length true).map V.bl)) := by
            rw [upd_ne (Ne.symm hDa)]; exact hd5
          refine val_ok (δ := (List.replicate c.N.length none).set f (some ⟨.lst ((List.replicate xs.length true).map PP.D.bl), .sh, []⟩)) (fps := fun _ => [D]) (δ' := (List.replicate c.N.length none).set f (some ⟨.lst ((List.replicate xs.length true).map PP.D.bl), .sh, []⟩)) (t := scal (.bl ((List.replicate xs.length true).all id))) (by simp [hl]) (fun i s e => ?_) ?_ fun y' H7 fp7 kp7 r7 => ?_
          · by_cases hi : i = f
            · subst hi
              rw [List.getElem?_set_self (by simpa using hfN)] at e
              have e := Option.some.inj (Option.some.inj e)
              subst e
              exact ⟨rfl, .ref D, by rw [List.getElem?_set_self hlf], .lst hd6 (bls_rep _) (by simp)⟩
            · rw [List.getElem?_set_ne (Ne.symm hi), List.getElem?_replicate] at e
              split at e <;> cases e
          · have hr : rd f ((List.replicate c.N.length none).set f (some ⟨.lst ((List.replicate xs.length true).map PP.D.bl), .sh, []⟩)) = some ⟨.lst ((List.replicate xs.length true).map PP.D.bl), false, false, [], []⟩ := by
              unfold rd
              rw [List.getElem?_set_self (by simpa using hfN)]
              rfl
            simp only [evE, evEs, hr, opF, opFs, List.map_cons, List.map_nil, bools_map, Option.map_some]
          · rw [all_true] at r7
            cases r7
            refine q H7 ?_
            have m1 : Kp (fun b => b ∈ a :: tl) H H3 := kp03.mono fun _ z => z.elim
            have m2 : Kp (fun b => b ∈ a :: tl) H3 H4 := kp4.mono fun b m => List.mem_cons_of_mem _ m
            have m3 : Kp (fun b => b ∈ a :: tl) H4 H5 := kp5.mono fun _ z => z.elim
            have m4 : Kp (fun b => b ∈ a :: tl) H5 (upd H5 a (.lst (xs ++ [y]))) := kp6.mono fun b z => by rw [z]; exact List.mem_cons_self
            exact (((m1.trans m2).trans m3).trans m4).trans (kp7.mono fun _ z => z.elim)
end
/-- THE PRIM, by depth -/
theorem sp_fn {P : Program} {w : World} {K : Fg} {mg : Str → Option Value} {base : Heap} {x qual : Str} {params : Arguments} {body : List Stmt} {scope : Scope} {f : Addr} {fd : FuncData} {c : Cn} {nm : Str}
    (F : FunD K x qual params body scope [] [] f fd) (S : FnScope c.N ["told"] scope) (nmk : Nm K mg c) (sh : Shape nm c scope body) (hm : mg nm = some (.ref f)) (hk : PySem.W.keepIn K (.ref f) = true)
    (hb : ∀ (s : Shared) (us : List Value), us.length = ["told"].length → BindsTo s fd ⟨us, []⟩ ((["told"] : List Str).zip us)) : ∀ n, FnG P w K mg base (n + 1) f fd ["told"] (spT K n) := by
  intro n
  induction n with
  | zero =>
    refine ⟨fun vs H Q ⟨v, d, fp, e, _⟩ => by rw [e]; rfl, fun A outer s H args us vs Q _ _ _ _ _ h => ?_⟩
    obtain ⟨v, d, fp, _, _, _, ok, _⟩ := h
    simp [spOk] at ok
  | succ n ih =>
    refine fn_gen F S rfl nmk (fun vs H Q ⟨v, d, fp, e, _⟩ => by rw [e]; rfl) fun X W hs e1 e2 e3 e4 e5 hr => ?_
    subst e1 e2 e3 e4 e5
    exact sp_body W hs sh ih hr hm hk hb
/-- the table's entry for the text's _law_spoilt -/
def spPrims : List (Str × Df) := [("_law_spoilt", .prim spSig spoilt)]
def spChk (P : Program) : Bool := P.main.body.any fun s => match s with
  | .FunctionDef n a b _ _ _ sc _ _ _ => decide (n = "_law_spoilt") && decide (paramsOf a = some (["told"] : List Str)) && shapeC "_law_spoilt" (cnOf P (slotsOf ["told"] sc b)) sc b
  | _ => false
theorem spoilt_ok {P : Program} {w : World} {K : Fg} {h : Heap} {mg : Str → Option Value} (t : Told P K h mg) (chk : chkText P = true) (sc : spChk P = true) : ∀ f sig sem, spPrims.lookup f = some (.prim sig sem) → ∃ fa fd, mg f = some (.ref fa) ∧ PySem.W.keepIn K (.ref fa) = true ∧ (∀ (s : Shared) (us : List Value), us.length = sig.ps.length → BindsTo s fd ⟨us, []⟩ (sig.ps.zip us)) ∧ sig.kw = [] ∧
      ∀ (base : Heap), K.In base → base.Ns mainGlobals mg → ∀ n, FnG P w K mg base (n + 1) fa fd sig.ps (spF K sig (sem n)) := by
  intro f sig sem hl
  have hm := PySem.mem_of_lookup hl
  simp only [spPrims, List.mem_singleton, Prod.mk.injEq, Df.prim.injEq] at hm
  obtain ⟨rfl, rfl, rfl⟩ := hm
  unfold spChk at sc
  obtain ⟨s, hs, hc⟩ := List.any_eq_true.mp sc
  split at hc
  · rename_i n a b x1 x2 x3 scp x4 x5 x6
    simp only [Bool.and_eq_true, decide_eq_true_eq] at hc
    obtain ⟨⟨rfl, hps⟩, hsh⟩ := hc
    obtain ⟨args, ha, hpa⟩ := params_of hps
    have hdm : (⟨("_law_spoilt", none), "_law_spoilt", "_law_spoilt", a, b, scp, [], []⟩ : He.DefD) ∈ defsOf P.main.body := List.mem_filterMap.mpr ⟨_, hs, rfl⟩
    obtain ⟨fd, F⟩ := t.says.defs hdm
    have hg : He.Fa.glo "_law_spoilt" ∈ factsOf P := by
      unfold factsOf
      exact List.mem_append_left _ (List.mem_append_left _ (List.mem_append_left _ (List.mem_map.mpr ⟨_, List.mem_filterMap.mpr ⟨_, hs, rfl⟩, rfl⟩)))
    have gm := He.glo_ok t.kin t.ns (t.says.facts hg)
    have ck := List.all_eq_true.mp chk _ hs
    simp only [hps] at ck
    have S := fnSc_ok ck
    have nd : (args.map (·.arg)).Nodup := by
      rw [← hpa, ← S.pre]
      exact S.nd.sublist (List.take_sublist _ _)
    have Fx := F.ex
    obtain ⟨oc, od, dV, kV, doc, pm, an, cdv, ct, osl, hfd, lk, hcd, hD, hK⟩ := Fx
    have hdn : fd.params = ⟨[], args, none, [], [], none, []⟩ ∧ fd.defaults = .none := by
      rw [hfd, ha]
      refine ⟨rfl, ?_⟩
      rcases hD with ⟨_, z⟩ | ⟨e, _⟩
      · rw [z]
      · exact absurd rfl e
    have hb : ∀ (s : Shared) (us : List Value), us.length = ["told"].length → BindsTo s fd ⟨us, []⟩ ((["told"] : List Str).zip us) := fun s us hl => by
      refine .of_eq ?_
      show bindArgs fd ⟨us, []⟩ = pure ((["told"] : List Str).zip us)
      rw [hpa]
      exact bind_pos hdn.1 hdn.2 nd (by have := congrArg List.length hpa; simp at this; rw [hl, ← this]; rfl)
    refine ⟨_, fd, gm, F.kp, hb, rfl, fun base kb nb n => ?_⟩
    have G := sp_fn (P := P) (w := w) (base := base) F S (t.nm _) (shapeC_ok hsh) gm F.kp hb n
    exact ⟨fun vs H Q h => G.len vs H Q (spT_of h), fun A outer s H args us vs Q hr hg e0 hbt rv h => G.run A outer s H args us vs Q hr hg e0 hbt rv (spT_of h)⟩
  · cases hc
theorem sp_code : ∀ f sig fn, spPrims.lookup f ≠ some (.code sig fn) := by
  intro f sig fn h
  have := PySem.mem_of_lookup h
  simp [spPrims] at this
end PP

namespace PL
open PP PySem

def c_is_whole : Fn := ⟨1, 1, [],
    (.cons (.ret (.and_ (.isi (.var 0) [.int]) (.not_ (.isi (.var 0) [.bool]))))
    .nil)⟩
abbrev H_is_whole (Γ : Prog) (kws : Str → List (List Str)) : Prop := Γ "is_whole" = some (.code ⟨["value"], [], [], kws "is_whole"⟩ c_is_whole)

def x_common_divisor_1 : S := (.whl (.cmp .gt (.var 1) (.con (.int (0)))) (.cons (.par [0, 1] (.cons (.var 1) (.cons (.bin .mod (.var 0) (.var 1)) .nil)))
    .nil))
def c_common_divisor : Fn := ⟨2, 2, [],
    (.cons (.par [0, 1] (.cons (.bif .abs (.cons (.var 0) .nil)) (.cons (.bif .abs (.cons (.var 1) .nil)) .nil)))
    (.cons x_common_divisor_1
    (.cons (.retV 0)
    .nil)))⟩
abbrev H_common_divisor (Γ : Prog) (kws : Str → List (List Str)) : Prop := Γ "common_divisor" = some (.code ⟨["one", "other"], [], [], kws "common_divisor"⟩ c_common_divisor)

def c_lowest : Fn := ⟨2, 3, [],
    (.cons (.if_ (.cmp .lt (.var 1) (.con (.int (0)))) (.cons (.par [0, 1] (.cons (.neg (.var 0)) (.cons (.neg (.var 1)) .nil)))
    .nil) .nil)
    (.cons (.asg (.nm 2) (.call "common_divisor" (some 0) (.cons (.var 0) (.cons (.var 1) .nil)) .nil))
    (.cons (.ret (.tup (.cons (.bin .fdiv (.var 0) (.var 2)) (.cons (.bin .fdiv (.var 1) (.var 2)) .nil))))
    .nil)))⟩
abbrev H_lowest (Γ : Prog) (kws : Str → List (List Str)) : Prop := Γ "lowest" = some (.code ⟨["top", "under"], [], [], kws "lowest"⟩ c_lowest)

def c_is_fraction : Fn := ⟨1, 1, [],
    (.cons (.if_ (.or_ (.not_ (.isi (.var 0) [.tuple])) (.or_ (.cmp .ne (.bif .len (.cons (.var 0) .nil)) (.con (.int (2)))) (.or_ (.not_ (.call "is_whole" none (.cons (.sub (.var 0) (.con (.int (0)))) .nil) .nil)) (.not_ (.call "is_whole" none (.cons (.sub (.var 0) (.con (.int (1)))) .nil) .nil))))) (.cons (.ret (.con (.bl false)))
    .nil) .nil)
    (.cons (.ret (.and_ (.cmp .gt (.sub (.var 0) (.con (.int (1)))) (.con (.int (0)))) (.cmp .eq (.call "common_divisor" none (.cons (.sub (.var 0) (.con (.int (0)))) (.cons (.sub (.var 0) (.con (.int (1)))) .nil)) .nil) (.con (.int (1))))))
    .nil))⟩
abbrev H_is_fraction (Γ : Prog) (kws : Str → List (List Str)) : Prop := Γ "is_fraction" = some (.code ⟨["value"], [], [], kws "is_fraction"⟩ c_is_fraction)

def x_are_fractions_1 : E := (.comp [2, 3] (.call "is_fraction" (some 3) (.cons (.var 3) .nil) .nil) (.nm 3) (.seq (.var 0)) .no)
def c_are_fractions : Fn := ⟨2, 4, [],
    (.cons (.ret (.and_ (.isi (.var 0) [.list]) (.and_ (.cmp .eq (.bif .len (.cons (.var 0) .nil)) (.var 1)) (.bif .all_ (.cons x_are_fractions_1 .nil)))))
    .nil)⟩
abbrev H_are_fractions (Γ : Prog) (kws : Str → List (List Str)) : Prop := Γ "are_fractions" = some (.code ⟨["value", "many"], [], [], kws "are_fractions"⟩ c_are_fractions)

def c_plus : Fn := ⟨2, 2, [],
    (.cons (.ret (.call "lowest" none (.cons (.bin .add (.bin .mul (.sub (.var 0) (.con (.int (0)))) (.sub (.var 1) (.con (.int (1))))) (.bin .mul (.sub (.var 1) (.con (.int (0)))) (.sub (.var 0) (.con (.int (1)))))) (.cons (.bin .mul (.sub (.var 0) (.con (.int (1)))) (.sub (.var 1) (.con (.int (1))))) .nil)) .nil))
    .nil)⟩
abbrev H_plus (Γ : Prog) (kws : Str → List (List Str)) : Prop := Γ "plus" = some (.code ⟨["one", "other"], [], [], kws "plus"⟩ c_plus)

def c_less : Fn := ⟨2, 2, [],
    (.cons (.ret (.call "lowest" none (.cons (.bin .sub (.bin .mul (.sub (.var 0) (.con (.int (0)))) (.sub (.var 1) (.con (.int (1))))) (.bin .mul (.sub (.var 1) (.con (.int (0)))) (.sub (.var 0) (.con (.int (1)))))) (.cons (.bin .mul (.sub (.var 0) (.con (.int (1)))) (.sub (.var 1) (.con (.int (1))))) .nil)) .nil))
    .nil)⟩
abbrev H_less (Γ : Prog) (kws : Str → List (List Str)) : Prop := Γ "less" = some (.code ⟨["one", "other"], [], [], kws "less"⟩ c_less)

def c_times : Fn := ⟨2, 2, [],
    (.cons (.ret (.call "lowest" none (.cons (.bin .mul (.sub (.var 0) (.con (.int (0)))) (.sub (.var 1) (.con (.int (0))))) (.cons (.bin .mul (.sub (.var 0) (.con (.int (1)))) (.sub (.var 1) (.con (.int (1))))) .nil)) .nil))
    .nil)⟩
abbrev H_times (Γ : Prog) (kws : Str → List (List Str)) : Prop := Γ "times" = some (.code ⟨["one", "other"], [], [], kws "times"⟩ c_times)

def x_are_sizes_by_1 : E := (.comp [1, 2] (.and_ (.call "is_whole" (some 2) (.cons (.var 2) .nil) .nil) (.chn (.con (.int (1))) .le (.var 2) .le (.con (.int (4))))) (.nm 2) (.seq (.var 0)) .no)
def c_are_sizes_by : Fn := ⟨1, 3, [],
    (.cons (.if_ (.or_ (.not_ (.isi (.var 0) [.list])) (.cmp .nin (.bif .len (.cons (.var 0) .nil)) (.tup (.cons (.con (.int (2))) (.cons (.con (.int (3))) .nil))))) (.cons (.ret (.con (.bl false)))
    .nil) .nil)
    (.cons (.if_ (.not_ (.bif .all_ (.cons x_are_sizes_by_1 .nil))) (.cons (.ret (.con (.bl false)))
    .nil) .nil)
    (.cons (.ret (.cmp .le (.call "how_many" (some 0) (.cons (.var 0) .nil) .nil) (.con (.int (27)))))
    .nil)))⟩
abbrev H_are_sizes_by (Γ : Prog) (kws : Str → List (List Str)) : Prop := Γ "are_sizes_by" = some (.code ⟨["value"], [], [], kws "are_sizes_by"⟩ c_are_sizes_by)

def x_how_many_1 : S := (.for_ (.nm 2) (.seq (.var 0)) (.cons (.asg (.nm 1) (.bin .mul (.var 1) (.var 2)))
    .nil))
def c_how_many : Fn := ⟨1, 3, [],
    (.cons (.asg (.nm 1) (.con (.int (1))))
    (.cons x_how_many_1
    (.cons (.retV 1)
    .nil)))⟩
abbrev H_how_many (Γ : Prog) (kws : Str → List (List Str)) : Prop := Γ "how_many" = some (.code ⟨["sizes"], [], [], kws "how_many"⟩ c_how_many)

def x_is_game_by_1 : E := (.comp [1, 2] (.call "are_fractions" (some 2) (.cons (.var 2) (.cons (.call "how_many" none (.cons (.sub (.var 0) (.con (.int (1)))) .nil) .nil) .nil)) .nil) (.nm 2) (.seq (.sub (.var 0) (.con (.int (2))))) .no)
def c_is_game_by : Fn := ⟨1, 3, [],
    (.cons (.if_ (.or_ (.not_ (.isi (.var 0) [.tuple])) (.or_ (.cmp .ne (.bif .len (.cons (.var 0) .nil)) (.con (.int (3)))) (.or_ (.not_ (.isi (.sub (.var 0) (.con (.int (0)))) [.str])) (.cmp .ne (.sub (.var 0) (.con (.int (0)))) (.con (.str "game")))))) (.cons (.ret (.con (.bl false)))
    .nil) .nil)
    (.cons (.if_ (.or_ (.not_ (.call "are_sizes_by" none (.cons (.sub (.var 0) (.con (.int (1)))) .nil) .nil)) (.or_ (.not_ (.isi (.sub (.var 0) (.con (.int (2)))) [.list])) (.cmp .ne (.bif .len (.cons (.sub (.var 0) (.con (.int (2)))) .nil)) (.bif .len (.cons (.sub (.var 0) (.con (.int (1)))) .nil))))) (.cons (.ret (.con (.bl false)))
    .nil) .nil)
    (.cons (.ret (.bif .all_ (.cons x_is_game_by_1 .nil)))
    .nil)))⟩
abbrev H_is_game_by (Γ : Prog) (kws : Str → List (List Str)) : Prop := Γ "is_game_by" = some (.code ⟨["value"], [], [], kws "is_game_by"⟩ c_is_game_by)

def c_check_game : Fn := ⟨1, 1, [],
    (.cons (.if_ (.not_ (.call "is_game_by" (some 0) (.cons (.var 0) .nil) .nil)) (.cons .never
    .nil) .nil)
    .nil)⟩
abbrev H_check_game (Γ : Prog) (kws : Str → List (List Str)) : Prop := Γ "check_game" = some (.code ⟨["game"], [], [], kws "check_game"⟩ c_check_game)

def c_check_two : Fn := ⟨1, 1, [],
    (.cons (.ex (.call "check_game" (some 0) (.cons (.var 0) .nil) .nil))
    (.cons (.if_ (.cmp .ne (.bif .len (.cons (.sub (.var 0) (.con (.int (1)))) .nil)) (.con (.int (2)))) (.cons .never
    .nil) .nil)
    .nil))⟩
abbrev H_check_two (Γ : Prog) (kws : Str → List (List Str)) : Prop := Γ "check_two" = some (.code ⟨["game"], [], [], kws "check_two"⟩ c_check_two)

def c__law_number : Fn := ⟨1, 1, [0],
    (.cons (.ret (.call "_law_pick" (some 0) (.cons (.var 0) (.cons (.lst (.cons (.tup (.cons (.con (.int (0))) (.cons (.con (.int (1))) .nil))) (.cons (.tup (.cons (.con (.int (1))) (.cons (.con (.int (1))) .nil))) (.cons (.tup (.cons (.con (.int (2))) (.cons (.con (.int (1))) .nil))) (.cons (.tup (.cons (.neg (.con (.int (1)))) (.cons (.con (.int (1))) .nil))) (.cons (.tup (.cons (.con (.int (1))) (.cons (.con (.int (2))) .nil))) (.cons (.tup (.cons (.neg (.con (.int (3)))) (.cons (.con (.int (2))) .nil))) (.cons (.tup (.cons (.con (.int (3))) (.cons (.con (.int (1))) .nil))) (.cons (.tup (.cons (.con (.int (5))) (.cons (.con (.int (1))) .nil))) (.cons (.tup (.cons (.con (.int (7))) (.cons (.con (.int (3))) .nil))) .nil)))))))))) .nil)) .nil))
    .nil)⟩
abbrev H__law_number (Γ : Prog) (kws : Str → List (List Str)) : Prop := Γ "_law_number" = some (.code ⟨["purse"], [0], [], kws "_law_number"⟩ c__law_number)

def x__law_profiles_1 : E := (.comp [5, 6] (.bin .add (.var 4) (.lst (.cons (.var 6) .nil))) (.nm 6) (.rng (.cons (.var 2) .nil)) .no)
def x__law_profiles_2 : S := (.for_ (.nm 4) (.seq (.var 1)) (.cons (.asg (.nm 3) (.bin .add (.var 3) x__law_profiles_1))
    .nil))
def x__law_profiles_3 : S := (.for_ (.nm 2) (.seq (.var 0)) (.cons (.asg (.nm 3) (.lst .nil))
    (.cons x__law_profiles_2
    (.cons (.asg (.nm 1) (.var 3))
    .nil))))
def c__law_profiles : Fn := ⟨1, 7, [],
    (.cons (.asg (.nm 1) (.lst (.cons (.lst .nil) .nil)))
    (.cons x__law_profiles_3
    (.cons (.retV 1)
    .nil)))⟩
abbrev H__law_profiles (Γ : Prog) (kws : Str → List (List Str)) : Prop := Γ "_law_profiles" = some (.code ⟨["sizes"], [], [], kws "_law_profiles"⟩ c__law_profiles)

def x__law_game_1 : E := (.comp [3, 5] (.call "_law_number" (some 0) (.cons (.var 0) .nil) .nil) (.nm 5) (.rng (.cons (.var 2) .nil)) .no)
def x__law_game_2 : E := (.comp [3, 4] x__law_game_1 (.nm 4) (.seq (.var 1)) .no)
def c__law_game : Fn := ⟨2, 6, [0],
    (.cons (.asg (.nm 2) (.bif .len (.cons (.call "_law_profiles" (some 1) (.cons (.var 1) .nil) .nil) .nil)))
    (.cons (.ret (.tup (.cons (.con (.str "game")) (.cons (.bif .list_ (.cons (.var 1) .nil)) (.cons x__law_game_2 .nil)))))
    .nil))⟩
abbrev H__law_game (Γ : Prog) (kws : Str → List (List Str)) : Prop := Γ "_law_game" = some (.code ⟨["purse", "sizes"], [0], [], kws "_law_game"⟩ c__law_game)

def x__law_divisor_1 : S := (.whl (.cmp .ne (.var 1) (.con (.int (0)))) (.cons (.par [0, 1] (.cons (.var 1) (.cons (.bin .mod (.bif .int_ (.cons (.var 0) .nil)) (.var 1)) .nil)))
    .nil))
def c__law_divisor : Fn := ⟨2, 2, [],
    (.cons x__law_divisor_1
    (.cons (.retV 0)
    .nil))⟩
abbrev H__law_divisor (Γ : Prog) (kws : Str → List (List Str)) : Prop := Γ "_law_divisor" = some (.code ⟨["one", "other"], [], [], kws "_law_divisor"⟩ c__law_divisor)

def c__law_by : Fn := ⟨2, 3, [],
    (.cons (.asg (.nm 2) (.call "_law_divisor" none (.cons (.bif .abs (.cons (.var 0) .nil)) (.cons (.bif .abs (.cons (.var 1) .nil)) .nil)) .nil))
    (.cons (.ret (.ife (.cmp .gt (.var 1) (.con (.int (0)))) (.tup (.cons (.bin .fdiv (.var 0) (.var 2)) (.cons (.bin .fdiv (.var 1) (.var 2)) .nil))) (.tup (.cons (.bin .sub (.con (.int (0))) (.bin .fdiv (.var 0) (.var 2))) (.cons (.bin .sub (.con (.int (0))) (.bin .fdiv (.var 1) (.var 2))) .nil)))))
    .nil))⟩
abbrev H__law_by (Γ : Prog) (kws : Str → List (List Str)) : Prop := Γ "_law_by" = some (.code ⟨["top", "under"], [], [], kws "_law_by"⟩ c__law_by)

def c__law_plus : Fn := ⟨2, 2, [],
    (.cons (.ret (.call "_law_by" none (.cons (.bin .add (.bin .mul (.sub (.var 0) (.con (.int (0)))) (.sub (.var 1) (.con (.int (1))))) (.bin .mul (.sub (.var 1) (.con (.int (0)))) (.sub (.var 0) (.con (.int (1)))))) (.cons (.bin .mul (.sub (.var 0) (.con (.int (1)))) (.sub (.var 1) (.con (.int (1))))) .nil)) .nil))
    .nil)⟩
abbrev H__law_plus (Γ : Prog) (kws : Str → List (List Str)) : Prop := Γ "_law_plus" = some (.code ⟨["one", "other"], [], [], kws "_law_plus"⟩ c__law_plus)

def c__law_minus : Fn := ⟨2, 2, [],
    (.cons (.ret (.call "_law_by" none (.cons (.bin .sub (.bin .mul (.sub (.var 0) (.con (.int (0)))) (.sub (.var 1) (.con (.int (1))))) (.bin .mul (.sub (.var 1) (.con (.int (0)))) (.sub (.var 0) (.con (.int (1)))))) (.cons (.bin .mul (.sub (.var 0) (.con (.int (1)))) (.sub (.var 1) (.con (.int (1))))) .nil)) .nil))
    .nil)⟩
abbrev H__law_minus (Γ : Prog) (kws : Str → List (List Str)) : Prop := Γ "_law_minus" = some (.code ⟨["one", "other"], [], [], kws "_law_minus"⟩ c__law_minus)

def c__law_times : Fn := ⟨2, 2, [],
    (.cons (.ret (.call "_law_by" none (.cons (.bin .mul (.sub (.var 0) (.con (.int (0)))) (.sub (.var 1) (.con (.int (0))))) (.cons (.bin .mul (.sub (.var 0) (.con (.int (1)))) (.sub (.var 1) (.con (.int (1))))) .nil)) .nil))
    .nil)⟩
abbrev H__law_times (Γ : Prog) (kws : Str → List (List Str)) : Prop := Γ "_law_times" = some (.code ⟨["one", "other"], [], [], kws "_law_times"⟩ c__law_times)

def x__law_same_1 : E := (.comp [3, 4, 5] (.call "_law_same" (some 4) (.cons (.var 4) (.cons (.var 5) .nil)) .nil) (.tp [(.nm 4), (.nm 5)]) (.zip (.var 0) (.var 1) false) .no)
def c__law_same : Fn := ⟨2, 6, [],
    (.cons (.if_ (.cmp .is_ (.var 1) (.con .non)) (.cons (.ret (.cmp .is_ (.var 0) (.con .non)))
    .nil) .nil)
    (.cons (.if_ (.cmp .is_ (.var 1) (.con (.bl true))) (.cons (.ret (.cmp .is_ (.var 0) (.con (.bl true))))
    .nil) .nil)
    (.cons (.if_ (.cmp .is_ (.var 1) (.con (.bl false))) (.cons (.ret (.cmp .is_ (.var 0) (.con (.bl false))))
    .nil) .nil)
    (.cons (.if_ (.isi (.var 1) [.list, .tuple]) (.cons (.asg (.nm 2) (.ife (.isi (.var 1) [.list]) (.isi (.var 0) [.list]) (.isi (.var 0) [.tuple])))
    (.cons (.ret (.and_ (.var 2) (.and_ (.cmp .eq (.bif .len (.cons (.var 0) .nil)) (.bif .len (.cons (.var 1) .nil))) (.bif .all_ (.cons x__law_same_1 .nil)))))
    .nil)) .nil)
    (.cons (.if_ (.isi (.var 1) [.int]) (.cons (.ret (.and_ (.isi (.var 0) [.int]) (.and_ (.not_ (.isi (.var 0) [.bool])) (.cmp .eq (.var 0) (.var 1)))))
    .nil) .nil)
    (.cons (.ret (.and_ (.isi (.var 0) [.str]) (.cmp .eq (.var 0) (.var 1))))
    .nil))))))⟩
abbrev H__law_same (Γ : Prog) (kws : Str → List (List Str)) : Prop := Γ "_law_same" = some (.code ⟨["told", "due"], [], [], kws "_law_same"⟩ c__law_same)

def x__law_purse_1 : E := (.comp [3, 2] (.var 2) (.nm 2) (.seq (.slc (.var 0) .no (.yes (.con (.int (63)))))) (.yes (.cmp .ge (.var 2) (.bin .pow (.con (.int (10))) (.con (.int (18)))))))
def x__law_purse_2 : S := (.for_ (.nm 2) (.seq (.slc (.var 0) .no (.yes (.con (.int (63)))))) (.cons (.asg (.nm 1) (.bin .mod (.bif .int_ (.cons (.bin .add (.bin .mul (.var 1) (.con (.int (31)))) (.var 2)) .nil)) (.con (.int (2147483647)))))
    .nil))
def c__law_purse : Fn := ⟨1, 4, [],
    (.cons (.asg (.nm 1) (.con (.int (7))))
    (.cons x__law_purse_2
    (.cons (.ret (.lst (.cons x__law_purse_1 (.cons (.con (.int (0))) (.cons (.con (.int (0))) (.cons (.con (.int (0))) (.cons (.var 1) .nil)))))))
    .nil)))⟩
abbrev H__law_purse (Γ : Prog) (kws : Str → List (List Str)) : Prop := Γ "_law_purse" = some (.code ⟨["script"], [], [], kws "_law_purse"⟩ c__law_purse)

def c__law_draw : Fn := ⟨2, 4, [0],
    (.cons (.if_ (.and_ (.cmp .lt (.sub (.var 0) (.con (.int (2)))) (.var 1)) (.cmp .lt (.sub (.var 0) (.con (.int (1)))) (.bif .len (.cons (.sub (.var 0) (.con (.int (0)))) .nil)))) (.cons (.put 0 (.cons (.con (.int (2))) .nil) (.sub (.sub (.var 0) (.con (.int (0)))) (.sub (.var 0) (.con (.int (1))))))
    (.cons (.aug 0 (.con (.int (1))) .add (.con (.int (1))))
    .nil)) .nil)
    (.cons (.if_ (.cmp .ge (.sub (.var 0) (.con (.int (2)))) (.var 1)) (.cons (.asg (.nm 2) (.bin .mod (.bif .int_ (.cons (.sub (.var 0) (.con (.int (2)))) .nil)) (.var 1)))
    (.cons (.put 0 (.cons (.con (.int (2))) .nil) (.bin .fdiv (.sub (.var 0) (.con (.int (2)))) (.var 1)))
    (.cons (.retV 2)
    .nil))) .nil)
    (.cons (.aug 0 (.con (.int (3))) .add (.con (.int (1))))
    (.cons (.asg (.nm 3) (.bin .mod (.bif .int_ (.cons (.bin .mul (.bin .add (.bin .mul (.sub (.var 0) (.con (.int (3)))) (.sub (.var 0) (.con (.int (3))))) (.sub (.var 0) (.con (.int (4))))) (.con (.int (48271)))) .nil)) (.con (.int (2147483629)))))
    (.cons (.ret (.bin .mod (.bif .int_ (.cons (.bin .mod (.bif .int_ (.cons (.bin .mul (.var 3) (.var 3)) .nil)) (.con (.int (2147483587)))) .nil)) (.var 1)))
    .nil)))))⟩
abbrev H__law_draw (Γ : Prog) (kws : Str → List (List Str)) : Prop := Γ "_law_draw" = some (.code ⟨["purse", "many"], [0], [], kws "_law_draw"⟩ c__law_draw)

def c__law_pick : Fn := ⟨2, 2, [0],
    (.cons (.ret (.sub (.var 1) (.call "_law_draw" (some 0) (.cons (.var 0) (.cons (.bif .len (.cons (.var 1) .nil)) .nil)) .nil)))
    .nil)⟩
abbrev H__law_pick (Γ : Prog) (kws : Str → List (List Str)) : Prop := Γ "_law_pick" = some (.code ⟨["purse", "things"], [0], [], kws "_law_pick"⟩ c__law_pick)

def c_over : Fn := ⟨2, 2, [],
    (.cons (.ret (.call "lowest" none (.cons (.bin .mul (.sub (.var 0) (.con (.int (0)))) (.sub (.var 1) (.con (.int (1))))) (.cons (.bin .mul (.sub (.var 0) (.con (.int (1)))) (.sub (.var 1) (.con (.int (0))))) .nil)) .nil))
    .nil)⟩
abbrev H_over (Γ : Prog) (kws : Str → List (List Str)) : Prop := Γ "over" = some (.code ⟨["one", "other"], [], [], kws "over"⟩ c_over)

def x_summed_1 : S := (.for_ (.nm 2) (.seq (.var 0)) (.cons (.asg (.nm 1) (.call "plus" (some 1) (.cons (.var 1) (.cons (.var 2) .nil)) .nil))
    .nil))
def c_summed : Fn := ⟨1, 3, [],
    (.cons (.asg (.nm 1) (.tup (.cons (.con (.int (0))) (.cons (.con (.int (1))) .nil))))
    (.cons x_summed_1
    (.cons (.retV 1)
    .nil)))⟩
abbrev H_summed (Γ : Prog) (kws : Str → List (List Str)) : Prop := Γ "summed" = some (.code ⟨["some"], [], [], kws "summed"⟩ c_summed)

def c_persons_in : Fn := ⟨1, 1, [],
    (.cons (.ret (.bif .len (.cons (.sub (.var 0) (.con (.int (1)))) .nil)))
    .nil)⟩
abbrev H_persons_in (Γ : Prog) (kws : Str → List (List Str)) : Prop := Γ "persons_in" = some (.code ⟨["game"], [], [], kws "persons_in"⟩ c_persons_in)

def c_size_of : Fn := ⟨2, 2, [],
    (.cons (.ret (.sub (.sub (.var 0) (.con (.int (1)))) (.var 1)))
    .nil)⟩
abbrev H_size_of (Γ : Prog) (kws : Str → List (List Str)) : Prop := Γ "size_of" = some (.code ⟨["game", "person"], [], [], kws "size_of"⟩ c_size_of)

def x_profiles_by_1 : E := (.comp2 [3, 4, 5] [5] (.bin .add (.var 4) (.lst (.cons (.var 5) .nil))) (.nm 4) (.seq (.var 1)) .no (.nm 5) (.rng (.cons (.var 2) .nil)) .no)
def x_profiles_by_2 : S := (.for_ (.nm 2) (.seq (.sub (.var 0) (.con (.int (1))))) (.cons (.asg (.nm 1) x_profiles_by_1)
    .nil))
def c_profiles_by : Fn := ⟨1, 6, [],
    (.cons (.asg (.nm 1) (.lst (.cons (.lst .nil) .nil)))
    (.cons x_profiles_by_2
    (.cons (.retV 1)
    .nil)))⟩
abbrev H_profiles_by (Γ : Prog) (kws : Str → List (List Str)) : Prop := Γ "profiles_by" = some (.code ⟨["game"], [], [], kws "profiles_by"⟩ c_profiles_by)

def x_place_of_1 : S := (.for_ (.tp [(.nm 3), (.nm 4)]) (.zip (.sub (.var 0) (.con (.int (1)))) (.var 1) true) (.cons (.asg (.nm 2) (.bin .add (.bin .mul (.var 2) (.var 3)) (.var 4)))
    .nil))
def c_place_of : Fn := ⟨2, 5, [],
    (.cons (.asg (.nm 2) (.con (.int (0))))
    (.cons x_place_of_1
    (.cons (.retV 2)
    .nil)))⟩
abbrev H_place_of (Γ : Prog) (kws : Str → List (List Str)) : Prop := Γ "place_of" = some (.code ⟨["game", "profile"], [], [], kws "place_of"⟩ c_place_of)

def c_worth_at : Fn := ⟨3, 3, [],
    (.cons (.ret (.sub (.sub (.sub (.var 0) (.con (.int (2)))) (.var 1)) (.call "place_of" (some 0) (.cons (.var 0) (.cons (.var 2) .nil)) .nil)))
    .nil)⟩
abbrev H_worth_at (Γ : Prog) (kws : Str → List (List Str)) : Prop := Γ "worth_at" = some (.code ⟨["game", "person", "profile"], [], [], kws "worth_at"⟩ c_worth_at)

def c_with_choice : Fn := ⟨3, 3, [],
    (.cons (.ret (.bin .add (.bin .add (.slc (.var 0) .no (.yes (.var 1))) (.lst (.cons (.var 2) .nil))) (.slc (.var 0) (.yes (.bin .add (.var 1) (.con (.int (1))))) .no)))
    .nil)⟩
abbrev H_with_choice (Γ : Prog) (kws : Str → List (List Str)) : Prop := Γ "with_choice" = some (.code ⟨["profile", "person", "choice"], [], [], kws "with_choice"⟩ c_with_choice)

def c_gain_at : Fn := ⟨4, 4, [],
    (.cons (.ret (.call "less" none (.cons (.call "worth_at" (some 0) (.cons (.var 0) (.cons (.var 1) (.cons (.call "with_choice" (some 2) (.cons (.var 2) (.cons (.var 1) (.cons (.var 3) .nil))) .nil) .nil))) .nil) (.cons (.call "worth_at" (some 0) (.cons (.var 0) (.cons (.var 1) (.cons (.var 2) .nil))) .nil) .nil)) .nil))
    .nil)⟩
abbrev H_gain_at (Γ : Prog) (kws : Str → List (List Str)) : Prop := Γ "gain_at" = some (.code ⟨["game", "person", "profile", "choice"], [], [], kws "gain_at"⟩ c_gain_at)

def x_mean_over_1 : E := (.comp [7, 9] (.sub (.var 2) (.var 9)) (.nm 9) (.seq (.var 6)) .no)
def x_mean_over_2 : E := (.comp [7, 8] (.call "place_of" (some 0) (.cons (.var 0) (.cons (.call "with_choice" (some 5) (.cons (.var 5) (.cons (.var 1) (.cons (.var 8) .nil))) .nil) .nil)) .nil) (.nm 8) (.rng (.cons (.var 3) .nil)) .no)
def x_mean_over_3 : S := (.for_ (.nm 5) (.seq (.call "profiles_by" (some 0) (.cons (.var 0) .nil) .nil)) (.cons (.asg (.nm 6) x_mean_over_2)
    (.cons (.app 4 .nil (.call "over" none (.cons (.call "summed" none (.cons x_mean_over_1 .nil) .nil) (.cons (.tup (.cons (.var 3) (.cons (.con (.int (1))) .nil))) .nil)) .nil))
    .nil)))
def c_mean_over : Fn := ⟨3, 10, [],
    (.cons (.par [3, 4] (.cons (.call "size_of" (some 0) (.cons (.var 0) (.cons (.var 1) .nil)) .nil) (.cons (.lst .nil) .nil)))
    (.cons x_mean_over_3
    (.cons (.retV 4)
    .nil)))⟩
abbrev H_mean_over (Γ : Prog) (kws : Str → List (List Str)) : Prop := Γ "mean_over" = some (.code ⟨["game", "person", "numbers"], [], [], kws "mean_over"⟩ c_mean_over)

def x_nobodys_by_1 : E := (.comp [2, 3] (.call "mean_over" (some 0) (.cons (.var 0) (.cons (.var 3) (.cons (.sub (.sub (.var 0) (.con (.int (2)))) (.var 3)) .nil))) .nil) (.nm 3) (.rng (.cons (.call "persons_in" (some 0) (.cons (.var 0) .nil) .nil) .nil)) .no)
def c_nobodys_by : Fn := ⟨1, 4, [],
    (.cons (.asg (.nm 1) x_nobodys_by_1)
    (.cons (.ret (.tup (.cons (.con (.str "game")) (.cons (.bif .list_ (.cons (.sub (.var 0) (.con (.int (1)))) .nil)) (.cons (.var 1) .nil)))))
    .nil))⟩
abbrev H_nobodys_by (Γ : Prog) (kws : Str → List (List Str)) : Prop := Γ "nobodys_by" = some (.code ⟨["game"], [], [], kws "nobodys_by"⟩ c_nobodys_by)

def c_nobodys_part : Fn := ⟨1, 1, [],
    (.cons (.ex (.call "check_game" (some 0) (.cons (.var 0) .nil) .nil))
    (.cons (.ret (.call "nobodys_by" (some 0) (.cons (.var 0) .nil) .nil))
    .nil))⟩
abbrev H_nobodys_part (Γ : Prog) (kws : Str → List (List Str)) : Prop := Γ "nobodys_part" = some (.code ⟨["game"], [], [], kws "nobodys_part"⟩ c_nobodys_part)

def c_check_alike : Fn := ⟨2, 2, [],
    (.cons (.ex (.call "check_game" (some 0) (.cons (.var 0) .nil) .nil))
    (.cons (.ex (.call "check_game" (some 1) (.cons (.var 1) .nil) .nil))
    (.cons (.if_ (.cmp .ne (.sub (.var 0) (.con (.int (1)))) (.sub (.var 1) (.con (.int (1))))) (.cons .never
    .nil) .nil)
    .nil)))⟩
abbrev H_check_alike (Γ : Prog) (kws : Str → List (List Str)) : Prop := Γ "check_alike" = some (.code ⟨["one", "other"], [], [], kws "check_alike"⟩ c_check_alike)

def x__law_means_1 : E := (.comp [6, 7] (.call "_law_worth" (some 0) (.cons (.var 0) (.cons (.var 1) (.cons (.bin .add (.bin .add (.slc (.var 4) .no (.yes (.var 1))) (.lst (.cons (.var 7) .nil))) (.slc (.var 4) (.yes (.bin .add (.var 1) (.con (.int (1))))) .no)) .nil))) .nil) (.nm 7) (.rng (.cons (.sub (.sub (.var 0) (.con (.int (1)))) (.var 1)) .nil)) .no)
def x__law_means_2 : S := (.for_ (.nm 4) (.seq (.var 2)) (.cons (.asg (.nm 5) x__law_means_1)
    (.cons (.app 3 .nil (.call "_law_over" none (.cons (.call "_law_sum" (some 5) (.cons (.var 5) .nil) .nil) (.cons (.tup (.cons (.bif .len (.cons (.var 5) .nil)) (.cons (.con (.int (1))) .nil))) .nil)) .nil))
    .nil)))
def c__law_means : Fn := ⟨2, 8, [],
    (.cons (.par [2, 3] (.cons (.call "_law_profiles" none (.cons (.sub (.var 0) (.con (.int (1)))) .nil) .nil) (.cons (.lst .nil) .nil)))
    (.cons x__law_means_2
    (.cons (.retV 3)
    .nil)))⟩
abbrev H__law_means (Γ : Prog) (kws : Str → List (List Str)) : Prop := Γ "_law_means" = some (.code ⟨["game", "person"], [], [], kws "_law_means"⟩ c__law_means)

def x__law_added_1 : E := (.comp [2, 5, 6] (.call "_law_plus" (some 5) (.cons (.var 5) (.cons (.var 6) .nil)) .nil) (.tp [(.nm 5), (.nm 6)]) (.zip (.var 3) (.var 4) false) .no)
def x__law_added_2 : E := (.comp [2, 3, 4] x__law_added_1 (.tp [(.nm 3), (.nm 4)]) (.zip (.sub (.var 0) (.con (.int (2)))) (.sub (.var 1) (.con (.int (2)))) false) .no)
def c__law_added : Fn := ⟨2, 7, [],
    (.cons (.ret (.tup (.cons (.con (.str "game")) (.cons (.bif .list_ (.cons (.sub (.var 0) (.con (.int (1)))) .nil)) (.cons x__law_added_2 .nil)))))
    .nil)⟩
abbrev H__law_added (Γ : Prog) (kws : Str → List (List Str)) : Prop := Γ "_law_added" = some (.code ⟨["one", "other"], [], [], kws "_law_added"⟩ c__law_added)

def x__law_scaled_1 : E := (.comp [2, 4] (.call "_law_times" (some 1) (.cons (.var 1) (.cons (.var 4) .nil)) .nil) (.nm 4) (.seq (.var 3)) .no)
def x__law_scaled_2 : E := (.comp [2, 3] x__law_scaled_1 (.nm 3) (.seq (.sub (.var 0) (.con (.int (2))))) .no)
def c__law_scaled : Fn := ⟨2, 5, [],
    (.cons (.ret (.tup (.cons (.con (.str "game")) (.cons (.bif .list_ (.cons (.sub (.var 0) (.con (.int (1)))) .nil)) (.cons x__law_scaled_2 .nil)))))
    .nil)⟩
abbrev H__law_scaled (Γ : Prog) (kws : Str → List (List Str)) : Prop := Γ "_law_scaled" = some (.code ⟨["game", "factor"], [], [], kws "_law_scaled"⟩ c__law_scaled)

def c__law_sizes : Fn := ⟨1, 1, [0],
    (.cons (.if_ (.cmp .eq (.call "_law_draw" (some 0) (.cons (.var 0) (.cons (.con (.int (3))) .nil)) .nil) (.con (.int (0)))) (.cons (.ret (.lst (.cons (.bin .add (.con (.int (1))) (.call "_law_draw" (some 0) (.cons (.var 0) (.cons (.con (.int (2))) .nil)) .nil)) (.cons (.bin .add (.con (.int (1))) (.call "_law_draw" (some 0) (.cons (.var 0) (.cons (.con (.int (2))) .nil)) .nil)) (.cons (.bin .add (.con (.int (1))) (.call "_law_draw" (some 0) (.cons (.var 0) (.cons (.con (.int (2))) .nil)) .nil)) .nil)))))
    .nil) .nil)
    (.cons (.ret (.lst (.cons (.bin .add (.con (.int (1))) (.call "_law_draw" (some 0) (.cons (.var 0) (.cons (.con (.int (3))) .nil)) .nil)) (.cons (.bin .add (.con (.int (1))) (.call "_law_draw" (some 0) (.cons (.var 0) (.cons (.con (.int (3))) .nil)) .nil)) .nil))))
    .nil))⟩
abbrev H__law_sizes (Γ : Prog) (kws : Str → List (List Str)) : Prop := Γ "_law_sizes" = some (.code ⟨["purse"], [0], [], kws "_law_sizes"⟩ c__law_sizes)

def c__law_worth : Fn := ⟨3, 3, [],
    (.cons (.ret (.sub (.sub (.sub (.var 0) (.con (.int (2)))) (.var 1)) .never))
    .nil)⟩
abbrev H__law_worth (Γ : Prog) (kws : Str → List (List Str)) : Prop := Γ "_law_worth" = some (.code ⟨["game", "person", "profile"], [], [], kws "_law_worth"⟩ c__law_worth)

def c__law_gain : Fn := ⟨4, 5, [],
    (.cons (.asg (.nm 4) (.bin .add (.bin .add (.slc (.var 2) .no (.yes (.var 1))) (.lst (.cons (.var 3) .nil))) (.slc (.var 2) (.yes (.bin .add (.var 1) (.con (.int (1))))) .no)))
    (.cons (.ret (.call "_law_minus" none (.cons (.call "_law_worth" (some 0) (.cons (.var 0) (.cons (.var 1) (.cons (.var 4) .nil))) .nil) (.cons (.call "_law_worth" (some 0) (.cons (.var 0) (.cons (.var 1) (.cons (.var 2) .nil))) .nil) .nil)) .nil))
    .nil))⟩
abbrev H__law_gain (Γ : Prog) (kws : Str → List (List Str)) : Prop := Γ "_law_gain" = some (.code ⟨["game", "person", "profile", "choice"], [], [], kws "_law_gain"⟩ c__law_gain)

def c__law_over : Fn := ⟨2, 2, [],
    (.cons (.ret (.call "_law_by" none (.cons (.bin .mul (.sub (.var 0) (.con (.int (0)))) (.sub (.var 1) (.con (.int (1))))) (.cons (.bin .mul (.sub (.var 0) (.con (.int (1)))) (.sub (.var 1) (.con (.int (0))))) .nil)) .nil))
    .nil)⟩
abbrev H__law_over (Γ : Prog) (kws : Str → List (List Str)) : Prop := Γ "_law_over" = some (.code ⟨["one", "other"], [], [], kws "_law_over"⟩ c__law_over)

def x__law_sum_1 : S := (.for_ (.nm 2) (.seq (.var 0)) (.cons (.asg (.nm 1) (.call "_law_plus" (some 1) (.cons (.var 1) (.cons (.var 2) .nil)) .nil))
    .nil))
def c__law_sum : Fn := ⟨1, 3, [],
    (.cons (.asg (.nm 1) (.tup (.cons (.con (.int (0))) (.cons (.con (.int (1))) .nil))))
    (.cons x__law_sum_1
    (.cons (.retV 1)
    .nil)))⟩
abbrev H__law_sum (Γ : Prog) (kws : Str → List (List Str)) : Prop := Γ "_law_sum" = some (.code ⟨["some"], [], [], kws "_law_sum"⟩ c__law_sum)

def c_is_amount : Fn := ⟨1, 1, [],
    (.cons (.ret (.and_ (.call "is_fraction" (some 0) (.cons (.var 0) .nil) .nil) (.cmp .ge (.sub (.var 0) (.con (.int (0)))) (.con (.int (0))))))
    .nil)⟩
abbrev H_is_amount (Γ : Prog) (kws : Str → List (List Str)) : Prop := Γ "is_amount" = some (.code ⟨["value"], [], [], kws "is_amount"⟩ c_is_amount)

def x_are_amounts_1 : E := (.comp [2, 3] (.call "is_amount" (some 3) (.cons (.var 3) .nil) .nil) (.nm 3) (.seq (.var 0)) .no)
def c_are_amounts : Fn := ⟨2, 4, [],
    (.cons (.ret (.and_ (.isi (.var 0) [.list]) (.and_ (.cmp .eq (.bif .len (.cons (.var 0) .nil)) (.var 1)) (.bif .all_ (.cons x_are_amounts_1 .nil)))))
    .nil)⟩
abbrev H_are_amounts (Γ : Prog) (kws : Str → List (List Str)) : Prop := Γ "are_amounts" = some (.code ⟨["value", "many"], [], [], kws "are_amounts"⟩ c_are_amounts)

def c_are_chances : Fn := ⟨2, 2, [],
    (.cons (.ret (.and_ (.call "are_amounts" (some 0) (.cons (.var 0) (.cons (.var 1) .nil)) .nil) (.cmp .eq (.call "summed" (some 0) (.cons (.var 0) .nil) .nil) (.tup (.cons (.con (.int (1))) (.cons (.con (.int (1))) .nil))))))
    .nil)⟩
abbrev H_are_chances (Γ : Prog) (kws : Str → List (List Str)) : Prop := Γ "are_chances" = some (.code ⟨["value", "many"], [], [], kws "are_chances"⟩ c_are_chances)

def c_is_less : Fn := ⟨2, 2, [],
    (.cons (.ret (.cmp .lt (.bin .mul (.sub (.var 0) (.con (.int (0)))) (.sub (.var 1) (.con (.int (1))))) (.bin .mul (.sub (.var 1) (.con (.int (0)))) (.sub (.var 0) (.con (.int (1)))))))
    .nil)⟩
abbrev H_is_less (Γ : Prog) (kws : Str → List (List Str)) : Prop := Γ "is_less" = some (.code ⟨["one", "other"], [], [], kws "is_less"⟩ c_is_less)

def c_lesser : Fn := ⟨2, 2, [],
    (.cons (.ret (.ife (.call "is_less" (some 1) (.cons (.var 1) (.cons (.var 0) .nil)) .nil) (.var 1) (.var 0)))
    .nil)⟩
abbrev H_lesser (Γ : Prog) (kws : Str → List (List Str)) : Prop := Γ "lesser" = some (.code ⟨["one", "other"], [], [], kws "lesser"⟩ c_lesser)

def x_product_1 : E := (.comp [2, 3, 4] (.call "times" (some 3) (.cons (.var 3) (.cons (.var 4) .nil)) .nil) (.tp [(.nm 3), (.nm 4)]) (.zip (.var 0) (.var 1) true) .no)
def c_product : Fn := ⟨2, 5, [],
    (.cons (.ret (.call "summed" none (.cons x_product_1 .nil) .nil))
    .nil)⟩
abbrev H_product (Γ : Prog) (kws : Str → List (List Str)) : Prop := Γ "product" = some (.code ⟨["weights", "numbers"], [], [], kws "product"⟩ c_product)

def x_turned_1 : E := (.comp [1, 3] (.sub (.var 3) (.var 2)) (.nm 3) (.seq (.var 0)) .no)
def x_turned_2 : E := (.comp [1, 2] x_turned_1 (.nm 2) (.rng (.cons (.bif .len (.cons (.sub (.var 0) (.con (.int (0)))) .nil)) .nil)) .no)
def c_turned : Fn := ⟨1, 4, [],
    (.cons (.ret x_turned_2)
    .nil)⟩
abbrev H_turned (Γ : Prog) (kws : Str → List (List Str)) : Prop := Γ "turned" = some (.code ⟨["table"], [], [], kws "turned"⟩ c_turned)

def c_is_mix_by : Fn := ⟨2, 2, [],
    (.cons (.ret (.call "are_chances" (some 1) (.cons (.var 1) (.cons (.var 0) .nil)) .nil))
    .nil)⟩
abbrev H_is_mix_by (Γ : Prog) (kws : Str → List (List Str)) : Prop := Γ "is_mix_by" = some (.code ⟨["many", "value"], [], [], kws "is_mix_by"⟩ c_is_mix_by)

def c_check_mix : Fn := ⟨2, 2, [],
    (.cons (.if_ (.not_ (.call "is_mix_by" (some 0) (.cons (.var 0) (.cons (.var 1) .nil)) .nil)) (.cons .never
    .nil) .nil)
    .nil)⟩
abbrev H_check_mix (Γ : Prog) (kws : Str → List (List Str)) : Prop := Γ "check_mix" = some (.code ⟨["many", "mix"], [], [], kws "check_mix"⟩ c_check_mix)

def x__law_shares_1 : E := (.comp [3, 5] (.call "_law_over" none (.cons (.tup (.cons (.var 5) (.cons (.con (.int (1))) .nil))) (.cons (.tup (.cons (.bif .sum_ (.cons (.var 2) .nil)) (.cons (.con (.int (1))) .nil))) .nil)) .nil) (.nm 5) (.seq (.var 2)) .no)
def x__law_shares_2 : E := (.comp [3, 4] (.call "_law_draw" (some 0) (.cons (.var 0) (.cons (.con (.int (4))) .nil)) .nil) (.nm 4) (.rng (.cons (.var 1) .nil)) .no)
def c__law_shares : Fn := ⟨2, 6, [0],
    (.cons (.asg (.nm 2) x__law_shares_2)
    (.cons (.put 2 (.cons (.call "_law_draw" (some 0) (.cons (.var 0) (.cons (.var 1) .nil)) .nil) .nil) (.bin .add (.con (.int (1))) (.call "_law_draw" (some 0) (.cons (.var 0) (.cons (.con (.int (4))) .nil)) .nil)))
    (.cons (.ret x__law_shares_1)
    .nil)))⟩
abbrev H__law_shares (Γ : Prog) (kws : Str → List (List Str)) : Prop := Γ "_law_shares" = some (.code ⟨["purse", "many"], [0], [], kws "_law_shares"⟩ c__law_shares)

def c__law_less : Fn := ⟨2, 2, [],
    (.cons (.ret (.cmp .lt (.bin .mul (.sub (.var 0) (.con (.int (0)))) (.sub (.var 1) (.con (.int (1))))) (.bin .mul (.sub (.var 1) (.con (.int (0)))) (.sub (.var 0) (.con (.int (1)))))))
    .nil)⟩
abbrev H__law_less (Γ : Prog) (kws : Str → List (List Str)) : Prop := Γ "_law_less" = some (.code ⟨["one", "other"], [], [], kws "_law_less"⟩ c__law_less)

def c_check_person : Fn := ⟨2, 2, [],
    (.cons (.if_ (.or_ (.not_ (.call "is_whole" (some 1) (.cons (.var 1) .nil) .nil)) (.not_ (.chn (.con (.int (0))) .le (.var 1) .lt (.call "persons_in" (some 0) (.cons (.var 0) .nil) .nil)))) (.cons .never
    .nil) .nil)
    .nil)⟩
abbrev H_check_person (Γ : Prog) (kws : Str → List (List Str)) : Prop := Γ "check_person" = some (.code ⟨["game", "person"], [], [], kws "check_person"⟩ c_check_person)

def x_is_profile_by_1 : E := (.comp [2, 3, 4] (.and_ (.call "is_whole" (some 3) (.cons (.var 3) .nil) .nil) (.chn (.con (.int (0))) .le (.var 3) .lt (.var 4))) (.tp [(.nm 3), (.nm 4)]) (.zip (.var 1) (.sub (.var 0) (.con (.int (1)))) true) .no)
def c_is_profile_by : Fn := ⟨2, 5, [],
    (.cons (.if_ (.or_ (.not_ (.isi (.var 1) [.list])) (.cmp .ne (.bif .len (.cons (.var 1) .nil)) (.call "persons_in" (some 0) (.cons (.var 0) .nil) .nil))) (.cons (.ret (.con (.bl false)))
    .nil) .nil)
    (.cons (.ret (.bif .all_ (.cons x_is_profile_by_1 .nil)))
    .nil))⟩
abbrev H_is_profile_by (Γ : Prog) (kws : Str → List (List Str)) : Prop := Γ "is_profile_by" = some (.code ⟨["game", "value"], [], [], kws "is_profile_by"⟩ c_is_profile_by)

def c_check_profile : Fn := ⟨2, 2, [],
    (.cons (.if_ (.not_ (.call "is_profile_by" (some 0) (.cons (.var 0) (.cons (.var 1) .nil)) .nil)) (.cons .never
    .nil) .nil)
    .nil)⟩
abbrev H_check_profile (Γ : Prog) (kws : Str → List (List Str)) : Prop := Γ "check_profile" = some (.code ⟨["game", "profile"], [], [], kws "check_profile"⟩ c_check_profile)

def c_is_joint_by : Fn := ⟨2, 2, [],
    (.cons (.ret (.call "are_chances" (some 1) (.cons (.var 1) (.cons (.call "how_many" none (.cons (.sub (.var 0) (.con (.int (1)))) .nil) .nil) .nil)) .nil))
    .nil)⟩
abbrev H_is_joint_by (Γ : Prog) (kws : Str → List (List Str)) : Prop := Γ "is_joint_by" = some (.code ⟨["game", "value"], [], [], kws "is_joint_by"⟩ c_is_joint_by)

def c__law_joint : Fn := ⟨2, 2, [0],
    (.cons (.ret (.call "_law_shares" (some 0) (.cons (.var 0) (.cons (.bif .len (.cons (.call "_law_profiles" none (.cons (.sub (.var 1) (.con (.int (1)))) .nil) .nil) .nil)) .nil)) .nil))
    .nil)⟩
abbrev H__law_joint (Γ : Prog) (kws : Str → List (List Str)) : Prop := Γ "_law_joint" = some (.code ⟨["purse", "game"], [0], [], kws "_law_joint"⟩ c__law_joint)

def x__law_is_shares_1 : E := (.comp [2, 3] (.var 3) (.nm 3) (.seq (.var 0)) (.yes (.or_ (.not_ (.call "_law_is_fraction" (some 3) (.cons (.var 3) .nil) .nil)) (.cmp .lt (.sub (.var 3) (.con (.int (0)))) (.con (.int (0)))))))
def c__law_is_shares : Fn := ⟨2, 4, [],
    (.cons (.if_ (.or_ (.not_ (.isi (.var 0) [.list])) (.or_ (.cmp .ne (.bif .len (.cons (.var 0) .nil)) (.var 1)) (.cmp .ne x__law_is_shares_1 (.lst .nil)))) (.cons (.ret (.con (.bl false)))
    .nil) .nil)
    (.cons (.ret (.cmp .eq (.call "_law_sum" (some 0) (.cons (.var 0) .nil) .nil) (.tup (.cons (.con (.int (1))) (.cons (.con (.int (1))) .nil)))))
    .nil))⟩
abbrev H__law_is_shares (Γ : Prog) (kws : Str → List (List Str)) : Prop := Γ "_law_is_shares" = some (.code ⟨["value", "many"], [], [], kws "_law_is_shares"⟩ c__law_is_shares)

def c__law_is_joint : Fn := ⟨2, 2, [],
    (.cons (.ret (.call "_law_is_shares" (some 1) (.cons (.var 1) (.cons (.bif .len (.cons (.call "_law_profiles" none (.cons (.sub (.var 0) (.con (.int (1)))) .nil) .nil) .nil)) .nil)) .nil))
    .nil)⟩
abbrev H__law_is_joint (Γ : Prog) (kws : Str → List (List Str)) : Prop := Γ "_law_is_joint" = some (.code ⟨["game", "value"], [], [], kws "_law_is_joint"⟩ c__law_is_joint)

def x__law_items_1 : E := (.comp [4, 5] (.bin .add (.bin .add (.slc (.var 1) .no (.yes (.var 2))) (.lst (.cons (.var 5) .nil))) (.slc (.var 1) (.yes (.bin .add (.var 2) (.con (.int (1))))) .no)) (.nm 5) (.seq (.var 3)) .no)
def c__law_items : Fn := ⟨2, 6, [0],
    (.cons (.asg (.nm 2) (.call "_law_draw" (some 0) (.cons (.var 0) (.cons (.bif .len (.cons (.var 1) .nil)) .nil)) .nil))
    (.cons (.asg (.nm 3) (.lst (.cons (.con .non) (.cons (.con (.int (1))) (.cons (.con (.bl true)) (.cons (.tup (.cons (.con (.int (2))) (.cons (.con (.int (4))) .nil))) (.cons (.tup (.cons (.con (.int (1))) (.cons (.con (.int (0))) .nil))) (.cons (.tup (.cons (.con (.bl true)) (.cons (.con (.int (1))) .nil))) (.cons (.tup (.cons (.neg (.con (.int (1)))) (.cons (.con (.int (7))) .nil))) (.cons (.lst (.cons (.con (.int (1))) (.cons (.con (.int (2))) .nil))) (.cons (.con (.str "1")) (.cons (.tup (.cons (.con (.int (1))) (.cons (.con (.int (3))) .nil))) .nil))))))))))))
    (.cons (.ret (.bin .add x__law_items_1 (.lst (.cons (.bin .add (.slc (.var 3) .no (.yes (.con (.int (1))))) (.slc (.var 1) (.yes (.con (.int (1)))) .no)) (.cons (.bin .add (.var 1) (.lst (.cons (.tup (.cons (.con (.int (0))) (.cons (.con (.int (1))) .nil))) .nil))) (.cons (.slc (.var 1) .no (.yes (.neg (.con (.int (1)))))) (.cons .never (.cons (.con .non) (.cons .never .nil)))))))))
    .nil)))⟩
abbrev H__law_items (Γ : Prog) (kws : Str → List (List Str)) : Prop := Γ "_law_items" = some (.code ⟨["purse", "right"], [0], [], kws "_law_items"⟩ c__law_items)

def c__law_is_number : Fn := ⟨1, 1, [],
    (.cons (.ret (.and_ (.isi (.var 0) [.int]) (.not_ (.isi (.var 0) [.bool]))))
    .nil)⟩
abbrev H__law_is_number (Γ : Prog) (kws : Str → List (List Str)) : Prop := Γ "_law_is_number" = some (.code ⟨["value"], [], [], kws "_law_is_number"⟩ c__law_is_number)

def c__law_is_fraction : Fn := ⟨1, 1, [],
    (.cons (.if_ (.or_ (.not_ (.isi (.var 0) [.tuple])) (.or_ (.cmp .ne (.bif .len (.cons (.var 0) .nil)) (.con (.int (2)))) (.or_ (.not_ (.call "_law_is_number" none (.cons (.sub (.var 0) (.con (.int (0)))) .nil) .nil)) (.not_ (.call "_law_is_number" none (.cons (.sub (.var 0) (.con (.int (1)))) .nil) .nil))))) (.cons (.ret (.con (.bl false)))
    .nil) .nil)
    (.cons (.ret (.and_ (.cmp .gt (.sub (.var 0) (.con (.int (1)))) (.con (.int (0)))) (.cmp .eq (.call "_law_divisor" none (.cons (.bif .abs (.cons (.sub (.var 0) (.con (.int (0)))) .nil)) (.cons (.sub (.var 0) (.con (.int (1)))) .nil)) .nil) (.con (.int (1))))))
    .nil))⟩
abbrev H__law_is_fraction (Γ : Prog) (kws : Str → List (List Str)) : Prop := Γ "_law_is_fraction" = some (.code ⟨["value"], [], [], kws "_law_is_fraction"⟩ c__law_is_fraction)

def x_first_better_1 : S := (.for_ (.nm 3) (.rng (.cons (.call "size_of" (some 0) (.cons (.var 0) (.cons (.var 2) .nil)) .nil) .nil)) (.cons (.if_ (.call "is_less" none (.cons (.con (.tup [(.int (0)), (.int (1))])) (.cons (.call "gain_at" (some 0) (.cons (.var 0) (.cons (.var 2) (.cons (.var 1) (.cons (.var 3) .nil)))) .nil) .nil)) .nil) (.cons (.ret (.tup (.cons (.var 2) (.cons (.var 3) .nil))))
    .nil) .nil)
    .nil))
def x_first_better_2 : S := (.for_ (.nm 2) (.rng (.cons (.call "persons_in" (some 0) (.cons (.var 0) .nil) .nil) .nil)) (.cons x_first_better_1
    .nil))
def c_first_better : Fn := ⟨2, 4, [],
    (.cons x_first_better_2
    (.cons (.ret (.con .non))
    .nil))⟩
abbrev H_first_better (Γ : Prog) (kws : Str → List (List Str)) : Prop := Γ "first_better" = some (.code ⟨["game", "profile"], [], [], kws "first_better"⟩ c_first_better)

def c_rest_or_gain : Fn := ⟨2, 3, [],
    (.cons (.ex (.call "check_game" (some 0) (.cons (.var 0) .nil) .nil))
    (.cons (.ex (.call "check_profile" (some 0) (.cons (.var 0) (.cons (.var 1) .nil)) .nil))
    (.cons (.asg (.nm 2) (.call "first_better" (some 0) (.cons (.var 0) (.cons (.var 1) .nil)) .nil))
    (.cons (.ret (.ife (.cmp .is_ (.var 2) (.con .non)) (.tup (.cons (.con (.str "rest")) .nil)) (.bin .add (.tup (.cons (.con (.str "gain")) .nil)) (.var 2))))
    .nil))))⟩
abbrev H_rest_or_gain (Γ : Prog) (kws : Str → List (List Str)) : Prop := Γ "rest_or_gain" = some (.code ⟨["game", "profile"], [], [], kws "rest_or_gain"⟩ c_rest_or_gain)

def x__law_betters_1 : E := (.comp [5, 6] (.bin .add (.bin .add (.slc (.var 1) .no (.yes (.var 3))) (.lst (.cons (.var 6) .nil))) (.slc (.var 1) (.yes (.bin .add (.var 3) (.con (.int (1))))) .no)) (.nm 6) (.rng (.cons (.var 4) .nil)) (.yes (.cmp .gt (.sub (.call "_law_gain" (some 0) (.cons (.var 0) (.cons (.var 3) (.cons (.var 1) (.cons (.var 6) .nil)))) .nil) (.con (.int (0)))) (.con (.int (0))))))
def x__law_betters_2 : S := (.for_ (.tp [(.nm 3), (.nm 4)]) (.enum (.sub (.var 0) (.con (.int (1))))) (.cons (.asg (.nm 2) (.bin .add (.var 2) x__law_betters_1))
    .nil))
def c__law_betters : Fn := ⟨2, 7, [],
    (.cons (.asg (.nm 2) (.lst .nil))
    (.cons x__law_betters_2
    (.cons (.retV 2)
    .nil)))⟩
abbrev H__law_betters (Γ : Prog) (kws : Str → List (List Str)) : Prop := Γ "_law_betters" = some (.code ⟨["game", "profile"], [], [], kws "_law_betters"⟩ c__law_betters)

def x__law_goes_on_1 : E := (.comp [4, 6] (.var 6) (.nm 6) (.seq (.var 1)) (.yes (.cmp .in_ (.var 5) (.call "_law_betters" (some 0) (.cons (.var 0) (.cons (.var 6) .nil)) .nil))))
def x__law_goes_on_2 : E := (.comp [4, 5] (.var 5) (.nm 5) (.seq (.var 1)) (.yes (.cmp .eq x__law_goes_on_1 (.lst .nil))))
def x__law_goes_on_3 : S := (.whl (.var 2) (.cons (.asg (.nm 3) x__law_goes_on_2)
    (.cons .never
    .nil)))
def c__law_goes_on : Fn := ⟨1, 7, [],
    (.cons .never
    (.cons x__law_goes_on_3
    (.cons (.ret (.cmp .eq (.var 1) (.lst .nil)))
    .nil)))⟩
abbrev H__law_goes_on (Γ : Prog) (kws : Str → List (List Str)) : Prop := Γ "_law_goes_on" = some (.code ⟨["game"], [], [], kws "_law_goes_on"⟩ c__law_goes_on)

def x__law_owned_1 : E := (.comp [9, 10, 4] (.call "_law_plus" none (.cons (.call "_law_times" none (.cons (.sub (.var 2) (.var 7)) (.cons (.var 10) .nil)) .nil) (.cons (.sub (.var 8) .never) .nil)) .nil) (.tp [(.nm 10), (.nm 4)]) (.zip (.var 5) (.var 3) false) .no)
def x__law_owned_2 : S := (.for_ (.nm 4) (.seq (.var 3)) (.cons (.put 8 (.cons .never .nil) (.call "_law_number" (some 0) (.cons (.var 0) .nil) .nil))
    .nil))
def x__law_owned_3 : S := (.for_ (.nm 7) (.rng (.cons (.bif .len (.cons (.var 1) .nil)) .nil)) (.cons (.asg (.nm 8) .never)
    (.cons x__law_owned_2
    (.cons (.app 6 .nil x__law_owned_1)
    .nil))))
def x__law_owned_4 : E := (.comp [9, 4] (.call "_law_number" (some 0) (.cons (.var 0) .nil) .nil) (.nm 4) (.seq (.var 3)) .no)
def c__law_owned : Fn := ⟨3, 11, [],
    (.cons (.asg (.nm 3) (.call "_law_profiles" (some 1) (.cons (.var 1) .nil) .nil))
    (.cons (.asg (.nm 5) x__law_owned_4)
    (.cons (.asg (.nm 6) (.lst .nil))
    (.cons x__law_owned_3
    (.cons (.ret (.tup (.cons (.con (.str "game")) (.cons (.bif .list_ (.cons (.var 1) .nil)) (.cons (.var 6) .nil)))))
    .nil)))))⟩
abbrev H__law_owned (Γ : Prog) (kws : Str → List (List Str)) : Prop := Γ "_law_owned" = some (.code ⟨["purse", "sizes", "weights"], [], [], kws "_law_owned"⟩ c__law_owned)

def c_halves_by : Fn := ⟨2, 12, [],
    (.cons (.asg (.tp [(.nm 2), (.nm 3), (.nm 4), (.nm 5), (.nm 6)]) (.var 1))
    (.cons (.asg (.nm 7) (.call "with_choice" (some 4) (.cons (.var 4) (.cons (.var 2) (.cons (.var 5) .nil))) .nil))
    (.cons (.asg (.nm 8) (.call "with_choice" (some 7) (.cons (.var 7) (.cons (.var 3) (.cons (.var 6) .nil))) .nil))
    (.cons (.asg (.nm 9) (.call "with_choice" (some 4) (.cons (.var 4) (.cons (.var 3) (.cons (.var 6) .nil))) .nil))
    (.cons (.asg (.nm 10) (.call "plus" none (.cons (.call "gain_at" (some 0) (.cons (.var 0) (.cons (.var 2) (.cons (.var 4) (.cons (.var 5) .nil)))) .nil) (.cons (.call "gain_at" (some 0) (.cons (.var 0) (.cons (.var 2) (.cons (.var 8) (.cons (.sub (.var 4) (.var 2)) .nil)))) .nil) .nil)) .nil))
    (.cons (.asg (.nm 11) (.call "plus" none (.cons (.call "gain_at" (some 0) (.cons (.var 0) (.cons (.var 3) (.cons (.var 7) (.cons (.var 6) .nil)))) .nil) (.cons (.call "gain_at" (some 0) (.cons (.var 0) (.cons (.var 3) (.cons (.var 9) (.cons (.sub (.var 4) (.var 3)) .nil)))) .nil) .nil)) .nil))
    (.cons (.ret (.tup (.cons (.var 10) (.cons (.var 11) .nil))))
    .nil)))))))⟩
abbrev H_halves_by (Γ : Prog) (kws : Str → List (List Str)) : Prop := Γ "halves_by" = some (.code ⟨["game", "ring"], [], [], kws "halves_by"⟩ c_halves_by)

def c_sum_by : Fn := ⟨2, 4, [],
    (.cons (.asg (.tp [(.nm 2), (.nm 3)]) (.call "halves_by" (some 0) (.cons (.var 0) (.cons (.var 1) .nil)) .nil))
    (.cons (.ret (.call "plus" (some 2) (.cons (.var 2) (.cons (.var 3) .nil)) .nil))
    .nil))⟩
abbrev H_sum_by (Γ : Prog) (kws : Str → List (List Str)) : Prop := Γ "sum_by" = some (.code ⟨["game", "ring"], [], [], kws "sum_by"⟩ c_sum_by)

def x_is_ring_by_1 : E := (.comp [7, 8] (.call "is_whole" none (.cons (.sub (.var 1) (.var 8)) .nil) .nil) (.nm 8) (.seq (.tup (.cons (.con (.int (0))) (.cons (.con (.int (1))) (.cons (.con (.int (3))) (.cons (.con (.int (4))) .nil)))))) .no)
def c_is_ring_by : Fn := ⟨2, 9, [],
    (.cons (.if_ (.or_ (.not_ (.isi (.var 1) [.tuple])) (.or_ (.cmp .ne (.bif .len (.cons (.var 1) .nil)) (.con (.int (5)))) (.not_ (.bif .all_ (.cons x_is_ring_by_1 .nil))))) (.cons (.ret (.con (.bl false)))
    .nil) .nil)
    (.cons (.asg (.tp [(.nm 2), (.nm 3), (.nm 4), (.nm 5), (.nm 6)]) (.var 1))
    (.cons (.if_ (.or_ (.not_ .never) (.not_ (.call "is_profile_by" (some 0) (.cons (.var 0) (.cons (.var 4) .nil)) .nil))) (.cons (.ret (.con (.bl false)))
    .nil) .nil)
    (.cons (.if_ (.or_ (.not_ (.chn (.con (.int (0))) .le (.var 5) .lt (.call "size_of" (some 0) (.cons (.var 0) (.cons (.var 2) .nil)) .nil))) (.not_ (.chn (.con (.int (0))) .le (.var 6) .lt (.call "size_of" (some 0) (.cons (.var 0) (.cons (.var 3) .nil)) .nil)))) (.cons (.ret (.con (.bl false)))
    .nil) .nil)
    (.cons (.ret (.and_ (.cmp .ne (.var 5) (.sub (.var 4) (.var 2))) (.cmp .ne (.var 6) (.sub (.var 4) (.var 3)))))
    .nil)))))⟩
abbrev H_is_ring_by (Γ : Prog) (kws : Str → List (List Str)) : Prop := Γ "is_ring_by" = some (.code ⟨["game", "value"], [], [], kws "is_ring_by"⟩ c_is_ring_by)

def x_is_potential_by_1 : S := (.for_ (.nm 6) (.rng (.cons (.call "size_of" (some 0) (.cons (.var 0) (.cons (.var 5) .nil)) .nil) .nil)) (.cons (.asg (.nm 7) (.sub (.var 1) (.call "place_of" (some 0) (.cons (.var 0) (.cons (.call "with_choice" (some 3) (.cons (.var 3) (.cons (.var 5) (.cons (.var 6) .nil))) .nil) .nil)) .nil)))
    (.cons (.if_ (.cmp .ne (.call "times" none (.cons (.sub (.var 2) (.var 5)) (.cons (.call "less" (some 7) (.cons (.var 7) (.cons (.var 4) .nil)) .nil) .nil)) .nil) (.call "gain_at" (some 0) (.cons (.var 0) (.cons (.var 5) (.cons (.var 3) (.cons (.var 6) .nil)))) .nil)) (.cons (.ret (.con (.bl false)))
    .nil) .nil)
    .nil)))
def x_is_potential_by_2 : S := (.for_ (.nm 5) (.rng (.cons (.call "persons_in" (some 0) (.cons (.var 0) .nil) .nil) .nil)) (.cons x_is_potential_by_1
    .nil))
def x_is_potential_by_3 : S := (.for_ (.nm 3) (.seq (.call "profiles_by" (some 0) (.cons (.var 0) .nil) .nil)) (.cons (.asg (.nm 4) (.sub (.var 1) (.call "place_of" (some 0) (.cons (.var 0) (.cons (.var 3) .nil)) .nil)))
    (.cons x_is_potential_by_2
    .nil)))
def c_is_potential_by : Fn := ⟨3, 8, [],
    (.cons x_is_potential_by_3
    (.cons (.ret (.con (.bl true)))
    .nil))⟩
abbrev H_is_potential_by (Γ : Prog) (kws : Str → List (List Str)) : Prop := Γ "is_potential_by" = some (.code ⟨["game", "numbers", "weights"], [], [], kws "is_potential_by"⟩ c_is_potential_by)

def c_is_potential_or_ring : Fn := ⟨2, 2, [],
    (.cons (.ex (.call "check_game" (some 0) (.cons (.var 0) .nil) .nil))
    (.cons (.if_ (.or_ (.not_ (.isi (.var 1) [.tuple])) (.or_ (.cmp .nin (.bif .len (.cons (.var 1) .nil)) (.tup (.cons (.con (.int (2))) (.cons (.con (.int (6))) .nil)))) (.not_ (.isi (.sub (.var 1) (.con (.int (0)))) [.str])))) (.cons (.ret (.con (.bl false)))
    .nil) .nil)
    (.cons (.if_ (.cmp .eq (.bif .len (.cons (.var 1) .nil)) (.con (.int (6)))) (.cons (.ret (.and_ (.cmp .eq (.sub (.var 1) (.con (.int (0)))) (.con (.str "ring"))) (.and_ (.call "is_ring_by" (some 0) (.cons (.var 0) (.cons (.slc (.var 1) (.yes (.con (.int (1)))) .no) .nil)) .nil) (.cmp .ne (.call "sum_by" (some 0) (.cons (.var 0) (.cons (.slc (.var 1) (.yes (.con (.int (1)))) .no) .nil)) .nil) (.con (.tup [(.int (0)), (.int (1))]))))))
    .nil) .nil)
    (.cons (.if_ (.or_ (.cmp .ne (.sub (.var 1) (.con (.int (0)))) (.con (.str "potential"))) (.not_ (.call "are_fractions" none (.cons (.sub (.var 1) (.con (.int (1)))) (.cons (.call "how_many" none (.cons (.sub (.var 0) (.con (.int (1)))) .nil) .nil) .nil)) .nil))) (.cons (.ret (.con (.bl false)))
    .nil) .nil)
    (.cons (.ret (.call "is_potential_by" (some 0) (.cons (.var 0) (.cons (.sub (.var 1) (.con (.int (1)))) (.cons (.bin .mul (.lst (.cons (.con (.tup [(.int (1)), (.int (1))])) .nil)) (.call "persons_in" (some 0) (.cons (.var 0) .nil) .nil)) .nil))) .nil))
    .nil)))))⟩
abbrev H_is_potential_or_ring (Γ : Prog) (kws : Str → List (List Str)) : Prop := Γ "is_potential_or_ring" = some (.code ⟨["game", "value"], [], [], kws "is_potential_or_ring"⟩ c_is_potential_or_ring)

def x_without_1 : E := (.comp [4, 5, 6] (.call "less" (some 5) (.cons (.var 5) (.cons (.call "times" (some 3) (.cons (.var 3) (.cons (.var 6) .nil)) .nil) .nil)) .nil) (.tp [(.nm 5), (.nm 6)]) (.zip (.var 0) (.var 1) true) .no)
def c_without : Fn := ⟨3, 7, [],
    (.cons (.asg (.nm 3) (.sub (.var 0) (.var 2)))
    (.cons (.ret x_without_1)
    .nil))⟩
abbrev H_without (Γ : Prog) (kws : Str → List (List Str)) : Prop := Γ "without" = some (.code ⟨["row", "other", "place"], [], [], kws "without"⟩ c_without)

def x_stepped_1 : E := (.comp [8, 9] (.call "without" (some 9) (.cons (.var 9) (.cons (.var 7) (.cons (.var 5) .nil))) .nil) (.nm 9) (.seq (.var 3)) .no)
def x_stepped_2 : E := (.comp [8, 9] (.call "without" (some 9) (.cons (.var 9) (.cons (.var 7) (.cons (.var 5) .nil))) .nil) (.nm 9) (.seq (.var 2)) .no)
def x_stepped_3 : E := (.comp [8, 11] (.call "over" (some 11) (.cons (.var 11) (.cons (.sub (.var 7) (.var 5)) .nil)) .nil) (.nm 11) (.seq (.var 7)) .no)
def x_stepped_4 : E := (.comp [8, 10, 9] (.var 10) (.tp [(.nm 10), (.nm 9)]) (.enum (.var 2)) (.yes (.cmp .ne (.sub (.var 9) (.var 5)) (.con (.tup [(.int (0)), (.int (1))])))))
def x_stepped_5 : S := (.for_ (.nm 5) (.rng (.cons (.var 1) .nil)) (.cons (.asg (.nm 6) x_stepped_4)
    (.cons (.if_ (.cmp .ne (.var 6) (.lst .nil)) (.cons (.asg (.nm 7) .never)
    (.cons (.asg (.nm 7) x_stepped_3)
    (.cons (.asg (.nm 2) x_stepped_2)
    (.cons (.asg (.nm 3) (.bin .add x_stepped_1 (.lst (.cons (.var 7) .nil))))
    (.cons (.app 4 .nil (.var 5))
    .nil))))) .nil)
    .nil)))
def c_stepped : Fn := ⟨2, 12, [],
    (.cons .never
    (.cons x_stepped_5
    (.cons (.ret (.tup (.cons (.var 3) (.cons (.var 2) (.cons (.var 4) .nil)))))
    .nil)))⟩
abbrev H_stepped (Γ : Prog) (kws : Str → List (List Str)) : Prop := Γ "stepped" = some (.code ⟨["rows", "many"], [], [], kws "stepped"⟩ c_stepped)

def x_solved_1 : S := (.for_ (.tp [(.nm 3), (.nm 8)]) (.zip (.var 4) (.var 6) true) (.cons (.put 7 (.cons (.var 8) .nil) (.sub (.var 3) (.neg (.con (.int (1))))))
    .nil))
def x_solved_2 : E := (.comp [9, 3] (.var 3) (.nm 3) (.seq (.var 5)) (.yes (.cmp .ne (.sub (.var 3) (.neg (.con (.int (1))))) (.con (.tup [(.int (0)), (.int (1))])))))
def x_solved_3 : E := (.comp [9, 3, 10] (.bin .add (.bif .list_ (.cons (.var 3) .nil)) (.lst (.cons (.var 10) .nil))) (.tp [(.nm 3), (.nm 10)]) (.zip (.var 0) (.var 1) true) .no)
def c_solved : Fn := ⟨3, 11, [],
    (.cons (.asg (.tp [(.nm 4), (.nm 5), (.nm 6)]) (.call "stepped" none (.cons x_solved_3 (.cons (.var 2) .nil)) .nil))
    (.cons (.if_ (.cmp .ne x_solved_2 (.lst .nil)) (.cons (.ret (.con .non))
    .nil) .nil)
    (.cons (.asg (.nm 7) (.bin .mul (.lst (.cons (.con (.tup [(.int (0)), (.int (1))])) .nil)) (.var 2)))
    (.cons x_solved_1
    (.cons (.retV 7)
    .nil)))))⟩
abbrev H_solved (Γ : Prog) (kws : Str → List (List Str)) : Prop := Γ "solved" = some (.code ⟨["rows", "due", "many"], [], [], kws "solved"⟩ c_solved)

def x_own_part_1 : E := (.comp [3, 4, 5] (.call "less" (some 4) (.cons (.var 4) (.cons (.var 5) .nil)) .nil) (.tp [(.nm 4), (.nm 5)]) (.zip (.var 2) (.call "mean_over" (some 0) (.cons (.var 0) (.cons (.var 1) (.cons (.var 2) .nil))) .nil) true) .no)
def c_own_part : Fn := ⟨3, 6, [],
    (.cons (.ret x_own_part_1)
    .nil)⟩
abbrev H_own_part (Γ : Prog) (kws : Str → List (List Str)) : Prop := Γ "own_part" = some (.code ⟨["game", "person", "numbers"], [], [], kws "own_part"⟩ c_own_part)

def x_weighed_rows_1 : S := (.for_ (.nm 6) (.rng (.cons (.call "size_of" (some 0) (.cons (.var 0) (.cons (.var 5) .nil)) .nil) .nil)) (.cons (.asg (.nm 7) (.call "place_of" (some 0) (.cons (.var 0) (.cons (.call "with_choice" (some 4) (.cons (.var 4) (.cons (.var 5) (.cons (.var 6) .nil))) .nil) .nil)) .nil))
    (.cons .never
    .nil)))
def x_weighed_rows_2 : S := (.for_ (.nm 5) (.rng (.cons (.call "persons_in" (some 0) (.cons (.var 0) .nil) .nil) .nil)) (.cons .never
    (.cons x_weighed_rows_1
    .nil)))
def x_weighed_rows_3 : S := (.for_ (.tp [(.nm 3), (.nm 4)]) (.enum (.call "profiles_by" (some 0) (.cons (.var 0) .nil) .nil)) (.cons x_weighed_rows_2
    .nil))
def x_weighed_rows_4 : E := (.comp [8, 9] (.bin .mul (.lst (.cons (.con (.tup [(.int (0)), (.int (1))])) .nil)) (.var 1)) (.nm 9) (.rng (.cons (.var 1) .nil)) .no)
def c_weighed_rows : Fn := ⟨1, 10, [],
    (.cons (.asg (.nm 1) (.call "how_many" none (.cons (.sub (.var 0) (.con (.int (1)))) .nil) .nil))
    (.cons (.asg (.nm 2) x_weighed_rows_4)
    (.cons x_weighed_rows_3
    (.cons (.retV 2)
    .nil))))⟩
abbrev H_weighed_rows (Γ : Prog) (kws : Str → List (List Str)) : Prop := Γ "weighed_rows" = some (.code ⟨["game"], [], [], kws "weighed_rows"⟩ c_weighed_rows)

def x_weighed_owns_1 : E := (.comp [5, 6, 7] (.call "plus" (some 6) (.cons (.var 6) (.cons (.call "times" (some 3) (.cons (.var 3) (.cons (.var 7) .nil)) .nil) .nil)) .nil) (.tp [(.nm 6), (.nm 7)]) (.zip (.var 1) (.var 4) true) .no)
def x_weighed_owns_2 : S := (.for_ (.nm 2) (.rng (.cons (.call "persons_in" (some 0) (.cons (.var 0) .nil) .nil) .nil)) (.cons (.asg (.nm 3) (.tup (.cons (.call "size_of" (some 0) (.cons (.var 0) (.cons (.var 2) .nil)) .nil) (.cons (.con (.int (1))) .nil))))
    (.cons (.asg (.nm 4) (.call "own_part" (some 0) (.cons (.var 0) (.cons (.var 2) (.cons (.sub (.sub (.var 0) (.con (.int (2)))) (.var 2)) .nil))) .nil))
    (.cons (.asg (.nm 1) x_weighed_owns_1)
    .nil))))
def c_weighed_owns : Fn := ⟨1, 8, [],
    (.cons (.asg (.nm 1) (.bin .mul (.lst (.cons (.con (.tup [(.int (0)), (.int (1))])) .nil)) (.call "how_many" none (.cons (.sub (.var 0) (.con (.int (1)))) .nil) .nil)))
    (.cons x_weighed_owns_2
    (.cons (.retV 1)
    .nil)))⟩
abbrev H_weighed_owns (Γ : Prog) (kws : Str → List (List Str)) : Prop := Γ "weighed_owns" = some (.code ⟨["game"], [], [], kws "weighed_owns"⟩ c_weighed_owns)

def c_nearest_by : Fn := ⟨1, 3, [],
    (.cons (.asg (.nm 1) (.call "how_many" none (.cons (.sub (.var 0) (.con (.int (1)))) .nil) .nil))
    (.cons (.asg (.nm 2) (.bin .add (.call "weighed_rows" (some 0) (.cons (.var 0) .nil) .nil) (.lst (.cons (.bin .mul (.lst (.cons (.con (.tup [(.int (1)), (.int (1))])) .nil)) (.var 1)) .nil))))
    (.cons (.ret (.call "solved" (some 2) (.cons (.var 2) (.cons (.bin .add (.call "weighed_owns" (some 0) (.cons (.var 0) .nil) .nil) (.lst (.cons (.con (.tup [(.int (0)), (.int (1))])) .nil))) (.cons (.var 1) .nil))) .nil))
    .nil)))⟩
abbrev H_nearest_by (Γ : Prog) (kws : Str → List (List Str)) : Prop := Γ "nearest_by" = some (.code ⟨["game"], [], [], kws "nearest_by"⟩ c_nearest_by)

def c_nearest_potential : Fn := ⟨1, 1, [],
    (.cons (.ex (.call "check_game" (some 0) (.cons (.var 0) .nil) .nil))
    (.cons (.ret (.call "nearest_by" (some 0) (.cons (.var 0) .nil) .nil))
    .nil))⟩
abbrev H_nearest_potential (Γ : Prog) (kws : Str → List (List Str)) : Prop := Γ "nearest_potential" = some (.code ⟨["game"], [], [], kws "nearest_potential"⟩ c_nearest_potential)

def x_parts_by_1 : E := (.comp [8, 10, 11] (.call "less" (some 10) (.cons (.var 10) (.cons (.var 11) .nil)) .nil) (.tp [(.nm 10), (.nm 11)]) (.zip (.var 5) (.var 6) true) .no)
def x_parts_by_2 : S := (.for_ (.tp [(.nm 5), (.nm 6)]) (.zip (.var 3) (.var 2) true) (.cons (.app 4 .nil x_parts_by_1)
    .nil))
def x_parts_by_3 : E := (.comp [8, 9] (.call "own_part" (some 0) (.cons (.var 0) (.cons (.var 9) (.cons (.sub (.sub (.var 0) (.con (.int (2)))) (.var 9)) .nil))) .nil) (.nm 9) (.rng (.cons (.call "persons_in" (some 0) (.cons (.var 0) .nil) .nil) .nil)) .no)
def x_parts_by_4 : E := (.comp [8, 9] (.call "own_part" (some 0) (.cons (.var 0) (.cons (.var 9) (.cons (.var 1) .nil))) .nil) (.nm 9) (.rng (.cons (.call "persons_in" (some 0) (.cons (.var 0) .nil) .nil) .nil)) .no)
def c_parts_by : Fn := ⟨1, 12, [],
    (.cons (.asg (.nm 1) (.call "nearest_by" (some 0) (.cons (.var 0) .nil) .nil))
    (.cons (.asg (.nm 2) x_parts_by_4)
    (.cons (.asg (.nm 3) x_parts_by_3)
    (.cons (.asg (.nm 4) (.lst .nil))
    (.cons x_parts_by_2
    (.cons (.asg (.nm 7) (.sub (.var 0) (.con (.int (1)))))
    (.cons (.ret (.tup (.cons (.call "nobodys_by" (some 0) (.cons (.var 0) .nil) .nil) (.cons (.tup (.cons (.con (.str "game")) (.cons (.bif .list_ (.cons (.var 7) .nil)) (.cons (.var 2) .nil)))) (.cons (.tup (.cons (.con (.str "game")) (.cons (.bif .list_ (.cons (.var 7) .nil)) (.cons (.var 4) .nil)))) .nil)))))
    .nil)))))))⟩
abbrev H_parts_by (Γ : Prog) (kws : Str → List (List Str)) : Prop := Γ "parts_by" = some (.code ⟨["game"], [], [], kws "parts_by"⟩ c_parts_by)

def c_three_parts : Fn := ⟨1, 1, [],
    (.cons (.ex (.call "check_game" (some 0) (.cons (.var 0) .nil) .nil))
    (.cons (.ret (.call "parts_by" (some 0) (.cons (.var 0) .nil) .nil))
    .nil))⟩
abbrev H_three_parts (Γ : Prog) (kws : Str → List (List Str)) : Prop := Γ "three_parts" = some (.code ⟨["game"], [], [], kws "three_parts"⟩ c_three_parts)

def x__law_above_1 : E := (.comp [2, 3, 4] (.call "_law_minus" (some 3) (.cons (.var 3) (.cons (.var 4) .nil)) .nil) (.tp [(.nm 3), (.nm 4)]) (.zip (.sub (.sub (.var 0) (.con (.int (2)))) (.var 1)) (.call "_law_means" (some 0) (.cons (.var 0) (.cons (.var 1) .nil)) .nil) false) .no)
def c__law_above : Fn := ⟨2, 5, [],
    (.cons (.ret x__law_above_1)
    .nil)⟩
abbrev H__law_above (Γ : Prog) (kws : Str → List (List Str)) : Prop := Γ "_law_above" = some (.code ⟨["game", "person"], [], [], kws "_law_above"⟩ c__law_above)

def x__law_rounds_1 : E := (.comp [4, 6, 7] (.call "_law_plus" (some 6) (.cons (.var 6) (.cons (.call "_law_times" none (.cons (.tup (.cons (.var 3) (.cons (.con (.int (1))) .nil))) (.cons (.var 7) .nil)) .nil) .nil)) .nil) (.tp [(.nm 6), (.nm 7)]) (.zip (.var 1) (.call "_law_above" (some 0) (.cons (.var 0) (.cons (.var 2) .nil)) .nil) false) .no)
def x__law_rounds_2 : S := (.for_ (.tp [(.nm 2), (.nm 3)]) (.enum (.sub (.var 0) (.con (.int (1))))) (.cons (.asg (.nm 1) x__law_rounds_1)
    .nil))
def x__law_rounds_3 : E := (.comp [4, 5] (.tup (.cons (.con (.int (0))) (.cons (.con (.int (1))) .nil))) (.nm 5) (.seq (.call "_law_profiles" none (.cons (.sub (.var 0) (.con (.int (1)))) .nil) .nil)) .no)
def c__law_rounds : Fn := ⟨1, 8, [],
    (.cons (.asg (.nm 1) x__law_rounds_3)
    (.cons x__law_rounds_2
    (.cons (.retV 1)
    .nil)))⟩
abbrev H__law_rounds (Γ : Prog) (kws : Str → List (List Str)) : Prop := Γ "_law_rounds" = some (.code ⟨["game"], [], [], kws "_law_rounds"⟩ c__law_rounds)

def x__law_grows_1 : S := (.for_ (.nm 8) (.rng (.cons (.var 7) .nil)) (.cons (.asg (.nm 9) .never)
    (.cons (.if_ (.cmp .ne (.call "_law_times" none (.cons (.sub (.var 2) (.var 6)) (.cons (.call "_law_minus" none (.cons (.sub (.var 1) (.var 9)) (.cons (.sub (.var 1) (.var 4)) .nil)) .nil) .nil)) .nil) (.call "_law_gain" (some 0) (.cons (.var 0) (.cons (.var 6) (.cons (.var 5) (.cons (.var 8) .nil)))) .nil)) (.cons (.ret (.con (.bl false)))
    .nil) .nil)
    .nil)))
def x__law_grows_2 : S := (.for_ (.tp [(.nm 6), (.nm 7)]) (.enum (.sub (.var 0) (.con (.int (1))))) (.cons x__law_grows_1
    .nil))
def x__law_grows_3 : S := (.for_ (.tp [(.nm 4), (.nm 5)]) (.enum (.var 3)) (.cons x__law_grows_2
    .nil))
def c__law_grows : Fn := ⟨3, 10, [],
    (.cons (.asg (.nm 3) (.call "_law_profiles" none (.cons (.sub (.var 0) (.con (.int (1)))) .nil) .nil))
    (.cons x__law_grows_3
    (.cons (.ret (.con (.bl true)))
    .nil)))⟩
abbrev H__law_grows (Γ : Prog) (kws : Str → List (List Str)) : Prop := Γ "_law_grows" = some (.code ⟨["game", "numbers", "weights"], [], [], kws "_law_grows"⟩ c__law_grows)

def x_betters_of_1 : S := (.for_ (.nm 4) (.rng (.cons (.call "size_of" (some 0) (.cons (.var 0) (.cons (.var 3) .nil)) .nil) .nil)) (.cons (.if_ (.call "is_less" none (.cons (.con (.tup [(.int (0)), (.int (1))])) (.cons (.call "gain_at" (some 0) (.cons (.var 0) (.cons (.var 3) (.cons (.var 1) (.cons (.var 4) .nil)))) .nil) .nil)) .nil) (.cons (.app 2 .nil (.call "with_choice" (some 1) (.cons (.var 1) (.cons (.var 3) (.cons (.var 4) .nil))) .nil))
    .nil) .nil)
    .nil))
def x_betters_of_2 : S := (.for_ (.nm 3) (.rng (.cons (.call "persons_in" (some 0) (.cons (.var 0) .nil) .nil) .nil)) (.cons x_betters_of_1
    .nil))
def c_betters_of : Fn := ⟨2, 5, [],
    (.cons (.asg (.nm 2) (.lst .nil))
    (.cons x_betters_of_2
    (.cons (.ret .never)
    .nil)))⟩
abbrev H_betters_of (Γ : Prog) (kws : Str → List (List Str)) : Prop := Γ "betters_of" = some (.code ⟨["game", "profile"], [], [], kws "betters_of"⟩ c_betters_of)

def x_taken_by_1 : E := (.comp [4, 6] (.cmp .in_ (.var 5) (.call "betters_of" (some 0) (.cons (.var 0) (.cons (.var 6) .nil)) .nil)) (.nm 6) (.seq (.var 1)) .no)
def x_taken_by_2 : E := (.comp [4, 5] (.var 5) (.nm 5) (.seq (.var 1)) (.yes (.not_ (.bif .any_ (.cons x_taken_by_1 .nil)))))
def x_taken_by_3 : S := (.whl (.cmp .ne (.var 3) (.lst .nil)) (.cons (.asg (.nm 3) x_taken_by_2)
    (.cons .never
    .nil)))
def c_taken_by : Fn := ⟨1, 7, [],
    (.cons .never
    (.cons (.asg (.nm 3) (.var 1))
    (.cons x_taken_by_3
    (.cons (.ret (.tup (.cons (.var 2) (.cons (.var 1) .nil))))
    .nil))))⟩
abbrev H_taken_by (Γ : Prog) (kws : Str → List (List Str)) : Prop := Γ "taken_by" = some (.code ⟨["game"], [], [], kws "taken_by"⟩ c_taken_by)

def x_round_in_1 : E := (.comp [3, 4] (.var 4) (.nm 4) (.seq (.var 1)) (.yes (.cmp .in_ (.sub (.var 2) (.con (.int (0)))) (.call "betters_of" (some 0) (.cons (.var 0) (.cons (.var 4) .nil)) .nil))))
def x_round_in_2 : S := (.whl (.cmp .nin (.sub (.var 2) (.con (.int (0)))) (.slc (.var 2) (.yes (.con (.int (1)))) .no)) (.cons (.asg (.nm 2) (.bin .add (.slc x_round_in_1 .no (.yes (.con (.int (1))))) (.var 2)))
    .nil))
def c_round_in : Fn := ⟨2, 5, [],
    (.cons (.asg (.nm 2) (.lst (.cons (.sub (.var 1) (.con (.int (0)))) .nil)))
    (.cons x_round_in_2
    (.cons (.ret (.slc (.var 2) .no (.yes .never)))
    .nil)))⟩
abbrev H_round_in (Γ : Prog) (kws : Str → List (List Str)) : Prop := Γ "round_in" = some (.code ⟨["game", "left"], [], [], kws "round_in"⟩ c_round_in)

def c_order_or_round : Fn := ⟨1, 3, [],
    (.cons (.ex (.call "check_game" (some 0) (.cons (.var 0) .nil) .nil))
    (.cons (.asg (.tp [(.nm 1), (.nm 2)]) (.call "taken_by" (some 0) (.cons (.var 0) .nil) .nil))
    (.cons (.ret (.ife (.cmp .eq (.var 2) (.lst .nil)) (.tup (.cons (.con (.str "order")) (.cons (.var 1) .nil))) (.tup (.cons (.con (.str "round")) (.cons (.call "round_in" (some 0) (.cons (.var 0) (.cons (.var 2) .nil)) .nil) .nil)))))
    .nil)))⟩
abbrev H_order_or_round (Γ : Prog) (kws : Str → List (List Str)) : Prop := Γ "order_or_round" = some (.code ⟨["game"], [], [], kws "order_or_round"⟩ c_order_or_round)

def x__law_copied_1 : E := (.comp [1, 2] (.call "_law_copied" (some 2) (.cons (.var 2) .nil) .nil) (.nm 2) (.seq (.var 0)) .no)
def c__law_copied : Fn := ⟨1, 3, [],
    (.cons (.if_ (.isi (.var 0) [.list]) (.cons (.ret x__law_copied_1)
    .nil) .nil)
    (.cons (.ret (.ife (.isi (.var 0) [.tuple]) .never (.var 0)))
    .nil))⟩
abbrev H__law_copied (Γ : Prog) (kws : Str → List (List Str)) : Prop := Γ "_law_copied" = some (.code ⟨["thing"], [], [], kws "_law_copied"⟩ c__law_copied)

def x_first_gain_1 : E := (.comp [4, 5, 6] (.var 5) (.tp [(.nm 5), (.nm 6)]) (.enum (.call "row_worths" (some 0) (.cons (.var 0) (.cons (.var 1) .nil)) .nil)) (.yes (.call "is_less" (some 2) (.cons (.var 2) (.cons (.var 6) .nil)) .nil)))
def c_first_gain : Fn := ⟨2, 7, [],
    (.cons (.asg (.nm 2) (.call "worth_by" (some 0) (.cons (.var 0) (.cons (.var 1) (.cons (.var 1) .nil))) .nil))
    (.cons (.asg (.nm 3) x_first_gain_1)
    (.cons (.ret (.ife (.cmp .ne (.var 3) (.lst .nil)) (.sub (.var 3) (.con (.int (0)))) (.con .non)))
    .nil)))⟩
abbrev H_first_gain (Γ : Prog) (kws : Str → List (List Str)) : Prop := Γ "first_gain" = some (.code ⟨["table", "mix"], [], [], kws "first_gain"⟩ c_first_gain)

def x_rings_by_1 : S := (.for_ (.nm 6) (.rng (.cons (.bin .add (.sub (.var 4) (.var 3)) (.con (.int (1)))) (.cons (.call "size_of" (some 0) (.cons (.var 0) (.cons (.var 3) .nil)) .nil) .nil))) (.cons (.app 1 .nil (.tup (.cons (.var 2) (.cons (.var 3) (.cons (.bif .list_ (.cons (.var 4) .nil)) (.cons (.var 5) (.cons (.var 6) .nil)))))))
    .nil))
def x_rings_by_2 : S := (.for_ (.nm 5) (.rng (.cons (.bin .add (.sub (.var 4) (.var 2)) (.con (.int (1)))) (.cons (.call "size_of" (some 0) (.cons (.var 0) (.cons (.var 2) .nil)) .nil) .nil))) (.cons x_rings_by_1
    .nil))
def x_rings_by_3 : S := (.for_ (.nm 4) (.seq (.call "profiles_by" (some 0) (.cons (.var 0) .nil) .nil)) (.cons x_rings_by_2
    .nil))
def x_rings_by_4 : S := (.for_ (.nm 3) (.rng (.cons (.bin .add (.var 2) (.con (.int (1)))) (.cons (.call "persons_in" (some 0) (.cons (.var 0) .nil) .nil) .nil))) (.cons x_rings_by_3
    .nil))
def x_rings_by_5 : S := (.for_ (.nm 2) (.rng (.cons (.call "persons_in" (some 0) (.cons (.var 0) .nil) .nil) .nil)) (.cons x_rings_by_4
    .nil))
def c_rings_by : Fn := ⟨1, 7, [],
    (.cons (.asg (.nm 1) (.lst .nil))
    (.cons x_rings_by_5
    (.cons (.retV 1)
    .nil)))⟩
abbrev H_rings_by (Γ : Prog) (kws : Str → List (List Str)) : Prop := Γ "rings_by" = some (.code ⟨["game"], [], [], kws "rings_by"⟩ c_rings_by)

def x_told_along_1 : S := (.for_ (.tp [(.nm 6), (.nm 7)]) (.enum (.var 3)) (.cons (.asg (.nm 5) (.call "plus" (some 5) (.cons (.var 5) (.cons (.call "over" none (.cons (.call "gain_at" (some 0) (.cons (.var 0) (.cons (.var 6) (.cons (.var 4) (.cons (.var 7) .nil)))) .nil) (.cons (.sub (.var 1) (.var 6)) .nil)) .nil) .nil)) .nil))
    (.cons (.asg (.nm 4) (.call "with_choice" (some 4) (.cons (.var 4) (.cons (.var 6) (.cons (.var 7) .nil))) .nil))
    .nil)))
def x_told_along_2 : S := (.for_ (.nm 3) (.seq (.call "profiles_by" (some 0) (.cons (.var 0) .nil) .nil)) (.cons (.par [4, 5] (.cons (.bin .mul (.lst (.cons (.con (.int (0))) .nil)) (.call "persons_in" (some 0) (.cons (.var 0) .nil) .nil)) (.cons (.con (.tup [(.int (0)), (.int (1))])) .nil)))
    (.cons x_told_along_1
    (.cons (.app 2 .nil (.var 5))
    .nil))))
def c_told_along : Fn := ⟨2, 8, [],
    (.cons (.asg (.nm 2) (.lst .nil))
    (.cons x_told_along_2
    (.cons (.retV 2)
    .nil)))⟩
abbrev H_told_along (Γ : Prog) (kws : Str → List (List Str)) : Prop := Γ "told_along" = some (.code ⟨["game", "weights"], [], [], kws "told_along"⟩ c_told_along)

def x_potential_or_ring_1 : E := (.comp [2, 3] (.var 3) (.nm 3) (.seq (.call "rings_by" (some 0) (.cons (.var 0) .nil) .nil)) (.yes (.cmp .ne (.call "sum_by" (some 0) (.cons (.var 0) (.cons (.var 3) .nil)) .nil) (.con (.tup [(.int (0)), (.int (1))])))))
def c_potential_or_ring : Fn := ⟨1, 4, [],
    (.cons (.ex (.call "check_game" (some 0) (.cons (.var 0) .nil) .nil))
    (.cons (.asg (.nm 1) x_potential_or_ring_1)
    (.cons (.if_ (.cmp .ne (.var 1) (.lst .nil)) (.cons (.ret (.bin .add (.tup (.cons (.con (.str "ring")) .nil)) (.sub (.var 1) (.con (.int (0))))))
    .nil) .nil)
    (.cons (.ret (.tup (.cons (.con (.str "potential")) (.cons (.call "told_along" (some 0) (.cons (.var 0) (.cons (.bin .mul (.lst (.cons (.con (.tup [(.int (1)), (.int (1))])) .nil)) (.call "persons_in" (some 0) (.cons (.var 0) .nil) .nil)) .nil)) .nil) .nil))))
    .nil))))⟩
abbrev H_potential_or_ring (Γ : Prog) (kws : Str → List (List Str)) : Prop := Γ "potential_or_ring" = some (.code ⟨["game"], [], [], kws "potential_or_ring"⟩ c_potential_or_ring)

def c_opposite : Fn := ⟨1, 1, [],
    (.cons (.ret (.tup (.cons (.neg (.sub (.var 0) (.con (.int (0))))) (.cons (.sub (.var 0) (.con (.int (1)))) .nil))))
    .nil)⟩
abbrev H_opposite (Γ : Prog) (kws : Str → List (List Str)) : Prop := Γ "opposite" = some (.code ⟨["one"], [], [], kws "opposite"⟩ c_opposite)

def x_is_table_by_1 : E := (.comp [2, 3] (.call "are_fractions" (some 3) (.cons (.var 3) (.cons (.var 1) .nil)) .nil) (.nm 3) (.seq (.var 0)) .no)
def c_is_table_by : Fn := ⟨1, 4, [],
    (.cons (.if_ (.or_ (.not_ (.isi (.var 0) [.list])) (.or_ (.not_ (.chn (.con (.int (1))) .le (.bif .len (.cons (.var 0) .nil)) .le (.con (.int (5))))) (.not_ (.isi (.sub (.var 0) (.con (.int (0)))) [.list])))) (.cons (.ret (.con (.bl false)))
    .nil) .nil)
    (.cons (.asg (.nm 1) (.bif .len (.cons (.sub (.var 0) (.con (.int (0)))) .nil)))
    (.cons (.ret (.and_ (.chn (.con (.int (1))) .le (.var 1) .le (.con (.int (5)))) (.bif .all_ (.cons x_is_table_by_1 .nil))))
    .nil)))⟩
abbrev H_is_table_by (Γ : Prog) (kws : Str → List (List Str)) : Prop := Γ "is_table_by" = some (.code ⟨["value"], [], [], kws "is_table_by"⟩ c_is_table_by)

def c_check_table : Fn := ⟨1, 1, [],
    (.cons (.if_ (.not_ (.call "is_table_by" (some 0) (.cons (.var 0) .nil) .nil)) (.cons .never
    .nil) .nil)
    .nil)⟩
abbrev H_check_table (Γ : Prog) (kws : Str → List (List Str)) : Prop := Γ "check_table" = some (.code ⟨["table"], [], [], kws "check_table"⟩ c_check_table)

def c_rows_in : Fn := ⟨1, 1, [],
    (.cons (.ret (.bif .len (.cons (.var 0) .nil)))
    .nil)⟩
abbrev H_rows_in (Γ : Prog) (kws : Str → List (List Str)) : Prop := Γ "rows_in" = some (.code ⟨["table"], [], [], kws "rows_in"⟩ c_rows_in)

def c_columns_in : Fn := ⟨1, 1, [],
    (.cons (.ret (.bif .len (.cons (.sub (.var 0) (.con (.int (0)))) .nil)))
    .nil)⟩
abbrev H_columns_in (Γ : Prog) (kws : Str → List (List Str)) : Prop := Γ "columns_in" = some (.code ⟨["table"], [], [], kws "columns_in"⟩ c_columns_in)

def x_support_of_1 : E := (.comp [1, 2, 3] (.var 2) (.tp [(.nm 2), (.nm 3)]) (.enum (.var 0)) (.yes (.cmp .ne (.var 3) (.con (.tup [(.int (0)), (.int (1))])))))
def c_support_of : Fn := ⟨1, 4, [],
    (.cons (.ret x_support_of_1)
    .nil)⟩
abbrev H_support_of (Γ : Prog) (kws : Str → List (List Str)) : Prop := Γ "support_of" = some (.code ⟨["mix"], [], [], kws "support_of"⟩ c_support_of)

def x_row_worths_1 : E := (.comp [2, 3] (.call "product" (some 3) (.cons (.var 3) (.cons (.var 1) .nil)) .nil) (.nm 3) (.seq (.var 0)) .no)
def c_row_worths : Fn := ⟨2, 4, [],
    (.cons (.ret x_row_worths_1)
    .nil)⟩
abbrev H_row_worths (Γ : Prog) (kws : Str → List (List Str)) : Prop := Γ "row_worths" = some (.code ⟨["table", "other"], [], [], kws "row_worths"⟩ c_row_worths)

def c_worth_by : Fn := ⟨3, 3, [],
    (.cons (.ret (.call "product" (some 1) (.cons (.var 1) (.cons (.call "row_worths" (some 0) (.cons (.var 0) (.cons (.var 2) .nil)) .nil) .nil)) .nil))
    .nil)⟩
abbrev H_worth_by (Γ : Prog) (kws : Str → List (List Str)) : Prop := Γ "worth_by" = some (.code ⟨["table", "one", "other"], [], [], kws "worth_by"⟩ c_worth_by)

def x_sole_1 : E := (.comp [2, 3] (.ife (.cmp .eq (.var 3) (.var 1)) (.con (.tup [(.int (1)), (.int (1))])) (.con (.tup [(.int (0)), (.int (1))]))) (.nm 3) (.rng (.cons (.var 0) .nil)) .no)
def c_sole : Fn := ⟨2, 4, [],
    (.cons (.ret x_sole_1)
    .nil)⟩
abbrev H_sole (Γ : Prog) (kws : Str → List (List Str)) : Prop := Γ "sole" = some (.code ⟨["many", "choice"], [], [], kws "sole"⟩ c_sole)

def x_lots_of_1 : E := (.comp [3, 5, 4] (.var 4) (.tp [(.nm 5), (.nm 4)]) (.seq .never) .no)
def x_lots_of_2 : E := (.comp [3, 4] (.bin .add (.var 4) (.lst (.cons (.var 2) .nil))) (.nm 4) (.seq (.var 1)) .no)
def x_lots_of_3 : S := (.for_ (.nm 2) (.rng (.cons (.var 0) .nil)) (.cons (.asg (.nm 1) (.bin .add (.var 1) x_lots_of_2))
    .nil))
def c_lots_of : Fn := ⟨1, 6, [],
    (.cons (.asg (.nm 1) (.lst (.cons (.lst .nil) .nil)))
    (.cons x_lots_of_3
    (.cons (.ret x_lots_of_1)
    .nil)))⟩
abbrev H_lots_of (Γ : Prog) (kws : Str → List (List Str)) : Prop := Γ "lots_of" = some (.code ⟨["many"], [], [], kws "lots_of"⟩ c_lots_of)

def x_mix_at_1 : S := (.for_ (.tp [(.nm 4), (.nm 5)]) (.zip (.var 1) (.var 2) true) (.cons (.put 3 (.cons (.var 4) .nil) (.var 5))
    .nil))
def c_mix_at : Fn := ⟨3, 6, [],
    (.cons (.asg (.nm 3) (.bin .mul (.lst (.cons (.con (.tup [(.int (0)), (.int (1))])) .nil)) (.var 0)))
    (.cons x_mix_at_1
    (.cons (.retV 3)
    .nil)))⟩
abbrev H_mix_at (Γ : Prog) (kws : Str → List (List Str)) : Prop := Γ "mix_at" = some (.code ⟨["many", "lot", "numbers"], [], [], kws "mix_at"⟩ c_mix_at)

def c_check_square : Fn := ⟨1, 1, [],
    (.cons (.ex (.call "check_table" (some 0) (.cons (.var 0) .nil) .nil))
    (.cons (.if_ (.cmp .ne (.call "rows_in" (some 0) (.cons (.var 0) .nil) .nil) (.call "columns_in" (some 0) (.cons (.var 0) .nil) .nil)) (.cons .never
    .nil) .nil)
    .nil))⟩
abbrev H_check_square (Γ : Prog) (kws : Str → List (List Str)) : Prop := Γ "check_square" = some (.code ⟨["table"], [], [], kws "check_square"⟩ c_check_square)

def c_check_kinds : Fn := ⟨2, 2, [],
    (.cons (.ex (.call "check_square" (some 0) (.cons (.var 0) .nil) .nil))
    (.cons (.ex (.call "check_mix" none (.cons (.call "rows_in" (some 0) (.cons (.var 0) .nil) .nil) (.cons (.var 1) .nil)) .nil))
    .nil))⟩
abbrev H_check_kinds (Γ : Prog) (kws : Str → List (List Str)) : Prop := Γ "check_kinds" = some (.code ⟨["table", "mix"], [], [], kws "check_kinds"⟩ c_check_kinds)

def x_best_lot_1 : E := (.comp [3, 4, 5] (.var 4) (.tp [(.nm 4), (.nm 5)]) (.enum (.call "row_worths" (some 0) (.cons (.var 0) (.cons (.var 1) .nil)) .nil)) (.yes (.cmp .eq (.var 5) (.var 2))))
def c_best_lot : Fn := ⟨2, 6, [],
    (.cons (.asg (.nm 2) (.call "worth_by" (some 0) (.cons (.var 0) (.cons (.var 1) (.cons (.var 1) .nil))) .nil))
    (.cons (.ret x_best_lot_1)
    .nil))⟩
abbrev H_best_lot (Γ : Prog) (kws : Str → List (List Str)) : Prop := Γ "best_lot" = some (.code ⟨["table", "mix"], [], [], kws "best_lot"⟩ c_best_lot)

def x_form_of_1 : S := (.for_ (.tp [(.nm 8), (.nm 9)]) (.seq (.tup (.cons (.tup (.cons (.var 4) (.cons (.var 6) .nil))) (.cons (.tup (.cons (.var 6) (.cons (.var 4) .nil))) .nil)))) (.cons (.asg (.nm 10) (.call "plus" none (.cons (.sub (.sub (.var 0) (.var 8)) (.var 1)) (.cons (.sub (.sub (.var 0) (.var 1)) (.var 9)) .nil)) .nil))
    (.cons (.asg (.nm 7) (.call "less" (some 7) (.cons (.var 7) (.cons (.call "less" none (.cons (.call "plus" none (.cons (.sub (.sub (.var 0) (.var 8)) (.var 9)) (.cons (.sub (.sub (.var 0) (.var 1)) (.var 1)) .nil)) .nil) (.cons (.var 10) .nil)) .nil) .nil)) .nil))
    .nil)))
def x_form_of_2 : S := (.for_ (.nm 6) (.seq (.var 2)) (.cons (.asg (.nm 7) (.con (.tup [(.int (0)), (.int (1))])))
    (.cons x_form_of_1
    (.cons (.app 5 .nil (.var 7))
    .nil))))
def x_form_of_3 : S := (.for_ (.nm 4) (.seq (.var 2)) (.cons (.asg (.nm 5) (.lst .nil))
    (.cons x_form_of_2
    (.cons (.app 3 .nil (.var 5))
    .nil))))
def c_form_of : Fn := ⟨3, 11, [],
    (.cons (.asg (.nm 3) (.lst .nil))
    (.cons x_form_of_3
    (.cons (.retV 3)
    .nil)))⟩
abbrev H_form_of (Γ : Prog) (kws : Str → List (List Str)) : Prop := Γ "form_of" = some (.code ⟨["table", "pivot", "kinds"], [], [], kws "form_of"⟩ c_form_of)

def x_cleared_1 : E := (.comp [7, 8, 9] (.call "less" (some 9) (.cons (.var 9) (.cons (.call "times" (some 5) (.cons (.var 5) (.cons (.sub (.sub (.var 0) (.var 1)) (.var 8)) .nil)) .nil) .nil)) .nil) (.tp [(.nm 8), (.nm 9)]) (.enum (.var 4)) .no)
def x_cleared_2 : S := (.for_ (.tp [(.nm 3), (.nm 4)]) (.enum (.var 0)) (.cons (.if_ (.cmp .ne (.var 3) (.var 1)) (.cons (.asg (.nm 5) (.call "over" none (.cons (.sub (.var 4) (.var 1)) (.cons (.sub (.sub (.var 0) (.var 1)) (.var 1)) .nil)) .nil))
    (.cons (.asg (.nm 6) x_cleared_1)
    (.cons (.app 2 .nil (.bin .add (.slc (.var 6) .no (.yes (.var 1))) (.slc (.var 6) (.yes (.bin .add (.var 1) (.con (.int (1))))) .no)))
    .nil))) .nil)
    .nil))
def c_cleared : Fn := ⟨2, 10, [],
    (.cons (.asg (.nm 2) (.lst .nil))
    (.cons x_cleared_2
    (.cons (.retV 2)
    .nil)))⟩
abbrev H_cleared (Γ : Prog) (kws : Str → List (List Str)) : Prop := Γ "cleared" = some (.code ⟨["form", "at"], [], [], kws "cleared"⟩ c_cleared)

def c_put_back : Fn := ⟨3, 5, [],
    (.cons (.asg (.nm 3) (.bin .add (.slc (.sub (.var 0) (.var 1)) .no (.yes (.var 1))) (.slc (.sub (.var 0) (.var 1)) (.yes (.bin .add (.var 1) (.con (.int (1))))) .no)))
    (.cons (.asg (.nm 4) (.call "opposite" none (.cons (.call "over" none (.cons (.call "product" (some 3) (.cons (.var 3) (.cons (.var 2) .nil)) .nil) (.cons (.sub (.sub (.var 0) (.var 1)) (.var 1)) .nil)) .nil) .nil) .nil))
    (.cons (.ret (.bin .add (.bin .add (.slc (.var 2) .no (.yes (.var 1))) (.lst (.cons (.var 4) .nil))) (.slc (.var 2) (.yes (.var 1)) .no)))
    .nil)))⟩
abbrev H_put_back (Γ : Prog) (kws : Str → List (List Str)) : Prop := Γ "put_back" = some (.code ⟨["form", "at", "change"], [], [], kws "put_back"⟩ c_put_back)

def x_minor_1 : E := (.comp [3, 4, 5] (.bin .add (.slc (.var 5) .no (.yes (.var 2))) (.slc (.var 5) (.yes (.bin .add (.var 2) (.con (.int (1))))) .no)) (.tp [(.nm 4), (.nm 5)]) (.enum (.var 0)) (.yes (.cmp .ne (.var 4) (.var 1))))
def c_minor : Fn := ⟨3, 6, [],
    (.cons (.ret x_minor_1)
    .nil)⟩
abbrev H_minor (Γ : Prog) (kws : Str → List (List Str)) : Prop := Γ "minor" = some (.code ⟨["form", "row", "column"], [], [], kws "minor"⟩ c_minor)

def x_determinant_by_1 : S := (.for_ (.tp [(.nm 2), (.nm 3)]) (.enum (.sub (.var 0) (.con (.int (0))))) (.cons (.asg (.nm 4) (.call "times" (some 3) (.cons (.var 3) (.cons (.call "determinant_by" none (.cons (.call "minor" (some 0) (.cons (.var 0) (.cons (.con (.int (0))) (.cons (.var 2) .nil))) .nil) .nil) .nil) .nil)) .nil))
    (.cons (.asg (.nm 1) (.ife (.cmp .in_ (.var 2) (.tup (.cons (.con (.int (0))) (.cons (.con (.int (2))) (.cons (.con (.int (4))) .nil))))) (.call "plus" (some 1) (.cons (.var 1) (.cons (.var 4) .nil)) .nil) (.call "less" (some 1) (.cons (.var 1) (.cons (.var 4) .nil)) .nil)))
    .nil)))
def c_determinant_by : Fn := ⟨1, 5, [],
    (.cons (.if_ (.cmp .eq (.var 0) (.lst .nil)) (.cons (.ret (.con (.tup [(.int (1)), (.int (1))])))
    .nil) .nil)
    (.cons (.asg (.nm 1) (.con (.tup [(.int (0)), (.int (1))])))
    (.cons x_determinant_by_1
    (.cons (.retV 1)
    .nil))))⟩
abbrev H_determinant_by (Γ : Prog) (kws : Str → List (List Str)) : Prop := Γ "determinant_by" = some (.code ⟨["form"], [], [], kws "determinant_by"⟩ c_determinant_by)

def x_last_column_1 : E := (.comp [6, 5] (.cmp .ne (.var 5) (.con (.tup [(.int (0)), (.int (1))]))) (.nm 5) (.seq (.var 3)) .no)
def x_last_column_2 : E := (.comp [6, 5] (.call "is_less" (some 5) (.cons (.var 5) (.cons (.con (.tup [(.int (0)), (.int (1))])) .nil)) .nil) (.nm 5) (.seq (.var 3)) .no)
def x_last_column_3 : S := (.for_ (.nm 4) (.rng (.cons (.var 1) .nil)) (.cons (.asg (.nm 5) (.call "determinant_by" none (.cons (.call "minor" (some 0) (.cons (.var 0) (.cons (.var 2) (.cons (.var 4) .nil))) .nil) .nil) .nil))
    (.cons (.app 3 .nil (.ife (.cmp .in_ (.bin .add (.var 4) (.var 2)) (.tup (.cons (.con (.int (0))) (.cons (.con (.int (2))) (.cons (.con (.int (4))) (.cons (.con (.int (6))) (.cons (.con (.int (8))) .nil))))))) (.var 5) (.call "opposite" (some 5) (.cons (.var 5) .nil) .nil)))
    .nil)))
def x_last_column_4 : S := (.for_ (.nm 2) (.rng (.cons (.var 1) .nil)) (.cons (.asg (.nm 3) (.lst .nil))
    (.cons x_last_column_3
    (.cons (.if_ (.bif .any_ (.cons x_last_column_2 .nil)) (.cons (.ret (.con .non))
    .nil) .nil)
    (.cons (.if_ (.bif .any_ (.cons x_last_column_1 .nil)) (.cons (.retV 3)
    .nil) .nil)
    .nil)))))
def c_last_column : Fn := ⟨1, 7, [],
    (.cons (.asg (.nm 1) (.bif .len (.cons (.var 0) .nil)))
    (.cons x_last_column_4
    (.cons (.ret (.con .non))
    .nil)))⟩
abbrev H_last_column (Γ : Prog) (kws : Str → List (List Str)) : Prop := Γ "last_column" = some (.code ⟨["form"], [], [], kws "last_column"⟩ c_last_column)

def x_bad_amounts_1 : E := (.comp [5, 3] (.sub (.sub (.var 0) (.var 6)) (.var 3)) (.nm 3) (.seq (.var 2)) .no)
def x_bad_amounts_2 : E := (.comp [5, 6] x_bad_amounts_1 (.nm 6) (.seq (.var 2)) .no)
def x_bad_amounts_3 : S := (.for_ (.nm 2) (.seq (.slc (.call "lots_of" (some 1) (.cons (.var 1) .nil) .nil) (.yes (.con (.int (1)))) .no)) (.cons (.asg (.nm 4) x_bad_amounts_2)
    (.cons (.if_ (.and_ (.cmp .eq (.bif .len (.cons (.var 2) .nil)) (.con (.int (1)))) (.not_ (.call "is_less" none (.cons (.con (.tup [(.int (0)), (.int (1))])) (.cons (.sub (.sub (.var 4) (.con (.int (0)))) (.con (.int (0)))) .nil)) .nil))) (.cons (.ret (.call "mix_at" (some 1) (.cons (.var 1) (.cons (.var 2) (.cons (.lst (.cons (.con (.tup [(.int (1)), (.int (1))])) .nil)) .nil))) .nil))
    .nil) .nil)
    (.cons (.if_ (.and_ (.cmp .gt (.bif .len (.cons (.var 2) .nil)) (.con (.int (1)))) (.not_ (.call "is_less" none (.cons (.con (.tup [(.int (0)), (.int (1))])) (.cons (.call "determinant_by" (some 4) (.cons (.var 4) .nil) .nil) .nil)) .nil))) (.cons (.asg (.nm 3) (.call "last_column" (some 4) (.cons (.var 4) .nil) .nil))
    (.cons (.if_ (.cmp .isn (.var 3) (.con .non)) (.cons (.ret (.call "mix_at" (some 1) (.cons (.var 1) (.cons (.var 2) (.cons (.var 3) .nil))) .nil))
    .nil) .nil)
    .nil)) .nil)
    .nil))))
def c_bad_amounts : Fn := ⟨1, 7, [],
    (.cons (.asg (.nm 1) (.bif .len (.cons (.var 0) .nil)))
    (.cons x_bad_amounts_3
    (.cons (.ret (.con .non))
    .nil)))⟩
abbrev H_bad_amounts (Γ : Prog) (kws : Str → List (List Str)) : Prop := Γ "bad_amounts" = some (.code ⟨["form"], [], [], kws "bad_amounts"⟩ c_bad_amounts)

def c_bad_change : Fn := ⟨2, 3, [],
    (.cons (.if_ (.cmp .eq (.var 1) (.con (.int (0)))) (.cons (.ret (.call "bad_amounts" (some 0) (.cons (.var 0) .nil) .nil))
    .nil) .nil)
    (.cons (.if_ (.not_ (.call "is_less" none (.cons (.con (.tup [(.int (0)), (.int (1))])) (.cons (.sub (.sub (.var 0) (.con (.int (0)))) (.con (.int (0)))) .nil)) .nil)) (.cons (.ret (.bin .add (.lst (.cons (.con (.tup [(.int (1)), (.int (1))])) .nil)) (.bin .mul (.lst (.cons (.con (.tup [(.int (0)), (.int (1))])) .nil)) (.bin .sub (.bif .len (.cons (.var 0) .nil)) (.con (.int (1)))))))
    .nil) .nil)
    (.cons (.asg (.nm 2) (.call "bad_change" none (.cons (.call "cleared" (some 0) (.cons (.var 0) (.cons (.con (.int (0))) .nil)) .nil) (.cons (.bin .sub (.var 1) (.con (.int (1)))) .nil)) .nil))
    (.cons (.ret (.ife (.cmp .is_ (.var 2) (.con .non)) (.con .non) (.call "put_back" (some 0) (.cons (.var 0) (.cons (.con (.int (0))) (.cons (.var 2) .nil))) .nil)))
    .nil))))⟩
abbrev H_bad_change (Γ : Prog) (kws : Str → List (List Str)) : Prop := Γ "bad_change" = some (.code ⟨["form", "free"], [], [], kws "bad_change"⟩ c_bad_change)

def x_moved_mix_1 : E := (.comp [8, 6, 7] (.call "plus" (some 6) (.cons (.var 6) (.cons (.call "times" (some 5) (.cons (.var 5) (.cons (.var 7) .nil)) .nil) .nil)) .nil) (.tp [(.nm 6), (.nm 7)]) (.zip (.var 0) (.var 4) true) .no)
def x_moved_mix_2 : S := (.for_ (.tp [(.nm 6), (.nm 7)]) (.zip (.var 0) (.var 4) true) (.cons (.if_ (.call "is_less" (some 7) (.cons (.var 7) (.cons (.con (.tup [(.int (0)), (.int (1))])) .nil)) .nil) (.cons (.asg (.nm 5) (.call "lesser" (some 5) (.cons (.var 5) (.cons (.call "over" (some 6) (.cons (.var 6) (.cons (.call "opposite" (some 7) (.cons (.var 7) .nil) .nil) .nil)) .nil) .nil)) .nil))
    .nil) .nil)
    .nil))
def c_moved_mix : Fn := ⟨4, 9, [],
    (.cons (.asg (.nm 4) (.call "mix_at" none (.cons (.bif .len (.cons (.var 0) .nil)) (.cons (.var 1) (.cons (.var 3) .nil))) .nil))
    (.cons (.put 4 (.cons (.var 2) .nil) (.call "opposite" none (.cons (.call "summed" (some 3) (.cons (.var 3) .nil) .nil) .nil) .nil))
    (.cons (.asg (.nm 5) (.con (.tup [(.int (1)), (.int (1))])))
    (.cons x_moved_mix_2
    (.cons (.ret x_moved_mix_1)
    .nil)))))⟩
abbrev H_moved_mix (Γ : Prog) (kws : Str → List (List Str)) : Prop := Γ "moved_mix" = some (.code ⟨["mix", "kinds", "pivot", "change"], [], [], kws "moved_mix"⟩ c_moved_mix)

def x_mutant_by_1 : E := (.comp [8, 9] (.var 9) (.nm 9) (.seq (.var 4)) (.yes (.cmp .nin (.var 9) (.var 3))))
def c_mutant_by : Fn := ⟨2, 10, [],
    (.cons (.asg (.nm 2) (.call "first_gain" (some 0) (.cons (.var 0) (.cons (.var 1) .nil)) .nil))
    (.cons (.if_ (.cmp .isn (.var 2) (.con .non)) (.cons (.ret (.call "sole" none (.cons (.bif .len (.cons (.var 1) .nil)) (.cons (.var 2) .nil)) .nil))
    .nil) .nil)
    (.cons .never
    (.cons (.asg (.nm 5) (.sub (.var 3) (.con (.int (0)))))
    (.cons (.asg (.nm 6) (.bin .add (.slc (.var 3) (.yes (.con (.int (1)))) .no) x_mutant_by_1))
    (.cons (.asg (.nm 7) (.call "bad_change" none (.cons (.call "form_of" (some 0) (.cons (.var 0) (.cons (.var 5) (.cons (.var 6) .nil))) .nil) (.cons (.bin .sub (.bif .len (.cons (.var 3) .nil)) (.con (.int (1)))) .nil)) .nil))
    (.cons (.ret (.ife (.cmp .is_ (.var 7) (.con .non)) (.con .non) (.call "moved_mix" (some 1) (.cons (.var 1) (.cons (.var 6) (.cons (.var 5) (.cons (.var 7) .nil)))) .nil)))
    .nil)))))))⟩
abbrev H_mutant_by (Γ : Prog) (kws : Str → List (List Str)) : Prop := Γ "mutant_by" = some (.code ⟨["table", "mix"], [], [], kws "mutant_by"⟩ c_mutant_by)

def x_even_at_1 : E := (.comp [5, 8] (.call "is_less" none (.cons (.con (.tup [(.int (0)), (.int (1))])) (.cons (.var 8) .nil)) .nil) (.nm 8) (.seq (.var 4)) .no)
def x_even_at_2 : E := (.comp [5, 7] (.call "less" none (.cons (.sub (.sub (.var 0) (.var 6)) (.var 7)) (.cons (.sub (.sub (.var 0) (.sub (.var 1) (.con (.int (0))))) (.var 7)) .nil)) .nil) (.nm 7) (.seq (.var 1)) .no)
def x_even_at_3 : E := (.comp [5, 6] x_even_at_2 (.nm 6) (.seq (.slc (.var 1) (.yes (.con (.int (1)))) .no)) .no)
def c_even_at : Fn := ⟨2, 9, [],
    (.cons (.asg (.nm 2) (.bif .len (.cons (.var 1) .nil)))
    (.cons (.asg (.nm 3) x_even_at_3)
    (.cons (.asg (.nm 4) (.call "solved" none (.cons (.bin .add (.var 3) (.lst (.cons (.bin .mul (.lst (.cons (.con (.tup [(.int (1)), (.int (1))])) .nil)) (.var 2)) .nil))) (.cons (.bin .add (.bin .mul (.lst (.cons (.con (.tup [(.int (0)), (.int (1))])) .nil)) (.bin .sub (.var 2) (.con (.int (1))))) (.lst (.cons (.con (.tup [(.int (1)), (.int (1))])) .nil))) (.cons (.var 2) .nil))) .nil))
    (.cons (.if_ (.or_ (.cmp .is_ (.var 4) (.con .non)) (.not_ (.bif .all_ (.cons x_even_at_1 .nil)))) (.cons (.ret (.con .non))
    .nil) .nil)
    (.cons (.ret (.call "mix_at" none (.cons (.call "rows_in" (some 0) (.cons (.var 0) .nil) .nil) (.cons (.var 1) (.cons (.var 4) .nil))) .nil))
    .nil)))))⟩
abbrev H_even_at (Γ : Prog) (kws : Str → List (List Str)) : Prop := Γ "even_at" = some (.code ⟨["table", "lot"], [], [], kws "even_at"⟩ c_even_at)

def x_proof_mixes_1 : S := (.for_ (.nm 2) (.seq (.slc (.call "lots_of" none (.cons (.call "rows_in" (some 0) (.cons (.var 0) .nil) .nil) .nil) .nil) (.yes (.con (.int (1)))) .no)) (.cons (.asg (.nm 3) (.call "even_at" (some 0) (.cons (.var 0) (.cons (.var 2) .nil)) .nil))
    (.cons (.if_ (.and_ (.cmp .isn (.var 3) (.con .non)) (.cmp .is_ (.call "mutant_by" (some 0) (.cons (.var 0) (.cons (.var 3) .nil)) .nil) (.con .non))) (.cons (.app 1 .nil (.var 3))
    .nil) .nil)
    .nil)))
def c_proof_mixes : Fn := ⟨1, 4, [],
    (.cons (.ex (.call "check_square" (some 0) (.cons (.var 0) .nil) .nil))
    (.cons (.asg (.nm 1) (.lst .nil))
    (.cons x_proof_mixes_1
    (.cons (.retV 1)
    .nil))))⟩
abbrev H_proof_mixes (Γ : Prog) (kws : Str → List (List Str)) : Prop := Γ "proof_mixes" = some (.code ⟨["table"], [], [], kws "proof_mixes"⟩ c_proof_mixes)

def x_next_shares_1 : E := (.comp [3, 6, 5] (.call "over" none (.cons (.call "times" (some 6) (.cons (.var 6) (.cons (.var 5) .nil)) .nil) (.cons (.var 2) .nil)) .nil) (.tp [(.nm 6), (.nm 5)]) (.zip (.var 1) (.call "row_worths" (some 0) (.cons (.var 0) (.cons (.var 1) .nil)) .nil) true) .no)
def x_next_shares_2 : E := (.comp [3, 5] (.call "is_less" none (.cons (.con (.tup [(.int (0)), (.int (1))])) (.cons (.var 5) .nil)) .nil) (.nm 5) (.seq (.var 4)) .no)
def x_next_shares_3 : E := (.comp [3, 4] (.bif .all_ (.cons x_next_shares_2 .nil)) (.nm 4) (.seq (.var 0)) .no)
def c_next_shares : Fn := ⟨2, 7, [],
    (.cons (.ex (.call "check_kinds" (some 0) (.cons (.var 0) (.cons (.var 1) .nil)) .nil))
    (.cons (.if_ (.not_ (.bif .all_ (.cons x_next_shares_3 .nil))) (.cons .never
    .nil) .nil)
    (.cons (.asg (.nm 2) (.call "worth_by" (some 0) (.cons (.var 0) (.cons (.var 1) (.cons (.var 1) .nil))) .nil))
    (.cons (.ret x_next_shares_1)
    .nil))))⟩
abbrev H_next_shares (Γ : Prog) (kws : Str → List (List Str)) : Prop := Γ "next_shares" = some (.code ⟨["table", "mix"], [], [], kws "next_shares"⟩ c_next_shares)

def x__law_got_1 : E := (.comp [2, 4, 5] (.call "_law_times" (some 4) (.cons (.var 4) (.cons (.var 5) .nil)) .nil) (.tp [(.nm 4), (.nm 5)]) (.zip (.var 3) (.var 1) false) .no)
def x__law_got_2 : E := (.comp [2, 3] (.call "_law_sum" none (.cons x__law_got_1 .nil) .nil) (.nm 3) (.seq (.var 0)) .no)
def c__law_got : Fn := ⟨2, 6, [],
    (.cons (.ret x__law_got_2)
    .nil)⟩
abbrev H__law_got (Γ : Prog) (kws : Str → List (List Str)) : Prop := Γ "_law_got" = some (.code ⟨["table", "other"], [], [], kws "_law_got"⟩ c__law_got)

def x__law_square_1 : S := (.for_ (.nm 4) (.rng (.cons (.var 3) .nil)) (.cons .never
    .nil))
def x__law_square_2 : S := (.for_ (.nm 3) (.rng (.cons (.var 2) .nil)) (.cons x__law_square_1
    .nil))
def x__law_square_3 : E := (.comp [6, 4] (.call "_law_number" (some 0) (.cons (.var 0) .nil) .nil) (.nm 4) (.rng (.cons (.var 2) .nil)) .no)
def x__law_square_4 : E := (.comp [6, 3] x__law_square_3 (.nm 3) (.rng (.cons (.var 2) .nil)) .no)
def c__law_square : Fn := ⟨2, 7, [0],
    (.cons (.asg (.nm 2) (.bin .add (.con (.int (1))) (.call "_law_draw" (some 0) (.cons (.var 0) (.cons (.var 1) .nil)) .nil)))
    (.cons (.asg (.nm 5) x__law_square_4)
    (.cons (.if_ (.cmp .eq (.call "_law_draw" (some 0) (.cons (.var 0) (.cons (.con (.int (3))) .nil)) .nil) (.con (.int (0)))) (.cons x__law_square_2
    .nil) .nil)
    (.cons (.retV 5)
    .nil))))⟩
abbrev H__law_square (Γ : Prog) (kws : Str → List (List Str)) : Prop := Γ "_law_square" = some (.code ⟨["purse", "most"], [0], [], kws "_law_square"⟩ c__law_square)

def x__law_against_1 : E := (.comp [3, 4, 5] (.call "_law_times" (some 4) (.cons (.var 4) (.cons (.var 5) .nil)) .nil) (.tp [(.nm 4), (.nm 5)]) (.zip (.var 1) (.call "_law_got" (some 0) (.cons (.var 0) (.cons (.var 2) .nil)) .nil) false) .no)
def c__law_against : Fn := ⟨3, 6, [],
    (.cons (.ret (.call "_law_sum" none (.cons x__law_against_1 .nil) .nil))
    .nil)⟩
abbrev H__law_against (Γ : Prog) (kws : Str → List (List Str)) : Prop := Γ "_law_against" = some (.code ⟨["table", "mix", "other"], [], [], kws "_law_against"⟩ c__law_against)

def x__law_is_even_1 : E := (.comp [3, 4] (.var 4) (.nm 4) (.seq (.call "_law_got" (some 0) (.cons (.var 0) (.cons (.var 1) .nil)) .nil)) (.yes (.call "_law_less" (some 2) (.cons (.var 2) (.cons (.var 4) .nil)) .nil)))
def c__law_is_even : Fn := ⟨2, 5, [],
    (.cons (.asg (.nm 2) (.call "_law_against" (some 0) (.cons (.var 0) (.cons (.var 1) (.cons (.var 1) .nil))) .nil))
    (.cons (.ret (.cmp .eq x__law_is_even_1 (.lst .nil)))
    .nil))⟩
abbrev H__law_is_even (Γ : Prog) (kws : Str → List (List Str)) : Prop := Γ "_law_is_even" = some (.code ⟨["table", "mix"], [], [], kws "_law_is_even"⟩ c__law_is_even)

def c__law_halves : Fn := ⟨2, 11, [],
    (.cons (.asg (.tp [(.nm 2), (.nm 3), (.nm 4), (.nm 5), (.nm 6)]) (.var 1))
    (.cons (.asg (.nm 7) (.bin .add (.bin .add (.slc (.var 4) .no (.yes (.var 2))) (.lst (.cons (.var 5) .nil))) (.slc (.var 4) (.yes (.bin .add (.var 2) (.con (.int (1))))) .no)))
    (.cons (.asg (.nm 8) (.bin .add (.bin .add (.slc (.var 7) .no (.yes (.var 3))) (.lst (.cons (.var 6) .nil))) (.slc (.var 7) (.yes (.bin .add (.var 3) (.con (.int (1))))) .no)))
    (.cons (.asg (.nm 9) (.bin .add (.bin .add (.slc (.var 4) .no (.yes (.var 3))) (.lst (.cons (.var 6) .nil))) (.slc (.var 4) (.yes (.bin .add (.var 3) (.con (.int (1))))) .no)))
    (.cons (.asg (.nm 10) (.call "_law_plus" none (.cons (.call "_law_gain" (some 0) (.cons (.var 0) (.cons (.var 2) (.cons (.var 4) (.cons (.var 5) .nil)))) .nil) (.cons (.call "_law_gain" (some 0) (.cons (.var 0) (.cons (.var 2) (.cons (.var 8) (.cons (.sub (.var 4) (.var 2)) .nil)))) .nil) .nil)) .nil))
    (.cons (.ret (.tup (.cons (.var 10) (.cons (.call "_law_plus" none (.cons (.call "_law_gain" (some 0) (.cons (.var 0) (.cons (.var 3) (.cons (.var 7) (.cons (.var 6) .nil)))) .nil) (.cons (.call "_law_gain" (some 0) (.cons (.var 0) (.cons (.var 3) (.cons (.var 9) (.cons (.sub (.var 4) (.var 3)) .nil)))) .nil) .nil)) .nil) .nil))))
    .nil))))))⟩
abbrev H__law_halves (Γ : Prog) (kws : Str → List (List Str)) : Prop := Γ "_law_halves" = some (.code ⟨["game", "ring"], [], [], kws "_law_halves"⟩ c__law_halves)

def x__law_rings_1 : E := (.comp [6, 7] (.tup (.cons (.var 2) (.cons (.var 3) (.cons (.var 4) (.cons (.var 5) (.cons (.var 7) .nil)))))) (.nm 7) (.rng (.cons (.sub (.sub (.var 0) (.con (.int (1)))) (.var 3)) .nil)) (.yes (.and_ (.cmp .ne (.var 5) (.sub (.var 4) (.var 2))) (.cmp .ne (.var 7) (.sub (.var 4) (.var 3))))))
def x__law_rings_2 : S := (.for_ (.nm 5) (.rng (.cons (.sub (.sub (.var 0) (.con (.int (1)))) (.var 2)) .nil)) (.cons (.asg (.nm 1) (.bin .add (.var 1) x__law_rings_1))
    .nil))
def x__law_rings_3 : S := (.for_ (.nm 4) (.seq (.call "_law_profiles" none (.cons (.sub (.var 0) (.con (.int (1)))) .nil) .nil)) (.cons x__law_rings_2
    .nil))
def x__law_rings_4 : S := (.for_ (.nm 3) (.rng (.cons (.bin .add (.var 2) (.con (.int (1)))) (.cons (.bif .len (.cons (.sub (.var 0) (.con (.int (1)))) .nil)) .nil))) (.cons x__law_rings_3
    .nil))
def x__law_rings_5 : S := (.for_ (.nm 2) (.rng (.cons (.bif .len (.cons (.sub (.var 0) (.con (.int (1)))) .nil)) .nil)) (.cons x__law_rings_4
    .nil))
def c__law_rings : Fn := ⟨1, 8, [],
    (.cons (.asg (.nm 1) (.lst .nil))
    (.cons x__law_rings_5
    (.cons (.retV 1)
    .nil)))⟩
abbrev H__law_rings (Γ : Prog) (kws : Str → List (List Str)) : Prop := Γ "_law_rings" = some (.code ⟨["game"], [], [], kws "_law_rings"⟩ c__law_rings)

def x__law_is_ring_1 : E := (.comp [7, 8, 9] (.var 8) (.tp [(.nm 8), (.nm 9)]) (.zip (.var 4) (.sub (.var 0) (.con (.int (1)))) false) (.yes (.or_ (.not_ (.call "_law_is_number" (some 8) (.cons (.var 8) .nil) .nil)) (.not_ (.chn (.con (.int (0))) .le (.var 8) .lt (.var 9))))))
def x__law_is_ring_2 : E := (.comp [7, 8] (.var 8) (.nm 8) (.seq (.lst (.cons (.sub (.var 1) (.con (.int (0)))) (.cons (.sub (.var 1) (.con (.int (1)))) (.cons (.sub (.var 1) (.con (.int (3)))) (.cons (.sub (.var 1) (.con (.int (4)))) .nil)))))) (.yes (.not_ (.call "_law_is_number" (some 8) (.cons (.var 8) .nil) .nil))))
def c__law_is_ring : Fn := ⟨2, 10, [],
    (.cons (.if_ (.or_ (.not_ (.isi (.var 1) [.tuple])) (.or_ (.cmp .ne (.bif .len (.cons (.var 1) .nil)) (.con (.int (5)))) (.cmp .ne x__law_is_ring_2 (.lst .nil)))) (.cons (.ret (.con (.bl false)))
    .nil) .nil)
    (.cons (.asg (.tp [(.nm 2), (.nm 3), (.nm 4), (.nm 5), (.nm 6)]) (.var 1))
    (.cons (.if_ (.or_ (.not_ .never) (.or_ (.not_ (.isi (.var 4) [.list])) (.cmp .ne (.bif .len (.cons (.var 4) .nil)) (.bif .len (.cons (.sub (.var 0) (.con (.int (1)))) .nil))))) (.cons (.ret (.con (.bl false)))
    .nil) .nil)
    (.cons (.if_ (.cmp .ne x__law_is_ring_1 (.lst .nil)) (.cons (.ret (.con (.bl false)))
    .nil) .nil)
    (.cons (.ret (.and_ (.chn (.con (.int (0))) .le (.var 5) .lt (.sub (.sub (.var 0) (.con (.int (1)))) (.var 2))) (.and_ (.chn (.con (.int (0))) .le (.var 6) .lt (.sub (.sub (.var 0) (.con (.int (1)))) (.var 3))) (.and_ (.cmp .ne (.var 5) (.sub (.var 4) (.var 2))) (.cmp .ne (.var 6) (.sub (.var 4) (.var 3)))))))
    .nil)))))⟩
abbrev H__law_is_ring (Γ : Prog) (kws : Str → List (List Str)) : Prop := Γ "_law_is_ring" = some (.code ⟨["game", "value"], [], [], kws "_law_is_ring"⟩ c__law_is_ring)

def x__law_are_numbers_1 : E := (.comp [2, 3] (.var 3) (.nm 3) (.seq (.var 0)) (.yes (.not_ (.call "_law_is_fraction" (some 3) (.cons (.var 3) .nil) .nil))))
def c__law_are_numbers : Fn := ⟨2, 4, [],
    (.cons (.ret (.and_ (.isi (.var 0) [.list]) (.and_ (.cmp .eq (.bif .len (.cons (.var 0) .nil)) (.var 1)) (.cmp .eq x__law_are_numbers_1 (.lst .nil)))))
    .nil)⟩
abbrev H__law_are_numbers (Γ : Prog) (kws : Str → List (List Str)) : Prop := Γ "_law_are_numbers" = some (.code ⟨["value", "many"], [], [], kws "_law_are_numbers"⟩ c__law_are_numbers)

def x__law_ring_bents_1 : E := (.comp [7, 8] (.tup (.cons (.var 1) (.cons (.var 2) (.cons (.var 3) (.cons (.var 4) (.cons (.var 8) .nil)))))) (.nm 8) (.seq (.lst (.cons (.con .non) (.cons (.sub (.var 3) (.var 2)) (.cons (.con (.int (9))) (.cons (.con (.str "0")) .nil)))))) .no)
def x__law_ring_bents_2 : E := (.comp [7, 8] (.tup (.cons (.var 1) (.cons (.var 2) (.cons (.var 3) (.cons (.var 8) (.cons (.var 5) .nil)))))) (.nm 8) (.seq (.lst (.cons (.con .non) (.cons (.con (.bl true)) (.cons (.sub (.var 3) (.var 1)) (.cons (.con (.int (9))) (.cons (.con (.str "0")) (.cons (.neg (.con (.int (1)))) .nil)))))))) .no)
def c__law_ring_bents : Fn := ⟨1, 9, [],
    (.cons (.asg (.tp [(.nm 1), (.nm 2), (.nm 3), (.nm 4), (.nm 5)]) (.var 0))
    (.cons (.asg (.nm 6) (.lst (.cons (.var 0) (.cons (.slc (.var 0) .no (.yes (.con (.int (4))))) (.cons (.bin .add (.var 0) (.tup (.cons (.con (.int (0))) .nil))) (.cons (.bif .list_ (.cons (.var 0) .nil)) (.cons (.tup (.cons (.var 2) (.cons (.var 1) (.cons (.var 3) (.cons (.var 5) (.cons (.var 4) .nil)))))) (.cons (.tup (.cons (.var 1) (.cons (.var 1) (.cons (.var 3) (.cons (.var 4) (.cons (.var 5) .nil)))))) .nil))))))))
    (.cons (.asg (.nm 6) (.bin .add (.var 6) (.lst (.cons (.tup (.cons (.var 1) (.cons (.var 2) (.cons .never (.cons (.var 4) (.cons (.var 5) .nil)))))) (.cons (.tup (.cons (.var 1) (.cons (.var 2) (.cons (.slc (.var 3) .no (.yes (.neg (.con (.int (1)))))) (.cons (.var 4) (.cons (.var 5) .nil)))))) .nil)))))
    (.cons (.asg (.nm 6) (.bin .add (.var 6) x__law_ring_bents_2))
    (.cons (.asg (.nm 6) (.bin .add (.var 6) x__law_ring_bents_1))
    (.cons (.ret (.bin .add (.var 6) (.lst (.cons (.tup (.cons (.var 1) (.cons (.var 2) (.cons (.bin .add (.lst (.cons (.con .non) .nil)) (.slc (.var 3) (.yes (.con (.int (1)))) .no)) (.cons (.var 4) (.cons (.var 5) .nil)))))) (.cons (.tup (.cons (.con .non) (.cons (.var 2) (.cons (.var 3) (.cons (.var 4) (.cons (.var 5) .nil)))))) (.cons (.tup (.cons (.var 1) (.cons (.con (.int (3))) (.cons (.var 3) (.cons (.var 4) (.cons (.var 5) .nil)))))) (.cons (.tup (.cons (.var 1) (.cons (.var 2) (.cons (.con .non) (.cons (.var 4) (.cons (.var 5) .nil)))))) .nil)))))))
    .nil))))))⟩
abbrev H__law_ring_bents (Γ : Prog) (kws : Str → List (List Str)) : Prop := Γ "_law_ring_bents" = some (.code ⟨["ring"], [], [], kws "_law_ring_bents"⟩ c__law_ring_bents)

def c_proof_or_mutant : Fn := ⟨2, 3, [],
    (.cons (.ex (.call "check_kinds" (some 0) (.cons (.var 0) (.cons (.var 1) .nil)) .nil))
    (.cons (.asg (.nm 2) (.call "mutant_by" (some 0) (.cons (.var 0) (.cons (.var 1) .nil)) .nil))
    (.cons (.ret (.ife (.cmp .is_ (.var 2) (.con .non)) (.tup (.cons (.con (.str "proof")) .nil)) (.tup (.cons (.con (.str "mutant")) (.cons (.var 2) .nil)))))
    .nil)))⟩
abbrev H_proof_or_mutant (Γ : Prog) (kws : Str → List (List Str)) : Prop := Γ "proof_or_mutant" = some (.code ⟨["table", "mix"], [], [], kws "proof_or_mutant"⟩ c_proof_or_mutant)

def x__law_near_1 : E := (.comp [4, 5, 6] (.call "_law_plus" none (.cons (.call "_law_times" (some 3) (.cons (.var 3) (.cons (.var 5) .nil)) .nil) (.cons (.call "_law_times" (some 2) (.cons (.var 2) (.cons (.var 6) .nil)) .nil) .nil)) .nil) (.tp [(.nm 5), (.nm 6)]) (.zip (.var 0) (.var 1) false) .no)
def c__law_near : Fn := ⟨3, 7, [],
    (.cons (.asg (.nm 3) (.call "_law_minus" none (.cons (.tup (.cons (.con (.int (1))) (.cons (.con (.int (1))) .nil))) (.cons (.var 2) .nil)) .nil))
    (.cons (.ret x__law_near_1)
    .nil))⟩
abbrev H__law_near (Γ : Prog) (kws : Str → List (List Str)) : Prop := Γ "_law_near" = some (.code ⟨["mix", "other", "share"], [], [], kws "_law_near"⟩ c__law_near)

end PL

/-! PLBase: plain lemmas about the evaluator: stores, comprehensions, loops; fractions as Rat. -/
namespace PL
open PP PySem
theorem put1 (xs : List D) (k : Int) (d : D) : PP.putAt (.lst xs) [k] d = (L2.ixN xs.length k).map fun j => .lst (xs.set j d) := rfl
/-- a slot, where the borrowers of x go -/
def killO (x : Nat) (o : Option Sl) : Option Sl := match o with
  | some s => if s.S.contains x then none else some s
  | none => none
theorem kill_nil (x : Nat) : PP.kill x [] = [] := rfl
theorem kill_cons (x : Nat) (o : Option Sl) (δ : St) : PP.kill x (o :: δ) = killO x o :: PP.kill x δ := rfl
theorem killO_some (x : Nat) (d : D) (k : Kd) (S : List Nat) : killO x (some ⟨d, k, S⟩) = if S.contains x then none else some ⟨d, k, S⟩ := rfl
theorem killO_none (x : Nat) : killO x none = none := rfl
theorem isL1 (xs : List D) : isLst (.lst xs) = true := rfl
theorem isL2 (xs : List D) : isLst (.tup xs) = false := rfl
theorem isL3 (i : Int) : isLst (.int i) = false := rfl
theorem isL4 (b : Bool) : isLst (.bl b) = false := rfl
theorem isL5 (x : Str) : isLst (.str x) = false := rfl
theorem isL6 : isLst .non = false := rfl
abbrev sl (d : D) : Option Sl := some ⟨d, .sh, []⟩
section
variable {C : Calls} {G : Sigs} {P : List Nat} {δ δ1 δ2 : St} {own : List Nat} {elt : E} {t : T} {it : It} {co : Eo}
/-- a turn of a comprehension -/
def turn (C : Calls) (G : Sigs) (own : List Nat) (elt : E) (t : T) (co : Eo) (Si P : List Nat) (d : D) (δ : St) : Option (List Tm × St) := match bindT Si t d δ with
  | some δa => match evC C G P co δa with
    | some (true, δb) => match evE C G P elt δb with
      | some (x, δc) => some ([x], forget own δc)
      | none => none
    | some (false, δb) => some ([], forget own δb)
    | none => none
  | none => none
theorem ev_comp {w : Wk} {ts : List Tm} {tm : Tm} (hd : disj own P = true) (hi : evI C G P it δ = some (w, δ1)) (hl : compLoop (turn C G own elt t co w.Si) (P ++ w.S) w.ds (forget own δ1) = some (ts, δ2)) (hm : mkComp ts = some tm) : evE C G P (.comp own elt t it co) δ = some (tm, δ2) := by
  simp only [evE, hd, hi, Bool.not_true, Bool.false_eq_true, if_false]
  refine (congrArg (fun o : Option (List Tm × St) => match o with
    | some (ts, δ2) => (match mkComp ts with
      | some t => some (t, δ2)
      | none => none)
    | none => none) hl).trans ?_
  simp only [hm]
/-- a walk whose items claim nothing -/
theorem loop_io {α : Type} (k : α → Tm) (p : α → Prop) (R : Nat → St → Prop) {body : List Nat → D → St → Option (List Tm × St)} (hS : ∀ a, (k a).S = []) : ∀ (ds : List D) (i : Nat) (δ : St), R i δ → (∀ j d δ, ds[j]? = some d → R (i + j) δ → ∃ a δ', body P d δ = some ([k a], δ') ∧ p a ∧ R (i + j + 1) δ') →
    ∃ (as : List α) (δ' : St), compLoop body P ds δ = some (as.map k, δ') ∧ as.length = ds.length ∧ (∀ a ∈ as, p a) ∧ R (i + ds.length) δ'
  | [], i, δ, h, _ => ⟨[], δ, rfl, rfl, (fun _ h => nomatch h), h⟩
  | d :: ds, i, δ, h, st => by
    obtain ⟨a, δ1, h1, h2, h3⟩ := st 0 d δ rfl h
    obtain ⟨as, δ2, g1, g2, g3, g4⟩ := loop_io k p R hS ds (i + 1) δ1 h3 fun j d' δ' hj hr => by
      have := st (j + 1) d' δ' hj (by rw [show i + (j + 1) = i + 1 + j by omega]; exact hr)
      rw [show i + (j + 1) + 1 = i + 1 + j + 1 by omega] at this
      exact this
    refine ⟨a :: as, δ2, ?_, by simp [g2], fun b hb => ?_, by rw [List.length_cons, show i + (ds.length + 1) = i + 1 + ds.length by omega]; exact g4⟩
    · have e : P ++ unionS [k a] = P := by simp [unionS, hS]
      simp only [compLoop, h1, e, g1, List.map_cons, List.singleton_append]
    · rcases List.mem_cons.mp hb with rfl | hb
      · exact h2
      · exact g3 b hb
/-- a pure walk, with a test -/
theorem loop_fil {α : Type} (g : α → D) (k : α → Tm) (p : α → Bool) {body : List Nat → D → St → Option (List Tm × St)} (hS : ∀ a, (k a).S = []) : ∀ (xs : List α), (∀ x ∈ xs, body P (g x) δ = some (if p x then [k x] else [], δ)) → compLoop body P (xs.map g) δ = some ((xs.filter p).map k, δ)
  | [], _ => rfl
  | x :: xs, h => by
    have h1 := h x List.mem_cons_self
    have ih := loop_fil g k p hS xs fun y hy => h y (List.mem_cons_of_mem _ hy)
    have e : P ++ unionS (if p x then [k x] else []) = P := by cases p x <;> simp [unionS, hS]
    simp only [List.map_cons, compLoop, h1, e, ih, List.filter_cons]
    cases p x <;> simp
theorem mk_new {ts : List Tm} (hz : ts.length < sizeLine) (hS : ∀ t ∈ ts, t.S = [] ∧ t.un = true) : mkComp ts = some ⟨.lst (ts.map (·.d)), true, true, [], []⟩ := by
  have e : unionS ts = [] := by
    unfold unionS
    exact List.flatMap_eq_nil_iff.mpr fun t ht => (hS t ht).1
  have f : (ts.all fun t => t.un && t.S.isEmpty) = true := by
    rw [List.all_eq_true]
    intro t ht
    simp [(hS t ht).1, (hS t ht).2]
  unfold mkComp
  rw [if_pos hz, e, f]
/-- [elt for t in it]: nothing changes -/
theorem ev_map {α : Type} (xs : List α) (g : α → D) (k : α → D) (fr u : Bool) {S Si : List Nat} (hd : disj own P = true) (hi : evI C G P it δ = some (⟨xs.map g, S, Si⟩, δ)) (hf : forget own δ = δ2)
    (hb : ∀ x ∈ xs, ∃ δb, bindT Si t (g x) δ2 = some δb ∧ evE C G (P ++ S) elt δb = some (⟨k x, fr, u, [], []⟩, δb) ∧ forget own δb = δ2 ∧ (u || noL (k x)) = true) (hz : xs.length < sizeLine) :
    evE C G P (.comp own elt t it .no) δ = some (⟨.lst (xs.map k), true, true, [], []⟩, δ2) := by
  have hl := loop_fil (P := P ++ S) (δ := δ2) (body := turn C G own elt t .no Si) g (fun x => ⟨k x, fr, u, [], []⟩) (fun _ => true) (fun _ => rfl) xs fun x hx => by
    obtain ⟨δb, h1, h2, h3, _⟩ := hb x hx
    simp only [turn, h1, evC, h2, h3]; rfl
  rw [show (xs.filter fun _ => true) = xs from List.filter_eq_self.mpr fun _ _ => rfl] at hl
  have hm := mk_new (ts := xs.map fun x => (⟨k x, fr, u, [], []⟩ : Tm)) (by simpa using hz) fun t ht => by
    obtain ⟨x, hx, rfl⟩ := List.mem_map.mp ht
    obtain ⟨_, _, _, _, h4⟩ := hb x hx
    exact ⟨rfl, h4⟩
  rw [ev_comp hd hi (by rw [hf]; exact hl) hm]
  simp [Function.comp_def]
/-- [elt for t in it if co]: nothing changes -/
theorem ev_fil {α : Type} (xs : List α) (g : α → D) (k : α → D) (p : α → Bool) (fr u : Bool) {S Si : List Nat} {cc : E} (hd : disj own P = true) (hi : evI C G P it δ = some (⟨xs.map g, S, Si⟩, δ)) (hf : forget own δ = δ2)
    (hb : ∀ x ∈ xs, ∃ δa tm, bindT Si t (g x) δ2 = some δa ∧ evE C G (P ++ S) cc δa = some (tm, δa) ∧ truth tm.d = some (p x) ∧ forget own δa = δ2 ∧ (p x = true → evE C G (P ++ S) elt δa = some (⟨k x, fr, u, [], []⟩, δa) ∧ (u || noL (k x)) = true)) (hz : xs.length < sizeLine) :
    evE C G P (.comp own elt t it (.yes cc)) δ = some (⟨.lst ((xs.filter p).map k), true, true, [], []⟩, δ2) := by
  have hl := loop_fil (P := P ++ S) (δ := δ2) (body := turn C G own elt t (.yes cc) Si) g (fun x => ⟨k x, fr, u, [], []⟩) p (fun _ => rfl) xs fun x hx => by
    obtain ⟨δa, tm, h1, h2, h3, h4, h5⟩ := hb x hx
    cases hp : p x with
    | true =>
      obtain ⟨h6, _⟩ := h5 hp
      simp only [turn, h1, evC, h2, h3, hp, h6, h4]; rfl
    | false => simp only [turn, h1, evC, h2, h3, hp, h4]; rfl
  have hm := mk_new (ts := (xs.filter p).map fun x => (⟨k x, fr, u, [], []⟩ : Tm)) (by
    have := List.length_filter_le p xs
    simp only [List.length_map]; omega) fun t ht => by
    obtain ⟨x, hx, rfl⟩ := List.mem_map.mp ht
    obtain ⟨hx1, hx2⟩ := List.mem_filter.mp hx
    obtain ⟨_, _, _, _, _, _, h5⟩ := hb x hx1
    exact ⟨rfl, (h5 hx2).2⟩
  rw [ev_comp hd hi (by rw [hf]; exact hl) hm]
  simp [Function.comp_def]
/-- [elt for t in it], with changes told by R -/
theorem ev_io {α : Type} (k : α → D) (p : α → Prop) (R : Nat → St → Prop) (fr u : Bool) {w : Wk} (hd : disj own P = true) (hi : evI C G P it δ = some (w, δ1)) (h0 : R 0 (forget own δ1))
    (hb : ∀ j d δ, w.ds[j]? = some d → R j δ → ∃ a δb δc, bindT w.Si t d δ = some δb ∧ evE C G (P ++ w.S) elt δb = some (⟨k a, fr, u, [], []⟩, δc) ∧ p a ∧ (u || noL (k a)) = true ∧ R (j + 1) (forget own δc)) (hz : w.ds.length < sizeLine) :
    ∃ (as : List α) (δ2 : St), evE C G P (.comp own elt t it .no) δ = some (⟨.lst (as.map k), true, true, [], []⟩, δ2) ∧ as.length = w.ds.length ∧ (∀ a ∈ as, p a) ∧ R w.ds.length δ2 := by
  obtain ⟨as, δ2, h1, h2, h3, h4⟩ := loop_io (P := P ++ w.S) (body := turn C G own elt t .no w.Si) (fun a : α => (⟨k a, fr, u, [], []⟩ : Tm)) (fun a => p a ∧ (u || noL (k a)) = true) R (fun _ => rfl) w.ds 0 (forget own δ1) h0 fun j d δ hj hr => by
    rw [Nat.zero_add] at hr
    obtain ⟨a, δb, δc, g1, g2, g3, g4, g5⟩ := hb j d δ hj hr
    exact ⟨a, _, by simp only [turn, g1, evC, g2]; rfl, ⟨g3, g4⟩, by rw [Nat.zero_add]; exact g5⟩
  have hm := mk_new (ts := as.map fun a => (⟨k a, fr, u, [], []⟩ : Tm)) (by rw [List.length_map, h2]; exact hz) fun t ht => by
    obtain ⟨x, hx, rfl⟩ := List.mem_map.mp ht
    exact ⟨rfl, (h3 x hx).2⟩
  refine ⟨as, δ2, ?_, h2, fun a ha => (h3 a ha).1, by simpa using h4⟩
  rw [ev_comp hd hi h1 hm]
  simp [Function.comp_def]
end
theorem step {C : Calls} {G : Sigs} {wf : Nat} {P : List Nat} {s : S} {ss : Ss} {δ δ1 : St} (h : evS C G wf P s δ = some (.nx δ1)) : evSs C G wf P (.cons s ss) δ = evSs C G wf P ss δ1 := by
  simp only [evSs, h]
/-- a turn of a for loop -/
def fturn (C : Calls) (G : Sigs) (wf : Nat) (P : List Nat) (t : T) (b : Ss) (Si : List Nat) (d : D) (δ : St) : Option Outc := match bindT Si t d δ with
  | some δa => evSs C G wf P b δa
  | none => none
theorem ev_for {C : Calls} {G : Sigs} {wf : Nat} {P : List Nat} {t : T} {it : It} {b : Ss} {δ δ1 : St} {w : Wk} {o : Outc} (hi : evI C G P it δ = some (w, δ1)) (hf : ioFree δ1 w.S = true) (hl : forLoop (fturn C G wf (P ++ w.S) t b w.Si) w.ds δ1 = some o) : evS C G wf P (.for_ t it b) δ = some o := by
  simp only [evS, hi, hf, if_true]
  exact hl
/-- a loop that always goes on: R what holds behind the first items -/
theorem for_inv {body : D → St → Option Outc} (R : Nat → St → Prop) : ∀ (ds : List D) (k : Nat) (δ : St), R k δ → (∀ i d δ, ds[i]? = some d → R (k + i) δ → ∃ δ', body d δ = some (.nx δ') ∧ R (k + i + 1) δ') → ∃ δ', forLoop body ds δ = some (.nx δ') ∧ R (k + ds.length) δ'
  | [], k, δ, h, _ => ⟨δ, rfl, h⟩
  | d :: ds, k, δ, h, st => by
    obtain ⟨δ1, h1, r1⟩ := st 0 d δ rfl h
    obtain ⟨δ2, h2, r2⟩ := for_inv R ds (k + 1) δ1 r1 fun i d' δ' hi hr => by
      have := st (i + 1) d' δ' hi (by rw [show k + (i + 1) = k + 1 + i by omega]; exact hr)
      rw [show k + (i + 1) + 1 = k + 1 + i + 1 by omega] at this
      exact this
    refine ⟨δ2, by simp only [forLoop, h1]; exact h2, ?_⟩
    rw [List.length_cons, show k + (ds.length + 1) = k + 1 + ds.length by omega]
    exact r2
/-- a loop whose state is told by a fold -/
theorem for_fold {α β : Type} (g : α → D) (st : β → St) (f : β → α → β) {body : D → St → Option Outc} : ∀ (xs : List α) (b : β), (∀ b x, x ∈ xs → body (g x) (st b) = some (.nx (st (f b x)))) → forLoop body (xs.map g) (st b) = some (.nx (st (xs.foldl f b)))
  | [], b, _ => rfl
  | x :: xs, b, h => by
    simp only [List.map_cons, forLoop, h b x List.mem_cons_self, List.foldl_cons]
    exact for_fold g st f xs _ fun b y hy => h b y (List.mem_cons_of_mem _ hy)
/-- a loop whose state is told by a fold, but for what R leaves open -/
theorem for_foldR {α β : Type} (g : α → D) (f : β → α → β) (R : β → St → Prop) {body : D → St → Option Outc} : ∀ (xs : List α) (b : β) (δ : St), R b δ → (∀ b x δ, x ∈ xs → R b δ → ∃ δ', body (g x) δ = some (.nx δ') ∧ R (f b x) δ') → ∃ δ', forLoop body (xs.map g) δ = some (.nx δ') ∧ R (xs.foldl f b) δ'
  | [], b, δ, h, _ => ⟨δ, rfl, h⟩
  | x :: xs, b, δ, h, st => by
    obtain ⟨δ1, h1, r1⟩ := st b x δ List.mem_cons_self h
    obtain ⟨δ2, h2, r2⟩ := for_foldR g f R xs (f b x) δ1 r1 fun b y δ hy => st b y δ (List.mem_cons_of_mem _ hy)
    exact ⟨δ2, by simp only [List.map_cons, forLoop, h1]; exact h2, r2⟩
theorem zip_maps {α β : Type} (g : α → D) (h : β → D) (xs : List α) (ys : List β) : (((xs.map g).zip (ys.map h)).map fun q => PP.D.tup [q.1, q.2]) = (xs.zip ys).map fun p => PP.D.tup [g p.1, h p.2] := by
  rw [List.zip_map, List.map_map]; rfl
/-! ### fractions -/
/-- a fraction in its lowest terms -/
def fr (r : Rat) : D := .tup [.int r.num, .int (r.den : Nat)]
theorem fr_noL (r : Rat) : noL (fr r) = true := rfl
/-- small enough to be reckoned with -/
structure Fits (r : Rat) : Prop where
  n : r.num.natAbs < 2 ^ 4000
  d : r.den < 2 ^ 4000
theorem log_lt {a e : Nat} (h : a < 2 ^ e) (he : 0 < e) : a.log2 < e := by
  by_cases hz : a = 0
  · subst hz; simpa using he
  · exact (Nat.log2_lt hz).mpr h
theorem fr_mk (a : Int) {b : Int} (hb : 0 < b) : PP.D.tup [.int (a / Int.gcd a b), .int (b / Int.gcd a b)] = fr (Rat.divInt a b) := by
  obtain ⟨n, rfl⟩ : ∃ n : Nat, b = n := ⟨b.toNat, by omega⟩
  have hn : n ≠ 0 := by omega
  have e : Rat.divInt a (n : Int) = Rat.normalize a n hn := by
    rw [Rat.divInt_ofNat, Rat.normalize_eq_mkRat]
  rw [e, Rat.normalize_eq]
  unfold fr
  have g : Int.gcd a (n : Int) = a.natAbs.gcd n := rfl
  rw [g]
  simp
theorem fr_div (a : Int) {b : Int} (hb : b ≠ 0) : fr (Rat.divInt a b) = if 0 < b then PP.D.tup [.int (a / Int.gcd a b), .int (b / Int.gcd a b)] else PP.D.tup [.int ((-a) / Int.gcd (-a) (-b)), .int ((-b) / Int.gcd (-a) (-b))] := by
  split
  · rw [fr_mk a (by assumption)]
  · rw [fr_mk (-a) (b := -b) (by omega), Rat.neg_divInt_neg]
theorem add_div (x y : Rat) : x + y = Rat.divInt (x.num * y.den + y.num * x.den) (x.den * y.den) := by
  have h := Rat.divInt_add_divInt x.num y.num (d₁ := x.den) (d₂ := y.den) (by have := x.den_nz; omega) (by have := y.den_nz; omega)
  rw [Rat.num_divInt_den, Rat.num_divInt_den] at h
  exact h
theorem sub_div (x y : Rat) : x - y = Rat.divInt (x.num * y.den - y.num * x.den) (x.den * y.den) := by
  have h := Rat.divInt_sub_divInt x.num y.num (d₁ := x.den) (d₂ := y.den) (by have := x.den_nz; omega) (by have := y.den_nz; omega)
  rw [Rat.num_divInt_den, Rat.num_divInt_den] at h
  exact h
theorem mul_div (x y : Rat) : x * y = Rat.divInt (x.num * y.num) (x.den * y.den) := by
  have h := Rat.divInt_mul_divInt x.num y.num (d₁ := x.den) (d₂ := y.den)
  rw [Rat.num_divInt_den, Rat.num_divInt_den] at h
  exact h
theorem div_div (x y : Rat) : x / y = Rat.divInt (x.num * y.den) (x.den * y.num) := by
  have h := Rat.divInt_mul_divInt x.num y.den (d₁ := x.den) (d₂ := y.num)
  rw [Rat.num_divInt_den] at h
  rw [Rat.div_def, Rat.inv_def, h]
end PL

/-! PLFr: the fractions' functions, of the program and of the laws. -/
namespace PL
open PP PySem
section
variable {Γ : Prog} {kws : Str → List (List Str)}
/-- one loop of Euclid's -/
theorem euclid (test : St → Option (Bool × St)) (body : St → Option Outc)
    (ht : ∀ a b : Nat, test [sl (.int a), sl (.int b)] = some (decide (0 < b), [sl (.int a), sl (.int b)]))
    (hb : ∀ a b : Nat, 0 < b → body [sl (.int a), sl (.int b)] = some (.nx [sl (.int b), sl (.int ((a : Int) % (b : Int)))])) :
    ∀ (wf a b : Nat), b < wf → whileLoop test body wf [sl (.int a), sl (.int b)] = some (.nx [sl (.int (Nat.gcd a b)), sl (.int 0)])
  | 0, a, b, h => by omega
  | wf + 1, a, b, h => by
    simp only [whileLoop, ht]
    by_cases hz : b = 0
    · subst hz
      simp
    · have hp : 0 < b := by omega
      simp only [decide_eq_true hp, hb a b hp]
      have hm : ((a : Int) % (b : Int)) = ((a % b : Nat) : Int) := by simp
      rw [hm]
      have hlt : a % b < b := Nat.mod_lt _ (by omega)
      rw [euclid test body ht hb wf b (a % b) (by omega)]
      have hg : Nat.gcd b (a % b) = Nat.gcd a b := by rw [Nat.gcd_comm b (a % b), ← Nat.gcd_rec, Nat.gcd_comm]
      rw [hg]
theorem v_common_divisor (h0 : H_common_divisor Γ kws) {n wf : Nat} {a b : Int} (h : b.natAbs < wf) : callN Γ wf (n + 1) "common_divisor" [.int a, .int b] = some ⟨.int (Int.gcd a b), false, false, []⟩ := by
  have e1 : ∀ x : Int, (if x < 0 then -x else x) = (x.natAbs : Int) := fun x => by split <;> omega
  rw [callN]
  simp [h0, c_common_divisor, x_common_divisor_1, runFn, evSs, evS, evE, evEs, evKs, evC, evI, evO, rd, entry, truth, scal, cmpD, opN, opSub, opF, opFs, opB, slOf, mkTup, mkLst, Tm.un, noL, noLs, apartS, disj, ioFree, PP.finish, iosOf, iosS, Kd.cl, Kd.dp, PL.kill_nil, PL.kill_cons, PL.killO_some, PL.killO_none, putIo, fstLst, PL.isL1, PL.isL2, PL.isL3, PL.isL4, PL.isL5, PL.isL6, intsT, PL.put1, grown, doCall, Prog.sigs, Df.sig, bindP, callRet, unionS, retTm, bindT, bindTs, seqOf, PP.listOf, forget, setAll, tyIs, tyOk, rngOf, siOf, e1]
  rw [euclid _ _ (fun a b => by simp [runFn, evSs, evS, evE, evEs, evKs, evC, evI, evO, rd, entry, truth, scal, cmpD, opN, opSub, opF, opFs, opB, slOf, mkTup, mkLst, Tm.un, noL, noLs, apartS, disj, ioFree, PP.finish, iosOf, iosS, Kd.cl, Kd.dp, PL.kill_nil, PL.kill_cons, PL.killO_some, PL.killO_none, putIo, fstLst, PL.isL1, PL.isL2, PL.isL3, PL.isL4, PL.isL5, PL.isL6, intsT, PL.put1, grown, doCall, Prog.sigs, Df.sig, bindP, callRet, unionS, retTm, bindT, bindTs, seqOf, PP.listOf, forget, setAll, tyIs, tyOk, rngOf, siOf]) (fun a b hp => by
    have hp' : (0 : Int) < (b : Int) := by omega
    simp [runFn, evSs, evS, evE, evEs, evKs, evC, evI, evO, rd, entry, truth, scal, cmpD, opN, opSub, opF, opFs, opB, slOf, mkTup, mkLst, Tm.un, noL, noLs, apartS, disj, ioFree, PP.finish, iosOf, iosS, Kd.cl, Kd.dp, PL.kill_nil, PL.kill_cons, PL.killO_some, PL.killO_none, putIo, fstLst, PL.isL1, PL.isL2, PL.isL3, PL.isL4, PL.isL5, PL.isL6, intsT, PL.put1, grown, doCall, Prog.sigs, Df.sig, bindP, callRet, unionS, retTm, bindT, bindTs, seqOf, PP.listOf, forget, setAll, tyIs, tyOk, rngOf, siOf, hp, hp']) wf _ _ h]
  simp [runFn, evSs, evS, evE, evEs, evKs, evC, evI, evO, rd, entry, truth, scal, cmpD, opN, opSub, opF, opFs, opB, slOf, mkTup, mkLst, Tm.un, noL, noLs, apartS, disj, ioFree, PP.finish, iosOf, iosS, Kd.cl, Kd.dp, PL.kill_nil, PL.kill_cons, PL.killO_some, PL.killO_none, putIo, fstLst, PL.isL1, PL.isL2, PL.isL3, PL.isL4, PL.isL5, PL.isL6, intsT, PL.put1, grown, doCall, Prog.sigs, Df.sig, bindP, callRet, unionS, retTm, bindT, bindTs, seqOf, PP.listOf, forget, setAll, tyIs, tyOk, rngOf, siOf, Int.gcd]
theorem v__law_divisor (h0 : H__law_divisor Γ kws) {n wf : Nat} {a b : Nat} (h : b < wf) : callN Γ wf (n + 1) "_law_divisor" [.int a, .int b] = some ⟨.int (Nat.gcd a b), false, false, []⟩ := by
  have s1 : ∀ x : Int, PP.plain (.int x) = true := fun x => by simp [PP.plain, isPy, dep]
  rw [callN]
  simp [h0, c__law_divisor, x__law_divisor_1, runFn, evSs, evS, evE, evEs, evKs, evC, evI, evO, rd, entry, truth, scal, cmpD, opN, opSub, opF, opFs, opB, slOf, mkTup, mkLst, Tm.un, noL, noLs, apartS, disj, ioFree, PP.finish, iosOf, iosS, Kd.cl, Kd.dp, PL.kill_nil, PL.kill_cons, PL.killO_some, PL.killO_none, putIo, fstLst, PL.isL1, PL.isL2, PL.isL3, PL.isL4, PL.isL5, PL.isL6, intsT, PL.put1, grown, doCall, Prog.sigs, Df.sig, bindP, callRet, unionS, retTm, bindT, bindTs, seqOf, PP.listOf, forget, setAll, tyIs, tyOk, rngOf, siOf]
  rw [euclid _ _ (fun a b => by
    have hz : (decide (0 < b)) = !(decide (b = 0)) := by by_cases h : b = 0 <;> simp [h] <;> omega
    have hq : ((b : Int) == 0) = decide (b = 0) := by by_cases h : b = 0 <;> simp [h]
    simp [runFn, evSs, evS, evE, evEs, evKs, evC, evI, evO, rd, entry, truth, scal, cmpD, opN, opSub, opF, opFs, opB, slOf, mkTup, mkLst, Tm.un, noL, noLs, apartS, disj, ioFree, PP.finish, iosOf, iosS, Kd.cl, Kd.dp, PL.kill_nil, PL.kill_cons, PL.killO_some, PL.killO_none, putIo, fstLst, PL.isL1, PL.isL2, PL.isL3, PL.isL4, PL.isL5, PL.isL6, intsT, PL.put1, grown, doCall, Prog.sigs, Df.sig, bindP, callRet, unionS, retTm, bindT, bindTs, seqOf, PP.listOf, forget, setAll, tyIs, tyOk, rngOf, siOf, s1, eqv, hz, hq]) (fun a b hp => by
    have hp' : (0 : Int) < (b : Int) := by omega
    simp [runFn, evSs, evS, evE, evEs, evKs, evC, evI, evO, rd, entry, truth, scal, cmpD, opN, opSub, opF, opFs, opB, slOf, mkTup, mkLst, Tm.un, noL, noLs, apartS, disj, ioFree, PP.finish, iosOf, iosS, Kd.cl, Kd.dp, PL.kill_nil, PL.kill_cons, PL.killO_some, PL.killO_none, putIo, fstLst, PL.isL1, PL.isL2, PL.isL3, PL.isL4, PL.isL5, PL.isL6, intsT, PL.put1, grown, doCall, Prog.sigs, Df.sig, bindP, callRet, unionS, retTm, bindT, bindTs, seqOf, PP.listOf, forget, setAll, tyIs, tyOk, rngOf, siOf, hp, hp']) wf _ _ h]
  simp [runFn, evSs, evS, evE, evEs, evKs, evC, evI, evO, rd, entry, truth, scal, cmpD, opN, opSub, opF, opFs, opB, slOf, mkTup, mkLst, Tm.un, noL, noLs, apartS, disj, ioFree, PP.finish, iosOf, iosS, Kd.cl, Kd.dp, PL.kill_nil, PL.kill_cons, PL.killO_some, PL.killO_none, putIo, fstLst, PL.isL1, PL.isL2, PL.isL3, PL.isL4, PL.isL5, PL.isL6, intsT, PL.put1, grown, doCall, Prog.sigs, Df.sig, bindP, callRet, unionS, retTm, bindT, bindTs, seqOf, PP.listOf, forget, setAll, tyIs, tyOk, rngOf, siOf, Int.gcd]
theorem gcd_log {a b : Int} (hb : b ≠ 0) (h : b.natAbs < 2 ^ 8000) : (0 : Int) < (Int.gcd a b : Int) ∧ ((Int.gcd a b : Int)).natAbs.log2 < 9000 := by
  have h0 : 0 < Int.gcd a b := Int.gcd_pos_of_ne_zero_right _ hb
  refine ⟨by omega, ?_⟩
  have hle : Int.gcd a b ≤ b.natAbs := Nat.le_of_dvd (by omega) (Int.gcd_dvd_natAbs_right a b)
  have h2 : (Int.gcd a b) < 2 ^ 8000 := by omega
  have := log_lt h2 (by decide)
  simp only [Int.natAbs_natCast]
  omega
theorem fr_gen {d : D} (r : Rat) (h : d = fr r) : noL d = true := by rw [h]; rfl
theorem v_lowest (h0 : H_lowest Γ kws) (h1 : H_common_divisor Γ kws) {n wf : Nat} {a b : Int} (hb : b ≠ 0) (hl : b.natAbs < 2 ^ 8000) (h : b.natAbs < wf) : callN Γ wf (n + 2) "lowest" [.int a, .int b] = some ⟨fr (Rat.divInt a b), false, true, []⟩ := by
  rw [fr_div a hb]
  have s2 : 2 ≤ sizeLine := by decide
  by_cases hp : 0 < b
  · rw [if_pos hp]
    obtain ⟨g1, g2⟩ := gcd_log (a := a) hb hl
    have hn : ¬ b < 0 := by omega
    have hc := v_common_divisor h1 (n := n) (a := a) h
    generalize (Int.gcd a b : Int) = gg at hc g1 g2 ⊢
    rw [callN]
    simp [h0, c_lowest, runFn, evSs, evS, evE, evEs, evKs, evC, evI, evO, rd, entry, truth, scal, cmpD, opN, opSub, opF, opFs, opB, slOf, mkTup, mkLst, Tm.un, noL, noLs, apartS, disj, ioFree, PP.finish, iosOf, iosS, Kd.cl, Kd.dp, PL.kill_nil, PL.kill_cons, PL.killO_some, PL.killO_none, putIo, fstLst, PL.isL1, PL.isL2, PL.isL3, PL.isL4, PL.isL5, PL.isL6, intsT, PL.put1, grown, doCall, Prog.sigs, Df.sig, bindP, callRet, unionS, retTm, bindT, bindTs, seqOf, PP.listOf, forget, setAll, tyIs, tyOk, rngOf, siOf, hn, h1, hc, g1, g2, s2]
  · rw [if_neg hp]
    have hn : b < 0 := by omega
    have hl' : (-b).natAbs < 2 ^ 8000 := by rw [Int.natAbs_neg]; exact hl
    obtain ⟨g1, g2⟩ := gcd_log (a := -a) (b := -b) (by omega) hl'
    have hc := v_common_divisor h1 (n := n) (a := -a) (b := -b) (wf := wf) (by rw [Int.natAbs_neg]; exact h)
    generalize (Int.gcd (-a) (-b) : Int) = gg at hc g1 g2 ⊢
    rw [callN]
    simp [h0, c_lowest, runFn, evSs, evS, evE, evEs, evKs, evC, evI, evO, rd, entry, truth, scal, cmpD, opN, opSub, opF, opFs, opB, slOf, mkTup, mkLst, Tm.un, noL, noLs, apartS, disj, ioFree, PP.finish, iosOf, iosS, Kd.cl, Kd.dp, PL.kill_nil, PL.kill_cons, PL.killO_some, PL.killO_none, putIo, fstLst, PL.isL1, PL.isL2, PL.isL3, PL.isL4, PL.isL5, PL.isL6, intsT, PL.put1, grown, doCall, Prog.sigs, Df.sig, bindP, callRet, unionS, retTm, bindT, bindTs, seqOf, PP.listOf, forget, setAll, tyIs, tyOk, rngOf, siOf, hn, h1, hc, g1, g2, s2]
theorem v__law_by (h0 : H__law_by Γ kws) (h1 : H__law_divisor Γ kws) {n wf : Nat} {a b : Int} (hb : b ≠ 0) (hl : b.natAbs < 2 ^ 8000) (h : b.natAbs < wf) : callN Γ wf (n + 2) "_law_by" [.int a, .int b] = some ⟨fr (Rat.divInt a b), false, true, []⟩ := by
  rw [fr_div a hb]
  obtain ⟨g1, g2⟩ := gcd_log (a := a) hb hl
  have s2 : 2 ≤ sizeLine := by decide
  have hc := v__law_divisor h1 (n := n) (a := a.natAbs) h
  have e1 : ∀ x : Int, (if x < 0 then -x else x) = (x.natAbs : Int) := fun x => by split <;> omega
  have e2 : (Nat.gcd a.natAbs b.natAbs : Int) = (Int.gcd a b : Int) := rfl
  rw [e2] at hc
  have e3 : (Int.gcd (-a) (-b) : Int) = Int.gcd a b := by simp [Int.gcd]
  rw [e3]
  have d1 : ((Int.gcd a b : Int)) ∣ a := Int.gcd_dvd_left a b
  have d2 : ((Int.gcd a b : Int)) ∣ b := Int.gcd_dvd_right a b
  generalize (Int.gcd a b : Int) = gg at hc g1 g2 d1 d2 ⊢
  have q1 : (-a) / gg = 0 - a / gg := by rw [Int.neg_ediv_of_dvd d1]; omega
  have q2 : (-b) / gg = 0 - b / gg := by rw [Int.neg_ediv_of_dvd d2]; omega
  rw [callN, q1, q2]
  by_cases hp : 0 < b
  · simp [h0, c__law_by, runFn, evSs, evS, evE, evEs, evKs, evC, evI, evO, rd, entry, truth, scal, cmpD, opN, opSub, opF, opFs, opB, slOf, mkTup, mkLst, Tm.un, noL, noLs, apartS, disj, ioFree, PP.finish, iosOf, iosS, Kd.cl, Kd.dp, PL.kill_nil, PL.kill_cons, PL.killO_some, PL.killO_none, putIo, fstLst, PL.isL1, PL.isL2, PL.isL3, PL.isL4, PL.isL5, PL.isL6, intsT, PL.put1, grown, doCall, Prog.sigs, Df.sig, bindP, callRet, unionS, retTm, bindT, bindTs, seqOf, PP.listOf, forget, setAll, tyIs, tyOk, rngOf, siOf, hp, h1, hc, e1, g1, g2, s2]
  · simp [h0, c__law_by, runFn, evSs, evS, evE, evEs, evKs, evC, evI, evO, rd, entry, truth, scal, cmpD, opN, opSub, opF, opFs, opB, slOf, mkTup, mkLst, Tm.un, noL, noLs, apartS, disj, ioFree, PP.finish, iosOf, iosS, Kd.cl, Kd.dp, PL.kill_nil, PL.kill_cons, PL.killO_some, PL.killO_none, putIo, fstLst, PL.isL1, PL.isL2, PL.isL3, PL.isL4, PL.isL5, PL.isL6, intsT, PL.put1, grown, doCall, Prog.sigs, Df.sig, bindP, callRet, unionS, retTm, bindT, bindTs, seqOf, PP.listOf, forget, setAll, tyIs, tyOk, rngOf, siOf, hp, h1, hc, e1, g1, g2, s2]
theorem fits_log {r : Rat} (h : Fits r) : r.num.natAbs.log2 < 4000 ∧ ((r.den : Int)).natAbs.log2 < 4000 ∧ (r.den : Int) ≠ 0 := by
  refine ⟨log_lt h.n (by decide), ?_, ?_⟩
  · rw [Int.natAbs_natCast]; exact log_lt h.d (by decide)
  · have := r.den_nz; omega
theorem mul_lt {a b : Int} (h1 : a.natAbs < 2 ^ 4000) (h2 : b.natAbs < 2 ^ 4000) : (a * b).natAbs < 2 ^ 8000 := by
  rw [Int.natAbs_mul, show (2 : Nat) ^ 8000 = 2 ^ 4000 * 2 ^ 4000 by rw [← Nat.pow_add]]
  exact Nat.mul_lt_mul'' h1 h2
theorem den_lt {r : Rat} (h : Fits r) : ((r.den : Int)).natAbs < 2 ^ 4000 := by rw [Int.natAbs_natCast]; exact h.d
theorem v_plus (h0 : H_plus Γ kws) (h1 : H_lowest Γ kws) (h2 : H_common_divisor Γ kws) {n wf : Nat} {x y : Rat} (hx : Fits x) (hy : Fits y) (hw : 2 ^ 8000 ≤ wf) : callN Γ wf (n + 3) "plus" [fr x, fr y] = some ⟨fr (x + y), false, true, []⟩ := by
  obtain ⟨x1, x2, x3⟩ := fits_log hx
  obtain ⟨y1, y2, y3⟩ := fits_log hy
  have hm := mul_lt (den_lt hx) (den_lt hy)
  have hc := v_lowest h1 h2 (n := n) (wf := wf) (a := x.num * y.den + y.num * x.den) (b := x.den * y.den) (Int.mul_ne_zero x3 y3) hm (by omega)
  rw [← add_div] at hc
  have hn := fr_noL (x + y)
  generalize fr (x + y) = r at hc hn ⊢
  have l1 : x.num.natAbs.log2 + ((y.den : Int)).natAbs.log2 < 1000000 := by omega
  have l2 : y.num.natAbs.log2 + ((x.den : Int)).natAbs.log2 < 1000000 := by omega
  have l3 : ((x.den : Int)).natAbs.log2 + ((y.den : Int)).natAbs.log2 < 1000000 := by omega
  unfold fr
  generalize x.num = a at *
  generalize (x.den : Int) = b at *
  generalize y.num = c at *
  generalize (y.den : Int) = d at *
  have at2 : ∀ (a b : D), L2.atI [a, b] 0 = some a ∧ L2.atI [a, b] 1 = some b := fun _ _ => ⟨rfl, rfl⟩
  rw [callN]
  simp [h0, c_plus, runFn, evSs, evS, evE, evEs, evKs, evC, evI, evO, rd, entry, truth, scal, cmpD, opN, opSub, opF, opFs, opB, slOf, mkTup, mkLst, Tm.un, noL, noLs, apartS, disj, ioFree, PP.finish, iosOf, iosS, Kd.cl, Kd.dp, PL.kill_nil, PL.kill_cons, PL.killO_some, PL.killO_none, putIo, fstLst, PL.isL1, PL.isL2, PL.isL3, PL.isL4, PL.isL5, PL.isL6, intsT, PL.put1, grown, doCall, Prog.sigs, Df.sig, bindP, callRet, unionS, retTm, bindT, bindTs, seqOf, PP.listOf, forget, setAll, tyIs, tyOk, rngOf, siOf, at2, l1, l2, l3, h1, hc, hn]
theorem v_less (h0 : H_less Γ kws) (h1 : H_lowest Γ kws) (h2 : H_common_divisor Γ kws) {n wf : Nat} {x y : Rat} (hx : Fits x) (hy : Fits y) (hw : 2 ^ 8000 ≤ wf) : callN Γ wf (n + 3) "less" [fr x, fr y] = some ⟨fr (x - y), false, true, []⟩ := by
  obtain ⟨x1, x2, x3⟩ := fits_log hx
  obtain ⟨y1, y2, y3⟩ := fits_log hy
  have hm := mul_lt (den_lt hx) (den_lt hy)
  have hc := v_lowest h1 h2 (n := n) (wf := wf) (a := x.num * y.den - y.num * x.den) (b := x.den * y.den) (Int.mul_ne_zero x3 y3) hm (by omega)
  rw [← sub_div] at hc
  have hn := fr_noL (x - y)
  generalize fr (x - y) = r at hc hn ⊢
  have l1 : x.num.natAbs.log2 + ((y.den : Int)).natAbs.log2 < 1000000 := by omega
  have l2 : y.num.natAbs.log2 + ((x.den : Int)).natAbs.log2 < 1000000 := by omega
  have l3 : ((x.den : Int)).natAbs.log2 + ((y.den : Int)).natAbs.log2 < 1000000 := by omega
  unfold fr
  generalize x.num = a at *
  generalize (x.den : Int) = b at *
  generalize y.num = c at *
  generalize (y.den : Int) = d at *
  have at2 : ∀ (a b : D), L2.atI [a, b] 0 = some a ∧ L2.atI [a, b] 1 = some b := fun _ _ => ⟨rfl, rfl⟩
  rw [callN]
  simp [h0, c_less, runFn, evSs, evS, evE, evEs, evKs, evC, evI, evO, rd, entry, truth, scal, cmpD, opN, opSub, opF, opFs, opB, slOf, mkTup, mkLst, Tm.un, noL, noLs, apartS, disj, ioFree, PP.finish, iosOf, iosS, Kd.cl, Kd.dp, PL.kill_nil, PL.kill_cons, PL.killO_some, PL.killO_none, putIo, fstLst, PL.isL1, PL.isL2, PL.isL3, PL.isL4, PL.isL5, PL.isL6, intsT, PL.put1, grown, doCall, Prog.sigs, Df.sig, bindP, callRet, unionS, retTm, bindT, bindTs, seqOf, PP.listOf, forget, setAll, tyIs, tyOk, rngOf, siOf, at2, l1, l2, l3, h1, hc, hn]
theorem v_times (h0 : H_times Γ kws) (h1 : H_lowest Γ kws) (h2 : H_common_divisor Γ kws) {n wf : Nat} {x y : Rat} (hx : Fits x) (hy : Fits y) (hw : 2 ^ 8000 ≤ wf) : callN Γ wf (n + 3) "times" [fr x, fr y] = some ⟨fr (x * y), false, true, []⟩ := by
  obtain ⟨x1, x2, x3⟩ := fits_log hx
  obtain ⟨y1, y2, y3⟩ := fits_log hy
  have hm := mul_lt (den_lt hx) (den_lt hy)
  have hc := v_lowest h1 h2 (n := n) (wf := wf) (a := x.num * y.num) (b := x.den * y.den) (Int.mul_ne_zero x3 y3) hm (by omega)
  rw [← mul_div] at hc
  have hn := fr_noL (x * y)
  generalize fr (x * y) = r at hc hn ⊢
  have l1 : x.num.natAbs.log2 + y.num.natAbs.log2 < 1000000 := by omega
  have l2 : ((x.den : Int)).natAbs.log2 + ((y.den : Int)).natAbs.log2 < 1000000 := by omega
  unfold fr
  generalize x.num = a at *
  generalize (x.den : Int) = b at *
  generalize y.num = c at *
  generalize (y.den : Int) = d at *
  have at2 : ∀ (a b : D), L2.atI [a, b] 0 = some a ∧ L2.atI [a, b] 1 = some b := fun _ _ => ⟨rfl, rfl⟩
  rw [callN]
  simp [h0, c_times, runFn, evSs, evS, evE, evEs, evKs, evC, evI, evO, rd, entry, truth, scal, cmpD, opN, opSub, opF, opFs, opB, slOf, mkTup, mkLst, Tm.un, noL, noLs, apartS, disj, ioFree, PP.finish, iosOf, iosS, Kd.cl, Kd.dp, PL.kill_nil, PL.kill_cons, PL.killO_some, PL.killO_none, putIo, fstLst, PL.isL1, PL.isL2, PL.isL3, PL.isL4, PL.isL5, PL.isL6, intsT, PL.put1, grown, doCall, Prog.sigs, Df.sig, bindP, callRet, unionS, retTm, bindT, bindTs, seqOf, PP.listOf, forget, setAll, tyIs, tyOk, rngOf, siOf, at2, l1, l2, h1, hc, hn]
theorem v_over (h0 : H_over Γ kws) (h1 : H_lowest Γ kws) (h2 : H_common_divisor Γ kws) {n wf : Nat} {x y : Rat} (hx : Fits x) (hy : Fits y) (h0y : y ≠ 0) (hw : 2 ^ 8000 ≤ wf) : callN Γ wf (n + 3) "over" [fr x, fr y] = some ⟨fr (x / y), false, true, []⟩ := by
  obtain ⟨x1, x2, x3⟩ := fits_log hx
  obtain ⟨y1, y2, y3⟩ := fits_log hy
  have ny : y.num ≠ 0 := fun z => h0y (Rat.num_eq_zero.mp z)
  have hm := mul_lt (den_lt hx) hy.n
  have hc := v_lowest h1 h2 (n := n) (wf := wf) (a := x.num * y.den) (b := x.den * y.num) (Int.mul_ne_zero x3 ny) hm (by omega)
  rw [← div_div] at hc
  have hn := fr_noL (x / y)
  generalize fr (x / y) = r at hc hn ⊢
  have l1 : x.num.natAbs.log2 + ((y.den : Int)).natAbs.log2 < 1000000 := by omega
  have l2 : ((x.den : Int)).natAbs.log2 + y.num.natAbs.log2 < 1000000 := by omega
  unfold fr
  generalize x.num = a at *
  generalize (x.den : Int) = b at *
  generalize y.num = c at *
  generalize (y.den : Int) = d at *
  have at2 : ∀ (a b : D), L2.atI [a, b] 0 = some a ∧ L2.atI [a, b] 1 = some b := fun _ _ => ⟨rfl, rfl⟩
  rw [callN]
  simp [h0, c_over, runFn, evSs, evS, evE, evEs, evKs, evC, evI, evO, rd, entry, truth, scal, cmpD, opN, opSub, opF, opFs, opB, slOf, mkTup, mkLst, Tm.un, noL, noLs, apartS, disj, ioFree, PP.finish, iosOf, iosS, Kd.cl, Kd.dp, PL.kill_nil, PL.kill_cons, PL.killO_some, PL.killO_none, putIo, fstLst, PL.isL1, PL.isL2, PL.isL3, PL.isL4, PL.isL5, PL.isL6, intsT, PL.put1, grown, doCall, Prog.sigs, Df.sig, bindP, callRet, unionS, retTm, bindT, bindTs, seqOf, PP.listOf, forget, setAll, tyIs, tyOk, rngOf, siOf, at2, l1, l2, h1, hc, hn]
theorem v__law_plus (h0 : H__law_plus Γ kws) (h1 : H__law_by Γ kws) (h2 : H__law_divisor Γ kws) {n wf : Nat} {x y : Rat} (hx : Fits x) (hy : Fits y) (hw : 2 ^ 8000 ≤ wf) : callN Γ wf (n + 3) "_law_plus" [fr x, fr y] = some ⟨fr (x + y), false, true, []⟩ := by
  obtain ⟨x1, x2, x3⟩ := fits_log hx
  obtain ⟨y1, y2, y3⟩ := fits_log hy
  have hm := mul_lt (den_lt hx) (den_lt hy)
  have hc := v__law_by h1 h2 (n := n) (wf := wf) (a := x.num * y.den + y.num * x.den) (b := x.den * y.den) (Int.mul_ne_zero x3 y3) hm (by omega)
  rw [← add_div] at hc
  have hn := fr_noL (x + y)
  generalize fr (x + y) = r at hc hn ⊢
  have l1 : x.num.natAbs.log2 + ((y.den : Int)).natAbs.log2 < 1000000 := by omega
  have l2 : y.num.natAbs.log2 + ((x.den : Int)).natAbs.log2 < 1000000 := by omega
  have l3 : ((x.den : Int)).natAbs.log2 + ((y.den : Int)).natAbs.log2 < 1000000 := by omega
  unfold fr
  generalize x.num = a at *
  generalize (x.den : Int) = b at *
  generalize y.num = c at *
  generalize (y.den : Int) = d at *
  have at2 : ∀ (a b : D), L2.atI [a, b] 0 = some a ∧ L2.atI [a, b] 1 = some b := fun _ _ => ⟨rfl, rfl⟩
  rw [callN]
  simp [h0, c__law_plus, runFn, evSs, evS, evE, evEs, evKs, evC, evI, evO, rd, entry, truth, scal, cmpD, opN, opSub, opF, opFs, opB, slOf, mkTup, mkLst, Tm.un, noL, noLs, apartS, disj, ioFree, PP.finish, iosOf, iosS, Kd.cl, Kd.dp, PL.kill_nil, PL.kill_cons, PL.killO_some, PL.killO_none, putIo, fstLst, PL.isL1, PL.isL2, PL.isL3, PL.isL4, PL.isL5, PL.isL6, intsT, PL.put1, grown, doCall, Prog.sigs, Df.sig, bindP, callRet, unionS, retTm, bindT, bindTs, seqOf, PP.listOf, forget, setAll, tyIs, tyOk, rngOf, siOf, at2, l1, l2, l3, h1, hc, hn]
theorem v__law_minus (h0 : H__law_minus Γ kws) (h1 : H__law_by Γ kws) (h2 : H__law_divisor Γ kws) {n wf : Nat} {x y : Rat} (hx : Fits x) (hy : Fits y) (hw : 2 ^ 8000 ≤ wf) : callN Γ wf (n + 3) "_law_minus" [fr x, fr y] = some ⟨fr (x - y), false, true, []⟩ := by
  obtain ⟨x1, x2, x3⟩ := fits_log hx
  obtain ⟨y1, y2, y3⟩ := fits_log hy
  have hm := mul_lt (den_lt hx) (den_lt hy)
  have hc := v__law_by h1 h2 (n := n) (wf := wf) (a := x.num * y.den - y.num * x.den) (b := x.den * y.den) (Int.mul_ne_zero x3 y3) hm (by omega)
  rw [← sub_div] at hc
  have hn := fr_noL (x - y)
  generalize fr (x - y) = r at hc hn ⊢
  have l1 : x.num.natAbs.log2 + ((y.den : Int)).natAbs.log2 < 1000000 := by omega
  have l2 : y.num.natAbs.log2 + ((x.den : Int)).natAbs.log2 < 1000000 := by omega
  have l3 : ((x.den : Int)).natAbs.log2 + ((y.den : Int)).natAbs.log2 < 1000000 := by omega
  unfold fr
  generalize x.num = a at *
  generalize (x.den : Int) = b at *
  generalize y.num = c at *
  generalize (y.den : Int) = d at *
  have at2 : ∀ (a b : D), L2.atI [a, b] 0 = some a ∧ L2.atI [a, b] 1 = some b := fun _ _ => ⟨rfl, rfl⟩
  rw [callN]
  simp [h0, c__law_minus, runFn, evSs, evS, evE, evEs, evKs, evC, evI, evO, rd, entry, truth, scal, cmpD, opN, opSub, opF, opFs, opB, slOf, mkTup, mkLst, Tm.un, noL, noLs, apartS, disj, ioFree, PP.finish, iosOf, iosS, Kd.cl, Kd.dp, PL.kill_nil, PL.kill_cons, PL.killO_some, PL.killO_none, putIo, fstLst, PL.isL1, PL.isL2, PL.isL3, PL.isL4, PL.isL5, PL.isL6, intsT, PL.put1, grown, doCall, Prog.sigs, Df.sig, bindP, callRet, unionS, retTm, bindT, bindTs, seqOf, PP.listOf, forget, setAll, tyIs, tyOk, rngOf, siOf, at2, l1, l2, l3, h1, hc, hn]
theorem v__law_times (h0 : H__law_times Γ kws) (h1 : H__law_by Γ kws) (h2 : H__law_divisor Γ kws) {n wf : Nat} {x y : Rat} (hx : Fits x) (hy : Fits y) (hw : 2 ^ 8000 ≤ wf) : callN Γ wf (n + 3) "_law_times" [fr x, fr y] = some ⟨fr (x * y), false, true, []⟩ := by
  obtain ⟨x1, x2, x3⟩ := fits_log hx
  obtain ⟨y1, y2, y3⟩ := fits_log hy
  have hm := mul_lt (den_lt hx) (den_lt hy)
  have hc := v__law_by h1 h2 (n := n) (wf := wf) (a := x.num * y.num) (b := x.den * y.den) (Int.mul_ne_zero x3 y3) hm (by omega)
  rw [← mul_div] at hc
  have hn := fr_noL (x * y)
  generalize fr (x * y) = r at hc hn ⊢
  have l1 : x.num.natAbs.log2 + y.num.natAbs.log2 < 1000000 := by omega
  have l2 : ((x.den : Int)).natAbs.log2 + ((y.den : Int)).natAbs.log2 < 1000000 := by omega
  unfold fr
  generalize x.num = a at *
  generalize (x.den : Int) = b at *
  generalize y.num = c at *
  generalize (y.den : Int) = d at *
  have at2 : ∀ (a b : D), L2.atI [a, b] 0 = some a ∧ L2.atI [a, b] 1 = some b := fun _ _ => ⟨rfl, rfl⟩
  rw [callN]
  simp [h0, c__law_times, runFn, evSs, evS, evE, evEs, evKs, evC, evI, evO, rd, entry, truth, scal, cmpD, opN, opSub, opF, opFs, opB, slOf, mkTup, mkLst, Tm.un, noL, noLs, apartS, disj, ioFree, PP.finish, iosOf, iosS, Kd.cl, Kd.dp, PL.kill_nil, PL.kill_cons, PL.killO_some, PL.killO_none, putIo, fstLst, PL.isL1, PL.isL2, PL.isL3, PL.isL4, PL.isL5, PL.isL6, intsT, PL.put1, grown, doCall, Prog.sigs, Df.sig, bindP, callRet, unionS, retTm, bindT, bindTs, seqOf, PP.listOf, forget, setAll, tyIs, tyOk, rngOf, siOf, at2, l1, l2, h1, hc, hn]
theorem v__law_over (h0 : H__law_over Γ kws) (h1 : H__law_by Γ kws) (h2 : H__law_divisor Γ kws) {n wf : Nat} {x y : Rat} (hx : Fits x) (hy : Fits y) (h0y : y ≠ 0) (hw : 2 ^ 8000 ≤ wf) : callN Γ wf (n + 3) "_law_over" [fr x, fr y] = some ⟨fr (x / y), false, true, []⟩ := by
  obtain ⟨x1, x2, x3⟩ := fits_log hx
  obtain ⟨y1, y2, y3⟩ := fits_log hy
  have ny : y.num ≠ 0 := fun z => h0y (Rat.num_eq_zero.mp z)
  have hm := mul_lt (den_lt hx) hy.n
  have hc := v__law_by h1 h2 (n := n) (wf := wf) (a := x.num * y.den) (b := x.den * y.num) (Int.mul_ne_zero x3 ny) hm (by omega)
  rw [← div_div] at hc
  have hn := fr_noL (x / y)
  generalize fr (x / y) = r at hc hn ⊢
  have l1 : x.num.natAbs.log2 + ((y.den : Int)).natAbs.log2 < 1000000 := by omega
  have l2 : ((x.den : Int)).natAbs.log2 + y.num.natAbs.log2 < 1000000 := by omega
  unfold fr
  generalize x.num = a at *
  generalize (x.den : Int) = b at *
  generalize y.num = c at *
  generalize (y.den : Int) = d at *
  have at2 : ∀ (a b : D), L2.atI [a, b] 0 = some a ∧ L2.atI [a, b] 1 = some b := fun _ _ => ⟨rfl, rfl⟩
  rw [callN]
  simp [h0, c__law_over, runFn, evSs, evS, evE, evEs, evKs, evC, evI, evO, rd, entry, truth, scal, cmpD, opN, opSub, opF, opFs, opB, slOf, mkTup, mkLst, Tm.un, noL, noLs, apartS, disj, ioFree, PP.finish, iosOf, iosS, Kd.cl, Kd.dp, PL.kill_nil, PL.kill_cons, PL.killO_some, PL.killO_none, putIo, fstLst, PL.isL1, PL.isL2, PL.isL3, PL.isL4, PL.isL5, PL.isL6, intsT, PL.put1, grown, doCall, Prog.sigs, Df.sig, bindP, callRet, unionS, retTm, bindT, bindTs, seqOf, PP.listOf, forget, setAll, tyIs, tyOk, rngOf, siOf, at2, l1, l2, h1, hc, hn]
theorem v_is_less (h0 : H_is_less Γ kws) {n wf : Nat} {x y : Rat} (hx : Fits x) (hy : Fits y) : callN Γ wf (n + 1) "is_less" [fr x, fr y] = some ⟨.bl (decide (x < y)), false, false, []⟩ := by
  obtain ⟨x1, x2, x3⟩ := fits_log hx
  obtain ⟨y1, y2, y3⟩ := fits_log hy
  have l1 : x.num.natAbs.log2 + ((y.den : Int)).natAbs.log2 < 1000000 := by omega
  have l2 : y.num.natAbs.log2 + ((x.den : Int)).natAbs.log2 < 1000000 := by omega
  have e : decide (x < y) = decide (x.num * y.den < y.num * x.den) := by rw [decide_eq_decide]; exact Rat.lt_iff x y
  rw [e]
  unfold fr
  generalize x.num = a at *
  generalize (x.den : Int) = b at *
  generalize y.num = c at *
  generalize (y.den : Int) = d at *
  have at2 : ∀ (a b : D), L2.atI [a, b] 0 = some a ∧ L2.atI [a, b] 1 = some b := fun _ _ => ⟨rfl, rfl⟩
  rw [callN]
  simp [h0, c_is_less, runFn, evSs, evS, evE, evEs, evKs, evC, evI, evO, rd, entry, truth, scal, cmpD, opN, opSub, opF, opFs, opB, slOf, mkTup, mkLst, Tm.un, noL, noLs, apartS, disj, ioFree, PP.finish, iosOf, iosS, Kd.cl, Kd.dp, PL.kill_nil, PL.kill_cons, PL.killO_some, PL.killO_none, putIo, fstLst, PL.isL1, PL.isL2, PL.isL3, PL.isL4, PL.isL5, PL.isL6, intsT, PL.put1, grown, doCall, Prog.sigs, Df.sig, bindP, callRet, unionS, retTm, bindT, bindTs, seqOf, PP.listOf, forget, setAll, tyIs, tyOk, rngOf, siOf, at2, l1, l2]
theorem v__law_less (h0 : H__law_less Γ kws) {n wf : Nat} {x y : Rat} (hx : Fits x) (hy : Fits y) : callN Γ wf (n + 1) "_law_less" [fr x, fr y] = some ⟨.bl (decide (x < y)), false, false, []⟩ := by
  obtain ⟨x1, x2, x3⟩ := fits_log hx
  obtain ⟨y1, y2, y3⟩ := fits_log hy
  have l1 : x.num.natAbs.log2 + ((y.den : Int)).natAbs.log2 < 1000000 := by omega
  have l2 : y.num.natAbs.log2 + ((x.den : Int)).natAbs.log2 < 1000000 := by omega
  have e : decide (x < y) = decide (x.num * y.den < y.num * x.den) := by rw [decide_eq_decide]; exact Rat.lt_iff x y
  rw [e]
  unfold fr
  generalize x.num = a at *
  generalize (x.den : Int) = b at *
  generalize y.num = c at *
  generalize (y.den : Int) = d at *
  have at2 : ∀ (a b : D), L2.atI [a, b] 0 = some a ∧ L2.atI [a, b] 1 = some b := fun _ _ => ⟨rfl, rfl⟩
  rw [callN]
  simp [h0, c__law_less, runFn, evSs, evS, evE, evEs, evKs, evC, evI, evO, rd, entry, truth, scal, cmpD, opN, opSub, opF, opFs, opB, slOf, mkTup, mkLst, Tm.un, noL, noLs, apartS, disj, ioFree, PP.finish, iosOf, iosS, Kd.cl, Kd.dp, PL.kill_nil, PL.kill_cons, PL.killO_some, PL.killO_none, putIo, fstLst, PL.isL1, PL.isL2, PL.isL3, PL.isL4, PL.isL5, PL.isL6, intsT, PL.put1, grown, doCall, Prog.sigs, Df.sig, bindP, callRet, unionS, retTm, bindT, bindTs, seqOf, PP.listOf, forget, setAll, tyIs, tyOk, rngOf, siOf, at2, l1, l2]
theorem plain_int (i : Int) : PP.plain (.int i) = true := by simp [PP.plain, isPy, dep]
theorem plain_str0 {x : Str} (h : PySem.PyData.canLay0 (.str x) = true) : PP.plain (.str x) = true := by simp [PP.plain, isPy, dep, h]
theorem v_is_whole (h0 : H_is_whole Γ kws) {n wf : Nat} {i : Int} : callN Γ wf (n + 1) "is_whole" [.int i] = some ⟨.bl true, false, false, []⟩ := by
  rw [callN]
  simp [h0, c_is_whole, runFn, evSs, evS, evE, evEs, evKs, evC, evI, evO, rd, entry, truth, scal, cmpD, opN, opSub, opF, opFs, opB, slOf, mkTup, mkLst, Tm.un, noL, noLs, apartS, disj, ioFree, PP.finish, iosOf, iosS, Kd.cl, Kd.dp, PL.kill_nil, PL.kill_cons, PL.killO_some, PL.killO_none, putIo, fstLst, PL.isL1, PL.isL2, PL.isL3, PL.isL4, PL.isL5, PL.isL6, intsT, PL.put1, grown, doCall, Prog.sigs, Df.sig, bindP, callRet, unionS, retTm, bindT, bindTs, seqOf, PP.listOf, forget, setAll, tyIs, tyOk, rngOf, siOf]
/-- what a fraction's parts are to each other -/
theorem fr_gcd (r : Rat) : Int.gcd r.num r.den = 1 := r.reduced
theorem v_is_fraction (h0 : H_is_fraction Γ kws) (h1 : H_is_whole Γ kws) (h2 : H_common_divisor Γ kws) {n wf : Nat} {r : Rat} (hr : r.den < wf) : callN Γ wf (n + 2) "is_fraction" [fr r] = some ⟨.bl true, false, false, []⟩ := by
  have hc := v_common_divisor h2 (n := n) (wf := wf) (a := r.num) (b := r.den) (by rw [Int.natAbs_natCast]; exact hr)
  rw [fr_gcd] at hc
  have hp : (0 : Int) < (r.den : Int) := by have := r.den_nz; omega
  have w1 := fun i : Int => v_is_whole h1 (n := n) (wf := wf) (i := i)
  unfold fr
  generalize r.num = a at *
  generalize (r.den : Int) = b at *
  have at2 : ∀ (a b : D), L2.atI [a, b] 0 = some a ∧ L2.atI [a, b] 1 = some b := fun _ _ => ⟨rfl, rfl⟩
  rw [callN]
  simp [h0, c_is_fraction, runFn, evSs, evS, evE, evEs, evKs, evC, evI, evO, rd, entry, truth, scal, cmpD, opN, opSub, opF, opFs, opB, slOf, mkTup, mkLst, Tm.un, noL, noLs, apartS, disj, ioFree, PP.finish, iosOf, iosS, Kd.cl, Kd.dp, PL.kill_nil, PL.kill_cons, PL.killO_some, PL.killO_none, putIo, fstLst, PL.isL1, PL.isL2, PL.isL3, PL.isL4, PL.isL5, PL.isL6, intsT, PL.put1, grown, doCall, Prog.sigs, Df.sig, bindP, callRet, unionS, retTm, bindT, bindTs, seqOf, PP.listOf, forget, setAll, tyIs, tyOk, rngOf, siOf, at2, h1, w1, h2, hc, hp, plain_int, eqv]
/-- a list of fractions -/
abbrev frs (rs : List Rat) : D := .lst (rs.map fr)
theorem v_are_fractions (h : H_are_fractions Γ kws) (h0 : H_is_fraction Γ kws) (h1 : H_is_whole Γ kws) (h2 : H_common_divisor Γ kws) {n wf : Nat} {rs : List Rat} (hr : ∀ r ∈ rs, r.den < wf) (hz : rs.length < sizeLine) : callN Γ wf (n + 3) "are_fractions" [frs rs, .int rs.length] = some ⟨.bl true, false, false, []⟩ := by
  have hb : evE (callN Γ wf (n + 2)) Γ.sigs [] x_are_fractions_1 [sl (frs rs), sl (.int rs.length), none, none] = some (⟨.lst (rs.map fun _ => PP.D.bl true), true, true, [], []⟩, [sl (frs rs), sl (.int rs.length), none, none]) :=
    ev_map rs fr (fun _ => .bl true) false false (S := []) (Si := []) rfl (by simp [runFn, evSs, evS, evE, evEs, evKs, evC, evI, evO, rd, entry, truth, scal, cmpD, opN, opSub, opF, opFs, opB, slOf, mkTup, mkLst, Tm.un, noL, noLs, apartS, disj, ioFree, PP.finish, iosOf, iosS, Kd.cl, Kd.dp, PL.kill_nil, PL.kill_cons, PL.killO_some, PL.killO_none, putIo, fstLst, PL.isL1, PL.isL2, PL.isL3, PL.isL4, PL.isL5, PL.isL6, intsT, PL.put1, grown, doCall, Prog.sigs, Df.sig, bindP, callRet, unionS, retTm, bindT, bindTs, seqOf, PP.listOf, forget, setAll, tyIs, tyOk, rngOf, siOf]) rfl (fun r hm => ⟨_, rfl, by simp [runFn, evSs, evS, evE, evEs, evKs, evC, evI, evO, rd, entry, truth, scal, cmpD, opN, opSub, opF, opFs, opB, slOf, mkTup, mkLst, Tm.un, noL, noLs, apartS, disj, ioFree, PP.finish, iosOf, iosS, Kd.cl, Kd.dp, PL.kill_nil, PL.kill_cons, PL.killO_some, PL.killO_none, putIo, fstLst, PL.isL1, PL.isL2, PL.isL3, PL.isL4, PL.isL5, PL.isL6, intsT, PL.put1, grown, doCall, Prog.sigs, Df.sig, bindP, callRet, unionS, retTm, bindT, bindTs, seqOf, PP.listOf, forget, setAll, tyIs, tyOk, rngOf, siOf, h0, v_is_fraction h0 h1 h2 (n := n) (hr r hm), fr_noL], rfl, rfl⟩) hz
  have hall : bools (rs.map fun _ => PP.D.bl true) = some (rs.map fun _ => true) := by
    clear hb hr hz
    induction rs with
    | nil => rfl
    | cons r rs ih => simp [bools, ih]
  generalize hx : x_are_fractions_1 = xx at hb
  rw [callN]
  simp [h, c_are_fractions, hx, runFn, evSs, evS, evE, evEs, evKs, evC, evI, evO, rd, entry, truth, scal, cmpD, opN, opSub, opF, opFs, opB, slOf, mkTup, mkLst, Tm.un, noL, noLs, apartS, disj, ioFree, PP.finish, iosOf, iosS, Kd.cl, Kd.dp, PL.kill_nil, PL.kill_cons, PL.killO_some, PL.killO_none, putIo, fstLst, PL.isL1, PL.isL2, PL.isL3, PL.isL4, PL.isL5, PL.isL6, intsT, PL.put1, grown, doCall, Prog.sigs, Df.sig, bindP, callRet, unionS, retTm, bindT, bindTs, seqOf, PP.listOf, forget, setAll, tyIs, tyOk, rngOf, siOf, plain_int, eqv, hb, hall]
end
end PL

/-! PLDraw: the purse that the laws draw from. -/
namespace PL
open PP PySem
def purse (cells : List Int) (i c k s : Int) : D := .lst [.lst (cells.map D.int), .int i, .int c, .int k, .int s]
/-- what is stirred -/
def stir (k s : Int) : Int := ((k * k + s) * 48271) % 2147483629
/-- a purse in order: n draws at most from its own -/
structure Ok (cells : List Int) (i k s : Int) (m : Nat) : Prop where
  big : ∀ v ∈ cells, 10 ^ 18 ≤ v
  i0 : 0 ≤ i
  k0 : 0 ≤ k
  km : k ≤ m
  s0 : 0 ≤ s
  s1 : s < 2 ^ 31
/-- a purse behind m draws at most -/
def Pu (p : D) (m : Nat) : Prop := ∃ cells i c k s, p = purse cells i c k s ∧ Ok cells i k s m
theorem Pu.lst {p : D} {m : Nat} (h : Pu p m) : isLst p = true := by
  obtain ⟨_, _, _, _, _, rfl, _⟩ := h
  rfl
theorem Pu.mono {p : D} {m m' : Nat} (h : Pu p m) (hm : m ≤ m') : Pu p m' := by
  obtain ⟨c, i, c', k, s, e, ⟨a1, a2, a3, a4, a5, a6⟩⟩ := h
  exact ⟨c, i, c', k, s, e, a1, a2, a3, by omega, a5, a6⟩
theorem log_le {a : Int} {e : Nat} (h : a.natAbs < 2 ^ (e + 1)) : a.natAbs.log2 ≤ e := by
  by_cases hz : a.natAbs = 0
  · rw [hz]; simp
  · have := (Nat.log2_lt hz).mpr h
    omega
section
variable {Γ : Prog} {kws : Str → List (List Str)}
/-- from the number at hand -/
theorem draw_more (h0 : H__law_draw Γ kws) {n wf : Nat} {cells : List Int} {i c k s many : Int} (hm : 0 < many) (hl : many.natAbs.log2 < 9000) (h : many ≤ c) :
    callN Γ wf (n + 1) "_law_draw" [purse cells i c k s, .int many] = some ⟨.int (c % many), false, false, [purse cells i (c / many) k s]⟩ := by
  have hn : ¬ c < many := by omega
  rw [callN]
  simp [h0, c__law_draw, purse, runFn, evSs, evS, evE, evEs, evKs, evC, evI, evO, rd, entry, truth, scal, cmpD, opN, opSub, opF, opFs, opB, slOf, mkTup, mkLst, Tm.un, noL, noLs, apartS, disj, ioFree, PP.finish, iosOf, iosS, Kd.cl, Kd.dp, PL.kill_nil, PL.kill_cons, PL.killO_some, PL.killO_none, putIo, fstLst, PL.isL1, PL.isL2, PL.isL3, PL.isL4, PL.isL5, PL.isL6, intsT, PL.put1, grown, doCall, Prog.sigs, Df.sig, bindP, callRet, unionS, retTm, bindT, bindTs, seqOf, PP.listOf, forget, setAll, tyIs, tyOk, rngOf, siOf, L2.atI, L2.ixN, hn, h, hm, hl]
theorem draw_spent (h0 : H__law_draw Γ kws) {n wf : Nat} {cells : List Int} {i c k s many : Int} (hm : 0 < many) (h : c < many) (hi : ¬ (i < cells.length)) (h1 : (k + 1).natAbs.log2 + (k + 1).natAbs.log2 < 1000000) (h2 : ((k + 1) * (k + 1) + s).natAbs.log2 + Nat.log2 48271 < 1000000) (h3 : (stir (k + 1) s).natAbs.log2 + (stir (k + 1) s).natAbs.log2 < 1000000) :
    callN Γ wf (n + 1) "_law_draw" [purse cells i c k s, .int many] = some ⟨.int ((stir (k + 1) s * stir (k + 1) s) % 2147483587 % many), false, false, [purse cells i c (k + 1) s]⟩ := by
  have hn : ¬ many ≤ c := by omega
  unfold stir at h3 ⊢
  rw [callN]
  simp [h0, c__law_draw, purse, runFn, evSs, evS, evE, evEs, evKs, evC, evI, evO, rd, entry, truth, scal, cmpD, opN, opSub, opF, opFs, opB, slOf, mkTup, mkLst, Tm.un, noL, noLs, apartS, disj, ioFree, PP.finish, iosOf, iosS, Kd.cl, Kd.dp, PL.kill_nil, PL.kill_cons, PL.killO_some, PL.killO_none, putIo, fstLst, PL.isL1, PL.isL2, PL.isL3, PL.isL4, PL.isL5, PL.isL6, intsT, PL.put1, grown, doCall, Prog.sigs, Df.sig, bindP, callRet, unionS, retTm, bindT, bindTs, seqOf, PP.listOf, forget, setAll, tyIs, tyOk, rngOf, siOf, L2.atI, L2.ixN, hn, h, hm, hi, h1, h2, h3]
theorem draw_new (h0' : H__law_draw Γ kws) {n wf : Nat} {cells : List Int} {i c k s many v : Int} (hm : 0 < many) (hl : many.natAbs.log2 < 9000) (h : c < many) (h0 : 0 ≤ i) (hi : i < cells.length) (hv : cells[i.toNat]? = some v) (hb : many ≤ v) :
    callN Γ wf (n + 1) "_law_draw" [purse cells i c k s, .int many] = some ⟨.int (v % many), false, false, [purse cells (i + 1) (v / many) k s]⟩ := by
  have hn : ¬ many ≤ c := by omega
  have hv2 : (cells.map D.int)[i.toNat]? = some (.int v) := by rw [List.getElem?_map, hv]; rfl
  have ha : L2.atI (cells.map D.int) i = some (.int v) := by
    unfold L2.atI L2.ixN
    simp only [List.length_map, h0, hi, if_true]
    exact hv2
  generalize hcs : cells.map D.int = cs at ha
  have hlen : (cs.length : Int) = cells.length := by rw [← hcs]; simp
  have hi' : i < (cs.length : Int) := by rw [hlen]; exact hi
  have at5 : ∀ (a b c d e : D), L2.atI [a, b, c, d, e] 0 = some a ∧ L2.atI [a, b, c, d, e] 1 = some b ∧ L2.atI [a, b, c, d, e] 2 = some c ∧ L2.atI [a, b, c, d, e] 3 = some d ∧ L2.atI [a, b, c, d, e] 4 = some e := fun _ _ _ _ _ => ⟨rfl, rfl, rfl, rfl, rfl⟩
  have ix5 : L2.ixN 5 1 = some 1 ∧ L2.ixN 5 2 = some 2 ∧ L2.ixN 5 3 = some 3 := ⟨rfl, rfl, rfl⟩
  rw [callN]
  simp [h0', c__law_draw, purse, hcs, runFn, evSs, evS, evE, evEs, evKs, evC, evI, evO, rd, entry, truth, scal, cmpD, opN, opSub, opF, opFs, opB, slOf, mkTup, mkLst, Tm.un, noL, noLs, apartS, disj, ioFree, PP.finish, iosOf, iosS, Kd.cl, Kd.dp, PL.kill_nil, PL.kill_cons, PL.killO_some, PL.killO_none, putIo, fstLst, PL.isL1, PL.isL2, PL.isL3, PL.isL4, PL.isL5, PL.isL6, intsT, PL.put1, grown, doCall, Prog.sigs, Df.sig, bindP, callRet, unionS, retTm, bindT, bindTs, seqOf, PP.listOf, forget, setAll, tyIs, tyOk, rngOf, siOf, at5, ix5, ha, hn, h, hm, hi', hb, hl]
/-- A DRAW -/
theorem v_draw (hd : H__law_draw Γ kws) {n wf m : Nat} {p : D} {many : Int} (hp : Pu p m) (hmm : m < 10 ^ 6) (hm : 0 < many) (hl : many < 10 ^ 18) :
    ∃ told p', 0 ≤ told ∧ told < many ∧ Pu p' (m + 1) ∧ callN Γ wf (n + 1) "_law_draw" [p, .int many] = some ⟨.int told, false, false, [p']⟩ := by
  obtain ⟨cells, i, c, k, s, rfl, big, i0, k0, km, s0, s1⟩ := hp
  have hlog : many.natAbs.log2 < 9000 := by
    have := log_le (a := many) (e := 63) (by omega)
    omega
  by_cases h : many ≤ c
  · exact ⟨_, _, Int.emod_nonneg _ (by omega), Int.emod_lt_of_pos _ hm, ⟨_, _, _, _, _, rfl, big, i0, k0, by omega, s0, s1⟩, draw_more hd hm hlog h⟩
  · have h' : c < many := by omega
    by_cases hi : i < cells.length
    · have hi2 : i.toNat < cells.length := by omega
      have hv : cells[i.toNat]? = some cells[i.toNat] := List.getElem?_eq_getElem hi2
      have hb := big _ (List.getElem_mem hi2)
      exact ⟨_, _, Int.emod_nonneg _ (by omega), Int.emod_lt_of_pos _ hm, ⟨_, _, _, _, _, rfl, big, by omega, k0, by omega, s0, s1⟩, draw_new hd hm hlog h' i0 hi hv (by omega)⟩
    · have hst : 0 ≤ stir (k + 1) s ∧ stir (k + 1) s < 2147483629 := by
        unfold stir
        exact ⟨Int.emod_nonneg _ (by omega), Int.emod_lt_of_pos _ (by omega)⟩
      have hk2 : (k + 1) * (k + 1) ≤ 1000000 * 1000000 := Int.mul_le_mul (by omega) (by omega) (by omega) (by omega)
      have hk3 : 0 ≤ (k + 1) * (k + 1) := Int.mul_nonneg (by omega) (by omega)
      have l1 := log_le (a := k + 1) (e := 31) (by omega)
      have l2 := log_le (a := (k + 1) * (k + 1) + s) (e := 63) (by omega)
      have l3 := log_le (a := stir (k + 1) s) (e := 31) (by omega)
      have l4 : Nat.log2 48271 ≤ 20 := by decide
      exact ⟨_, _, Int.emod_nonneg _ (by omega), Int.emod_lt_of_pos _ hm, ⟨_, _, _, _, _, rfl, big, i0, by omega, by omega, s0, s1⟩, draw_spent hd hm h' hi (by omega) (by omega) (by omega)⟩
/-- a thing picked -/
theorem v_pick (hp : H__law_pick Γ kws) (hd : H__law_draw Γ kws) {n wf m : Nat} {p : D} {things : List D} (o : Pu p m) (hmm : m < 10 ^ 6) (h0 : things ≠ []) (hl : things.length < 10 ^ 18) :
    ∃ x p', x ∈ things ∧ Pu p' (m + 1) ∧ callN Γ wf (n + 2) "_law_pick" [p, .lst things] = some ⟨x, false, false, [p']⟩ := by
  have hpos : 0 < things.length := List.length_pos_iff.mpr h0
  obtain ⟨told, p', t0, t1, o', hc⟩ := v_draw hd (n := n) (wf := wf) o hmm (many := things.length) (by omega) (by omega)
  have ht : told.toNat < things.length := by omega
  have ha : L2.atI things told = some things[told.toNat] := by
    unfold L2.atI L2.ixN
    simp only [t0, t1, if_true]
    exact List.getElem?_eq_getElem ht
  refine ⟨things[told.toNat], p', List.getElem_mem ht, o', ?_⟩
  generalize hx : things[told.toNat] = x at ha
  have il := o.lst
  rw [callN]
  simp [hp, c__law_pick, runFn, evSs, evS, evE, evEs, evKs, evC, evI, evO, rd, entry, truth, scal, cmpD, opN, opSub, opF, opFs, opB, slOf, mkTup, mkLst, Tm.un, noL, noLs, apartS, disj, ioFree, PP.finish, iosOf, iosS, Kd.cl, Kd.dp, PL.kill_nil, PL.kill_cons, PL.killO_some, PL.killO_none, putIo, fstLst, PL.isL1, PL.isL2, PL.isL3, PL.isL4, PL.isL5, PL.isL6, intsT, PL.put1, grown, doCall, Prog.sigs, Df.sig, bindP, callRet, unionS, retTm, bindT, bindTs, seqOf, PP.listOf, forget, setAll, tyIs, tyOk, rngOf, siOf, hc, ha, hd, il]
/-- the numbers of a game -/
def nums : List Rat := [0, 1, 2, -1, 1 / 2, -3 / 2, 3, 5, 7 / 3]
theorem fr_nums : nums.map fr = [.tup [.int 0, .int 1], .tup [.int 1, .int 1], .tup [.int 2, .int 1], .tup [.int (-1), .int 1], .tup [.int 1, .int 2], .tup [.int (-3), .int 2], .tup [.int 3, .int 1], .tup [.int 5, .int 1], .tup [.int 7, .int 3]] := by kernel_rfl
theorem v_number (hn : H__law_number Γ kws) (hp : H__law_pick Γ kws) (hd : H__law_draw Γ kws) {n wf m : Nat} {p : D} (o : Pu p m) (hmm : m < 10 ^ 6) :
    ∃ q p', q ∈ nums ∧ Pu p' (m + 1) ∧ callN Γ wf (n + 3) "_law_number" [p] = some ⟨fr q, false, false, [p']⟩ := by
  obtain ⟨x, p', hx, o', hc⟩ := v_pick hp hd (n := n) (wf := wf) (things := nums.map fr) o hmm (by decide) (by decide)
  obtain ⟨q, hq, rfl⟩ := List.mem_map.mp hx
  refine ⟨q, p', hq, o', ?_⟩
  have s2 : 2 ≤ sizeLine := by decide
  have s9 : 9 ≤ sizeLine := by decide
  have hno := fr_noL q
  generalize fr q = fq at hc hno
  rw [fr_nums] at hc
  have il := o.lst
  rw [callN]
  simp [hn, c__law_number, runFn, evSs, evS, evE, evEs, evKs, evC, evI, evO, rd, entry, truth, scal, cmpD, opN, opSub, opF, opFs, opB, slOf, mkTup, mkLst, Tm.un, noL, noLs, apartS, disj, ioFree, PP.finish, iosOf, iosS, Kd.cl, Kd.dp, PL.kill_nil, PL.kill_cons, PL.killO_some, PL.killO_none, putIo, fstLst, PL.isL1, PL.isL2, PL.isL3, PL.isL4, PL.isL5, PL.isL6, intsT, PL.put1, grown, doCall, Prog.sigs, Df.sig, bindP, callRet, unionS, retTm, bindT, bindTs, seqOf, PP.listOf, forget, setAll, tyIs, tyOk, rngOf, siOf, hc, hp, il, s2, s9, hno]
end
end PL

/-! PLGame: sizes, profiles, games. -/
namespace PL
open PP PySem
abbrev intL (ss : List Int) : D := .lst (ss.map D.int)
def prod (ss : List Int) : Int := ss.foldl (· * ·) 1
/-- sizes of a game -/
structure Sizes (ss : List Int) : Prop where
  len : (∃ a b, ss = [a, b]) ∨ ∃ a b c, ss = [a, b, c]
  rng : ∀ s ∈ ss, 1 ≤ s ∧ s ≤ 4
  most : prod ss ≤ 27
abbrev gameD (ss : List Int) (rows : List (List Rat)) : D := .tup [.str "game", intL ss, .lst (rows.map frs)]
/-- a game -/
structure Game (ss : List Int) (rows : List (List Rat)) : Prop where
  sz : Sizes ss
  len : rows.length = ss.length
  row : ∀ r ∈ rows, (r.length : Int) = prod ss
theorem Sizes.pos {ss : List Int} (h : Sizes ss) : 1 ≤ prod ss := by
  have hr := h.rng
  rcases h.len with ⟨a, b, rfl⟩ | ⟨a, b, c, rfl⟩
  · have ha := hr a (by simp)
    have hb := hr b (by simp)
    have := Int.mul_le_mul ha.1 hb.1 (by omega) (by omega)
    simpa [prod] using this
  · have ha := hr a (by simp)
    have hb := hr b (by simp)
    have hc := hr c (by simp)
    have h2 := Int.mul_le_mul ha.1 hb.1 (by omega) (by omega)
    have := Int.mul_le_mul h2 hc.1 (by omega) (by omega)
    simpa [prod] using this
theorem small_log {a : Int} (h0 : -1000000 ≤ a) (h : a ≤ 1000000) : a.natAbs.log2 < 20 := by
  have : a.natAbs < 2 ^ 20 := by omega
  exact log_lt this (by omega)
section
variable {Γ : Prog} {kws : Str → List (List Str)}
theorem v_how_many (h : H_how_many Γ kws) {n wf : Nat} {ss : List Int} (hs : Sizes ss) : callN Γ wf (n + 1) "how_many" [intL ss] = some ⟨.int (prod ss), false, false, []⟩ := by
  have hr := hs.rng
  rcases hs.len with ⟨a, b, rfl⟩ | ⟨a, b, c, rfl⟩
  · have ha := hr a (by simp)
    have hb := hr b (by simp)
    have l1 := small_log (a := a) (by omega) (by omega)
    have l2 := small_log (a := b) (by omega) (by omega)
    have k1 : (Nat.log2 1) + a.natAbs.log2 < 1000000 := by have : Nat.log2 1 = 0 := by decide
                                                           omega
    have k2 : a.natAbs.log2 + b.natAbs.log2 < 1000000 := by omega
    rw [callN]
    simp [h, c_how_many, x_how_many_1, runFn, evSs, evS, evE, evEs, evKs, evC, evI, evO, rd, entry, truth, scal, cmpD, opN, opSub, opF, opFs, opB, slOf, mkTup, mkLst, Tm.un, noL, noLs, apartS, disj, ioFree, PP.finish, iosOf, iosS, Kd.cl, Kd.dp, PL.kill_nil, PL.kill_cons, PL.killO_some, PL.killO_none, putIo, fstLst, PL.isL1, PL.isL2, PL.isL3, PL.isL4, PL.isL5, PL.isL6, intsT, PL.put1, grown, doCall, Prog.sigs, Df.sig, bindP, callRet, unionS, retTm, bindT, bindTs, seqOf, PP.listOf, forget, setAll, tyIs, tyOk, rngOf, siOf, forLoop, k1, k2, prod]
  · have ha := hr a (by simp)
    have hb := hr b (by simp)
    have hc := hr c (by simp)
    have l1 := small_log (a := a) (by omega) (by omega)
    have l2 := small_log (a := b) (by omega) (by omega)
    have l3 := small_log (a := c) (by omega) (by omega)
    have m1 : a * b ≤ 4 * 4 := Int.mul_le_mul ha.2 hb.2 (by omega) (by omega)
    have m2 : 0 ≤ a * b := Int.mul_nonneg (by omega) (by omega)
    have l4 := small_log (a := a * b) (by omega) (by omega)
    have k1 : (Nat.log2 1) + a.natAbs.log2 < 1000000 := by have : Nat.log2 1 = 0 := by decide
                                                           omega
    have k2 : a.natAbs.log2 + b.natAbs.log2 < 1000000 := by omega
    have k3 : (a * b).natAbs.log2 + c.natAbs.log2 < 1000000 := by omega
    rw [callN]
    simp [h, c_how_many, x_how_many_1, runFn, evSs, evS, evE, evEs, evKs, evC, evI, evO, rd, entry, truth, scal, cmpD, opN, opSub, opF, opFs, opB, slOf, mkTup, mkLst, Tm.un, noL, noLs, apartS, disj, ioFree, PP.finish, iosOf, iosS, Kd.cl, Kd.dp, PL.kill_nil, PL.kill_cons, PL.killO_some, PL.killO_none, putIo, fstLst, PL.isL1, PL.isL2, PL.isL3, PL.isL4, PL.isL5, PL.isL6, intsT, PL.put1, grown, doCall, Prog.sigs, Df.sig, bindP, callRet, unionS, retTm, bindT, bindTs, seqOf, PP.listOf, forget, setAll, tyIs, tyOk, rngOf, siOf, forLoop, k1, k2, k3, prod]
theorem v_are_sizes_by (h : H_are_sizes_by Γ kws) (h0 : H_is_whole Γ kws) (h1 : H_how_many Γ kws) {n wf : Nat} {ss : List Int} (hs : Sizes ss) : callN Γ wf (n + 2) "are_sizes_by" [intL ss] = some ⟨.bl true, false, false, []⟩ := by
  have hm := v_how_many h1 (n := n) (wf := wf) hs
  have hw := fun i : Int => v_is_whole h0 (n := n) (wf := wf) (i := i)
  have hp := hs.most
  have s3 : 3 < sizeLine := by decide
  have s2 : 2 < sizeLine := by decide
  have s2' : 2 ≤ sizeLine := by decide
  have pt : PP.plain (.tup [.int 2, .int 3]) = true := by decide
  have hr := hs.rng
  generalize prod ss = m at hm hp
  rcases hs.len with ⟨a, b, rfl⟩ | ⟨a, b, c, rfl⟩
  · have ha := hr a (by simp)
    have hb := hr b (by simp)
    rw [callN]
    simp [h, c_are_sizes_by, x_are_sizes_by_1, runFn, evSs, evS, evE, evEs, evKs, evC, evI, evO, rd, entry, truth, scal, cmpD, opN, opSub, opF, opFs, opB, slOf, mkTup, mkLst, Tm.un, noL, noLs, apartS, disj, ioFree, PP.finish, iosOf, iosS, Kd.cl, Kd.dp, PL.kill_nil, PL.kill_cons, PL.killO_some, PL.killO_none, putIo, fstLst, PL.isL1, PL.isL2, PL.isL3, PL.isL4, PL.isL5, PL.isL6, intsT, PL.put1, grown, doCall, Prog.sigs, Df.sig, bindP, callRet, unionS, retTm, bindT, bindTs, seqOf, PP.listOf, forget, setAll, tyIs, tyOk, rngOf, siOf, compLoop, mkComp, h0, h1, hw, hm, hp, ha, hb, plain_int, pt, eqv, s2, s2', bools]
  · have ha := hr a (by simp)
    have hb := hr b (by simp)
    have hc := hr c (by simp)
    rw [callN]
    simp [h, c_are_sizes_by, x_are_sizes_by_1, runFn, evSs, evS, evE, evEs, evKs, evC, evI, evO, rd, entry, truth, scal, cmpD, opN, opSub, opF, opFs, opB, slOf, mkTup, mkLst, Tm.un, noL, noLs, apartS, disj, ioFree, PP.finish, iosOf, iosS, Kd.cl, Kd.dp, PL.kill_nil, PL.kill_cons, PL.killO_some, PL.killO_none, putIo, fstLst, PL.isL1, PL.isL2, PL.isL3, PL.isL4, PL.isL5, PL.isL6, intsT, PL.put1, grown, doCall, Prog.sigs, Df.sig, bindP, callRet, unionS, retTm, bindT, bindTs, seqOf, PP.listOf, forget, setAll, tyIs, tyOk, rngOf, siOf, compLoop, mkComp, h0, h1, hw, hm, hp, ha, hb, hc, plain_int, pt, eqv, s3, s2', bools]
structure HG (Γ : Prog) (kws : Str → List (List Str)) : Prop where
  is_whole : H_is_whole Γ kws
  common_divisor : H_common_divisor Γ kws
  lowest : H_lowest Γ kws
  is_fraction : H_is_fraction Γ kws
  are_fractions : H_are_fractions Γ kws
  are_sizes_by : H_are_sizes_by Γ kws
  how_many : H_how_many Γ kws
  is_game_by : H_is_game_by Γ kws
  check_game : H_check_game Γ kws
theorem bools_all {α : Type} (xs : List α) : bools (xs.map fun _ => PP.D.bl true) = some (xs.map fun _ => true) := by
  induction xs with
  | nil => rfl
  | cons r rs ih => simp [bools, ih]
theorem v_is_game_by (H : HG Γ kws) {n wf : Nat} {ss : List Int} {rows : List (List Rat)} (g : Game ss rows) (hd : ∀ row ∈ rows, ∀ r ∈ row, r.den < wf) : callN Γ wf (n + 4) "is_game_by" [gameD ss rows] = some ⟨.bl true, false, false, []⟩ := by
  have hsz := v_are_sizes_by H.are_sizes_by H.is_whole H.how_many (n := n + 1) (wf := wf) g.sz
  have hm := v_how_many H.how_many (n := n + 2) (wf := wf) g.sz
  have hlen := g.len
  have hz : rows.length < sizeLine := by
    have : 10 < sizeLine := by decide
    rcases g.sz.len with ⟨a, b, rfl⟩ | ⟨a, b, c, rfl⟩ <;> (simp at hlen; omega)
  have hrow := g.row
  have hz2 : prod ss < sizeLine := by
    have := g.sz.most
    have : 100 < sizeLine := by decide
    omega
  have he : ("game" : Str) == "game" := by decide
  have hp : PP.plain (.str "game") = true := by kernel_rfl
  generalize hS : intL ss = S at *
  generalize prod ss = pr at *
  have hb : evE (callN Γ wf (n + 3)) Γ.sigs [] x_is_game_by_1 [sl (.tup [.str "game", S, .lst (rows.map frs)]), none, none] = some (⟨.lst (rows.map fun _ => PP.D.bl true), true, true, [], []⟩, [sl (.tup [.str "game", S, .lst (rows.map frs)]), none, none]) :=
    ev_map rows frs (fun _ => .bl true) false false (S := []) (Si := []) rfl (by simp [runFn, evSs, evS, evE, evEs, evKs, evC, evI, evO, rd, entry, truth, scal, cmpD, opN, opSub, opF, opFs, opB, slOf, mkTup, mkLst, Tm.un, noL, noLs, apartS, disj, ioFree, PP.finish, iosOf, iosS, Kd.cl, Kd.dp, PL.kill_nil, PL.kill_cons, PL.killO_some, PL.killO_none, putIo, fstLst, PL.isL1, PL.isL2, PL.isL3, PL.isL4, PL.isL5, PL.isL6, intsT, PL.put1, grown, doCall, Prog.sigs, Df.sig, bindP, callRet, unionS, retTm, bindT, bindTs, seqOf, PP.listOf, forget, setAll, tyIs, tyOk, rngOf, siOf, L2.atI, L2.ixN]) rfl (fun r hr => ⟨_, rfl, by
      have hf := v_are_fractions H.are_fractions H.is_fraction H.is_whole H.common_divisor (n := n) (wf := wf) (rs := r) (hd r hr) (by have := hrow r hr; omega)
      rw [hrow r hr] at hf
      simp [runFn, evSs, evS, evE, evEs, evKs, evC, evI, evO, rd, entry, truth, scal, cmpD, opN, opSub, opF, opFs, opB, slOf, mkTup, mkLst, Tm.un, noL, noLs, apartS, disj, ioFree, PP.finish, iosOf, iosS, Kd.cl, Kd.dp, PL.kill_nil, PL.kill_cons, PL.killO_some, PL.killO_none, putIo, fstLst, PL.isL1, PL.isL2, PL.isL3, PL.isL4, PL.isL5, PL.isL6, intsT, PL.put1, grown, doCall, Prog.sigs, Df.sig, bindP, callRet, unionS, retTm, bindT, bindTs, seqOf, PP.listOf, forget, setAll, tyIs, tyOk, rngOf, siOf, L2.atI, L2.ixN, H.are_fractions, H.how_many, hm, hf], rfl, rfl⟩) hz
  have hl : (rows.length : Int) = ss.length := by omega
  have hS2 : S = .lst (ss.map D.int) := hS.symm
  generalize hx : x_is_game_by_1 = xx at hb
  rw [callN]
  subst hS2
  simp [H.is_game_by, c_is_game_by, hx, runFn, evSs, evS, evE, evEs, evKs, evC, evI, evO, rd, entry, truth, scal, cmpD, opN, opSub, opF, opFs, opB, slOf, mkTup, mkLst, Tm.un, noL, noLs, apartS, disj, ioFree, PP.finish, iosOf, iosS, Kd.cl, Kd.dp, PL.kill_nil, PL.kill_cons, PL.killO_some, PL.killO_none, putIo, fstLst, PL.isL1, PL.isL2, PL.isL3, PL.isL4, PL.isL5, PL.isL6, intsT, PL.put1, grown, doCall, Prog.sigs, Df.sig, bindP, callRet, unionS, retTm, bindT, bindTs, seqOf, PP.listOf, forget, setAll, tyIs, tyOk, rngOf, siOf, L2.atI, L2.ixN, H.are_sizes_by, hsz, hl, hb, bools_all, plain_int, eqv, he, hp]
end
end PL

/-! PLProf: profiles, sizes and games by draws. -/
namespace PL
open PP PySem
/-- each choice put behind a profile -/
def longer (found : List (List Int)) (s : Int) : List (List Int) := found.flatMap fun p => (List.range s.toNat).map fun k : Nat => p ++ [(k : Int)]
def profs (ss : List Int) : List (List Int) := ss.foldl longer [[]]
theorem noLs_ints (ss : List Int) : noLs (ss.map D.int) = true := by
  induction ss with
  | nil => rfl
  | cons s ss ih => simp [noLs, noL, ih]
theorem longer_len (found : List (List Int)) (s : Int) : (longer found s).length = found.length * s.toNat := by
  unfold longer
  induction found with
  | nil => simp
  | cons p ps ih => simp only [List.flatMap_cons, List.length_append, List.length_map, List.length_range, ih, List.length_cons]; rw [Nat.succ_mul]; omega
section
variable {Γ : Prog} {kws : Str → List (List Str)}
/-- the profiles with one more choice -/
theorem prof_comp {C : Calls} {G : Sigs} {P S4 : List Nat} {p : List Int} {s : Int} {o0 o1 o3 : Option Sl} (hP : disj [5, 6] P = true) (hs : 1 ≤ s ∧ s ≤ 4) (hp : p.length ≤ 10) : evE C G P x__law_profiles_1 [o0, o1, sl (.int s), o3, some ⟨intL p, .sh, S4⟩, none, none] = some (⟨.lst ((List.range s.toNat).map fun k : Nat => intL (p ++ [(k : Int)])), true, true, [], []⟩, [o0, o1, sl (.int s), o3, some ⟨intL p, .sh, S4⟩, none, none]) := by
  have z1 : p.length + 1 ≤ sizeLine := by have : 100 ≤ sizeLine := by decide
                                          omega
  have z2 : 1 ≤ sizeLine := by decide
  refine ev_map (List.range s.toNat) (fun k : Nat => D.int ((0 : Int) + (k : Nat))) (fun k : Nat => intL (p ++ [(k : Int)])) true true (S := []) (Si := []) hP ?_ rfl (fun k hk => ⟨_, rfl, ?_, rfl, rfl⟩) ?_
  · have h1 : -4611686018427387904 ≤ s ∧ s < 4611686018427387904 := by omega
    simp [runFn, evSs, evS, evE, evEs, evKs, evC, evI, evO, rd, entry, truth, scal, cmpD, opN, opSub, opF, opFs, opB, slOf, mkTup, mkLst, Tm.un, noL, noLs, apartS, disj, ioFree, PP.finish, iosOf, iosS, Kd.cl, Kd.dp, PL.kill_nil, PL.kill_cons, PL.killO_some, PL.killO_none, putIo, fstLst, PL.isL1, PL.isL2, PL.isL3, PL.isL4, PL.isL5, PL.isL6, intsT, PL.put1, grown, doCall, Prog.sigs, Df.sig, bindP, callRet, unionS, retTm, bindT, bindTs, seqOf, PP.listOf, forget, setAll, tyIs, tyOk, rngOf, siOf, h1]
  · simp [runFn, evSs, evS, evE, evEs, evKs, evC, evI, evO, rd, entry, truth, scal, cmpD, opN, opSub, opF, opFs, opB, slOf, mkTup, mkLst, Tm.un, noL, noLs, apartS, disj, ioFree, PP.finish, iosOf, iosS, Kd.cl, Kd.dp, PL.kill_nil, PL.kill_cons, PL.killO_some, PL.killO_none, putIo, fstLst, PL.isL1, PL.isL2, PL.isL3, PL.isL4, PL.isL5, PL.isL6, intsT, PL.put1, grown, doCall, Prog.sigs, Df.sig, bindP, callRet, unionS, retTm, bindT, bindTs, seqOf, PP.listOf, forget, setAll, tyIs, tyOk, rngOf, siOf, noLs_ints, z1, z2]
  · have : 100 ≤ sizeLine := by decide
    simp only [List.length_range]
    omega
theorem siOf3 (xs : List D) (S : List Nat) : PP.siOf xs S = [] ∨ PP.siOf xs S = S := by
  unfold PP.siOf
  split
  · exact .inl rfl
  · split
    · exact .inl rfl
    · exact .inr rfl
theorem siOf_nil (xs : List D) : PP.siOf xs [] = [] := rfl
/-- over the profiles found -/
theorem prof_loop {C : Calls} {G : Sigs} {wf : Nat} {Q Si : List Nat} {s : Int} {o0 o1 : Option Sl} (hP : disj [5, 6] Q = true) (hs : 1 ≤ s ∧ s ≤ 4) : ∀ (found : List (List Int)) (b : List (List Int)) (o4 : Option Sl), (∀ p ∈ found, p.length ≤ 10) → b.length + found.length * 4 ≤ 1000 →
    ∃ o4', forLoop (fturn C G wf Q (.nm 4) (.cons (.asg (.nm 3) (.bin .add (.var 3) x__law_profiles_1)) .nil) Si) (found.map intL) [o0, o1, sl (.int s), some ⟨.lst (b.map intL), .deep, []⟩, o4, none, none] = some (.nx [o0, o1, sl (.int s), some ⟨.lst ((b ++ longer found s).map intL), .deep, []⟩, o4', none, none])
  | [], b, o4, _, _ => ⟨o4, by simp [forLoop, longer]⟩
  | p :: ps, b, o4, hl, hz => by
    have hc := prof_comp (C := C) (G := G) (P := Q ++ [3]) (S4 := Si) (p := p) (s := s) (o0 := o0) (o1 := o1) (o3 := some ⟨.lst (b.map intL), .deep, []⟩) (by
      unfold disj at hP ⊢
      simp at hP ⊢
      exact hP) hs (hl p List.mem_cons_self)
    generalize hx : x__law_profiles_1 = xx at hc
    have hz' : b.length + s.toNat ≤ sizeLine := by
      have : 2000 ≤ sizeLine := by decide
      simp only [List.length_cons] at hz
      omega
    obtain ⟨o4', ih⟩ := prof_loop (C := C) (G := G) (wf := wf) (Si := Si) (o0 := o0) (o1 := o1) hP hs ps (b ++ (List.range s.toNat).map fun k : Nat => p ++ [(k : Int)]) (some ⟨intL p, .sh, Si⟩) (fun q hq => hl q (List.mem_cons_of_mem _ hq)) (by
      simp only [List.length_append, List.length_map, List.length_range, List.length_cons] at hz ⊢
      omega)
    refine ⟨o4', ?_⟩
    rw [hx] at ih
    have e : b ++ longer (p :: ps) s = b ++ ((List.range s.toNat).map fun k : Nat => p ++ [(k : Int)]) ++ longer ps s := by
      simp [longer]
    rw [e, ← ih, List.map_cons, forLoop]
    have one : fturn C G wf Q (.nm 4) (.cons (.asg (.nm 3) (.bin .add (.var 3) xx)) .nil) Si (intL p) [o0, o1, sl (.int s), some ⟨.lst (b.map intL), .deep, []⟩, o4, none, none] = some (.nx [o0, o1, sl (.int s), some ⟨.lst ((b ++ (List.range s.toNat).map fun k : Nat => p ++ [(k : Int)]).map intL), .deep, []⟩, some ⟨intL p, .sh, Si⟩, none, none]) := by
      rcases siOf3 (b.map intL) [3] with h | h
      · simp [fturn, bindT, evSs, evS, evE, rd, Kd.cl, Kd.dp, hc, opB, hz', siOf_nil, h, disj, ioFree, slOf]
      · simp [fturn, bindT, evSs, evS, evE, rd, Kd.cl, Kd.dp, hc, opB, hz', siOf_nil, h, disj, ioFree, slOf]
    simp only [one]
/-- one more size -/
theorem prof_turn {C : Calls} {G : Sigs} {wf : Nat} {s : Int} {o0 o3 o4 : Option Sl} {found : List (List Int)} {F : Option Sl} (hF : F = some ⟨.lst (found.map intL), .deep, []⟩ ∨ F = some ⟨.lst (found.map intL), .sh, [3]⟩) (hs : 1 ≤ s ∧ s ≤ 4) (hl : ∀ p ∈ found, p.length ≤ 10) (hz : found.length * 4 ≤ 1000) :
    ∃ o4', evSs C G wf [] (.cons (.asg (.nm 3) (.lst .nil)) (.cons x__law_profiles_2 (.cons (.asg (.nm 1) (.var 3)) .nil))) [o0, F, sl (.int s), o3, o4, none, none] = some (.nx [o0, some ⟨.lst ((longer found s).map intL), .sh, [3]⟩, sl (.int s), some ⟨.lst ((longer found s).map intL), .deep, []⟩, o4', none, none]) := by
  have z0 : 0 ≤ sizeLine := Nat.zero_le _
  have z1 : 0 ≤ sizeLine := Nat.zero_le _
  rcases hF with rfl | rfl
  · obtain ⟨o4', h⟩ := prof_loop (C := C) (G := G) (wf := wf) (Q := [1]) (Si := [1]) (o0 := o0) (o1 := some ⟨.lst (found.map intL), .deep, []⟩) rfl hs found [] o4 hl (by simpa using hz)
    have h2 : evS C G wf [] x__law_profiles_2 [o0, some ⟨.lst (found.map intL), .deep, []⟩, sl (.int s), some ⟨.lst [], .deep, []⟩, o4, none, none] = _ := ev_for (P := []) (w := ⟨found.map intL, [1], [1]⟩) (by simp [evI, evE, rd, Kd.cl, Kd.dp, seqOf]) rfl h
    refine ⟨o4', ?_⟩
    generalize x__law_profiles_2 = xx at h2
    simp [evSs, evS, evE, evEs, evI, mkLst, apartS, unionS, rd, Kd.cl, Kd.dp, disj, ioFree, slOf, h2]
  · obtain ⟨o4', h⟩ := prof_loop (C := C) (G := G) (wf := wf) (Q := [3]) (Si := [3]) (o0 := o0) (o1 := some ⟨.lst (found.map intL), .sh, [3]⟩) rfl hs found [] o4 hl (by simpa using hz)
    have h2 : evS C G wf [] x__law_profiles_2 [o0, some ⟨.lst (found.map intL), .sh, [3]⟩, sl (.int s), some ⟨.lst [], .deep, []⟩, o4, none, none] = _ := ev_for (P := []) (w := ⟨found.map intL, [3], [3]⟩) (by simp [evI, evE, rd, Kd.cl, Kd.dp, seqOf]) rfl h
    refine ⟨o4', ?_⟩
    generalize x__law_profiles_2 = xx at h2
    simp [evSs, evS, evE, evEs, evI, mkLst, apartS, unionS, rd, Kd.cl, Kd.dp, disj, ioFree, slOf, h2]
theorem longer_each {found : List (List Int)} {s : Int} {k : Nat} (h : ∀ p ∈ found, p.length = k) : ∀ p ∈ longer found s, p.length = k + 1 := by
  intro p hp
  obtain ⟨q, hq, h2⟩ := List.mem_flatMap.mp hp
  obtain ⟨i, _, rfl⟩ := List.mem_map.mp h2
  simp [h q hq]
theorem v__law_profiles (h : H__law_profiles Γ kws) {n wf : Nat} {ss : List Int} (hs : Sizes ss) : callN Γ wf (n + 1) "_law_profiles" [intL ss] = some ⟨.lst ((profs ss).map intL), false, false, []⟩ := by
  have hr := hs.rng
  have z1 : 1 ≤ sizeLine := by decide
  have z0 : 0 ≤ sizeLine := Nat.zero_le _
  obtain ⟨o2, o4, h3⟩ : ∃ o2 o4, forLoop (fturn (callN Γ wf n) Γ.sigs wf [] (.nm 2) (.cons (.asg (.nm 3) (.lst .nil)) (.cons x__law_profiles_2 (.cons (.asg (.nm 1) (.var 3)) .nil))) []) (ss.map D.int) [sl (intL ss), some ⟨.lst [.lst []], .deep, []⟩, none, none, none, none, none] = some (.nx [sl (intL ss), some ⟨.lst ((profs ss).map intL), .sh, [3]⟩, o2, some ⟨.lst ((profs ss).map intL), .deep, []⟩, o4, none, none]) := by
    rcases hs.len with ⟨a, b, rfl⟩ | ⟨a, b, c, rfl⟩
    · have ha := hr a (by simp)
      have hb := hr b (by simp)
      have la := longer_len [[]] a
      have q1 : ∀ p ∈ longer [[]] a, p.length = 1 := longer_each (k := 0) (by simp)
      obtain ⟨o4, h1⟩ := prof_turn (C := callN Γ wf n) (G := Γ.sigs) (wf := wf) (o0 := sl (intL [a, b])) (o3 := none) (o4 := none) (found := [[]]) (.inl rfl) ha (by simp) (by simp)
      have h1 : evSs (callN Γ wf n) Γ.sigs wf [] (.cons (.asg (.nm 3) (.lst .nil)) (.cons x__law_profiles_2 (.cons (.asg (.nm 1) (.var 3)) .nil))) [sl (intL [a, b]), some ⟨.lst [.lst []], .deep, []⟩, sl (.int a), none, none, none, none] = _ := h1
      obtain ⟨o4', h2⟩ := prof_turn (C := callN Γ wf n) (G := Γ.sigs) (wf := wf) (o0 := sl (intL [a, b])) (o3 := some ⟨.lst ((longer [[]] a).map intL), .deep, []⟩) (o4 := o4) (found := longer [[]] a) (.inr rfl) hb (fun p hp => by rw [q1 p hp]; omega) (by rw [la]; simp; omega)
      exact ⟨sl (.int b), o4', by simp only [List.map_cons, List.map_nil, forLoop, fturn, bindT, List.length_cons, List.length_nil, List.set_cons_succ, List.set_cons_zero] at h1 h2 ⊢; simp [h1, h2, profs]⟩
    · have ha := hr a (by simp)
      have hb := hr b (by simp)
      have hc := hr c (by simp)
      have la := longer_len [[]] a
      have lb := longer_len (longer [[]] a) b
      have q1 : ∀ p ∈ longer [[]] a, p.length = 1 := longer_each (k := 0) (by simp)
      have q2 : ∀ p ∈ longer (longer [[]] a) b, p.length = 2 := longer_each q1
      have lb' : (longer (longer [[]] a) b).length ≤ 16 := by
        rw [lb, la]
        have := Nat.mul_le_mul (show (1 * a.toNat) ≤ 4 by omega) (show b.toNat ≤ 4 by omega)
        simpa using this
      obtain ⟨o4, h1⟩ := prof_turn (C := callN Γ wf n) (G := Γ.sigs) (wf := wf) (o0 := sl (intL [a, b, c])) (o3 := none) (o4 := none) (found := [[]]) (.inl rfl) ha (by simp) (by simp)
      have h1 : evSs (callN Γ wf n) Γ.sigs wf [] (.cons (.asg (.nm 3) (.lst .nil)) (.cons x__law_profiles_2 (.cons (.asg (.nm 1) (.var 3)) .nil))) [sl (intL [a, b, c]), some ⟨.lst [.lst []], .deep, []⟩, sl (.int a), none, none, none, none] = _ := h1
      obtain ⟨o4', h2⟩ := prof_turn (C := callN Γ wf n) (G := Γ.sigs) (wf := wf) (o0 := sl (intL [a, b, c])) (o3 := some ⟨.lst ((longer [[]] a).map intL), .deep, []⟩) (o4 := o4) (found := longer [[]] a) (.inr rfl) hb (fun p hp => by rw [q1 p hp]; omega) (by rw [la]; simp; omega)
      obtain ⟨o4'', h3⟩ := prof_turn (C := callN Γ wf n) (G := Γ.sigs) (wf := wf) (o0 := sl (intL [a, b, c])) (o3 := some ⟨.lst ((longer (longer [[]] a) b).map intL), .deep, []⟩) (o4 := o4') (found := longer (longer [[]] a) b) (.inr rfl) hc (fun p hp => by rw [q2 p hp]; omega) (by omega)
      exact ⟨sl (.int c), o4'', by simp only [List.map_cons, List.map_nil, forLoop, fturn, bindT, List.length_cons, List.length_nil, List.set_cons_succ, List.set_cons_zero] at h1 h2 h3 ⊢; simp [h1, h2, h3, profs]⟩
  have h4 : evS (callN Γ wf n) Γ.sigs wf [] x__law_profiles_3 [sl (intL ss), some ⟨.lst [.lst []], .deep, []⟩, none, none, none, none, none] = _ := ev_for (P := []) (w := ⟨ss.map D.int, [], []⟩) (by simp [evI, evE, rd, Kd.cl, Kd.dp, seqOf]) rfl h3
  rw [callN]
  generalize hx : x__law_profiles_3 = xx at h4
  simp [h, c__law_profiles, hx, runFn, evSs, evS, evE, evEs, evKs, evC, evI, evO, rd, entry, truth, scal, cmpD, opN, opSub, opF, opFs, opB, slOf, mkTup, mkLst, Tm.un, noL, noLs, apartS, disj, ioFree, PP.finish, iosOf, iosS, Kd.cl, Kd.dp, PL.kill_nil, PL.kill_cons, PL.killO_some, PL.killO_none, putIo, fstLst, PL.isL1, PL.isL2, PL.isL3, PL.isL4, PL.isL5, PL.isL6, intsT, PL.put1, grown, doCall, Prog.sigs, Df.sig, bindP, callRet, unionS, retTm, bindT, bindTs, seqOf, PP.listOf, forget, setAll, tyIs, tyOk, rngOf, siOf, z1, h4]
theorem profs_len {ss : List Int} (hs : Sizes ss) : ((profs ss).length : Int) = prod ss := by
  have hr := hs.rng
  rcases hs.len with ⟨a, b, rfl⟩ | ⟨a, b, c, rfl⟩
  · have ha := hr a (by simp)
    have hb := hr b (by simp)
    simp only [profs, prod, List.foldl_cons, List.foldl_nil, longer_len, List.length_cons, List.length_nil]
    simp only [Int.natCast_mul, Int.natCast_add]
    rw [Int.toNat_of_nonneg (by omega), Int.toNat_of_nonneg (by omega)]
    simp
  · have ha := hr a (by simp)
    have hb := hr b (by simp)
    have hc := hr c (by simp)
    simp only [profs, prod, List.foldl_cons, List.foldl_nil, longer_len, List.length_cons, List.length_nil]
    simp only [Int.natCast_mul, Int.natCast_add]
    rw [Int.toNat_of_nonneg (by omega), Int.toNat_of_nonneg (by omega), Int.toNat_of_nonneg (by omega)]
    simp
theorem num_map {α : Type} (f : α → D) (xs : List α) : (xs.map f).length = xs.length := List.length_map ..
structure HD (Γ : Prog) (kws : Str → List (List Str)) : Prop where
  draw : H__law_draw Γ kws
  pick : H__law_pick Γ kws
  number : H__law_number Γ kws
theorem v__law_game (hg : H__law_game Γ kws) (hpr : H__law_profiles Γ kws) (H : HD Γ kws) {n wf m : Nat} {p : D} {ss : List Int} (o : Pu p m) (hs : Sizes ss) (hmm : m + 100 < 10 ^ 6) :
    ∃ rows p', Game ss rows ∧ (∀ row ∈ rows, ∀ r ∈ row, r ∈ nums) ∧ Pu p' (m + 100) ∧ callN Γ wf (n + 4) "_law_game" [p, intL ss] = some ⟨gameD ss rows, false, true, [p']⟩ := by
  have hprof := v__law_profiles hpr (n := n + 2) (wf := wf) hs
  have hlen := profs_len hs
  have hpos := hs.pos
  have hmost := hs.most
  generalize hM : prod ss = M at hlen hpos hmost
  have hss : ss.length ≤ 3 := by rcases hs.len with ⟨a, b, rfl⟩ | ⟨a, b, c, rfl⟩ <;> simp
  have s100 : 1000 < sizeLine := by decide
  have s3 : 3 ≤ sizeLine := by decide
  have inner : ∀ (p : D) (m' : Nat) (d : D), Pu p m' → m' + 27 < 10 ^ 6 → ∃ (as : List Rat) (p' : D), evE (callN Γ wf (n + 3)) Γ.sigs [] x__law_game_1 [some ⟨p, .io, []⟩, sl (intL ss), sl (.int M), none, sl d, none] = some (⟨frs as, true, true, [], []⟩, [some ⟨p', .io, []⟩, sl (intL ss), sl (.int M), none, sl d, none]) ∧ (as.length : Int) = M ∧ (∀ a ∈ as, a ∈ nums) ∧ Pu p' (m' + 27) := fun p m' d hp hm' => by
    obtain ⟨as, δ2, h1, h2, h3, p', h4, h5⟩ := ev_io (C := callN Γ wf (n + 3)) (G := Γ.sigs) (P := []) (δ := [some ⟨p, .io, []⟩, sl (intL ss), sl (.int M), none, sl d, none]) (δ1 := [some ⟨p, .io, []⟩, sl (intL ss), sl (.int M), none, sl d, none]) (own := [3, 5]) (elt := (.call "_law_number" (some 0) (.cons (.var 0) .nil) .nil)) (t := .nm 5) (it := .rng (.cons (.var 2) .nil)) (w := ⟨(List.range M.toNat).map fun k : Nat => D.int ((0 : Int) + (k : Nat)), [], []⟩) fr (fun r => r ∈ nums) (fun j δ => ∃ p', Pu p' (m' + j) ∧ δ = [some ⟨p', .io, []⟩, sl (intL ss), sl (.int M), none, sl d, none]) false false rfl (by
        have h1 : -4611686018427387904 ≤ M ∧ M < 4611686018427387904 := by omega
        simp [runFn, evSs, evS, evE, evEs, evKs, evC, evI, evO, rd, entry, truth, scal, cmpD, opN, opSub, opF, opFs, opB, slOf, mkTup, mkLst, Tm.un, noL, noLs, apartS, disj, ioFree, PP.finish, iosOf, iosS, Kd.cl, Kd.dp, PL.kill_nil, PL.kill_cons, PL.killO_some, PL.killO_none, putIo, fstLst, PL.isL1, PL.isL2, PL.isL3, PL.isL4, PL.isL5, PL.isL6, intsT, PL.put1, grown, doCall, Prog.sigs, Df.sig, bindP, callRet, unionS, retTm, bindT, bindTs, seqOf, PP.listOf, forget, setAll, tyIs, tyOk, rngOf, siOf, h1]) ⟨p, hp, rfl⟩ (fun j d' δ hj ⟨p', hp', hδ⟩ => by
        subst hδ
        have hj2 : j < M.toNat := by
          have := (List.getElem?_eq_some_iff.mp hj).1
          simpa using this
        obtain ⟨q, p'', hq, hp'', hc⟩ := v_number H.number H.pick H.draw (n := n) (wf := wf) hp' (by omega)
        have il := hp'.lst
        refine ⟨q, [some ⟨p', .io, []⟩, sl (intL ss), sl (.int M), none, sl d, sl d'], [some ⟨p'', .io, []⟩, sl (intL ss), sl (.int M), none, sl d, sl d'], rfl, ?_, hq, rfl, p'', hp'', rfl⟩
        simp [runFn, evSs, evS, evE, evEs, evKs, evC, evI, evO, rd, entry, truth, scal, cmpD, opN, opSub, opF, opFs, opB, slOf, mkTup, mkLst, Tm.un, noL, noLs, apartS, disj, ioFree, PP.finish, iosOf, iosS, Kd.cl, Kd.dp, PL.kill_nil, PL.kill_cons, PL.killO_some, PL.killO_none, putIo, fstLst, PL.isL1, PL.isL2, PL.isL3, PL.isL4, PL.isL5, PL.isL6, intsT, PL.put1, grown, doCall, Prog.sigs, Df.sig, bindP, callRet, unionS, retTm, bindT, bindTs, seqOf, PP.listOf, forget, setAll, tyIs, tyOk, rngOf, siOf, H.number, hc, il]) (by simp; omega)
    subst h5
    simp only [List.length_map, List.length_range] at h2 h4
    exact ⟨as, p', h1, by omega, h3, h4.mono (by omega)⟩
  obtain ⟨rows, δ2, h1, h2, h3, p', h4, h5⟩ := ev_io (C := callN Γ wf (n + 3)) (G := Γ.sigs) (P := []) (δ := [some ⟨p, .io, []⟩, sl (intL ss), sl (.int M), none, none, none]) (δ1 := [some ⟨p, .io, []⟩, sl (intL ss), sl (.int M), none, none, none]) (own := [3, 4]) (elt := x__law_game_1) (t := .nm 4) (it := .seq (.var 1)) (w := ⟨ss.map D.int, [], []⟩) frs (fun rs => (rs.length : Int) = M ∧ ∀ r ∈ rs, r ∈ nums) (fun j δ => ∃ p', Pu p' (m + 27 * j) ∧ δ = [some ⟨p', .io, []⟩, sl (intL ss), sl (.int M), none, none, none]) true true rfl (by simp [runFn, evSs, evS, evE, evEs, evKs, evC, evI, evO, rd, entry, truth, scal, cmpD, opN, opSub, opF, opFs, opB, slOf, mkTup, mkLst, Tm.un, noL, noLs, apartS, disj, ioFree, PP.finish, iosOf, iosS, Kd.cl, Kd.dp, PL.kill_nil, PL.kill_cons, PL.killO_some, PL.killO_none, putIo, fstLst, PL.isL1, PL.isL2, PL.isL3, PL.isL4, PL.isL5, PL.isL6, intsT, PL.put1, grown, doCall, Prog.sigs, Df.sig, bindP, callRet, unionS, retTm, bindT, bindTs, seqOf, PP.listOf, forget, setAll, tyIs, tyOk, rngOf, siOf]) ⟨p, o, rfl⟩ (fun j d' δ hj ⟨p', hp', hδ⟩ => by
      subst hδ
      have hj2 : j < ss.length := by
        have := (List.getElem?_eq_some_iff.mp hj).1
        simpa using this
      obtain ⟨as, p'', g1, g2, g3, g4⟩ := inner p' (m + 27 * j) d' hp' (by omega)
      exact ⟨as, _, _, rfl, g1, ⟨g2, g3⟩, rfl, p'', by rw [Nat.mul_succ, ← Nat.add_assoc]; exact g4, rfl⟩) (by simp; omega)
  have h1 : evE (callN Γ wf (n + 3)) Γ.sigs [] x__law_game_2 [some ⟨p, .io, []⟩, sl (intL ss), sl (.int M), none, none, none] = _ := h1
  subst h5
  simp only [List.length_map] at h2 h4
  refine ⟨rows, p', ⟨hs, h2, fun r hr => by rw [hM]; exact (h3 r hr).1⟩, fun r hr => (h3 r hr).2, h4.mono (by omega), ?_⟩
  rw [callN]
  generalize hx : x__law_game_2 = xx at h1
  simp [hg, c__law_game, hx, runFn, evSs, evS, evE, evEs, evKs, evC, evI, evO, rd, entry, truth, scal, cmpD, opN, opSub, opF, opFs, opB, slOf, mkTup, mkLst, Tm.un, noL, noLs, apartS, disj, ioFree, PP.finish, iosOf, iosS, Kd.cl, Kd.dp, PL.kill_nil, PL.kill_cons, PL.killO_some, PL.killO_none, putIo, fstLst, PL.isL1, PL.isL2, PL.isL3, PL.isL4, PL.isL5, PL.isL6, intsT, PL.put1, grown, doCall, Prog.sigs, Df.sig, bindP, callRet, unionS, retTm, bindT, bindTs, seqOf, PP.listOf, forget, setAll, tyIs, tyOk, rngOf, siOf, hpr, hprof, hlen, h1, s3, noLs_ints]
end
end PL

/-! PLRepr: what is shown of data: its length, its signs; whether two data are alike; new lists. -/
namespace PL
open PP PySem
/-- no sign beyond the last -/
def sOk (x : Str) : Bool := PySem.PyData.strOk x
theorem sOk_app {x y : Str} (hx : sOk x = true) (hy : sOk y = true) : sOk (x ++ y) = true := by
  unfold sOk PySem.PyData.strOk at *
  show (x.cps ++ y.cps).all _ = true
  rw [Array.all_append, hx, hy]; rfl
theorem sOk_of (s : String) : sOk (Str.ofString s) = true := by
  unfold sOk PySem.PyData.strOk
  rw [Str.ofString_eq_toList]
  simp only [List.all_toArray, List.all_map, List.all_eq_true]
  intro c hc
  have := c.valid
  simp only [Function.comp, decide_eq_true_eq]
  have h := this
  unfold UInt32.isValidChar Nat.isValidChar at h
  show c.val.toNat < _
  omega
theorem sOk_textFrom : ∀ (ts : List Str) (k : Nat) (acc : Str), sOk acc = true → (∀ t ∈ ts, sOk t = true) → sOk (textFrom k acc ts) = true
  | [], k, acc, h, _ => h
  | t :: ts, k, acc, h, ht => by
    unfold textFrom
    refine sOk_textFrom ts (k + 1) _ (sOk_app (sOk_app h ?_) (ht t List.mem_cons_self)) fun u hu => ht u (List.mem_cons_of_mem _ hu)
    split <;> exact sOk_of _
theorem sOk_join : ∀ ts : List Str, (∀ t ∈ ts, sOk t = true) → sOk (Str.join (Str.ofString ", ") ts) = true
  | [], _ => by show sOk Str.empty = true; kernel_rfl
  | [x], h => h x List.mem_cons_self
  | x :: y :: r, h => by
    show sOk (x ++ (Str.ofString ", ") ++ Str.join (Str.ofString ", ") (y :: r)) = true
    exact sOk_app (sOk_app (h x List.mem_cons_self) (sOk_of _)) (sOk_join (y :: r) fun t ht => h t (List.mem_cons_of_mem _ ht))
theorem sOk_list {ts : List Str} (h : ∀ t ∈ ts, sOk t = true) : sOk (listText ts) = true := sOk_app (sOk_textFrom ts 0 _ (sOk_of _) h) (sOk_of _)
theorem sOk_tup {ts : List Str} (h : ∀ t ∈ ts, sOk t = true) : sOk (tupleText ts) = true := by
  unfold tupleText
  refine sOk_app (sOk_app (sOk_of _) (sOk_join ts h)) ?_
  split <;> exact sOk_of _
theorem len_list (ts : List Str) : (listText ts).length ≤ 2 + piled ts := by
  unfold listText
  rw [strLen_append]
  have e1 : ((("]" : String) : Str)).length = 1 := rfl
  rw [e1]
  cases ts with
  | nil => show 1 + 1 ≤ _; omega
  | cons t ts =>
    unfold textFrom
    rw [textFrom_length_pos ts 1 _ (by omega), strLen_append, strLen_append, piled_cons]
    have e2 : ((("[" : String) : Str)).length = 1 := rfl
    have e3 : ((((if 0 > 0 then ", " else "" : String)) : Str)).length = 0 := rfl
    rw [e2, e3]
    omega
theorem len_tup (ts : List Str) : (tupleText ts).length ≤ 3 + piled ts := by
  unfold tupleText
  rw [strLen_append, strLen_append]
  have e1 : ((("(" : String) : Str)).length = 1 := rfl
  have e3 : (((if ts.length == 1 then ",)" else ")" : String) : Str)).length ≤ 2 := by split <;> decide
  rw [e1]
  cases ts with
  | nil => have : (Str.join (Str.ofString ", ") []).length = 0 := rfl
           omega
  | cons t ts =>
    have := join_length_add (t :: ts) (by simp)
    omega
theorem len_int {i : Int} {k : Nat} (hk : 0 < k) (h : i.natAbs < 10 ^ k) : (Str.ofString (toString i)).length ≤ k + 1 := by
  by_cases h0 : 0 ≤ i
  · have h2 : i < 10 ^ k := by
      have : ((10 ^ k : Nat) : Int) = (10 : Int) ^ k := by norm_cast
      omega
    have := PyProof.Rows.toString_length_le h0 hk h2
    omega
  · have hn : i < 0 := by omega
    rw [PyProof.Rows.len_text_neg hn]
    have h2 : (0 - i) < 10 ^ k := by
      have : ((10 ^ k : Nat) : Int) = (10 : Int) ^ k := by norm_cast
      omega
    have := PyProof.Rows.toString_length_le (v := 0 - i) (by omega) hk h2
    omega
mutual
/-- data that may be shown -/
def nice : D → Bool
  | .non => true
  | .bl _ => true
  | .int i => decide (i.natAbs < 2 ^ 1900)
  | .str x => sOk x && sOk (reprText x) && decide ((reprText x).length ≤ 100) && decide (x.length ≤ 100)
  | .tup ds => nices ds
  | .lst ds => nices ds
  | _ => false
def nices : List D → Bool
  | [] => true
  | d :: ds => nice d && nices ds
end
mutual
/-- a bound of what is shown -/
def wt : D → Nat
  | .tup ds => 3 + wts ds
  | .lst ds => 3 + wts ds
  | _ => 700
def wts : List D → Nat
  | [] => 0
  | d :: ds => wt d + 2 + wts ds
end
theorem pow_10 : (2 : Nat) ^ 1900 < 10 ^ 600 := by decide +kernel
mutual
theorem shown_ok : ∀ d : D, nice d = true → isPy d = true ∧ (py d).showable = true ∧ sOk (py d).shown = true ∧ (py d).shown.length ≤ wt d
  | .non, h => ⟨rfl, rfl, sOk_of _, by show (Str.ofString "None").length ≤ 700; decide⟩
  | .bl b, h => ⟨rfl, rfl, by cases b <;> exact sOk_of _, by cases b <;> (show (Str.ofString _).length ≤ 700; decide)⟩
  | .int i, h => by
    simp only [nice, decide_eq_true_eq] at h
    refine ⟨rfl, ?_, sOk_of _, ?_⟩
    · simp only [py, PyData.showable, decide_eq_true_eq]
      have := log_lt h (by decide)
      omega
    · have := len_int (i := i) (k := 600) (by decide) (Nat.lt_trans h pow_10)
      show (Str.ofString (toString i)).length ≤ 700
      omega
  | .str x, h => by
    simp only [nice, Bool.and_eq_true, decide_eq_true_eq] at h
    refine ⟨h.1.1.1, rfl, h.1.1.2, ?_⟩
    show (reprText x).length ≤ 700
    omega
  | .tup ds, h => by
    simp only [nice] at h
    obtain ⟨h1, h2, h3, h4⟩ := showns_ok ds h
    refine ⟨by simpa only [isPy] using h1, by simpa only [py, PyData.showable] using h2, ?_, ?_⟩
    · simp only [py, PyData.shown]; exact sOk_tup h3
    · simp only [py, PyData.shown, wt]
      have := len_tup (PyData.shownAll (pys ds))
      omega
  | .lst ds, h => by
    simp only [nice] at h
    obtain ⟨h1, h2, h3, h4⟩ := showns_ok ds h
    refine ⟨by simpa only [isPy] using h1, by simpa only [py, PyData.showable] using h2, ?_, ?_⟩
    · simp only [py, PyData.shown]; exact sOk_list h3
    · simp only [py, PyData.shown, wt]
      have := len_list (PyData.shownAll (pys ds))
      omega
  | .frz ds, h => by simp [nice] at h
  | .edct, h => by simp [nice] at h
  | .cls _, h => by simp [nice] at h
  | .exc _ _, h => by simp [nice] at h
  | .fn _ _, h => by simp [nice] at h
theorem showns_ok : ∀ ds : List D, nices ds = true → isPys ds = true ∧ PyData.showableAll (pys ds) = true ∧ (∀ t ∈ PyData.shownAll (pys ds), sOk t = true) ∧ piled (PyData.shownAll (pys ds)) ≤ wts ds
  | [], _ => ⟨rfl, rfl, (fun _ h => nomatch h), Nat.le_refl _⟩
  | d :: ds, h => by
    simp only [nices, Bool.and_eq_true] at h
    obtain ⟨a1, a2, a3, a4⟩ := shown_ok d h.1
    obtain ⟨b1, b2, b3, b4⟩ := showns_ok ds h.2
    refine ⟨by simp only [isPys, a1, b1]; rfl, by simp only [pys, PyData.showableAll, a2, b2]; rfl, fun t ht => ?_, ?_⟩
    · simp only [pys, PyData.shownAll, List.mem_cons] at ht
      rcases ht with rfl | ht
      · exact a3
      · exact b3 t ht
    · simp only [pys, PyData.shownAll, wts, piled_cons]
      omega
end
/-- repr of nice data -/
theorem repr_ok {d : D} (h : nice d = true) (hd : dep d ≤ 60) (hw : wt d ≤ 16000000) : reprOk d = true ∧ PP.plain (.str (reprS d)) = true := by
  obtain ⟨a1, a2, a3, a4⟩ := shown_ok d h
  have hz : (py d).shown.length + 64 ≤ sizeLine := by
    have : 16000064 ≤ sizeLine := by decide
    omega
  refine ⟨by simp [reprOk, a1, a2, hd, hz], plain_str0 ?_⟩
  exact a3
theorem plain_of {d : D} (h : nice d = true) (hd : dep d ≤ 60) : PP.plain d = true := by
  simp [PP.plain, (shown_ok d h).1, hd]
mutual
theorem eqv_refl : ∀ d : D, isPy d = true → eqv d d = true
  | .non, _ => by simp [eqv]
  | .bl b, _ => by simp [eqv]
  | .int i, _ => by simp [eqv]
  | .str x, _ => by simp [eqv]
  | .tup ds, h => by simp only [isPy] at h; simp only [eqv]; exact eqvs_refl ds h
  | .lst ds, h => by simp only [isPy] at h; simp only [eqv]; exact eqvs_refl ds h
  | .frz ds, h => by simp [isPy] at h
  | .edct, h => by simp [isPy] at h
  | .cls _, h => by simp [isPy] at h
  | .exc _ _, h => by simp [isPy] at h
  | .fn _ _, h => by simp [isPy] at h
theorem eqvs_refl : ∀ ds : List D, isPys ds = true → eqvs ds ds = true
  | [], _ => by simp [eqvs]
  | d :: ds, h => by
    simp only [isPys, Bool.and_eq_true] at h
    simp only [eqvs, eqv_refl d h.1, eqvs_refl ds h.2]; rfl
end
theorem eqv_plain {d : D} (h : PP.plain d = true) : eqv d d = true := by
  unfold PP.plain at h
  simp only [Bool.and_eq_true] at h
  exact eqv_refl d h.1
mutual
/-- no list ends with a text; no row is too long -/
def fine : D → Bool
  | .tup ds => decide (ds.length < 1000000) && fines ds
  | .lst ds => decide (ds.length < 1000000) && lastOk ds && fines ds
  | _ => true
def fines : List D → Bool
  | [] => true
  | d :: ds => fine d && fines ds
end
theorem fines_mem : ∀ {ds : List D}, fines ds = true → ∀ d ∈ ds, fine d = true
  | [], _, d, m => by cases m
  | x :: xs, h, d, m => by
    simp only [fines, Bool.and_eq_true] at h
    rcases List.mem_cons.mp m with rfl | m
    · exact h.1
    · exact fines_mem h.2 d m
theorem nices_mem : ∀ {ds : List D}, nices ds = true → ∀ d ∈ ds, nice d = true
  | [], _, d, m => by cases m
  | x :: xs, h, d, m => by
    simp only [nices, Bool.and_eq_true] at h
    rcases List.mem_cons.mp m with rfl | m
    · exact h.1
    · exact nices_mem h.2 d m
theorem deps_mem : ∀ {ds : List D} {k : Nat}, deps ds ≤ k → ∀ d ∈ ds, dep d ≤ k
  | [], _, _, d, m => by cases m
  | x :: xs, k, h, d, m => by
    simp only [deps] at h
    rcases List.mem_cons.mp m with rfl | m
    · omega
    · exact deps_mem (by omega) d m
theorem sp_ok : ∀ (n : Nat) (d : D), nice d = true → fine d = true → dep d < n → dep d ≤ 60 → spOk n d = true := by
  intro n
  induction n with
  | zero => intro d _ _ h; omega
  | succ n ih =>
    intro d hn hf hd h60
    cases d with
    | tup ds =>
      simp only [nice] at hn
      simp only [fine, Bool.and_eq_true, decide_eq_true_eq] at hf
      simp only [dep] at hd h60
      simp only [spOk, Bool.and_eq_true, decide_eq_true_eq, List.all_eq_true]
      exact ⟨hf.1, fun d m => ih d (nices_mem hn d m) (fines_mem hf.2 d m) (by have := deps_mem (k := deps ds) (Nat.le_refl _) d m; omega) (by have := deps_mem (k := deps ds) (Nat.le_refl _) d m; omega)⟩
    | lst ds =>
      have hp := plain_of hn h60
      simp only [nice] at hn
      simp only [fine, Bool.and_eq_true, decide_eq_true_eq] at hf
      simp only [dep] at hd h60
      simp only [spOk, Bool.and_eq_true, decide_eq_true_eq, List.all_eq_true]
      exact ⟨⟨⟨hp, hf.1.1⟩, hf.1.2⟩, fun d m => ih d (nices_mem hn d m) (fines_mem hf.2 d m) (by have := deps_mem (k := deps ds) (Nat.le_refl _) d m; omega) (by have := deps_mem (k := deps ds) (Nat.le_refl _) d m; omega)⟩
    | non => rfl
    | bl b => rfl
    | int i => rfl
    | str x => rfl
    | _ => simp [nice] at hn
theorem v_spoilt {Γ : Prog} (h : Γ "_law_spoilt" = some (.prim spSig spoilt)) {n wf : Nat} {d : D} (hn : nice d = true) (hf : fine d = true) (hd : dep d < n) (h60 : dep d ≤ 60) : callN Γ wf (n + 1) "_law_spoilt" [d] = some ⟨.bl true, false, false, []⟩ := by
  simp only [callN, h, spoilt, sp_ok n d hn hf hd h60, if_true]
section
variable {Γ : Prog} {kws : Str → List (List Str)}
/-- what is told is what is due -/
theorem v__law_same (h : H__law_same Γ kws) {wf : Nat} : ∀ (n : Nat) (d : D), nice d = true → fine d = true → dep d ≤ n → dep d ≤ 60 → callN Γ wf (n + 1) "_law_same" [d, d] = some ⟨.bl true, false, false, []⟩ := by
  have s1 : 1000000 < sizeLine := by decide
  intro n
  induction n using Nat.strongRecOn with
  | ind n ih =>
    intro d hn hf hd h60
    have many : ∀ ds : List D, (d = .lst ds ∨ d = .tup ds) → nices ds = true → fines ds = true → ds.length < 1000000 → deps ds + 1 ≤ n → deps ds + 1 ≤ 60 → evE (callN Γ wf n) Γ.sigs [] x__law_same_1 [sl d, sl d, sl (.bl true), none, none, none] = some (⟨.lst (ds.map fun _ => PP.D.bl true), true, true, [], []⟩, [sl d, sl d, sl (.bl true), none, none, none]) := fun ds hds h1 h2 h3 h4 h5 => by
      obtain ⟨n', rfl⟩ : ∃ n', n = n' + 1 := ⟨n - 1, by omega⟩
      refine ev_map ds (fun d => .tup [d, d]) (fun _ => .bl true) false false (S := []) (Si := []) rfl ?_ rfl (fun x hx => ⟨_, rfl, ?_, rfl, rfl⟩) (by omega)
      · have z : (ds.zip ds).map (fun q => PP.D.tup [q.1, q.2]) = ds.map fun d => .tup [d, d] := by
          clear h1 h2 h3 h4 h5 ih hn hf hd h60 hds
          induction ds with
          | nil => rfl
          | cons x xs ih => simp [ih]
        rcases hds with rfl | rfl
        · simp [evI, evE, rd, Kd.cl, Kd.dp, zipOf, z]
        · simp [evI, evE, rd, Kd.cl, Kd.dp, zipOf, z]
      · have hc := ih n' (by omega) x (nices_mem h1 x hx) (fines_mem h2 x hx) (by have := deps_mem (k := deps ds) (Nat.le_refl _) x hx; omega) (by have := deps_mem (k := deps ds) (Nat.le_refl _) x hx; omega)
        simp [runFn, evSs, evS, evE, evEs, evKs, evC, evI, evO, rd, entry, truth, scal, cmpD, opN, opSub, opF, opFs, opB, slOf, mkTup, mkLst, Tm.un, noL, noLs, apartS, disj, ioFree, PP.finish, iosOf, iosS, Kd.cl, Kd.dp, PL.kill_nil, PL.kill_cons, PL.killO_some, PL.killO_none, putIo, fstLst, PL.isL1, PL.isL2, PL.isL3, PL.isL4, PL.isL5, PL.isL6, intsT, PL.put1, grown, doCall, Prog.sigs, Df.sig, bindP, callRet, unionS, retTm, bindT, bindTs, seqOf, PP.listOf, forget, setAll, tyIs, tyOk, rngOf, siOf, h, hc]
    rw [callN]
    cases d with
    | tup ds =>
      simp only [nice] at hn
      simp only [fine, Bool.and_eq_true, decide_eq_true_eq] at hf
      simp only [dep] at hd h60
      have hm := many ds (.inr rfl) hn hf.2 hf.1 hd h60
      generalize hx : x__law_same_1 = xx at hm
      simp [h, c__law_same, hx, runFn, evSs, evS, evE, evEs, evKs, evC, evI, evO, rd, entry, truth, scal, cmpD, opN, opSub, opF, opFs, opB, slOf, mkTup, mkLst, Tm.un, noL, noLs, apartS, disj, ioFree, PP.finish, iosOf, iosS, Kd.cl, Kd.dp, PL.kill_nil, PL.kill_cons, PL.killO_some, PL.killO_none, putIo, fstLst, PL.isL1, PL.isL2, PL.isL3, PL.isL4, PL.isL5, PL.isL6, intsT, PL.put1, grown, doCall, Prog.sigs, Df.sig, bindP, callRet, unionS, retTm, bindT, bindTs, seqOf, PP.listOf, forget, setAll, tyIs, tyOk, rngOf, siOf, isNon, isBl, plain_int, eqv, hm, bools_all]
    | lst ds =>
      simp only [nice] at hn
      simp only [fine, Bool.and_eq_true, decide_eq_true_eq] at hf
      simp only [dep] at hd h60
      have hm := many ds (.inl rfl) hn hf.2 hf.1.1 hd h60
      generalize hx : x__law_same_1 = xx at hm
      simp [h, c__law_same, hx, runFn, evSs, evS, evE, evEs, evKs, evC, evI, evO, rd, entry, truth, scal, cmpD, opN, opSub, opF, opFs, opB, slOf, mkTup, mkLst, Tm.un, noL, noLs, apartS, disj, ioFree, PP.finish, iosOf, iosS, Kd.cl, Kd.dp, PL.kill_nil, PL.kill_cons, PL.killO_some, PL.killO_none, putIo, fstLst, PL.isL1, PL.isL2, PL.isL3, PL.isL4, PL.isL5, PL.isL6, intsT, PL.put1, grown, doCall, Prog.sigs, Df.sig, bindP, callRet, unionS, retTm, bindT, bindTs, seqOf, PP.listOf, forget, setAll, tyIs, tyOk, rngOf, siOf, isNon, isBl, plain_int, eqv, hm, bools_all]
    | non => simp [h, c__law_same, runFn, evSs, evS, evE, evEs, evKs, evC, evI, evO, rd, entry, truth, scal, cmpD, opN, opSub, opF, opFs, opB, slOf, mkTup, mkLst, Tm.un, noL, noLs, apartS, disj, ioFree, PP.finish, iosOf, iosS, Kd.cl, Kd.dp, PL.kill_nil, PL.kill_cons, PL.killO_some, PL.killO_none, putIo, fstLst, PL.isL1, PL.isL2, PL.isL3, PL.isL4, PL.isL5, PL.isL6, intsT, PL.put1, grown, doCall, Prog.sigs, Df.sig, bindP, callRet, unionS, retTm, bindT, bindTs, seqOf, PP.listOf, forget, setAll, tyIs, tyOk, rngOf, siOf, isNon, isBl]
    | bl b => cases b <;> simp [h, c__law_same, runFn, evSs, evS, evE, evEs, evKs, evC, evI, evO, rd, entry, truth, scal, cmpD, opN, opSub, opF, opFs, opB, slOf, mkTup, mkLst, Tm.un, noL, noLs, apartS, disj, ioFree, PP.finish, iosOf, iosS, Kd.cl, Kd.dp, PL.kill_nil, PL.kill_cons, PL.killO_some, PL.killO_none, putIo, fstLst, PL.isL1, PL.isL2, PL.isL3, PL.isL4, PL.isL5, PL.isL6, intsT, PL.put1, grown, doCall, Prog.sigs, Df.sig, bindP, callRet, unionS, retTm, bindT, bindTs, seqOf, PP.listOf, forget, setAll, tyIs, tyOk, rngOf, siOf, isNon, isBl]
    | int i => simp [h, c__law_same, runFn, evSs, evS, evE, evEs, evKs, evC, evI, evO, rd, entry, truth, scal, cmpD, opN, opSub, opF, opFs, opB, slOf, mkTup, mkLst, Tm.un, noL, noLs, apartS, disj, ioFree, PP.finish, iosOf, iosS, Kd.cl, Kd.dp, PL.kill_nil, PL.kill_cons, PL.killO_some, PL.killO_none, putIo, fstLst, PL.isL1, PL.isL2, PL.isL3, PL.isL4, PL.isL5, PL.isL6, intsT, PL.put1, grown, doCall, Prog.sigs, Df.sig, bindP, callRet, unionS, retTm, bindT, bindTs, seqOf, PP.listOf, forget, setAll, tyIs, tyOk, rngOf, siOf, isNon, isBl, plain_int, eqv]
    | str x =>
      have hp := plain_of hn (by simp [dep])
      simp [h, c__law_same, runFn, evSs, evS, evE, evEs, evKs, evC, evI, evO, rd, entry, truth, scal, cmpD, opN, opSub, opF, opFs, opB, slOf, mkTup, mkLst, Tm.un, noL, noLs, apartS, disj, ioFree, PP.finish, iosOf, iosS, Kd.cl, Kd.dp, PL.kill_nil, PL.kill_cons, PL.killO_some, PL.killO_none, putIo, fstLst, PL.isL1, PL.isL2, PL.isL3, PL.isL4, PL.isL5, PL.isL6, intsT, PL.put1, grown, doCall, Prog.sigs, Df.sig, bindP, callRet, unionS, retTm, bindT, bindTs, seqOf, PP.listOf, forget, setAll, tyIs, tyOk, rngOf, siOf, isNon, isBl, hp, eqv]
    | _ => simp [nice] at hn
end
end PL

/-! PLPurse: the purse made of the script; checks of games; sizes of numbers. -/
namespace PL
open PP PySem
section
variable {Γ : Prog} {kws : Str → List (List Str)}
theorem cut_map (ns : List Int) (lo hi : Option Int) : cutD (ns.map D.int) lo hi = (((ns.drop (HT.sIx ns.length 0 lo)).take (HT.sIx ns.length ns.length hi - HT.sIx ns.length 0 lo)).map D.int) := by
  unfold cutD
  simp only [List.length_map, List.map_take, List.map_drop]
theorem cut_len (ns : List Int) (lo hi : Option Int) : ((ns.drop (HT.sIx ns.length 0 lo)).take (HT.sIx ns.length ns.length hi - HT.sIx ns.length 0 lo)).length ≤ ns.length := by
  simp only [List.length_take, List.length_drop]; omega
theorem v__law_purse (h : H__law_purse Γ kws) {n wf : Nat} {ns : List Int} (hl : ns.length ≤ 63) : ∃ p, Pu p 0 ∧ callN Γ wf (n + 1) "_law_purse" [.frz (ns.map D.int)] = some ⟨p, true, true, []⟩ := by
  have s100 : 1000 < sizeLine := by decide
  have s5 : 5 ≤ sizeLine := by decide
  have hcut := cut_map ns none (some 63)
  have hcl := cut_len ns none (some 63)
  generalize (ns.drop (HT.sIx ns.length 0 none)).take (HT.sIx ns.length ns.length (some 63) - HT.sIx ns.length 0 none) = ms at hcut hcl
  -- the seed
  have loop : ∀ (xs : List Int) (s : Int) (o : Option Sl), 0 ≤ s → s < 2 ^ 31 → ∃ s' o', 0 ≤ s' ∧ s' < 2 ^ 31 ∧ forLoop (fturn (callN Γ wf n) Γ.sigs wf [] (.nm 2) (.cons (.asg (.nm 1) (.bin .mod (.bif .int_ (.cons (.bin .add (.bin .mul (.var 1) (.con (.int (31)))) (.var 2)) .nil)) (.con (.int (2147483647))))) .nil) []) (xs.map D.int) [sl (.frz (ns.map D.int)), sl (.int s), o, none] = some (.nx [sl (.frz (ns.map D.int)), sl (.int s'), o', none]) := by
    intro xs
    induction xs with
    | nil => intro s o h0 h1; exact ⟨s, o, h0, h1, rfl⟩
    | cons x xs ih =>
      intro s o h0 h1
      obtain ⟨s', o', g1, g2, g3⟩ := ih ((s * 31 + x) % 2147483647) (sl (.int x)) (Int.emod_nonneg _ (by omega)) (by have := Int.emod_lt_of_pos (s * 31 + x) (show (0 : Int) < 2147483647 by omega); omega)
      refine ⟨s', o', g1, g2, ?_⟩
      have l1 := log_le (a := s) (e := 31) (by omega)
      have l2 : Nat.log2 31 ≤ 20 := by decide
      have l3 : s.natAbs.log2 + Nat.log2 31 < 1000000 := by omega
      rw [List.map_cons, forLoop]
      have one : fturn (callN Γ wf n) Γ.sigs wf [] (.nm 2) (.cons (.asg (.nm 1) (.bin .mod (.bif .int_ (.cons (.bin .add (.bin .mul (.var 1) (.con (.int (31)))) (.var 2)) .nil)) (.con (.int (2147483647))))) .nil) [] (.int x) [sl (.frz (ns.map D.int)), sl (.int s), o, none] = some (.nx [sl (.frz (ns.map D.int)), sl (.int ((s * 31 + x) % 2147483647)), sl (.int x), none]) := by
        simp [fturn, runFn, evSs, evS, evE, evEs, evKs, evC, evI, evO, rd, entry, truth, scal, cmpD, opN, opSub, opF, opFs, opB, slOf, mkTup, mkLst, Tm.un, noL, noLs, apartS, disj, ioFree, PP.finish, iosOf, iosS, Kd.cl, Kd.dp, PL.kill_nil, PL.kill_cons, PL.killO_some, PL.killO_none, putIo, fstLst, PL.isL1, PL.isL2, PL.isL3, PL.isL4, PL.isL5, PL.isL6, intsT, PL.put1, grown, doCall, Prog.sigs, Df.sig, bindP, callRet, unionS, retTm, bindT, bindTs, seqOf, PP.listOf, forget, setAll, tyIs, tyOk, rngOf, siOf, l3]
      simp only [one]
      exact g3
  obtain ⟨s, o, h0, h1, hf⟩ := loop ms 7 none (by omega) (by omega)
  have hfor : evS (callN Γ wf n) Γ.sigs wf [] x__law_purse_2 [sl (.frz (ns.map D.int)), sl (.int 7), none, none] = some (.nx [sl (.frz (ns.map D.int)), sl (.int s), o, none]) := ev_for (P := []) (w := ⟨ms.map D.int, [], []⟩) (by simp [runFn, evSs, evS, evE, evEs, evKs, evC, evI, evO, rd, entry, truth, scal, cmpD, opN, opSub, opF, opFs, opB, slOf, mkTup, mkLst, Tm.un, noL, noLs, apartS, disj, ioFree, PP.finish, iosOf, iosS, Kd.cl, Kd.dp, PL.kill_nil, PL.kill_cons, PL.killO_some, PL.killO_none, putIo, fstLst, PL.isL1, PL.isL2, PL.isL3, PL.isL4, PL.isL5, PL.isL6, intsT, PL.put1, grown, doCall, Prog.sigs, Df.sig, bindP, callRet, unionS, retTm, bindT, bindTs, seqOf, PP.listOf, forget, setAll, tyIs, tyOk, rngOf, siOf, opSlc, hcut, noLs_ints]) rfl hf
  have hcomp : ∀ o, evE (callN Γ wf n) Γ.sigs [] x__law_purse_1 [sl (.frz (ns.map D.int)), sl (.int s), o, none] = some (⟨.lst ((ms.filter fun v => decide (1000000000000000000 ≤ v)).map D.int), true, true, [], []⟩, [sl (.frz (ns.map D.int)), sl (.int s), none, none]) := fun o => by
    refine ev_fil ms D.int D.int (fun v => decide (1000000000000000000 ≤ v)) false false (S := []) (Si := []) rfl ?_ rfl (fun x hx => ⟨_, scal (.bl (decide (1000000000000000000 ≤ x))), rfl, ?_, rfl, rfl, fun _ => ⟨?_, rfl⟩⟩) (by omega)
    · simp [runFn, evSs, evS, evE, evEs, evKs, evC, evI, evO, rd, entry, truth, scal, cmpD, opN, opSub, opF, opFs, opB, slOf, mkTup, mkLst, Tm.un, noL, noLs, apartS, disj, ioFree, PP.finish, iosOf, iosS, Kd.cl, Kd.dp, PL.kill_nil, PL.kill_cons, PL.killO_some, PL.killO_none, putIo, fstLst, PL.isL1, PL.isL2, PL.isL3, PL.isL4, PL.isL5, PL.isL6, intsT, PL.put1, grown, doCall, Prog.sigs, Df.sig, bindP, callRet, unionS, retTm, bindT, bindTs, seqOf, PP.listOf, forget, setAll, tyIs, tyOk, rngOf, siOf, opSlc, hcut, noLs_ints]
    · simp [runFn, evSs, evS, evE, evEs, evKs, evC, evI, evO, rd, entry, truth, scal, cmpD, opN, opSub, opF, opFs, opB, slOf, mkTup, mkLst, Tm.un, noL, noLs, apartS, disj, ioFree, PP.finish, iosOf, iosS, Kd.cl, Kd.dp, PL.kill_nil, PL.kill_cons, PL.killO_some, PL.killO_none, putIo, fstLst, PL.isL1, PL.isL2, PL.isL3, PL.isL4, PL.isL5, PL.isL6, intsT, PL.put1, grown, doCall, Prog.sigs, Df.sig, bindP, callRet, unionS, retTm, bindT, bindTs, seqOf, PP.listOf, forget, setAll, tyIs, tyOk, rngOf, siOf]
    · simp [runFn, evSs, evS, evE, evEs, evKs, evC, evI, evO, rd, entry, truth, scal, cmpD, opN, opSub, opF, opFs, opB, slOf, mkTup, mkLst, Tm.un, noL, noLs, apartS, disj, ioFree, PP.finish, iosOf, iosS, Kd.cl, Kd.dp, PL.kill_nil, PL.kill_cons, PL.killO_some, PL.killO_none, putIo, fstLst, PL.isL1, PL.isL2, PL.isL3, PL.isL4, PL.isL5, PL.isL6, intsT, PL.put1, grown, doCall, Prog.sigs, Df.sig, bindP, callRet, unionS, retTm, bindT, bindTs, seqOf, PP.listOf, forget, setAll, tyIs, tyOk, rngOf, siOf]
  refine ⟨_, ⟨ms.filter fun v => decide (1000000000000000000 ≤ v), 0, 0, 0, s, rfl, ⟨fun v hv => by simpa using (List.mem_filter.mp hv).2, by omega, by omega, by omega, h0, h1⟩⟩, ?_⟩
  rw [callN]
  generalize hx1 : x__law_purse_1 = x1 at hcomp
  generalize hx2 : x__law_purse_2 = x2 at hfor
  simp [h, c__law_purse, hx1, hx2, runFn, evSs, evS, evE, evEs, evKs, evC, evI, evO, rd, entry, truth, scal, cmpD, opN, opSub, opF, opFs, opB, slOf, mkTup, mkLst, Tm.un, noL, noLs, apartS, disj, ioFree, PP.finish, iosOf, iosS, Kd.cl, Kd.dp, PL.kill_nil, PL.kill_cons, PL.killO_some, PL.killO_none, putIo, fstLst, PL.isL1, PL.isL2, PL.isL3, PL.isL4, PL.isL5, PL.isL6, intsT, PL.put1, grown, doCall, Prog.sigs, Df.sig, bindP, callRet, unionS, retTm, bindT, bindTs, seqOf, PP.listOf, forget, setAll, tyIs, tyOk, rngOf, siOf, hfor, hcomp, s5, purse]
theorem v_check_game (H : HG Γ kws) {n wf : Nat} {ss : List Int} {rows : List (List Rat)} (g : Game ss rows) (hd : ∀ row ∈ rows, ∀ r ∈ row, r.den < wf) : callN Γ wf (n + 5) "check_game" [gameD ss rows] = some ⟨.non, false, false, []⟩ := by
  have hg := v_is_game_by H (n := n) g hd
  rw [callN]
  simp [H.check_game, c_check_game, runFn, evSs, evS, evE, evEs, evKs, evC, evI, evO, rd, entry, truth, scal, cmpD, opN, opSub, opF, opFs, opB, slOf, mkTup, mkLst, Tm.un, noL, noLs, apartS, disj, ioFree, PP.finish, iosOf, iosS, Kd.cl, Kd.dp, PL.kill_nil, PL.kill_cons, PL.killO_some, PL.killO_none, putIo, fstLst, PL.isL1, PL.isL2, PL.isL3, PL.isL4, PL.isL5, PL.isL6, intsT, PL.put1, grown, doCall, Prog.sigs, Df.sig, bindP, callRet, unionS, retTm, bindT, bindTs, seqOf, PP.listOf, forget, setAll, tyIs, tyOk, rngOf, siOf, H.is_game_by, hg]
theorem v_check_two (h : H_check_two Γ kws) (H : HG Γ kws) {n wf : Nat} {ss : List Int} {rows : List (List Rat)} (g : Game ss rows) (hl : ss.length = 2) (hd : ∀ row ∈ rows, ∀ r ∈ row, r.den < wf) : callN Γ wf (n + 6) "check_two" [gameD ss rows] = some ⟨.non, false, false, []⟩ := by
  have hg := v_check_game H (n := n) g hd
  rw [callN]
  simp [h, c_check_two, runFn, evSs, evS, evE, evEs, evKs, evC, evI, evO, rd, entry, truth, scal, cmpD, opN, opSub, opF, opFs, opB, slOf, mkTup, mkLst, Tm.un, noL, noLs, apartS, disj, ioFree, PP.finish, iosOf, iosS, Kd.cl, Kd.dp, PL.kill_nil, PL.kill_cons, PL.killO_some, PL.killO_none, putIo, fstLst, PL.isL1, PL.isL2, PL.isL3, PL.isL4, PL.isL5, PL.isL6, intsT, PL.put1, grown, doCall, Prog.sigs, Df.sig, bindP, callRet, unionS, retTm, bindT, bindTs, seqOf, PP.listOf, forget, setAll, tyIs, tyOk, rngOf, siOf, H.check_game, hg, L2.atI, L2.ixN, hl, plain_int, eqv]
end
/-- a number of sizes M, N: so many Mths, at most N of them -/
structure Sz (M N : Nat) (r : Rat) : Prop where
  pos : 0 < M
  ex : ∃ k : Int, r * M = k ∧ k.natAbs ≤ N
theorem Sz.num {M N : Nat} {r : Rat} (h : Sz M N r) : r.num.natAbs ≤ N ∧ r.den ≤ M := by
  obtain ⟨k, e, hk⟩ := h.ex
  have hM := h.pos
  have e1 : r.num * (M : Int) = k * (r.den : Int) := by
    have h2 : (Rat.divInt r.num r.den) * (Rat.divInt M 1) = Rat.divInt k 1 := by
      have c1 : ∀ n : Int, Rat.divInt n 1 = (n : Rat) := fun n => by simp [Rat.divInt, Rat.mkRat_one]
      rw [Rat.num_divInt_den, c1, c1]
      exact_mod_cast e
    rw [Rat.divInt_mul_divInt] at h2
    have hd : (r.den : Int) ≠ 0 := by have := r.den_nz; omega
    rw [Rat.divInt_eq_divInt_iff (by simpa using hd) (by omega)] at h2
    simpa using h2
  have e2 : r.num.natAbs * M = k.natAbs * r.den := by
    have := congrArg Int.natAbs e1
    simpa [Int.natAbs_mul] using this
  have hdvd : r.den ∣ M := by
    have : r.den ∣ r.num.natAbs * M := ⟨k.natAbs, by rw [e2, Nat.mul_comm]⟩
    exact (Nat.Coprime.symm r.reduced).dvd_of_dvd_mul_left this
  have hle := Nat.le_of_dvd hM hdvd
  refine ⟨?_, hle⟩
  have h3 : r.num.natAbs * M ≤ k.natAbs * M := by
    rw [e2]; exact Nat.mul_le_mul_left _ hle
  have := Nat.le_of_mul_le_mul_right h3 hM
  omega
theorem Sz.fits {M N : Nat} {r : Rat} (h : Sz M N r) (hm : M < 2 ^ 4000) (hn : N < 2 ^ 4000) : Fits r := ⟨by have := h.num.1; omega, by have := h.num.2; omega⟩
theorem Sz.mono {M N N' : Nat} {r : Rat} (h : Sz M N r) (hn : N ≤ N') : Sz M N' r := ⟨h.pos, let ⟨k, e, hk⟩ := h.ex; ⟨k, e, by omega⟩⟩
theorem Sz.up {M N : Nat} {r : Rat} (h : Sz M N r) {k : Nat} (hk : 0 < k) : Sz (M * k) (N * k) r := by
  obtain ⟨a, e, ha⟩ := h.ex
  refine ⟨Nat.mul_pos h.pos hk, a * k, ?_, ?_⟩
  · rw [Rat.natCast_mul, ← Rat.mul_assoc, e, Rat.intCast_mul]; rfl
  · rw [Int.natAbs_mul, Int.natAbs_natCast]; exact Nat.mul_le_mul_right _ ha
theorem Sz.add {M N N' : Nat} {x y : Rat} (h : Sz M N x) (k : Sz M N' y) : Sz M (N + N') (x + y) := by
  obtain ⟨a, e, ha⟩ := h.ex
  obtain ⟨b, f, hb⟩ := k.ex
  refine ⟨h.pos, a + b, ?_, ?_⟩
  · rw [Rat.add_mul, e, f, Rat.intCast_add]
  · have := Int.natAbs_add_le a b; omega
theorem Sz.neg {M N : Nat} {x : Rat} (h : Sz M N x) : Sz M N (-x) := by
  obtain ⟨a, e, ha⟩ := h.ex
  refine ⟨h.pos, -a, ?_, by simpa using ha⟩
  rw [Rat.neg_mul, e, Rat.intCast_neg]
theorem Sz.sub {M N N' : Nat} {x y : Rat} (h : Sz M N x) (k : Sz M N' y) : Sz M (N + N') (x - y) := by
  rw [Rat.sub_eq_add_neg]; exact h.add k.neg
theorem Sz.mul {M N M' N' : Nat} {x y : Rat} (h : Sz M N x) (k : Sz M' N' y) : Sz (M * M') (N * N') (x * y) := by
  obtain ⟨a, e, ha⟩ := h.ex
  obtain ⟨b, f, hb⟩ := k.ex
  refine ⟨Nat.mul_pos h.pos k.pos, a * b, ?_, ?_⟩
  · rw [Rat.natCast_mul, Rat.intCast_mul, ← e, ← f]; grind
  · rw [Int.natAbs_mul]; exact Nat.mul_le_mul ha hb
end PL

/-! PLNice: data of games are nice: they may be shown, compared, asked about. -/
namespace PL
open PP PySem
theorem nices_map {α : Type} (f : α → D) : ∀ xs : List α, (∀ x ∈ xs, nice (f x) = true) → nices (xs.map f) = true
  | [], _ => rfl
  | x :: xs, h => by
    simp only [List.map_cons, nices, h x List.mem_cons_self, nices_map f xs fun y hy => h y (List.mem_cons_of_mem _ hy)]; rfl
theorem fines_map {α : Type} (f : α → D) : ∀ xs : List α, (∀ x ∈ xs, fine (f x) = true) → fines (xs.map f) = true
  | [], _ => rfl
  | x :: xs, h => by
    simp only [List.map_cons, fines, h x List.mem_cons_self, fines_map f xs fun y hy => h y (List.mem_cons_of_mem _ hy)]; rfl
theorem deps_map {α : Type} (f : α → D) {k : Nat} : ∀ xs : List α, (∀ x ∈ xs, dep (f x) ≤ k) → deps (xs.map f) ≤ k
  | [], _ => Nat.zero_le _
  | x :: xs, h => by
    have h1 := h x List.mem_cons_self
    have h2 := deps_map f xs fun y hy => h y (List.mem_cons_of_mem _ hy)
    simp only [List.map_cons, deps]; omega
theorem wts_map {α : Type} (f : α → D) {k : Nat} : ∀ xs : List α, (∀ x ∈ xs, wt (f x) ≤ k) → wts (xs.map f) ≤ xs.length * (k + 2)
  | [], _ => Nat.zero_le _
  | x :: xs, h => by
    have h1 := h x List.mem_cons_self
    have h2 := wts_map f xs fun y hy => h y (List.mem_cons_of_mem _ hy)
    simp only [List.map_cons, wts, List.length_cons, Nat.succ_mul]; omega
/-- the last item is no text -/
theorem lastOk_map {α : Type} (f : α → D) (h : ∀ x t, f x ≠ .str t) (xs : List α) : lastOk (xs.map f) = true := by
  unfold lastOk
  rw [List.getLast?_map]
  cases hx : xs.getLast? with
  | none => rfl
  | some x =>
    simp only [Option.map_some]
    split
    · rename_i t e
      exact absurd (Option.some.inj e) (h x t)
    · rfl
/-- a number that may be shown -/
def Shows (r : Rat) : Prop := r.num.natAbs < 2 ^ 1900 ∧ r.den < 2 ^ 1900
theorem nice_fr {r : Rat} (h : Shows r) : nice (fr r) = true := by
  simp only [fr, nice, nices, Bool.and_eq_true, decide_eq_true_eq, Bool.and_true, Int.natAbs_natCast]
  exact h
theorem fine_fr (r : Rat) : fine (fr r) = true := by simp [fr, fine, fines]
theorem dep_fr (r : Rat) : dep (fr r) = 1 := by simp [fr, dep, deps]
theorem wt_fr (r : Rat) : wt (fr r) = 1407 := by simp [fr, wt, wts]
theorem fr_nstr (x : Rat) (t : Str) : fr x ≠ .str t := by unfold fr; exact fun h => nomatch h
theorem nice_frs {rs : List Rat} (h : ∀ r ∈ rs, Shows r) : nice (frs rs) = true := by
  simp only [nice]; exact nices_map fr rs fun r hr => nice_fr (h r hr)
theorem fine_frs {rs : List Rat} (h : rs.length < 1000000) : fine (frs rs) = true := by
  simp only [fine, List.length_map, h, lastOk_map fr fr_nstr, fines_map fr rs fun r _ => fine_fr r]; rfl
theorem dep_frs (rs : List Rat) : dep (frs rs) ≤ 2 := by
  have := deps_map fr (k := 1) rs fun r _ => by rw [dep_fr]; omega
  simp only [dep]; omega
theorem wt_frs (rs : List Rat) : wt (frs rs) ≤ 3 + rs.length * 1409 := by
  have := wts_map fr (k := 1407) rs fun r _ => by rw [wt_fr]; omega
  simp only [wt]; omega
theorem nice_ints {ss : List Int} (h : ∀ s ∈ ss, s.natAbs < 2 ^ 1900) : nice (intL ss) = true := by
  simp only [nice]; exact nices_map D.int ss fun s hs => by simpa [nice] using h s hs
theorem fine_ints {ss : List Int} (h : ss.length < 1000000) : fine (intL ss) = true := by
  simp only [fine, List.length_map, h, lastOk_map D.int (fun _ _ h => nomatch h), fines_map D.int ss fun r _ => by simp [fine]]; rfl
theorem dep_ints (ss : List Int) : dep (intL ss) ≤ 1 := by
  have := deps_map D.int (k := 0) ss fun r _ => by simp [dep]
  simp only [dep]; omega
theorem wt_ints (ss : List Int) : wt (intL ss) ≤ 3 + ss.length * 702 := by
  have := wts_map D.int (k := 700) ss fun r _ => by simp [wt]
  simp only [wt]; omega
theorem nice_game0 : nice (.str "game") = true := by kernel_rfl
theorem Sizes.small {ss : List Int} (h : Sizes ss) : (∀ s ∈ ss, s.natAbs < 2 ^ 1900) ∧ ss.length ≤ 3 ∧ 2 ≤ ss.length := by
  refine ⟨fun s hs => ?_, ?_, ?_⟩
  · have := h.rng s hs
    have h2 : 4 < 2 ^ 1900 := by decide +kernel
    omega
  · rcases h.len with ⟨a, b, rfl⟩ | ⟨a, b, c, rfl⟩ <;> simp
  · rcases h.len with ⟨a, b, rfl⟩ | ⟨a, b, c, rfl⟩ <;> simp
theorem Game.row_len {ss : List Int} {rows : List (List Rat)} (g : Game ss rows) {r : List Rat} (h : r ∈ rows) : r.length ≤ 27 := by
  have := g.row r h
  have := g.sz.most
  omega
theorem game_nice {ss : List Int} {rows : List (List Rat)} (g : Game ss rows) (h : ∀ row ∈ rows, ∀ r ∈ row, Shows r) : nice (gameD ss rows) = true ∧ fine (gameD ss rows) = true ∧ dep (gameD ss rows) ≤ 4 ∧ wt (gameD ss rows) ≤ 200000 := by
  obtain ⟨h1, h2, h3⟩ := g.sz.small
  have hl := g.len
  refine ⟨?_, ?_, ?_, ?_⟩
  · have a := nice_ints h1
    have b : nice (.lst (rows.map frs)) = true := by simp only [nice]; exact nices_map frs rows fun r hr => nice_frs (h r hr)
    show (nice (.str "game") && (nice (intL ss) && (nice (.lst (rows.map frs)) && true))) = true
    rw [nice_game0, a, b]; rfl
  · have a := fine_ints (ss := ss) (by omega)
    have b : fine (.lst (rows.map frs)) = true := by
      simp only [fine, List.length_map, show rows.length < 1000000 by omega, lastOk_map frs (fun _ _ h => nomatch h), fines_map frs rows fun r hr => fine_frs (by have := g.row_len hr; omega)]; rfl
    show (decide (3 < 1000000) && (fine (.str "game") && (fine (intL ss) && (fine (.lst (rows.map frs)) && true)))) = true
    rw [a, b]; rfl
  · have a := dep_ints ss
    have b := deps_map frs (k := 2) rows fun r _ => dep_frs r
    simp only [dep, deps] at a ⊢
    omega
  · have a := wt_ints ss
    have b := wts_map frs (k := 39000) rows fun r hr => by have := wt_frs r; have := g.row_len hr; omega
    simp only [wt, wts] at a ⊢
    have c : rows.length * (39000 + 2) ≤ 3 * 39002 := Nat.mul_le_mul_right _ (by omega)
    have d : ss.length * 702 ≤ 3 * 702 := Nat.mul_le_mul_right _ h2
    omega
theorem mul_den (r : Rat) : r * (r.den : Rat) = r.num := by
  have c1 : ∀ n : Int, Rat.divInt n 1 = (n : Rat) := fun n => by simp [Rat.divInt, Rat.mkRat_one]
  have hd : (r.den : Int) ≠ 0 := by have := r.den_nz; omega
  have h : Rat.divInt r.num r.den * Rat.divInt (r.den : Int) 1 = Rat.divInt r.num 1 := by
    rw [Rat.divInt_mul_divInt, Rat.divInt_eq_divInt_iff (by simpa using hd) (by omega)]
    simp
  rw [Rat.num_divInt_den, c1, c1] at h
  exact_mod_cast h
theorem Sz.of {M N : Nat} {r : Rat} (h0 : 0 < M) (hd : M % r.den = 0) (hn : r.num.natAbs * (M / r.den) ≤ N) : Sz M N r := by
  refine ⟨h0, r.num * (M / r.den : Nat), ?_, ?_⟩
  · have e : M = r.den * (M / r.den) := (Nat.mul_div_cancel' (Nat.dvd_of_mod_eq_zero hd)).symm
    have e2 : r * (r.den : Rat) = r.num := mul_den r
    generalize M / r.den = q at e ⊢
    rw [e, Rat.natCast_mul, ← Rat.mul_assoc, e2, Rat.intCast_mul]; rfl
  · rw [Int.natAbs_mul, Int.natAbs_natCast]; exact hn
theorem Sz.shows {M N : Nat} {r : Rat} (h : Sz M N r) (hm : M < 2 ^ 1900) (hn : N < 2 ^ 1900) : Shows r := ⟨by have := h.num.1; omega, by have := h.num.2; omega⟩
end PL

namespace K15
open PP PySem PySem.Spec PyProof.Rows L2
abbrev P : Program := PySem.Challenge.pw_gamestold_k15_whole_two_parts_of_games
abbrev L : PySem.W.OpenLaw := PySem.Challenge.rw_gamestold_k15_whole_two_parts_of_games
def lawIx : Nat := P.main.body.length - 1
def boundNames (s : Stmt) : List Str := match s with
  | .FunctionDef n _ _ _ _ _ _ _ _ _ => [n]
  | .ClassDef n _ _ _ _ _ _ _ _ _ _ => [n]
  | .Assign [.Name n _] _ _ => [n]
  | _ => []
def loose : List Str := ((P.main.body.take lawIx).flatMap boundNames).eraseDups
def fn : List He.DefD := defsOf P.main.body
def fa : List He.Fa := factsOf P
abbrev R : PySem.W.OpenRow := PySem.W.OpenLaw.row L
abbrev hk : PySem.W.Hook := He.hookX 4 fa fn [] [] (moreOf P)
def ob (s : PySem.W.SharedT) : He.AlX := He.obsX 4 fa fn [] [] (moreOf P) (HandSHeadRun.getT s)
theorem ob_eq (s : PySem.W.SharedT) : ob s = hk.obs s.abs := He.obsX_eq (HandSHeadRun.getT_eq s)
theorem run (w : World) : HandSHeadRun.RunEq R (PySem.W.view R.prog [lawIx]) hk ob 3000 loose w := by
  intro os
  kernel_rfl
def ioT : List (Str × List Nat) := [("_law_number", [0]), ("_law_game", [0]), ("_law_draw", [0]), ("_law_pick", [0])]
def kwT : List (Str × List (List Str)) := [("two_parts", [["game"]])]
theorem chk : chkText P = true := by kernel_rfl
theorem spchk : spChk P = true := by kernel_rfl
def kws (f : Str) : List (List Str) := (kwT.lookup f).getD []
def Γ : Prog := progOf P ioT kwT spPrims
theorem kwok : KwOk P ioT kwT := kw_of (by kernel_rfl) (by kernel_rfl)
theorem h_spoilt : Γ "_law_spoilt" = some (.prim spSig spoilt) := by kernel_rfl
end K15

namespace K15
open PP PySem PL

theorem h_is_whole : H_is_whole Γ kws := by kernel_rfl

theorem h_common_divisor : H_common_divisor Γ kws := by kernel_rfl

theorem h_lowest : H_lowest Γ kws := by kernel_rfl

theorem h_is_fraction : H_is_fraction Γ kws := by kernel_rfl

theorem h_are_fractions : H_are_fractions Γ kws := by kernel_rfl

theorem h_plus : H_plus Γ kws := by kernel_rfl

theorem h_less : H_less Γ kws := by kernel_rfl

theorem h_times : H_times Γ kws := by kernel_rfl

theorem h_are_sizes_by : H_are_sizes_by Γ kws := by kernel_rfl

theorem h_how_many : H_how_many Γ kws := by kernel_rfl

theorem h_is_game_by : H_is_game_by Γ kws := by kernel_rfl

theorem h_check_game : H_check_game Γ kws := by kernel_rfl

theorem h_check_two : H_check_two Γ kws := by kernel_rfl

def x_two_parts_1 : E := (.comp [7, 10] (.call "times" none (.cons (.tup (.cons (.neg (.con (.int (1)))) (.cons (.con (.int (1))) .nil))) (.cons (.var 10) .nil)) .nil) (.nm 10) (.seq (.var 4)) .no)
def x_two_parts_2 : E := (.comp [7, 8, 9] (.call "times" none (.cons (.con (.tup [(.int (1)), (.int (2))])) (.cons (.call "less" (some 8) (.cons (.var 8) (.cons (.var 9) .nil)) .nil) .nil)) .nil) (.tp [(.nm 8), (.nm 9)]) (.zip (.var 1) (.var 2) true) .no)
def x_two_parts_3 : E := (.comp [7, 8, 9] (.call "times" none (.cons (.con (.tup [(.int (1)), (.int (2))])) (.cons (.call "plus" (some 8) (.cons (.var 8) (.cons (.var 9) .nil)) .nil) .nil)) .nil) (.tp [(.nm 8), (.nm 9)]) (.zip (.var 1) (.var 2) true) .no)
def c_two_parts : Fn := ⟨1, 11, [],
    (.cons (.ex (.call "check_two" (some 0) (.cons (.var 0) .nil) .nil))
    (.cons (.asg (.tp [(.nm 1), (.nm 2)]) (.sub (.var 0) (.con (.int (2)))))
    (.cons (.asg (.nm 3) x_two_parts_3)
    (.cons (.asg (.nm 4) x_two_parts_2)
    (.cons (.asg (.nm 5) x_two_parts_1)
    (.cons (.asg (.nm 6) (.sub (.var 0) (.con (.int (1)))))
    (.cons (.ret (.tup (.cons (.tup (.cons (.con (.str "game")) (.cons (.bif .list_ (.cons (.var 6) .nil)) (.cons (.lst (.cons (.var 3) (.cons (.bif .list_ (.cons (.var 3) .nil)) .nil))) .nil)))) (.cons (.tup (.cons (.con (.str "game")) (.cons (.bif .list_ (.cons (.var 6) .nil)) (.cons (.lst (.cons (.var 4) (.cons (.var 5) .nil))) .nil)))) .nil))))
    .nil)))))))⟩
theorem h_two_parts : Γ "two_parts" = some (.code ⟨["game"], [], [], kws "two_parts"⟩ c_two_parts) := by kernel_rfl

theorem h__law_number : H__law_number Γ kws := by kernel_rfl

theorem h__law_profiles : H__law_profiles Γ kws := by kernel_rfl

theorem h__law_game : H__law_game Γ kws := by kernel_rfl

theorem h__law_divisor : H__law_divisor Γ kws := by kernel_rfl

theorem h__law_by : H__law_by Γ kws := by kernel_rfl

theorem h__law_plus : H__law_plus Γ kws := by kernel_rfl

theorem h__law_minus : H__law_minus Γ kws := by kernel_rfl

theorem h__law_times : H__law_times Γ kws := by kernel_rfl

theorem h__law_same : H__law_same Γ kws := by kernel_rfl

theorem h__law_purse : H__law_purse Γ kws := by kernel_rfl

theorem h__law_draw : H__law_draw Γ kws := by kernel_rfl

theorem h__law_pick : H__law_pick Γ kws := by kernel_rfl

def x_law_1 : E := (.comp [11, 12, 14] (.call "_law_plus" (some 12) (.cons (.var 12) (.cons (.var 14) .nil)) .nil) (.tp [(.nm 12), (.nm 14)]) (.zip (.sub (.sub (.sub (.var 8) (.con (.int (0)))) (.con (.int (2)))) (.var 15)) (.sub (.sub (.sub (.var 8) (.con (.int (1)))) (.con (.int (2)))) (.var 15)) false) .no)
def x_law_2 : E := (.comp [11, 15] x_law_1 (.nm 15) (.rng (.cons (.con (.int (2))) .nil)) .no)
def x_law_3 : E := (.comp [11, 12] (.call "_law_times" none (.cons (.tup (.cons (.neg (.con (.int (1)))) (.cons (.con (.int (1))) .nil))) (.cons (.var 12) .nil)) .nil) (.nm 12) (.seq (.var 7)) .no)
def x_law_4 : E := (.comp [11, 12, 14] (.call "_law_minus" (some 12) (.cons (.var 12) (.cons (.var 14) .nil)) .nil) (.tp [(.nm 12), (.nm 14)]) (.zip (.sub (.sub (.var 4) (.con (.int (2)))) (.con (.int (0)))) (.var 6) false) .no)
def x_law_5 : E := (.comp [11, 12, 14] (.call "_law_times" none (.cons (.tup (.cons (.con (.int (1))) (.cons (.con (.int (2))) .nil))) (.cons (.call "_law_plus" (some 12) (.cons (.var 12) (.cons (.var 14) .nil)) .nil) .nil)) .nil) (.tp [(.nm 12), (.nm 14)]) (.zip (.sub (.sub (.var 4) (.con (.int (2)))) (.con (.int (0)))) (.sub (.sub (.var 4) (.con (.int (2)))) (.con (.int (1)))) false) .no)
def x_law_6 : E := (.comp [11, 12] (.call "_law_pick" (some 1) (.cons (.var 1) (.cons (.lst (.cons (.tup (.cons (.con (.int (999999999))) (.cons (.con (.int (1))) .nil))) (.cons (.tup (.cons (.con (.int (1))) (.cons (.con (.int (999999999))) .nil))) (.cons (.tup (.cons (.neg (.con (.int (999999998)))) (.cons (.con (.int (999999999))) .nil))) .nil)))) .nil)) .nil) (.nm 12) (.seq (.var 13)) .no)
def x_law_7 : E := (.comp [11, 13] x_law_6 (.nm 13) (.seq (.sub (.var 4) (.con (.int (2))))) .no)
def x_law_8 : E := (.comp [11, 12] (.call "_law_times" none (.cons (.tup (.cons (.bin .sub (.con (.int (3))) (.bin .mul (.con (.int (2))) (.var 2))) (.cons (.con (.int (1))) .nil))) (.cons (.var 12) .nil)) .nil) (.nm 12) (.seq (.sub (.sub (.var 4) (.con (.int (2)))) (.con (.int (0))))) .no)
def x_law_9 : S := (.for_ (.nm 2) (.rng (.cons (.con (.int (10))) .nil)) (.cons (.asg (.nm 3) (.lst (.cons (.bin .add (.con (.int (1))) (.call "_law_draw" (some 1) (.cons (.var 1) (.cons (.con (.int (4))) .nil)) .nil)) (.cons (.bin .add (.con (.int (1))) (.call "_law_draw" (some 1) (.cons (.var 1) (.cons (.con (.int (4))) .nil)) .nil)) .nil))))
    (.cons (.asg (.nm 4) (.call "_law_game" (some 1) (.cons (.var 1) (.cons (.var 3) .nil)) .nil))
    (.cons (.if_ (.cmp .in_ (.var 2) (.lst (.cons (.con (.int (1))) (.cons (.con (.int (2))) .nil)))) (.cons (.asg (.nm 4) (.tup (.cons (.con (.str "game")) (.cons (.var 3) (.cons (.lst (.cons (.sub (.sub (.var 4) (.con (.int (2)))) (.con (.int (0)))) (.cons x_law_8 .nil))) .nil)))))
    .nil) .nil)
    (.cons (.if_ (.cmp .eq (.var 2) (.con (.int (3)))) (.cons (.asg (.nm 4) (.tup (.cons (.con (.str "game")) (.cons (.var 3) (.cons x_law_7 .nil)))))
    .nil) .nil)
    (.cons (.asg (.nm 5) (.bif .repr_ (.cons (.var 4) .nil)))
    (.cons (.asg (.nm 6) x_law_5)
    (.cons (.asg (.nm 7) x_law_4)
    (.cons (.asg (.nm 8) (.tup (.cons (.tup (.cons (.con (.str "game")) (.cons (.var 3) (.cons (.lst (.cons (.var 6) (.cons (.var 6) .nil))) .nil)))) (.cons (.tup (.cons (.con (.str "game")) (.cons (.var 3) (.cons (.lst (.cons (.var 7) (.cons x_law_3 .nil))) .nil)))) .nil))))
    (.cons (.asg (.nm 9) (.call "two_parts" (some 4) (.cons (.var 4) .nil) .nil))
    (.cons (.if_ (.or_ (.not_ (.call "_law_same" none (.cons (.lst (.cons (.var 9) (.cons (.call "two_parts" none .nil (.cons "game" (.var 4) .nil)) .nil))) (.cons (.lst (.cons (.var 8) (.cons (.var 8) .nil))) .nil)) .nil)) (.or_ (.not_ (.call "_law_spoilt" none (.cons (.lst (.cons (.var 9) .nil)) .nil) .nil)) (.cmp .ne (.bif .repr_ (.cons (.var 4) .nil)) (.var 5)))) (.cons (.ret (.con (.bl false)))
    .nil) .nil)
    (.cons (.asg (.nm 10) x_law_2)
    (.cons (.if_ (.cmp .ne (.var 10) (.sub (.var 4) (.con (.int (2))))) (.cons (.ret (.con (.bl false)))
    .nil) .nil)
    .nil)))))))))))))
def c_law : Fn := ⟨1, 16, [],
    (.cons (.asg (.nm 1) (.call "_law_purse" (some 0) (.cons (.var 0) .nil) .nil))
    (.cons x_law_9
    (.cons (.ret (.con (.bl true)))
    .nil)))⟩
theorem h_law : Γ "law" = some (.code ⟨["script"], [], [], kws "law"⟩ c_law) := by kernel_rfl

end K15

namespace K15
open PP PySem PL
def wf : Nat := 2 ^ 8000
theorem wf_le : 2 ^ 8000 ≤ wf := Nat.le_refl _
theorem HGok : HG Γ kws := ⟨h_is_whole, h_common_divisor, h_lowest, h_is_fraction, h_are_fractions, h_are_sizes_by, h_how_many, h_is_game_by, h_check_game⟩
theorem HDok : HD Γ kws := ⟨h__law_draw, h__law_pick, h__law_number⟩
theorem fr_one : fr 1 = .tup [.int 1, .int 1] := by kernel_rfl
theorem fr_half : fr (1 / 2) = .tup [.int 1, .int 2] := by kernel_rfl
theorem fr_mone : fr (-1) = .tup [.int (-1), .int 1] := by kernel_rfl
theorem f_half : Fits (1 / 2) := ⟨by decide +kernel, by decide +kernel⟩
theorem f_one : Fits 1 := ⟨by decide +kernel, by decide +kernel⟩
theorem f_mone : Fits (-1) := ⟨by decide +kernel, by decide +kernel⟩
/-- sizes of all numbers of the games -/
def MM : Nat := 5999999994
def NN : Nat := 10 ^ 20
abbrev B (r : Rat) : Prop := Sz MM NN r
theorem m_lt {a : Nat} (h : a ≤ 10 ^ 60) : a < 2 ^ 4000 := Nat.lt_of_le_of_lt h (by decide +kernel)
theorem m_lt2 {a : Nat} (h : a ≤ 10 ^ 60) : a < 2 ^ 1900 := Nat.lt_of_le_of_lt h (by decide +kernel)
theorem z_half : Sz 2 1 (1 / 2 : Rat) := .of (by decide) (by decide +kernel) (by decide +kernel)
theorem z_mone : Sz 1 1 (-1 : Rat) := .of (by decide) (by decide +kernel) (by decide +kernel)
theorem b_add {x y : Rat} (hx : B x) (hy : B y) : Sz MM (NN + NN) (x + y) := hx.add hy
theorem b_sub {x y : Rat} (hx : B x) (hy : B y) : Sz MM (NN + NN) (x - y) := hx.sub hy
theorem b_al {x y : Rat} (hx : B x) (hy : B y) : Sz (2 * MM) (1 * (NN + NN)) (1 / 2 * (x + y)) := z_half.mul (b_add hx hy)
theorem b_ap {x y : Rat} (hx : B x) (hy : B y) : Sz (2 * MM) (1 * (NN + NN)) (1 / 2 * (x - y)) := z_half.mul (b_sub hx hy)
theorem b_fit {x : Rat} (hx : B x) : Fits x := hx.fits (m_lt (by decide)) (m_lt (by decide))
theorem b_shows {x : Rat} (hx : B x) : Shows x := hx.shows (m_lt2 (by decide)) (m_lt2 (by decide))
theorem c_fit {x : Rat} {k : Nat} (hk : k ≤ 100 * NN) (hx : Sz (2 * MM) k x) : Fits x := hx.fits (m_lt (by decide)) (m_lt (Nat.le_trans hk (by decide)))
theorem c_shows {x : Rat} {k : Nat} (hk : k ≤ 100 * NN) (hx : Sz (2 * MM) k x) : Shows x := hx.shows (m_lt2 (by decide)) (m_lt2 (Nat.le_trans hk (by decide)))
def al (r1 r2 : List Rat) : List Rat := (r1.zip r2).map fun p => 1 / 2 * (p.1 + p.2)
def ap (r1 r2 : List Rat) : List Rat := (r1.zip r2).map fun p => 1 / 2 * (p.1 - p.2)
def bk (r1 r2 : List Rat) : List Rat := (ap r1 r2).map fun x => -1 * x
/-- what is due -/
def due (ss : List Int) (r1 r2 : List Rat) : D := .tup [gameD ss [al r1 r2, al r1 r2], gameD ss [ap r1 r2, bk r1 r2]]
theorem mem_zip {r1 r2 : List Rat} {p : Rat × Rat} (h : p ∈ r1.zip r2) : p.1 ∈ r1 ∧ p.2 ∈ r2 := List.of_mem_zip h
/-- the program -/
theorem v_two_parts {n : Nat} {a b : Int} {r1 r2 : List Rat} (g : Game [a, b] [r1, r2]) (h1 : ∀ r ∈ r1, B r) (h2 : ∀ r ∈ r2, B r) : callN Γ wf (n + 7) "two_parts" [gameD [a, b] [r1, r2]] = some ⟨due [a, b] r1 r2, false, true, []⟩ := by
  have hd : ∀ row ∈ [r1, r2], ∀ r ∈ row, r.den < wf := fun row hrow r hr => by
    have hb : B r := by
      rcases List.mem_cons.mp hrow with rfl | hrow
      · exact h1 r hr
      · rw [List.mem_singleton.mp hrow] at hr; exact h2 r hr
    have := (b_fit hb).d
    have : 2 ^ 4000 ≤ wf := by unfold wf; exact Nat.pow_le_pow_right (by decide) (by decide)
    omega
  have hct := v_check_two h_check_two HGok (n := n) g rfl hd
  have l1 : r1.length ≤ 27 := g.row_len (by simp)
  have l2 : r2.length ≤ 27 := g.row_len (by simp)
  have hl : r1.length = r2.length := by
    have a := g.row r1 (by simp)
    have b := g.row r2 (by simp)
    omega
  have s100 : 100 < sizeLine := by decide
  have s3 : 3 ≤ sizeLine := by decide
  have s2 : 2 ≤ sizeLine := by decide
  have lz : (r1.zip r2).length ≤ 27 := by simp only [List.length_zip]; omega
  have hal : (al r1 r2).length ≤ 27 := by unfold al; simpa using lz
  have hap : (ap r1 r2).length ≤ 27 := by unfold ap; simpa using lz
  generalize hG : gameD [a, b] [r1, r2] = G at hct
  have c3 : ∀ o3 o4 o5 o6, evE (callN Γ wf (n + 6)) Γ.sigs [] x_two_parts_3 [sl G, sl (frs r1), sl (frs r2), o3, o4, o5, o6, none, none, none, none] = some (⟨frs (al r1 r2), true, true, [], []⟩, [sl G, sl (frs r1), sl (frs r2), o3, o4, o5, o6, none, none, none, none]) := fun o3 o4 o5 o6 => by
    have e : frs (al r1 r2) = .lst ((r1.zip r2).map fun p => fr (1 / 2 * (p.1 + p.2))) := by unfold al; simp [Function.comp_def]
    rw [e]
    refine ev_map (r1.zip r2) (fun p => .tup [fr p.1, fr p.2]) (fun p => fr (1 / 2 * (p.1 + p.2))) false true (S := []) (Si := []) rfl ?_ rfl (fun p hp => ⟨_, rfl, ?_, rfl, rfl⟩) (by omega)
    · simp [runFn, evSs, evS, evE, evEs, evKs, evC, evI, evO, rd, entry, truth, scal, cmpD, opN, opSub, opF, opFs, opB, slOf, mkTup, mkLst, Tm.un, noL, noLs, apartS, disj, ioFree, PP.finish, iosOf, iosS, Kd.cl, Kd.dp, PL.kill_nil, PL.kill_cons, PL.killO_some, PL.killO_none, putIo, fstLst, PL.isL1, PL.isL2, PL.isL3, PL.isL4, PL.isL5, PL.isL6, intsT, PL.put1, grown, doCall, Prog.sigs, Df.sig, bindP, callRet, unionS, retTm, bindT, bindTs, seqOf, PP.listOf, forget, setAll, tyIs, tyOk, rngOf, siOf, zipOf, hl, zip_maps]
    · obtain ⟨m1, m2⟩ := mem_zip hp
      have v1 := v_plus h_plus h_lowest h_common_divisor (n := n + 3) (b_fit (h1 _ m1)) (b_fit (h2 _ m2)) wf_le
      have v2 := v_times h_times h_lowest h_common_divisor (n := n + 3) f_half ((b_add (h1 _ m1) (h2 _ m2)).fits (m_lt (by decide)) (m_lt (by decide))) wf_le
      rw [fr_half] at v2
      simp [runFn, evSs, evS, evE, evEs, evKs, evC, evI, evO, rd, entry, truth, scal, cmpD, opN, opSub, opF, opFs, opB, slOf, mkTup, mkLst, Tm.un, noL, noLs, apartS, disj, ioFree, PP.finish, iosOf, iosS, Kd.cl, Kd.dp, PL.kill_nil, PL.kill_cons, PL.killO_some, PL.killO_none, putIo, fstLst, PL.isL1, PL.isL2, PL.isL3, PL.isL4, PL.isL5, PL.isL6, intsT, PL.put1, grown, doCall, Prog.sigs, Df.sig, bindP, callRet, unionS, retTm, bindT, bindTs, seqOf, PP.listOf, forget, setAll, tyIs, tyOk, rngOf, siOf, h_plus, h_times, v1, v2, fr_noL]
  have c2 : ∀ o3 o4 o5 o6, evE (callN Γ wf (n + 6)) Γ.sigs [] x_two_parts_2 [sl G, sl (frs r1), sl (frs r2), o3, o4, o5, o6, none, none, none, none] = some (⟨frs (ap r1 r2), true, true, [], []⟩, [sl G, sl (frs r1), sl (frs r2), o3, o4, o5, o6, none, none, none, none]) := fun o3 o4 o5 o6 => by
    have e : frs (ap r1 r2) = .lst ((r1.zip r2).map fun p => fr (1 / 2 * (p.1 - p.2))) := by unfold ap; simp [Function.comp_def]
    rw [e]
    refine ev_map (r1.zip r2) (fun p => .tup [fr p.1, fr p.2]) (fun p => fr (1 / 2 * (p.1 - p.2))) false true (S := []) (Si := []) rfl ?_ rfl (fun p hp => ⟨_, rfl, ?_, rfl, rfl⟩) (by omega)
    · simp [runFn, evSs, evS, evE, evEs, evKs, evC, evI, evO, rd, entry, truth, scal, cmpD, opN, opSub, opF, opFs, opB, slOf, mkTup, mkLst, Tm.un, noL, noLs, apartS, disj, ioFree, PP.finish, iosOf, iosS, Kd.cl, Kd.dp, PL.kill_nil, PL.kill_cons, PL.killO_some, PL.killO_none, putIo, fstLst, PL.isL1, PL.isL2, PL.isL3, PL.isL4, PL.isL5, PL.isL6, intsT, PL.put1, grown, doCall, Prog.sigs, Df.sig, bindP, callRet, unionS, retTm, bindT, bindTs, seqOf, PP.listOf, forget, setAll, tyIs, tyOk, rngOf, siOf, zipOf, hl, zip_maps]
    · obtain ⟨m1, m2⟩ := mem_zip hp
      have v1 := v_less h_less h_lowest h_common_divisor (n := n + 3) (b_fit (h1 _ m1)) (b_fit (h2 _ m2)) wf_le
      have v2 := v_times h_times h_lowest h_common_divisor (n := n + 3) f_half ((b_sub (h1 _ m1) (h2 _ m2)).fits (m_lt (by decide)) (m_lt (by decide))) wf_le
      rw [fr_half] at v2
      simp [runFn, evSs, evS, evE, evEs, evKs, evC, evI, evO, rd, entry, truth, scal, cmpD, opN, opSub, opF, opFs, opB, slOf, mkTup, mkLst, Tm.un, noL, noLs, apartS, disj, ioFree, PP.finish, iosOf, iosS, Kd.cl, Kd.dp, PL.kill_nil, PL.kill_cons, PL.killO_some, PL.killO_none, putIo, fstLst, PL.isL1, PL.isL2, PL.isL3, PL.isL4, PL.isL5, PL.isL6, intsT, PL.put1, grown, doCall, Prog.sigs, Df.sig, bindP, callRet, unionS, retTm, bindT, bindTs, seqOf, PP.listOf, forget, setAll, tyIs, tyOk, rngOf, siOf, h_less, h_times, v1, v2, fr_noL]
  have c1 : ∀ o3 o5 o6, evE (callN Γ wf (n + 6)) Γ.sigs [] x_two_parts_1 [sl G, sl (frs r1), sl (frs r2), o3, some ⟨frs (ap r1 r2), .deep, []⟩, o5, o6, none, none, none, none] = some (⟨frs (bk r1 r2), true, true, [], []⟩, [sl G, sl (frs r1), sl (frs r2), o3, some ⟨frs (ap r1 r2), .deep, []⟩, o5, o6, none, none, none, none]) := fun o3 o5 o6 => by
    have e : frs (bk r1 r2) = .lst ((ap r1 r2).map fun x => fr (-1 * x)) := by unfold bk; simp [Function.comp_def]
    rw [e]
    refine ev_map (ap r1 r2) fr (fun x => fr (-1 * x)) false true (S := [4]) (Si := [4]) rfl ?_ rfl (fun x hx => ⟨_, rfl, ?_, rfl, rfl⟩) (by omega)
    · simp [runFn, evSs, evS, evE, evEs, evKs, evC, evI, evO, rd, entry, truth, scal, cmpD, opN, opSub, opF, opFs, opB, slOf, mkTup, mkLst, Tm.un, noL, noLs, apartS, disj, ioFree, PP.finish, iosOf, iosS, Kd.cl, Kd.dp, PL.kill_nil, PL.kill_cons, PL.killO_some, PL.killO_none, putIo, fstLst, PL.isL1, PL.isL2, PL.isL3, PL.isL4, PL.isL5, PL.isL6, intsT, PL.put1, grown, doCall, Prog.sigs, Df.sig, bindP, callRet, unionS, retTm, bindT, bindTs, seqOf, PP.listOf, forget, setAll, tyIs, tyOk, rngOf, siOf]
    · have hb : Fits x := by
        unfold ap at hx
        obtain ⟨p, hp, rfl⟩ := List.mem_map.mp hx
        obtain ⟨m1, m2⟩ := mem_zip hp
        exact c_fit (by decide) (b_ap (h1 _ m1) (h2 _ m2))
      have v2 := v_times h_times h_lowest h_common_divisor (n := n + 3) f_mone hb wf_le
      rw [fr_mone] at v2
      simp [runFn, evSs, evS, evE, evEs, evKs, evC, evI, evO, rd, entry, truth, scal, cmpD, opN, opSub, opF, opFs, opB, slOf, mkTup, mkLst, Tm.un, noL, noLs, apartS, disj, ioFree, PP.finish, iosOf, iosS, Kd.cl, Kd.dp, PL.kill_nil, PL.kill_cons, PL.killO_some, PL.killO_none, putIo, fstLst, PL.isL1, PL.isL2, PL.isL3, PL.isL4, PL.isL5, PL.isL6, intsT, PL.put1, grown, doCall, Prog.sigs, Df.sig, bindP, callRet, unionS, retTm, bindT, bindTs, seqOf, PP.listOf, forget, setAll, tyIs, tyOk, rngOf, siOf, h_times, v2, fr_noL, s2]
  have nl : noLs ((al r1 r2).map fr) = true := by
    generalize al r1 r2 = xs
    induction xs with
    | nil => rfl
    | cons x xs ih => simp [noLs, fr_noL, ih]
  generalize hx1 : x_two_parts_1 = x1 at c1
  generalize hx2 : x_two_parts_2 = x2 at c2
  generalize hx3 : x_two_parts_3 = x3 at c3
  subst hG
  rw [callN]
  simp [h_two_parts, c_two_parts, hx1, hx2, hx3, runFn, evSs, evS, evE, evEs, evKs, evC, evI, evO, rd, entry, truth, scal, cmpD, opN, opSub, opF, opFs, opB, slOf, mkTup, mkLst, Tm.un, noL, noLs, apartS, disj, ioFree, PP.finish, iosOf, iosS, Kd.cl, Kd.dp, PL.kill_nil, PL.kill_cons, PL.killO_some, PL.killO_none, putIo, fstLst, PL.isL1, PL.isL2, PL.isL3, PL.isL4, PL.isL5, PL.isL6, intsT, PL.put1, grown, doCall, Prog.sigs, Df.sig, bindP, callRet, unionS, retTm, bindT, bindTs, seqOf, PP.listOf, forget, setAll, tyIs, tyOk, rngOf, siOf, h_check_two, hct, L2.atI, L2.ixN, c1, c2, c3, nl, noLs_ints, s2, s3, due]
end K15

namespace K15
open PP PySem PL
theorem al_sub (r1 r2 : List Rat) : ((r1.zip (al r1 r2)).map fun p => p.1 - p.2) = ap r1 r2 := by
  unfold al ap
  induction r1 generalizing r2 with
  | nil => rfl
  | cons x xs ih =>
    cases r2 with
    | nil => rfl
    | cons y ys =>
      simp only [List.zip_cons_cons, List.map_cons]
      rw [ih ys]
      congr 1
      grind
theorem al_ap (r1 r2 : List Rat) (h : r1.length = r2.length) : (((al r1 r2).zip (ap r1 r2)).map fun p => p.1 + p.2) = r1 := by
  unfold al ap
  induction r1 generalizing r2 with
  | nil => rfl
  | cons x xs ih =>
    cases r2 with
    | nil => simp at h
    | cons y ys =>
      simp only [List.zip_cons_cons, List.map_cons]
      rw [ih ys (by simpa using h)]
      congr 1
      grind
theorem al_bk (r1 r2 : List Rat) (h : r1.length = r2.length) : (((al r1 r2).zip (bk r1 r2)).map fun p => p.1 + p.2) = r2 := by
  unfold bk al ap
  induction r1 generalizing r2 with
  | nil => cases r2 with
    | nil => rfl
    | cons y ys => simp at h
  | cons x xs ih =>
    cases r2 with
    | nil => simp at h
    | cons y ys =>
      simp only [List.zip_cons_cons, List.map_cons]
      rw [ih ys (by simpa using h)]
      congr 1
      grind
section
variable {n : Nat} {S1 : List Nat} {scr p : D} {turn a b : Int} {r1 r2 : List Rat} {X4 : Sl} {o5 o6 o7 o8 o9 o10 : Option Sl}
/-- the game's slot: its own lists, or borrowed ones -/
def Is4 (G : D) (X : Sl) : Prop := X = ⟨G, .deep, []⟩ ∨ X = ⟨G, .sh, [3, 4]⟩ ∨ X = ⟨G, .sh, [3]⟩
abbrev ST (scr p : D) (S1 : List Nat) (turn a b : Int) (X4 : Sl) (o5 o6 o7 o8 o9 o10 : Option Sl) : St := [sl scr, some ⟨p, .own, S1⟩, sl (.int turn), some ⟨intL [a, b], .deep, []⟩, some X4, o5, o6, o7, o8, o9, o10, none, none, none, none, none]
theorem zl {xs ys : List Rat} (h : xs.length ≤ 27) : (xs.zip ys).length ≤ 27 := by simp only [List.length_zip]; omega
theorem c5 (hX : Is4 (gameD [a, b] [r1, r2]) X4) (l1 : r1.length ≤ 27) (h1 : ∀ r ∈ r1, B r) (h2 : ∀ r ∈ r2, B r) : evE (callN Γ wf (n + 10)) Γ.sigs [] x_law_5 (ST scr p S1 turn a b X4 o5 o6 o7 o8 o9 o10) = some (⟨frs (al r1 r2), true, true, [], []⟩, ST scr p S1 turn a b X4 o5 o6 o7 o8 o9 o10) := by
  have e : frs (al r1 r2) = .lst ((r1.zip r2).map fun p => fr (1 / 2 * (p.1 + p.2))) := by unfold al; simp [Function.comp_def]
  have s100 : 100 < sizeLine := by decide
  have s2 : 2 ≤ sizeLine := by decide
  have lz := zl (ys := r2) l1
  rw [e]
  have el : ∀ (P : List Nat) (pq : Rat × Rat), pq ∈ r1.zip r2 → ∀ S, evE (callN Γ wf (n + 10)) Γ.sigs P (.call "_law_times" none (.cons (.tup (.cons (.con (.int (1))) (.cons (.con (.int (2))) .nil))) (.cons (.call "_law_plus" (some 12) (.cons (.var 12) (.cons (.var 14) .nil)) .nil) .nil)) .nil) [sl scr, some ⟨p, .own, S1⟩, sl (.int turn), some ⟨intL [a, b], .deep, []⟩, some X4, o5, o6, o7, o8, o9, o10, none, some ⟨fr pq.1, .sh, S⟩, none, some ⟨fr pq.2, .sh, S⟩, none] = some (⟨fr (1 / 2 * (pq.1 + pq.2)), false, true, [], []⟩, [sl scr, some ⟨p, .own, S1⟩, sl (.int turn), some ⟨intL [a, b], .deep, []⟩, some X4, o5, o6, o7, o8, o9, o10, none, some ⟨fr pq.1, .sh, S⟩, none, some ⟨fr pq.2, .sh, S⟩, none]) := fun P pq hp S => by
    obtain ⟨m1, m2⟩ := mem_zip hp
    have v1 := v__law_plus h__law_plus h__law_by h__law_divisor (n := n + 7) (b_fit (h1 _ m1)) (b_fit (h2 _ m2)) wf_le
    have v2 := v__law_times h__law_times h__law_by h__law_divisor (n := n + 7) f_half ((b_add (h1 _ m1) (h2 _ m2)).fits (m_lt (by decide)) (m_lt (by decide))) wf_le
    rw [fr_half] at v2
    simp [runFn, evSs, evS, evE, evEs, evKs, evC, evI, evO, rd, entry, truth, scal, cmpD, opN, opSub, opF, opFs, opB, slOf, mkTup, mkLst, Tm.un, noL, noLs, apartS, disj, ioFree, PP.finish, iosOf, iosS, Kd.cl, Kd.dp, PL.kill_nil, PL.kill_cons, PL.killO_some, PL.killO_none, putIo, fstLst, PL.isL1, PL.isL2, PL.isL3, PL.isL4, PL.isL5, PL.isL6, intsT, PL.put1, grown, doCall, Prog.sigs, Df.sig, bindP, callRet, unionS, retTm, bindT, bindTs, seqOf, PP.listOf, forget, setAll, tyIs, tyOk, rngOf, siOf, h__law_plus, h__law_times, v1, v2, fr_noL, s2]
  rcases hX with rfl | rfl | rfl
  · refine ev_map (r1.zip r2) (fun p => .tup [fr p.1, fr p.2]) (fun p => fr (1 / 2 * (p.1 + p.2))) false true (S := [4, 4]) (Si := [4, 4]) rfl ?_ rfl (fun pq hp => ⟨_, rfl, el _ pq hp _, rfl, rfl⟩) (by omega)
    simp [runFn, evSs, evS, evE, evEs, evKs, evC, evI, evO, rd, entry, truth, scal, cmpD, opN, opSub, opF, opFs, opB, slOf, mkTup, mkLst, Tm.un, noL, noLs, apartS, disj, ioFree, PP.finish, iosOf, iosS, Kd.cl, Kd.dp, PL.kill_nil, PL.kill_cons, PL.killO_some, PL.killO_none, putIo, fstLst, PL.isL1, PL.isL2, PL.isL3, PL.isL4, PL.isL5, PL.isL6, intsT, PL.put1, grown, doCall, Prog.sigs, Df.sig, bindP, callRet, unionS, retTm, bindT, bindTs, seqOf, PP.listOf, forget, setAll, tyIs, tyOk, rngOf, siOf, L2.atI, L2.ixN, zipOf, zip_maps]
  · refine ev_map (r1.zip r2) (fun p => .tup [fr p.1, fr p.2]) (fun p => fr (1 / 2 * (p.1 + p.2))) false true (S := [3, 4, 3, 4]) (Si := [3, 4, 3, 4]) rfl ?_ rfl (fun pq hp => ⟨_, rfl, el _ pq hp _, rfl, rfl⟩) (by omega)
    simp [runFn, evSs, evS, evE, evEs, evKs, evC, evI, evO, rd, entry, truth, scal, cmpD, opN, opSub, opF, opFs, opB, slOf, mkTup, mkLst, Tm.un, noL, noLs, apartS, disj, ioFree, PP.finish, iosOf, iosS, Kd.cl, Kd.dp, PL.kill_nil, PL.kill_cons, PL.killO_some, PL.killO_none, putIo, fstLst, PL.isL1, PL.isL2, PL.isL3, PL.isL4, PL.isL5, PL.isL6, intsT, PL.put1, grown, doCall, Prog.sigs, Df.sig, bindP, callRet, unionS, retTm, bindT, bindTs, seqOf, PP.listOf, forget, setAll, tyIs, tyOk, rngOf, siOf, L2.atI, L2.ixN, zipOf, zip_maps]
  · refine ev_map (r1.zip r2) (fun p => .tup [fr p.1, fr p.2]) (fun p => fr (1 / 2 * (p.1 + p.2))) false true (S := [3, 3]) (Si := [3, 3]) rfl ?_ rfl (fun pq hp => ⟨_, rfl, el _ pq hp _, rfl, rfl⟩) (by omega)
    simp [runFn, evSs, evS, evE, evEs, evKs, evC, evI, evO, rd, entry, truth, scal, cmpD, opN, opSub, opF, opFs, opB, slOf, mkTup, mkLst, Tm.un, noL, noLs, apartS, disj, ioFree, PP.finish, iosOf, iosS, Kd.cl, Kd.dp, PL.kill_nil, PL.kill_cons, PL.killO_some, PL.killO_none, putIo, fstLst, PL.isL1, PL.isL2, PL.isL3, PL.isL4, PL.isL5, PL.isL6, intsT, PL.put1, grown, doCall, Prog.sigs, Df.sig, bindP, callRet, unionS, retTm, bindT, bindTs, seqOf, PP.listOf, forget, setAll, tyIs, tyOk, rngOf, siOf, L2.atI, L2.ixN, zipOf, zip_maps]
theorem c4 (hX : Is4 (gameD [a, b] [r1, r2]) X4) (l1 : r1.length ≤ 27) (h1 : ∀ r ∈ r1, B r) (h2 : ∀ r ∈ r2, B r) : evE (callN Γ wf (n + 10)) Γ.sigs [] x_law_4 (ST scr p S1 turn a b X4 o5 (some ⟨frs (al r1 r2), .deep, []⟩) o7 o8 o9 o10) = some (⟨frs (ap r1 r2), true, true, [], []⟩, ST scr p S1 turn a b X4 o5 (some ⟨frs (al r1 r2), .deep, []⟩) o7 o8 o9 o10) := by
  have e : frs (ap r1 r2) = .lst ((r1.zip (al r1 r2)).map fun p => fr (p.1 - p.2)) := by rw [← al_sub]; simp [Function.comp_def]
  have s100 : 100 < sizeLine := by decide
  have lz := zl (ys := al r1 r2) l1
  rw [e]
  have hal : ∀ x ∈ al r1 r2, Fits x := fun x hx => by
    unfold al at hx
    obtain ⟨q, hq, rfl⟩ := List.mem_map.mp hx
    obtain ⟨m1, m2⟩ := mem_zip hq
    exact c_fit (by decide) (b_al (h1 _ m1) (h2 _ m2))
  have el : ∀ (P : List Nat) (pq : Rat × Rat), pq ∈ r1.zip (al r1 r2) → ∀ S, evE (callN Γ wf (n + 10)) Γ.sigs P (.call "_law_minus" (some 12) (.cons (.var 12) (.cons (.var 14) .nil)) .nil) [sl scr, some ⟨p, .own, S1⟩, sl (.int turn), some ⟨intL [a, b], .deep, []⟩, some X4, o5, some ⟨frs (al r1 r2), .deep, []⟩, o7, o8, o9, o10, none, some ⟨fr pq.1, .sh, S⟩, none, some ⟨fr pq.2, .sh, S⟩, none] = some (⟨fr (pq.1 - pq.2), false, true, [], []⟩, [sl scr, some ⟨p, .own, S1⟩, sl (.int turn), some ⟨intL [a, b], .deep, []⟩, some X4, o5, some ⟨frs (al r1 r2), .deep, []⟩, o7, o8, o9, o10, none, some ⟨fr pq.1, .sh, S⟩, none, some ⟨fr pq.2, .sh, S⟩, none]) := fun P pq hp S => by
    obtain ⟨m1, m2⟩ := mem_zip hp
    have v1 := v__law_minus h__law_minus h__law_by h__law_divisor (n := n + 7) (b_fit (h1 _ m1)) (hal _ m2) wf_le
    cases S <;> simp [runFn, evSs, evS, evE, evEs, evKs, evC, evI, evO, rd, entry, truth, scal, cmpD, opN, opSub, opF, opFs, opB, slOf, mkTup, mkLst, Tm.un, noL, noLs, apartS, disj, ioFree, PP.finish, iosOf, iosS, Kd.cl, Kd.dp, PL.kill_nil, PL.kill_cons, PL.killO_some, PL.killO_none, putIo, fstLst, PL.isL1, PL.isL2, PL.isL3, PL.isL4, PL.isL5, PL.isL6, intsT, PL.put1, grown, doCall, Prog.sigs, Df.sig, bindP, callRet, unionS, retTm, bindT, bindTs, seqOf, PP.listOf, forget, setAll, tyIs, tyOk, rngOf, siOf, h__law_minus, v1, fr_noL]
  rcases hX with rfl | rfl | rfl
  · refine ev_map (r1.zip (al r1 r2)) (fun p => .tup [fr p.1, fr p.2]) (fun p => fr (p.1 - p.2)) false true (S := [4, 6]) (Si := [4, 6]) rfl ?_ rfl (fun pq hp => ⟨_, rfl, el _ pq hp _, rfl, rfl⟩) (by omega)
    simp [runFn, evSs, evS, evE, evEs, evKs, evC, evI, evO, rd, entry, truth, scal, cmpD, opN, opSub, opF, opFs, opB, slOf, mkTup, mkLst, Tm.un, noL, noLs, apartS, disj, ioFree, PP.finish, iosOf, iosS, Kd.cl, Kd.dp, PL.kill_nil, PL.kill_cons, PL.killO_some, PL.killO_none, putIo, fstLst, PL.isL1, PL.isL2, PL.isL3, PL.isL4, PL.isL5, PL.isL6, intsT, PL.put1, grown, doCall, Prog.sigs, Df.sig, bindP, callRet, unionS, retTm, bindT, bindTs, seqOf, PP.listOf, forget, setAll, tyIs, tyOk, rngOf, siOf, L2.atI, L2.ixN, zipOf, zip_maps]
  · refine ev_map (r1.zip (al r1 r2)) (fun p => .tup [fr p.1, fr p.2]) (fun p => fr (p.1 - p.2)) false true (S := [3, 4, 6]) (Si := [3, 4, 6]) rfl ?_ rfl (fun pq hp => ⟨_, rfl, el _ pq hp _, rfl, rfl⟩) (by omega)
    simp [runFn, evSs, evS, evE, evEs, evKs, evC, evI, evO, rd, entry, truth, scal, cmpD, opN, opSub, opF, opFs, opB, slOf, mkTup, mkLst, Tm.un, noL, noLs, apartS, disj, ioFree, PP.finish, iosOf, iosS, Kd.cl, Kd.dp, PL.kill_nil, PL.kill_cons, PL.killO_some, PL.killO_none, putIo, fstLst, PL.isL1, PL.isL2, PL.isL3, PL.isL4, PL.isL5, PL.isL6, intsT, PL.put1, grown, doCall, Prog.sigs, Df.sig, bindP, callRet, unionS, retTm, bindT, bindTs, seqOf, PP.listOf, forget, setAll, tyIs, tyOk, rngOf, siOf, L2.atI, L2.ixN, zipOf, zip_maps]
  · refine ev_map (r1.zip (al r1 r2)) (fun p => .tup [fr p.1, fr p.2]) (fun p => fr (p.1 - p.2)) false true (S := [3, 6]) (Si := [3, 6]) rfl ?_ rfl (fun pq hp => ⟨_, rfl, el _ pq hp _, rfl, rfl⟩) (by omega)
    simp [runFn, evSs, evS, evE, evEs, evKs, evC, evI, evO, rd, entry, truth, scal, cmpD, opN, opSub, opF, opFs, opB, slOf, mkTup, mkLst, Tm.un, noL, noLs, apartS, disj, ioFree, PP.finish, iosOf, iosS, Kd.cl, Kd.dp, PL.kill_nil, PL.kill_cons, PL.killO_some, PL.killO_none, putIo, fstLst, PL.isL1, PL.isL2, PL.isL3, PL.isL4, PL.isL5, PL.isL6, intsT, PL.put1, grown, doCall, Prog.sigs, Df.sig, bindP, callRet, unionS, retTm, bindT, bindTs, seqOf, PP.listOf, forget, setAll, tyIs, tyOk, rngOf, siOf, L2.atI, L2.ixN, zipOf, zip_maps]
theorem ap_fit (h1 : ∀ r ∈ r1, B r) (h2 : ∀ r ∈ r2, B r) : ∀ x ∈ ap r1 r2, Sz (2 * MM) (1 * (NN + NN)) x := fun x hx => by
  unfold ap at hx
  obtain ⟨q, hq, rfl⟩ := List.mem_map.mp hx
  obtain ⟨m1, m2⟩ := mem_zip hq
  exact b_ap (h1 _ m1) (h2 _ m2)
theorem al_fit (h1 : ∀ r ∈ r1, B r) (h2 : ∀ r ∈ r2, B r) : ∀ x ∈ al r1 r2, Sz (2 * MM) (1 * (NN + NN)) x := fun x hx => by
  unfold al at hx
  obtain ⟨q, hq, rfl⟩ := List.mem_map.mp hx
  obtain ⟨m1, m2⟩ := mem_zip hq
  exact b_al (h1 _ m1) (h2 _ m2)
theorem bk_fit (h1 : ∀ r ∈ r1, B r) (h2 : ∀ r ∈ r2, B r) : ∀ x ∈ bk r1 r2, Sz (2 * MM) (1 * (NN + NN)) x := fun x hx => by
  unfold bk at hx
  obtain ⟨q, hq, rfl⟩ := List.mem_map.mp hx
  have := z_mone.mul (ap_fit h1 h2 q hq)
  rw [Nat.one_mul, Nat.one_mul] at this
  exact this
theorem ap_len (l1 : r1.length ≤ 27) : (ap r1 r2).length ≤ 27 := by unfold ap; simpa using zl (ys := r2) l1
theorem al_len (l1 : r1.length ≤ 27) : (al r1 r2).length ≤ 27 := by unfold al; simpa using zl (ys := r2) l1
theorem c3 (l1 : r1.length ≤ 27) (h1 : ∀ r ∈ r1, B r) (h2 : ∀ r ∈ r2, B r) {P : List Nat} (hP : disj [11, 12] P = true) : evE (callN Γ wf (n + 10)) Γ.sigs P x_law_3 (ST scr p S1 turn a b X4 o5 o6 (some ⟨frs (ap r1 r2), .deep, []⟩) o8 o9 o10) = some (⟨frs (bk r1 r2), true, true, [], []⟩, ST scr p S1 turn a b X4 o5 o6 (some ⟨frs (ap r1 r2), .deep, []⟩) o8 o9 o10) := by
  have e : frs (bk r1 r2) = .lst ((ap r1 r2).map fun x => fr (-1 * x)) := by unfold bk; simp [Function.comp_def]
  have s100 : 100 < sizeLine := by decide
  have s2 : 2 ≤ sizeLine := by decide
  have hl := ap_len (r2 := r2) l1
  rw [e]
  refine ev_map (ap r1 r2) fr (fun x => fr (-1 * x)) false true (S := [7]) (Si := [7]) hP ?_ rfl (fun x hx => ⟨_, rfl, ?_, rfl, rfl⟩) (by omega)
  · simp [runFn, evSs, evS, evE, evEs, evKs, evC, evI, evO, rd, entry, truth, scal, cmpD, opN, opSub, opF, opFs, opB, slOf, mkTup, mkLst, Tm.un, noL, noLs, apartS, disj, ioFree, PP.finish, iosOf, iosS, Kd.cl, Kd.dp, PL.kill_nil, PL.kill_cons, PL.killO_some, PL.killO_none, putIo, fstLst, PL.isL1, PL.isL2, PL.isL3, PL.isL4, PL.isL5, PL.isL6, intsT, PL.put1, grown, doCall, Prog.sigs, Df.sig, bindP, callRet, unionS, retTm, bindT, bindTs, seqOf, PP.listOf, forget, setAll, tyIs, tyOk, rngOf, siOf]
  · have v2 := v__law_times h__law_times h__law_by h__law_divisor (n := n + 7) f_mone (c_fit (by decide) (ap_fit h1 h2 x hx)) wf_le
    rw [fr_mone] at v2
    simp [runFn, evSs, evS, evE, evEs, evKs, evC, evI, evO, rd, entry, truth, scal, cmpD, opN, opSub, opF, opFs, opB, slOf, mkTup, mkLst, Tm.un, noL, noLs, apartS, disj, ioFree, PP.finish, iosOf, iosS, Kd.cl, Kd.dp, PL.kill_nil, PL.kill_cons, PL.killO_some, PL.killO_none, putIo, fstLst, PL.isL1, PL.isL2, PL.isL3, PL.isL4, PL.isL5, PL.isL6, intsT, PL.put1, grown, doCall, Prog.sigs, Df.sig, bindP, callRet, unionS, retTm, bindT, bindTs, seqOf, PP.listOf, forget, setAll, tyIs, tyOk, rngOf, siOf, h__law_times, v2, fr_noL, s2]
theorem c1 (ss : List Int) (l1 : r1.length ≤ 27) (h1 : ∀ r ∈ r1, B r) (h2 : ∀ r ∈ r2, B r) (hl : r1.length = r2.length) {S8 P : List Nat} {o4 : Option Sl} (hP : disj [11, 12, 14] P = true) : ∀ k : Nat, k < 2 → evE (callN Γ wf (n + 10)) Γ.sigs P x_law_1 [sl scr, some ⟨p, .own, S1⟩, sl (.int turn), some ⟨intL [a, b], .deep, []⟩, o4, o5, o6, o7, some ⟨due ss r1 r2, .sh, S8⟩, o9, o10, none, none, none, none, sl (.int k)] = some (⟨frs (if k = 0 then r1 else r2), true, true, [], []⟩, [sl scr, some ⟨p, .own, S1⟩, sl (.int turn), some ⟨intL [a, b], .deep, []⟩, o4, o5, o6, o7, some ⟨due ss r1 r2, .sh, S8⟩, o9, o10, none, none, none, none, sl (.int k)]) := fun k hk => by
  have s100 : 100 < sizeLine := by decide
  have e0 : frs r1 = .lst (((al r1 r2).zip (ap r1 r2)).map fun p => fr (p.1 + p.2)) := (congrArg frs (al_ap r1 r2 hl)).symm.trans (by simp [Function.comp_def])
  have e1 : frs r2 = .lst (((al r1 r2).zip (bk r1 r2)).map fun p => fr (p.1 + p.2)) := (congrArg frs (al_bk r1 r2 hl)).symm.trans (by simp [Function.comp_def])
  have el : ∀ (k : Int) (P : List Nat) (x y : Rat), Fits x → Fits y → ∀ S, evE (callN Γ wf (n + 10)) Γ.sigs P (.call "_law_plus" (some 12) (.cons (.var 12) (.cons (.var 14) .nil)) .nil) [sl scr, some ⟨p, .own, S1⟩, sl (.int turn), some ⟨intL [a, b], .deep, []⟩, o4, o5, o6, o7, some ⟨due ss r1 r2, .sh, S8⟩, o9, o10, none, some ⟨fr x, .sh, S⟩, none, some ⟨fr y, .sh, S⟩, sl (.int k)] = some (⟨fr (x + y), false, true, [], []⟩, [sl scr, some ⟨p, .own, S1⟩, sl (.int turn), some ⟨intL [a, b], .deep, []⟩, o4, o5, o6, o7, some ⟨due ss r1 r2, .sh, S8⟩, o9, o10, none, some ⟨fr x, .sh, S⟩, none, some ⟨fr y, .sh, S⟩, sl (.int k)]) := fun k P x y hx hy S => by
    have v1 := v__law_plus h__law_plus h__law_by h__law_divisor (n := n + 7) hx hy wf_le
    cases S <;> simp [runFn, evSs, evS, evE, evEs, evKs, evC, evI, evO, rd, entry, truth, scal, cmpD, opN, opSub, opF, opFs, opB, slOf, mkTup, mkLst, Tm.un, noL, noLs, apartS, disj, ioFree, PP.finish, iosOf, iosS, Kd.cl, Kd.dp, PL.kill_nil, PL.kill_cons, PL.killO_some, PL.killO_none, putIo, fstLst, PL.isL1, PL.isL2, PL.isL3, PL.isL4, PL.isL5, PL.isL6, intsT, PL.put1, grown, doCall, Prog.sigs, Df.sig, bindP, callRet, unionS, retTm, bindT, bindTs, seqOf, PP.listOf, forget, setAll, tyIs, tyOk, rngOf, siOf, h__law_plus, v1, fr_noL]
  match k, hk with
  | 0, _ =>
    rw [if_pos rfl, e0]
    refine ev_map ((al r1 r2).zip (ap r1 r2)) (fun p => .tup [fr p.1, fr p.2]) (fun p => fr (p.1 + p.2)) false true (S := S8 ++ S8) (Si := S8 ++ S8) hP ?_ rfl (fun pq hp => ⟨_, rfl, el _ _ _ _ ?_ ?_ _, rfl, rfl⟩) (by have := zl (ys := ap r1 r2) (al_len (r2 := r2) l1); omega)
    · simp [runFn, evSs, evS, evE, evEs, evKs, evC, evI, evO, rd, entry, truth, scal, cmpD, opN, opSub, opF, opFs, opB, slOf, mkTup, mkLst, Tm.un, noL, noLs, apartS, disj, ioFree, PP.finish, iosOf, iosS, Kd.cl, Kd.dp, PL.kill_nil, PL.kill_cons, PL.killO_some, PL.killO_none, putIo, fstLst, PL.isL1, PL.isL2, PL.isL3, PL.isL4, PL.isL5, PL.isL6, intsT, PL.put1, grown, doCall, Prog.sigs, Df.sig, bindP, callRet, unionS, retTm, bindT, bindTs, seqOf, PP.listOf, forget, setAll, tyIs, tyOk, rngOf, siOf, L2.atI, L2.ixN, zipOf, zip_maps, due]
    · exact c_fit (by decide) (al_fit h1 h2 _ (mem_zip hp).1)
    · exact c_fit (by decide) (ap_fit h1 h2 _ (mem_zip hp).2)
  | 1, _ =>
    rw [if_neg (by omega), e1]
    refine ev_map ((al r1 r2).zip (bk r1 r2)) (fun p => .tup [fr p.1, fr p.2]) (fun p => fr (p.1 + p.2)) false true (S := S8 ++ S8) (Si := S8 ++ S8) hP ?_ rfl (fun pq hp => ⟨_, rfl, el _ _ _ _ ?_ ?_ _, rfl, rfl⟩) (by have := zl (ys := bk r1 r2) (al_len (r2 := r2) l1); omega)
    · simp [runFn, evSs, evS, evE, evEs, evKs, evC, evI, evO, rd, entry, truth, scal, cmpD, opN, opSub, opF, opFs, opB, slOf, mkTup, mkLst, Tm.un, noL, noLs, apartS, disj, ioFree, PP.finish, iosOf, iosS, Kd.cl, Kd.dp, PL.kill_nil, PL.kill_cons, PL.killO_some, PL.killO_none, putIo, fstLst, PL.isL1, PL.isL2, PL.isL3, PL.isL4, PL.isL5, PL.isL6, intsT, PL.put1, grown, doCall, Prog.sigs, Df.sig, bindP, callRet, unionS, retTm, bindT, bindTs, seqOf, PP.listOf, forget, setAll, tyIs, tyOk, rngOf, siOf, L2.atI, L2.ixN, zipOf, zip_maps, due]
    · exact c_fit (by decide) (al_fit h1 h2 _ (mem_zip hp).1)
    · exact c_fit (by decide) (bk_fit h1 h2 _ (mem_zip hp).2)
theorem c2 (ss : List Int) (l1 : r1.length ≤ 27) (h1 : ∀ r ∈ r1, B r) (h2 : ∀ r ∈ r2, B r) (hl : r1.length = r2.length) {S8 : List Nat} : evE (callN Γ wf (n + 10)) Γ.sigs [] x_law_2 (ST scr p S1 turn a b X4 o5 o6 o7 (some ⟨due ss r1 r2, .sh, S8⟩) o9 o10) = some (⟨.lst [frs r1, frs r2], true, true, [], []⟩, ST scr p S1 turn a b X4 o5 o6 o7 (some ⟨due ss r1 r2, .sh, S8⟩) o9 o10) := by
  have s100 : 100 < sizeLine := by decide
  have e : PP.D.lst [frs r1, frs r2] = .lst ((List.range 2).map fun k => frs (if k = 0 then r1 else r2)) := rfl
  rw [e]
  refine ev_map (List.range 2) (fun k : Nat => D.int ((0 : Int) + (k : Nat))) (fun k => frs (if k = 0 then r1 else r2)) true true (S := []) (Si := []) rfl ?_ rfl (fun k hk => ⟨[sl scr, some ⟨p, .own, S1⟩, sl (.int turn), some ⟨intL [a, b], .deep, []⟩, some X4, o5, o6, o7, some ⟨due ss r1 r2, .sh, S8⟩, o9, o10, none, none, none, none, sl (.int k)], ?_, c1 ss l1 h1 h2 hl rfl k (by simpa using hk), rfl, rfl⟩) (by simp; omega)
  · simp [runFn, evSs, evS, evE, evEs, evKs, evC, evI, evO, rd, entry, truth, scal, cmpD, opN, opSub, opF, opFs, opB, slOf, mkTup, mkLst, Tm.un, noL, noLs, apartS, disj, ioFree, PP.finish, iosOf, iosS, Kd.cl, Kd.dp, PL.kill_nil, PL.kill_cons, PL.killO_some, PL.killO_none, putIo, fstLst, PL.isL1, PL.isL2, PL.isL3, PL.isL4, PL.isL5, PL.isL6, intsT, PL.put1, grown, doCall, Prog.sigs, Df.sig, bindP, callRet, unionS, retTm, bindT, bindTs, seqOf, PP.listOf, forget, setAll, tyIs, tyOk, rngOf, siOf]
  · simp [runFn, evSs, evS, evE, evEs, evKs, evC, evI, evO, rd, entry, truth, scal, cmpD, opN, opSub, opF, opFs, opB, slOf, mkTup, mkLst, Tm.un, noL, noLs, apartS, disj, ioFree, PP.finish, iosOf, iosS, Kd.cl, Kd.dp, PL.kill_nil, PL.kill_cons, PL.killO_some, PL.killO_none, putIo, fstLst, PL.isL1, PL.isL2, PL.isL3, PL.isL4, PL.isL5, PL.isL6, intsT, PL.put1, grown, doCall, Prog.sigs, Df.sig, bindP, callRet, unionS, retTm, bindT, bindTs, seqOf, PP.listOf, forget, setAll, tyIs, tyOk, rngOf, siOf]
end
end K15

namespace K15
open PP PySem PL
def dropS : Nat → Ss → Ss
  | 0, b => b
  | n + 1, .cons _ b => dropS n b
  | _ + 1, .nil => .nil
def body9 : Ss := match x_law_9 with
  | .for_ _ _ b => b
  | _ => .nil
theorem due_nice {a b : Int} {r1 r2 : List Rat} (g : Game [a, b] [r1, r2]) (h1 : ∀ r ∈ r1, B r) (h2 : ∀ r ∈ r2, B r) : nice (due [a, b] r1 r2) = true ∧ fine (due [a, b] r1 r2) = true ∧ dep (due [a, b] r1 r2) ≤ 5 := by
  have l1 : r1.length = (prod [a, b]).toNat := by have := g.row r1 (by simp); omega
  have l2 : r2.length = (prod [a, b]).toNat := by have := g.row r2 (by simp); omega
  have hz : ∀ f : Rat × Rat → Rat, (((r1.zip r2).map f).length : Int) = prod [a, b] := fun f => by
    have := g.row r1 (by simp)
    have := g.row r2 (by simp)
    simp only [List.length_map, List.length_zip]; omega
  have ga : Game [a, b] [al r1 r2, al r1 r2] := ⟨g.sz, rfl, fun r hr => by
    have : r = al r1 r2 := by simpa using hr
    rw [this]; exact hz _⟩
  have hb : ((bk r1 r2).length : Int) = prod [a, b] := by
    have := hz fun p => 1 / 2 * (p.1 - p.2)
    unfold bk ap
    rw [List.length_map]; exact this
  have gb : Game [a, b] [ap r1 r2, bk r1 r2] := ⟨g.sz, rfl, fun r hr => by
    have : r = ap r1 r2 ∨ r = bk r1 r2 := by simpa using hr
    rcases this with rfl | rfl
    · exact hz _
    · exact hb⟩
  obtain ⟨a1, a2, a3, _⟩ := game_nice ga fun row hr r hx => by
    have : row = al r1 r2 := by simpa using hr
    rw [this] at hx
    exact c_shows (by decide) (al_fit h1 h2 r hx)
  obtain ⟨b1, b2, b3, _⟩ := game_nice gb fun row hr r hx => by
    have : row = ap r1 r2 ∨ row = bk r1 r2 := by simpa using hr
    rcases this with rfl | rfl
    · exact c_shows (by decide) (ap_fit h1 h2 r hx)
    · exact c_shows (by decide) (bk_fit h1 h2 r hx)
  refine ⟨?_, ?_, ?_⟩
  · show (nice (gameD [a, b] [al r1 r2, al r1 r2]) && (nice (gameD [a, b] [ap r1 r2, bk r1 r2]) && true)) = true
    rw [a1, b1]; rfl
  · show (decide (2 < 1000000) && (fine (gameD [a, b] [al r1 r2, al r1 r2]) && (fine (gameD [a, b] [ap r1 r2, bk r1 r2]) && true))) = true
    rw [a2, b2]; rfl
  · show max (dep (gameD [a, b] [al r1 r2, al r1 r2])) (max (dep (gameD [a, b] [ap r1 r2, bk r1 r2])) 0) + 1 ≤ 5
    omega
theorem late {n : Nat} {S1 : List Nat} {scr p : D} {turn a b : Int} {r1 r2 : List Rat} {X4 : Sl} {o5 o6 o7 o8 o9 o10 : Option Sl} (g : Game [a, b] [r1, r2]) (h1 : ∀ r ∈ r1, B r) (h2 : ∀ r ∈ r2, B r) (hX : Is4 (gameD [a, b] [r1, r2]) X4) (hS : ∀ x ∈ S1, x = 3) :
    evSs (callN Γ wf (n + 10)) Γ.sigs wf [] (dropS 4 body9) (ST scr p S1 turn a b X4 o5 o6 o7 o8 o9 o10) = some (.nx (ST scr p S1 turn a b X4 (sl (.str (reprS (gameD [a, b] [r1, r2])))) (some ⟨frs (al r1 r2), .deep, []⟩) (some ⟨frs (ap r1 r2), .deep, []⟩) (some ⟨due [a, b] r1 r2, .sh, [3, 6, 6, 3, 7]⟩) none (some ⟨.lst [frs r1, frs r2], .deep, []⟩))) := by
  have l1 : r1.length ≤ 27 := g.row_len (by simp)
  have l2 : r2.length ≤ 27 := g.row_len (by simp)
  have hl : r1.length = r2.length := by
    have a := g.row r1 (by simp)
    have b := g.row r2 (by simp)
    omega
  have hsh : ∀ row ∈ [r1, r2], ∀ r ∈ row, Shows r := fun row hrow r hr => by
    rcases List.mem_cons.mp hrow with rfl | hrow
    · exact b_shows (h1 r hr)
    · rw [List.mem_singleton.mp hrow] at hr; exact b_shows (h2 r hr)
  obtain ⟨n1, n2, n3, n4⟩ := game_nice g hsh
  obtain ⟨q1, q2⟩ := repr_ok n1 (by omega) (by omega)
  obtain ⟨d1, d2, d3⟩ := due_nice g h1 h2
  have k5 := c5 (n := n) (scr := scr) (p := p) (S1 := S1) (turn := turn) (o5 := sl (.str (reprS (gameD [a, b] [r1, r2])))) (o6 := o6) (o7 := o7) (o8 := o8) (o9 := o9) (o10 := o10) hX l1 h1 h2
  have k4 := c4 (n := n) (scr := scr) (p := p) (S1 := S1) (turn := turn) (o5 := sl (.str (reprS (gameD [a, b] [r1, r2])))) (o7 := o7) (o8 := o8) (o9 := o9) (o10 := o10) hX l1 h1 h2
  have k3 := fun P hP => c3 (n := n) (scr := scr) (p := p) (S1 := S1) (turn := turn) (a := a) (b := b) (X4 := X4) (o5 := sl (.str (reprS (gameD [a, b] [r1, r2])))) (o6 := some ⟨frs (al r1 r2), .deep, []⟩) (o8 := o8) (o9 := o9) (o10 := o10) l1 h1 h2 (P := P) hP
  have k2 := c2 (n := n) (scr := scr) (p := p) (S1 := S1) (turn := turn) (a := a) (b := b) (X4 := X4) (o5 := sl (.str (reprS (gameD [a, b] [r1, r2])))) (o6 := some ⟨frs (al r1 r2), .deep, []⟩) (o7 := some ⟨frs (ap r1 r2), .deep, []⟩) (o9 := none) (o10 := killO 9 o10) (S8 := [3, 6, 6, 3, 7]) [a, b] l1 h1 h2 hl
  have vt := v_two_parts (n := n + 3) g h1 h2
  have nal : nice (.lst [due [a, b] r1 r2, due [a, b] r1 r2]) = true ∧ fine (.lst [due [a, b] r1 r2, due [a, b] r1 r2]) = true ∧ dep (.lst [due [a, b] r1 r2, due [a, b] r1 r2]) ≤ 6 := by
    refine ⟨?_, ?_, ?_⟩
    · simp only [nice, nices, d1]; rfl
    · simp only [fine, fines, d2]; rfl
    · simp only [dep, deps]; omega
  have nsp : nice (.lst [due [a, b] r1 r2]) = true ∧ fine (.lst [due [a, b] r1 r2]) = true ∧ dep (.lst [due [a, b] r1 r2]) ≤ 6 := by
    refine ⟨?_, ?_, ?_⟩
    · simp only [nice, nices, d1]; rfl
    · simp only [fine, fines, d2]; rfl
    · simp only [dep, deps]; omega
  have vs := v__law_same h__law_same (wf := wf) (n + 9) _ nal.1 nal.2.1 (by have := nal.2.2; omega) (by have := nal.2.2; omega)
  have vp := v_spoilt h_spoilt (n := n + 9) (wf := wf) nsp.1 nsp.2.1 (by have := nsp.2.2; omega) (by have := nsp.2.2; omega)
  have nb : PP.plain (.lst [frs r1, frs r2]) = true := by
    refine plain_of ?_ ?_
    · simp only [nice, nices]
      have e1 := nice_frs fun r hr => b_shows (h1 r hr)
      have e2 := nice_frs fun r hr => b_shows (h2 r hr)
      simp only [nice] at e1 e2
      simp only [e1, e2]; rfl
    · have a1 := dep_frs r1
      have a2 := dep_frs r2
      simp only [dep, deps] at a1 a2 ⊢
      omega
  have s100 : 100 < sizeLine := by decide
  have s3 : 3 ≤ sizeLine := by decide
  have s2 : 2 ≤ sizeLine := by decide
  have s1 : 1 ≤ sizeLine := by decide
  have hD0 : due [a, b] r1 r2 = .tup [.tup [.str "game", intL [a, b], .lst [frs (al r1 r2), frs (al r1 r2)]], .tup [.str "game", intL [a, b], .lst [frs (ap r1 r2), frs (bk r1 r2)]]] := rfl
  have hkw : kws "two_parts" = [[("game" : Str)]] := by kernel_rfl
  have nbe := eqv_plain nb
  have hS9 : ¬ 9 ∈ S1 := fun m => by have := hS 9 m; omega
  unfold body9
  simp only [x_law_9, dropS]
  generalize hD : due [a, b] r1 r2 = du at *
  generalize hG : reprS (gameD [a, b] [r1, r2]) = shown at *
  generalize hA : frs (al r1 r2) = A at *
  generalize hP : frs (ap r1 r2) = Ap at *
  generalize hB : frs (bk r1 r2) = Bk at *
  have hq : eqv (.str shown) (.str shown) = true := by simp [eqv]
  refine (step (δ1 := ST scr p S1 turn a b X4 (sl (.str shown)) o6 o7 o8 o9 o10) ?_).trans ?_
  · rcases hX with rfl | rfl | rfl <;> simp [runFn, evSs, evS, evE, evEs, evKs, evC, evI, evO, rd, entry, truth, scal, cmpD, opN, opSub, opF, opFs, opB, slOf, mkTup, mkLst, Tm.un, noL, noLs, apartS, disj, ioFree, PP.finish, iosOf, iosS, Kd.cl, Kd.dp, PL.kill_nil, PL.kill_cons, PL.killO_some, PL.killO_none, putIo, fstLst, PL.isL1, PL.isL2, PL.isL3, PL.isL4, PL.isL5, PL.isL6, intsT, PL.put1, grown, doCall, Prog.sigs, Df.sig, bindP, callRet, unionS, retTm, bindT, bindTs, seqOf, PP.listOf, forget, setAll, tyIs, tyOk, rngOf, siOf, q1, hG]
  refine (step (δ1 := ST scr p S1 turn a b X4 (sl (.str shown)) (some ⟨A, .deep, []⟩) o7 o8 o9 o10) ?_).trans ?_
  · simp [runFn, evSs, evS, evE, evEs, evKs, evC, evI, evO, rd, entry, truth, scal, cmpD, opN, opSub, opF, opFs, opB, slOf, mkTup, mkLst, Tm.un, noL, noLs, apartS, disj, ioFree, PP.finish, iosOf, iosS, Kd.cl, Kd.dp, PL.kill_nil, PL.kill_cons, PL.killO_some, PL.killO_none, putIo, fstLst, PL.isL1, PL.isL2, PL.isL3, PL.isL4, PL.isL5, PL.isL6, intsT, PL.put1, grown, doCall, Prog.sigs, Df.sig, bindP, callRet, unionS, retTm, bindT, bindTs, seqOf, PP.listOf, forget, setAll, tyIs, tyOk, rngOf, siOf, k5]
  refine (step (δ1 := ST scr p S1 turn a b X4 (sl (.str shown)) (some ⟨A, .deep, []⟩) (some ⟨Ap, .deep, []⟩) o8 o9 o10) ?_).trans ?_
  · simp [runFn, evSs, evS, evE, evEs, evKs, evC, evI, evO, rd, entry, truth, scal, cmpD, opN, opSub, opF, opFs, opB, slOf, mkTup, mkLst, Tm.un, noL, noLs, apartS, disj, ioFree, PP.finish, iosOf, iosS, Kd.cl, Kd.dp, PL.kill_nil, PL.kill_cons, PL.killO_some, PL.killO_none, putIo, fstLst, PL.isL1, PL.isL2, PL.isL3, PL.isL4, PL.isL5, PL.isL6, intsT, PL.put1, grown, doCall, Prog.sigs, Df.sig, bindP, callRet, unionS, retTm, bindT, bindTs, seqOf, PP.listOf, forget, setAll, tyIs, tyOk, rngOf, siOf, k4]
  refine (step (δ1 := ST scr p S1 turn a b X4 (sl (.str shown)) (some ⟨A, .deep, []⟩) (some ⟨Ap, .deep, []⟩) (some ⟨du, .sh, [3, 6, 6, 3, 7]⟩) o9 o10) ?_).trans ?_
  · have z := k3 [3, 6, 6, 3, 7] rfl
    rw [hD0]
    simp [runFn, evSs, evS, evE, evEs, evKs, evC, evI, evO, rd, entry, truth, scal, cmpD, opN, opSub, opF, opFs, opB, slOf, mkTup, mkLst, Tm.un, noL, noLs, apartS, disj, ioFree, PP.finish, iosOf, iosS, Kd.cl, Kd.dp, PL.kill_nil, PL.kill_cons, PL.killO_some, PL.killO_none, putIo, fstLst, PL.isL1, PL.isL2, PL.isL3, PL.isL4, PL.isL5, PL.isL6, intsT, PL.put1, grown, doCall, Prog.sigs, Df.sig, bindP, callRet, unionS, retTm, bindT, bindTs, seqOf, PP.listOf, forget, setAll, tyIs, tyOk, rngOf, siOf, z, k3, s2, s3]
  refine (step (δ1 := ST scr p S1 turn a b X4 (sl (.str shown)) (some ⟨A, .deep, []⟩) (some ⟨Ap, .deep, []⟩) (some ⟨du, .sh, [3, 6, 6, 3, 7]⟩) (some ⟨du, .deep, []⟩) o10) ?_).trans ?_
  · rcases hX with rfl | rfl | rfl <;> simp [runFn, evSs, evS, evE, evEs, evKs, evC, evI, evO, rd, entry, truth, scal, cmpD, opN, opSub, opF, opFs, opB, slOf, mkTup, mkLst, Tm.un, noL, noLs, apartS, disj, ioFree, PP.finish, iosOf, iosS, Kd.cl, Kd.dp, PL.kill_nil, PL.kill_cons, PL.killO_some, PL.killO_none, putIo, fstLst, PL.isL1, PL.isL2, PL.isL3, PL.isL4, PL.isL5, PL.isL6, intsT, PL.put1, grown, doCall, Prog.sigs, Df.sig, bindP, callRet, unionS, retTm, bindT, bindTs, seqOf, PP.listOf, forget, setAll, tyIs, tyOk, rngOf, siOf, h_two_parts, vt]
  refine (step (δ1 := ST scr p S1 turn a b X4 (sl (.str shown)) (some ⟨A, .deep, []⟩) (some ⟨Ap, .deep, []⟩) (some ⟨du, .sh, [3, 6, 6, 3, 7]⟩) none (killO 9 o10)) ?_).trans ?_
  · rcases hX with rfl | rfl | rfl
    · simp [runFn, evSs, evS, evE, evEs, evKs, evC, evI, evO, rd, entry, truth, scal, cmpD, opN, opSub, opF, opFs, opB, slOf, mkTup, mkLst, Tm.un, noL, noLs, apartS, disj, ioFree, PP.finish, iosOf, iosS, Kd.cl, Kd.dp, PL.kill_nil, PL.kill_cons, PL.killO_some, PL.killO_none, putIo, fstLst, PL.isL1, PL.isL2, PL.isL3, PL.isL4, PL.isL5, PL.isL6, intsT, PL.put1, grown, doCall, Prog.sigs, Df.sig, bindP, callRet, unionS, retTm, bindT, bindTs, seqOf, PP.listOf, forget, setAll, tyIs, tyOk, rngOf, siOf, h_two_parts, vt, h__law_same, vs, h_spoilt, vp, hkw, s1, s2, q1, q2, hG, hq, spSig, eatAll, hS9]
    · simp [runFn, evSs, evS, evE, evEs, evKs, evC, evI, evO, rd, entry, truth, scal, cmpD, opN, opSub, opF, opFs, opB, slOf, mkTup, mkLst, Tm.un, noL, noLs, apartS, disj, ioFree, PP.finish, iosOf, iosS, Kd.cl, Kd.dp, PL.kill_nil, PL.kill_cons, PL.killO_some, PL.killO_none, putIo, fstLst, PL.isL1, PL.isL2, PL.isL3, PL.isL4, PL.isL5, PL.isL6, intsT, PL.put1, grown, doCall, Prog.sigs, Df.sig, bindP, callRet, unionS, retTm, bindT, bindTs, seqOf, PP.listOf, forget, setAll, tyIs, tyOk, rngOf, siOf, h_two_parts, vt, h__law_same, vs, h_spoilt, vp, hkw, s1, s2, q1, q2, hG, hq, spSig, eatAll, hS9]
    · simp [runFn, evSs, evS, evE, evEs, evKs, evC, evI, evO, rd, entry, truth, scal, cmpD, opN, opSub, opF, opFs, opB, slOf, mkTup, mkLst, Tm.un, noL, noLs, apartS, disj, ioFree, PP.finish, iosOf, iosS, Kd.cl, Kd.dp, PL.kill_nil, PL.kill_cons, PL.killO_some, PL.killO_none, putIo, fstLst, PL.isL1, PL.isL2, PL.isL3, PL.isL4, PL.isL5, PL.isL6, intsT, PL.put1, grown, doCall, Prog.sigs, Df.sig, bindP, callRet, unionS, retTm, bindT, bindTs, seqOf, PP.listOf, forget, setAll, tyIs, tyOk, rngOf, siOf, h_two_parts, vt, h__law_same, vs, h_spoilt, vp, hkw, s1, s2, q1, q2, hG, hq, spSig, eatAll, hS9]
  refine (step (δ1 := ST scr p S1 turn a b X4 (sl (.str shown)) (some ⟨A, .deep, []⟩) (some ⟨Ap, .deep, []⟩) (some ⟨du, .sh, [3, 6, 6, 3, 7]⟩) none (some ⟨.lst [frs r1, frs r2], .deep, []⟩)) ?_).trans ?_
  · simp [runFn, evSs, evS, evE, evEs, evKs, evC, evI, evO, rd, entry, truth, scal, cmpD, opN, opSub, opF, opFs, opB, slOf, mkTup, mkLst, Tm.un, noL, noLs, apartS, disj, ioFree, PP.finish, iosOf, iosS, Kd.cl, Kd.dp, PL.kill_nil, PL.kill_cons, PL.killO_some, PL.killO_none, putIo, fstLst, PL.isL1, PL.isL2, PL.isL3, PL.isL4, PL.isL5, PL.isL6, intsT, PL.put1, grown, doCall, Prog.sigs, Df.sig, bindP, callRet, unionS, retTm, bindT, bindTs, seqOf, PP.listOf, forget, setAll, tyIs, tyOk, rngOf, siOf, k2]
  refine (step (δ1 := ST scr p S1 turn a b X4 (sl (.str shown)) (some ⟨A, .deep, []⟩) (some ⟨Ap, .deep, []⟩) (some ⟨du, .sh, [3, 6, 6, 3, 7]⟩) none (some ⟨.lst [frs r1, frs r2], .deep, []⟩)) ?_).trans rfl
  · rcases hX with rfl | rfl | rfl <;> simp [runFn, evSs, evS, evE, evEs, evKs, evC, evI, evO, rd, entry, truth, scal, cmpD, opN, opSub, opF, opFs, opB, slOf, mkTup, mkLst, Tm.un, noL, noLs, apartS, disj, ioFree, PP.finish, iosOf, iosS, Kd.cl, Kd.dp, PL.kill_nil, PL.kill_cons, PL.killO_some, PL.killO_none, putIo, fstLst, PL.isL1, PL.isL2, PL.isL3, PL.isL4, PL.isL5, PL.isL6, intsT, PL.put1, grown, doCall, Prog.sigs, Df.sig, bindP, callRet, unionS, retTm, bindT, bindTs, seqOf, PP.listOf, forget, setAll, tyIs, tyOk, rngOf, siOf, L2.atI, L2.ixN, nb, nbe]
end K15

namespace K15
open PP PySem PL
def bigs : List Rat := [999999999, 1 / 999999999, -999999998 / 999999999]
theorem fr_bigs : bigs.map fr = [.tup [.int 999999999, .int 1], .tup [.int 1, .int 999999999], .tup [.int (-999999998), .int 999999999]] := by kernel_rfl
theorem b_nums : ∀ r ∈ nums, B r := by
  have h : ∀ r ∈ nums, MM % r.den = 0 ∧ r.num.natAbs * (MM / r.den) ≤ NN := by decide +kernel
  exact fun r hr => .of (by decide) (h r hr).1 (h r hr).2
theorem b_bigs : ∀ r ∈ bigs, B r := by
  have h : ∀ r ∈ bigs, MM % r.den = 0 ∧ r.num.natAbs * (MM / r.den) ≤ NN := by decide +kernel
  exact fun r hr => .of (by decide) (h r hr).1 (h r hr).2
theorem z_one : Sz 1 1 (1 : Rat) := .of (by decide) (by decide +kernel) (by decide +kernel)
section
variable {n m : Nat} {S1 : List Nat} {scr p : D} {turn a b : Int} {r1 r2 : List Rat} {o4 o5 o6 o7 o8 o9 o10 : Option Sl}
abbrev SG (scr p : D) (S1 : List Nat) (turn a b : Int) (o4 o5 o6 o7 o8 o9 o10 o12 o13 : Option Sl) : St := [sl scr, some ⟨p, .own, S1⟩, sl (.int turn), some ⟨intL [a, b], .deep, []⟩, o4, o5, o6, o7, o8, o9, o10, none, o12, o13, none, none]
/-- turns 1 and 2 -/
theorem c8 {c : Rat} (l1 : r1.length ≤ 27) (h1 : ∀ r ∈ r1, B r) (hc : fr c = .tup [.int (3 - 2 * turn), .int 1]) (fc : Fits c) (ht : 0 ≤ turn ∧ turn ≤ 9) {P : List Nat} (hP : disj [11, 12] P = true) : evE (callN Γ wf (n + 10)) Γ.sigs P x_law_8 (SG scr p S1 turn a b (some ⟨gameD [a, b] [r1, r2], .deep, []⟩) o5 o6 o7 o8 o9 o10 none none) = some (⟨frs (r1.map fun x => c * x), true, true, [], []⟩, SG scr p S1 turn a b (some ⟨gameD [a, b] [r1, r2], .deep, []⟩) o5 o6 o7 o8 o9 o10 none none) := by
  have e : frs (r1.map fun x => c * x) = .lst (r1.map fun x => fr (c * x)) := by simp [Function.comp_def]
  have s100 : 100 < sizeLine := by decide
  have s2 : 2 ≤ sizeLine := by decide
  have lt := small_log (a := turn) (by omega) (by omega)
  have lt2 : Nat.log2 2 + turn.natAbs.log2 < 1000000 := by
    have : Nat.log2 2 ≤ 2 := by decide
    omega
  rw [e]
  refine ev_map r1 fr (fun x => fr (c * x)) false true (S := [4]) (Si := [4]) hP ?_ rfl (fun x hx => ⟨_, rfl, ?_, rfl, rfl⟩) (by omega)
  · simp [runFn, evSs, evS, evE, evEs, evKs, evC, evI, evO, rd, entry, truth, scal, cmpD, opN, opSub, opF, opFs, opB, slOf, mkTup, mkLst, Tm.un, noL, noLs, apartS, disj, ioFree, PP.finish, iosOf, iosS, Kd.cl, Kd.dp, PL.kill_nil, PL.kill_cons, PL.killO_some, PL.killO_none, putIo, fstLst, PL.isL1, PL.isL2, PL.isL3, PL.isL4, PL.isL5, PL.isL6, intsT, PL.put1, grown, doCall, Prog.sigs, Df.sig, bindP, callRet, unionS, retTm, bindT, bindTs, seqOf, PP.listOf, forget, setAll, tyIs, tyOk, rngOf, siOf, L2.atI, L2.ixN]
  · have v2 := v__law_times h__law_times h__law_by h__law_divisor (n := n + 7) fc (b_fit (h1 x hx)) wf_le
    rw [hc] at v2
    simp [runFn, evSs, evS, evE, evEs, evKs, evC, evI, evO, rd, entry, truth, scal, cmpD, opN, opSub, opF, opFs, opB, slOf, mkTup, mkLst, Tm.un, noL, noLs, apartS, disj, ioFree, PP.finish, iosOf, iosS, Kd.cl, Kd.dp, PL.kill_nil, PL.kill_cons, PL.killO_some, PL.killO_none, putIo, fstLst, PL.isL1, PL.isL2, PL.isL3, PL.isL4, PL.isL5, PL.isL6, intsT, PL.put1, grown, doCall, Prog.sigs, Df.sig, bindP, callRet, unionS, retTm, bindT, bindTs, seqOf, PP.listOf, forget, setAll, tyIs, tyOk, rngOf, siOf, h__law_times, v2, fr_noL, s2, lt2]
/-- turn 3: a row -/
theorem c6 {row : List Rat} (hp : Pu p m) (hm : m + 27 < 10 ^ 6) (l1 : row.length ≤ 27) (hS : ∀ x ∈ S1, x = 3) {X4 : Sl} {S13 P : List Nat} (hP : disj [11, 12] (P ++ S13) = true) (h13 : ¬ 1 ∈ S13) (hP1 : ¬ 1 ∈ P) (hX : killO 1 (some X4) = some X4) (k5 : killO 1 o5 = o5) (k6 : killO 1 o6 = o6) (k7 : killO 1 o7 = o7) (k8 : killO 1 o8 = o8) (k9 : killO 1 o9 = o9) (k10 : killO 1 o10 = o10) :
    ∃ (as : List Rat) (p' : D), Pu p' (m + row.length) ∧ as.length = row.length ∧ (∀ x ∈ as, x ∈ bigs) ∧ evE (callN Γ wf (n + 10)) Γ.sigs P x_law_6 (SG scr p S1 turn a b (some X4) o5 o6 o7 o8 o9 o10 none (some ⟨frs row, .sh, S13⟩)) = some (⟨frs as, true, true, [], []⟩, SG scr p' S1 turn a b (some X4) o5 o6 o7 o8 o9 o10 none (some ⟨frs row, .sh, S13⟩)) := by
  have s100 : 100 < sizeLine := by decide
  have s3 : 3 ≤ sizeLine := by decide
  have s2 : 2 ≤ sizeLine := by decide
  obtain ⟨as, δ2, h1, h2, h3, p', h4, h5⟩ := ev_io (C := callN Γ wf (n + 10)) (G := Γ.sigs) (P := P) (δ := SG scr p S1 turn a b (some X4) o5 o6 o7 o8 o9 o10 none (some ⟨frs row, .sh, S13⟩)) (δ1 := SG scr p S1 turn a b (some X4) o5 o6 o7 o8 o9 o10 none (some ⟨frs row, .sh, S13⟩)) (own := [11, 12]) (elt := (.call "_law_pick" (some 1) (.cons (.var 1) (.cons (.lst (.cons (.tup (.cons (.con (.int (999999999))) (.cons (.con (.int (1))) .nil))) (.cons (.tup (.cons (.con (.int (1))) (.cons (.con (.int (999999999))) .nil))) (.cons (.tup (.cons (.neg (.con (.int (999999998)))) (.cons (.con (.int (999999999))) .nil))) .nil)))) .nil)) .nil)) (t := .nm 12) (it := .seq (.var 13)) (w := ⟨row.map fr, S13, S13⟩) fr (fun r => r ∈ bigs) (fun j δ => ∃ p', Pu p' (m + j) ∧ δ = SG scr p' S1 turn a b (some X4) o5 o6 o7 o8 o9 o10 none (some ⟨frs row, .sh, S13⟩)) false false (by
      unfold disj at hP ⊢
      simp at hP ⊢
      exact ⟨hP.1.1, hP.2.1⟩) (by simp [runFn, evSs, evS, evE, evEs, evKs, evC, evI, evO, rd, entry, truth, scal, cmpD, opN, opSub, opF, opFs, opB, slOf, mkTup, mkLst, Tm.un, noL, noLs, apartS, disj, ioFree, PP.finish, iosOf, iosS, Kd.cl, Kd.dp, PL.kill_nil, PL.kill_cons, PL.killO_some, PL.killO_none, putIo, fstLst, PL.isL1, PL.isL2, PL.isL3, PL.isL4, PL.isL5, PL.isL6, intsT, PL.put1, grown, doCall, Prog.sigs, Df.sig, bindP, callRet, unionS, retTm, bindT, bindTs, seqOf, PP.listOf, forget, setAll, tyIs, tyOk, rngOf, siOf]) ⟨p, hp, rfl⟩ (fun j d' δ hj ⟨p', hp', hδ⟩ => by
      subst hδ
      have hj2 : j < row.length := by
        have := (List.getElem?_eq_some_iff.mp hj).1
        simpa using this
      obtain ⟨x, p'', hx, hp'', hc⟩ := v_pick h__law_pick h__law_draw (n := n + 8) (wf := wf) (things := bigs.map fr) hp' (by omega) (by decide) (by decide)
      obtain ⟨q, hq, rfl⟩ := List.mem_map.mp hx
      have hno := fr_noL q
      have il := hp'.lst
      rw [fr_bigs] at hc
      have hS1 : ¬ 1 ∈ S1 := fun mm => by have := hS 1 mm; omega
      have hfil : S1.filter (fun x => !decide (x = 1)) = S1 := List.filter_eq_self.mpr fun x hx => by rw [hS x hx]; rfl
      refine ⟨q, SG scr p' S1 turn a b (some X4) o5 o6 o7 o8 o9 o10 (some ⟨d', .sh, S13⟩) (some ⟨frs row, .sh, S13⟩), SG scr p'' S1 turn a b (some X4) o5 o6 o7 o8 o9 o10 (some ⟨d', .sh, S13⟩) (some ⟨frs row, .sh, S13⟩), rfl, ?_, hq, rfl, p'', hp'', rfl⟩
      generalize fr q = fq at hc hno
      simp [runFn, evSs, evS, evE, evEs, evKs, evC, evI, evO, rd, entry, truth, scal, cmpD, opN, opSub, opF, opFs, opB, slOf, mkTup, mkLst, Tm.un, noL, noLs, apartS, disj, ioFree, PP.finish, iosOf, iosS, Kd.cl, Kd.dp, PL.kill_nil, PL.kill_cons, PL.killO_some, PL.killO_none, putIo, fstLst, PL.isL1, PL.isL2, PL.isL3, PL.isL4, PL.isL5, PL.isL6, intsT, PL.put1, grown, doCall, Prog.sigs, Df.sig, bindP, callRet, unionS, retTm, bindT, bindTs, seqOf, PP.listOf, forget, setAll, tyIs, tyOk, rngOf, siOf, h__law_pick, hc, il, s2, s3, hno]
      exact ⟨⟨hP1, h13⟩, fun a ha z => by have := hS a ha; omega, hX, k5, k6, k7, k8, k9, k10, h13⟩) (by simp; omega)
  subst h5
  simp only [List.length_map] at h2 h4
  exact ⟨as, p', h4, h2, h3, h1⟩
theorem c7 (hp : Pu p m) (hm : m + 60 < 10 ^ 6) (l1 : r1.length ≤ 27) (hl : r1.length = r2.length) (hS : ∀ x ∈ S1, x = 3) (k5 : killO 1 o5 = o5) (k6 : killO 1 o6 = o6) (k7 : killO 1 o7 = o7) (k8 : killO 1 o8 = o8) (k9 : killO 1 o9 = o9) (k10 : killO 1 o10 = o10) {P : List Nat} (hP : disj [11, 13, 12] P = true) (hP1 : ¬ 1 ∈ P) :
    ∃ (q1 q2 : List Rat) (p' : D), Pu p' (m + 60) ∧ q1.length = r1.length ∧ q2.length = r1.length ∧ (∀ x ∈ q1, x ∈ bigs) ∧ (∀ x ∈ q2, x ∈ bigs) ∧ evE (callN Γ wf (n + 10)) Γ.sigs P x_law_7 (SG scr p S1 turn a b (some ⟨gameD [a, b] [r1, r2], .deep, []⟩) o5 o6 o7 o8 o9 o10 none none) = some (⟨.lst [frs q1, frs q2], true, true, [], []⟩, SG scr p' S1 turn a b (some ⟨gameD [a, b] [r1, r2], .deep, []⟩) o5 o6 o7 o8 o9 o10 none none) := by
  have s100 : 100 < sizeLine := by decide
  have hP' : disj [11, 13] P = true ∧ disj [11, 12] P = true := by
    unfold disj at hP ⊢
    simp at hP ⊢
    exact ⟨⟨hP.1, hP.2.1⟩, hP.1, hP.2.2⟩
  obtain ⟨as, δ2, h1, h2, h3, p', h4, h5⟩ := ev_io (C := callN Γ wf (n + 10)) (G := Γ.sigs) (P := P) (δ := SG scr p S1 turn a b (some ⟨gameD [a, b] [r1, r2], .deep, []⟩) o5 o6 o7 o8 o9 o10 none none) (δ1 := SG scr p S1 turn a b (some ⟨gameD [a, b] [r1, r2], .deep, []⟩) o5 o6 o7 o8 o9 o10 none none) (own := [11, 13]) (elt := x_law_6) (t := .nm 13) (it := .seq (.sub (.var 4) (.con (.int (2))))) (w := ⟨[frs r1, frs r2], [4], [4]⟩) frs (fun rs => rs.length = r1.length ∧ ∀ x ∈ rs, x ∈ bigs) (fun j δ => ∃ p', Pu p' (m + 27 * j) ∧ δ = SG scr p' S1 turn a b (some ⟨gameD [a, b] [r1, r2], .deep, []⟩) o5 o6 o7 o8 o9 o10 none none) true true hP'.1 (by simp [runFn, evSs, evS, evE, evEs, evKs, evC, evI, evO, rd, entry, truth, scal, cmpD, opN, opSub, opF, opFs, opB, slOf, mkTup, mkLst, Tm.un, noL, noLs, apartS, disj, ioFree, PP.finish, iosOf, iosS, Kd.cl, Kd.dp, PL.kill_nil, PL.kill_cons, PL.killO_some, PL.killO_none, putIo, fstLst, PL.isL1, PL.isL2, PL.isL3, PL.isL4, PL.isL5, PL.isL6, intsT, PL.put1, grown, doCall, Prog.sigs, Df.sig, bindP, callRet, unionS, retTm, bindT, bindTs, seqOf, PP.listOf, forget, setAll, tyIs, tyOk, rngOf, siOf, L2.atI, L2.ixN]) ⟨p, hp, rfl⟩ (fun j d' δ hj ⟨p', hp', hδ⟩ => by
      subst hδ
      have hj2 : j < 2 := by
        have := (List.getElem?_eq_some_iff.mp hj).1
        simpa using this
      obtain ⟨row, hrow, hd⟩ : ∃ row, (row = r1 ∨ row = r2) ∧ d' = frs row := by
        match j, hj2 with
        | 0, _ => exact ⟨r1, .inl rfl, by simpa using hj.symm⟩
        | 1, _ => exact ⟨r2, .inr rfl, by simpa using hj.symm⟩
      subst hd
      have hrl : row.length = r1.length := by rcases hrow with rfl | rfl <;> omega
      obtain ⟨as, p'', g1, g2, g3, g4⟩ := c6 (n := n) (scr := scr) (turn := turn) (a := a) (b := b) hp' (by omega) (show row.length ≤ 27 by omega) hS (X4 := ⟨gameD [a, b] [r1, r2], .deep, []⟩) (S13 := [4]) (P := P ++ [4]) (by
        have := hP'.2
        unfold disj at this ⊢
        simp at this ⊢
        exact this) (by simp) (by simp [hP1]) rfl k5 k6 k7 k8 k9 k10
      exact ⟨as, _, _, rfl, g4, ⟨by omega, g3⟩, rfl, p'', g1.mono (by rw [Nat.mul_succ]; omega), rfl⟩) (by simp; omega)
  subst h5
  simp only [List.length_cons, List.length_nil] at h2 h4
  match as, h2 with
  | [q1, q2], _ => exact ⟨q1, q2, p', h4.mono (by omega), (h3 q1 (by simp)).1, (h3 q2 (by simp)).1, (h3 q1 (by simp)).2, (h3 q2 (by simp)).2, h1⟩
/-- the first half of a turn -/
theorem first {kd : Kd} {o3 : Option Sl} (hk : kd = .deep ∨ kd = .own) (hS : ∀ x ∈ S1, x = 3) (hp : Pu p m) (hm : m + 200 < 10 ^ 6) (ht : 0 ≤ turn ∧ turn ≤ 9) (k3 : killO 1 o3 = o3) (k4 : killO 1 o4 = o4) (k5 : killO 1 o5 = o5) (k6 : killO 1 o6 = o6) (k7 : killO 1 o7 = o7) (k8 : killO 1 o8 = o8) (k9 : killO 1 o9 = o9) (k10 : killO 1 o10 = o10) :
    ∃ a b r1 r2 X4 p' S1', Game [a, b] [r1, r2] ∧ (∀ r ∈ r1, B r) ∧ (∀ r ∈ r2, B r) ∧ Is4 (gameD [a, b] [r1, r2]) X4 ∧ (∀ x ∈ S1', x = 3) ∧ Pu p' (m + 200) ∧
      evSs (callN Γ wf (n + 10)) Γ.sigs wf [] body9 [sl scr, some ⟨p, kd, S1⟩, sl (.int turn), o3, o4, o5, o6, o7, o8, o9, o10, none, none, none, none, none] = evSs (callN Γ wf (n + 10)) Γ.sigs wf [] (dropS 4 body9) (ST scr p' S1' turn a b X4 o5 o6 o7 o8 o9 o10) := by
  have s100 : 100 < sizeLine := by decide
  have s3 : 3 ≤ sizeLine := by decide
  have s2 : 2 ≤ sizeLine := by decide
  have hS1 : ¬ 1 ∈ S1 := fun mm => by have := hS 1 mm; omega
  obtain ⟨d1, p1, a1, a2, hp1, v1⟩ := v_draw h__law_draw (n := n + 9) (wf := wf) hp (by omega) (many := 4) (by omega) (by omega)
  obtain ⟨d2, p2, b1, b2, hp2, v2⟩ := v_draw h__law_draw (n := n + 9) (wf := wf) hp1 (by omega) (many := 4) (by omega) (by omega)
  have il := hp.lst
  have il1 := hp1.lst
  have il2 := hp2.lst
  have hsz : Sizes [1 + d1, 1 + d2] := ⟨.inl ⟨_, _, rfl⟩, fun s hs => by
    have : s = 1 + d1 ∨ s = 1 + d2 := by simpa using hs
    omega, by
    have : (1 + d1) * (1 + d2) ≤ 4 * 4 := Int.mul_le_mul (by omega) (by omega) (by omega) (by omega)
    simp [prod]; omega⟩
  obtain ⟨rows, p3, g, gn, hp3, v3⟩ := v__law_game h__law_game h__law_profiles HDok (n := n + 6) (wf := wf) hp2 hsz (by omega)
  obtain ⟨r1, r2, rfl⟩ : ∃ r1 r2, rows = [r1, r2] := by
    have := g.len
    match rows, this with
    | [r1, r2], _ => exact ⟨r1, r2, rfl⟩
  have il3 := hp3.lst
  have B1 : ∀ r ∈ r1, B r := fun r hr => b_nums r (gn r1 (by simp) r hr)
  have B2 : ∀ r ∈ r2, B r := fun r hr => b_nums r (gn r2 (by simp) r hr)
  have l1 : r1.length ≤ 27 := g.row_len (by simp)
  have hl : r1.length = r2.length := by
    have a := g.row r1 (by simp)
    have b := g.row r2 (by simp)
    omega
  have hfil : ∀ l : List Nat, (∀ x ∈ l, x = 3) → l.filter (fun x => !decide (x = 1)) = l := fun l h => List.filter_eq_self.mpr fun x hx => by rw [h x hx]; rfl
  have hfs := hfil S1 hS
  have hne : ∀ a : Nat, a ∈ S1 → ¬ a = 1 := fun a ha z => by have := hS a ha; omega
  have e0 : evSs (callN Γ wf (n + 10)) Γ.sigs wf [] body9 [sl scr, some ⟨p, kd, S1⟩, sl (.int turn), o3, o4, o5, o6, o7, o8, o9, o10, none, none, none, none, none] = evSs (callN Γ wf (n + 10)) Γ.sigs wf [] (dropS 1 body9) (SG scr p2 S1 turn (1 + d1) (1 + d2) o4 o5 o6 o7 o8 o9 o10 none none) := by
    unfold body9
    simp only [x_law_9, dropS]
    refine step ?_
    rcases hk with rfl | rfl
    · simp [runFn, evSs, evS, evE, evEs, evKs, evC, evI, evO, rd, entry, truth, scal, cmpD, opN, opSub, opF, opFs, opB, slOf, mkTup, mkLst, Tm.un, noL, noLs, apartS, disj, ioFree, PP.finish, iosOf, iosS, Kd.cl, Kd.dp, PL.kill_nil, PL.kill_cons, PL.killO_some, PL.killO_none, putIo, fstLst, PL.isL1, PL.isL2, PL.isL3, PL.isL4, PL.isL5, PL.isL6, intsT, PL.put1, grown, doCall, Prog.sigs, Df.sig, bindP, callRet, unionS, retTm, bindT, bindTs, seqOf, PP.listOf, forget, setAll, tyIs, tyOk, rngOf, siOf, h__law_draw, v1, v2, il, il1, k3, k4, k5, k6, k7, k8, k9, k10, hS1, hfs, s2]
      exact hne
    · simp [runFn, evSs, evS, evE, evEs, evKs, evC, evI, evO, rd, entry, truth, scal, cmpD, opN, opSub, opF, opFs, opB, slOf, mkTup, mkLst, Tm.un, noL, noLs, apartS, disj, ioFree, PP.finish, iosOf, iosS, Kd.cl, Kd.dp, PL.kill_nil, PL.kill_cons, PL.killO_some, PL.killO_none, putIo, fstLst, PL.isL1, PL.isL2, PL.isL3, PL.isL4, PL.isL5, PL.isL6, intsT, PL.put1, grown, doCall, Prog.sigs, Df.sig, bindP, callRet, unionS, retTm, bindT, bindTs, seqOf, PP.listOf, forget, setAll, tyIs, tyOk, rngOf, siOf, h__law_draw, v1, v2, il, il1, k3, k4, k5, k6, k7, k8, k9, k10, hS1, hfs, s2]
      exact hne
  have hsp : fr 1 = .tup [.int (3 - 2 * 1), .int 1] := by kernel_rfl
  have hsm : fr (-1) = .tup [.int (3 - 2 * 2), .int 1] := by kernel_rfl
  have e1 : evSs (callN Γ wf (n + 10)) Γ.sigs wf [] (dropS 1 body9) (SG scr p2 S1 turn (1 + d1) (1 + d2) o4 o5 o6 o7 o8 o9 o10 none none) = evSs (callN Γ wf (n + 10)) Γ.sigs wf [] (dropS 2 body9) (SG scr p3 (S1 ++ [3]) turn (1 + d1) (1 + d2) (some ⟨gameD [1 + d1, 1 + d2] [r1, r2], .deep, []⟩) o5 o6 o7 o8 o9 o10 none none) := by
    unfold body9
    simp only [x_law_9, dropS]
    refine step ?_
    simp [runFn, evSs, evS, evE, evEs, evKs, evC, evI, evO, rd, entry, truth, scal, cmpD, opN, opSub, opF, opFs, opB, slOf, mkTup, mkLst, Tm.un, noL, noLs, apartS, disj, ioFree, PP.finish, iosOf, iosS, Kd.cl, Kd.dp, PL.kill_nil, PL.kill_cons, PL.killO_some, PL.killO_none, putIo, fstLst, PL.isL1, PL.isL2, PL.isL3, PL.isL4, PL.isL5, PL.isL6, intsT, PL.put1, grown, doCall, Prog.sigs, Df.sig, bindP, callRet, unionS, retTm, bindT, bindTs, seqOf, PP.listOf, forget, setAll, tyIs, tyOk, rngOf, siOf, h__law_game, v3, il2, k4, k5, k6, k7, k8, k9, k10, hS1, hfs]
    exact hne
  have hS' : ∀ x ∈ S1 ++ [3], x = 3 := fun x hx => by
    rcases List.mem_append.mp hx with h | h
    · exact hS x h
    · simpa using h
  generalize S1 ++ [3] = S1' at hS' e1
  rw [e0, e1]
  generalize 1 + d1 = a at *
  generalize 1 + d2 = b at *
  have pin : PP.plain (.lst [.int 1, .int 2]) = true := by kernel_rfl
  by_cases t12 : turn = 1 ∨ turn = 2
  · obtain ⟨c, hc, fc, zc⟩ : ∃ c : Rat, fr c = .tup [.int (3 - 2 * turn), .int 1] ∧ Fits c ∧ Sz 1 1 c := by
      rcases t12 with rfl | rfl
      · exact ⟨1, hsp, f_one, z_one⟩
      · exact ⟨-1, hsm, f_mone, z_mone⟩
    have hb' : ∀ r ∈ (r1.map fun x => c * x), B r := fun r hr => by
      obtain ⟨q, hq, rfl⟩ := List.mem_map.mp hr
      have := zc.mul (B1 q hq)
      rw [Nat.one_mul, Nat.one_mul] at this
      exact this
    have g' : Game [a, b] [r1, r1.map fun x => c * x] := ⟨hsz, rfl, fun r hr => by
      have : r = r1 ∨ r = r1.map fun x => c * x := by simpa using hr
      have h0 := g.row r1 (by simp)
      rcases this with rfl | rfl
      · exact h0
      · rw [List.length_map]; exact h0⟩
    refine ⟨a, b, r1, _, _, p3, S1', g', B1, hb', .inr (.inl rfl), hS', hp3.mono (by omega), ?_⟩
    have k8' := fun P hP => c8 (n := n) (S1 := S1') (scr := scr) (p := p3) (a := a) (b := b) (r2 := r2) (o5 := o5) (o6 := o6) (o7 := o7) (o8 := o8) (o9 := o9) (o10 := o10) l1 B1 hc fc ht (P := P) hP
    unfold body9
    simp only [x_law_9, dropS]
    refine (step (δ1 := ST scr p3 S1' turn a b ⟨gameD [a, b] [r1, r1.map fun x => c * x], .sh, [3, 4]⟩ o5 o6 o7 o8 o9 o10) ?_).trans (step ?_)
    · have k8'' := k8' [3, 4] rfl
      rcases t12 with rfl | rfl
      · simp [runFn, evSs, evS, evE, evEs, evKs, evC, evI, evO, rd, entry, truth, scal, cmpD, opN, opSub, opF, opFs, opB, slOf, mkTup, mkLst, Tm.un, noL, noLs, apartS, disj, ioFree, PP.finish, iosOf, iosS, Kd.cl, Kd.dp, PL.kill_nil, PL.kill_cons, PL.killO_some, PL.killO_none, putIo, fstLst, PL.isL1, PL.isL2, PL.isL3, PL.isL4, PL.isL5, PL.isL6, intsT, PL.put1, grown, doCall, Prog.sigs, Df.sig, bindP, callRet, unionS, retTm, bindT, bindTs, seqOf, PP.listOf, forget, setAll, tyIs, tyOk, rngOf, siOf, plain_int, pin, eqv, s2, s3, L2.atI, L2.ixN, k8'']
      · simp [runFn, evSs, evS, evE, evEs, evKs, evC, evI, evO, rd, entry, truth, scal, cmpD, opN, opSub, opF, opFs, opB, slOf, mkTup, mkLst, Tm.un, noL, noLs, apartS, disj, ioFree, PP.finish, iosOf, iosS, Kd.cl, Kd.dp, PL.kill_nil, PL.kill_cons, PL.killO_some, PL.killO_none, putIo, fstLst, PL.isL1, PL.isL2, PL.isL3, PL.isL4, PL.isL5, PL.isL6, intsT, PL.put1, grown, doCall, Prog.sigs, Df.sig, bindP, callRet, unionS, retTm, bindT, bindTs, seqOf, PP.listOf, forget, setAll, tyIs, tyOk, rngOf, siOf, plain_int, pin, eqv, s2, s3, L2.atI, L2.ixN, k8'']
    · rcases t12 with rfl | rfl
      · simp [runFn, evSs, evS, evE, evEs, evKs, evC, evI, evO, rd, entry, truth, scal, cmpD, opN, opSub, opF, opFs, opB, slOf, mkTup, mkLst, Tm.un, noL, noLs, apartS, disj, ioFree, PP.finish, iosOf, iosS, Kd.cl, Kd.dp, PL.kill_nil, PL.kill_cons, PL.killO_some, PL.killO_none, putIo, fstLst, PL.isL1, PL.isL2, PL.isL3, PL.isL4, PL.isL5, PL.isL6, intsT, PL.put1, grown, doCall, Prog.sigs, Df.sig, bindP, callRet, unionS, retTm, bindT, bindTs, seqOf, PP.listOf, forget, setAll, tyIs, tyOk, rngOf, siOf, plain_int, eqv]
      · simp [runFn, evSs, evS, evE, evEs, evKs, evC, evI, evO, rd, entry, truth, scal, cmpD, opN, opSub, opF, opFs, opB, slOf, mkTup, mkLst, Tm.un, noL, noLs, apartS, disj, ioFree, PP.finish, iosOf, iosS, Kd.cl, Kd.dp, PL.kill_nil, PL.kill_cons, PL.killO_some, PL.killO_none, putIo, fstLst, PL.isL1, PL.isL2, PL.isL3, PL.isL4, PL.isL5, PL.isL6, intsT, PL.put1, grown, doCall, Prog.sigs, Df.sig, bindP, callRet, unionS, retTm, bindT, bindTs, seqOf, PP.listOf, forget, setAll, tyIs, tyOk, rngOf, siOf, plain_int, eqv]
  · by_cases t3 : turn = 3
    · obtain ⟨q1, q2, p4, hp4, m1, m2, m3, m4, v4⟩ := c7 (n := n) (S1 := S1') (scr := scr) (turn := turn) (a := a) (b := b) hp3 (by omega) l1 hl hS' k5 k6 k7 k8 k9 k10 (P := [3]) rfl (by simp)
      have g' : Game [a, b] [q1, q2] := ⟨hsz, rfl, fun r hr => by
        have : r = q1 ∨ r = q2 := by simpa using hr
        have h0 := g.row r1 (by simp)
        rcases this with rfl | rfl <;> omega⟩
      refine ⟨a, b, q1, q2, _, p4, S1', g', fun r hr => b_bigs r (m3 r hr), fun r hr => b_bigs r (m4 r hr), .inr (.inr rfl), hS', hp4.mono (by omega), ?_⟩
      unfold body9
      simp only [x_law_9, dropS]
      refine (step (δ1 := SG scr p3 S1' turn a b (some ⟨gameD [a, b] [r1, r2], .deep, []⟩) o5 o6 o7 o8 o9 o10 none none) ?_).trans (step ?_)
      · subst t3
        simp [runFn, evSs, evS, evE, evEs, evKs, evC, evI, evO, rd, entry, truth, scal, cmpD, opN, opSub, opF, opFs, opB, slOf, mkTup, mkLst, Tm.un, noL, noLs, apartS, disj, ioFree, PP.finish, iosOf, iosS, Kd.cl, Kd.dp, PL.kill_nil, PL.kill_cons, PL.killO_some, PL.killO_none, putIo, fstLst, PL.isL1, PL.isL2, PL.isL3, PL.isL4, PL.isL5, PL.isL6, intsT, PL.put1, grown, doCall, Prog.sigs, Df.sig, bindP, callRet, unionS, retTm, bindT, bindTs, seqOf, PP.listOf, forget, setAll, tyIs, tyOk, rngOf, siOf, plain_int, pin, eqv, s2]
      · subst t3
        simp [runFn, evSs, evS, evE, evEs, evKs, evC, evI, evO, rd, entry, truth, scal, cmpD, opN, opSub, opF, opFs, opB, slOf, mkTup, mkLst, Tm.un, noL, noLs, apartS, disj, ioFree, PP.finish, iosOf, iosS, Kd.cl, Kd.dp, PL.kill_nil, PL.kill_cons, PL.killO_some, PL.killO_none, putIo, fstLst, PL.isL1, PL.isL2, PL.isL3, PL.isL4, PL.isL5, PL.isL6, intsT, PL.put1, grown, doCall, Prog.sigs, Df.sig, bindP, callRet, unionS, retTm, bindT, bindTs, seqOf, PP.listOf, forget, setAll, tyIs, tyOk, rngOf, siOf, plain_int, eqv, v4, s3]
    · refine ⟨a, b, r1, r2, _, p3, S1', g, B1, B2, .inl rfl, hS', hp3.mono (by omega), ?_⟩
      have t1 : ¬ turn = 1 := fun z => t12 (.inl z)
      have t2 : ¬ turn = 2 := fun z => t12 (.inr z)
      unfold body9
      simp only [x_law_9, dropS]
      refine (step (δ1 := SG scr p3 S1' turn a b (some ⟨gameD [a, b] [r1, r2], .deep, []⟩) o5 o6 o7 o8 o9 o10 none none) ?_).trans (step ?_)
      · have q1 : ((1 : Int) == turn) = false := beq_eq_false_iff_ne.mpr fun z => t1 z.symm
        have q2 : ((2 : Int) == turn) = false := beq_eq_false_iff_ne.mpr fun z => t2 z.symm
        simp [runFn, evSs, evS, evE, evEs, evKs, evC, evI, evO, rd, entry, truth, scal, cmpD, opN, opSub, opF, opFs, opB, slOf, mkTup, mkLst, Tm.un, noL, noLs, apartS, disj, ioFree, PP.finish, iosOf, iosS, Kd.cl, Kd.dp, PL.kill_nil, PL.kill_cons, PL.killO_some, PL.killO_none, putIo, fstLst, PL.isL1, PL.isL2, PL.isL3, PL.isL4, PL.isL5, PL.isL6, intsT, PL.put1, grown, doCall, Prog.sigs, Df.sig, bindP, callRet, unionS, retTm, bindT, bindTs, seqOf, PP.listOf, forget, setAll, tyIs, tyOk, rngOf, siOf, plain_int, pin, eqv, s2, q1, q2]
      · have q3 : (turn == 3) = false := beq_eq_false_iff_ne.mpr t3
        simp [runFn, evSs, evS, evE, evEs, evKs, evC, evI, evO, rd, entry, truth, scal, cmpD, opN, opSub, opF, opFs, opB, slOf, mkTup, mkLst, Tm.un, noL, noLs, apartS, disj, ioFree, PP.finish, iosOf, iosS, Kd.cl, Kd.dp, PL.kill_nil, PL.kill_cons, PL.killO_some, PL.killO_none, putIo, fstLst, PL.isL1, PL.isL2, PL.isL3, PL.isL4, PL.isL5, PL.isL6, intsT, PL.put1, grown, doCall, Prog.sigs, Df.sig, bindP, callRet, unionS, retTm, bindT, bindTs, seqOf, PP.listOf, forget, setAll, tyIs, tyOk, rngOf, siOf, plain_int, eqv, q3]
end
end K15

namespace K15
open PP PySem PL
/-- the law's state between turns -/
def RS (scr : D) (k : Nat) (δ : St) : Prop := ∃ p kd S1 o2 o3 o4 o5 o6 o7 o8 o9 o10, Pu p (200 * k) ∧ (kd = .deep ∨ kd = .own) ∧ (∀ x ∈ S1, x = 3) ∧ δ = [sl scr, some ⟨p, kd, S1⟩, o2, o3, o4, o5, o6, o7, o8, o9, o10, none, none, none, none, none] ∧
  killO 1 o3 = o3 ∧ killO 1 o4 = o4 ∧ killO 1 o5 = o5 ∧ killO 1 o6 = o6 ∧ killO 1 o7 = o7 ∧ killO 1 o8 = o8 ∧ killO 1 o9 = o9 ∧ killO 1 o10 = o10
theorem loop (scr : D) (p : D) (hp : Pu p 0) : ∃ δ', evS (callN Γ wf 199) Γ.sigs wf [] x_law_9 [sl scr, some ⟨p, .deep, []⟩, none, none, none, none, none, none, none, none, none, none, none, none, none, none] = some (.nx δ') := by
  obtain ⟨δ', h1, _⟩ := for_inv (body := fturn (callN Γ wf (189 + 10)) Γ.sigs wf [] (.nm 2) body9 []) (RS scr) ((List.range 10).map fun k : Nat => D.int ((0 : Int) + (k : Nat))) 0 [sl scr, some ⟨p, .deep, []⟩, none, none, none, none, none, none, none, none, none, none, none, none, none, none] ⟨p, .deep, [], none, none, none, none, none, none, none, none, none, hp, .inl rfl, (fun _ h => nomatch h), rfl, rfl, rfl, rfl, rfl, rfl, rfl, rfl, rfl⟩ fun i d δ hi ⟨p, kd, S1, o2, o3, o4, o5, o6, o7, o8, o9, o10, hp, hk, hS, hδ, k3, k4, k5, k6, k7, k8, k9, k10⟩ => by
    subst hδ
    rw [List.getElem?_map] at hi
    obtain ⟨j, h1, h2⟩ := Option.map_eq_some_iff.mp hi
    obtain ⟨h3, h4⟩ := List.getElem?_eq_some_iff.mp h1
    rw [List.getElem_range] at h4
    subst h4 h2
    rw [List.length_range] at h3
    obtain ⟨a, b, r1, r2, X4, p', S1', g, B1, B2, hX, hS', hp', he⟩ := first (n := 189) (scr := scr) (turn := 0 + (i : Nat)) hk hS hp (by omega) (by omega) k3 k4 k5 k6 k7 k8 k9 k10
    have hl := late (n := 189) (scr := scr) (p := p') (turn := 0 + (i : Nat)) (o5 := o5) (o6 := o6) (o7 := o7) (o8 := o8) (o9 := o9) (o10 := o10) g B1 B2 hX hS'
    refine ⟨_, (show fturn (callN Γ wf (189 + 10)) Γ.sigs wf [] (.nm 2) body9 [] _ _ = some (.nx _) from he.trans hl), p', .own, S1', _, _, _, _, _, _, _, _, _, ?_, .inr rfl, hS', rfl, rfl, ?_, rfl, rfl, rfl, ?_, rfl, rfl⟩
    · rw [show 200 * (0 + i + 1) = 200 * (0 + i) + 200 by omega]; exact hp'
    · rcases hX with rfl | rfl | rfl <;> rfl
    · rfl
  exact ⟨δ', ev_for (P := []) (w := ⟨(List.range 10).map fun k : Nat => D.int ((0 : Int) + (k : Nat)), [], []⟩) (by simp [runFn, evSs, evS, evE, evEs, evKs, evC, evI, evO, rd, entry, truth, scal, cmpD, opN, opSub, opF, opFs, opB, slOf, mkTup, mkLst, Tm.un, noL, noLs, apartS, disj, ioFree, PP.finish, iosOf, iosS, Kd.cl, Kd.dp, PL.kill_nil, PL.kill_cons, PL.killO_some, PL.killO_none, putIo, fstLst, PL.isL1, PL.isL2, PL.isL3, PL.isL4, PL.isL5, PL.isL6, intsT, PL.put1, grown, doCall, Prog.sigs, Df.sig, bindP, callRet, unionS, retTm, bindT, bindTs, seqOf, PP.listOf, forget, setAll, tyIs, tyOk, rngOf, siOf]) rfl h1⟩
theorem pure_law (ns : List Int) (hl : ns.length ≤ 63) (hb : ∀ z ∈ ns, Builtin.Int.intBits z ≤ 1048576) : ∃ r, callN Γ wf 200 "law" [.frz (ns.map D.int)] = some r ∧ r.d = .bl true := by
  obtain ⟨p, hp, h1⟩ := v__law_purse h__law_purse (n := 198) (wf := wf) hl
  obtain ⟨δ', h2⟩ := loop (.frz (ns.map D.int)) p hp
  refine ⟨⟨.bl true, false, false, []⟩, ?_, rfl⟩
  rw [show callN Γ wf 200 = callN Γ wf (199 + 1) from rfl, callN]
  generalize hx : x_law_9 = xx at h2
  simp [h_law, c_law, hx, runFn, evSs, evS, evE, evEs, evKs, evC, evI, evO, rd, entry, truth, scal, cmpD, opN, opSub, opF, opFs, opB, slOf, mkTup, mkLst, Tm.un, noL, noLs, apartS, disj, ioFree, PP.finish, iosOf, iosS, Kd.cl, Kd.dp, PL.kill_nil, PL.kill_cons, PL.killO_some, PL.killO_none, putIo, fstLst, PL.isL1, PL.isL2, PL.isL3, PL.isL4, PL.isL5, PL.isL6, intsT, PL.put1, grown, doCall, Prog.sigs, Df.sig, bindP, callRet, unionS, retTm, bindT, bindTs, seqOf, PP.listOf, forget, setAll, tyIs, tyOk, rngOf, siOf, h__law_purse, h1, h2]
end K15

namespace K15
open PP PySem PySem.Spec PyProof.Rows L2
theorem law_sig : Γ.sigs "law" = some ⟨["script"], [], [], []⟩ := by kernel_rfl
theorem told {h : Heap} {mg : Str → Option Value} {K : Fg} {w : World} (X : K.In h) (G : h.Ns mainGlobals mg) (c : He.SaysX fa fn [] [] (moreOf P) w h K) : Told P K h mg := ⟨X, G, c.t.d, c.more⟩
end K15
open PySem PySem.W PySem.Calls PyProof.Rows
theorem PySem.Challenge.cw_gamestold_k15_whole_two_parts_of_games_holds : PySem.Challenge.rw_gamestold_k15_whole_two_parts_of_games.Holds := by
  w_on; o_law
  refine HandSHeadRun.head_any (r := OpenLaw.row PySem.Challenge.rw_gamestold_k15_whole_two_parts_of_games) (q := view (OpenLaw.row PySem.Challenge.rw_gamestold_k15_whole_two_parts_of_games).prog [K15.lawIx]) (H := K15.hk) (ob := K15.ob) (M := 3000) (loose := K15.loose) (d := HandSHeadRun.topDef (OpenLaw.row PySem.Challenge.rw_gamestold_k15_whole_two_parts_of_games).prog K15.lawIx) (kwd := []) K15.ob_eq
    (by kernel_rfl) (fun s => by kernel_rfl) K15.run (by kernel_rfl) (by kernel_rfl) (by kernel_rfl) (by rfl) (by first | assumption | decide +kernel) (by decide +kernel) ⟨rfl, rfl, rfl, rfl, rfl, by decide +kernel⟩ ?hw ?hc
  case hw => w_witness2
  case hc =>
    refine PP.walk_pp (l := PySem.Challenge.rw_gamestold_k15_whole_two_parts_of_games) (n := 63) (k := 200) (x := "script") (sig := ⟨["script"], [], [], []⟩) (Cf := PP.callN K15.Γ K15.wf 200 "law") rfl (by decide) (by kernel_rfl) ⟨rfl, by decide, by decide⟩ rfl rfl rfl ?F K15.pure_law
    intro w mg fa h Y G hmg0
    obtain ⟨K, KX, c⟩ := Y
    have hmg : mg ("law" : PySem.Str) = some (.ref fa) := by
      have e : (HandSHeadRun.topDef (OpenLaw.row PySem.Challenge.rw_gamestold_k15_whole_two_parts_of_games).prog K15.lawIx).name = ("law" : PySem.Str) := by kernel_rfl
      rw [← e]
      exact hmg0
    have t := K15.told KX G c
    have T := PP.tab_of (w := w) t K15.chk K15.kwok (PP.spoilt_ok (w := w) t K15.chk K15.spchk) PP.sp_code
    have ho : (PP.ownNames K15.P.main.body).contains ("law" : PySem.Str) = true := by kernel_rfl
    obtain ⟨fa2, fd2, h1, h3, h4⟩ := PP.one_ok (wf := K15.wf) T ho K15.law_sig
    have e : fa2 = fa := by
      rw [hmg] at h1
      cases h1
      rfl
    subst e
    exact ⟨K, fd2, KX, fun s u => h3 s [u] rfl, fun base kb nb => h4 base kb nb 199⟩

