import PyProof.Rows.All
import Wide.All
import OpenK.AllK
import Wide.FinOn
import HandS.ForMost
import HandS.TupAny
import HandS.Rev
import HandS.Style
import HandS.Conv
import HandS.IsInst
import HandS.Zip
import HandS.SortInts
import HandS.RevTup
import KE.GoesEnum
import HandS.Defaults
import HandS.Words
import HandS.WordsExc
import HandS.Exc
import HandS.Head0
import HandS.Head1
import HandS.Head2
import HandS.HeadEnd
import HandS.HeadHook1
import HandS.HeadHook2
import PySem.Challenge.RW_withinrows_k67_whole_words_put_together
set_option Elab.async false
set_option linter.all false
set_option maxRecDepth 100000
/-! Mn: a small evaluator over data, shown sound over HandS. Part 1: data, programs, the evaluator. -/
namespace Mn
open PySem L2

/-- data: what never changes -/
inductive D where
  | non | bl (b : Bool) | int (i : Int) | str (s : Str)
  | tup (xs : List D) | lst (xs : List D) | dic (ks ds : List D)
  | scr (xs : List D) | glob (g : Nat)

mutual
def D.py : D → PyData
  | .non => .none
  | .bl b => .bool b
  | .int i => .int i
  | .str s => .str s
  | .tup xs => .tuple (D.pys xs)
  | .lst xs => .list (D.pys xs)
  | .dic _ _ => .dict []
  | .scr _ => .dict []
  | .glob _ => .dict []
def D.pys : List D → List PyData
  | [] => []
  | x :: xs => D.py x :: D.pys xs
end

/-- what a name holds: data, or a thing of its own that may be changed -/
inductive W where
  | val (d : D) | lst (ds : List D) | dic (ks ds : List D) | rc (ns : List Str) (ws : List W)

abbrev Env := List (Option W)

def W.frz : W → Option D
  | .val d => some d
  | .lst ds => some (.lst ds)
  | .dic ks ds => some (.dic ks ds)
  | .rc _ _ => none

def Env.get (e : Env) (i : Nat) : Option W := (e[i]?).join

inductive R (α : Type) where
  | ok (a : α) (e : Env) | exn (c : Nat) (p : List D) (e : Env) | bad
def R.bind {α β : Type} : R α → (α → Env → R β) → R β
  | .ok a e, k => k a e
  | .exn c p e, _ => .exn c p e
  | .bad, _ => .bad
inductive FR where
  | ok (w : W) (outs : List W) | exn (c : Nat) (p : List D) (outs : List W) | bad
inductive RS where
  | nx (e : Env) | rt (w : W) (e : Env) | bk (e : Env) | ct (e : Env) | exn (c : Nat) (p : List D) (e : Env) | bad

structure Cn where
  Φ : Nat → List W → FR
  io : Nat → List Nat
  Γ : Nat → Option D
  fuel : Nat

/-! ### keys -/
def D.key : D → Option Key
  | .int i => some (.inl i)
  | .str s => some (.inr s)
  | _ => none
def D.keys : List D → Option (List Key)
  | [] => some []
  | d :: ds => match d.key, D.keys ds with
    | some k, some ks => some (k :: ks)
    | _, _ => none
/-- the place of a key -/
def keyIx (k : Key) : List Key → Option Nat
  | [] => none
  | q :: qs => if q = k then some 0 else (keyIx k qs).map (· + 1)
def dicGet (ks ds : List D) (k : D) : Option (Option D) := match D.keys ks, k.key with
  | some qs, some q => some (match keyIx q qs with | some i => ds[i]? | none => none)
  | _, _ => none

/-! ### operations -/
inductive Ty where | int | str | tup | lst | dic | bool
def D.isTy : D → Ty → Option Bool
  | .non, _ => some false
  | .bl _, .bool => some true
  | .bl _, .int => some true
  | .bl _, _ => some false
  | .int _, .int => some true
  | .int _, _ => some false
  | .str _, .str => some true
  | .str _, _ => some false
  | .tup _, .tup => some true
  | .tup _, _ => some false
  | .lst _, .lst => some true
  | .lst _, _ => some false
  | .dic _ _, .dic => some true
  | .dic _ _, _ => some false
  | _, _ => none
def D.isTys (d : D) : List Ty → Option Bool
  | [] => some false
  | t :: ts => match d.isTy t with
    | some true => some true
    | some false => D.isTys d ts
    | none => none

def ints? : List D → Option (List Int)
  | [] => some []
  | .int i :: ds => (ints? ds).map (i :: ·)
  | _ :: _ => none
def bools? : List D → Option (List Bool)
  | [] => some []
  | .bl i :: ds => (bools? ds).map (i :: ·)
  | _ :: _ => none
def isort (xs : List Int) : List Int := xs.mergeSort (fun a b => decide (a ≤ b))

def szOk (n : Nat) : Bool := decide (n ≤ 16777216)
def pw64 : Nat := 18446744073709551616
def mulOk (i j : Int) : Bool := decide (i.natAbs < pw64) || decide (j.natAbs < pw64)
def cmpEq (d e : D) : Option Bool := if SeqAt.shaped d.py && SeqAt.shaped e.py then some (PyData.eqv d.py e.py) else none
def D.flat : D → Bool
  | .non => true | .bl _ => true | .int _ => true | .str _ => true | _ => false
def inFlat (x : D) (ds : List D) : Option Bool := if x.flat && ds.all D.flat then some (ds.any fun d => PyData.eqv d.py x.py) else none
def sIx (n d : Nat) : Option Int → Nat := HT.sIx n d
def cutD (xs : List D) (lo hi : Option Int) : List D := (xs.drop (sIx xs.length 0 lo)).take (sIx xs.length xs.length hi - sIx xs.length 0 lo)
def rangeD (a b : Int) : List D := (List.range (b - a).toNat).map fun (k : Nat) => D.int (a + (k : Int))
def rngOk (a : Int) : Bool := decide (a.natAbs ≤ 1000000000000)

inductive P where
  | add | sub | mul | fdiv | mod | pow
  | eq | ne | lt | le | gt | ge | is_ | isn | in_ | nin
  | ix | sl (a b : Bool) | rv | eqNil (neg tup : Bool)
  | len | isi (ts : List Ty) | tupOf | lstOf | lstRng1 | abs | intOf | min2 | sortd | all_ | any_ | tupRev | split (t : Str)

def P.ev : P → List D → Option W
  | .add, [.int i, .int j] => some (.val (.int (i + j)))
  | .add, [.tup a, .tup b] => if szOk (a.length + b.length) then some (.val (.tup (a ++ b))) else none
  | .add, [.lst a, .lst b] => if szOk (a.length + b.length) then some (.lst (a ++ b)) else none
  | .sub, [.int i, .int j] => some (.val (.int (i - j)))
  | .mul, [.int i, .int j] => if mulOk i j then some (.val (.int (i * j))) else none
  | .mul, [.lst a, .int j] => if rngOk j && szOk (a.length * j.toNat) then some (.lst (List.replicate j.toNat a).flatten) else none
  | .fdiv, [.int i, .int j] => if j ≠ 0 ∧ j.natAbs < 1073741824 then some (.val (.int (i.fdiv j))) else none
  | .mod, [.int i, .int j] => if j ≠ 0 then some (.val (.int (i.fmod j))) else none
  | .pow, [.int i, .int j] => if 0 ≤ j ∧ j.natAbs ≤ 1000000 ∧ i.natAbs < pw64 then some (.val (.int (i ^ j.toNat))) else none
  | .eq, [a, b] => (cmpEq a b).map fun k => .val (.bl k)
  | .ne, [a, b] => (cmpEq a b).map fun k => .val (.bl !k)
  | .lt, [.int i, .int j] => some (.val (.bl (decide (i < j))))
  | .le, [.int i, .int j] => some (.val (.bl (decide (i ≤ j))))
  | .gt, [.int i, .int j] => some (.val (.bl (decide (j < i))))
  | .ge, [.int i, .int j] => some (.val (.bl (decide (j ≤ i))))
  | .is_, [.bl a, .bl b] => some (.val (.bl (decide (a = b))))
  | .is_, [.non, .non] => some (.val (.bl true))
  | .is_, [_, .non] => some (.val (.bl false))
  | .isn, [.bl a, .bl b] => some (.val (.bl !(decide (a = b))))
  | .isn, [.non, .non] => some (.val (.bl false))
  | .isn, [_, .non] => some (.val (.bl true))
  | .in_, [x, .tup ds] => (inFlat x ds).map fun k => .val (.bl k)
  | .in_, [x, .lst ds] => (inFlat x ds).map fun k => .val (.bl k)
  | .nin, [x, .tup ds] => (inFlat x ds).map fun k => .val (.bl !k)
  | .nin, [x, .lst ds] => (inFlat x ds).map fun k => .val (.bl !k)
  | .ix, [.tup ds, .int i] => (atI ds i).map .val
  | .ix, [.lst ds, .int i] => (atI ds i).map .val
  | .ix, [.scr ds, .int i] => (atI ds i).map .val
  | .ix, [.dic ks ds, k] => match dicGet ks ds k with
    | some (some d) => some (.val d)
    | _ => none
  | .sl true true, [.tup ds, .int i, .int j] => some (.val (.tup (cutD ds (some i) (some j))))
  | .sl true false, [.tup ds, .int i] => some (.val (.tup (cutD ds (some i) none)))
  | .sl false true, [.tup ds, .int j] => some (.val (.tup (cutD ds none (some j))))
  | .sl true true, [.lst ds, .int i, .int j] => some (.lst (cutD ds (some i) (some j)))
  | .sl true false, [.lst ds, .int i] => some (.lst (cutD ds (some i) none))
  | .sl false true, [.lst ds, .int j] => some (.lst (cutD ds none (some j)))
  | .rv, [.lst ds] => some (.lst ds.reverse)
  | .eqNil neg tup, [d] => (cmpEq d (if tup then .tup [] else .lst [])).map fun k => .val (.bl (if neg then !k else k))
  | .len, [.tup ds] => some (.val (.int ds.length))
  | .len, [.lst ds] => some (.val (.int ds.length))
  | .len, [.scr ds] => some (.val (.int ds.length))
  | .isi ts, [d] => (d.isTys ts).map fun k => .val (.bl k)
  | .tupOf, [.tup ds] => some (.val (.tup ds))
  | .tupOf, [.lst ds] => some (.val (.tup ds))
  | .lstOf, [.tup ds] => some (.lst ds)
  | .lstOf, [.lst ds] => some (.lst ds)
  | .lstRng1, [.int n] => if rngOk n && szOk n.toNat then some (.lst (rangeD 0 n)) else none
  | .abs, [.int i] => some (.val (.int (if i < 0 then -i else i)))
  | .intOf, [.int i] => some (.val (.int i))
  | .intOf, [.bl k] => some (.val (.int (if k then 1 else 0)))
  | .min2, [.int i, .int j] => some (.val (.int (if j < i then j else i)))
  | .sortd, [.tup ds] => (ints? ds).map fun ns => .lst ((isort ns).map D.int)
  | .sortd, [.lst ds] => (ints? ds).map fun ns => .lst ((isort ns).map D.int)
  | .all_, [.lst ds] => (bools? ds).map fun bs => .val (.bl (bs.all id))
  | .any_, [.lst ds] => (bools? ds).map fun bs => .val (.bl (bs.any id))
  | .tupRev, [.tup ds] => some (.val (.tup ds.reverse))
  | .tupRev, [.lst ds] => some (.val (.tup ds.reverse))
  | .split t, [.str s] => if t.length == 0 || !(decide (s.length + 2 ≤ 16777216)) then none else some (.lst ((Txt.split s t).map D.str))
  | _, _ => none

inductive IK where | seq | rng1 | rng2 | enum | zip | rev
def D.items : D → Option (List D)
  | .lst ds => some ds
  | .tup ds => some ds
  | .scr ds => some ds
  | _ => none
def enumD : Nat → List D → List D
  | _, [] => []
  | k, d :: ds => .tup [.int (k : Int), d] :: enumD (k + 1) ds
def zipD : List D → List D → List D
  | a :: as, b :: bs => .tup [a, b] :: zipD as bs
  | _, _ => []
def IK.ev : IK → List D → Option (List D)
  | .seq, [d] => d.items
  | .rng1, [.int n] => if rngOk n then some (rangeD 0 n) else none
  | .rng2, [.int a, .int b] => if rngOk a && rngOk b then some (rangeD a b) else none
  | .enum, [.lst ds] => some (enumD 0 ds)
  | .enum, [.tup ds] => some (enumD 0 ds)
  | .zip, [.lst a, .lst b] => some (zipD a b)
  | .zip, [.tup a, .tup b] => some (zipD a b)
  | .rev, [.lst ds] => some ds.reverse
  | .rev, [.tup ds] => some ds.reverse
  | _, _ => none

/-- changes of a list -/
inductive M where | append | extend | pop | popAt
def M.ev : M → List D → List D → Option (D × List D)
  | .append, ds, [d] => if decide (ds.length < 16777216) then some (.non, ds ++ [d]) else none
  | .extend, ds, [.lst es] => if szOk (ds.length + es.length) then some (.non, ds ++ es) else none
  | .pop, ds, [] => match ds[ds.length - 1]? with
    | some d => some (d, ds.dropLast)
    | none => none
  | .popAt, ds, [.int i] => match (if rngOk i then seqIndex? i ds.length else none) with
    | some k => match ds[k]? with
      | some d => some (d, ds.eraseIdx k)
      | none => none
    | none => none
  | _, _, _ => none

/-! ### programs -/
inductive Tg where | nm (i : Nat) | tnil | tcons (a b : Tg)
inductive E where
  | var (i : Nat) | mv (i : Nat) | pth (i : Nat) (f : Str) | cst (d : D) | glb (g : Nat) | never
  | prim (p : P) (a : E) | tupd (a : E) | lstd (a : E) | dicd (ks : List D) (a : E) | rcd (ks : List Str) (a : E)
  | and2 (a b : E) | or2 (a b : E) | one (a : E) | frz (a : E) | nt (a : E) | ife (c a b : E)
  | chain (o1 o2 : P) (ab c : E)
  | lc (vs : List Nat) (tg : Tg) (ik : IK) (its : E) (c : E) (elt : E)
  | call (f : Nat) (a : E) | io (i : Nat)
  | mut (m : M) (i : Nat) (f : Option Str) (a : E)
  | nil | cons (a r : E)
inductive S where
  | skip | seq (a b : S) | setE (i : Nat) (e : E) | asg (tg : Tg) (e : E) | par (is : List Nat) (a : E)
  | setIx (i : Nat) (k v : E) | setRc (i : Nat) (f : Str) (v : E)
  | expr (e : E) | ife (c : E) (a b : S) | for_ (tg : Tg) (ik : IK) (its : E) (b : S) | while_ (c : E) (b : S)
  | ret (e : E) | retN | brk | cont | never | raise (c : Nat) (a : E)

/-- a target takes a datum -/
def Tg.asgn (pn : List Nat) : Tg → D → Env → Option Env
  | .nm i, d, e => if i ∈ pn ∨ ¬ i < e.length then none else some (e.set i (some (.val d)))
  | .tnil, .tup [], e => some e
  | .tcons a b, .tup (d :: ds), e => match Tg.asgn pn a d e with
    | some e' => Tg.asgn pn b (.tup ds) e'
    | none => none
  | _, _, _ => none

def fld (ns : List Str) (ws : List W) (f : Str) : Option W := match ns, ws with
  | n :: ns, w :: ws => if n = f then some w else fld ns ws f
  | _, _ => none
def setFld (ns : List Str) (ws : List W) (f : Str) (x : W) : List W := match ns, ws with
  | n :: ns, w :: ws => if n = f then x :: ws else w :: setFld ns ws f x
  | _, ws => ws
/-- what stands at a place -/
def Env.at (e : Env) (i : Nat) : Option Str → Option W
  | none => e.get i
  | some f => match e.get i with
    | some (.rc ns ws) => fld ns ws f
    | _ => none
def Env.put (e : Env) (i : Nat) (w : W) : Option Str → Env
  | none => e.set i (some w)
  | some f => match e.get i with
    | some (.rc ns ws) => e.set i (some (.rc ns (setFld ns ws f w)))
    | _ => e

/-- an operand: data, or a name that is looked at when the operation comes -/
inductive Opd where | d (d : D) | s (i : Nat)
def resolve (e : Env) : List Opd → Option (List D)
  | [] => some []
  | .d d :: os => (resolve e os).map (d :: ·)
  | .s i :: os => match e.get i with
    | some w => match w.frz, resolve e os with
      | some d, some ds => some (d :: ds)
      | _, _ => none
    | none => none
/-- a written constant -/
def D.sc : D → Bool
  | .int _ => true | .bl _ => true | .str _ => true | .non => true | _ => false
def E.csts : E → Bool
  | .nil => true
  | .cons (.cst d) r => d.sc && r.csts
  | _ => false
def wipeE (e : Env) : List Nat → Env
  | [] => e
  | v :: vs => (wipeE e vs).set v none
/-- the names of a comprehension hold again what they held -/
def restore (e0 e : Env) : List Nat → Env
  | [] => e
  | v :: vs => (restore e0 e vs).set v (match e0.get v with | some (.val d) => some (.val d) | _ => none)

def compLoop (vs : List Nat) (tg : Tg) (cond : Env → R W) (elt : Env → R W) : List D → Env → List D → R (List D)
  | [], e, acc => .ok acc e
  | d :: ds, e, acc => match tg.asgn [] d (wipeE e vs) with
    | none => .bad
    | some e1 => match cond e1 with
      | .ok (.val (.bl true)) e2 => match elt e2 with
        | .ok w e3 => match w.frz with
          | some x => if acc.length < 16777216 then compLoop vs tg cond elt ds e3 (acc ++ [x]) else .bad
          | none => .bad
        | _ => .bad
      | .ok (.val (.bl false)) e2 => compLoop vs tg cond elt ds e2 acc
      | _ => .bad

def args? (e : Env) : List (Option D × Nat) → Option (List W)
  | [] => some []
  | (some d, _) :: r => (args? e r).map (.val d :: ·)
  | (none, i) :: r => match e.get i, args? e r with
    | some w, some ws => some (w :: ws)
    | _, _ => none
def putOuts (e : Env) : List Nat → List W → Option Env
  | [], [] => some e
  | i :: is, w :: ws => putOuts (e.set i (some w)) is ws
  | _, _ => none
def iosOf : List (Option D × Nat) → List Nat
  | [] => []
  | (some _, _) :: r => iosOf r
  | (none, i) :: r => i :: iosOf r

/-- written keys of a dict -/
def dkOk (ks : List D) : Bool := match D.keys ks with
  | some qs => decide qs.Nodup && decide (qs.length ≤ 15)
  | none => false
/-- a call: what comes back, and the things handed over as they are then -/
def posIo : List (Option D × Nat) → List Nat
  | [] => []
  | (some _, _) :: r => (posIo r).map (· + 1)
  | (none, _) :: r => 0 :: (posIo r).map (· + 1)
def callE (φ : List W → FR) (io : List Nat) (as : List (Option D × Nat)) (e : Env) : R W :=
  if (iosOf as).Nodup ∧ posIo as = io then match args? e as with
    | some ws => match φ ws with
      | .ok w outs => match putOuts e (iosOf as) outs with
        | some e2 => .ok w e2
        | none => .bad
      | .exn c p outs => match putOuts e (iosOf as) outs with
        | some e2 => .exn c p e2
        | none => .bad
      | .bad => .bad
    | none => .bad
  else .bad
mutual
def evE (C : Cn) : E → Env → R W
  | .var i, e => match e.get i with
    | some w => match w.frz with
      | some d => .ok (.val d) (e.set i (some (.val d)))
      | none => .bad
    | none => .bad
  | .mv i, e => match e.get i with
    | some w => .ok w (e.set i none)
    | none => .bad
  | .pth i f, e => match e.at i (some f) with
    | some (.val d) => .ok (.val d) e
    | _ => .bad
  | .cst d, e => .ok (.val d) e
  | .glb g, e => match C.Γ g with
    | some d => .ok (.val d) e
    | none => .bad
  | .prim p a, e => (evA C a e).bind fun os e' => match resolve e' os with
    | some ds => match p.ev ds with
      | some w => .ok w e'
      | none => .bad
    | none => .bad
  | .tupd a, e => (evL C a e).bind fun ds e' => if szOk ds.length then .ok (.val (.tup ds)) e' else .bad
  | .lstd a, e => (evL C a e).bind fun ds e' => if szOk ds.length then .ok (.lst ds) e' else .bad
  | .dicd ks a, e => (evL C a e).bind fun ds e' => if ks.length = ds.length ∧ dkOk ks = true then .ok (.dic ks ds) e' else .bad
  | .rcd ks a, e => (evW C a e).bind fun ws e' => if ks.length = ws.length ∧ dkOk (ks.map D.str) = true then .ok (.rc ks ws) e' else .bad
  | .and2 a b, e => (evE C a e).bind fun w e' => match w with
    | .val (.bl true) => evE C b e'
    | .val (.bl false) => .ok (.val (.bl false)) e'
    | _ => .bad
  | .or2 a b, e => (evE C a e).bind fun w e' => match w with
    | .val (.bl true) => .ok (.val (.bl true)) e'
    | .val (.bl false) => evE C b e'
    | _ => .bad
  | .one a, e => evE C a e
  | .frz a, e => (evE C a e).bind fun w e' => match w.frz with
    | some d => .ok (.val d) e'
    | none => .bad
  | .nt a, e => (evE C a e).bind fun w e' => match w with
    | .val (.bl k) => .ok (.val (.bl !k)) e'
    | _ => .bad
  | .ife c a b, e => (evE C c e).bind fun w e' => match w with
    | .val (.bl true) => evE C a e'
    | .val (.bl false) => evE C b e'
    | _ => .bad
  | .chain o1 o2 ab c, e => (evL C ab e).bind fun ds e' => match ds with
    | [x, y] => match o1.ev [x, y] with
      | some (.val (.bl true)) => (evE C c e').bind fun w e2 => match w.frz with
        | some z => match o2.ev [y, z] with
          | some w => .ok w e2
          | none => .bad
        | none => .bad
      | some (.val (.bl false)) => .ok (.val (.bl false)) e'
      | _ => .bad
    | _ => .bad
  | .lc vs tg ik its c elt, e => (evL C its e).bind fun ds e' => match ik.ev ds with
    | some items => match compLoop vs tg (fun e => evE C c e) (fun e => evE C elt e) items e' [] with
      | .ok acc e2 => .ok (.lst acc) (restore e' e2 vs)
      | _ => .bad
    | none => .bad
  | .call f a, e => (evC C a e).bind fun as e' => callE (C.Φ f) (C.io f) as e'
  | .mut m i f a, e => match e.at i f with
    | some (.lst _) => if f.isNone || a.csts then (evL C a e).bind fun ds e' => match e'.at i f with
        | some (.lst xs) => match m.ev xs ds with
          | some (d, ys) => .ok (.val d) (e'.put i (.lst ys) f)
          | none => .bad
        | _ => .bad
      else .bad
    | _ => .bad
  | .io _, _ => .bad
  | .never, _ => .bad
  | .nil, _ => .bad
  | .cons _ _, _ => .bad
/-- operands -/
def evA (C : Cn) : E → Env → R (List Opd)
  | .nil, e => .ok [] e
  | .cons a r, e => match a with
    | .var i => if (e.get i).isSome then (evA C r e).bind fun os e' => .ok (.s i :: os) e' else .bad
    | .pth i f => if r.csts then match e.at i (some f) with
        | some w => match w.frz with
          | some d => (evA C r e).bind fun os e' => .ok (.d d :: os) e'
          | none => .bad
        | none => .bad
      else (evE C (.pth i f) e).bind fun w e' => match w.frz with
        | some d => (evA C r e').bind fun os e2 => .ok (.d d :: os) e2
        | none => .bad
    | a => (evE C a e).bind fun w e' => match w.frz with
      | some d => (evA C r e').bind fun os e2 => .ok (.d d :: os) e2
      | none => .bad
  | _, _ => .bad
/-- values, all kept -/
def evL (C : Cn) : E → Env → R (List D)
  | .nil, e => .ok [] e
  | .cons a r, e => (evE C a e).bind fun w e' => match w.frz with
    | some d => (evL C r e').bind fun ds e2 => .ok (d :: ds) e2
    | none => .bad
  | _, _ => .bad
/-- values, as they are -/
def evW (C : Cn) : E → Env → R (List W)
  | .nil, e => .ok [] e
  | .cons a r, e => (evE C a e).bind fun w e' => (evW C r e').bind fun ws e2 => .ok (w :: ws) e2
  | _, _ => .bad
/-- arguments of a def -/
def evC (C : Cn) : E → Env → R (List (Option D × Nat))
  | .nil, e => .ok [] e
  | .cons a r, e => match a with
    | .io i => if (e.get i).isSome then (evC C r e).bind fun as e' => .ok ((none, i) :: as) e' else .bad
    | a => (evE C a e).bind fun w e' => match w.frz with
      | some d => (evC C r e').bind fun as e2 => .ok ((some d, 0) :: as) e2
      | none => .bad
  | _, _ => .bad
end

def R.rs {α : Type} : R α → (α → Env → RS) → RS
  | .ok a e, k => k a e
  | .exn c p e, _ => .exn c p e
  | .bad, _ => .bad
def setAll (pn : List Nat) : List Nat → List W → Env → Option Env
  | [], [], e => some e
  | i :: is, w :: ws, e => if i ∈ pn ∨ i ∈ is ∨ ¬ i < e.length then none else setAll pn is ws (e.set i (some w))
  | _, _, _ => none
def forLoop (pn : List Nat) (tg : Tg) (body : Env → RS) : List D → Env → RS
  | [], e => .nx e
  | d :: ds, e => match tg.asgn pn d e with
    | none => .bad
    | some e1 => match body e1 with
      | .nx e2 => forLoop pn tg body ds e2
      | .ct e2 => forLoop pn tg body ds e2
      | .bk e2 => .nx e2
      | r => r
def whileLoop (cond : Env → R W) (body : Env → RS) : Nat → Env → RS
  | 0, _ => .bad
  | n + 1, e => (cond e).rs fun w e1 => match w with
    | .val (.bl true) => match body e1 with
      | .nx e2 => whileLoop cond body n e2
      | .ct e2 => whileLoop cond body n e2
      | .bk e2 => .nx e2
      | r => r
    | .val (.bl false) => .nx e1
    | _ => .bad

def evS (C : Cn) (pn : List Nat) : S → Env → RS
  | .skip, e => .nx e
  | .seq a b, e => match evS C pn a e with
    | .nx e' => evS C pn b e'
    | r => r
  | .setE i x, e => (evE C x e).rs fun w e' => if i ∈ pn ∨ ¬ i < e'.length then .bad else .nx (e'.set i (some w))
  | .asg tg x, e => (evE C x e).rs fun w e' => match w with
    | .val d => match tg.asgn pn d e' with
      | some e2 => .nx e2
      | none => .bad
    | _ => .bad
  | .par is a, e => (evW C a e).rs fun ws e' => match setAll pn is ws e' with
    | some e2 => .nx e2
    | none => .bad
  | .setIx i k v, e => if (e.get i).isSome then (evL C (.cons v (.cons k .nil)) e).rs fun ds e' => match ds, e'.get i with
      | [d, .int j], some (.lst xs) => match ixN xs.length j with
        | some n => .nx (e'.set i (some (.lst (xs.set n d))))
        | none => .bad
      | _, _ => .bad
    else .bad
  | .setRc i f x, e => (evL C (.cons x .nil) e).rs fun ds e' => match ds, e'.at i (some f) with
    | [d], some (.val _) => .nx (e'.put i (.val d) (some f))
    | _, _ => .bad
  | .expr x, e => (evE C x e).rs fun _ e' => .nx e'
  | .ife c a b, e => (evE C c e).rs fun w e' => match w with
    | .val (.bl true) => evS C pn a e'
    | .val (.bl false) => evS C pn b e'
    | _ => .bad
  | .for_ tg ik its b, e => (evL C its e).rs fun ds e' => match ik.ev ds with
    | some items => forLoop pn tg (fun e => evS C pn b e) items e'
    | none => .bad
  | .while_ c b, e => whileLoop (fun e => evE C c e) (fun e => evS C pn b e) C.fuel e
  | .ret x, e => (evE C x e).rs fun w e' => .rt w e'
  | .retN, e => .rt (.val .non) e
  | .brk, e => .bk e
  | .cont, e => .ct e
  | .raise c a, e => (evL C a e).rs fun ds e' => .exn c ds e'
  | .never, _ => .bad

structure Fd where
  np : Nat
  io : List Nat
  n : Nat
  body : S
def outs? (e : Env) : List Nat → Option (List W)
  | [] => some []
  | i :: is => match e.get i, outs? e is with
    | some w, some ws => some (w :: ws)
    | _, _ => none
/-- what is handed over is data, but where the def may change it -/
def argOk (io : List Nat) : Nat → List W → Bool
  | _, [] => true
  | k, .val _ :: ws => argOk io (k + 1) ws
  | k, _ :: ws => io.contains k && argOk io (k + 1) ws
def runFd (C : Cn) (fd : Fd) (ws : List W) : FR :=
  if ws.length = fd.np ∧ argOk fd.io 0 ws = true then
    match evS C fd.io fd.body (ws.map some ++ List.replicate (fd.n - fd.np) none) with
    | .rt w e => match outs? e fd.io with
      | some os => .ok w os
      | none => .bad
    | .nx e => match outs? e fd.io with
      | some os => .ok (.val .non) os
      | none => .bad
    | .exn c p e => match outs? e fd.io with
      | some os => .exn c p os
      | none => .bad
    | _ => .bad
  else .bad
/-- the whole program: a def by its number, so many calls deep -/
def ioT (T : Nat → Option Fd) (f : Nat) : List Nat := match T f with
  | some fd => fd.io
  | none => []
def run (T : Nat → Option Fd) (Γ : Nat → Option D) (fuel : Nat) : Nat → Nat → List W → FR
  | 0, _, _ => .bad
  | k + 1, f, ws => match T f with
    | some fd => runFd ⟨run T Γ fuel k, ioT T, Γ, fuel⟩ fd ws
    | none => .bad
end Mn
set_option Elab.async false
set_option linter.all false
set_option maxRecDepth 100000
/-! Mn, part 2: what data and names mean in an abstract heap. -/
namespace Mn
open PySem L2

example (C : Cn) (d : D) (e : Env) : evE C (.cst d) e = .ok (.val d) e := rfl

def Ex (H H' : Hp) : Prop := ∀ a o, H a = some o → H' a = some o
theorem Ex.refl (H : Hp) : Ex H H := fun _ _ h => h
theorem Ex.trans {H H1 H2 : Hp} (a : Ex H H1) (b : Ex H1 H2) : Ex H H2 := fun x o h => b x o (a x o h)
theorem Ex.new {H : Hp} {p : Addr} {o : HO} (h : H p = none) : Ex H (upd H p o) := fun a u e => by
  rw [upd_ne (ne_of_none e h)]
  exact e
theorem Ex.upd {H H' : Hp} {p : Addr} {o : HO} (e : Ex H H') (h : H p = none) : Ex H (upd H' p o) := fun a u ha => by
  rw [upd_ne (ne_of_none ha h)]
  exact e a u ha
theorem Ex.back {H H' : Hp} {p : Addr} (e : Ex H H') (h : H' p = none) : H p = none := by
  cases h1 : H p with
  | none => rfl
  | some o => rw [e p o h1] at h; cases h
theorem Ex.rd {H H' : Hp} {a : Addr} {u : HO} (e : Ex H H') (h : Rd H a u) : Rd H' a u := by
  rcases h with h | ⟨o, h⟩
  · exact .inl (e a _ h)
  · exact .inr ⟨o, e a _ h⟩
theorem Ex.sqL {K : PySem.W.Frag} {H H' : Hp} {a : Addr} {xs : List V} (e : Ex H H') (h : SqL K H a xs) : SqL K H' a xs := by
  rcases h with h | h
  · exact .inl (e.rd h)
  · exact .inr h
theorem Ex.sqT {K : PySem.W.Frag} {H H' : Hp} {a : Addr} {xs : List V} (e : Ex H H') (h : SqT K H a xs) : SqT K H' a xs := by
  rcases h with h | h
  · exact .inl (e.rd h)
  · exact .inr h

section
variable (K : PySem.W.Frag) (G : Nat → Option Addr)
mutual
/-- v is the datum, all that it leans on standing in F -/
def Rp (F : Hp) : D → V → Prop
  | .non, v => v = .non
  | .bl b, v => v = .bl b
  | .int i, v => v = .int i
  | .str s, v => v = .str s
  | .tup ds, v => ∃ a vs, v = .ref a ∧ SqT K F a vs ∧ Rps F ds vs
  | .lst ds, v => ∃ a vs, v = .ref a ∧ F a = some (.lst vs) ∧ Rps F ds vs
  | .dic ks ds, v => ∃ a kvs, v = .ref a ∧ F a = some (.dK kvs) ∧ D.keys ks = some (kvs.map (·.1)) ∧ Rps F ds (kvs.map (·.2))
  | .scr ds, v => ∃ a vs, v = .ref a ∧ SqL K F a vs ∧ Rps F ds vs
  | .glob g, v => ∃ f, v = .ref f ∧ G g = some f
def Rps (F : Hp) : List D → List V → Prop
  | [], vs => vs = []
  | d :: ds, vs => ∃ v r, vs = v :: r ∧ Rp F d v ∧ Rps F ds r
end
end

section
variable {K : PySem.W.Frag} {G : Nat → Option Addr} {F F' : Hp}
mutual
theorem Rp.mono (x : Ex F F') : ∀ (d : D) (v : V), Rp K G F d v → Rp K G F' d v
  | .non, _, h => by unfold Rp at h ⊢; exact h
  | .bl b, _, h => by unfold Rp at h ⊢; exact h
  | .int i, _, h => by unfold Rp at h ⊢; exact h
  | .str s, _, h => by unfold Rp at h ⊢; exact h
  | .tup ds, _, h => by
    unfold Rp at h ⊢
    obtain ⟨a, vs, e, q, r⟩ := h
    exact ⟨a, vs, e, x.sqT q, Rps.mono x ds vs r⟩
  | .lst ds, _, h => by
    unfold Rp at h ⊢
    obtain ⟨a, vs, e, q, r⟩ := h
    exact ⟨a, vs, e, x _ _ q, Rps.mono x ds vs r⟩
  | .dic ks ds, _, h => by
    unfold Rp at h ⊢
    obtain ⟨a, kvs, e, q, k, r⟩ := h
    exact ⟨a, kvs, e, x _ _ q, k, Rps.mono x ds _ r⟩
  | .scr ds, _, h => by
    unfold Rp at h ⊢
    obtain ⟨a, vs, e, q, r⟩ := h
    exact ⟨a, vs, e, x.sqL q, Rps.mono x ds vs r⟩
  | .glob g, _, h => by unfold Rp at h ⊢; exact h
theorem Rps.mono (x : Ex F F') : ∀ (ds : List D) (vs : List V), Rps K G F ds vs → Rps K G F' ds vs
  | [], _, h => by unfold Rps at h ⊢; exact h
  | d :: ds, _, h => by
    unfold Rps at h ⊢
    obtain ⟨v, r, e, h1, h2⟩ := h
    exact ⟨v, r, e, Rp.mono x d v h1, Rps.mono x ds r h2⟩
end

theorem Rps.nil_iff {vs : List V} : Rps K G F [] vs ↔ vs = [] := by unfold Rps; exact Iff.rfl
theorem Rps.cons_iff {d : D} {ds : List D} {vs : List V} : Rps K G F (d :: ds) vs ↔ ∃ v r, vs = v :: r ∧ Rp K G F d v ∧ Rps K G F ds r := by
  conv => lhs; unfold Rps
theorem Rps.cons {d : D} {ds : List D} {v : V} {vs : List V} (h : Rp K G F d v) (t : Rps K G F ds vs) : Rps K G F (d :: ds) (v :: vs) := Rps.cons_iff.mpr ⟨v, vs, rfl, h, t⟩
theorem Rps.nil : Rps K G F [] [] := Rps.nil_iff.mpr rfl
theorem Rps.length : ∀ {ds : List D} {vs : List V}, Rps K G F ds vs → vs.length = ds.length
  | [], _, h => by rw [Rps.nil_iff.mp h]; rfl
  | d :: ds, _, h => by
    obtain ⟨v, r, rfl, _, t⟩ := Rps.cons_iff.mp h
    rw [List.length_cons, List.length_cons, Rps.length t]
theorem Rps.append : ∀ {ds es : List D} {vs us : List V}, Rps K G F ds vs → Rps K G F es us → Rps K G F (ds ++ es) (vs ++ us)
  | [], _, _, _, h, k => by rw [Rps.nil_iff.mp h]; exact k
  | d :: ds, es, _, us, h, k => by
    obtain ⟨v, r, rfl, h1, t⟩ := Rps.cons_iff.mp h
    exact Rps.cons h1 (Rps.append t k)
theorem Rps.one {d : D} {v : V} (h : Rp K G F d v) : Rps K G F [d] [v] := Rps.cons h Rps.nil
theorem Rps.get : ∀ {ds : List D} {vs : List V} {i : Nat} {d : D}, Rps K G F ds vs → ds[i]? = some d → ∃ v, vs[i]? = some v ∧ Rp K G F d v
  | [], _, i, d, h, e => by simp at e
  | x :: ds, _, 0, d, h, e => by
    obtain ⟨v, r, rfl, h1, t⟩ := Rps.cons_iff.mp h
    simp at e; subst e
    exact ⟨v, rfl, h1⟩
  | x :: ds, _, i + 1, d, h, e => by
    obtain ⟨v, r, rfl, h1, t⟩ := Rps.cons_iff.mp h
    obtain ⟨u, e1, e2⟩ := Rps.get (i := i) (d := d) t (by simpa using e)
    exact ⟨u, by simpa using e1, e2⟩
theorem Rps.take : ∀ {ds : List D} {vs : List V} (n : Nat), Rps K G F ds vs → Rps K G F (ds.take n) (vs.take n)
  | _, _, 0, _ => Rps.nil
  | [], _, n + 1, h => by rw [Rps.nil_iff.mp h]; exact Rps.nil
  | d :: ds, _, n + 1, h => by
    obtain ⟨v, r, rfl, h1, t⟩ := Rps.cons_iff.mp h
    exact Rps.cons h1 (Rps.take n t)
theorem Rps.drop : ∀ {ds : List D} {vs : List V} (n : Nat), Rps K G F ds vs → Rps K G F (ds.drop n) (vs.drop n)
  | _, _, 0, h => h
  | [], _, n + 1, h => by rw [Rps.nil_iff.mp h]; exact Rps.nil
  | d :: ds, _, n + 1, h => by
    obtain ⟨v, r, rfl, h1, t⟩ := Rps.cons_iff.mp h
    exact Rps.drop n t
theorem Rps.reverse : ∀ {ds : List D} {vs : List V}, Rps K G F ds vs → Rps K G F ds.reverse vs.reverse
  | [], _, h => by rw [Rps.nil_iff.mp h]; exact Rps.nil
  | d :: ds, _, h => by
    obtain ⟨v, r, rfl, h1, t⟩ := Rps.cons_iff.mp h
    rw [List.reverse_cons, List.reverse_cons]
    exact Rps.append (Rps.reverse t) (Rps.one h1)
theorem Rps.set : ∀ {ds : List D} {vs : List V} {d : D} {v : V} (i : Nat), Rps K G F ds vs → Rp K G F d v → Rps K G F (ds.set i d) (vs.set i v)
  | [], _, _, _, i, h, _ => by rw [Rps.nil_iff.mp h]; exact Rps.nil
  | x :: ds, _, d, v, 0, h, k => by
    obtain ⟨u, r, rfl, h1, t⟩ := Rps.cons_iff.mp h
    exact Rps.cons k t
  | x :: ds, _, d, v, i + 1, h, k => by
    obtain ⟨u, r, rfl, h1, t⟩ := Rps.cons_iff.mp h
    exact Rps.cons h1 (Rps.set i t k)
theorem Rps.eraseIdx : ∀ {ds : List D} {vs : List V} (i : Nat), Rps K G F ds vs → Rps K G F (ds.eraseIdx i) (vs.eraseIdx i)
  | [], _, i, h => by rw [Rps.nil_iff.mp h]; exact Rps.nil
  | x :: ds, _, 0, h => by
    obtain ⟨u, r, rfl, h1, t⟩ := Rps.cons_iff.mp h
    exact t
  | x :: ds, _, i + 1, h => by
    obtain ⟨u, r, rfl, h1, t⟩ := Rps.cons_iff.mp h
    exact Rps.cons h1 (Rps.eraseIdx i t)
theorem Rps.dropLast : ∀ {ds : List D} {vs : List V}, Rps K G F ds vs → Rps K G F ds.dropLast vs.dropLast
  | [], _, h => by rw [Rps.nil_iff.mp h]; exact Rps.nil
  | [x], _, h => by
    obtain ⟨u, r, rfl, h1, t⟩ := Rps.cons_iff.mp h
    rw [Rps.nil_iff.mp t]
    exact Rps.nil
  | x :: y :: ds, _, h => by
    obtain ⟨u, r, rfl, h1, t⟩ := Rps.cons_iff.mp h
    obtain ⟨u2, r2, rfl, h2, t2⟩ := Rps.cons_iff.mp t
    exact Rps.cons h1 (Rps.dropLast (ds := y :: ds) (Rps.cons h2 t2))
theorem Rps.ints : ∀ {ds : List D} {vs : List V} {ns : List Int}, Rps K G F ds vs → ints? ds = some ns → vs = ns.map V.int
  | [], _, ns, h, e => by
    rw [Rps.nil_iff.mp h]
    cases e
    rfl
  | d :: ds, _, ns, h, e => by
    obtain ⟨v, r, rfl, h1, t⟩ := Rps.cons_iff.mp h
    cases d with
    | int i =>
      unfold ints? at e
      cases q : ints? ds with
      | none => rw [q] at e; cases e
      | some ms =>
        rw [q] at e
        cases e
        unfold Rp at h1
        rw [h1, Rps.ints t q, List.map_cons]
    | _ => cases e
theorem Rps.of_ints : ∀ (ns : List Int), Rps K G F (ns.map D.int) (ns.map V.int)
  | [] => Rps.nil
  | n :: ns => Rps.cons (by unfold Rp; rfl) (Rps.of_ints ns)
theorem Rps.bools : ∀ {ds : List D} {vs : List V} {ns : List Bool}, Rps K G F ds vs → bools? ds = some ns → vs = ns.map V.bl
  | [], _, ns, h, e => by
    rw [Rps.nil_iff.mp h]
    cases e
    rfl
  | d :: ds, _, ns, h, e => by
    obtain ⟨v, r, rfl, h1, t⟩ := Rps.cons_iff.mp h
    cases d with
    | bl i =>
      unfold bools? at e
      cases q : bools? ds with
      | none => rw [q] at e; cases e
      | some ms =>
        rw [q] at e
        cases e
        unfold Rp at h1
        rw [h1, Rps.bools t q, List.map_cons]
    | _ => cases e
end

/-! ### what a name holds -/
abbrev AS := Addr → Prop
section
variable (K : PySem.W.Frag) (G : Nat → Option Addr)
mutual
/-- v is such a thing; S: the addresses of its own -/
def WR (F H : Hp) : W → V → AS → Prop
  | .val d, v, S => (∀ a, ¬ S a) ∧ Rp K G F d v
  | .lst ds, v, S => ∃ a vs, v = .ref a ∧ H a = some (.lst vs) ∧ Rps K G F ds vs ∧ ∀ b, S b ↔ b = a
  | .dic ks ds, v, S => ∃ a kvs, v = .ref a ∧ H a = some (.dK kvs) ∧ D.keys ks = some (kvs.map (·.1)) ∧ Rps K G F ds (kvs.map (·.2)) ∧ ∀ b, S b ↔ b = a
  | .rc ns ws, v, S => ∃ a kvs T, v = .ref a ∧ H a = some (.dK kvs) ∧ ((ns.Nodup ∧ ns.length ≤ 15) ∧ kvs.map (·.1) = ns.map Sum.inr) ∧ WRs F H ws (kvs.map (·.2)) T ∧ ¬ T a ∧ ∀ b, S b ↔ (b = a ∨ T b)
def WRs (F H : Hp) : List W → List V → AS → Prop
  | [], vs, S => vs = [] ∧ ∀ a, ¬ S a
  | w :: ws, vs, S => ∃ v r S1 S2, vs = v :: r ∧ WR F H w v S1 ∧ WRs F H ws r S2 ∧ (∀ a, S1 a → S2 a → False) ∧ ∀ a, S a ↔ (S1 a ∨ S2 a)
end
end
section
variable {K : PySem.W.Frag} {G : Nat → Option Addr} {F F' H H' : Hp}
mutual
theorem WR.frame (x : Ex F F') : ∀ (w : W) (v : V) (S : AS), (∀ a, S a → H' a = H a) → WR K G F H w v S → WR K G F' H' w v S
  | .val d, v, S, _, h => by
    unfold WR at h ⊢
    exact ⟨h.1, h.2.mono x⟩
  | .lst ds, v, S, k, h => by
    unfold WR at h ⊢
    obtain ⟨a, vs, e, q, r, z⟩ := h
    exact ⟨a, vs, e, (k a ((z a).mpr rfl)).trans q, Rps.mono x _ _ r, z⟩
  | .dic ks ds, v, S, k, h => by
    unfold WR at h ⊢
    obtain ⟨a, kvs, e, q, kk, r, z⟩ := h
    exact ⟨a, kvs, e, (k a ((z a).mpr rfl)).trans q, kk, Rps.mono x _ _ r, z⟩
  | .rc ns ws, v, S, k, h => by
    unfold WR at h ⊢
    obtain ⟨a, kvs, T, e, q, kk, r, nt, z⟩ := h
    exact ⟨a, kvs, T, e, (k a ((z a).mpr (.inl rfl))).trans q, kk, WRs.frame x ws _ T (fun b hb => k b ((z b).mpr (.inr hb))) r, nt, z⟩
theorem WRs.frame (x : Ex F F') : ∀ (ws : List W) (vs : List V) (S : AS), (∀ a, S a → H' a = H a) → WRs K G F H ws vs S → WRs K G F' H' ws vs S
  | [], vs, S, _, h => by
    unfold WRs at h ⊢
    exact h
  | w :: ws, vs, S, k, h => by
    unfold WRs at h ⊢
    obtain ⟨v, r, S1, S2, e, h1, h2, d, z⟩ := h
    exact ⟨v, r, S1, S2, e, WR.frame x w v S1 (fun a ha => k a ((z a).mpr (.inl ha))) h1, WRs.frame x ws r S2 (fun a ha => k a ((z a).mpr (.inr ha))) h2, d, z⟩
end
mutual
/-- what is its own is there -/
theorem WR.there : ∀ (w : W) (v : V) (S : AS), WR K G F H w v S → ∀ a, S a → H a ≠ none
  | .val d, v, S, h, a, ha => by
    unfold WR at h
    exact absurd ha (h.1 a)
  | .lst ds, v, S, h, a, ha => by
    unfold WR at h
    obtain ⟨b, vs, e, q, r, z⟩ := h
    rw [(z a).mp ha, q]
    exact fun z => nomatch z
  | .dic ks ds, v, S, h, a, ha => by
    unfold WR at h
    obtain ⟨b, kvs, e, q, kk, r, z⟩ := h
    rw [(z a).mp ha, q]
    exact fun z => nomatch z
  | .rc ns ws, v, S, h, a, ha => by
    unfold WR at h
    obtain ⟨b, kvs, T, e, q, kk, r, nt, z⟩ := h
    rcases (z a).mp ha with rfl | ht
    · rw [q]
      exact fun z => nomatch z
    · exact WRs.there ws _ T r a ht
theorem WRs.there : ∀ (ws : List W) (vs : List V) (S : AS), WRs K G F H ws vs S → ∀ a, S a → H a ≠ none
  | [], vs, S, h, a, ha => by
    unfold WRs at h
    exact absurd ha (h.2 a)
  | w :: ws, vs, S, h, a, ha => by
    unfold WRs at h
    obtain ⟨v, r, S1, S2, e, h1, h2, d, z⟩ := h
    rcases (z a).mp ha with q | q
    · exact WR.there w v S1 h1 a q
    · exact WRs.there ws r S2 h2 a q
end
theorem WR.val_iff {d : D} {v : V} {S : AS} : WR K G F H (.val d) v S ↔ (∀ a, ¬ S a) ∧ Rp K G F d v := by unfold WR; exact Iff.rfl
theorem WR.lst_iff {ds : List D} {v : V} {S : AS} : WR K G F H (.lst ds) v S ↔ ∃ a vs, v = .ref a ∧ H a = some (.lst vs) ∧ Rps K G F ds vs ∧ ∀ b, S b ↔ b = a := by unfold WR; exact Iff.rfl
theorem WR.dic_iff {ks ds : List D} {v : V} {S : AS} : WR K G F H (.dic ks ds) v S ↔ ∃ a kvs, v = .ref a ∧ H a = some (.dK kvs) ∧ D.keys ks = some (kvs.map (·.1)) ∧ Rps K G F ds (kvs.map (·.2)) ∧ ∀ b, S b ↔ b = a := by unfold WR; exact Iff.rfl
theorem WR.rc_iff {ns : List Str} {ws : List W} {v : V} {S : AS} : WR K G F H (.rc ns ws) v S ↔ ∃ a kvs T, v = .ref a ∧ H a = some (.dK kvs) ∧ ((ns.Nodup ∧ ns.length ≤ 15) ∧ kvs.map (·.1) = ns.map Sum.inr) ∧ WRs K G F H ws (kvs.map (·.2)) T ∧ ¬ T a ∧ ∀ b, S b ↔ (b = a ∨ T b) := by
  conv => lhs; unfold WR
theorem WRs.nil_iff {vs : List V} {S : AS} : WRs K G F H [] vs S ↔ vs = [] ∧ ∀ a, ¬ S a := by unfold WRs; exact Iff.rfl
theorem WRs.cons_iff {w : W} {ws : List W} {vs : List V} {S : AS} : WRs K G F H (w :: ws) vs S ↔ ∃ v r S1 S2, vs = v :: r ∧ WR K G F H w v S1 ∧ WRs K G F H ws r S2 ∧ (∀ a, S1 a → S2 a → False) ∧ ∀ a, S a ↔ (S1 a ∨ S2 a) := by
  conv => lhs; unfold WRs
theorem WR.int {i : Int} : WR K G F H (.val (.int i)) (.int i) (fun _ => False) := WR.val_iff.mpr ⟨fun _ h => h, by unfold Rp; rfl⟩
theorem WR.bl {i : Bool} : WR K G F H (.val (.bl i)) (.bl i) (fun _ => False) := WR.val_iff.mpr ⟨fun _ h => h, by unfold Rp; rfl⟩
theorem WR.of {d : D} {v : V} (h : Rp K G F d v) : WR K G F H (.val d) v (fun _ => False) := WR.val_iff.mpr ⟨fun _ h => h, h⟩
/-- an own thing seen for a moment: its items are kept, it stands in H -/
theorem WR.peek {w : W} {d : D} {v : V} {S : AS} (x : Ex F H) (h : WR K G F H w v S) (e : w.frz = some d) : Rp K G H d v := by
  cases w with
  | val d' =>
    cases e
    exact (WR.val_iff.mp h).2.mono x
  | lst ds =>
    cases e
    obtain ⟨a, vs, e, q, r, _⟩ := WR.lst_iff.mp h
    unfold Rp
    exact ⟨a, vs, e, q, Rps.mono x _ _ r⟩
  | dic ks ds =>
    cases e
    obtain ⟨a, kvs, e, q, k, r, _⟩ := WR.dic_iff.mp h
    unfold Rp
    exact ⟨a, kvs, e, q, k, Rps.mono x _ _ r⟩
  | rc ns ws => cases e
end

/-! ### the state -/
/-- F grows by what was not told in B -/
structure Gr (B F F' : Hp) : Prop where
  ex : Ex F F'
  new : ∀ a, F' a ≠ none → F a ≠ none ∨ B a = none
theorem Gr.refl (B F : Hp) : Gr B F F := ⟨Ex.refl _, fun _ h => .inl h⟩
theorem Gr.trans {B F F1 F2 : Hp} (a : Gr B F F1) (b : Gr B F1 F2) : Gr B F F2 := ⟨a.ex.trans b.ex, fun x h => (b.new x h).elim (a.new x) .inr⟩
theorem Gr.none {B F F' : Hp} (g : Gr B F F') {a : Addr} (h1 : F a = Option.none) (h2 : B a ≠ Option.none) : F' a = Option.none := by
  cases q : F' a with
  | none => rfl
  | some o => exact ((g.new a (by rw [q]; exact fun z => nomatch z)).elim (fun z => z h1) (fun z => h2 z)).elim

/-- a set of own addresses, kept apart -/
def Own (B F H : Hp) (S : AS) : Prop := ∀ a, S a → F a = none ∧ B a = none ∧ H a ≠ none
structure StF (K : PySem.W.Frag) (G : Nat → Option Addr) (pv : List (Nat × V)) (fp : Nat → AS) (B F H : Hp) (e : Env) (σ : List (Option V)) : Prop where
  len : σ.length = e.length
  slot : ∀ i w, e.get i = some w → ∃ v, σ[i]? = some (some v) ∧ WR K G F H w v (fp i)
  nil : ∀ i, e.get i = none → ∀ a, ¬ fp i a
  sep : ∀ i j a, i ≠ j → fp i a → fp j a → False
  own : ∀ i, Own B F H (fp i)
  exB : Ex B H
  exF : Ex F H
  pin : ∀ p ∈ pv, σ[p.1]? = some (some p.2)
def St (K : PySem.W.Frag) (G : Nat → Option Addr) (pv : List (Nat × V)) (B F H : Hp) (e : Env) (σ : List (Option V)) : Prop := ∃ fp, StF K G pv fp B F H e σ
/-- .. and a value beside it, with things of its own -/
def StV (K : PySem.W.Frag) (G : Nat → Option Addr) (pv : List (Nat × V)) (B F H : Hp) (e : Env) (σ : List (Option V)) (w : W) (v : V) : Prop :=
  ∃ fp S, StF K G pv fp B F H e σ ∧ WR K G F H w v S ∧ Own B F H S ∧ ∀ i a, fp i a → S a → False
def StVs (K : PySem.W.Frag) (G : Nat → Option Addr) (pv : List (Nat × V)) (B F H : Hp) (e : Env) (σ : List (Option V)) (ws : List W) (vs : List V) : Prop :=
  ∃ fp S, StF K G pv fp B F H e σ ∧ WRs K G F H ws vs S ∧ Own B F H S ∧ ∀ i a, fp i a → S a → False

section
variable {K : PySem.W.Frag} {G : Nat → Option Addr} {pv : List (Nat × V)} {fp : Nat → AS} {B F F' H H' : Hp} {e : Env} {σ : List (Option V)}
theorem Env.get_lt {e : Env} {i : Nat} {w : W} (h : e.get i = some w) : i < e.length := by
  unfold Env.get at h
  cases q : e[i]? with
  | none => rw [q] at h; cases h
  | some o => exact (List.getElem?_eq_some_iff.mp q).1
theorem Env.get_eq {e : Env} {i : Nat} {w : W} (h : e.get i = some w) : e[i]? = some (some w) := by
  unfold Env.get at h
  cases q : e[i]? with
  | none => rw [q] at h; cases h
  | some o =>
    rw [q] at h
    have h' : o = some w := h
    rw [h']
theorem Env.get_of {e : Env} {i : Nat} {w : W} (h : e[i]? = some (some w)) : e.get i = some w := by
  unfold Env.get
  rw [h]
  rfl
theorem Env.get_set_self {e : Env} {i : Nat} {o : Option W} (h : i < e.length) : Env.get (e.set i o) i = o := by
  unfold Env.get
  rw [List.getElem?_set_self h]
  rfl
theorem Env.get_set_ne {e : Env} {i j : Nat} {o : Option W} (h : i ≠ j) : Env.get (e.set i o) j = e.get j := by
  unfold Env.get
  rw [List.getElem?_set_ne h]
theorem Env.set_self {e : Env} {i : Nat} {w : W} (h : e.get i = some w) : e.set i (some w) = e := by
  have q := Env.get_eq h
  apply List.ext_getElem?
  intro j
  by_cases hj : i = j
  · subst hj
    rw [List.getElem?_set_self (Env.get_lt h), q]
  · rw [List.getElem?_set_ne hj]

/-- the heap moves on: what is kept and what is one's own stands -/
theorem StF.step (s : StF K G pv fp B F H e σ) (g : Gr B F F') (xB : Ex B H') (xF : Ex F' H') (kp : ∀ i a, fp i a → H' a = H a) (nf : ∀ i a, fp i a → F' a = none) : StF K G pv fp B F' H' e σ where
  len := s.len
  slot := fun i w h => by
    obtain ⟨v, e1, r⟩ := s.slot i w h
    exact ⟨v, e1, WR.frame g.ex w v (fp i) (kp i) r⟩
  nil := s.nil
  sep := s.sep
  own := fun i a ha => ⟨nf i a ha, (s.own i a ha).2.1, by rw [kp i a ha]; exact (s.own i a ha).2.2⟩
  exB := xB
  exF := xF
  pin := s.pin
/-- all that stood stands; new data lean on what is new -/
theorem StF.grow (s : StF K G pv fp B F H e σ) (x : Ex F F') (nw : ∀ a, F' a ≠ none → F a ≠ none ∨ H a = none) (xF : Ex F' H') (xH : Ex H H') : StF K G pv fp B F' H' e σ ∧ Gr B F F' := by
  have g : Gr B F F' := ⟨x, fun a h => (nw a h).imp id fun z => s.exB.back z⟩
  refine ⟨s.step g (s.exB.trans xH) xF (fun i a ha => ?_) (fun i a ha => ?_), g⟩
  · have q := (s.own i a ha).2.2
    cases h : H a with
    | none => exact absurd h q
    | some o => exact xH a o h
  · have q := s.own i a ha
    cases h : F' a with
    | none => rfl
    | some o => exact ((nw a (by rw [h]; exact fun z => nomatch z)).elim (fun z => z q.1) (fun z => q.2.2 z)).elim
/-- more is told to stand: some own things of others -/
theorem StF.base {B' : Hp} (s : StF K G pv fp B F H e σ) (x : Ex B' H) (h : ∀ i a, fp i a → B' a = none) : StF K G pv fp B' F H e σ :=
  ⟨s.len, s.slot, s.nil, s.sep, fun i a ha => ⟨(s.own i a ha).1, h i a ha, (s.own i a ha).2.2⟩, x, s.exF, s.pin⟩
theorem StF.vlt (s : StF K G pv fp B F H e σ) {i : Nat} {w : W} (h : e.get i = some w) : i < σ.length := by
  rw [s.len]; exact Env.get_lt h

open Classical in
noncomputable def fpSet (fp : Nat → AS) (i : Nat) (S : AS) : Nat → AS := fun j => if j = i then S else fp j
theorem fpSet_self {fp : Nat → AS} {i : Nat} {S : AS} : fpSet fp i S i = S := by unfold fpSet; rw [if_pos rfl]
theorem fpSet_ne {fp : Nat → AS} {i j : Nat} {S : AS} (h : j ≠ i) : fpSet fp i S j = fp j := by unfold fpSet; rw [if_neg h]
/-- a name takes a value -/
theorem StF.set {S : AS} {w : W} {v : V} {i : Nat} (s : StF K G pv fp B F H e σ) (hi : i < e.length) (r : WR K G F H w v S) (o : Own B F H S) (d : ∀ j a, j ≠ i → fp j a → S a → False) (hp : ∀ p ∈ pv, p.1 ≠ i) :
    StF K G pv (fpSet fp i S) B F H (e.set i (some w)) (σ.set i (some v)) where
  len := by rw [List.length_set, List.length_set, s.len]
  slot := fun j u h => by
    by_cases hj : j = i
    · subst hj
      rw [Env.get_set_self hi] at h
      cases h
      exact ⟨v, List.getElem?_set_self (by rw [s.len]; exact hi), by rw [fpSet_self]; exact r⟩
    · rw [Env.get_set_ne (Ne.symm hj)] at h
      obtain ⟨x, e1, r1⟩ := s.slot j u h
      exact ⟨x, by rw [List.getElem?_set_ne (Ne.symm hj)]; exact e1, by rw [fpSet_ne hj]; exact r1⟩
  nil := fun j h a ha => by
    by_cases hj : j = i
    · subst hj
      rw [Env.get_set_self hi] at h
      cases h
    · rw [Env.get_set_ne (Ne.symm hj)] at h
      rw [fpSet_ne hj] at ha
      exact s.nil j h a ha
  sep := fun j k a hjk hj hk => by
    by_cases h1 : j = i
    · subst h1
      rw [fpSet_self] at hj
      rw [fpSet_ne (Ne.symm hjk)] at hk
      exact d k a (Ne.symm hjk) hk hj
    · rw [fpSet_ne h1] at hj
      by_cases h2 : k = i
      · subst h2
        rw [fpSet_self] at hk
        exact d j a h1 hj hk
      · rw [fpSet_ne h2] at hk
        exact s.sep j k a hjk hj hk
  own := fun j => by
    by_cases hj : j = i
    · subst hj
      rw [fpSet_self]
      exact o
    · rw [fpSet_ne hj]
      exact s.own j
  exB := s.exB
  exF := s.exF
  pin := fun p hp' => by
    rw [List.getElem?_set_ne (Ne.symm (hp p hp'))]
    exact s.pin p hp'
/-- a name's thing changes where it stands (its address stays) -/
theorem StF.put {S : AS} {w : W} {v : V} {i : Nat} (s : StF K G pv fp B F H e σ) (hv : σ[i]? = some (some v)) (r : WR K G F H w v S) (o : Own B F H S) (d : ∀ j a, j ≠ i → fp j a → S a → False) :
    StF K G pv (fpSet fp i S) B F H (e.set i (some w)) σ := by
  have hi : i < e.length := by rw [← s.len]; exact (List.getElem?_eq_some_iff.mp hv).1
  have q : ∀ p ∈ ([] : List (Nat × V)), p.1 ≠ i := fun _ h => nomatch h
  have s0 : StF K G [] fp B F H e σ := ⟨s.len, s.slot, s.nil, s.sep, s.own, s.exB, s.exF, fun _ h => nomatch h⟩
  have t := s0.set hi r o d q
  have e1 : σ.set i (some v) = σ := by
    apply List.ext_getElem?
    intro j
    by_cases hj : i = j
    · subst hj
      rw [List.getElem?_set_self (by rw [s.len]; exact hi), hv]
    · rw [List.getElem?_set_ne hj]
  rw [e1] at t
  exact ⟨t.len, t.slot, t.nil, t.sep, t.own, t.exB, t.exF, s.pin⟩
/-- a name is forgotten -/
theorem StF.drop {i : Nat} (s : StF K G pv fp B F H e σ) : StF K G pv (fpSet fp i (fun _ => False)) B F H (e.set i none) σ where
  len := by rw [List.length_set, s.len]
  slot := fun j u h => by
    by_cases hj : j = i
    · subst hj
      by_cases hl : j < e.length
      · rw [Env.get_set_self hl] at h
        cases h
      · have := Env.get_lt h
        rw [List.length_set] at this
        exact absurd this hl
    · rw [Env.get_set_ne (Ne.symm hj)] at h
      obtain ⟨x, e1, r1⟩ := s.slot j u h
      exact ⟨x, e1, by rw [fpSet_ne hj]; exact r1⟩
  nil := fun j h a ha => by
    by_cases hj : j = i
    · subst hj
      rw [fpSet_self] at ha
      exact ha
    · rw [Env.get_set_ne (Ne.symm hj)] at h
      rw [fpSet_ne hj] at ha
      exact s.nil j h a ha
  sep := fun j k a hjk hj hk => by
    by_cases h1 : j = i
    · subst h1
      rw [fpSet_self] at hj
      exact hj
    · rw [fpSet_ne h1] at hj
      by_cases h2 : k = i
      · subst h2
        rw [fpSet_self] at hk
        exact hk
      · rw [fpSet_ne h2] at hk
        exact s.sep j k a hjk hj hk
  own := fun j a ha => by
    by_cases hj : j = i
    · subst hj
      rw [fpSet_self] at ha
      exact ha.elim
    · rw [fpSet_ne hj] at ha
      exact s.own j a ha
  exB := s.exB
  exF := s.exF
  pin := s.pin
/-- slots may be forgotten -/
theorem StF.sub {σ' : List (Option V)} (s : StF K G pv fp B F H e σ) (hl : σ'.length = σ.length) (h : ∀ i v, e.get i ≠ none → σ[i]? = some (some v) → σ'[i]? = some (some v)) (hp : ∀ p ∈ pv, σ'[p.1]? = some (some p.2)) : StF K G pv fp B F H e σ' where
  len := hl.trans s.len
  slot := fun i w h1 => by
    obtain ⟨v, e1, r⟩ := s.slot i w h1
    exact ⟨v, h i v (by rw [h1]; exact fun z => nomatch z) e1, r⟩
  nil := s.nil
  sep := s.sep
  own := s.own
  exB := s.exB
  exF := s.exF
  pin := hp
end
end Mn
set_option Elab.async false
set_option linter.all false
set_option maxRecDepth 100000
/-! Mn, part 3: what an operation leaves; own things become data. -/
namespace Mn
open PySem L2

section
variable {K : PySem.W.Frag} {G : Nat → Option Addr} {pv : List (Nat × V)} {fp : Nat → AS} {B F F' H H' : Hp} {e : Env} {σ : List (Option V)}

theorem WR.frz_data {w : W} {d : D} {v : V} {S : AS} (x : Ex F H) (h : WR K G F H w v S) (o : ∀ a, S a → F a = none) (hd : w.frz = some d) :
    ∃ F', Ex F F' ∧ (∀ a, F' a ≠ none → F a ≠ none ∨ S a) ∧ Ex F' H ∧ Rp K G F' d v := by
  cases w with
  | val d' =>
    cases hd
    exact ⟨F, Ex.refl _, fun a h => .inl h, x, (WR.val_iff.mp h).2⟩
  | lst ds =>
    cases hd
    obtain ⟨a, vs, rfl, q, r, z⟩ := WR.lst_iff.mp h
    have n : F a = none := o a ((z a).mpr rfl)
    have ex : Ex F (upd F a (.lst vs)) := Ex.new n
    refine ⟨upd F a (.lst vs), ex, fun b hb => ?_, fun b u hb => ?_, ?_⟩
    · by_cases e : b = a
      · exact .inr ((z b).mpr e)
      · rw [upd_ne e] at hb
        exact .inl hb
    · by_cases e : b = a
      · subst e
        rw [upd_same] at hb
        cases hb
        exact q
      · rw [upd_ne e] at hb
        exact x b u hb
    · unfold Rp
      exact ⟨a, vs, rfl, upd_same, Rps.mono ex _ _ r⟩
  | dic ks ds =>
    cases hd
    obtain ⟨a, kvs, rfl, q, k, r, z⟩ := WR.dic_iff.mp h
    have n : F a = none := o a ((z a).mpr rfl)
    have ex : Ex F (upd F a (.dK kvs)) := Ex.new n
    refine ⟨upd F a (.dK kvs), ex, fun b hb => ?_, fun b u hb => ?_, ?_⟩
    · by_cases e : b = a
      · exact .inr ((z b).mpr e)
      · rw [upd_ne e] at hb
        exact .inl hb
    · by_cases e : b = a
      · subst e
        rw [upd_same] at hb
        cases hb
        exact q
      · rw [upd_ne e] at hb
        exact x b u hb
    · unfold Rp
      exact ⟨a, kvs, rfl, upd_same, k, Rps.mono ex _ _ r⟩
  | rc ns ws => cases hd
/-- a value beside the state becomes data -/
theorem StV.frz {w : W} {d : D} {v : V} (s : StV K G pv B F H e σ w v) (hd : w.frz = some d) : ∃ F', Gr B F F' ∧ St K G pv B F' H e σ ∧ Rp K G F' d v := by
  obtain ⟨fp, S, s, r, o, dj⟩ := s
  obtain ⟨F', x, nw, xF, rp⟩ := WR.frz_data s.exF r (fun a ha => (o a ha).1) hd
  refine ⟨F', ⟨x, fun a ha => (nw a ha).imp id fun z => (o a z).2.1⟩, ⟨fp, s.step ⟨x, fun a ha => (nw a ha).imp id fun z => (o a z).2.1⟩ s.exB xF (fun _ _ _ => rfl) fun i a ha => ?_⟩, rp⟩
  cases h : F' a with
  | none => rfl
  | some u => exact ((nw a (by rw [h]; exact fun z => nomatch z)).elim (fun z => z (s.own i a ha).1) (fun z => dj i a ha z)).elim
theorem StV.st {w : W} {v : V} (s : StV K G pv B F H e σ w v) : St K G pv B F H e σ := let ⟨fp, _, s, _⟩ := s; ⟨fp, s⟩
theorem StV.of {d : D} {v : V} (s : St K G pv B F H e σ) (r : Rp K G F d v) : StV K G pv B F H e σ (.val d) v := by
  obtain ⟨fp, s⟩ := s
  exact ⟨fp, fun _ => False, s, WR.of r, fun a h => h.elim, fun _ _ _ h => h⟩
theorem StV.rp {d : D} {v : V} (s : StV K G pv B F H e σ (.val d) v) : Rp K G F d v := by
  obtain ⟨fp, S, s, r, _⟩ := s
  exact (WR.val_iff.mp r).2
/-- a name is read as data -/
theorem St.var {i : Nat} {w : W} {d : D} (s : St K G pv B F H e σ) (h : e.get i = some w) (hd : w.frz = some d) :
    ∃ v F', σ[i]? = some (some v) ∧ Gr B F F' ∧ St K G pv B F' H (e.set i (some (.val d))) σ ∧ Rp K G F' d v := by
  obtain ⟨fp, s⟩ := s
  obtain ⟨v, hv, r⟩ := s.slot i w h
  obtain ⟨F', x, nw, xF, rp⟩ := WR.frz_data s.exF r (fun a ha => (s.own i a ha).1) hd
  have g : Gr B F F' := ⟨x, fun a ha => (nw a ha).imp id fun z => (s.own i a z).2.1⟩
  have s1 := s.drop (i := i)
  have s2 : StF K G pv (fpSet fp i fun _ => False) B F' H (e.set i none) σ := s1.step g s.exB xF (fun _ _ _ => rfl) fun j a ha => by
    by_cases hj : j = i
    · subst hj
      rw [fpSet_self] at ha
      exact ha.elim
    · rw [fpSet_ne hj] at ha
      cases h' : F' a with
      | none => rfl
      | some u => exact ((nw a (by rw [h']; exact fun z => nomatch z)).elim (fun z => z (s.own j a ha).1) (fun z => s.sep j i a hj ha z)).elim
  have s3 := s2.put (w := .val d) (S := fun _ => False) hv (WR.of rp) (fun a z => z.elim) fun _ _ _ _ z => z
  rw [List.set_set] at s3
  exact ⟨v, F', hv, g, ⟨_, s3⟩, rp⟩
/-- a name is moved away -/
theorem St.mv {i : Nat} {w : W} (s : St K G pv B F H e σ) (h : e.get i = some w) : ∃ v, σ[i]? = some (some v) ∧ StV K G pv B F H (e.set i none) σ w v := by
  obtain ⟨fp, s⟩ := s
  obtain ⟨v, hv, r⟩ := s.slot i w h
  refine ⟨v, hv, fpSet fp i (fun _ => False), fp i, s.drop, r, s.own i, fun j a h1 h2 => ?_⟩
  by_cases hj : j = i
  · subst hj
    rw [fpSet_self] at h1
    exact h1
  · rw [fpSet_ne hj] at h1
    exact s.sep j i a hj h1 h2

/-! ### what an operation leaves -/
/-- all that stood stands; w is the value, what is its own is new -/
def PostW (K : PySem.W.Frag) (G : Nat → Option Addr) (F H : Hp) (w : W) (v : V) (H' : Hp) : Prop :=
  ∃ F' S, Ex F F' ∧ (∀ a, F' a ≠ none → F a ≠ none ∨ H a = none) ∧ Ex F' H' ∧ Ex H H' ∧ WR K G F' H' w v S ∧ ∀ a, S a → F' a = none ∧ H a = none
theorem St.post {w : W} {v : V} (s : St K G pv B F H e σ) (p : PostW K G F H w v H') : ∃ F', Gr B F F' ∧ StV K G pv B F' H' e σ w v := by
  obtain ⟨fp, s⟩ := s
  obtain ⟨F', S, x, nw, xF, xH, r, o⟩ := p
  obtain ⟨s', g⟩ := s.grow x nw xF xH
  exact ⟨F', g, fp, S, s', r, fun a ha => ⟨(o a ha).1, s.exB.back (o a ha).2, WR.there w v S r a ha⟩, fun i a h1 h2 => (s.own i a h1).2.2 (o a h2).2⟩
/-- nothing new -/
theorem PostW.same {d : D} {v : V} (x : Ex F H) (r : Rp K G F d v) : PostW K G F H (.val d) v H :=
  ⟨F, fun _ => False, Ex.refl _, fun _ h => .inl h, x, Ex.refl _, WR.of r, fun _ h => h.elim⟩
theorem PostW.int (x : Ex F H) {i : Int} : PostW K G F H (.val (.int i)) (.int i) H := PostW.same x (by unfold Rp; rfl)
theorem PostW.bl (x : Ex F H) {i : Bool} : PostW K G F H (.val (.bl i)) (.bl i) H := PostW.same x (by unfold Rp; rfl)
/-- a new list -/
theorem PostW.lst (x : Ex F H) {p : Addr} {ds : List D} {vs : List V} (hp : H p = none) (r : Rps K G F ds vs) : PostW K G F H (.lst ds) (.ref p) (upd H p (.lst vs)) :=
  ⟨F, fun a => a = p, Ex.refl _, fun _ h => .inl h, x.upd (x.back hp), Ex.new hp, WR.lst_iff.mpr ⟨p, vs, rfl, upd_same, r, fun _ => Iff.rfl⟩, fun a h => by
    have h : a = p := h
    subst h
    exact ⟨x.back hp, hp⟩⟩
/-- a new tuple -/
theorem PostW.tup (x : Ex F H) {p : Addr} {ds : List D} {vs : List V} (hp : H p = none) (r : Rps K G F ds vs) : PostW K G F H (.val (.tup ds)) (.ref p) (upd H p (.tup vs)) := by
  have n : F p = none := x.back hp
  have ex : Ex F (upd F p (.tup vs)) := Ex.new n
  refine ⟨upd F p (.tup vs), fun _ => False, ex, fun a h => ?_, fun a u h => ?_, Ex.new hp, WR.of ?_, fun _ h => h.elim⟩
  · by_cases e : a = p
    · subst e
      exact .inr hp
    · rw [upd_ne e] at h
      exact .inl h
  · by_cases e : a = p
    · subst e
      rw [upd_same] at h ⊢
      exact h
    · rw [upd_ne e] at h ⊢
      exact x a u h
  · unfold Rp
    exact ⟨p, vs, rfl, SqT.of upd_same, Rps.mono ex _ _ r⟩

/-! ### operands -/
/-- kept data, or an own thing seen for a moment -/
def Pk (K : PySem.W.Frag) (G : Nat → Option Addr) (F H : Hp) (d : D) (v : V) : Prop := Rp K G F d v ∨ ∃ w S, WR K G F H w v S ∧ w.frz = some d
def Pks (K : PySem.W.Frag) (G : Nat → Option Addr) (F H : Hp) : List D → List V → Prop
  | [], [] => True
  | d :: ds, v :: vs => Pk K G F H d v ∧ Pks K G F H ds vs
  | _, _ => False
theorem Pk.rp {d : D} {v : V} (x : Ex F H) (h : Pk K G F H d v) : Rp K G H d v := by
  rcases h with h | ⟨w, S, h, e⟩
  · exact h.mono x
  · exact WR.peek x h e
theorem Pk.lst {ds : List D} {v : V} (x : Ex F H) (h : Pk K G F H (.lst ds) v) : ∃ a vs, v = .ref a ∧ H a = some (.lst vs) ∧ Rps K G F ds vs := by
  rcases h with h | ⟨w, S, h, e⟩
  · unfold Rp at h
    obtain ⟨a, vs, e, q, r⟩ := h
    exact ⟨a, vs, e, x _ _ q, r⟩
  · cases w with
    | val d =>
      cases e
      have h := (WR.val_iff.mp h).2
      unfold Rp at h
      obtain ⟨a, vs, e, q, r⟩ := h
      exact ⟨a, vs, e, x _ _ q, r⟩
    | lst _ =>
      cases e
      obtain ⟨a, vs, e, q, r, _⟩ := WR.lst_iff.mp h
      exact ⟨a, vs, e, q, r⟩
    | dic _ _ => cases e
    | rc _ _ => cases e
theorem Pk.dic {ks ds : List D} {v : V} (x : Ex F H) (h : Pk K G F H (.dic ks ds) v) : ∃ a kvs, v = .ref a ∧ H a = some (.dK kvs) ∧ D.keys ks = some (kvs.map (·.1)) ∧ Rps K G F ds (kvs.map (·.2)) := by
  rcases h with h | ⟨w, S, h, e⟩
  · unfold Rp at h
    obtain ⟨a, vs, e, q, k, r⟩ := h
    exact ⟨a, vs, e, x _ _ q, k, r⟩
  · cases w with
    | val d =>
      cases e
      have h := (WR.val_iff.mp h).2
      unfold Rp at h
      obtain ⟨a, vs, e, q, k, r⟩ := h
      exact ⟨a, vs, e, x _ _ q, k, r⟩
    | lst _ => cases e
    | dic _ _ =>
      cases e
      obtain ⟨a, vs, e, q, k, r, _⟩ := WR.dic_iff.mp h
      exact ⟨a, vs, e, q, k, r⟩
    | rc _ _ => cases e
/-- what is neither a list nor a dict is kept data -/
theorem Pk.flat {d : D} {v : V} (h : Pk K G F H d v) (h1 : ∀ ds, d ≠ .lst ds) (h2 : ∀ ks ds, d ≠ .dic ks ds) : Rp K G F d v := by
  rcases h with h | ⟨w, S, h, e⟩
  · exact h
  · cases w with
    | val d => cases e; exact (WR.val_iff.mp h).2
    | lst _ => cases e; exact absurd rfl (h1 _)
    | dic _ _ => cases e; exact absurd rfl (h2 _ _)
    | rc _ _ => cases e
theorem Pk.int {i : Int} {v : V} (h : Pk K G F H (.int i) v) : v = .int i := by
  have := h.flat (fun _ z => nomatch z) (fun _ _ z => nomatch z)
  unfold Rp at this
  exact this
theorem Pk.bl {i : Bool} {v : V} (h : Pk K G F H (.bl i) v) : v = .bl i := by
  have := h.flat (fun _ z => nomatch z) (fun _ _ z => nomatch z)
  unfold Rp at this
  exact this
theorem Pk.non {v : V} (h : Pk K G F H .non v) : v = .non := by
  have := h.flat (fun _ z => nomatch z) (fun _ _ z => nomatch z)
  unfold Rp at this
  exact this
theorem Pk.str {i : Str} {v : V} (h : Pk K G F H (.str i) v) : v = .str i := by
  have := h.flat (fun _ z => nomatch z) (fun _ _ z => nomatch z)
  unfold Rp at this
  exact this
theorem Pk.tup {ds : List D} {v : V} (h : Pk K G F H (.tup ds) v) : ∃ a vs, v = .ref a ∧ SqT K F a vs ∧ Rps K G F ds vs := by
  have := h.flat (fun _ z => nomatch z) (fun _ _ z => nomatch z)
  unfold Rp at this
  exact this
theorem Pk.scr {ds : List D} {v : V} (h : Pk K G F H (.scr ds) v) : ∃ a vs, v = .ref a ∧ SqL K F a vs ∧ Rps K G F ds vs := by
  have := h.flat (fun _ z => nomatch z) (fun _ _ z => nomatch z)
  unfold Rp at this
  exact this
end
end Mn
set_option Elab.async false
set_option linter.all false
set_option maxRecDepth 100000
/-! Mn, part 4: readings of the evaluator; operands and arguments. -/
namespace Mn
open PySem L2

/-- what is told of an exception: its class by number, what it bears -/
abbrev XRT := Nat → List D → Value → Option Addr → Hp → Hp → Prop
/-- the context of a def's promise -/
structure Mc where
  K : PySem.W.Frag
  G : Nat → Option Addr
  XR : XRT
  pv : List (Nat × V)
  EX : XK

section
variable (M : Mc)
/-- the outcome of an expression -/
def Out (B F : Hp) (σ : List (Option V)) (Q : VK) : R W → Prop
  | .ok w e => ∀ v F' H', Gr B F F' → StV M.K M.G M.pv B F' H' e σ w v → Q v H'
  | .exn c p e => ∀ cls d F' H', Gr B F F' → St M.K M.G M.pv B F' H' e σ → M.XR c p cls d F' H' → M.EX cls d H'
  | .bad => False
def tE (f : Env → R W) : TE := fun σ H Q => ∃ B F e, St M.K M.G M.pv B F H e σ ∧ Out M B F σ Q (f e)
/-- .. of a list of results -/
def OutL {α : Type} (B F : Hp) (σ : List (Option V)) (Rl : Hp → Hp → Env → α → List V → Prop) (Q : List V → Hp → Prop) : R α → Prop
  | .ok a e => ∀ vs F' H', Gr B F F' → St M.K M.G M.pv B F' H' e σ → Rl F' H' e a vs → Q vs H'
  | .exn c p e => ∀ cls d F' H', Gr B F F' → St M.K M.G M.pv B F' H' e σ → M.XR c p cls d F' H' → M.EX cls d H'
  | .bad => False
end

section
variable {M : Mc}
theorem Out.mono {B F F1 : Hp} {σ : List (Option V)} {Q Q' : VK} {r : R W} (h : Out M B F σ Q r) (g : Gr B F F1) (k : ∀ v H, Q v H → Q' v H) : Out M B F1 σ Q' r := by
  cases r with
  | ok w e => exact fun v F' H' g' s => k _ _ (h v F' H' (g.trans g') s)
  | exn c p e => exact fun cls d F' H' g' s x => h cls d F' H' (g.trans g') s x
  | bad => exact h
/-- an expression, then the rest -/
theorem Out.bind {B F : Hp} {σ : List (Option V)} {Q : VK} {r : R W} {k : W → Env → R W} (h : Out M B F σ Q (r.bind k)) :
    Out M B F σ (fun v H' => ∃ w e' F', Gr B F F' ∧ StV M.K M.G M.pv B F' H' e' σ w v ∧ Out M B F' σ Q (k w e')) r := by
  cases r with
  | ok w e => exact fun v F' H' g s => ⟨w, e, F', g, s, Out.mono h g fun _ _ q => q⟩
  | exn c p e => exact h
  | bad => exact h
theorem Out.bindL {α : Type} {B F : Hp} {σ : List (Option V)} {Q : VK} {r : R α} {k : α → Env → R W} {Rl : Hp → Hp → Env → α → List V → Prop} (h : Out M B F σ Q (r.bind k)) :
    OutL M B F σ Rl (fun vs H' => ∃ a e' F', Gr B F F' ∧ St M.K M.G M.pv B F' H' e' σ ∧ Rl F' H' e' a vs ∧ Out M B F' σ Q (k a e')) r := by
  cases r with
  | ok w e => exact fun v F' H' g s rl => ⟨w, e, F', g, s, rl, Out.mono h g fun _ _ q => q⟩
  | exn c p e => exact h
  | bad => exact h
theorem OutL.mono {α : Type} {B F F1 : Hp} {σ : List (Option V)} {Rl : Hp → Hp → Env → α → List V → Prop} {Q Q' : List V → Hp → Prop} {r : R α} (h : OutL M B F σ Rl Q r) (g : Gr B F F1) (k : ∀ v H, Q v H → Q' v H) : OutL M B F1 σ Rl Q' r := by
  cases r with
  | ok w e => exact fun v F' H' g' s rl => k _ _ (h v F' H' (g.trans g') s rl)
  | exn c p e => exact fun cls d F' H' g' s x => h cls d F' H' (g.trans g') s x
  | bad => exact h
theorem OutL.bind {β : Type} {B F : Hp} {σ : List (Option V)} {Rb : Hp → Hp → Env → β → List V → Prop} {Q : List V → Hp → Prop} {r : R W} {k : W → Env → R β} (h : OutL M B F σ Rb Q (r.bind k)) :
    Out M B F σ (fun v H' => ∃ w e' F', Gr B F F' ∧ StV M.K M.G M.pv B F' H' e' σ w v ∧ OutL M B F' σ Rb Q (k w e')) r := by
  cases r with
  | ok w e => exact fun v F' H' g s => ⟨w, e, F', g, s, OutL.mono h g fun _ _ q => q⟩
  | exn c p e => exact h
  | bad => exact h
theorem OutL.bindL {α β : Type} {B F : Hp} {σ : List (Option V)} {Ra : Hp → Hp → Env → α → List V → Prop} {Rb : Hp → Hp → Env → β → List V → Prop} {Q : List V → Hp → Prop} {r : R α} {k : α → Env → R β} (h : OutL M B F σ Rb Q (r.bind k)) :
    OutL M B F σ Ra (fun vs H' => ∃ a e' F', Gr B F F' ∧ St M.K M.G M.pv B F' H' e' σ ∧ Ra F' H' e' a vs ∧ OutL M B F' σ Rb Q (k a e')) r := by
  cases r with
  | ok w e => exact fun v F' H' g s ra => ⟨w, e, F', g, s, ra, OutL.mono h g fun _ _ q => q⟩
  | exn c p e => exact h
  | bad => exact h

/-! ### operands -/
def OpR1 (M : Mc) (F H : Hp) (σ : List (Option V)) : Opd → V → Prop
  | .d d, v => Pk M.K M.G F H d v
  | .s i, v => σ[i]? = some (some v)
def OpRs (M : Mc) (F H : Hp) (σ : List (Option V)) : List Opd → List V → Prop
  | [], [] => True
  | o :: os, v :: vs => OpR1 M F H σ o v ∧ OpRs M F H σ os vs
  | _, _ => False
theorem resolve_ok {B F H : Hp} {e : Env} {σ : List (Option V)} (s : St M.K M.G M.pv B F H e σ) : ∀ {os : List Opd} {vs : List V} {ds : List D}, OpRs M F H σ os vs → resolve e os = some ds → Pks M.K M.G F H ds vs
  | [], [], ds, _, e1 => by
    cases e1
    exact trivial
  | [], _ :: _, _, h, _ => h.elim
  | _ :: _, [], _, h, _ => by cases ‹Opd› <;> exact h.elim
  | .d d :: os, v :: vs, ds, h, e1 => by
    unfold resolve at e1
    cases q : resolve e os with
    | none => rw [q] at e1; cases e1
    | some r =>
      rw [q] at e1
      cases e1
      exact ⟨h.1, resolve_ok s h.2 q⟩
  | .s i :: os, v :: vs, ds, h, e1 => by
    unfold resolve at e1
    cases q : e.get i with
    | none => rw [q] at e1; cases e1
    | some w =>
      rw [q] at e1
      cases q2 : w.frz with
      | none => simp [q2] at e1
      | some d =>
        cases q3 : resolve e os with
        | none => simp [q2, q3] at e1
        | some r =>
          simp [q2, q3] at e1
          subst e1
          refine ⟨?_, resolve_ok s h.2 q3⟩
          obtain ⟨fp, s⟩ := s
          obtain ⟨v', hv, r1⟩ := s.slot i w q
          have : v' = v := by
            have h1 : σ[i]? = some (some v) := h.1
            rw [hv] at h1
            cases h1
            rfl
          subst this
          exact .inr ⟨w, _, r1, q2⟩

def tPth (i : Nat) (f : Str) : TE := fun σ H Q => ∃ a kvs v, σ[i]? = some (some (.ref a)) ∧ H a = some (.dK kvs) ∧ valV kvs (Sum.inr f) = some v ∧ Q v H
theorem fld_ok {F H : Hp} {K : PySem.W.Frag} {G : Nat → Option Addr} : ∀ {ns : List Str} {ws : List W} {kvs : List (Key × V)} {T : AS} {f : Str} {w : W}, kvs.map (·.1) = ns.map Sum.inr → WRs K G F H ws (kvs.map (·.2)) T → fld ns ws f = some w → ∃ v S, valV kvs (Sum.inr f) = some v ∧ WR K G F H w v S ∧ ∀ a, S a → T a
  | [], ws, kvs, T, f, w, _, _, h => by
    unfold fld at h
    cases h
  | n :: ns, [], kvs, T, f, w, _, _, h => by
    unfold fld at h
    cases h
  | n :: ns, x :: ws, [], T, f, w, e, _, h => by cases e
  | n :: ns, x :: ws, kv :: kvs, T, f, w, e, r, h => by
    obtain ⟨v, t, S1, S2, e1, r1, r2, dj, z⟩ := WRs.cons_iff.mp r
    cases e1
    injection e with e2 e3
    unfold fld at h
    by_cases q : n = f
    · rw [if_pos q] at h
      cases h
      exact ⟨kv.2, S1, valV_pos (e2.trans (by rw [q])), r1, fun a ha => (z a).mpr (.inl ha)⟩
    · rw [if_neg q] at h
      obtain ⟨v, S, a1, a2, a3⟩ := fld_ok e3 r2 h
      exact ⟨v, S, by rw [valV_neg (fun z => q (Sum.inr.inj (e2.symm.trans z)))]; exact a1, a2, fun a ha => (z a).mpr (.inr (a3 a ha))⟩
/-- a part of a dict of one's own, as it stands -/
theorem St.part {B F H : Hp} {e : Env} {σ : List (Option V)} {i : Nat} {f : Str} {w : W} (s : St M.K M.G M.pv B F H e σ) (h : e.at i (some f) = some w) :
    ∃ a kvs v S, σ[i]? = some (some (.ref a)) ∧ H a = some (.dK kvs) ∧ valV kvs (Sum.inr f) = some v ∧ WR M.K M.G F H w v S := by
  obtain ⟨fp, s⟩ := s
  unfold Env.at at h
  cases q : e.get i with
  | none => simp [q] at h
  | some u =>
    cases u with
    | rc ns ws =>
      simp [q] at h
      obtain ⟨v, hv, r⟩ := s.slot i _ q
      obtain ⟨a, kvs, T, rfl, ha, hk, r, _⟩ := WR.rc_iff.mp r
      obtain ⟨v, S, h1, h2, _⟩ := fld_ok hk.2 r h
      exact ⟨a, kvs, v, S, hv, ha, h1, h2⟩
    | _ => simp [q] at h


/-- a written constant -/
def D.cv : D → V
  | .int i => .int i
  | .bl b => .bl b
  | .str s => .str s
  | _ => .non
theorem D.sc_rp {K : PySem.W.Frag} {G : Nat → Option Addr} {F : Hp} : ∀ {d : D}, d.sc = true → Rp K G F d d.cv
  | .int i, _ => by unfold Rp; rfl
  | .bl i, _ => by unfold Rp; rfl
  | .str i, _ => by unfold Rp; rfl
  | .non, _ => by unfold Rp; rfl
  | .tup _, h => by cases h
  | .lst _, h => by cases h
  | .dic _ _, h => by cases h
  | .scr _, h => by cases h
  | .glob _, h => by cases h
def rdsC : E → TA
  | .nil => tNil
  | .cons (.cst d) r => tCons (tC d.cv) (rdsC r)
  | _ => fun _ _ _ => False
def rdsA (M : Mc) (C : Cn) : E → TA
  | .nil => tNil
  | .cons a r => match a with
    | .var i => tCons (tVar i) (rdsA M C r)
    | .pth i f => if r.csts then tCons (tPth i f) (rdsC r) else tCons (tE M (evE C (.pth i f))) (rdsA M C r)
    | a => tCons (tE M (evE C a)) (rdsA M C r)
  | _ => fun _ _ _ => False
def rdsL (M : Mc) (C : Cn) : E → TA
  | .nil => tNil
  | .cons a r => tCons (tE M (evE C a)) (rdsL M C r)
  | _ => fun _ _ _ => False

abbrev RA (M : Mc) (σ : List (Option V)) : Hp → Hp → Env → List Opd → List V → Prop := fun F H _ os vs => OpRs M F H σ os vs
abbrev RL (M : Mc) : Hp → Hp → Env → List D → List V → Prop := fun F _ _ ds vs => Rps M.K M.G F ds vs

theorem csts_ok {F H : Hp} {e : Env} {σ : List (Option V)} {C : Cn} : ∀ {r : E}, r.csts = true → ∃ os vs, evA C r e = .ok os e ∧ OpRs M F H σ os vs ∧ ∀ Q : List V → Hp → Prop, Q vs H → rdsC r σ H Q
  | .nil, _ => ⟨[], [], rfl, trivial, fun Q q => q⟩
  | .cons (.cst d) r, hc => by
    have hc' : (d.sc && r.csts) = true := hc
    rw [Bool.and_eq_true] at hc'
    obtain ⟨os, vs, e1, h1, h2⟩ := csts_ok (F := F) (H := H) (e := e) (σ := σ) (C := C) (r := r) hc'.2
    refine ⟨.d d :: os, d.cv :: vs, ?_, ?_, fun Q q => ?_⟩
    · show ((R.ok (W.val d) e).bind fun w e' => match w.frz with | some d => (evA C r e').bind fun os e2 => .ok (.d d :: os) e2 | none => .bad) = _
      show ((evA C r e).bind fun os e2 => .ok (.d d :: os) e2) = _
      rw [e1]
      rfl
    · exact ⟨.inl (D.sc_rp hc'.1), h1⟩
    · exact h2 _ q
  | .cons .nil _, hc => by cases hc
  | .cons (.cons _ _) _, hc => by cases hc
  | .cons (.var _) _, hc => by cases hc
  | .cons (.mv _) _, hc => by cases hc
  | .cons (.pth _ _) _, hc => by cases hc
  | .cons (.glb _) _, hc => by cases hc
  | .cons .never _, hc => by cases hc
  | .cons (.prim _ _) _, hc => by cases hc
  | .cons (.tupd _) _, hc => by cases hc
  | .cons (.lstd _) _, hc => by cases hc
  | .cons (.dicd _ _) _, hc => by cases hc
  | .cons (.rcd _ _) _, hc => by cases hc
  | .cons (.and2 _ _) _, hc => by cases hc
  | .cons (.or2 _ _) _, hc => by cases hc
  | .cons (.one _) _, hc => by cases hc
  | .cons (.frz _) _, hc => by cases hc
  | .cons (.nt _) _, hc => by cases hc
  | .cons (.ife _ _ _) _, hc => by cases hc
  | .cons (.chain _ _ _ _) _, hc => by cases hc
  | .cons (.lc _ _ _ _ _ _) _, hc => by cases hc
  | .cons (.call _ _) _, hc => by cases hc
  | .cons (.io _) _, hc => by cases hc
  | .cons (.mut _ _ _ _) _, hc => by cases hc

/-- the general case of one operand -/
theorem evA_gen {B F H : Hp} {e : Env} {σ : List (Option V)} {C : Cn} {a r : E} {Q : List V → Hp → Prop} (s : St M.K M.G M.pv B F H e σ)
    (ih : ∀ {F H : Hp} {e : Env} {Q : List V → Hp → Prop}, St M.K M.G M.pv B F H e σ → OutL M B F σ (RA M σ) Q (evA C r e) → rdsA M C r σ H Q)
    (h : OutL M B F σ (RA M σ) Q ((evE C a e).bind fun w e' => match w.frz with | some d => (evA C r e').bind fun os e2 => .ok (.d d :: os) e2 | none => .bad)) :
    tCons (tE M (evE C a)) (rdsA M C r) σ H Q := by
  refine ⟨B, F, e, s, Out.mono (OutL.bind h) (Gr.refl _ _) fun v H1 q => ?_⟩
  obtain ⟨w, e1, F1, g1, s1, q⟩ := q
  cases hw : w.frz with
  | none => rw [hw] at q; exact q.elim
  | some d =>
    rw [hw] at q
    obtain ⟨F2, g2, s2, rp⟩ := s1.frz hw
    refine ih s2 (OutL.mono (OutL.bindL (Ra := RA M σ) (OutL.mono q g2 fun _ _ z => z)) (Gr.refl _ _) fun vs H3 z => ?_)
    obtain ⟨os, e3, F3, g3, s3, ra, z⟩ := z
    exact z (v :: vs) F3 H3 (Gr.refl _ _) s3 ⟨.inl (rp.mono g3.ex), ra⟩

theorem evA_ok {C : Cn} {B : Hp} {σ : List (Option V)} : ∀ (a : E) {F H : Hp} {e : Env} {Q : List V → Hp → Prop}, St M.K M.G M.pv B F H e σ → OutL M B F σ (RA M σ) Q (evA C a e) → rdsA M C a σ H Q
  | .nil, F, H, e, Q, s, h => h [] F H (Gr.refl _ _) s trivial
  | .cons (.var i) r, F, H, e, Q, s, h => by
    have h : OutL M B F σ (RA M σ) Q (if (e.get i).isSome then (evA C r e).bind fun os e' => .ok (.s i :: os) e' else .bad) := h
    cases q : e.get i with
    | none => rw [q] at h; exact h.elim
    | some w =>
      rw [q] at h
      have h : OutL M B F σ (RA M σ) Q ((evA C r e).bind fun os e' => .ok (.s i :: os) e') := h
      have hv : ∃ v, σ[i]? = some (some v) := by
        obtain ⟨fp, s⟩ := s
        obtain ⟨v, hv, _⟩ := s.slot i w q
        exact ⟨v, hv⟩
      obtain ⟨v, hv⟩ := hv
      refine ⟨v, hv, evA_ok r s (OutL.mono (OutL.bindL (Ra := RA M σ) h) (Gr.refl _ _) fun vs H3 z => ?_)⟩
      obtain ⟨os, e3, F3, g3, s3, ra, z⟩ := z
      exact z (v :: vs) F3 H3 (Gr.refl _ _) s3 ⟨hv, ra⟩
  | .cons (.pth i f) r, F, H, e, Q, s, h => by
    have h : OutL M B F σ (RA M σ) Q (if r.csts then match e.at i (some f) with
        | some w => match w.frz with
          | some d => (evA C r e).bind fun os e' => .ok (.d d :: os) e'
          | none => .bad
        | none => .bad
      else (evE C (.pth i f) e).bind fun w e' => match w.frz with
        | some d => (evA C r e').bind fun os e2 => .ok (.d d :: os) e2
        | none => .bad) := h
    show (if r.csts then tCons (tPth i f) (rdsC r) else tCons (tE M (evE C (.pth i f))) (rdsA M C r)) σ H Q
    cases hc : r.csts with
    | false =>
      rw [hc] at h
      exact evA_gen s (fun {F H e Q} s h => evA_ok r s h) h
    | true =>
      rw [hc] at h
      simp only [if_true] at h ⊢
      cases q : e.at i (some f) with
      | none => rw [q] at h; exact h.elim
      | some w =>
        rw [q] at h
        cases hw : w.frz with
        | none => simp only [hw] at h; exact h.elim
        | some d =>
          simp only [hw] at h
          obtain ⟨a, kvs, v, S, hv, ha, hk, r1⟩ := s.part q
          obtain ⟨os, vs, e1, ho, hQ⟩ := csts_ok (M := M) (F := F) (H := H) (e := e) (σ := σ) (C := C) hc
          refine ⟨a, kvs, v, hv, ha, hk, hQ _ ?_⟩
          rw [e1] at h
          refine h (v :: vs) F H (Gr.refl _ _) s ⟨.inr ⟨w, S, r1, hw⟩, ?_⟩
          exact ho
  | .cons (.cst d) r, F, H, e, Q, s, h => evA_gen s (fun {F H e Q} s h => evA_ok r s h) h
  | .cons (.mv d) r, F, H, e, Q, s, h => evA_gen s (fun {F H e Q} s h => evA_ok r s h) h
  | .cons (.glb d) r, F, H, e, Q, s, h => evA_gen s (fun {F H e Q} s h => evA_ok r s h) h
  | .cons .never r, F, H, e, Q, s, h => evA_gen s (fun {F H e Q} s h => evA_ok r s h) h
  | .cons .nil r, F, H, e, Q, s, h => evA_gen s (fun {F H e Q} s h => evA_ok r s h) h
  | .cons (.cons _ _) r, F, H, e, Q, s, h => evA_gen s (fun {F H e Q} s h => evA_ok r s h) h
  | .cons (.prim _ _) r, F, H, e, Q, s, h => evA_gen s (fun {F H e Q} s h => evA_ok r s h) h
  | .cons (.tupd _) r, F, H, e, Q, s, h => evA_gen s (fun {F H e Q} s h => evA_ok r s h) h
  | .cons (.lstd _) r, F, H, e, Q, s, h => evA_gen s (fun {F H e Q} s h => evA_ok r s h) h
  | .cons (.dicd _ _) r, F, H, e, Q, s, h => evA_gen s (fun {F H e Q} s h => evA_ok r s h) h
  | .cons (.rcd _ _) r, F, H, e, Q, s, h => evA_gen s (fun {F H e Q} s h => evA_ok r s h) h
  | .cons (.and2 _ _) r, F, H, e, Q, s, h => evA_gen s (fun {F H e Q} s h => evA_ok r s h) h
  | .cons (.or2 _ _) r, F, H, e, Q, s, h => evA_gen s (fun {F H e Q} s h => evA_ok r s h) h
  | .cons (.one _) r, F, H, e, Q, s, h => evA_gen s (fun {F H e Q} s h => evA_ok r s h) h
  | .cons (.frz _) r, F, H, e, Q, s, h => evA_gen s (fun {F H e Q} s h => evA_ok r s h) h
  | .cons (.nt _) r, F, H, e, Q, s, h => evA_gen s (fun {F H e Q} s h => evA_ok r s h) h
  | .cons (.ife _ _ _) r, F, H, e, Q, s, h => evA_gen s (fun {F H e Q} s h => evA_ok r s h) h
  | .cons (.chain _ _ _ _) r, F, H, e, Q, s, h => evA_gen s (fun {F H e Q} s h => evA_ok r s h) h
  | .cons (.lc _ _ _ _ _ _) r, F, H, e, Q, s, h => evA_gen s (fun {F H e Q} s h => evA_ok r s h) h
  | .cons (.call _ _) r, F, H, e, Q, s, h => evA_gen s (fun {F H e Q} s h => evA_ok r s h) h
  | .cons (.io _) r, F, H, e, Q, s, h => evA_gen s (fun {F H e Q} s h => evA_ok r s h) h
  | .cons (.mut _ _ _ _) r, F, H, e, Q, s, h => evA_gen s (fun {F H e Q} s h => evA_ok r s h) h
  | .var _, F, H, e, Q, s, h => h.elim
  | .mv _, F, H, e, Q, s, h => h.elim
  | .pth _ _, F, H, e, Q, s, h => h.elim
  | .cst _, F, H, e, Q, s, h => h.elim
  | .glb _, F, H, e, Q, s, h => h.elim
  | .never, F, H, e, Q, s, h => h.elim
  | .prim _ _, F, H, e, Q, s, h => h.elim
  | .tupd _, F, H, e, Q, s, h => h.elim
  | .lstd _, F, H, e, Q, s, h => h.elim
  | .dicd _ _, F, H, e, Q, s, h => h.elim
  | .rcd _ _, F, H, e, Q, s, h => h.elim
  | .and2 _ _, F, H, e, Q, s, h => h.elim
  | .or2 _ _, F, H, e, Q, s, h => h.elim
  | .one _, F, H, e, Q, s, h => h.elim
  | .frz _, F, H, e, Q, s, h => h.elim
  | .nt _, F, H, e, Q, s, h => h.elim
  | .ife _ _ _, F, H, e, Q, s, h => h.elim
  | .chain _ _ _ _, F, H, e, Q, s, h => h.elim
  | .lc _ _ _ _ _ _, F, H, e, Q, s, h => h.elim
  | .call _ _, F, H, e, Q, s, h => h.elim
  | .io _, F, H, e, Q, s, h => h.elim
  | .mut _ _ _ _, F, H, e, Q, s, h => h.elim
end
end Mn
set_option Elab.async false
set_option linter.all false
set_option maxRecDepth 100000
/-! Mn, part 5: lists of values, calls of defs. -/
namespace Mn
open PySem L2
section
variable {M : Mc}
theorem evL_ok {C : Cn} {B : Hp} {σ : List (Option V)} : ∀ (a : E) {F H : Hp} {e : Env} {Q : List V → Hp → Prop}, St M.K M.G M.pv B F H e σ → OutL M B F σ (RL M) Q (evL C a e) → rdsL M C a σ H Q := by
  intro a
  induction a with
  | nil => exact fun s h => h [] _ _ (Gr.refl _ _) s Rps.nil
  | cons a r _ ih =>
    intro F H e Q s h
    have h : OutL M B F σ (RL M) Q ((evE C a e).bind fun w e' => match w.frz with
      | some d => (evL C r e').bind fun ds e2 => .ok (d :: ds) e2
      | none => .bad) := h
    refine ⟨B, F, e, s, Out.mono (OutL.bind h) (Gr.refl _ _) fun v H1 q => ?_⟩
    obtain ⟨w, e1, F1, g1, s1, q⟩ := q
    cases hw : w.frz with
    | none => rw [hw] at q; exact q.elim
    | some d =>
      rw [hw] at q
      obtain ⟨F2, g2, s2, rp⟩ := s1.frz hw
      refine ih s2 (OutL.mono (OutL.bindL (Ra := RL M) (OutL.mono q g2 fun _ _ z => z)) (Gr.refl _ _) fun vs H3 z => ?_)
      obtain ⟨os, e3, F3, g3, s3, ra, z⟩ := z
      exact z (v :: vs) F3 H3 (Gr.refl _ _) s3 (Rps.cons (rp.mono g3.ex) ra)
  | _ => exact fun s h => h.elim

open Classical in
/-- B and what is one's own beside -/
noncomputable def addB (B H : Hp) (S : AS) : Hp := fun a => if S a then H a else B a
theorem addB_in {B H : Hp} {S : AS} {a : Addr} (h : S a) : addB B H S a = H a := by unfold addB; rw [if_pos h]
theorem addB_out {B H : Hp} {S : AS} {a : Addr} (h : ¬ S a) : addB B H S a = B a := by unfold addB; rw [if_neg h]
theorem addB_none {B F H : Hp} {S : AS} {a : Addr} (o : Own B F H S) (h : addB B H S a = none) : ¬ S a ∧ B a = none := by
  by_cases q : S a
  · rw [addB_in q] at h
    exact absurd h (o a q).2.2
  · rw [addB_out q] at h
    exact ⟨q, h⟩
theorem addB_ex {B F H H' : Hp} {S : AS} (o : Own B F H S) (x : Ex (addB B H S) H') : Ex B H' := fun a u h => by
  refine x a u ?_
  rw [addB_out fun z => ?_]
  · exact h
  · rw [(o a z).2.1] at h
    cases h
theorem addB_exH {B H : Hp} {S : AS} (x : Ex B H) : Ex (addB B H S) H := fun a u h => by
  by_cases q : S a
  · rw [addB_in q] at h
    exact h
  · rw [addB_out q] at h
    exact x a u h
theorem addB_gr {B F F' H : Hp} {S : AS} (o : Own B F H S) (g : Gr (addB B H S) F F') : Gr B F F' := ⟨g.ex, fun a h => (g.new a h).imp id fun z => (addB_none o z).2⟩
theorem addB_keep {B F H H' : Hp} {S : AS} (o : Own B F H S) (x : Ex (addB B H S) H') {a : Addr} (h : S a) : H' a = H a := by
  cases q : H a with
  | none => exact absurd q (o a h).2.2
  | some u => exact x a u (by rw [addB_in h]; exact q)
/-- what is one's own stays so while others run over it -/
theorem addB_own {B F F' H H' : Hp} {S : AS} (o : Own B F H S) (g : Gr (addB B H S) F F') (x : Ex (addB B H S) H') : Own B F' H' S := fun a h =>
  ⟨g.none (o a h).1 (by rw [addB_in h]; exact (o a h).2.2), (o a h).2.1, by rw [addB_keep o x h]; exact (o a h).2.2⟩
theorem StF.addB {fp : Nat → AS} {B F H : Hp} {S : AS} {e : Env} {σ : List (Option V)} {K G pv} (s : StF K G pv fp B F H e σ) (d : ∀ i a, fp i a → S a → False) : StF K G pv fp (addB B H S) F H e σ :=
  s.base (addB_exH s.exB) fun i a h => by
    rw [addB_out fun z => d i a h z]
    exact (s.own i a h).2.1
theorem StF.unB {fp : Nat → AS} {B F F' H H' : Hp} {S : AS} {e : Env} {σ : List (Option V)} {K G pv} (o : Own B F H S) (s : StF K G pv fp (Mn.addB B H S) F' H' e σ) : StF K G pv fp B F' H' e σ :=
  s.base (addB_ex o s.exB) fun i a h => (addB_none o (s.own i a h).2.1).2
theorem StF.apart {fp : Nat → AS} {B F F' H H' : Hp} {S : AS} {e : Env} {σ : List (Option V)} {K G pv} (o : Own B F H S) (s : StF K G pv fp (Mn.addB B H S) F' H' e σ) : ∀ i a, fp i a → S a → False := fun i a h z => (addB_none o (s.own i a h).2.1).1 z

def OutW (M : Mc) (B F : Hp) (σ : List (Option V)) (Q : List V → Hp → Prop) : R (List W) → Prop
  | .ok ws e => ∀ vs F' H', Gr B F F' → StVs M.K M.G M.pv B F' H' e σ ws vs → Q vs H'
  | .exn c p e => ∀ cls d F' H', Gr B F F' → St M.K M.G M.pv B F' H' e σ → M.XR c p cls d F' H' → M.EX cls d H'
  | .bad => False
theorem OutW.mono {B F F1 : Hp} {σ : List (Option V)} {Q Q' : List V → Hp → Prop} {r : R (List W)} (h : OutW M B F σ Q r) (g : Gr B F F1) (k : ∀ v H, Q v H → Q' v H) : OutW M B F1 σ Q' r := by
  cases r with
  | ok a e => exact fun vs F' H' g' s => k _ _ (h vs F' H' (g.trans g') s)
  | exn c p e => exact fun cls d F' H' g' s x => h cls d F' H' (g.trans g') s x
  | bad => exact h
theorem OutW.bind {B F : Hp} {σ : List (Option V)} {Q : List V → Hp → Prop} {r : R W} {k : W → Env → R (List W)} (h : OutW M B F σ Q (r.bind k)) :
    Out M B F σ (fun v H' => ∃ w e' F', Gr B F F' ∧ StV M.K M.G M.pv B F' H' e' σ w v ∧ OutW M B F' σ Q (k w e')) r := by
  cases r with
  | ok w e => exact fun v F' H' g s => ⟨w, e, F', g, s, OutW.mono h g fun _ _ q => q⟩
  | exn c p e => exact h
  | bad => exact h
theorem Out.bindW {B F : Hp} {σ : List (Option V)} {Q : VK} {r : R (List W)} {k : List W → Env → R W} (h : Out M B F σ Q (r.bind k)) :
    OutW M B F σ (fun vs H' => ∃ ws e' F', Gr B F F' ∧ StVs M.K M.G M.pv B F' H' e' σ ws vs ∧ Out M B F' σ Q (k ws e')) r := by
  cases r with
  | ok w e => exact fun v F' H' g s => ⟨w, e, F', g, s, Out.mono h g fun _ _ q => q⟩
  | exn c p e => exact h
  | bad => exact h
theorem evW_ok {C : Cn} {σ : List (Option V)} : ∀ (a : E) {B F H : Hp} {e : Env} {Q : List V → Hp → Prop}, St M.K M.G M.pv B F H e σ → OutW M B F σ Q (evW C a e) → rdsL M C a σ H Q := by
  intro a
  induction a with
  | nil =>
    intro B F H e Q s h
    obtain ⟨fp, s⟩ := s
    exact h [] F H (Gr.refl _ _) ⟨fp, fun _ => False, s, WRs.nil_iff.mpr ⟨rfl, fun _ z => z⟩, fun _ z => z.elim, fun _ _ _ z => z⟩
  | cons a r _ ih =>
    intro B F H e Q s h
    have h : OutW M B F σ Q ((evE C a e).bind fun w e' => (evW C r e').bind fun ws e2 => .ok (w :: ws) e2) := h
    refine ⟨B, F, e, s, Out.mono (OutW.bind h) (Gr.refl _ _) fun v H1 q => ?_⟩
    obtain ⟨w, e1, F1, g1, ⟨fp, S, s1, r1, o1, d1⟩, q⟩ := q
    refine ih ⟨fp, s1.addB d1⟩ ?_
    cases hr : evW C r e1 with
    | bad => rw [hr] at q; exact q
    | exn c p e2 =>
      rw [hr] at q
      intro cls d F2 H2 g2 s2 x
      obtain ⟨fp2, s2⟩ := s2
      exact q cls d F2 H2 (addB_gr o1 g2) ⟨fp2, s2.unB o1⟩ x
    | ok ws e2 =>
      rw [hr] at q
      intro vs F2 H2 g2 s2
      obtain ⟨fp2, S2, s2, r2, o2, d2⟩ := s2
      refine q (v :: vs) F2 H2 (addB_gr o1 g2) ⟨fp2, fun a => S a ∨ S2 a, s2.unB o1, WRs.cons_iff.mpr ⟨v, vs, S, S2, rfl, ?_, r2, ?_, fun _ => Iff.rfl⟩, ?_, ?_⟩
      · exact WR.frame g2.ex w v S (fun a ha => addB_keep o1 s2.exB ha) r1
      · exact fun a h1 h2 => (addB_none o1 (o2 a h2).2.1).1 h1
      · rintro a (ha | ha)
        · exact addB_own o1 g2 s2.exB a ha
        · exact ⟨(o2 a ha).1, (addB_none o1 (o2 a ha).2.1).2, (o2 a ha).2.2⟩
      · rintro i a hi (ha | ha)
        · exact s2.apart o1 i a hi ha
        · exact d2 i a hi ha
  | _ => exact fun s h => h.elim

/-! ### a def's call -/
def CaR1 (M : Mc) (F : Hp) (σ : List (Option V)) : Option D × Nat → V → Prop
  | (some d, _), v => Rp M.K M.G F d v
  | (none, i), v => σ[i]? = some (some v)
def CaRs (M : Mc) (F : Hp) (σ : List (Option V)) : List (Option D × Nat) → List V → Prop
  | [], [] => True
  | o :: os, v :: vs => CaR1 M F σ o v ∧ CaRs M F σ os vs
  | _, _ => False
abbrev RC (M : Mc) (σ : List (Option V)) : Hp → Hp → Env → List (Option D × Nat) → List V → Prop := fun F _ _ as vs => CaRs M F σ as vs
def E.isIo : E → Option Nat
  | .io i => some i
  | _ => none
def rdsK (M : Mc) (C : Cn) : E → TA
  | .nil => tNil
  | .cons a r => match a.isIo with
    | some i => tCons (tVar i) (rdsK M C r)
    | none => tCons (tE M (evE C a)) (rdsK M C r)
  | _ => fun _ _ _ => False
theorem evC_cons {C : Cn} {a r : E} {e : Env} (h : a.isIo = none) : evC C (.cons a r) e = (evE C a e).bind fun w e' => match w.frz with
      | some d => (evC C r e').bind fun as e2 => .ok ((some d, 0) :: as) e2
      | none => .bad := by
  cases a <;> first | rfl | cases h
theorem evC_ok {C : Cn} {B : Hp} {σ : List (Option V)} : ∀ (a : E) {F H : Hp} {e : Env} {Q : List V → Hp → Prop}, St M.K M.G M.pv B F H e σ → OutL M B F σ (RC M σ) Q (evC C a e) → rdsK M C a σ H Q := by
  intro a
  induction a with
  | nil => exact fun s h => h [] _ _ (Gr.refl _ _) s trivial
  | cons a r _ ih =>
    intro F H e Q s h
    show (match a.isIo with
      | some i => tCons (tVar i) (rdsK M C r)
      | none => tCons (tE M (evE C a)) (rdsK M C r)) σ H Q
    cases hi : a.isIo with
    | some i =>
      have ha : a = .io i := by cases a <;> first | (cases hi; rfl) | cases hi
      subst ha
      have h : OutL M B F σ (RC M σ) Q (if (e.get i).isSome then (evC C r e).bind fun as e' => .ok ((none, i) :: as) e' else .bad) := h
      cases q : e.get i with
      | none => rw [q] at h; exact h.elim
      | some w =>
        rw [q] at h
        have h : OutL M B F σ (RC M σ) Q ((evC C r e).bind fun as e' => .ok ((none, i) :: as) e') := h
        have hv : ∃ v, σ[i]? = some (some v) := by
          obtain ⟨fp, s⟩ := s
          obtain ⟨v, hv, _⟩ := s.slot i w q
          exact ⟨v, hv⟩
        obtain ⟨v, hv⟩ := hv
        refine ⟨v, hv, ih s (OutL.mono (OutL.bindL (Ra := RC M σ) h) (Gr.refl _ _) fun vs H3 z => ?_)⟩
        obtain ⟨os, e3, F3, g3, s3, ra, z⟩ := z
        exact z (v :: vs) F3 H3 (Gr.refl _ _) s3 ⟨hv, ra⟩
    | none =>
      rw [evC_cons hi] at h
      refine ⟨B, F, e, s, Out.mono (OutL.bind h) (Gr.refl _ _) fun v H1 q => ?_⟩
      obtain ⟨w, e1, F1, g1, s1, q⟩ := q
      cases hw : w.frz with
      | none => rw [hw] at q; exact q.elim
      | some d =>
        rw [hw] at q
        obtain ⟨F2, g2, s2, rp⟩ := s1.frz hw
        refine ih s2 (OutL.mono (OutL.bindL (Ra := RC M σ) (OutL.mono q g2 fun _ _ z => z)) (Gr.refl _ _) fun vs H3 z => ?_)
        obtain ⟨os, e3, F3, g3, s3, ra, z⟩ := z
        exact z (v :: vs) F3 H3 (Gr.refl _ _) s3 ⟨rp.mono g3.ex, ra⟩
  | _ => exact fun s h => h.elim

/-- the values at the places io -/
def ioV (io : List Nat) (vs : List V) : List V := io.filterMap fun i => vs[i]?
/-- a def's promise: what φ says -/
def spOf (K : PySem.W.Frag) (G : Nat → Option Addr) (XR : XRT) (np : Nat) (io : List Nat) (φ : List W → FR) : Sp := fun vs H Q E => vs.length = np ∧ ∃ B F ws S, WRs K G F H ws vs S ∧ Own B F H S ∧ Ex B H ∧ Ex F H ∧ (match φ ws with
  | .ok w outs => ∀ v H' F' S' Sv, Gr B F F' → Ex B H' → Ex F' H' → WRs K G F' H' outs (ioV io vs) S' → WR K G F' H' w v Sv → (∀ a, S' a → Sv a → False) → Own B F' H' S' → Own B F' H' Sv → Q v H'
  | .exn c p outs => ∀ cls d H' F' S', Gr B F F' → Ex B H' → Ex F' H' → WRs K G F' H' outs (ioV io vs) S' → Own B F' H' S' → XR c p cls d F' H' → E cls d H'
  | .bad => False)

theorem args_ok {fp : Nat → AS} {B F H : Hp} {e : Env} {σ : List (Option V)} (s : StF M.K M.G M.pv fp B F H e σ) : ∀ {as : List (Option D × Nat)} {vs : List V} {ws : List W}, (iosOf as).Nodup → CaRs M F σ as vs → args? e as = some ws →
    WRs M.K M.G F H ws vs (fun a => ∃ i ∈ iosOf as, fp i a) ∧ vs.length = as.length ∧ (∀ (k i : Nat) (v : V), (iosOf as)[k]? = some i → (ioV (posIo as) vs)[k]? = some v → σ[i]? = some (some v)) ∧ (ioV (posIo as) vs).length = (iosOf as).length
  | [], [], ws, _, _, h => by
    cases h
    refine ⟨WRs.nil_iff.mpr ⟨rfl, fun a z => ?_⟩, rfl, fun k i v z => ?_, rfl⟩
    · obtain ⟨i, hi, _⟩ := z
      cases hi
    · cases z
  | [], _ :: _, _, _, r, _ => r.elim
  | (some _, _) :: _, [], _, _, r, _ => r.elim
  | (none, _) :: _, [], _, _, r, _ => r.elim
  | (some d, j) :: as, v :: vs, ws, n, r, h => by
    unfold args? at h
    cases q : args? e as with
    | none => rw [q] at h; cases h
    | some us =>
      rw [q] at h
      cases h
      obtain ⟨h1, h2, h3, h4⟩ := args_ok s (as := as) (vs := vs) n r.2 q
      have e1 : ioV (posIo ((some d, j) :: as)) (v :: vs) = ioV (posIo as) vs := by
        show ((posIo as).map (· + 1)).filterMap (fun i => (v :: vs)[i]?) = _
        rw [List.filterMap_map]
        rfl
      refine ⟨WRs.cons_iff.mpr ⟨v, vs, fun _ => False, _, rfl, WR.of r.1, h1, fun _ z => z.elim, fun a => ⟨.inr, fun z => z.elim False.elim id⟩⟩, by rw [List.length_cons, List.length_cons, h2], fun k i u => ?_, ?_⟩
      · rw [e1]
        exact h3 k i u
      · rw [e1]
        exact h4
  | (none, j) :: as, v :: vs, ws, n, r, h => by
    unfold args? at h
    cases q0 : e.get j with
    | none => simp [q0] at h
    | some w =>
      cases q : args? e as with
      | none => simp [q0, q] at h
      | some us =>
        simp [q0, q] at h
        subst h
        have n' : (j :: iosOf as).Nodup := n
        obtain ⟨n1, n2⟩ := List.nodup_cons.mp n'
        obtain ⟨h1, h2, h3, h4⟩ := args_ok s (as := as) (vs := vs) n2 r.2 q
        obtain ⟨v', hv, r1⟩ := s.slot j w q0
        have hv2 : σ[j]? = some (some v) := r.1
        have ev : v' = v := by
          rw [hv] at hv2
          cases hv2
          rfl
        subst ev
        have e1 : ioV (posIo ((none, j) :: as)) (v' :: vs) = v' :: ioV (posIo as) vs := by
          show (0 :: (posIo as).map (· + 1)).filterMap (fun i => (v' :: vs)[i]?) = _
          rw [List.filterMap_cons, List.filterMap_map]
          rfl
        refine ⟨WRs.cons_iff.mpr ⟨v', vs, fp j, _, rfl, r1, h1, fun a h1 z => ?_, fun a => ⟨fun z => ?_, fun z => ?_⟩⟩, by rw [List.length_cons, List.length_cons, h2], fun k i u h5 h6 => ?_, ?_⟩
        · obtain ⟨i, hi, ha⟩ := z
          exact s.sep j i a (fun z => n1 (by rw [z]; exact hi)) h1 ha
        · obtain ⟨i, hi, ha⟩ := z
          rcases List.mem_cons.mp hi with rfl | hi
          · exact .inl ha
          · exact .inr ⟨i, hi, ha⟩
        · rcases z with z | ⟨i, hi, ha⟩
          · exact ⟨j, List.mem_cons_self, z⟩
          · exact ⟨i, List.mem_cons_of_mem _ hi, ha⟩
        · rw [e1] at h6
          cases k with
          | zero =>
            have h5 : some j = some i := h5
            have h6 : some v' = some u := h6
            cases h5
            cases h6
            exact hv
          | succ k => exact h3 k i u h5 h6
        · rw [e1]
          show (ioV (posIo as) vs).length + 1 = (iosOf as).length + 1
          rw [h4]

/-- several names forgotten -/
def dropAll (e : Env) : List Nat → Env
  | [] => e
  | i :: is => dropAll (e.set i none) is
theorem StF.dropAll {K G pv} {B F H : Hp} {σ : List (Option V)} : ∀ {is : List Nat} {fp : Nat → AS} {e : Env}, StF K G pv fp B F H e σ → ∃ fp', StF K G pv fp' B F H (dropAll e is) σ ∧ (∀ j a, fp' j a → fp j a) ∧ ∀ j ∈ is, ∀ a, ¬ fp' j a
  | [], fp, e, s => ⟨fp, s, fun _ _ h => h, fun _ h => nomatch h⟩
  | i :: is, fp, e, s => by
    obtain ⟨fp', s', h1, h2⟩ := StF.dropAll (is := is) (s.drop (i := i))
    refine ⟨fp', s', fun j a h => ?_, fun j hj a h => ?_⟩
    · have q := h1 j a h
      by_cases e : j = i
      · subst e
        rw [fpSet_self] at q
        exact q.elim
      · rw [fpSet_ne e] at q
        exact q
    · rcases List.mem_cons.mp hj with rfl | hj
      · have q := h1 j a h
        rw [fpSet_self] at q
        exact q
      · exact h2 j hj a h
theorem putOuts_set {i : Nat} : ∀ {is : List Nat} {ws : List W} {e : Env} {o : Option W}, i ∈ is → putOuts (e.set i o) is ws = putOuts e is ws
  | [], _, _, _, h => nomatch h
  | j :: is, [], _, _, _ => rfl
  | j :: is, w :: ws, e, o, h => by
    show putOuts ((e.set i o).set j (some w)) is ws = putOuts (e.set j (some w)) is ws
    by_cases q : i = j
    · subst q
      rw [List.set_set]
    · rw [List.set_comm _ _ q]
      exact putOuts_set ((List.mem_cons.mp h).resolve_left q)
theorem putOuts_drop : ∀ {ds is : List Nat} {ws : List W} {e : Env}, (∀ i ∈ ds, i ∈ is) → putOuts (dropAll e ds) is ws = putOuts e is ws
  | [], _, _, _, _ => rfl
  | d :: ds, is, ws, e, h => by
    show putOuts (dropAll (e.set d none) ds) is ws = _
    rw [putOuts_drop (fun i hi => h i (List.mem_cons_of_mem _ hi)), putOuts_set (h d List.mem_cons_self)]
/-- what was handed over stands at its names again -/
theorem StF.outs {K G pv} {B F H : Hp} {σ : List (Option V)} : ∀ {is : List Nat} {ws : List W} {vs : List V} {S : AS} {fp : Nat → AS} {e e2 : Env}, StF K G pv fp B F H e σ → (∀ (k i : Nat) (v : V), is[k]? = some i → vs[k]? = some v → σ[i]? = some (some v)) →
    WRs K G F H ws vs S → Own B F H S → (∀ j a, fp j a → S a → False) → putOuts e is ws = some e2 → ∃ fp', StF K G pv fp' B F H e2 σ ∧ ∀ j a, fp' j a → fp j a ∨ S a
  | [], [], vs, S, fp, e, e2, s, _, _, _, _, h => by
    cases h
    exact ⟨fp, s, fun _ _ h => .inl h⟩
  | [], _ :: _, _, _, _, _, _, _, _, _, _, _, h => by cases h
  | _ :: _, [], _, _, _, _, _, _, _, _, _, _, h => by cases h
  | i :: is, w :: ws, vs, S, fp, e, e2, s, hv, r, o, d, h => by
    obtain ⟨v, vr, S1, S2, rfl, r1, r2, dj, z⟩ := WRs.cons_iff.mp r
    have s1 := s.put (i := i) (v := v) (w := w) (S := S1) (hv 0 i v rfl rfl) r1 (fun a ha => o a ((z a).mpr (.inl ha))) fun j a _ h1 h2 => d j a h1 ((z a).mpr (.inl h2))
    have d2 : ∀ j a, fpSet fp i S1 j a → S2 a → False := fun j a h1 h2 => by
      by_cases e : j = i
      · subst e
        rw [fpSet_self] at h1
        exact dj a h1 h2
      · rw [fpSet_ne e] at h1
        exact d j a h1 ((z a).mpr (.inr h2))
    obtain ⟨fp', s2, hf⟩ := StF.outs (is := is) (ws := ws) (vs := vr) (S := S2) s1 (fun k i v h1 h2 => hv (k + 1) i v h1 h2) r2 (fun a ha => o a ((z a).mpr (.inr ha))) d2 h
    refine ⟨fp', s2, fun j a ha => ?_⟩
    rcases hf j a ha with q | q
    · by_cases e : j = i
      · subst e
        rw [fpSet_self] at q
        exact .inr ((z a).mpr (.inl q))
      · rw [fpSet_ne e] at q
        exact .inl q
    · exact .inr ((z a).mpr (.inr q))

open Classical in
theorem call_ok {φ : List W → FR} {io : List Nat} {np : Nat} {B F H : Hp} {e : Env} {σ : List (Option V)} {as : List (Option D × Nat)} {vs : List V} {Q : VK} (s : St M.K M.G M.pv B F H e σ) (hn : as.length = np) (r : CaRs M F σ as vs) (h : Out M B F σ Q (callE φ io as e)) :
    spOf M.K M.G M.XR np io φ vs H Q M.EX := by
  obtain ⟨fp, s⟩ := s
  unfold callE at h
  by_cases hc : (iosOf as).Nodup ∧ posIo as = io
  · rw [if_pos hc] at h
    obtain ⟨hnd, rfl⟩ := hc
    cases ha : args? e as with
    | none => rw [ha] at h; exact h.elim
    | some ws =>
      rw [ha] at h
      obtain ⟨r1, hl, hv, hlen⟩ := args_ok s hnd r ha
      generalize hS : (fun a => ∃ i ∈ iosOf as, fp i a) = S at r1
      have hSi : ∀ a, S a ↔ ∃ i ∈ iosOf as, fp i a := fun a => by rw [← hS]
      have oS : ∀ a, S a → F a = none ∧ B a = none ∧ H a ≠ none := fun a z => by
        obtain ⟨i, _, hi⟩ := (hSi a).mp z
        exact s.own i a hi
      let Bc : Hp := fun a => if S a then none else H a
      have bIn : ∀ a, S a → Bc a = none := fun a z => if_pos z
      have bOut : ∀ a, ¬ S a → Bc a = H a := fun a z => if_neg z
      have xB : Ex Bc H := fun a u z => by
        by_cases q : S a
        · rw [bIn a q] at z; cases z
        · rw [bOut a q] at z; exact z
      obtain ⟨fd, sd, hd1, hd2⟩ := s.dropAll (is := iosOf as)
      -- behind the call
      have after : ∀ {H' F' : Hp} {S' : AS} {outs : List W} {e2 : Env}, Gr Bc F F' → Ex Bc H' → Ex F' H' → WRs M.K M.G F' H' outs (ioV (posIo as) vs) S' → Own Bc F' H' S' → putOuts e (iosOf as) outs = some e2 →
          Gr B F F' ∧ (∃ fp2, StF M.K M.G M.pv fp2 B F' H' e2 σ ∧ ∀ j a, fp2 j a → fd j a ∨ S' a) ∧ Own B F' H' S' ∧ ∀ j a, fd j a → ¬ S a ∧ Bc a = H a ∧ F' a = none := by
        intro H' F' S' outs e2 g xB' xF' ro oo hp
        have bnone : ∀ a, Bc a = none → B a = none := fun a z => by
          by_cases q : S a
          · exact (oS a q).2.1
          · rw [bOut a q] at z
            exact s.exB.back z
        have gB : Gr B F F' := ⟨g.ex, fun a z => (g.new a z).imp id (bnone a)⟩
        have fdn : ∀ j a, fd j a → ¬ S a ∧ Bc a = H a ∧ F' a = none := fun j a z => by
          have nS : ¬ S a := fun q => by
            obtain ⟨i, hi, hia⟩ := (hSi a).mp q
            by_cases e : j = i
            · subst e
              exact hd2 j hi a z
            · exact s.sep j i a e (hd1 j a z) hia
          refine ⟨nS, bOut a nS, g.none (s.own j a (hd1 j a z)).1 ?_⟩
          rw [bOut a nS]
          exact (s.own j a (hd1 j a z)).2.2
        have exB' : Ex B H' := fun a u z => by
          have nS : ¬ S a := fun q => by rw [(oS a q).2.1] at z; cases z
          exact xB' a u (by rw [bOut a nS]; exact s.exB a u z)
        have s1 := sd.step gB exB' xF' (fun j a z => by
          obtain ⟨_, q, _⟩ := fdn j a z
          cases hh : H a with
          | none => exact absurd hh (s.own j a (hd1 j a z)).2.2
          | some u => exact xB' a u (by rw [q]; exact hh)) fun j a z => (fdn j a z).2.2
        have oB : Own B F' H' S' := fun a z => ⟨(oo a z).1, bnone a (oo a z).2.1, (oo a z).2.2⟩
        refine ⟨gB, ?_, oB, fdn⟩
        refine StF.outs s1 (fun k i v h1 h2 => hv k i v h1 h2) ro oB (fun j a z q => ?_) (by rw [putOuts_drop fun i hi => hi]; exact hp)
        obtain ⟨_, q1, _⟩ := fdn j a z
        rw [(oo a q).2.1] at q1
        exact (s.own j a (hd1 j a z)).2.2 q1.symm
      refine ⟨hl.trans hn, Bc, F, ws, S, r1, fun a z => ⟨(oS a z).1, bIn a z, (oS a z).2.2⟩, xB, s.exF, ?_⟩
      cases hφ : φ ws with
      | bad => simp only [hφ] at h; exact h.elim
      | ok w outs =>
        simp only [hφ] at h ⊢
        cases hp : putOuts e (iosOf as) outs with
        | none => rw [hp] at h; exact h.elim
        | some e2 =>
          rw [hp] at h
          intro v H' F' S' Sv g xB' xF' ro rv dj oo ov
          obtain ⟨gB, ⟨fp2, s2, hf⟩, oB, fdn⟩ := after g xB' xF' ro oo hp
          refine h v F' H' gB ⟨fp2, Sv, s2, rv, fun a z => ⟨(ov a z).1, ?_, (ov a z).2.2⟩, fun j a z q => ?_⟩
          · by_cases q : S a
            · exact (oS a q).2.1
            · have := (ov a z).2.1
              rw [bOut a q] at this
              exact s.exB.back this
          · rcases hf j a z with z | z
            · obtain ⟨_, q1, _⟩ := fdn j a z
              rw [(ov a q).2.1] at q1
              exact (s.own j a (hd1 j a z)).2.2 q1.symm
            · exact dj a z q
      | exn c p outs =>
        simp only [hφ] at h ⊢
        cases hp : putOuts e (iosOf as) outs with
        | none => rw [hp] at h; exact h.elim
        | some e2 =>
          rw [hp] at h
          intro cls d H' F' S' g xB' xF' ro oo x
          obtain ⟨gB, ⟨fp2, s2, hf⟩, oB, fdn⟩ := after g xB' xF' ro oo hp
          exact h cls d F' H' gB ⟨fp2, s2⟩ x
  · rw [if_neg hc] at h
    exact h.elim
end
end Mn
set_option Elab.async false
set_option linter.all false
set_option maxRecDepth 100000
set_option maxHeartbeats 4000000
/-! Mn: two of the model's own walks that the layer lacks: sorted of a tuple of ints, tuple(reversed(a tuple)). -/
namespace MnM
open PySem PySem.Spec PyProof.Rows SrtO
section
variable {prog : Program} {w : World} {A : Around} {E : Value → Shared → Prop} {s : Shared}
theorem collect_tup {l : Addr} {vs : List Value} {Q : List Value → Shared → Prop} (hl : IsTup s.heap l vs.toArray)
    (h : Q vs { s with heap := (s.heap.push (seqObj "list" #[] 0)).update s.heap.objs.size (Obj.mapSeq (· ++ vs.toArray)) }) (hsz : vs.length ≤ sizeLine) :
    wpAny (model prog w) A (collect (.ref l)) Q E s := by
  obtain ⟨o, ho, hc, n, hd⟩ := id hl
  unfold collect
  refine wpAny_bind (wpAny_runValue (codeAny_builtin PyProof.Rows.entry_proto_collect' ?_))
  show wpAny _ _ (do again (.builtin "list.__iadd__" ⟨[← newList [], .ref l], []⟩)) _ _ s
  refine wpAny_bind (wpAny_newList (wpAny_pure ⟨Code.quiet_builtin _ (by decide +kernel), codeAny_builtin PyProof.Rows.entry_list_iadd' ?_⟩))
  show wpAny _ _ (Builtin.List.listExtendWith (.ref s.heap.objs.size) (.ref l) (.ref s.heap.objs.size)) _ _ { s with heap := s.heap.push (seqObj "list" #[] 0) }
  unfold Builtin.List.listExtendWith
  have ho' : (s.heap.push (seqObj "list" #[] 0)).get? l = some o := Heap.get?_push_of_some _ ho
  refine wpAny_bind (wpAny_typeOf (T := "tuple") ⟨o, ho', hc⟩ ?_)
  have ht : (Value.type "tuple" == Value.type "tuple") = true := by rfl
  rw [if_pos (by rw [ht]; simp)]
  refine wpAny_bind (listItems_at ho' hd ?_)
  refine wpAny_bind (listItems_at (xs := #[]) (n := 0) (Heap.get?_push_size _ rfl) rfl ?_)
  rw [if_neg (by simp)]
  refine wpAny_bind (listUpdate_at (xs := #[]) (n := 0) (Heap.get?_push_size _ rfl) rfl ?_ (Nat.zero_le _) (by show (#[] ++ vs.toArray).size ≤ sizeLine + 1; simp only [Array.size_append, List.size_toArray, List.length_nil]; omega))
  refine wpAny_pure ?_
  show wpAny (model prog w) A (do
      let o ← load s.heap.objs.size
      match o.data with
      | .seq xs _ => pure xs.toList
      | _ => unsupported "internal:collect") Q E { s with heap := (s.heap.push (seqObj "list" #[] 0)).update s.heap.objs.size (Obj.mapSeq (· ++ vs.toArray)) }
  refine wpAny_bind (wpAny_load (get?_update_seq (Heap.get?_push_size _ rfl) _) ?_)
  show wpAny _ _ (pure ((#[] : Array Value) ++ vs.toArray).toList) Q E _
  rw [show ((#[] : Array Value) ++ vs.toArray).toList = vs by simp]
  exact wpAny_pure h
/-- sorted(t): the new list stands at size + 1 -/
theorem sorted_ordT {l : Addr} {vs : List Value} {ltv : Value → Value → Bool} {Q : Value → Shared → Prop} (O : Swo ltv) (hl : IsTup s.heap l vs.toArray) (hz : vs.length ≤ sizeLine)
    (hS : 2 ≤ vs.length → ∀ (h₁ : Heap) (a : Addr), h₁.get? a = some (seqObj "list" vs.toArray 0) → (∀ b o, s.heap.get? b = some o → b ≠ a ∧ h₁.get? b = some o) → SortableO prog w A.in1.in1 { s with heap := h₁ } a vs ltv)
    (h : ∀ out : List Value, Srtd ltv out → Stb ltv out vs → Q (.ref (s.heap.objs.size + 1)) { s with heap := sortedAll s.heap vs out.toArray }) :
    wpAny (model prog w) A (call (.builtin "sorted") [.ref l]) Q E s := by
  refine Calls.call_function_entry kind_sorted plain_sorted entry_sorted (args_sorted1 _) ?_
  unfold Builtin.«sorted»
  refine wpAny_bind (m := checkCount "sorted" 1 1 _) (wpAny_pure ?_)
  refine wpAny_bind (collect_tup hl ?_ hz)
  refine wpAny_bind (wpAny_newList ?_ hz)
  have hsz : ((s.heap.push (seqObj "list" #[] 0)).update s.heap.objs.size (Obj.mapSeq (· ++ vs.toArray))).objs.size = s.heap.objs.size + 1 := by
    rw [Heap.size_update, size_push']
  have hoL : (((s.heap.push (seqObj "list" #[] 0)).update s.heap.objs.size (Obj.mapSeq (· ++ vs.toArray))).push (seqObj "list" vs.toArray 0)).get? (s.heap.objs.size + 1) = some (seqObj "list" vs.toArray 0) := by
    rw [← hsz]; exact Heap.get?_push_size _ rfl
  have keep : ∀ b o, s.heap.get? b = some o → b ≠ s.heap.objs.size + 1 ∧ (((s.heap.push (seqObj "list" #[] 0)).update s.heap.objs.size (Obj.mapSeq (· ++ vs.toArray))).push (seqObj "list" vs.toArray 0)).get? b = some o := fun b o q => by
    have hlt : b < s.heap.objs.size := Heap.lt_size q
    refine ⟨Nat.ne_of_lt (Nat.lt_succ_of_lt hlt), Heap.get?_push_of_some _ ?_⟩
    rw [Heap.get?_update_ne _ _ _ _ (Nat.ne_of_lt hlt)]
    exact Heap.get?_push_of_some _ q
  show wpAny _ _ _ _ _ { s with heap := ((s.heap.push (seqObj "list" #[] 0)).update s.heap.objs.size (Obj.mapSeq (· ++ vs.toArray))).push (seqObj "list" vs.toArray 0) }
  rw [hsz]
  refine wpAny_bind (wpAny_holding (wpAny_call_entry slot_list_sort ⟨_, hoL, rfl⟩ entry_list_sort (list_sort_ord O hoL hz (fun h2 => hS h2 _ _ hoL keep) fun out hs hb => ⟨_, rfl, ?_⟩) (args_list_sort _)))
  exact wpAny_pure ⟨_, rfl, h out hs hb⟩
end
open L2
/-- sorted(x), a list or a tuple of ints -/
def rSortedA (K : PySem.W.Frag) : List V → Hp → VK → Prop := fun vs H Q => ∃ (a : Addr) (ns : List Int), vs = [V.ref a] ∧ (SqL K H a (ns.map V.int) ∨ SqT K H a (ns.map V.int)) ∧
  ∀ (ns' : List Int) (p : Addr), ns'.Perm ns → ns'.Pairwise (· ≤ ·) → H p = none → Q (.ref p) (upd H p (.lst (ns'.map V.int)))
theorem cr_sortedA {X : Cx} : CallR X (.builtin "sorted") (rSortedA X.K) := by
  intro pins s σ H vs us Q I r h
  obtain ⟨a, ns, rfl, hs, q⟩ := h
  rcases hs with hs | hs
  · exact cr_sortedI pins s σ H _ us Q I r ⟨a, ns, rfl, hs, q⟩
  · obtain ⟨its, rv, hl, hz⟩ := I.tuple hs
    rw [Vals.ref1 r]
    have hi := rv.ints
    refine sorted_ordT SrtO.swo_int hl (by rw [← rv.length]; exact hz) (fun h2 h₁ a' _ _ => SrtO.ints_sortable hi h2) fun out h1 h2 => ?_
    obtain ⟨k1, k2, k3⟩ := SrtO.ints_out hi h1 h2
    obtain ⟨ep, he'⟩ := PyProof.Rows.sortedAll_at s.heap its out.toArray
    have hlen : ((out.map SrtO.iv).map V.int).length ≤ sizeLine := by
      rw [List.length_map, k2.length_eq]
      rw [List.length_map] at hz
      exact hz
    exact ⟨.ref _, upd H (s.heap.objs.size + 1) (.lst ((out.map SrtO.iv).map V.int)), I.laid (t' := s.toks) (fun _ _ => PyProof.Rows.sortedAll_old) (Nat.le_succ _) ⟨hlen, out, ep, vals_of_ints k1, he'⟩, rfl, q _ _ k2 k3 (I.hok.fresh (Nat.le_succ _))⟩
end MnM
set_option Elab.async false
set_option linter.all false
set_option maxRecDepth 100000
set_option maxHeartbeats 4000000
namespace MnM
open PySem PySem.Spec PyProof.Rows RT
theorem nolen_rt : typeLookup (.type "reversed") "__len__" = pure none := by rw [typeLookup_type, builtinLookup_eq_fast]; kernel_rfl
theorem hint_rt : typeLookup (.type "reversed") "__length_hint__" = pure (some (.builtin "reversed.__length_hint__")) := by rw [typeLookup_type, builtinLookup_eq_fast]; kernel_rfl
theorem slot_rt_hint : Slot "reversed" "__length_hint__" "reversed.__length_hint__" :=
  .of (owner := "reversed") (n := "__length_hint__") (by rw [typeLookup_type, builtinLookup_eq_fast]; kernel_rfl) (by decide +kernel) (by decide +kernel) (by decide +kernel)
    (by first | exact .inl (by decide +kernel) | exact .inr (by decide +kernel)) (by rw [isSubtype_type]; kernel_rfl)
theorem type_rt_hint : typeOf (.builtin "reversed.__length_hint__") = pure (.type "method_descriptor") := by show builtinType _ = _; rw [builtinType_eq_fast]; kernel_rfl
theorem entry_rt_hint : entryFor table "reversed.__length_hint__" = some Builtin.«reversed.__length_hint__» := entryFor_of_tree (by kernel_rfl)
theorem args_rt_hint (a : Value) : argsOk "reversed.__length_hint__" ⟨[a], []⟩ := by
  unfold argsOk; rw [signature?_of (id := "reversed.__length_hint__") (n := "__length_hint__".toList.reverse) (o := ['d', 'e', 's', 'r', 'e', 'v', 'e', 'r']) (by kernel_rfl) owner_rt]; kernel_rfl
section
variable {prog : Program} {w : World} {A : Around} {E : Value → Shared → Prop} {s : Shared}
theorem walks_rt (hh : A.handled = none) (it t : Addr) (hne : t ≠ it) (items : Array Value) (hz : items.size ≤ sizeLine) :
    Walks prog w A it [it, t] [it] items.size (fun i v => items[items.size - 1 - i]? = some v) (fun i h => i ≤ items.size ∧ IsRt h it t ((items.size : Int) - 1 - (i : Nat)) ∧ IsTup h t items) where
  sub := fun b hb => by simp at hb; simp [hb]
  frame := fun _ _ _ st hk => ⟨st.1, st.2.1.at fun o e => hk it (by simp) o e, let ⟨o, ho, r⟩ := st.2.2; ⟨o, hk t (by simp) o ho, r⟩⟩
  item := fun i s Q E hi st hQ => by
    obtain ⟨h1, h2, h3⟩ := st
    have e1 : (items.size : Int) - 1 - ((i : Nat) : Int) = ((items.size - 1 - i : Nat) : Int) := by omega
    rw [e1] at h2
    have hx : items[items.size - 1 - i]? = some items[items.size - 1 - i] := Array.getElem?_eq_getElem (by omega)
    refine next_rt_item h2 h3 hx hz fun h' st' sb => ?_
    have e2 : ((items.size - 1 - i : Nat) : Int) - 1 = (items.size : Int) - 1 - ((i + 1 : Nat) : Int) := by omega
    rw [e2] at st'
    refine hQ _ h' _ hx ⟨by omega, st', ?_⟩ fun b o hb e => (sb.2 b (fun z => hb (by simp [z]))).trans e
    obtain ⟨o, ho, r⟩ := h3
    exact ⟨o, (sb.2 t hne).trans ho, r⟩
  done := fun s Q E st hQ => by
    obtain ⟨h1, h2, h3⟩ := st
    have e1 : (items.size : Int) - 1 - ((items.size : Nat) : Int) = -1 := by omega
    rw [e1] at h2
    exact next_rt_end hh h2 fun h' eb => hQ h' s.toks fun b o hb e => eb b o (fun z => hb (by simp [z])) e
  self := fun i s Q E st hQ => iter_rt st.2.1 hQ
/-- its own hint -/
theorem hint_rt_run {it t : Addr} {items : Array Value} {Q : Value → Shared → Prop} (hit : IsRt s.heap it t ((items.size : Int) - 1)) (ht : IsTup s.heap t items) (hz : items.size ≤ sizeLine)
    (h : ∀ tk tk', Q (.int (items.size : Int) tk) { s with toks := tk' }) : wpAny (model prog w) A (call (.builtin "reversed.__length_hint__") [.ref it]) Q E s := by
  obtain ⟨o, ho, hc, hd⟩ := id hit
  refine wpAny_call_entry slot_rt_hint ⟨o, ho, hc⟩ entry_rt_hint ?_ (args_rt_hint _)
  unfold Builtin.«reversed.__length_hint__»
  refine wpAny_bind (m := selfOnly _ _) (wpAny_pure ?_)
  refine wpAny_bind (wpAny_field ho hd (x := .ref t) rfl ?_)
  try dsimp only
  rw [if_neg (show ¬ ((Value.ref t == Value.none) = true) from fun z => absurd (show false = true from z) (by decide))]
  refine wpAny_bind (len_tuple ht (by have := sizeLine_eq; omega) ?_)
  refine wpAny_bind (wpAny_of_eq (a := some ((items.size : Nat) : Int)) rfl ?_)
  try dsimp only
  refine wpAny_bind (wpAny_field (s := { s with toks := s.toks + 1 + 1 }) ho hd (x := rawInt ((items.size : Int) - 1)) rfl ?_)
  show wpAny _ _ (if (items.size : Int) < (items.size : Int) - 1 + 1 then _ else _) _ _ _
  rw [if_neg (by omega)]
  have e : (items.size : Int) - 1 + 1 = items.size := by omega
  rw [e]
  show wpAny _ _ (mkInt _ >>= fun v => ret v) _ _ _
  refine wpAny_bind (wpAny_mkInt (wpAny_pure ⟨_, rfl, h _ _⟩))

theorem fits_of {n : Nat} (h : n ≤ sizeLine) : Builtin.List.listFitsIndex (n : Int) = true := by
  unfold Builtin.List.listFitsIndex
  have := sizeLine_eq
  simp
  omega
theorem lenHint_rt {it t : Addr} {items : Array Value} {Q : Bool → Shared → Prop} (hit : IsRt s.heap it t ((items.size : Int) - 1)) (ht : IsTup s.heap t items) (hn : items.size ≤ sizeLine)
    (h : ∀ b tk, Q b { s with toks := tk }) : wpAny (model prog w) A (Builtin.List.listLengthHint (.ref it)) Q E s := by
  have hT : s.TypeIs (.ref it) "reversed" := hit.typeIs
  unfold Builtin.List.listLengthHint
  refine wpAny_bind (wpAny_specialOf hT nolen_rt ?_)
  show wpAny _ A (specialOf (Value.ref it) (Str.ofString "__length_hint__") >>= _) _ _ _
  refine wpAny_bind (wpAny_specialOf hT hint_rt ?_)
  generalize hid : ("reversed.__length_hint__" : String) = id0
  wp_delta
  rw [show splitId id0 = some ("reversed", "__length_hint__") from by subst hid; decide +kernel]
  subst hid
  refine wpAny_bind (wpAny_isInstance (b := true) hT (by rw [isSubtype_type]; kernel_rfl) ?_)
  rw [if_neg (by decide)]
  rw [if_neg (by decide +kernel)]
  refine wpAny_bind (wpAny_rule ?_)
  have hb : bindSpecial (.builtin "reversed.__length_hint__") (.ref it) = pure (.builtin "reversed.__length_hint__", [.ref it]) := by
    unfold bindSpecial
    rw [type_rt_hint]
    rfl
  rw [hb]
  refine wpAny_bind (wpAny_pure ?_)
  refine wpAny_bind (wpAny_attempt (hint_rt_run hit ht hn fun tk tk' => ?_))
  have e1 : asInt? (.int (items.size : Int) tk) = pure (some (items.size : Int)) := rfl
  simp only [e1]
  refine wpAny_bind ?_
  refine wpAny_pure ?_
  simp only [fits_of hn, Bool.not_true, Bool.false_eq_true, if_false]
  rw [if_neg (by omega), if_neg (by rw [Int.toNat_natCast, L2.notLongL hn]; decide)]
  exact wpAny_pure (h _ _)

theorem collect_rt {it t : Addr} {items : Array Value} {Q : List Value → Shared → Prop} (hh : A.handled = none) (hit : IsRt s.heap it t ((items.size : Int) - 1)) (ht : IsTup s.heap t items) (hne : t ≠ it) (hn : items.size ≤ sizeLine)
    (hQ : ∀ (h' : Heap) (tk : Nat) (acc : Array Value), (∀ b o, b ≠ it → s.heap.get? b = some o → h'.get? b = some o) → ItemsOf (fun i v => items[items.size - 1 - i]? = some v) acc items.size → Q acc.toList { s with heap := h', toks := tk }) :
    wpAny (model prog w) A (collect (.ref it)) Q E s := by
  have W := (walks_rt (prog := prog) (w := w) (A := A.in1) hh it t hne items hn).toS
  obtain ⟨oi, hoi, _⟩ := id hit
  obtain ⟨ol, hol, _⟩ := id ht
  have hSi : s.heap.objs.size ≠ it := Nat.ne_of_gt (Heap.lt_size hoi)
  have hSl : s.heap.objs.size ≠ t := Nat.ne_of_gt (Heap.lt_size hol)
  have hSf : s.heap.objs.size ∉ [it, t] := by simp only [List.mem_cons, List.not_mem_nil, or_false, not_or]; exact ⟨hSi, hSl⟩
  unfold collect
  refine wpAny_bind (wpAny_runValue (codeAny_builtin F.entry_proto_collect ?_))
  rw [Around.under_plainId F.plain_proto_collect _]
  show wpAny _ A.in1 (newList [] >>= fun l' => again (.builtin "list.__iadd__" ⟨[l', .ref it], []⟩)) _ _ s
  refine wpAny_bind (wpAny_newObj_type ?_)
  refine wpAny_pure ⟨plainId_quiet F.plain_list_iadd _, codeAny_builtin F.entry_list_iadd ?_⟩
  rw [Around.under_plainId F.plain_list_iadd _]
  have hS₁ : (s.heap.push { cls := .type "list", data := .seq ([] : List Value).toArray }).get? s.heap.objs.size = some { cls := .type "list", data := .seq ([] : List Value).toArray } := Heap.get?_push_size _ rfl
  have hit1 : IsRt (s.heap.push { cls := .type "list", data := .seq ([] : List Value).toArray }) it t ((items.size : Int) - 1) := hit.at fun o e => Heap.get?_push_of_some _ e
  have ht1 : IsTup (s.heap.push { cls := .type "list", data := .seq ([] : List Value).toArray }) t items := ht.push _
  have hT : ({ s with heap := s.heap.push { cls := .type "list", data := .seq ([] : List Value).toArray } } : Shared).TypeIs (.ref it) "reversed" := IsRt.typeIs (s := { s with heap := s.heap.push { cls := .type "list", data := .seq ([] : List Value).toArray } }) hit1
  have h1 : Builtin.List.listSameRef (.ref s.heap.objs.size) (.ref it) = false := by simp [Builtin.List.listSameRef, hSi]
  show wpAny _ A.in1 (Builtin.List.listExtendWith (.ref s.heap.objs.size) (.ref it) (.ref s.heap.objs.size)) _ _ _
  unfold Builtin.List.listExtendWith
  refine wpAny_bind (wpAny_typeOf hT ?_)
  rw [if_neg (by rw [h1]; decide)]
  refine wpAny_bind (iter_rt (s := { s with heap := s.heap.push { cls := .type "list", data := .seq ([] : List Value).toArray } }) hit1 ?_)
  refine wpAny_bind (wpAny_holding ?_)
  refine lenHint_rt (s := { s with heap := s.heap.push { cls := .type "list", data := .seq ([] : List Value).toArray } }) hit1 ht1 hn fun b tk => ?_
  have e0 : ((items.size : Nat) : Int) - 1 - ((0 : Nat) : Int) = (items.size : Int) - 1 := by omega
  -- the loop, from a list that is empty
  have loop : ∀ (h1 : Heap) (c : Nat), (∀ a o, s.heap.get? a = some o → h1.get? a = some o) → h1.get? s.heap.objs.size = some { cls := .type "list", dict := none, data := .seq #[] c, slots := #[] } →
      codeAny (model prog w) A (.builtin "list.extend.loop" ⟨[.ref s.heap.objs.size, .ref it, .ref s.heap.objs.size], []⟩) (fun r s' =>
              match r with
              | Except.ok (Flow.ret v) =>
                wpAny (model prog w) A
                  (match v with
                  | Value.ref a => do
                    let __do_lift ← load a
                    match __do_lift.data with
                      | Data.seq xs epoch => pure xs.toList
                      | x => unsupported "internal:collect"
                  | x => unsupported "internal:collect")
                  Q E s'
              | Except.ok a => False
              | Except.error e => E e s') { s with heap := h1, toks := tk } := by
    intro h1 c k hS
    refine codeAny_extend_loopS W hn _ hSf _ items.size 0 { s with heap := h1, toks := tk } #[] c rfl (Nat.zero_le _) (show 0 ≤ items.size ∧ IsRt h1 it t ((items.size : Int) - 1 - ((0 : Nat) : Int)) ∧ IsTup h1 t items from ⟨Nat.zero_le _, by rw [e0]; exact hit.at fun o e => k _ _ e, let ⟨o, ho, r⟩ := ht; ⟨o, k _ _ ho, r⟩⟩) hS (ItemsOf.nil _) fun s' acc' c' hm hS' hacc => ?_
    show wpAny _ A (load s.heap.objs.size >>= _) _ _ s'
    refine wpAny_bind (wpAny_load hS' ?_)
    refine wpAny_pure ?_
    rw [Moved.eq_with hm]
    refine hQ s'.heap s'.toks acc' (fun b o hb e => hm.heap b o (fun hmem => ?_) (k _ _ e)) hacc
    rcases List.mem_cons.mp hmem with e' | hmem
    · exact absurd (Heap.lt_size e) (by rw [e']; exact Nat.lt_irrefl _)
    · exact hb (List.mem_singleton.mp hmem)
  have k1 : ∀ a o, s.heap.get? a = some o → (s.heap.push { cls := .type "list", data := .seq ([] : List Value).toArray }).get? a = some o := fun a o e => Heap.get?_push_of_some _ e
  refine wpAny_ite ?_
  split
  · refine wpAny_bind (wpAny_rule ?_)
    refine wpAny_bind ?_
    unfold Builtin.List.listTouch
    refine wpAny_bind (listUpdate_at (s := { s with heap := s.heap.push { cls := .type "list", data := .seq ([] : List Value).toArray }, toks := tk }) (xs := #[]) (n := 0) hS₁ rfl ?_ (Nat.zero_le _) (by show (#[Value.none] : Array Value).size ≤ sizeLine + 1; simp))
    have hS2 := get?_update_seq hS₁ (·.push Value.none)
    refine listUpdate_at (s := { s with heap := (s.heap.push { cls := .type "list", data := .seq ([] : List Value).toArray }).update s.heap.objs.size (Obj.mapSeq (·.push .none)), toks := tk }) hS2 rfl ?_ (by show (#[Value.none] : Array Value).size ≤ sizeLine; rw [sizeLine_eq]; decide) (Nat.zero_le _)
    have hS3 := get?_update_seq hS2 (·.pop)
    refine wpAny_pure ⟨plainId_quiet F.plain_extend_loop _, loop _ _ (fun a o e => ?_) hS3⟩
    have hlt : a < s.heap.objs.size := Heap.lt_size e
    rw [Heap.get?_update_ne _ _ _ _ (Nat.ne_of_lt hlt), Heap.get?_update_ne _ _ _ _ (Nat.ne_of_lt hlt)]
    exact k1 a o e
  · exact wpAny_pure ⟨plainId_quiet F.plain_extend_loop _, loop _ _ k1 hS₁⟩

theorem code_tuple_new_rt {it l : Addr} {items : Array Value} {Q₁ : Value → Shared → Prop} (hh : A.handled = none) (hit : IsRt s.heap it l ((items.size : Int) - 1)) (hl : IsTup s.heap l items) (hne : l ≠ it) (hn : items.size ≤ sizeLine)
    (h : ∀ (h' : Heap) (tk : Nat) (acc : Array Value), (∀ b o, b ≠ it → s.heap.get? b = some o → h'.get? b = some o) → ItemsOf (fun i v => items[items.size - 1 - i]? = some v) acc items.size →
      Q₁ (.ref h'.objs.size) { s with heap := h'.push { cls := .type "tuple", data := .seq acc }, toks := tk }) :
    codeAny (model prog w) A (.call (.builtin "tuple.__new__") ⟨[.type "tuple", .ref it], []⟩) (wants Q₁ E) s := by
  refine codeAny_of_tree ?_
  show wpAny _ A.in1 (do checkBuiltinCall "tuple.__new__" ⟨[.type "tuple", .ref it], []⟩; again (.builtin "tuple.__new__" ⟨[.type "tuple", .ref it], []⟩)) _ _ s
  refine wpAny_bind (wpAny_of_eq (F.newCall_tuple_1 _) (wpAny_pure ⟨plainId_quiet F.plain_tuple_new _, codeAny_builtin F.entry_tuple_new ?_⟩))
  rw [Around.under_plainId F.plain_tuple_new _]
  have hsub := sub_tuple_self
  have hinit := init_tuple_lookup
  have hmh := madeHere_tuple
  have hTI : s.TypeIs (.ref it) "reversed" := hit.typeIs
  have hh1 : A.in1.handled = none := hh
  wp_walk using wpAny_typeOf hTI, collect_rt (A := A.in1) hh1 hit hl hne hn
  intro h' tk acc hk hacc
  show wpAny _ _ (Builtin.Tuple.tupleExact acc.toList.toArray >>= fun v => ret v) _ _ _
  unfold Builtin.Tuple.tupleExact
  refine wpAny_bind (wpAny_newObj_type ?_ (by show acc.toList.toArray.size ≤ sizeLine; simp only [Array.toArray_toList]; rw [hacc.1]; exact hn))
  refine wpAny_pure ?_
  have e : acc.toList.toArray = acc := by simp
  rw [e]
  exact h h' tk acc hk hacc
theorem call_tuple_rt {it l : Addr} {items : Array Value} {Q : Value → Shared → Prop} (hh : A.handled = none) (hit : IsRt s.heap it l ((items.size : Int) - 1)) (hl : IsTup s.heap l items) (hne : l ≠ it) (hn : items.size ≤ sizeLine)
    (hQ : ∀ (h' : Heap) (tk : Nat) (acc : Array Value), (∀ b o, b ≠ it → s.heap.get? b = some o → h'.get? b = some o) → ItemsOf (fun i v => items[items.size - 1 - i]? = some v) acc items.size →
      Q (.ref h'.objs.size) { s with heap := h'.push { cls := .type "tuple", data := .seq acc }, toks := tk }) :
    wpAny (model prog w) A (call (.type "tuple") [.ref it]) Q E s := by
  refine callType_codes (Q₁ := fun obj s₁ => s₁.TypeIs obj "tuple" ∧ Q obj s₁) F.called_tuple (F.typeCall_tuple_1 _) F.entry_object_init
    (code_tuple_new_rt (A := A.in1) hh hit hl hne hn fun h' tk acc hk hacc => ⟨⟨_, Heap.get?_push_size _ rfl, rfl⟩, hQ h' tk acc hk hacc⟩) fun obj s₁ h₁ => ?_
  exact ⟨h₁.1, F.args_object_init_2 obj _, object_init_meets F.called_tuple.init.lookup F.called_tuple.made (by decide) prog w A.in1 _ s₁ ⟨h₁.1, rfl, h₁.2⟩⟩
end
open L2
/-- tuple(reversed(x)), x a list or a tuple: a new tuple -/
def tTupRevA (K : PySem.W.Frag) (te : TE) : TE := fun σ H Q => te σ H fun v H1 => ∃ (a : Addr) (xs : List V), v = .ref a ∧ (SqL K H1 a xs ∨ SqT K H1 a xs) ∧ ∀ q, H1 q = none → Q (.ref q) (upd H1 q (.tup xs.reverse))
theorem pe_tupRevA {X : Cx} {e : Expr} {te : TE} {p p2 pos pos2 : Pos} (hc : X.calm = true) (hg : Gl X "tuple") (hm : X.mg "tuple" = none) (hg2 : Gl X "reversed") (hm2 : X.mg "reversed" = none) (he : PE X e te)
    (hs : starEach [e] X.env = (false, eval e X.env) :: starEach [] X.env := by rfl)
    (hs2 : starEach [.Call (.Name "reversed" p2) [e] [] pos2] X.env = (false, eval (.Call (.Name "reversed" p2) [e] [] pos2) X.env) :: starEach [] X.env := by rfl) :
    PE X (.Call (.Name "tuple" p) [.Call (.Name "reversed" p2) [e] [] pos2] [] pos) (tTupRevA X.K te) := by
  refine ⟨fun pins s σ H Q I h => ?_⟩
  refine Call_ (ld_blt I hg hm boot_tuple (PyProof.Rows.callWith_type1 (args_cons (Call_ (ld_blt I hg2 hm2 PyProof.Rows.boot_reversed (PyProof.Rows.callWith_type1 (args_cons (thn (he.run pins s σ H _ I h) fun u s1 ⟨v, H1, I1, r1, q1⟩ => args_nil ?_) hs) hs rfl))) hs2) hs2 rfl))
  obtain ⟨a, xs, ev, hq, q⟩ := q1
  subst ev
  obtain rfl : u = Value.ref a := r1
  rcases hq with hq | hq
  · obtain ⟨its, rv, p', hz⟩ := I1.list hq
    refine call_reversed_list p'.isList (args_nil ?_)
    have k0 : ∀ b o, s1.heap.get? b = some o → (s1.heap.push (revObj a ((its.toArray.size : Int) - 1))).get? b = some o := fun b o e => Heap.get?_push_of_some _ e
    have I2 : Inv X pins σ H1 { s1 with heap := s1.heap.push (revObj a ((its.toArray.size : Int) - 1)) } := I1.kept (t' := s1.toks) k0
    obtain ⟨f0, f1, f2, f3, f4, f5⟩ := I1.fpOk (H' := H1) (b := s1.heap.objs.size) (Nat.le_refl _) (I1.hok.fresh (Nat.le_refl _))
    have hl := p'.isList
    obtain ⟨ol, hol, _⟩ := id hl
    have hne : a ≠ s1.heap.objs.size := Nat.ne_of_lt (Heap.lt_size hol)
    have hn : its.toArray.size ≤ sizeLine := by rw [List.size_toArray, ← rv.length]; exact hz
    refine call_tuple_rev (s := { s1 with heap := s1.heap.push (revObj a ((its.toArray.size : Int) - 1)) }) (I1.ok.hd hc) ⟨_, Heap.get?_push_size _ rfl, rfl, rfl⟩ (hl.push _) hne hn fun h' tk acc hk hi => ?_
    have I3 : Inv X pins σ H1 { s1 with heap := h', toks := tk } := I2.turned (t' := tk) (fun b o hb e => hk b o hb e) f0 f1 f3 f4 f5
    refine ⟨.ref h'.objs.size, upd H1 h'.objs.size (.tup xs.reverse), I3.laid (t' := tk) (fun c o e => Heap.get?_push_of_some _ e) (Nat.le_refl _) (show ObjOk X.prog X.w _ _ _ (.tup xs.reverse) from ⟨by rw [List.length_reverse]; exact hz, acc.toList, vals_rev rv hi, ?_⟩), rfl, q _ (I3.hok.fresh (Nat.le_refl _))⟩
    rw [Array.toArray_toList]
    exact IsTup.new _ _
  · obtain ⟨its, rv, p', hz⟩ := I1.tuple hq
    have hn : its.toArray.size ≤ sizeLine := by rw [List.size_toArray, ← rv.length]; exact hz
    refine call_reversed_tup p' (fun A E Q q => len_tuple p' (by have := sizeLine_eq; omega) q) (args_nil ?_)
    have k0 : ∀ b o, s1.heap.get? b = some o → (s1.heap.push (rtObj a ((its.toArray.size : Int) - 1))).get? b = some o := fun b o e => Heap.get?_push_of_some _ e
    have I2 : Inv X pins σ H1 { s1 with heap := s1.heap.push (rtObj a ((its.toArray.size : Int) - 1)), toks := s1.toks + 1 + 1 } := I1.kept (t' := s1.toks + 1 + 1) k0
    obtain ⟨f0, f1, f2, f3, f4, f5⟩ := I1.fpOk (H' := H1) (b := s1.heap.objs.size) (Nat.le_refl _) (I1.hok.fresh (Nat.le_refl _))
    obtain ⟨ol, hol, _⟩ := id p'
    have hne : a ≠ s1.heap.objs.size := Nat.ne_of_lt (Heap.lt_size hol)
    refine call_tuple_rt (s := { s1 with heap := s1.heap.push (rtObj a ((its.toArray.size : Int) - 1)), toks := s1.toks + 1 + 1 }) (I1.ok.hd hc) ⟨_, Heap.get?_push_size _ rfl, rfl, rfl⟩ (p'.push _) hne hn fun h' tk acc hk hi => ?_
    have I3 : Inv X pins σ H1 { s1 with heap := h', toks := tk } := I2.turned (t' := tk) (fun b o hb e => hk b o hb e) f0 f1 f3 f4 f5
    refine ⟨.ref h'.objs.size, upd H1 h'.objs.size (.tup xs.reverse), I3.laid (t' := tk) (fun c o e => Heap.get?_push_of_some _ e) (Nat.le_refl _) (show ObjOk X.prog X.w _ _ _ (.tup xs.reverse) from ⟨by rw [List.length_reverse]; exact hz, acc.toList, vals_rev rv hi, ?_⟩), rfl, q _ (I3.hok.fresh (Nat.le_refl _))⟩
    rw [Array.toArray_toList]
    exact IsTup.new _ _
end MnM
set_option Elab.async false
set_option linter.all false
set_option maxRecDepth 100000
set_option maxHeartbeats 4000000
/-! Mn, part 6: operations, by values. -/
namespace Mn
open PySem L2
section
variable (K : PySem.W.Frag) (G : Nat → Option Addr)
def Pr2 (p : P) (r : R2) : Prop := ∀ (x y : D) (w : W) (F H : Hp) (vx vy : V) (Q : VK), p.ev [x, y] = some w → Ex F H → Pk K G F H x vx → Pk K G F H y vy → (∀ v H', PostW K G F H w v H' → Q v H') → r vx vy H Q
def Pr1 (p : P) (r : V → Hp → VK → Prop) : Prop := ∀ (x : D) (w : W) (F H : Hp) (vx : V) (Q : VK), p.ev [x] = some w → Ex F H → Pk K G F H x vx → (∀ v H', PostW K G F H w v H' → Q v H') → r vx H Q
end
theorem szOk_le {n : Nat} (h : szOk n = true) : n ≤ sizeLine := by
  rw [sizeLine_eq]
  exact of_decide_eq_true h
section
variable {K : PySem.W.Frag} {G : Nat → Option Addr}
def rAddA (K : PySem.W.Frag) : R2 := fun x y H Q => rI0 (fun i j => .int (i + j)) x y H Q ∨ (rCatA K x y H Q ∨ rCat x y H Q)
theorem op_addA {X : Cx} : OpR X (binaryOp .Add) (rAddA X.K) := op_add.or (op_catA.or op_cat)
theorem pr_add : Pr2 K G .add (rAddA K) := by
  intro x y w F H vx vy Q h ex hx hy k
  cases x <;> cases y <;> first | (cases h; done) | skip
  · cases h
    exact .inl ⟨_, _, hx.int, hy.int, k _ _ (PostW.int ex)⟩
  · rename_i a b
    have h : (if szOk (a.length + b.length) then some (W.val (.tup (a ++ b))) else none) = some w := h
    by_cases q : szOk (a.length + b.length) = true
    · rw [if_pos q] at h
      cases h
      obtain ⟨p, vs, rfl, e1, r1⟩ := hx.tup
      obtain ⟨p2, us, rfl, e2, r2⟩ := hy.tup
      refine .inr (.inl ⟨p, p2, vs, us, rfl, rfl, ex.sqT e1, ex.sqT e2, by rw [r1.length, r2.length]; exact szOk_le q, fun z => ?_, fun _ z => ?_, fun _ _ p3 h3 => ?_⟩)
      · subst z
        have : a = [] := List.length_eq_zero_iff.mp r1.length.symm
        subst this
        exact k _ _ (PostW.same ex (by unfold Rp; exact ⟨p2, us, rfl, e2, r2⟩))
      · subst z
        have : b = [] := List.length_eq_zero_iff.mp r2.length.symm
        subst this
        rw [List.append_nil] at k
        exact k _ _ (PostW.same ex (by unfold Rp; exact ⟨p, vs, rfl, e1, r1⟩))
      · exact k _ _ (PostW.tup ex h3 (r1.append r2))
    · rw [if_neg q] at h
      cases h
  · rename_i a b
    have h : (if szOk (a.length + b.length) then some (W.lst (a ++ b)) else none) = some w := h
    by_cases q : szOk (a.length + b.length) = true
    · rw [if_pos q] at h
      cases h
      obtain ⟨p, vs, rfl, e1, r1⟩ := hx.lst ex
      obtain ⟨p2, us, rfl, e2, r2⟩ := hy.lst ex
      exact .inr (.inr ⟨p, p2, vs, us, rfl, rfl, e1, e2, by rw [r1.length, r2.length]; exact szOk_le q, fun p3 h3 => k _ _ (PostW.lst ex h3 (r1.append r2))⟩)
    · rw [if_neg q] at h
      cases h
theorem pr_sub : Pr2 K G .sub (rI0 fun i j => .int (i - j)) := by
  intro x y w F H vx vy Q h ex hx hy k
  cases x <;> cases y <;> first | (cases h; done) | skip
  cases h
  exact ⟨_, _, hx.int, hy.int, k _ _ (PostW.int ex)⟩
theorem rngOk_ok {a : Int} (h : rngOk a = true) : -(2 ^ 62) ≤ a ∧ a < 2 ^ 62 := by
  have h := of_decide_eq_true h
  constructor <;> omega
theorem Rps.rep {F : Hp} {ds : List D} {vs : List V} (r : Rps K G F ds vs) : ∀ n : Nat, Rps K G F (List.replicate n ds).flatten (List.replicate n vs).flatten
  | 0 => Rps.nil
  | n + 1 => by
    rw [List.replicate_succ, List.replicate_succ, List.flatten_cons, List.flatten_cons]
    exact r.append (Rps.rep r n)
def rMulA : R2 := fun x y H Q => rI CMul (fun i j => .int (i * j)) x y H Q ∨ rRep x y H Q
theorem op_mulA {X : Cx} : OpR X (binaryOp .Mult) rMulA := op_mul.or op_rep
theorem pr_mul : Pr2 K G .mul rMulA := by
  intro x y w F H vx vy Q h ex hx hy k
  cases x <;> cases y <;> first | (cases h; done) | skip
  · rename_i i j
    have h : (if mulOk i j then some (W.val (.int (i * j))) else none) = some w := h
    by_cases q : mulOk i j = true
    · rw [if_pos q] at h
      cases h
      refine .inl ⟨_, _, hx.int, hy.int, ?_, k _ _ (PostW.int ex)⟩
      unfold mulOk at q
      rw [Bool.or_eq_true, decide_eq_true_eq, decide_eq_true_eq] at q
      unfold pw64 at q
      rcases q with q | q
      · exact .inl ⟨by omega, by omega⟩
      · exact .inr ⟨by omega, by omega⟩
    · rw [if_neg q] at h
      cases h
  · rename_i a j
    have h : (if rngOk j && szOk (a.length * j.toNat) then some (W.lst (List.replicate j.toNat a).flatten) else none) = some w := h
    by_cases q : (rngOk j && szOk (a.length * j.toNat)) = true
    · rw [if_pos q] at h
      cases h
      rw [Bool.and_eq_true] at q
      obtain ⟨p, vs, rfl, e1, r1⟩ := hx.lst ex
      have b := rngOk_ok q.1
      exact .inr ⟨p, j, vs, rfl, hy.int, e1, by omega, by omega, by rw [r1.length]; exact szOk_le q.2, fun p3 h3 => k _ _ (PostW.lst ex h3 (r1.rep _))⟩
    · rw [if_neg q] at h
      cases h
theorem pr_fdiv : Pr2 K G .fdiv (rI CDivN fun i j => .int (i.fdiv j)) := by
  intro x y w F H vx vy Q h ex hx hy k
  cases x <;> cases y <;> first | (cases h; done) | skip
  rename_i i j
  have h : (if j ≠ 0 ∧ j.natAbs < 1073741824 then some (W.val (.int (i.fdiv j))) else none) = some w := h
  by_cases q : j ≠ 0 ∧ j.natAbs < 1073741824
  · rw [if_pos q] at h
    cases h
    exact ⟨_, _, hx.int, hy.int, q, k _ _ (PostW.int ex)⟩
  · rw [if_neg q] at h
    cases h
theorem pr_mod : Pr2 K G .mod (rI (fun _ j => j ≠ 0) fun i j => .int (i.fmod j)) := by
  intro x y w F H vx vy Q h ex hx hy k
  cases x <;> cases y <;> first | (cases h; done) | skip
  rename_i i j
  have h : (if j ≠ 0 then some (W.val (.int (i.fmod j))) else none) = some w := h
  by_cases q : j ≠ 0
  · rw [if_pos q] at h
    cases h
    exact ⟨_, _, hx.int, hy.int, q, k _ _ (PostW.int ex)⟩
  · rw [if_neg q] at h
    cases h
theorem pr_pow : Pr2 K G .pow (rI CPow fun i j => .int (i ^ j.toNat)) := by
  intro x y w F H vx vy Q h ex hx hy k
  cases x <;> cases y <;> first | (cases h; done) | skip
  rename_i i j
  have h : (if 0 ≤ j ∧ j.natAbs ≤ 1000000 ∧ i.natAbs < pw64 then some (W.val (.int (i ^ j.toNat))) else none) = some w := h
  by_cases q : 0 ≤ j ∧ j.natAbs ≤ 1000000 ∧ i.natAbs < pw64
  · rw [if_pos q] at h
    cases h
    refine ⟨_, _, hx.int, hy.int, ⟨q.1, by have := q.2.1; omega, ?_⟩, k _ _ (PostW.int ex)⟩
    have := q.2.2
    unfold pw64 at this
    omega
  · rw [if_neg q] at h
    cases h

/-! ### comparisons -/
mutual
theorem Rp.dp {F : Hp} : ∀ (d : D) (v : V), SeqAt.shaped d.py = true ∨ d.py.canLay0 = true → Rp K G F d v → Dp K F v d.py
  | .non, v, _, h => by
    unfold Rp at h
    rw [h]
    exact .non
  | .bl b, v, _, h => by
    unfold Rp at h
    rw [h]
    exact .bl b
  | .int b, v, _, h => by
    unfold Rp at h
    rw [h]
    exact .int b
  | .str b, v, _, h => by
    unfold Rp at h
    rw [h]
    exact .str b
  | .tup ds, v, c, h => by
    unfold Rp at h
    obtain ⟨a, vs, rfl, q, r⟩ := h
    exact .tup q (Rps.dps ds vs (by
      rcases c with c | c
      · exact SeqAt.canLay_of_shaped c
      · exact c) r)
  | .lst ds, v, c, h => by
    unfold Rp at h
    obtain ⟨a, vs, rfl, q, r⟩ := h
    exact .lst (SqL.of q) (Rps.dps ds vs (by
      rcases c with c | c
      · exact SeqAt.canLay_of_shaped c
      · exact c) r)
  | .dic ks ds, v, c, h => by
    rcases c with c | c
    · exact absurd (show false = true from SeqAt.canLay_of_shaped c) (by decide)
    · cases c
  | .scr ds, v, c, h => by
    rcases c with c | c
    · exact absurd (show false = true from SeqAt.canLay_of_shaped c) (by decide)
    · cases c
  | .glob g, v, c, h => by
    rcases c with c | c
    · exact absurd (show false = true from SeqAt.canLay_of_shaped c) (by decide)
    · cases c
theorem Rps.dps {F : Hp} : ∀ (ds : List D) (vs : List V), PyData.canLayAll0 (D.pys ds) = true → Rps K G F ds vs → DpAll K F vs (D.pys ds)
  | [], vs, _, h => by
    rw [Rps.nil_iff.mp h]
    exact .nil
  | d :: ds, vs, c, h => by
    obtain ⟨v, r, rfl, h1, t⟩ := Rps.cons_iff.mp h
    have c' : (PyData.canLay0 d.py && PyData.canLayAll0 (D.pys ds)) = true := c
    rw [Bool.and_eq_true] at c'
    exact .cons (Rp.dp d v (.inr c'.1) h1) (Rps.dps ds r c'.2 t)
end
theorem cmpEq_ok {d e : D} {k : Bool} (h : cmpEq d e = some k) : SeqAt.shaped d.py = true ∧ SeqAt.shaped e.py = true ∧ PyData.eqv d.py e.py = k := by
  unfold cmpEq at h
  by_cases q : (SeqAt.shaped d.py && SeqAt.shaped e.py) = true
  · rw [if_pos q] at h
    cases h
    rw [Bool.and_eq_true] at q
    exact ⟨q.1, q.2, rfl⟩
  · rw [if_neg q] at h
    cases h
theorem pr_eq : Pr2 K G .eq (rEqD K) := by
  intro x y w F H vx vy Q h ex hx hy k
  have h : (cmpEq x y).map (fun k => W.val (.bl k)) = some w := h
  obtain ⟨b, h1, rfl⟩ := Option.map_eq_some_iff.mp h
  obtain ⟨c1, c2, rfl⟩ := cmpEq_ok h1
  exact ⟨x.py, y.py, Rp.dp x vx (.inl c1) (hx.rp ex), Rp.dp y vy (.inl c2) (hy.rp ex), c1, c2, k _ _ (PostW.bl ex)⟩
theorem pr_ne : Pr2 K G .ne (rNeD K) := by
  intro x y w F H vx vy Q h ex hx hy k
  have h : (cmpEq x y).map (fun k => W.val (.bl !k)) = some w := h
  obtain ⟨b, h1, rfl⟩ := Option.map_eq_some_iff.mp h
  obtain ⟨c1, c2, rfl⟩ := cmpEq_ok h1
  exact ⟨x.py, y.py, Rp.dp x vx (.inl c1) (hx.rp ex), Rp.dp y vy (.inl c2) (hy.rp ex), c1, c2, k _ _ (PostW.bl ex)⟩
theorem pr_lt : Pr2 K G .lt (rI0 fun i j => .bl (decide (i < j))) := by
  intro x y w F H vx vy Q h ex hx hy k
  cases x <;> cases y <;> first | (cases h; done) | skip
  cases h
  exact ⟨_, _, hx.int, hy.int, k _ _ (PostW.bl ex)⟩
theorem pr_le : Pr2 K G .le (rI0 fun i j => .bl (decide (i ≤ j))) := by
  intro x y w F H vx vy Q h ex hx hy k
  cases x <;> cases y <;> first | (cases h; done) | skip
  cases h
  exact ⟨_, _, hx.int, hy.int, k _ _ (PostW.bl ex)⟩
theorem pr_gt : Pr2 K G .gt (rI0 fun i j => .bl (decide (j < i))) := by
  intro x y w F H vx vy Q h ex hx hy k
  cases x <;> cases y <;> first | (cases h; done) | skip
  cases h
  exact ⟨_, _, hx.int, hy.int, k _ _ (PostW.bl ex)⟩
theorem pr_ge : Pr2 K G .ge (rI0 fun i j => .bl (decide (j ≤ i))) := by
  intro x y w F H vx vy Q h ex hx hy k
  cases x <;> cases y <;> first | (cases h; done) | skip
  cases h
  exact ⟨_, _, hx.int, hy.int, k _ _ (PostW.bl ex)⟩
def rIsA : R2 := fun x y H Q => rIsB x y H Q ∨ (y = .non ∧ Q (.bl (decide (x = .non))) H)
theorem op_isA {X : Cx} : OpR X (compareOp .Is) rIsA := op_isBl.or op_isN
def rNotA : R2 := fun x y H Q => rNotB x y H Q ∨ (y = .non ∧ Q (.bl (!decide (x = .non))) H)
theorem op_notA {X : Cx} : OpR X (compareOp .IsNot) rNotA := op_notBl.or op_notN
theorem Rp.not_non {F : Hp} {d : D} {v : V} (h : Rp K G F d v) (n : d ≠ .non) : v ≠ .non := by
  intro e
  subst e
  cases d with
  | non => exact n rfl
  | _ => first
    | (unfold Rp at h; cases h; done)
    | (unfold Rp at h; obtain ⟨_, _, e, _⟩ := h; cases e)
    | (unfold Rp at h; obtain ⟨_, e, _⟩ := h; cases e)
theorem pr_is : Pr2 K G .is_ rIsA := by
  intro x y w F H vx vy Q h ex hx hy k
  have key : ∀ {b : Bool}, y = .non → w = .val (.bl b) → decide (vx = .non) = b → rIsA vx vy H Q := fun {b} e1 e2 e3 => by
    subst e1 e2
    refine .inr ⟨hy.non, ?_⟩
    rw [e3]
    exact k _ _ (PostW.bl ex)
  have nn : x ≠ .non → decide (vx = .non) = false := fun n => decide_eq_false ((hx.rp ex).not_non n)
  cases x <;> cases y <;> first
    | (cases h; done)
    | (cases h; exact key rfl rfl (by rw [hx.non]; rfl))
    | (cases h; exact key rfl rfl (nn fun z => nomatch z))
    | (cases h; exact .inl ⟨_, _, hx.bl, hy.bl, k _ _ (PostW.bl ex)⟩)
theorem pr_isn : Pr2 K G .isn rNotA := by
  intro x y w F H vx vy Q h ex hx hy k
  have key : ∀ {b : Bool}, y = .non → w = .val (.bl !b) → decide (vx = .non) = b → rNotA vx vy H Q := fun {b} e1 e2 e3 => by
    subst e1 e2
    refine .inr ⟨hy.non, ?_⟩
    rw [e3]
    exact k _ _ (PostW.bl ex)
  have nn : x ≠ .non → decide (vx = .non) = false := fun n => decide_eq_false ((hx.rp ex).not_non n)
  cases x <;> cases y <;> first
    | (cases h; done)
    | (cases h; exact key (b := true) rfl rfl (by rw [hx.non]; rfl))
    | (cases h; exact key (b := false) rfl rfl (nn fun z => nomatch z))
    | (cases h; exact .inl ⟨_, _, hx.bl, hy.bl, k _ _ (PostW.bl ex)⟩)
/-- flat things -/
theorem Rp.flat {F : Hp} {d : D} {v : V} (h : Rp K G F d v) (f : d.flat = true) : flatV v = true := by
  cases d with
  | non => unfold Rp at h; subst h; rfl
  | bl _ => unfold Rp at h; subst h; rfl
  | int _ => unfold Rp at h; subst h; rfl
  | str _ => unfold Rp at h; subst h; rfl
  | _ => cases f
theorem Rp.eqv {F : Hp} {d e : D} {v u : V} (h : Rp K G F d v) (h' : Rp K G F e u) (f : d.flat = true) (f' : e.flat = true) : eqV v u = PyData.eqv d.py e.py := by
  cases d <;> first | (cases f; done) | skip
  all_goals cases e <;> first | (cases f'; done) | skip
  all_goals (unfold Rp at h h'; subst h h')
  all_goals first
    | rfl
    | (unfold eqV; unfold D.py; unfold PyData.eqv; rfl)
    | (simp [eqV, D.py, PyData.eqv, b2i]; done)
    | skip
theorem Rps.inV {F : Hp} {x : D} {vx : V} (hx : Rp K G F x vx) (fx : x.flat = true) : ∀ {ds : List D} {vs : List V}, Rps K G F ds vs → ds.all D.flat = true → vs.all flatV = true ∧ L2.inV vx vs = ds.any fun d => PyData.eqv d.py x.py
  | [], vs, r, _ => by
    rw [Rps.nil_iff.mp r]
    exact ⟨rfl, rfl⟩
  | d :: ds, vs, r, f => by
    obtain ⟨v, t, rfl, r1, r2⟩ := Rps.cons_iff.mp r
    rw [List.all_cons, Bool.and_eq_true] at f
    obtain ⟨h1, h2⟩ := Rps.inV hx fx r2 f.2
    refine ⟨by rw [List.all_cons, r1.flat f.1, h1]; rfl, ?_⟩
    unfold L2.inV at h2 ⊢
    rw [List.any_cons, List.any_cons, h2, r1.eqv hx f.1 fx]
theorem inFlat_ok {x : D} {ds : List D} {k : Bool} (h : inFlat x ds = some k) : x.flat = true ∧ ds.all D.flat = true ∧ (ds.any fun d => PyData.eqv d.py x.py) = k := by
  unfold inFlat at h
  by_cases q : (x.flat && ds.all D.flat) = true
  · rw [if_pos q] at h
    cases h
    rw [Bool.and_eq_true] at q
    exact ⟨q.1, q.2, rfl⟩
  · rw [if_neg q] at h
    cases h
theorem in_core {x y : D} {F H : Hp} {vx vy : V} {ds : List D} {b : Bool} (ex : Ex F H) (hx : Pk K G F H x vx) (hy : Pk K G F H y vy) (e : y = .tup ds ∨ y = .lst ds) (h : inFlat x ds = some b) :
    ∃ p xs, vy = .ref p ∧ (SqL K H p xs ∨ SqT K H p xs) ∧ flatV vx = true ∧ xs.all flatV = true ∧ L2.inV vx xs = b := by
  obtain ⟨f1, f2, f3⟩ := inFlat_ok h
  have rx := hx.rp ex
  rcases e with rfl | rfl
  · obtain ⟨p, vs, rfl, q, r⟩ := hy.tup
    obtain ⟨h1, h2⟩ := Rps.inV rx f1 (Rps.mono ex _ _ r) f2
    exact ⟨p, vs, rfl, .inr (ex.sqT q), rx.flat f1, h1, h2.trans f3⟩
  · obtain ⟨p, vs, rfl, q, r⟩ := hy.lst ex
    obtain ⟨h1, h2⟩ := Rps.inV rx f1 (Rps.mono ex _ _ r) f2
    exact ⟨p, vs, rfl, .inl (SqL.of q), rx.flat f1, h1, h2.trans f3⟩
theorem pr_in : Pr2 K G .in_ (rIn K false) := by
  intro x y w F H vx vy Q h ex hx hy k
  have key : ∀ ds, (y = .tup ds ∨ y = .lst ds) → (inFlat x ds).map (fun k => W.val (.bl k)) = some w → rIn K false vx vy H Q := fun ds e h => by
    obtain ⟨b, h1, rfl⟩ := Option.map_eq_some_iff.mp h
    obtain ⟨p, xs, e1, q, f1, f2, e2⟩ := in_core ex hx hy e h1
    refine ⟨p, xs, e1, q, f1, f2, ?_⟩
    show Q (.bl (if false = true then !L2.inV vx xs else L2.inV vx xs)) H
    rw [if_neg Bool.false_ne_true, e2]
    exact k _ _ (PostW.bl ex)
  cases y with
  | tup ds => exact key ds (.inl rfl) h
  | lst ds => exact key ds (.inr rfl) h
  | _ => cases h
theorem pr_nin : Pr2 K G .nin (rIn K true) := by
  intro x y w F H vx vy Q h ex hx hy k
  have key : ∀ ds, (y = .tup ds ∨ y = .lst ds) → (inFlat x ds).map (fun k => W.val (.bl !k)) = some w → rIn K true vx vy H Q := fun ds e h => by
    obtain ⟨b, h1, rfl⟩ := Option.map_eq_some_iff.mp h
    obtain ⟨p, xs, e1, q, f1, f2, e2⟩ := in_core ex hx hy e h1
    refine ⟨p, xs, e1, q, f1, f2, ?_⟩
    show Q (.bl (if true = true then !L2.inV vx xs else L2.inV vx xs)) H
    rw [if_pos rfl, e2]
    exact k _ _ (PostW.bl ex)
  cases y with
  | tup ds => exact key ds (.inl rfl) h
  | lst ds => exact key ds (.inr rfl) h
  | _ => cases h

/-! ### places -/
def rIxD : R2 := fun x y H Q => ∃ a v, x = .ref a ∧ DGet H a y (some v) ∧ Q v H
open PySem PySem.Spec PyProof.Rows in
theorem ix_dict {X : Cx} (hu : X.A.units + 1 < cLine) : IxR X rIxD := by
  intro value slice pins s σ H x y v u Q I rx ry h hs
  obtain ⟨a, z, rfl, g, q⟩ := h
  obtain rfl : v = Value.ref a := rx
  unfold subscriptTail
  refine wpAny_bind ?_
  have hT := dict_typeIs I g
  rw [getitemInPython_of_ne hT.not_modules]
  refine wpAny_bind (wpAny_specialOf hT PySem.F.slot_dict_getitem.lookup ?_)
  have fin : wpAny (model X.prog X.w) X.A (subscripted slice false (.ref a) u) (fun r s₃ => wpAny (model X.prog X.w) X.A (letTemporaryGo value (.ref a) r >>= fun _ => pure r) (EP X pins σ Q) X.xe s₃) X.xe s := by
    rw [hs]
    exact wpAny_operating (wpAny_mono (d_getItem hu I g ry fun w' s3 I3 rw' => (show EP X pins σ Q w' s3 from ⟨z, H, I3, rw', q⟩)) (fun r s₃ h₃ => wpAny_bind (wpAny_letTemporaryGo (wpAny_pure h₃))) fun _ _ x => x)
  first
    | exact wpAny_pure (wpAny_bind fin)
    | (refine wpAny_pure ?_; refine wpAny_bind ?_; exact fin)
def rIxA (K : PySem.W.Frag) : R2 := fun x y H Q => rIx K x y H Q ∨ rIxD x y H Q
theorem ix_all {X : Cx} (hu : X.A.units + 1 < cLine) : IxR X (rIxA X.K) := ix_seq.or (ix_dict hu)
theorem atI_rel {F : Hp} {ds : List D} {vs : List V} {i : Int} {d : D} (r : Rps K G F ds vs) (h : atI ds i = some d) : ∃ v, atI vs i = some v ∧ Rp K G F d v := by
  unfold atI at h ⊢
  rw [r.length]
  cases q : ixN ds.length i with
  | none => rw [q] at h; cases h
  | some j =>
    rw [q] at h
    obtain ⟨v, e1, e2⟩ := r.get (i := j) (d := d) h
    exact ⟨v, e1, e2⟩
theorem keys_get {F : Hp} {q : Key} {i : Nat} {d : D} : ∀ {ds : List D} {kvs : List (Key × V)}, Rps K G F ds (kvs.map (·.2)) → keyIx q (kvs.map (·.1)) = some i → ds[i]? = some d → ∃ v, valV kvs q = some v ∧ Rp K G F d v
  | ds, [], _, h, _ => by cases h
  | [], kv :: kvs, r, h, e => by cases e
  | x :: ds, kv :: kvs, r, h, e => by
    obtain ⟨v, t, e1, r1, r2⟩ := Rps.cons_iff.mp r
    injection e1 with e1 e2
    have h : (if kv.1 = q then some 0 else (keyIx q (kvs.map (·.1))).map (· + 1)) = some i := h
    by_cases c : kv.1 = q
    · rw [if_pos c] at h
      cases h
      have : x = d := Option.some.inj e
      subst this
      exact ⟨kv.2, valV_pos c, by
        have e1 : kv.2 = v := e1
        rw [e1]
        exact r1⟩
    · rw [if_neg c] at h
      obtain ⟨j, hj, rfl⟩ := Option.map_eq_some_iff.mp h
      subst e2
      obtain ⟨u, e3, e4⟩ := keys_get r2 hj (by simpa using e)
      exact ⟨u, by rw [valV_neg c]; exact e3, e4⟩
theorem key_v {F : Hp} {d : D} {v : V} {q : Key} (h : Rp K G F d v) (e : d.key = some q) : v = kV q := by
  cases d with
  | int i => cases e; unfold Rp at h; exact h
  | str i => cases e; unfold Rp at h; exact h
  | _ => cases e
theorem pr_ix : Pr2 K G .ix (rIxA K) := by
  intro x y w F H vx vy Q h ex hx hy k
  cases x with
  | tup ds =>
    cases y with
    | int i =>
      have h : (atI ds i).map W.val = some w := h
      obtain ⟨d, h1, rfl⟩ := Option.map_eq_some_iff.mp h
      obtain ⟨p, vs, rfl, q, r⟩ := hx.tup
      obtain ⟨v, e1, r1⟩ := atI_rel r h1
      exact .inl (.inr (.inl ⟨p, vs, i, v, rfl, hy.int, ex.sqT q, e1, k _ _ (PostW.same ex r1)⟩))
    | _ => cases h
  | lst ds =>
    cases y with
    | int i =>
      have h : (atI ds i).map W.val = some w := h
      obtain ⟨d, h1, rfl⟩ := Option.map_eq_some_iff.mp h
      obtain ⟨p, vs, rfl, q, r⟩ := hx.lst ex
      obtain ⟨v, e1, r1⟩ := atI_rel r h1
      exact .inl (.inl ⟨p, vs, i, v, rfl, hy.int, SqL.of q, e1, k _ _ (PostW.same ex r1)⟩)
    | _ => cases h
  | scr ds =>
    cases y with
    | int i =>
      have h : (atI ds i).map W.val = some w := h
      obtain ⟨d, h1, rfl⟩ := Option.map_eq_some_iff.mp h
      obtain ⟨p, vs, rfl, q, r⟩ := hx.scr
      obtain ⟨v, e1, r1⟩ := atI_rel r h1
      exact .inl (.inl ⟨p, vs, i, v, rfl, hy.int, ex.sqL q, e1, k _ _ (PostW.same ex r1)⟩)
    | _ => cases h
  | dic ks ds =>
    have h : (match dicGet ks ds y with | some (some d) => some (W.val d) | _ => none) = some w := h
    cases q : dicGet ks ds y with
    | none => rw [q] at h; cases h
    | some o =>
      cases o with
      | none => rw [q] at h; cases h
      | some d =>
        rw [q] at h
        cases h
        obtain ⟨p, kvs, rfl, e1, e2, r⟩ := hx.dic ex
        unfold dicGet at q
        rw [e2] at q
        cases qk : y.key with
        | none => rw [qk] at q; cases q
        | some kk =>
          rw [qk] at q
          have q : (match keyIx kk (kvs.map (·.1)) with | some i => ds[i]? | none => none) = some d := Option.some.inj q
          cases qi : keyIx kk (kvs.map (·.1)) with
          | none => rw [qi] at q; cases q
          | some i =>
            rw [qi] at q
            obtain ⟨v, e3, r3⟩ := keys_get r qi q
            have e4 := key_v (hy.rp ex) qk
            subst e4
            refine .inr ⟨p, v, rfl, ?_, k _ _ (PostW.same ex r3)⟩
            rw [← e3]
            exact DGet.k e1
  | _ => cases y <;> cases h
/-- slices -/
def Pr3 (K : PySem.W.Frag) (G : Nat → Option Addr) (p : P) (mk : D → List D) (lo hi : Option Int) (r : V → Option Int → Option Int → Hp → VK → Prop) : Prop :=
  ∀ (x : D) (w : W) (F H : Hp) (vx : V) (Q : VK), p.ev (mk x) = some w → Ex F H → Pk K G F H x vx → (∀ v H', PostW K G F H w v H' → Q v H') → r vx lo hi H Q
def rSlAll (K : PySem.W.Frag) : V → Option Int → Option Int → Hp → VK → Prop := fun x lo hi H Q => rSlA K x lo hi H Q ∨ rSlL K x lo hi H Q
theorem sl_all {X : Cx} : SlR X (rSlAll X.K) := sl_tupA.or sl_list
theorem cut_rel {F : Hp} {ds : List D} {vs : List V} {lo hi : Option Int} (r : Rps K G F ds vs) : Rps K G F (cutD ds lo hi) (cutV vs lo hi) := by
  unfold cutD cutV sIx
  rw [r.length]
  exact (r.drop _).take _
theorem sl_tup_core {F H : Hp} {ds : List D} {vx : V} {lo hi : Option Int} {Q : VK} (ex : Ex F H) (hx : Pk K G F H (.tup ds) vx) (k : ∀ v H', PostW K G F H (.val (.tup (cutD ds lo hi))) v H' → Q v H') : rSlAll K vx lo hi H Q := by
  obtain ⟨p, vs, rfl, q, r⟩ := hx.tup
  have cr := cut_rel (lo := lo) (hi := hi) r
  refine .inl ⟨p, vs, rfl, ex.sqT q, fun c => ?_, fun _ p2 h2 => k _ _ (PostW.tup ex h2 cr)⟩
  have e : cutD ds lo hi = ds := by
    unfold cutD sIx
    rw [← r.length, c.1, c.2, List.drop_zero, Nat.sub_zero, List.take_of_length_le (by rw [r.length]; exact Nat.le_refl _)]
  rw [e] at k
  exact k _ _ (PostW.same ex (by unfold Rp; exact ⟨p, vs, rfl, q, r⟩))
theorem sl_lst_core {F H : Hp} {ds : List D} {vx : V} {lo hi : Option Int} {Q : VK} (ex : Ex F H) (hx : Pk K G F H (.lst ds) vx) (k : ∀ v H', PostW K G F H (.lst (cutD ds lo hi)) v H' → Q v H') : rSlAll K vx lo hi H Q := by
  obtain ⟨p, vs, rfl, q, r⟩ := hx.lst ex
  exact .inr ⟨p, vs, rfl, SqL.of q, fun p2 h2 => k _ _ (PostW.lst ex h2 (cut_rel r))⟩
theorem pr_sl11 {i j : Int} : Pr3 K G (.sl true true) (fun x => [x, .int i, .int j]) (some i) (some j) (rSlAll K) := by
  intro x w F H vx Q h ex hx k
  cases x <;> first
    | (cases h; done)
    | (cases h; exact sl_tup_core ex hx k)
    | (cases h; exact sl_lst_core ex hx k)
theorem pr_sl10 {i : Int} : Pr3 K G (.sl true false) (fun x => [x, .int i]) (some i) none (rSlAll K) := by
  intro x w F H vx Q h ex hx k
  cases x <;> first
    | (cases h; done)
    | (cases h; exact sl_tup_core ex hx k)
    | (cases h; exact sl_lst_core ex hx k)
theorem pr_sl01 {j : Int} : Pr3 K G (.sl false true) (fun x => [x, .int j]) none (some j) (rSlAll K) := by
  intro x w F H vx Q h ex hx k
  cases x <;> first
    | (cases h; done)
    | (cases h; exact sl_tup_core ex hx k)
    | (cases h; exact sl_lst_core ex hx k)
/-- one operand -/
def rRv (K : PySem.W.Frag) : V → Hp → VK → Prop := fun x H Q => ∃ a xs, x = .ref a ∧ SqL K H a xs ∧ ∀ p, H p = none → Q (.ref p) (upd H p (.lst xs.reverse))
theorem pr_rv : Pr1 K G .rv (rRv K) := by
  intro x w F H vx Q h ex hx k
  cases x <;> first | (cases h; done) | skip
  cases h
  obtain ⟨p, vs, rfl, q, r⟩ := hx.lst ex
  exact ⟨p, vs, rfl, SqL.of q, fun p2 h2 => k _ _ (PostW.lst ex h2 r.reverse)⟩
def rNil (K : PySem.W.Frag) (neg tup : Bool) : V → Hp → VK → Prop := fun x H Q => ∀ p, H p = none → (if neg then rNeD K else rEqD K) x (.ref p) (upd H p (if tup then .tup [] else .lst [])) Q
theorem pr_eqNil {neg tup : Bool} : Pr1 K G (.eqNil neg tup) (rNil K neg tup) := by
  intro x w F H vx Q h ex hx k p hp
  have h : (cmpEq x (if tup then .tup [] else .lst [])).map (fun k => W.val (.bl (if neg then !k else k))) = some w := h
  obtain ⟨b, h1, rfl⟩ := Option.map_eq_some_iff.mp h
  obtain ⟨c1, c2, c3⟩ := cmpEq_ok h1
  have ex2 : Ex H (upd H p (if tup then .tup [] else .lst [])) := Ex.new hp
  have d1 := Rp.dp x vx (.inl c1) ((hx.rp ex).mono ex2)
  have d2 : Dp K (upd H p (if tup then .tup [] else .lst [])) (.ref p) (if tup then D.tup [] else D.lst []).py := by
    cases tup with
    | true => exact .tup (SqT.of upd_same) .nil
    | false => exact .lst (SqL.of upd_same) .nil
  have pw : ∀ b, PostW K G F H (.val (.bl b)) (.bl b) (upd H p (if tup then .tup [] else .lst [])) := fun b =>
    ⟨F, fun _ => False, Ex.refl _, fun _ h => .inl h, ex.trans ex2, ex2, WR.bl, fun _ h => h.elim⟩
  cases neg with
  | true => exact ⟨_, _, d1, d2, c1, c2, by rw [c3]; exact k _ _ (pw _)⟩
  | false => exact ⟨_, _, d1, d2, c1, c2, by rw [c3]; exact k _ _ (pw _)⟩
abbrev rC1 (r : List V → Hp → VK → Prop) : V → Hp → VK → Prop := fun x H Q => r [x] H Q
def rLenA (K : PySem.W.Frag) : List V → Hp → VK → Prop := fun xs H Q => ∃ p ys, xs = [.ref p] ∧ (SqL K H p ys ∨ SqT K H p ys) ∧ Q (.int ys.length) H
theorem pr_len : Pr1 K G .len (rC1 (rLenA K)) := by
  intro x w F H vx Q h ex hx k
  cases x <;> first | (cases h; done) | skip
  · cases h
    obtain ⟨p, vs, rfl, q, r⟩ := hx.tup
    exact ⟨p, vs, rfl, .inr (ex.sqT q), by rw [r.length]; exact k _ _ (PostW.int ex)⟩
  · cases h
    obtain ⟨p, vs, rfl, q, r⟩ := hx.lst ex
    exact ⟨p, vs, rfl, .inl (SqL.of q), by rw [r.length]; exact k _ _ (PostW.int ex)⟩
  · cases h
    obtain ⟨p, vs, rfl, q, r⟩ := hx.scr
    exact ⟨p, vs, rfl, .inl (ex.sqL q), by rw [r.length]; exact k _ _ (PostW.int ex)⟩
theorem pr_tupOf : Pr1 K G .tupOf (kTup K) := by
  intro x w F H vx Q h ex hx k
  cases x <;> first | (cases h; done) | skip
  · cases h
    obtain ⟨p, vs, rfl, q, r⟩ := hx.tup
    exact .inr ⟨p, vs, rfl, ex.sqT q, k _ _ (PostW.same ex (by unfold Rp; exact ⟨p, vs, rfl, q, r⟩))⟩
  · cases h
    obtain ⟨p, vs, rfl, q, r⟩ := hx.lst ex
    exact .inl ⟨p, vs, rfl, SqL.of q, fun p2 h2 => k _ _ (PostW.tup ex h2 r)⟩
def rLstOf (K : PySem.W.Frag) : List V → Hp → VK → Prop := fun xs H Q => ∃ p ys, xs = [.ref p] ∧ (SqL K H p ys ∨ SqT K H p ys) ∧ ∀ l, H l = none → Q (.ref l) (upd H l (.lst ys))
theorem pr_lstOf : Pr1 K G .lstOf (rC1 (rLstOf K)) := by
  intro x w F H vx Q h ex hx k
  cases x <;> first | (cases h; done) | skip
  · cases h
    obtain ⟨p, vs, rfl, q, r⟩ := hx.tup
    exact ⟨p, vs, rfl, .inr (ex.sqT q), fun p2 h2 => k _ _ (PostW.lst ex h2 r)⟩
  · cases h
    obtain ⟨p, vs, rfl, q, r⟩ := hx.lst ex
    exact ⟨p, vs, rfl, .inl (SqL.of q), fun p2 h2 => k _ _ (PostW.lst ex h2 r)⟩
theorem rg_rel {F : Hp} (a b : Int) : Rps K G F (rangeD a b) (rgV a b) := by
  unfold rangeD rgV
  have e : (List.range (b - a).toNat).map (fun (k : Nat) => D.int (a + (k : Int))) = ((List.range (b - a).toNat).map fun (k : Nat) => a + (k : Int)).map D.int := by rw [List.map_map]; rfl
  have e2 : (List.range (b - a).toNat).map (fun (k : Nat) => V.int (a + (k : Int))) = ((List.range (b - a).toNat).map fun (k : Nat) => a + (k : Int)).map V.int := by rw [List.map_map]; rfl
  rw [e, e2]
  exact Rps.of_ints _
def rLRng : V → Hp → VK → Prop := fun x H Q => ∃ n, x = .int n ∧ RgOk 0 n ∧ ∀ q, H q = none → Q (.ref q) (upd H q (.lst (rgV 0 n)))
theorem pr_lstRng1 : Pr1 K G .lstRng1 rLRng := by
  intro x w F H vx Q h ex hx k
  cases x <;> first | (cases h; done) | skip
  rename_i n
  have h : (if rngOk n && szOk n.toNat then some (W.lst (rangeD 0 n)) else none) = some w := h
  by_cases q : (rngOk n && szOk n.toNat) = true
  · rw [if_pos q] at h
    cases h
    rw [Bool.and_eq_true] at q
    have b := rngOk_ok q.1
    have c := szOk_le q.2
    rw [sizeLine_eq] at c
    exact ⟨n, hx.int, ⟨by omega, by omega, b.1, b.2, by simpa using c⟩, fun p2 h2 => k _ _ (PostW.lst ex h2 (rg_rel 0 n))⟩
  · rw [if_neg q] at h
    cases h
theorem pr_abs : Pr1 K G .abs (rC1 fun xs H Q => ∃ i, xs = [.int i] ∧ Q (.int (if i < 0 then -i else i)) H) := by
  intro x w F H vx Q h ex hx k
  cases x <;> first | (cases h; done) | skip
  cases h
  exact ⟨_, by rw [hx.int], k _ _ (PostW.int ex)⟩
theorem pr_intOf : Pr1 K G .intOf (rC1 fun xs H Q => (∃ i, xs = [.int i] ∧ Q (.int i) H) ∨ ∃ k, xs = [.bl k] ∧ Q (.int (if k then 1 else 0)) H) := by
  intro x w F H vx Q h ex hx k
  cases x <;> first | (cases h; done) | skip
  · cases h
    exact .inr ⟨_, by rw [hx.bl], k _ _ (PostW.int ex)⟩
  · cases h
    exact .inl ⟨_, by rw [hx.int], k _ _ (PostW.int ex)⟩
theorem pr_min2 : Pr2 K G .min2 (fun x y H Q => ∃ i j, [x, y] = [V.int i, V.int j] ∧ Q (.int (if j < i then j else i)) H) := by
  intro x y w F H vx vy Q h ex hx hy k
  cases x <;> cases y <;> first | (cases h; done) | skip
  cases h
  exact ⟨_, _, by rw [hx.int, hy.int], k _ _ (PostW.int ex)⟩
theorem isort_perm (ns : List Int) : (isort ns).Perm ns := List.mergeSort_perm _ _
theorem isort_sorted (ns : List Int) : (isort ns).Pairwise (· ≤ ·) := by
  have h := List.pairwise_mergeSort (le := fun a b : Int => decide (a ≤ b)) (fun a b c h1 h2 => by simp at *; omega) (fun a b => by simp; omega) ns
  exact h.imp fun h => by simpa using h
theorem sorted_unique {l₁ l₂ : List Int} (p : l₁.Perm l₂) (h1 : l₁.Pairwise (· ≤ ·)) (h2 : l₂.Pairwise (· ≤ ·)) : l₁ = l₂ :=
  p.eq_of_pairwise (fun a b _ _ x y => Int.le_antisymm x y) h1 h2
theorem pr_sortd : Pr1 K G .sortd (rC1 (MnM.rSortedA K)) := by
  intro x w F H vx Q h ex hx k
  have key : ∀ ds p vs, vx = .ref p → (SqL K H p vs ∨ SqT K H p vs) → Rps K G F ds vs → (ints? ds).map (fun ns => W.lst ((isort ns).map D.int)) = some w → MnM.rSortedA K [vx] H Q := fun ds p vs e1 q r h => by
    obtain ⟨ns, h1, rfl⟩ := Option.map_eq_some_iff.mp h
    have e2 := r.ints h1
    subst e1 e2
    refine ⟨p, ns, rfl, q, fun ns' p2 hp hs h2 => ?_⟩
    have e3 : ns' = isort ns := sorted_unique (hp.trans (isort_perm ns).symm) hs (isort_sorted ns)
    subst e3
    exact k _ _ (PostW.lst ex h2 (Rps.of_ints _))
  cases x <;> first | (cases h; done) | skip
  · obtain ⟨p, vs, e1, q, r⟩ := hx.tup
    exact key _ p vs e1 (.inr (ex.sqT q)) r h
  · obtain ⟨p, vs, e1, q, r⟩ := hx.lst ex
    exact key _ p vs e1 (.inl (SqL.of q)) r h
theorem pr_all : Pr1 K G .all_ (rC1 (rAll K)) := by
  intro x w F H vx Q h ex hx k
  cases x <;> first | (cases h; done) | skip
  rename_i ds
  have h : (bools? ds).map (fun bs => W.val (.bl (bs.all id))) = some w := h
  obtain ⟨bs, h1, rfl⟩ := Option.map_eq_some_iff.mp h
  obtain ⟨p, vs, rfl, q, r⟩ := hx.lst ex
  have e := r.bools h1
  subst e
  exact ⟨p, bs, rfl, SqL.of q, k _ _ (PostW.bl ex)⟩
theorem pr_any : Pr1 K G .any_ (rC1 (rAny K)) := by
  intro x w F H vx Q h ex hx k
  cases x <;> first | (cases h; done) | skip
  rename_i ds
  have h : (bools? ds).map (fun bs => W.val (.bl (bs.any id))) = some w := h
  obtain ⟨bs, h1, rfl⟩ := Option.map_eq_some_iff.mp h
  obtain ⟨p, vs, rfl, q, r⟩ := hx.lst ex
  have e := r.bools h1
  subst e
  exact ⟨p, bs, rfl, SqL.of q, k _ _ (PostW.bl ex)⟩
def rTupRev (K : PySem.W.Frag) : V → Hp → VK → Prop := fun v H1 Q => ∃ (a : Addr) (xs : List V), v = .ref a ∧ (SqL K H1 a xs ∨ SqT K H1 a xs) ∧ ∀ q, H1 q = none → Q (.ref q) (upd H1 q (.tup xs.reverse))
theorem pr_tupRev : Pr1 K G .tupRev (rTupRev K) := by
  intro x w F H vx Q h ex hx k
  cases x <;> first | (cases h; done) | skip
  · cases h
    obtain ⟨p, vs, rfl, q, r⟩ := hx.tup
    exact ⟨p, vs, rfl, .inr (ex.sqT q), fun p2 h2 => k _ _ (PostW.tup ex h2 r.reverse)⟩
  · cases h
    obtain ⟨p, vs, rfl, q, r⟩ := hx.lst ex
    exact ⟨p, vs, rfl, .inl (SqL.of q), fun p2 h2 => k _ _ (PostW.tup ex h2 r.reverse)⟩
theorem Rps.of_strs {F : Hp} : ∀ (ns : List Str), Rps K G F (ns.map D.str) (ns.map V.str)
  | [] => Rps.nil
  | n :: ns => Rps.cons (by unfold Rp; rfl) (Rps.of_strs ns)
/-- the type of data -/
def Ty.nm : Ty → String
  | .int => "int" | .str => "str" | .tup => "tuple" | .lst => "list" | .dic => "dict" | .bool => "bool"
theorem isTy_ok {F H : Hp} {d : D} {v : V} {t : Ty} {b : Bool} (ex : Ex F H) (h : Pk K G F H d v) (e : d.isTy t = some b) : ∃ tv, TyX K H v tv ∧ PySem.W.kitOne K tv (.type t.nm) = some b := by
  cases d with
  | non => cases t <;> (cases e; rw [h.non]; exact ⟨_, .base .non, kit_ty (by decide +kernel)⟩)
  | bl x => cases t <;> (cases e; rw [h.bl]; exact ⟨_, .base (.bl _), kit_ty (by decide +kernel)⟩)
  | int x => cases t <;> (cases e; rw [h.int]; exact ⟨_, .base (.int _), kit_ty (by decide +kernel)⟩)
  | str x => cases t <;> (cases e; rw [h.str]; exact ⟨_, .base (.str _), kit_ty (by decide +kernel)⟩)
  | tup x =>
    obtain ⟨p, vs, rfl, q, r⟩ := h.tup
    have ty : TyX K H (.ref p) (.type "tuple") := by
      rcases ex.sqT q with (q | ⟨o, q⟩) | ⟨o, its, n, q, c, _⟩
      · exact .base (.tup q)
      · exact .fTuple q
      · exact .kTuple q c
    cases t <;> (cases e; exact ⟨_, ty, kit_ty (by decide +kernel)⟩)
  | lst x =>
    obtain ⟨p, vs, rfl, q, r⟩ := h.lst ex
    cases t <;> (cases e; exact ⟨_, .base (.lst q), kit_ty (by decide +kernel)⟩)
  | dic ks x =>
    obtain ⟨p, vs, rfl, q, r⟩ := h.dic ex
    cases t <;> (cases e; exact ⟨_, .base (.dK q), kit_ty (by decide +kernel)⟩)
  | _ => cases e
theorem isTys_ok {F H : Hp} {d : D} {v : V} {b : Bool} (ex : Ex F H) (h : Pk K G F H d v) : ∀ {ts : List Ty} {tv : Value}, TyX K H v tv → (∀ t b, d.isTy t = some b → PySem.W.kitOne K tv (.type t.nm) = some b) → d.isTys ts = some b → PySem.W.kitAny K tv (ts.map fun t => Value.type t.nm) = some b
  | [], tv, _, _, e => e
  | t :: ts, tv, ty, k, e => by
    have e : (match d.isTy t with | some true => some true | some false => D.isTys d ts | none => none) = some b := e
    cases q : d.isTy t with
    | none => rw [q] at e; cases e
    | some c =>
      rw [q] at e
      refine kitAny_cons (b := c) (k t c q) (fun hc => ?_) (fun hc => ?_)
      · subst hc
        exact isTys_ok ex h ty k e
      · subst hc
        cases e
        rfl
end
end Mn
set_option Elab.async false
set_option linter.all false
set_option maxRecDepth 100000
set_option maxHeartbeats 4000000
/-! Mn, part 7: the text is the written program: checks. -/
namespace Mn
open PySem L2

/-! ### small checks -/
def slotB (N : List Str) (sc : Scope) (i : Nat) (x : Str) : Bool := decide (N[i]? = some x) && (match sc.names.lookup x with | some .local => true | some .cell => true | some .free => true | _ => false) && !(x == ("__debug__" : Str)) && !(x == ("__classdict__" : Str))
def glB (sc : Scope) (x : Str) : Bool := (match sc.names.lookup x with | some .globalImplicit => true | _ => false) && !(x == ("__debug__" : Str)) && decide (x ≠ "__name__")
def isStar : Expr → Bool
  | .Starred .. => true
  | _ => false
def isSlice : Expr → Bool
  | .Slice .. => true
  | _ => false
def isSetE : Expr → Bool
  | .Set .. => true
  | _ => false
def notCallB : Expr → Bool
  | .Call .. => false
  | _ => true
def isVarB (N : List Str) (sc : Scope) (i : Nat) : Expr → Bool
  | .Name x _ => slotB N sc i x
  | _ => false
def isPthB (N : List Str) (sc : Scope) (i : Nat) (f : Str) : Expr → Bool
  | .Subscript a (.Constant (.str s) _ _) _ => isVarB N sc i a && decide (s = f)
  | _ => false
def isCstB : D → Expr → Bool
  | .int i, .Constant (.int j) _ _ => decide (i = j)
  | .int i, .UnaryOp .USub (.Constant (.int j) _ _) _ => decide (i = -j)
  | .bl b, .Constant (.bool c) _ _ => decide (b = c)
  | .str s, .Constant (.str t) _ _ => decide (s = t)
  | .non, .Constant .none _ _ => true
  | _, _ => false
def isGlbB (sc : Scope) (y : Str) : Expr → Bool
  | .Name x _ => decide (x = y) && glB sc x
  | _ => false
/-- a built-in's name -/
def isBltB (sc : Scope) (y : Str) : Expr → Bool := isGlbB sc y
def isTyB (sc : Scope) (t : Ty) (e : Expr) : Bool := isBltB sc t.nm e
def isTysB (sc : Scope) : List Ty → List Expr → Bool
  | [], [] => true
  | t :: ts, e :: es => isTyB sc t e && isTysB sc ts es
  | _, _ => false
def keysB : List D → List (Option Expr) → Bool
  | [], [] => true
  | k :: ks, some e :: es => isCstB k e && keysB ks es
  | _, _ => false

inductive Sh where
  | bin (op : Operator) | cmp (op : CmpOp) | ix | sl (a b : Bool) | rv | nil (neg tup : Bool) | fn (x : Str) | ty (x : Str) | isi (ts : List Ty) | tupOf | lstRng | tupRev | split (t : Str)
def P.sh : P → Sh
  | .add => .bin .Add | .sub => .bin .Sub | .mul => .bin .Mult | .fdiv => .bin .FloorDiv | .mod => .bin .Mod | .pow => .bin .Pow
  | .eq => .cmp .Eq | .ne => .cmp .NotEq | .lt => .cmp .Lt | .le => .cmp .LtE | .gt => .cmp .Gt | .ge => .cmp .GtE | .is_ => .cmp .Is | .isn => .cmp .IsNot | .in_ => .cmp .In | .nin => .cmp .NotIn
  | .ix => .ix | .sl a b => .sl a b | .rv => .rv | .eqNil n t => .nil n t
  | .len => .fn "len" | .abs => .fn "abs" | .min2 => .fn "min" | .sortd => .fn "sorted" | .all_ => .fn "all" | .any_ => .fn "any"
  | .isi ts => .isi ts | .tupOf => .tupOf | .lstOf => .ty "list" | .intOf => .ty "int" | .lstRng1 => .lstRng | .tupRev => .tupRev | .split t => .split t
def cmpOp? : P → Option CmpOp := fun p => match p.sh with
  | .cmp op => some op
  | _ => none
def call1? (sc : Scope) (x : Str) : Expr → Option Expr
  | .Call f [a] [] _ => if isBltB sc x f then some a else none
  | _ => none
def call2? (sc : Scope) (x : Str) : Expr → Option (Expr × Expr)
  | .Call f [a, b] [] _ => if isBltB sc x f then some (a, b) else none
  | _ => none
def isiT (sc : Scope) : List Ty → Expr → Bool
  | [t], T => isTyB sc t T
  | t :: u :: ts, .Tuple Ts _ _ => isTysB sc (t :: u :: ts) Ts && decide (ts.length ≤ 100)
  | _, _ => false
/-- (), [] -/
def nilE : Bool → Expr → Bool
  | false, .List [] _ => true
  | true, .Tuple [] _ _ => true
  | _, _ => false
/-- the operands within an expression -/
def shB (sc : Scope) : Sh → Expr → Option (List Expr)
  | .bin op, .BinOp a o b _ => if o = op then some [a, b] else none
  | .cmp op, .Compare a [o] [b] _ => if o = op ∧ isSetE b = false then some [a, b] else none
  | .ix, .Subscript a b _ => if isSlice b then none else some [a, b]
  | .sl true true, .Subscript a (.Slice (some l) (some h) none _) _ => some [a, l, h]
  | .sl true false, .Subscript a (.Slice (some l) none none _) _ => some [a, l]
  | .sl false true, .Subscript a (.Slice none (some h) none _) _ => some [a, h]
  | .rv, .Subscript a (.Slice none none (some (.UnaryOp .USub (.Constant (.int j) _ _) _)) _) _ => if j = 1 then some [a] else none
  | .nil neg tup, .Compare a [o] [b] _ => if o = (if neg then .NotEq else .Eq) ∧ nilE tup b = true then some [a] else none
  | .fn x, .Call f es [] _ => if isBltB sc x f then some es else none
  | .ty x, .Call f es [] _ => if isBltB sc x f then some es else none
  | .isi ts, e => match call2? sc "isinstance" e with
    | some (a, T) => if isiT sc ts T then some [a] else none
    | none => none
  | .tupOf, e => (call1? sc "tuple" e).map fun a => [a]
  | .lstRng, e => match call1? sc "list" e with
    | some g => (call1? sc "range" g).map fun a => [a]
    | none => none
  | .tupRev, e => match call1? sc "tuple" e with
    | some g => (call1? sc "reversed" g).map fun a => [a]
    | none => none
  | .split t, .Call (.Attribute a m ap) [.Constant (.str u) _ _] [] p => if decide (m = "split") && decide (u = t) && (ap.endLine == p.line) && notCallB a then some [a] else none
  | _, _ => none

mutual
/-- targets; cf: what cells may be stored -/
def isTgB (N : List Str) (sc : Scope) (cf : Str → Bool) : Tg → Expr → Bool
  | .nm i, .Name x _ => decide (N[i]? = some x) && (match sc.names.lookup x with | some .local => true | some .cell => cf x | _ => false)
  | .tcons a b, .Tuple es _ _ => isTgsB N sc cf (.tcons a b) es
  | _, _ => false
def isTgsB (N : List Str) (sc : Scope) (cf : Str → Bool) : Tg → List Expr → Bool
  | .tnil, [] => true
  | .tcons a b, e :: es => !isStar e && isTgB N sc cf a e && isTgsB N sc cf b es
  | _, _ => false
end
def Tg.slots : Tg → List Nat
  | .nm i => [i]
  | .tnil => []
  | .tcons a b => a.slots ++ b.slots
def isTupE : Expr → Bool
  | .Tuple .. => true
  | _ => false
/-- what is walked -/
def itB (sc : Scope) (tg : Expr) : IK → Expr → Option (List Expr)
  | .seq, e => some [e]
  | .rng1, .Call f [a] [] _ => if isBltB sc "range" f then some [a] else none
  | .rng2, .Call f [a, b] [] _ => if isBltB sc "range" f then some [a, b] else none
  | .enum, .Call f [a] [] _ => if isBltB sc "enumerate" f && isTupE tg then some [a] else none
  | .zip, .Call f [a, b] [] _ => if isBltB sc "zip" f && isTupE tg then some [a, b] else none
  | .rev, .Call f [a] [] _ => if isBltB sc "reversed" f then some [a] else none
  | _, _ => none
def mtName : M → Str
  | .append => "append" | .extend => "extend" | .pop => "pop" | .popAt => "pop"
def mtArgs : M → Nat
  | .append => 1 | .extend => 1 | .pop => 0 | .popAt => 1

/-- a def's number -/
def fnB (nm : Nat → Str) (f : Nat) : Bool := decide (f < 1000) && !(nm f == ("" : Str))
mutual
/-- e is the expression m. nm: the names of the globals by number; nio: the arguments that a def changes; cl: may cells be stored (in a def's own body) -/
def isE (nm : Nat → Str) (N : List Str) : Scope → E → Expr → Bool
  | sc, .var i, e => isVarB N sc i e
  | sc, .mv i, e => isVarB N sc i e
  | sc, .pth i f, e => isPthB N sc i f e
  | _, .cst d, e => isCstB d e
  | sc, .glb g, e => isGlbB sc (nm g) e
  | _, .never, e => !isStar e
  | sc, .prim p a, e => match shB sc p.sh e with
    | some es => isA nm N sc a es
    | none => false
  | sc, .tupd a, .Tuple es _ _ => isA nm N sc a es
  | sc, .lstd a, .List es _ => isA nm N sc a es
  | sc, .dicd ks a, .Dict kes ves _ => keysB ks kes && isA nm N sc a ves && decide (kes.length = ves.length) && !kes.isEmpty && decide (kes.length ≤ 15)
  | sc, .rcd ks a, .Dict kes ves _ => keysB (ks.map D.str) kes && isA nm N sc a ves && decide (kes.length = ves.length) && !kes.isEmpty && decide (kes.length ≤ 15)
  | sc, .and2 a b, .BoolOp .And (e1 :: e2 :: r) p => isE nm N sc a e1 && isE nm N sc b (.BoolOp .And (e2 :: r) p)
  | sc, .or2 a b, .BoolOp .Or (e1 :: e2 :: r) p => isE nm N sc a e1 && isE nm N sc b (.BoolOp .Or (e2 :: r) p)
  | sc, .one a, .BoolOp _ [e1] _ => isE nm N sc a e1
  | sc, .frz a, e => isE nm N sc a e
  | sc, .nt a, .UnaryOp .Not e1 _ => isE nm N sc a e1
  | sc, .ife c a b, .IfExp e1 e2 e3 _ => isE nm N sc c e1 && isE nm N sc a e2 && isE nm N sc b e3
  | sc, .chain o1 o2 ab c, .Compare e1 [p1, p2] [e2, e3] _ => (match cmpOp? o1, cmpOp? o2 with
      | some q1, some q2 => decide (q1 = p1) && decide (q2 = p2)
      | _, _ => false) && isA nm N sc ab [e1, e2] && isE nm N sc c e3 && !isSetE e3
  | sc, .lc vs tg ik its c elt, .ListComp ee [⟨te, ie, cs, asn⟩] scope _ => decide (asn = 0) && (match itB sc te ik ie with
      | some es => isA nm N sc its es && !isSetE ie
      | none => false) && isTgB N (relS scope sc) (fun x => scope.names.lookup x == some .cell) tg te && tg.slots.all (fun i => vs.contains i) && blkC N sc scope (vs.map fun v => (N.getD v "", v)) &&
      isE nm N (relS scope sc) elt ee && (match cs with
      | [] => (match c with | .cst (.bl true) => true | _ => false)
      | [ce] => isE nm N (relS scope sc) c ce
      | _ => false)
  | sc, .call f a, .Call fe es [] _ => fnB nm f && isGlbB sc (nm f) fe && isK nm N sc a es
  | sc, .mut m i f a, .Call (.Attribute o x ap) es [] p => decide (x = mtName m) && (ap.endLine == p.line) && (match f with
      | none => isVarB N sc i o
      | some f => isPthB N sc i f o && a.csts) && isA nm N sc a es && decide (es.length = mtArgs m)
  | _, _, _ => false
/-- lists of expressions -/
def isA (nm : Nat → Str) (N : List Str) : Scope → E → List Expr → Bool
  | _, .nil, [] => true
  | sc, .cons a r, e :: es => !isStar e && isE nm N sc a e && isA nm N sc r es
  | _, _, _ => false
/-- a def's arguments -/
def isK (nm : Nat → Str) (N : List Str) : Scope → E → List Expr → Bool
  | _, .nil, [] => true
  | sc, .cons a r, e :: es => !isStar e && (match a with
      | .io i => isVarB N sc i e
      | a => isE nm N sc a e) && isK nm N sc r es
  | _, _, _ => false
end
end Mn
set_option Elab.async false
set_option linter.all false
set_option maxRecDepth 100000
set_option maxHeartbeats 4000000
/-! Mn, part 8: the text, small facts; operations as texts. -/
namespace Mn
open PySem L2
section
theorem star_cons {e : Expr} {es : List Expr} {env : PySem.Env} (h : isStar e = false) : starEach (e :: es) env = (false, eval e env) :: starEach es env := by
  cases e <;> first | rfl | cases h
theorem star_none {env : PySem.Env} {pos : Pos} : ∀ {es : List Expr}, (∀ e ∈ es, isStar e = false) → (backTo pos (starEach es env)).any (·.1) = false
  | [], _ => rfl
  | e :: es, h => by
    rw [star_cons (h e List.mem_cons_self)]
    have := star_none (env := env) (pos := pos) (es := es) fun x hx => h x (List.mem_cons_of_mem _ hx)
    show (false || (backTo pos (starEach es env)).any (·.1)) = false
    rw [this]
    rfl
theorem star_all {env : PySem.Env} {pos : Pos} : ∀ {es : List Expr}, (∀ e ∈ es, isStar e = false) → (backTo pos (starEach es env)).all (fun x => !x.1) = true
  | [], _ => rfl
  | e :: es, h => by
    rw [star_cons (h e List.mem_cons_self)]
    have := star_all (env := env) (pos := pos) (es := es) fun x hx => h x (List.mem_cons_of_mem _ hx)
    show (!false && (backTo pos (starEach es env)).all (fun x => !x.1)) = true
    rw [this]
    rfl
theorem plainIx {b : Expr} (h : isSlice b = false) : PlainIx b := by
  intro o i
  cases b <;> first | rfl | cases h
theorem attrBase {o : Expr} {m : Str} {env : PySem.Env} (h : notCallB o = true) : attributeBase o m env (eval o env) = eval o env := by
  cases o <;> first | rfl | cases h
theorem noFold {e : Expr} (h : isSetE e = false) (env : PySem.Env) (x : Value) : foldedSetIterable e env x = pure x := by
  cases e <;> first | rfl | cases h
theorem noMark {op : CmpOp} {b : Expr} (h : isSetE b = false) : behindInMarks op b = false := by
  cases b <;> first | rfl | cases h
/-- what is tested as its value says -/
def plainT : Expr → Bool
  | .UnaryOp .Not _ _ => false
  | .BoolOp .. => false
  | .IfExp .. => false
  | .Compare .. => false
  | _ => true
theorem isTrue_plainT {e : Expr} {env : PySem.Env} (h : plainT e = true) (whole : Sem Value) : isTrue e env whole = (do let v ← whole; standAt e.pos; holding [v] (truthy v)) := by
  cases e with
  | UnaryOp op x p => cases op <;> first | rfl | cases h
  | _ => first | rfl | cases h
end

section
variable {X : Cx} {e : Expr} {t t' : TE}
theorem peImp (h : PE X e t) (k : ∀ σ H Q, t' σ H Q → t σ H Q) : PE X e t' := ⟨fun pins s σ H Q I q => h.run pins s σ H Q I (k σ H Q q)⟩
theorem ptImp {t t' : TT} (h : PT X e t) (k : ∀ σ H Q, t' σ H Q → t σ H Q) : PT X e t' := ⟨fun pins s σ H Q I q => h.run pins s σ H Q I (k σ H Q q)⟩
theorem pwImp {t t' : TT} (h : PW X e t) (k : ∀ σ H Q, t' σ H Q → t σ H Q) : PW X e t' := ⟨fun wh pins s σ H Q I q => h.run wh pins s σ H Q I (k σ H Q q)⟩
theorem ptVal (h : PE X e t) (p : plainT e = true) : PT X e (tB t) := pt_val h (isTrue_plainT p)
/-- a if c else b, as a test -/
theorem ptIf {c a b : Expr} {pos : Pos} {tc ta tb : TT} (hc : PT X c tc) (ha : PT X a ta) (hb : PT X b tb) : PT X (.IfExp c a b pos) (fun σ H Q => tc σ H fun k H1 => if k = true then ta σ H1 Q else tb σ H1 Q) := by
  refine ⟨fun pins s σ H Q I h => ?_⟩
  show wpAny _ _ (do if ← isTrue c X.env (eval c X.env) then isTrue a X.env (eval a X.env) else isTrue b X.env (eval b X.env)) _ _ s
  refine wpAny_bind (thn (hc.run pins s σ H _ I h) fun d s1 ⟨H1, I1, q1⟩ => ?_)
  cases d with
  | true => exact ha.run pins s1 σ H1 Q I1 q1
  | false => exact hb.run pins s1 σ H1 Q I1 q1
end

/-! ### lists of texts -/
def TMono (t : TE) : Prop := ∀ σ H (Q Q' : VK), (∀ v H', Q v H' → Q' v H') → t σ H Q → t σ H Q'
theorem TMono.var (i : Nat) : TMono (tVar i) := fun σ H Q Q' k ⟨v, e, q⟩ => ⟨v, e, k _ _ q⟩
theorem TMono.pth (i : Nat) (f : Str) : TMono (tPth i f) := fun σ H Q Q' k ⟨a, kvs, v, h1, h2, h3, q⟩ => ⟨a, kvs, v, h1, h2, h3, k _ _ q⟩
theorem TMono.cst (v : V) : TMono (tC v) := fun σ H Q Q' k q => k _ _ q
theorem TMono.ev (M : Mc) (f : Env → R W) : TMono (tE M f) := fun σ H Q Q' k ⟨B, F, e, s, o⟩ => ⟨B, F, e, s, Out.mono o (Gr.refl _ _) k⟩
inductive PEs (X : Cx) : List Expr → List TE → Prop
  | nil : PEs X [] []
  | cons {e : Expr} {es : List Expr} {t : TE} {ts : List TE} (h : isStar e = false) (p : PE X e t) (m : TMono t) (r : PEs X es ts) : PEs X (e :: es) (t :: ts)
def tsCons : List TE → TA
  | [] => tNil
  | t :: ts => tCons t (tsCons ts)
theorem PEs.stars {X : Cx} {es : List Expr} {ts : List TE} (h : PEs X es ts) : ∀ e ∈ es, isStar e = false := by
  induction h with
  | nil => exact fun _ z => nomatch z
  | cons h p m r ih => exact fun e z => (List.mem_cons.mp z).elim (fun q => q ▸ h) (ih e)
theorem PEs.pa {X : Cx} {es : List Expr} {ts : List TE} (h : PEs X es ts) : PA X es (tsCons ts) := by
  induction h with
  | nil => exact pa_nil
  | cons h p m r ih => exact pa_cons p ih (star_cons h)
theorem paImp {X : Cx} {es : List Expr} {t t' : TA} (h : PA X es t) (k : ∀ σ H Q, t' σ H Q → t σ H Q) : PA X es t' := ⟨fun pos pins s σ H Q I q => h.run pos pins s σ H Q I (k σ H Q q)⟩

/-! ### operations -/
/-- what an operation is to find -/
def PrC (M : Mc) (p : P) (vs : List V) (H : Hp) (Q : VK) : Prop := ∃ ds w F, Ex F H ∧ Pks M.K M.G F H ds vs ∧ p.ev ds = some w ∧ ∀ v H2, PostW M.K M.G F H w v H2 → Q v H2
theorem pks1 {K G F H ds v} (h : Pks K G F H ds [v]) : ∃ d, ds = [d] ∧ Pk K G F H d v := by
  cases ds with
  | nil => exact h.elim
  | cons d r => cases r with
    | nil => exact ⟨d, rfl, h.1⟩
    | cons _ _ => exact h.2.elim
theorem pks2 {K G F H ds v u} (h : Pks K G F H ds [v, u]) : ∃ d e, ds = [d, e] ∧ Pk K G F H d v ∧ Pk K G F H e u := by
  cases ds with
  | nil => exact h.elim
  | cons d r =>
    obtain ⟨e, e1, h2⟩ := pks1 h.2
    exact ⟨d, e, by rw [e1], h.1, h2⟩
theorem pks3 {K G F H ds v u z} (h : Pks K G F H ds [v, u, z]) : ∃ d e f, ds = [d, e, f] ∧ Pk K G F H d v ∧ Pk K G F H e u ∧ Pk K G F H f z := by
  cases ds with
  | nil => exact h.elim
  | cons d r =>
    obtain ⟨e, f, e1, h2, h3⟩ := pks2 h.2
    exact ⟨d, e, f, by rw [e1], h.1, h2, h3⟩
theorem Pr2.of {M : Mc} {p : P} {r : R2} (h : Pr2 M.K M.G p r) : ∀ x y H Q, PrC M p [x, y] H Q → r x y H Q := by
  rintro x y H Q ⟨ds, w, F, ex, pk, e, k⟩
  obtain ⟨d, e', rfl, h1, h2⟩ := pks2 pk
  exact h d e' w F H x y Q e ex h1 h2 k
theorem Pr1.of {M : Mc} {p : P} {r : V → Hp → VK → Prop} (h : Pr1 M.K M.G p r) : ∀ x H Q, PrC M p [x] H Q → r x H Q := by
  rintro x H Q ⟨ds, w, F, ex, pk, e, k⟩
  obtain ⟨d, rfl, h1⟩ := pks1 pk
  exact h d w F H x Q e ex h1 k
theorem opImp {X : Cx} {f : Value → Value → Sem Value} {r r' : R2} (h : OpR X f r) (k : ∀ x y H Q, r' x y H Q → r x y H Q) : OpR X f r' := fun pins s σ H x y v u Q I rx ry q => h pins s σ H x y v u Q I rx ry (k _ _ _ _ q)
theorem ixImp {X : Cx} {r r' : R2} (h : IxR X r) (k : ∀ x y H Q, r' x y H Q → r x y H Q) : IxR X r' := fun a b pins s σ H x y v u Q I rx ry q hs => h a b pins s σ H x y v u Q I rx ry (k _ _ _ _ q) hs
theorem crImp {X : Cx} {f : Value} {r r' : List V → Hp → VK → Prop} (h : CallR X f r) (k : ∀ xs H Q, r' xs H Q → r xs H Q) : CallR X f r' := fun pins s σ H xs us Q I rx q => h pins s σ H xs us Q I rx (k _ _ _ q)

/-- from the evaluator to the operation -/
theorem prim_out {M : Mc} {C : Cn} {B F H : Hp} {e : Env} {σ : List (Option V)} {Q : VK} {p : P} {a : E} (s : St M.K M.G M.pv B F H e σ) (h : Out M B F σ Q (evE C (.prim p a) e)) : rdsA M C a σ H fun vs H' => PrC M p vs H' Q := by
  have h : Out M B F σ Q ((evA C a e).bind fun os e' => match resolve e' os with
    | some ds => match p.ev ds with
      | some w => .ok w e'
      | none => .bad
    | none => .bad) := h
  refine evA_ok a s (OutL.mono (Out.bindL (Rl := RA M σ) h) (Gr.refl _ _) fun vs H' z => ?_)
  obtain ⟨os, e', F', g, s', ra, z⟩ := z
  cases q : resolve e' os with
  | none => rw [q] at z; exact z.elim
  | some ds =>
    rw [q] at z
    cases q2 : p.ev ds with
    | none => simp only [q2] at z; exact z.elim
    | some w =>
      simp only [q2] at z
      refine ⟨ds, w, F', ?_, resolve_ok s' ra q, q2, fun v H2 pw => ?_⟩
      · obtain ⟨fp, s'⟩ := s'
        exact s'.exF
      · obtain ⟨F2, g2, s2⟩ := s'.post pw
        exact z v F2 H2 g2 s2
end Mn
set_option Elab.async false
set_option linter.all false
set_option maxRecDepth 100000
set_option maxHeartbeats 4000000
/-! Mn, part 9: operations as texts. -/
namespace Mn
open PySem L2
def bltNames : List Str := ["len", "abs", "min", "sorted", "all", "any", "isinstance", "tuple", "list", "int", "str", "dict", "bool", "range", "reversed", "enumerate", "zip"]
/-- a body's context, for texts -/
structure Tx (nm : Nat → Str) (C : Cn) (CXt : CXT) (M : Mc) (X : Cx) : Prop where
  calm : X.calm = true
  nd : X.N.Nodup
  K : X.K = M.K
  un : X.A.units + 64 < cLine
  blt : ∀ x : Str, x ∈ bltNames → X.mg x = none
  glob : ∀ g d, C.Γ g = some d → ∃ v u, X.mg (nm g) = some u ∧ RelV v u ∧ ∀ F, Rp M.K M.G F d v
  fns : ∀ f, fnB nm f = true → ∃ np k a fd ps, (∀ ws, C.Φ f ws ≠ .bad → ws.length = np) ∧ FnOk X.prog X.w X.K X.mg X.base CXt k a fd ps (spOf M.K M.G M.XR np (C.io f) (C.Φ f)) ∧ Room k X.A ∧ X.mg (nm f) = some (.ref a) ∧ PySem.W.keepIn X.K (.ref a) = true ∧ Binds X.K fd ps []
  pass : Passes CXt X M.EX
  nopass : ∀ outer H s e s', ¬ CXt outer H s (fun _ _ _ => False) e s'

theorem glB_ok {X : Cx} {x : Str} (h : glB X.env.scope x = true) : Gl X x ∧ (x == ("__debug__" : Str)) = false ∧ x ≠ "__name__" := by
  unfold glB at h
  rw [Bool.and_eq_true, Bool.and_eq_true] at h
  obtain ⟨⟨h1, h2⟩, h3⟩ := h
  refine ⟨?_, ?_, of_decide_eq_true h3⟩
  · show X.env.scope.names.lookup x = _
    cases q : X.env.scope.names.lookup x with
    | none => rw [q] at h1; cases h1
    | some k => rw [q] at h1; cases k <;> first | rfl | cases h1
  · cases q : (x == ("__debug__" : Str)) with
    | false => rfl
    | true => rw [q] at h2; cases h2
theorem isGlbB_ok {sc : Scope} {y : Str} {e : Expr} (h : isGlbB sc y e = true) : ∃ p, e = .Name y p ∧ glB sc y = true := by
  cases e with
  | Name x p =>
    have h : (decide (x = y) && glB sc x) = true := h
    rw [Bool.and_eq_true] at h
    have e := of_decide_eq_true h.1
    subst e
    exact ⟨p, rfl, h.2⟩
  | _ => cases h
theorem slotB_ok {X : Cx} {i : Nat} {x : Str} (h : slotB X.N X.env.scope i x = true) : X.N[i]? = some x ∧ Vis X.env.scope x ∧ (x == ("__debug__" : Str)) = false ∧ (x == ("__classdict__" : Str)) = false := by
  unfold slotB at h
  rw [Bool.and_eq_true, Bool.and_eq_true, Bool.and_eq_true] at h
  obtain ⟨⟨⟨h1, h2⟩, h3⟩, h4⟩ := h
  refine ⟨of_decide_eq_true h1, ?_, ?_, ?_⟩
  · unfold Vis
    cases q : X.env.scope.names.lookup x with
    | none => rw [q] at h2; cases h2
    | some k => rw [q] at h2; cases k <;> first | exact .inl rfl | exact .inr (.inl rfl) | exact .inr (.inr rfl) | cases h2
  · cases q : (x == ("__debug__" : Str)) with
    | false => rfl
    | true => rw [q] at h3; cases h3
  · cases q : (x == ("__classdict__" : Str)) with
    | false => rfl
    | true => rw [q] at h4; cases h4
theorem isVarB_ok {X : Cx} {i : Nat} {e : Expr} (h : isVarB X.N X.env.scope i e = true) : PE X e (tVar i) ∧ isStar e = false ∧ notCallB e = true := by
  cases e with
  | Name x p =>
    obtain ⟨h1, h2, h3, h4⟩ := slotB_ok (show slotB X.N X.env.scope i x = true from h)
    exact ⟨pe_var h1 h2 h3 h4, rfl, rfl⟩
  | _ => cases h
theorem isCstB_ok {X : Cx} {d : D} {e : Expr} (h : isCstB d e = true) : PE X e (tC d.cv) ∧ d.sc = true ∧ isStar e = false ∧ plainT e = true := by
  cases d with
  | int i =>
    cases e with
    | Constant c k p =>
      cases c with
      | int j =>
        have := of_decide_eq_true (show decide (i = j) = true from h)
        subst this
        exact ⟨pe_int, rfl, rfl, rfl⟩
      | _ => cases h
    | UnaryOp op x p =>
      cases op with
      | USub =>
        cases x with
        | Constant c k p =>
          cases c with
          | int j =>
            have := of_decide_eq_true (show decide (i = -j) = true from h)
            subst this
            refine ⟨peImp (pe_un un_neg pe_int) fun σ H Q q => ⟨j, rfl, q⟩, rfl, rfl, rfl⟩
          | _ => cases h
        | _ => cases h
      | _ => cases h
    | _ => cases h
  | bl i =>
    cases e with
    | Constant c k p =>
      cases c with
      | bool j =>
        have := of_decide_eq_true (show decide (i = j) = true from h)
        subst this
        exact ⟨pe_bl, rfl, rfl, rfl⟩
      | _ => cases h
    | _ => cases h
  | str i =>
    cases e with
    | Constant c k p =>
      cases c with
      | str j =>
        have := of_decide_eq_true (show decide (i = j) = true from h)
        subst this
        exact ⟨pe_str, rfl, rfl, rfl⟩
      | _ => cases h
    | _ => cases h
  | non =>
    cases e with
    | Constant c k p =>
      cases c with
      | none => exact ⟨pe_non, rfl, rfl, rfl⟩
      | _ => cases h
    | _ => cases h
  | _ => cases h
theorem isPthB_ok {nm C CXt M} {X : Cx} (T : Tx nm C CXt M X) {i : Nat} {f : Str} {e : Expr} (h : isPthB X.N X.env.scope i f e = true) : PE X e (tPth i f) ∧ isStar e = false ∧ notCallB e = true ∧ plainT e = true := by
  cases e with
  | Subscript a b p =>
    cases b with
    | Constant c k p =>
      cases c with
      | str s =>
        have h : (isVarB X.N X.env.scope i a && decide (s = f)) = true := h
        rw [Bool.and_eq_true] at h
        have e := of_decide_eq_true h.2
        subst e
        have hu := T.un
        refine ⟨peImp (pe_dget (by omega) (isVarB_ok h.1).1 pe_str fun _ _ => rfl) ?_, rfl, rfl, rfl⟩
        rintro σ H Q ⟨a, kvs, v, h1, h2, h3, q⟩
        refine ⟨_, h1, a, v, rfl, ?_, q⟩
        have g := DGet.k (k := Sum.inr s) h2
        rw [h3] at g
        exact g
      | _ => cases h
    | _ => cases h
  | _ => cases h

/-! ### comparisons -/
abbrev rP (M : Mc) (p : P) : R2 := fun x y H Q => PrC M p [x, y] H Q
theorem cmp_or {nm C CXt M} {X : Cx} (T : Tx nm C CXt M X) {p : P} {op : CmpOp} (h : cmpOp? p = some op) : OpR X (compareOp op) (rP M p) := by
  have hK := T.K
  cases p <;> first | (cases h; done) | skip
  all_goals cases h
  · have := op_eqD (X := X) T.un
    rw [hK] at this
    exact opImp this pr_eq.of
  · have := op_neD (X := X) T.un
    rw [hK] at this
    exact opImp this pr_ne.of
  · exact opImp op_lt pr_lt.of
  · exact opImp op_le pr_le.of
  · exact opImp op_gt pr_gt.of
  · exact opImp op_ge pr_ge.of
  · exact opImp op_isA pr_is.of
  · exact opImp op_notA pr_isn.of
  · have := op_in_seq (X := X)
    rw [hK] at this
    exact opImp this pr_in.of
  · have := op_notIn_seq (X := X)
    rw [hK] at this
    exact opImp this pr_nin.of
theorem bin_or {M : Mc} {X : Cx} (hK : X.K = M.K) {p : P} {op : Operator} (h : p.sh = .bin op) : OpR X (binaryOp op) (rP M p) := by
  cases p <;> first | (cases h; done) | skip
  all_goals cases h
  · have := op_addA (X := X)
    rw [hK] at this
    exact opImp this pr_add.of
  · exact opImp op_sub pr_sub.of
  · exact opImp op_mulA pr_mul.of
  · exact opImp op_fdivN pr_fdiv.of
  · exact opImp op_modN pr_mod.of
  · exact opImp op_pow pr_pow.of
end Mn
set_option Elab.async false
set_option linter.all false
set_option maxRecDepth 100000
set_option maxHeartbeats 4000000
/-! Mn, part 10: every operation as a text. -/
namespace Mn
open PySem L2
theorem PEs.nil' {X : Cx} {ts : List TE} (h : PEs X [] ts) : ts = [] := by cases h; rfl
theorem PEs.one {X : Cx} {a : Expr} {ts : List TE} (h : PEs X [a] ts) : ∃ t, ts = [t] ∧ PE X a t ∧ TMono t ∧ isStar a = false := by
  cases h with
  | cons h p m r => cases r; exact ⟨_, rfl, p, m, h⟩
theorem PEs.two {X : Cx} {a b : Expr} {ts : List TE} (h : PEs X [a, b] ts) : ∃ t u, ts = [t, u] ∧ (PE X a t ∧ TMono t ∧ isStar a = false) ∧ PE X b u ∧ TMono u ∧ isStar b = false := by
  cases h with
  | cons h p m r =>
    obtain ⟨u, rfl, q⟩ := r.one
    exact ⟨_, _, rfl, ⟨p, m, h⟩, q⟩
theorem PEs.three {X : Cx} {a b c : Expr} {ts : List TE} (h : PEs X [a, b, c] ts) : ∃ t u z, ts = [t, u, z] ∧ (PE X a t ∧ TMono t ∧ isStar a = false) ∧ (PE X b u ∧ TMono u ∧ isStar b = false) ∧ PE X c z ∧ TMono z ∧ isStar c = false := by
  cases h with
  | cons h p m r =>
    obtain ⟨u, z, rfl, q⟩ := r.two
    exact ⟨_, _, _, rfl, ⟨p, m, h⟩, q⟩
def isBoolOp : Expr → Bool
  | .BoolOp .. => true
  | _ => false
/-- an expression with its reading, as a value and as a test -/
structure Pp (X : Cx) (e : Expr) (t : TE) : Prop where
  pe : PE X e t
  pt : PT X e (tB t)
  nb : isBoolOp e = false
theorem Pp.of {X : Cx} {e : Expr} {t : TE} (h : PE X e t) (p : plainT e = true) : Pp X e t := ⟨h, ptVal h p, by cases e <;> first | rfl | cases p⟩
theorem peNever {X : Cx} {e : Expr} {t : TE} (h : ∀ σ H Q, ¬ t σ H Q) : PE X e t := ⟨fun pins s σ H Q I q => (h σ H Q q).elim⟩
abbrev tPr (M : Mc) (p : P) (ts : List TE) : TE := fun σ H Q => tsCons ts σ H fun vs H' => PrC M p vs H' Q
theorem pks_nil {K G F H ds} (h : Pks K G F H ds []) : ds = [] := by
  cases ds with
  | nil => rfl
  | cons _ _ => exact h.elim
theorem prc1 {M : Mc} {p : P} {xs : List V} {H : Hp} {Q : VK} (h1 : ∀ ds w, p.ev ds = some w → ∃ d, ds = [d]) (h : PrC M p xs H Q) : ∃ x, xs = [x] := by
  obtain ⟨ds, w, F, ex, pk, e, k⟩ := h
  obtain ⟨d, rfl⟩ := h1 ds w e
  cases xs with
  | nil => exact pk.elim
  | cons x r => cases r with
    | nil => exact ⟨x, rfl⟩
    | cons _ _ => exact pk.2.elim
theorem prc2 {M : Mc} {p : P} {xs : List V} {H : Hp} {Q : VK} (h1 : ∀ ds w, p.ev ds = some w → ∃ d e, ds = [d, e]) (h : PrC M p xs H Q) : ∃ x y, xs = [x, y] := by
  obtain ⟨ds, w, F, ex, pk, e, k⟩ := h
  obtain ⟨d, e', rfl⟩ := h1 ds w e
  cases xs with
  | nil => exact pk.elim
  | cons x r => cases r with
    | nil => exact pk.2.elim
    | cons y r => cases r with
      | nil => exact ⟨x, y, rfl⟩
      | cons _ _ => exact pk.2.2.elim
theorem prc0 {M : Mc} {p : P} {H : Hp} {Q : VK} (h1 : p.ev [] = none) : ¬ PrC M p [] H Q := by
  rintro ⟨ds, w, F, ex, pk, e, k⟩
  rw [pks_nil pk, h1] at e
  cases e
theorem fn_pe {nm C CXt M} {X : Cx} (T : Tx nm C CXt M X) {p : P} {x : Str} {id : String} {es : List Expr} {ts : List TE} {f : Expr} {pos : Pos} (hf : isBltB X.env.scope x f = true) (hx : x ∈ bltNames) (hv : bootBuiltins x = some (.builtin id))
    (h0 : p.ev [] = none) (hc : CallR X (.builtin id) (fun xs H Q => PrC M p xs H Q)) (hp : PEs X es ts) : Pp X (.Call f es [] pos) (tPr M p ts) := by
  obtain ⟨pn, rfl, hg⟩ := isGlbB_ok hf
  obtain ⟨g1, g2, g3⟩ := glB_ok hg
  refine Pp.of ?_ rfl
  cases hp with
  | nil => exact peNever fun σ H Q q => prc0 h0 q
  | cons h q m r =>
    have st := (PEs.cons h q m r).stars
    exact pe_callB hc g1 (T.blt x hx) hv (PEs.cons h q m r).pa g3 g2 (star_cons h) (star_none fun e he => st e (List.mem_cons_of_mem _ he))
theorem ty_pe {nm C CXt M} {X : Cx} (T : Tx nm C CXt M X) {p : P} {x : Str} {id : String} {es : List Expr} {ts : List TE} {f : Expr} {pos : Pos} (hf : isBltB X.env.scope x f = true) (hx : x ∈ bltNames) (hv : bootBuiltins x = some (.type id))
    (h0 : p.ev [] = none) (hc : CallR X (.type id) (fun xs H Q => PrC M p xs H Q)) (hp : PEs X es ts) : Pp X (.Call f es [] pos) (tPr M p ts) := by
  obtain ⟨pn, rfl, hg⟩ := isGlbB_ok hf
  obtain ⟨g1, g2, g3⟩ := glB_ok hg
  refine Pp.of ?_ rfl
  cases hp with
  | nil => exact peNever fun σ H Q q => prc0 h0 q
  | cons h q m r =>
    have st := (PEs.cons h q m r).stars
    exact pe_callTy hc g1 (T.blt x hx) hv (PEs.cons h q m r).pa g3 g2 (star_cons h) (star_none fun e he => st e (List.mem_cons_of_mem _ he))
/-- a call's rule from an operation's -/
theorem call1_of {X : Cx} {M : Mc} {f : Value} {p : P} {r : List V → Hp → VK → Prop} (h1 : ∀ ds w, p.ev ds = some w → ∃ d, ds = [d]) (h : Pr1 M.K M.G p (rC1 r)) (hc : CallR X f r) : CallR X f (fun xs H Q => PrC M p xs H Q) :=
  crImp hc fun xs H Q q => by
    obtain ⟨x, rfl⟩ := prc1 h1 q
    exact h.of x H Q q
theorem call2_of {X : Cx} {M : Mc} {f : Value} {p : P} {r : List V → Hp → VK → Prop} (h1 : ∀ ds w, p.ev ds = some w → ∃ d e, ds = [d, e]) (h : Pr2 M.K M.G p (fun x y H Q => r [x, y] H Q)) (hc : CallR X f r) : CallR X f (fun xs H Q => PrC M p xs H Q) :=
  crImp hc fun xs H Q q => by
    obtain ⟨x, y, rfl⟩ := prc2 h1 q
    exact h.of x y H Q q

theorem Ty.boot (t : Ty) : bootBuiltins (t.nm : Str) = some (.type t.nm) := by cases t <;> decide +kernel
theorem Ty.blt (t : Ty) : (t.nm : Str) ∈ bltNames := by cases t <;> decide +kernel
theorem isTyB_ok {nm C CXt M} {X : Cx} (T : Tx nm C CXt M X) {t : Ty} {e : Expr} (h : isTyB X.env.scope t e = true) : PE X e (tC (.ty t.nm)) ∧ isStar e = false := by
  obtain ⟨pn, rfl, hg⟩ := isGlbB_ok h
  obtain ⟨g1, g2, g3⟩ := glB_ok hg
  exact ⟨pe_bltn g1 (T.blt _ t.blt) t.boot rfl g3 g2, rfl⟩
theorem isTysB_ok {nm C CXt M} {X : Cx} (T : Tx nm C CXt M X) : ∀ {ts : List Ty} {es : List Expr}, isTysB X.env.scope ts es = true → PEs X es (ts.map fun t => tC (.ty t.nm))
  | [], [], _ => .nil
  | [], _ :: _, h => by cases h
  | _ :: _, [], h => by cases h
  | t :: ts, e :: es, h => by
    have h : (isTyB X.env.scope t e && isTysB X.env.scope ts es) = true := h
    rw [Bool.and_eq_true] at h
    exact .cons (isTyB_ok T h.1).2 (isTyB_ok T h.1).1 (TMono.cst _) (isTysB_ok T h.2)
theorem tsCons_tC {σ : L2.St} : ∀ {ts : List Ty} {H : Hp} {Q : List V → Hp → Prop}, Q (ts.map fun t => V.ty t.nm) H → tsCons (ts.map fun t => tC (.ty t.nm)) σ H Q
  | [], _, _, q => q
  | t :: ts, H, Q, q => tsCons_tC (ts := ts) (Q := fun xs H2 => Q (.ty t.nm :: xs) H2) q
theorem cls_all : ∀ ts : List Ty, Paired ClsV (ts.map fun t => V.ty t.nm) (ts.map fun t => Value.type t.nm)
  | [] => .nil
  | t :: ts => .cons (.ty _) (cls_all ts)
theorem isTy_all {K : PySem.W.Frag} {G : Nat → Option Addr} {F H : Hp} {d : D} {v : V} {t : Ty} (ex : Ex F H) (h : Pk K G F H d v) (n : d.isTy t ≠ none) : ∃ tv, TyX K H v tv ∧ ∀ t b, d.isTy t = some b → PySem.W.kitOne K tv (.type t.nm) = some b := by
  cases d with
  | non => rw [h.non]; exact ⟨_, .base .non, fun t b e => by cases t <;> (cases e; exact kit_ty (by decide +kernel))⟩
  | bl x => rw [h.bl]; exact ⟨_, .base (.bl _), fun t b e => by cases t <;> (cases e; exact kit_ty (by decide +kernel))⟩
  | int x => rw [h.int]; exact ⟨_, .base (.int _), fun t b e => by cases t <;> (cases e; exact kit_ty (by decide +kernel))⟩
  | str x => rw [h.str]; exact ⟨_, .base (.str _), fun t b e => by cases t <;> (cases e; exact kit_ty (by decide +kernel))⟩
  | tup x =>
    obtain ⟨p, vs, rfl, q, r⟩ := h.tup
    have ty : TyX K H (.ref p) (.type "tuple") := by
      rcases ex.sqT q with (q | ⟨o, q⟩) | ⟨o, its, n, q, c, _⟩
      · exact .base (.tup q)
      · exact .fTuple q
      · exact .kTuple q c
    exact ⟨_, ty, fun t b e => by cases t <;> (cases e; exact kit_ty (by decide +kernel))⟩
  | lst x =>
    obtain ⟨p, vs, rfl, q, r⟩ := h.lst ex
    exact ⟨_, .base (.lst q), fun t b e => by cases t <;> (cases e; exact kit_ty (by decide +kernel))⟩
  | dic ks x =>
    obtain ⟨p, vs, rfl, q, r⟩ := h.dic ex
    exact ⟨_, .base (.dK q), fun t b e => by cases t <;> (cases e; exact kit_ty (by decide +kernel))⟩
  | _ => exact absurd rfl n
theorem isi1 {M : Mc} {t : Ty} {x : V} {H : Hp} {Q : VK} (h : PrC M (.isi [t]) [x] H Q) : rIsi M.K [x, .ty t.nm] H Q := by
  obtain ⟨ds, w, F, ex, pk, e, k⟩ := h
  obtain ⟨d, rfl, h1⟩ := pks1 pk
  have e : (d.isTys [t]).map (fun k => W.val (.bl k)) = some w := e
  obtain ⟨b, e2, rfl⟩ := Option.map_eq_some_iff.mp e
  have e3 : (match d.isTy t with | some true => some true | some false => some false | none => none) = some b := e2
  have e4 : d.isTy t = some b := by
    cases q : d.isTy t with
    | none => rw [q] at e3; cases e3
    | some c => rw [q] at e3; cases c <;> (cases e3; rfl)
  obtain ⟨tv, ty, e5⟩ := isTy_ok ex h1 e4
  exact ⟨x, _, tv, _, b, rfl, .ty _, ty, e5, k _ _ (PostW.bl ex)⟩
theorem isi2 {M : Mc} {ts : List Ty} (hne : ts ≠ []) {x : V} {H : Hp} {Q : VK} {p : Addr} (hp : H p = none) (h : PrC M (.isi ts) [x] H Q) : rIsiT M.K [x, .ref p] (upd H p (.tup (ts.map fun t => V.ty t.nm))) Q := by
  obtain ⟨ds, w, F, ex, pk, e, k⟩ := h
  obtain ⟨d, rfl, h1⟩ := pks1 pk
  have e : (d.isTys ts).map (fun k => W.val (.bl k)) = some w := e
  obtain ⟨b, e2, rfl⟩ := Option.map_eq_some_iff.mp e
  have ex2 : Ex H (upd H p (.tup (ts.map fun t => V.ty t.nm))) := Ex.new hp
  have h2 : Pk M.K M.G (upd H p (.tup (ts.map fun t => V.ty t.nm))) (upd H p (.tup (ts.map fun t => V.ty t.nm))) d x := .inl ((h1.rp ex).mono ex2)
  obtain ⟨t0, tr, rfl⟩ : ∃ t0 tr, ts = t0 :: tr := by
    cases ts with
    | nil => exact absurd rfl hne
    | cons a b => exact ⟨a, b, rfl⟩
  have hty : ∃ tv, TyX M.K (upd H p (.tup ((t0 :: tr).map fun t => V.ty t.nm))) x tv ∧ ∀ t b, d.isTy t = some b → PySem.W.kitOne M.K tv (.type t.nm) = some b := by
    refine isTy_all (Ex.refl _) h2 (t := t0) fun hq => ?_
    have e3 : (match d.isTy t0 with | some true => some true | some false => D.isTys d tr | none => none) = some b := e2
    rw [hq] at e3
    cases e3
  obtain ⟨tv, ty, hk⟩ := hty
  refine ⟨x, p, _, tv, _, b, rfl, upd_same, cls_all _, ty, isTys_ok (Ex.refl _) h2 ty hk e2, k _ _ ?_⟩
  exact ⟨F, fun _ => False, Ex.refl _, fun _ h => .inl h, ex.trans ex2, ex2, WR.bl, fun _ h => h.elim⟩
end Mn
set_option Elab.async false
set_option linter.all false
set_option maxRecDepth 100000
set_option maxHeartbeats 4000000
/-! Mn, part 11: every operation as a text, joined. -/
namespace Mn
open PySem L2
section
variable {nm : Nat → Str} {C : Cn} {CXt : CXT} {M : Mc} {X : Cx} {p : P} {e : Expr} {es : List Expr} {ts : List TE}
theorem sh_bin (T : Tx nm C CXt M X) {op : Operator} (hp : p.sh = .bin op) (h : shB X.env.scope (.bin op) e = some es) (q : PEs X es ts) : Pp X e (tPr M p ts) := by
  cases e <;> first | (cases h; done) | skip
  rename_i a o b pos
  have h : (if o = op then some [a, b] else none) = some es := h
  by_cases ho : o = op
  · rw [if_pos ho] at h
    cases h
    subst ho
    obtain ⟨t, u, rfl, ⟨pa, ma, _⟩, pb, mb, _⟩ := q.two
    exact Pp.of (pe_op (bin_or T.K hp) pa pb) rfl
  · rw [if_neg ho] at h
    cases h
theorem sh_cmp (T : Tx nm C CXt M X) {op : CmpOp} (hp : cmpOp? p = some op) (h : shB X.env.scope (.cmp op) e = some es) (q : PEs X es ts) : Pp X e (tPr M p ts) := by
  cases e <;> first | (cases h; done) | skip
  rename_i a ops cs pos
  cases ops with
  | nil => cases h
  | cons o r => cases r with
    | cons _ _ => cases h
    | nil => cases cs with
      | nil => cases h
      | cons b r => cases r with
        | cons _ _ => cases h
        | nil =>
          have h : (if o = op ∧ isSetE b = false then some [a, b] else none) = some es := h
          by_cases ho : o = op ∧ isSetE b = false
          · rw [if_pos ho] at h
            cases h
            obtain ⟨ho, hb⟩ := ho
            subst ho
            obtain ⟨t, u, rfl, ⟨pa, ma, _⟩, pb, mb, _⟩ := q.two
            exact ⟨pe_cmpR (cmp_or T hp) pa pb (noMark hb), pt_cmpR (cmp_or T hp) pa pb (noMark hb), rfl⟩
          · rw [if_neg ho] at h
            cases h
theorem sh_ix (T : Tx nm C CXt M X) (h : shB X.env.scope .ix e = some es) (q : PEs X es ts) : Pp X e (tPr M .ix ts) := by
  cases e <;> first | (cases h; done) | skip
  rename_i a b pos
  have h : (if isSlice b then none else some [a, b]) = some es := h
  cases hs : isSlice b with
  | true => rw [hs] at h; cases h
  | false =>
    rw [hs] at h
    cases h
    obtain ⟨t, u, rfl, ⟨pa, ma, _⟩, pb, mb, _⟩ := q.two
    have hu := T.un
    have r := ix_all (X := X) (by omega)
    rw [T.K] at r
    exact Pp.of (pe_ix (ixImp r pr_ix.of) pa pb (plainIx hs)) rfl
theorem isSlE {sc : Scope} {a b : Bool} {es : List Expr} (h : shB sc (.sl a b) e = some es) : ∃ x l hh pp pos, e = .Subscript x (.Slice l hh none pp) pos ∧
    ((a = true ∧ b = true ∧ ∃ l' h', l = some l' ∧ hh = some h' ∧ es = [x, l', h']) ∨ (a = true ∧ b = false ∧ ∃ l', l = some l' ∧ hh = none ∧ es = [x, l']) ∨ (a = false ∧ b = true ∧ ∃ l', l = none ∧ hh = some l' ∧ es = [x, l'])) := by
  cases e <;> first | (cases a <;> cases b <;> cases h; done) | skip
  rename_i x s pos
  cases s <;> first | (cases a <;> cases b <;> cases h; done) | skip
  rename_i l hh st pp
  cases st with
  | some _ => cases a <;> cases b <;> cases l <;> cases hh <;> cases h
  | none =>
    refine ⟨x, l, hh, pp, pos, rfl, ?_⟩
    cases a <;> cases b <;> cases l <;> cases hh <;> first
      | (cases h; done)
      | (cases h; exact .inl ⟨rfl, rfl, _, _, rfl, rfl, rfl⟩)
      | (cases h; exact .inr (.inl ⟨rfl, rfl, _, rfl, rfl, rfl⟩))
      | (cases h; exact .inr (.inr ⟨rfl, rfl, _, rfl, rfl, rfl⟩))
theorem slI2 {a b : Bool} {d1 d2 : D} {w : W} (h : (P.sl a b).ev [d1, d2] = some w) : ∃ i, d2 = .int i := by
  cases d2 with
  | int i => exact ⟨i, rfl⟩
  | _ => cases a <;> cases b <;> cases d1 <;> cases h
theorem slI3 {a b : Bool} {d1 d2 d3 : D} {w : W} (h : (P.sl a b).ev [d1, d2, d3] = some w) : ∃ i j, d2 = .int i ∧ d3 = .int j := by
  cases d2 with
  | int i => cases d3 with
    | int j => exact ⟨i, j, rfl, rfl⟩
    | _ => cases a <;> cases b <;> cases d1 <;> cases h
  | _ => cases a <;> cases b <;> cases d1 <;> first | (cases h; done) | (cases d3 <;> cases h)
open PySem PySem.Spec PyProof.Rows in
theorem pe_sl11 {X : Cx} {e lo hi : Expr} {te tl th : TE} {pos p2 : Pos} {r : V → Option Int → Option Int → Hp → VK → Prop} (hr : SlR X r) (he : PE X e te) (hl : PE X lo tl) (hu : PE X hi th) :
    PE X (.Subscript e (.Slice (some lo) (some hi) none p2) pos) (fun σ H Q => te σ H fun x H1 => tl σ H1 fun l H2 => th σ H2 fun u H3 => ∃ i j, l = .int i ∧ u = .int j ∧ r x (some i) (some j) H3 Q) := by
  refine ⟨fun pins s σ H Q I h => ?_⟩
  refine Subscript_ (thn (he.run pins s σ H _ I h) fun v s1 ⟨x, H1, I1, r1, q1⟩ => ?_)
  refine wpAny_Slice ?_
  rw [evalPart_some]
  refine thn (hl.run pins s1 σ H1 _ I1 q1) fun vl s2 ⟨l, H2, I2, rl, q2⟩ => ?_
  rw [evalPart_some]
  refine thn (hu.run pins s2 σ H2 _ I2 q2) fun vu s3 ⟨u, H3, I3, ru, i, j, e1, e2, q3⟩ => ?_
  subst e1 e2
  obtain ⟨t1, rfl⟩ := rl
  obtain ⟨t2, rfl⟩ := ru
  rw [evalPart_none]
  refine wpAny_pure ?_
  have I4 : L2.Inv X pins σ H3 { s3 with heap := s3.heap.push { cls := .type "slice", data := .fields #[.int i t1, .int j t2, .none] } } := I3.kept (t' := s3.toks) fun b ob q => Heap.get?_push_of_some _ q
  obtain ⟨T, id, hT, ht, hg⟩ := hr pins { s3 with heap := s3.heap.push { cls := .type "slice", data := .fields #[.int i t1, .int j t2, .none] } } σ H3 x v (.int i t1) (.int j t2) (some i) (some j) s3.heap.objs.size Q I4 r1 (Heap.IsSliceOf.new ..) (.int i t1) (.int j t2) q3
  show wpAny (model X.prog X.w) X.A (subscriptTail e (.Slice (some lo) (some hi) none p2) v (.ref s3.heap.objs.size)) (EP X pins σ Q) X.xe { s3 with heap := s3.heap.push { cls := .type "slice", data := .fields #[.int i t1, .int j t2, .none] } }
  exact tail_any (ops := [.ref s3.heap.objs.size, v]) ht hT hg (by with_unfolding_all rfl)
theorem sh_sl (T : Tx nm C CXt M X) {a b : Bool} (h : shB X.env.scope (.sl a b) e = some es) (q : PEs X es ts) : Pp X e (tPr M (.sl a b) ts) := by
  have r := sl_all (X := X)
  rw [T.K] at r
  obtain ⟨x, l, hh, pp, pos, rfl, z⟩ := isSlE h
  rcases z with ⟨rfl, rfl, l', h', rfl, rfl, rfl⟩ | ⟨rfl, rfl, l', rfl, rfl, rfl⟩ | ⟨rfl, rfl, l', rfl, rfl, rfl⟩
  · obtain ⟨t, u, z, rfl, ⟨pa, ma, _⟩, ⟨pb, mb, _⟩, pc, mc, _⟩ := q.three
    refine Pp.of (peImp (pe_sl11 r pa pb pc) fun σ H Q q => ma _ _ _ _ (fun x H1 q => mb _ _ _ _ (fun y H2 q => mc _ _ _ _ (fun z H3 q => ?_) q) q) q) rfl
    obtain ⟨ds, w, F, ex, pk, ev, k⟩ := q
    obtain ⟨d1, d2, d3, rfl, h1, h2, h3⟩ := pks3 pk
    obtain ⟨i, j, rfl, rfl⟩ := slI3 ev
    exact ⟨i, j, h2.int, h3.int, pr_sl11 d1 w F H3 x Q ev ex h1 k⟩
  · obtain ⟨t, u, rfl, ⟨pa, ma, _⟩, pb, mb, _⟩ := q.two
    refine Pp.of (peImp (pe_slice r pa (po_some pb) po_none) fun σ H Q q => ma _ _ _ _ (fun x H1 q => mb _ _ _ _ (fun y H2 q => ?_) q) q) rfl
    obtain ⟨ds, w, F, ex, pk, ev, k⟩ := q
    obtain ⟨d1, d2, rfl, h1, h2⟩ := pks2 pk
    obtain ⟨i, rfl⟩ := slI2 ev
    exact ⟨i, h2.int, pr_sl10 d1 w F H2 x Q ev ex h1 k⟩
  · obtain ⟨t, u, rfl, ⟨pa, ma, _⟩, pb, mb, _⟩ := q.two
    refine Pp.of (peImp (pe_slice r pa po_none (po_some pb)) fun σ H Q q => ma _ _ _ _ (fun x H1 q => mb _ _ _ _ (fun y H2 q => ?_) q) q) rfl
    obtain ⟨ds, w, F, ex, pk, ev, k⟩ := q
    obtain ⟨d1, d2, rfl, h1, h2⟩ := pks2 pk
    obtain ⟨i, rfl⟩ := slI2 ev
    exact ⟨i, h2.int, pr_sl01 d1 w F H2 x Q ev ex h1 k⟩
theorem sh_rv (T : Tx nm C CXt M X) (h : shB X.env.scope .rv e = some es) (q : PEs X es ts) : Pp X e (tPr M .rv ts) := by
  cases e <;> first | (cases h; done) | skip
  rename_i a s pos
  cases s <;> first | (cases h; done) | skip
  rename_i l u st p3
  cases l <;> cases u <;> cases st <;> first | (cases h; done) | skip
  rename_i st
  cases st <;> first | (cases h; done) | skip
  rename_i op x p2
  cases op <;> first | (cases h; done) | skip
  cases x <;> first | (cases h; done) | skip
  rename_i c k p1
  cases c <;> first | (cases h; done) | skip
  rename_i j
  have h : (if j = 1 then some [a] else none) = some es := h
  by_cases hj : j = 1
  · rw [if_pos hj] at h
    cases h
    subst hj
    obtain ⟨t, rfl, pa, ma, _⟩ := q.one
    refine Pp.of (peImp (pe_revL pa) fun σ H Q q => ma _ _ _ _ (fun x H1 q => ?_) q) rfl
    rw [T.K]
    exact pr_rv.of x H1 Q q
  · rw [if_neg hj] at h
    cases h
theorem sh_nil (T : Tx nm C CXt M X) {neg tup : Bool} (h : shB X.env.scope (.nil neg tup) e = some es) (q : PEs X es ts) : Pp X e (tPr M (.eqNil neg tup) ts) := by
  cases e <;> first | (cases h; done) | skip
  rename_i a ops cs pos
  cases ops with
  | nil => cases h
  | cons o r => cases r with
    | cons _ _ => cases h
    | nil => cases cs with
      | nil => cases h
      | cons b r => cases r with
        | cons _ _ => cases h
        | nil =>
          have h : (if o = (if neg then .NotEq else .Eq) ∧ nilE tup b = true then some [a] else none) = some es := h
          by_cases ho : o = (if neg then .NotEq else .Eq) ∧ nilE tup b = true
          · rw [if_pos ho] at h
            cases h
            obtain ⟨ho, hb⟩ := ho
            obtain ⟨t, rfl, pa, ma, _⟩ := q.one
            have hb2 : PE X b (fun σ H Q => ∀ p, H p = none → Q (.ref p) (upd H p (if tup then .tup [] else .lst []))) := by
              cases tup with
              | true =>
                cases b <;> first | (cases hb; done) | skip
                rename_i es _ _
                cases es with
                | cons _ _ => cases hb
                | nil => exact peImp (pe_tup pa_nil) fun σ H Q q => ⟨Nat.zero_le _, q⟩
              | false =>
                cases b <;> first | (cases hb; done) | skip
                rename_i es _
                cases es with
                | cons _ _ => cases hb
                | nil => exact peImp (pe_lst pa_nil) fun σ H Q q => ⟨Nat.zero_le _, q⟩
            have hm : behindInMarks o b = false := noMark (by cases tup <;> cases b <;> first | rfl | cases hb)
            have hor : OpR X (compareOp o) (if neg then rNeD X.K else rEqD X.K) := by
              rw [ho]
              cases neg with
              | true => exact op_neD T.un
              | false => exact op_eqD T.un
            rw [T.K] at hor
            have key : ∀ σ H Q, tPr M (.eqNil neg tup) [t] σ H Q → tOp (if neg then rNeD M.K else rEqD M.K) t (fun σ H Q => ∀ p, H p = none → Q (.ref p) (upd H p (if tup then .tup [] else .lst []))) σ H Q := fun σ H Q q =>
              ma _ _ _ _ (fun x H1 q p hp => pr_eqNil.of x H1 Q q p hp) q
            exact ⟨peImp (pe_cmpR hor pa hb2 hm) key, ptImp (pt_cmpR hor pa hb2 hm) fun σ H Q q => key σ H _ q, rfl⟩
          · rw [if_neg ho] at h
            cases h
end
end Mn
set_option Elab.async false
set_option linter.all false
set_option maxRecDepth 100000
set_option maxHeartbeats 4000000
/-! Mn, part 12: calls of built-ins as texts; all operations. -/
namespace Mn
open PySem L2
section
variable {nm : Nat → Str} {C : Cn} {CXt : CXT} {M : Mc} {X : Cx} {p : P} {e : Expr} {es : List Expr} {ts : List TE}
theorem sh_fnE {sc : Scope} {x : Str} (h : shB sc (.fn x) e = some es) : ∃ f pos, e = .Call f es [] pos ∧ isBltB sc x f = true := by
  cases e <;> first | (cases h; done) | skip
  rename_i f as kws pos
  cases kws with
  | cons _ _ => cases h
  | nil =>
    have h : (if isBltB sc x f then some as else none) = some es := h
    cases hb : isBltB sc x f with
    | false => rw [hb] at h; cases h
    | true =>
      rw [hb] at h
      cases h
      exact ⟨f, pos, rfl, hb⟩
theorem sh_tyE {sc : Scope} {x : Str} (h : shB sc (.ty x) e = some es) : ∃ f pos, e = .Call f es [] pos ∧ isBltB sc x f = true := by
  cases e <;> first | (cases h; done) | skip
  rename_i f as kws pos
  cases kws with
  | cons _ _ => cases h
  | nil =>
    have h : (if isBltB sc x f then some as else none) = some es := h
    cases hb : isBltB sc x f with
    | false => rw [hb] at h; cases h
    | true =>
      rw [hb] at h
      cases h
      exact ⟨f, pos, rfl, hb⟩
theorem ev1 {p : P} (h : ∀ a b r, p.ev (a :: b :: r) = none) (h0 : p.ev [] = none) : ∀ ds w, p.ev ds = some w → ∃ d, ds = [d] := by
  intro ds w e
  cases ds with
  | nil => rw [h0] at e; cases e
  | cons d r => cases r with
    | nil => exact ⟨d, rfl⟩
    | cons b r => rw [h] at e; cases e
theorem sh_fn (T : Tx nm C CXt M X) {x : Str} (hp : p.sh = .fn x) (h : shB X.env.scope (.fn x) e = some es) (q : PEs X es ts) : Pp X e (tPr M p ts) := by
  obtain ⟨f, pos, rfl, hb⟩ := sh_fnE h
  have hK := T.K
  cases p <;> first | (cases hp; done) | skip
  all_goals cases hp
  · have r := call_len_seq (X := X)
    rw [hK] at r
    exact fn_pe T hb (by decide +kernel) (id := "len") (by decide +kernel) rfl (call1_of (ev1 (fun a b r => by cases a <;> rfl) rfl) pr_len r) q
  · exact fn_pe T hb (by decide +kernel) (id := "abs") (by decide +kernel) rfl (call1_of (ev1 (fun a b r => by cases a <;> rfl) rfl) pr_abs call_abs) q
  · refine fn_pe T hb (by decide +kernel) (id := "min") (by decide +kernel) rfl (call2_of ?_ pr_min2 (call_min2 T.calm)) q
    intro ds w e
    match ds, e with
    | [a, b], _ => exact ⟨a, b, rfl⟩
    | [], e => cases e
    | [a], e => cases a <;> cases e
    | a :: b :: c :: r, e => cases a <;> cases b <;> cases e
  · have r := MnM.cr_sortedA (X := X)
    rw [hK] at r
    exact fn_pe T hb (by decide +kernel) (id := "sorted") (by decide +kernel) rfl (call1_of (ev1 (fun a b r => by cases a <;> rfl) rfl) pr_sortd r) q
  · have r := cr_all (X := X) T.calm
    rw [hK] at r
    exact fn_pe T hb (by decide +kernel) (id := "all") (by decide +kernel) rfl (call1_of (ev1 (fun a b r => by cases a <;> rfl) rfl) pr_all r) q
  · have r := cr_any (X := X) T.calm
    rw [hK] at r
    exact fn_pe T hb (by decide +kernel) (id := "any") (by decide +kernel) rfl (call1_of (ev1 (fun a b r => by cases a <;> rfl) rfl) pr_any r) q
theorem sh_ty (T : Tx nm C CXt M X) {x : Str} (hp : p.sh = .ty x) (h : shB X.env.scope (.ty x) e = some es) (q : PEs X es ts) : Pp X e (tPr M p ts) := by
  obtain ⟨f, pos, rfl, hb⟩ := sh_tyE h
  have hK := T.K
  cases p <;> first | (cases hp; done) | skip
  all_goals cases hp
  · have r := call_list_of (X := X)
    rw [hK] at r
    exact ty_pe T hb (by decide +kernel) (id := "list") (by decide +kernel) rfl (call1_of (ev1 (fun a b r => by cases a <;> rfl) rfl) pr_lstOf r) q
  · exact ty_pe T hb (by decide +kernel) (id := "int") (by decide +kernel) rfl (call1_of (ev1 (fun a b r => by cases a <;> rfl) rfl) pr_intOf call_int1) q
theorem blt_of {nm C CXt M} {X : Cx} (T : Tx nm C CXt M X) {x : Str} {f : Expr} (hf : isBltB X.env.scope x f = true) (hx : x ∈ bltNames) : ∃ pn, f = .Name x pn ∧ Gl X x ∧ X.mg x = none := by
  obtain ⟨pn, rfl, hg⟩ := isGlbB_ok hf
  obtain ⟨g1, g2, g3⟩ := glB_ok hg
  exact ⟨pn, rfl, g1, T.blt x hx⟩
theorem call1_ok {sc : Scope} {x : Str} {a : Expr} (h : call1? sc x e = some a) : ∃ f pos, e = .Call f [a] [] pos ∧ isBltB sc x f = true := by
  cases e <;> first | (cases h; done) | skip
  rename_i f as kws pos
  cases as with
  | nil => cases h
  | cons b r => cases r with
    | cons _ _ => cases kws <;> cases h
    | nil => cases kws with
      | cons _ _ => cases h
      | nil =>
        have h : (if isBltB sc x f then some b else none) = some a := h
        cases hb : isBltB sc x f with
        | false => rw [hb] at h; cases h
        | true =>
          rw [hb] at h
          cases h
          exact ⟨f, pos, rfl, hb⟩
theorem call2_ok {sc : Scope} {x : Str} {a b : Expr} (h : call2? sc x e = some (a, b)) : ∃ f pos, e = .Call f [a, b] [] pos ∧ isBltB sc x f = true := by
  cases e <;> first | (cases h; done) | skip
  rename_i f as kws pos
  cases as with
  | nil => cases h
  | cons c r => cases r with
    | nil => cases kws <;> cases h
    | cons d r => cases r with
      | cons _ _ => cases kws <;> cases h
      | nil => cases kws with
        | cons _ _ => cases h
        | nil =>
          have h : (if isBltB sc x f then some (c, d) else none) = some (a, b) := h
          cases hb : isBltB sc x f with
          | false => rw [hb] at h; cases h
          | true =>
            rw [hb] at h
            cases h
            exact ⟨f, pos, rfl, hb⟩
theorem map1 {o : Option Expr} (h : o.map (fun a => [a]) = some es) : ∃ a, o = some a ∧ es = [a] := by
  obtain ⟨a, e, q⟩ := Option.map_eq_some_iff.mp h
  exact ⟨a, e, q.symm⟩
theorem sh_tupOf (T : Tx nm C CXt M X) (h : shB X.env.scope .tupOf e = some es) (q : PEs X es ts) : Pp X e (tPr M .tupOf ts) := by
  obtain ⟨a, h9, rfl⟩ := map1 (show (call1? X.env.scope "tuple" e).map (fun a => [a]) = some es from h)
  obtain ⟨f, pos, rfl, hb⟩ := call1_ok h9
  obtain ⟨pn, rfl, g, m⟩ := blt_of T hb (by decide +kernel)
  obtain ⟨t, rfl, pa, ma, st⟩ := q.one
  refine Pp.of (peImp (pe_tupleOf g m pa (star_cons st)) fun σ H Q q => ma _ _ _ _ (fun x H1 q => ?_) q) rfl
  rw [T.K]
  exact pr_tupOf.of x H1 Q q
theorem sh_lstRng (T : Tx nm C CXt M X) (h : shB X.env.scope .lstRng e = some es) (q : PEs X es ts) : Pp X e (tPr M .lstRng1 ts) := by
  have h : (match call1? X.env.scope "list" e with | some g => (call1? X.env.scope "range" g).map (fun a => [a]) | none => none) = some es := h
  cases h1 : call1? X.env.scope "list" e with
  | none => rw [h1] at h; cases h
  | some g =>
    rw [h1] at h
    obtain ⟨a, h9, rfl⟩ := map1 h
    obtain ⟨f, pos, rfl, hb⟩ := call1_ok h1
    obtain ⟨f2, pos2, rfl, hb2⟩ := call1_ok h9
    obtain ⟨pn, rfl, gl, m⟩ := blt_of T hb (by decide +kernel)
    obtain ⟨pn2, rfl, gl2, m2⟩ := blt_of T hb2 (by decide +kernel)
    obtain ⟨t, rfl, pa, ma, st⟩ := q.one
    refine Pp.of (peImp (pe_listRg T.calm gl m (prg_1 gl2 m2 pa (star_cons st)) (star_cons rfl)) fun σ H Q q => ma _ _ _ _ (fun x H1 q => ?_) q) rfl
    obtain ⟨n, e1, e2, e3⟩ := pr_lstRng1.of x H1 Q q
    exact ⟨n, e1, e2, e3⟩
theorem sh_tupRev (T : Tx nm C CXt M X) (h : shB X.env.scope .tupRev e = some es) (q : PEs X es ts) : Pp X e (tPr M .tupRev ts) := by
  have h : (match call1? X.env.scope "tuple" e with | some g => (call1? X.env.scope "reversed" g).map (fun a => [a]) | none => none) = some es := h
  cases h1 : call1? X.env.scope "tuple" e with
  | none => rw [h1] at h; cases h
  | some g =>
    rw [h1] at h
    obtain ⟨a, h9, rfl⟩ := map1 h
    obtain ⟨f, pos, rfl, hb⟩ := call1_ok h1
    obtain ⟨f2, pos2, rfl, hb2⟩ := call1_ok h9
    obtain ⟨pn, rfl, gl, m⟩ := blt_of T hb (by decide +kernel)
    obtain ⟨pn2, rfl, gl2, m2⟩ := blt_of T hb2 (by decide +kernel)
    obtain ⟨t, rfl, pa, ma, st⟩ := q.one
    refine Pp.of (peImp (MnM.pe_tupRevA T.calm gl m gl2 m2 pa (star_cons st) (star_cons rfl)) fun σ H Q q => ma _ _ _ _ (fun x H1 q => ?_) q) rfl
    rw [T.K]
    exact pr_tupRev.of x H1 Q q
theorem sh_isi (T : Tx nm C CXt M X) {tys : List Ty} (h : shB X.env.scope (.isi tys) e = some es) (q : PEs X es ts) : Pp X e (tPr M (.isi tys) ts) := by
  have h : (match call2? X.env.scope "isinstance" e with | some (a, T) => if isiT X.env.scope tys T then some [a] else none | none => none) = some es := h
  cases h1 : call2? X.env.scope "isinstance" e with
  | none => rw [h1] at h; cases h
  | some g =>
    obtain ⟨a, U⟩ := g
    rw [h1] at h
    have h : (if isiT X.env.scope tys U then some [a] else none) = some es := h
    cases h2 : isiT X.env.scope tys U with
    | false => rw [h2] at h; cases h
    | true =>
      rw [h2] at h
      cases h
      obtain ⟨f, pos, rfl, hb⟩ := call2_ok h1
      obtain ⟨pn, rfl, g1⟩ := isGlbB_ok hb
      obtain ⟨gl, gd, gn⟩ := glB_ok g1
      have m := T.blt "isinstance" (by decide +kernel)
      obtain ⟨t, rfl, pa, ma, st⟩ := q.one
      cases tys with
      | nil => cases h2
      | cons t0 r =>
        cases r with
        | nil =>
          obtain ⟨pU, sU⟩ := isTyB_ok T (show isTyB X.env.scope t0 U = true from h2)
          have pA : PA X [a, U] _ := (PEs.cons st pa ma (.cons sU pU (TMono.cst _) .nil)).pa
          refine Pp.of (peImp (pe_callB call_isi gl m (by decide +kernel) pA gn gd (star_cons st) (star_none fun e he => by
            rw [List.mem_singleton.mp he]
            exact sU)) fun σ H Q q => ma _ _ _ _ (fun x H1 q => ?_) q) rfl
          rw [T.K]
          exact isi1 q
        | cons t1 r =>
          obtain ⟨Ts, k, pt, rfl⟩ : ∃ Ts k pt, U = .Tuple Ts k pt := by cases U <;> first | exact ⟨_, _, _, rfl⟩ | cases h2
          have h2 : (isTysB X.env.scope (t0 :: t1 :: r) Ts && decide (r.length ≤ 100)) = true := h2
          rw [Bool.and_eq_true] at h2
          have hT := isTysB_ok T h2.1
          have hl := of_decide_eq_true h2.2
          have pA : PA X [a, .Tuple Ts k pt] _ := pa_cons pa (pa_cons (pe_tup hT.pa) pa_nil (star_cons rfl)) (star_cons st)
          refine Pp.of (peImp (pe_callB call_isiT gl m (by decide +kernel) pA gn gd (star_cons st) (star_none fun e he => by
            rw [List.mem_singleton.mp he]
            rfl)) fun σ H Q q => ma _ _ _ _ (fun x H1 q => ?_) q) rfl
          refine tsCons_tC ⟨?_, fun p hp => ?_⟩
          · rw [List.length_map, sizeLine_eq]
            simp only [List.length_cons]
            omega
          · show rIsiT X.K _ _ _
            rw [T.K]
            exact isi2 (ts := t0 :: t1 :: r) (fun z => nomatch z) hp q
theorem pr_split {K : PySem.W.Frag} {G : Nat → Option Addr} {t s : Str} {w : W} {F H : Hp} {Q : VK} (h : (P.split t).ev [.str s] = some w) (ex : Ex F H) (k : ∀ v H', PostW K G F H w v H' → Q v H') : (t.length == 0) = false ∧ s.length + 2 ≤ sizeLine ∧ rNewStrs (Txt.split s t) H Q := by
  have h : (if t.length == 0 || !(decide (s.length + 2 ≤ 16777216)) then none else some (W.lst ((Txt.split s t).map D.str))) = some w := h
  cases c1 : t.length == 0 with
  | true => rw [c1] at h; cases h
  | false =>
    rw [c1] at h
    by_cases c2 : s.length + 2 ≤ 16777216
    · rw [decide_eq_true c2] at h
      cases h
      exact ⟨rfl, by rw [sizeLine_eq]; exact c2, fun p hp => k _ _ (PostW.lst ex hp (Rps.of_strs _))⟩
    · rw [decide_eq_false c2] at h
      cases h
theorem sh_split (T : Tx nm C CXt M X) {t : Str} (h : shB X.env.scope (.split t) e = some es) (q : PEs X es ts) : Pp X e (tPr M (.split t) ts) := by
  cases e <;> first | (cases h; done) | skip
  rename_i f as kws pos
  cases f <;> first | (cases h; done) | skip
  rename_i a m ap
  cases as with
  | nil => cases h
  | cons b r =>
    cases b <;> first | (cases r <;> cases kws <;> cases h; done) | skip
    rename_i c k cp
    cases c <;> first | (cases r <;> cases kws <;> cases h; done) | skip
    rename_i u
    cases r with
    | cons _ _ => cases kws <;> cases h
    | nil => cases kws with
      | cons _ _ => cases h
      | nil =>
        have h : (if decide (m = "split") && decide (u = t) && (ap.endLine == pos.line) && notCallB a then some [a] else none) = some es := h
        by_cases hc : (decide (m = "split") && decide (u = t) && (ap.endLine == pos.line) && notCallB a) = true
        · rw [if_pos hc] at h
          cases h
          rw [Bool.and_eq_true, Bool.and_eq_true, Bool.and_eq_true] at hc
          obtain ⟨⟨⟨h1, h0⟩, h2⟩, h3⟩ := hc
          have h1 := of_decide_eq_true h1
          have h0 := of_decide_eq_true h0
          subst h1 h0
          obtain ⟨tt, rfl, pa, ma, sa⟩ := q.one
          refine Pp.of (peImp (pe_split pa pe_str rfl (attrBase h3) h2) fun σ H Q q => ma _ _ _ _ (fun x H1 q => ?_) q) rfl
          obtain ⟨ds, w, F, ex, pk, ev, k⟩ := q
          obtain ⟨d, rfl, h5⟩ := pks1 pk
          cases d <;> first | (cases ev; done) | skip
          obtain ⟨r1, r2, r3⟩ := pr_split ev ex k
          have hx := h5.str
          subst hx
          exact ⟨⟨_, rfl⟩, _, _, rfl, rfl, r1, r2, r3⟩
        · rw [if_neg hc] at h
          cases h
/-- every operation -/
theorem prim_pp (T : Tx nm C CXt M X) (h : shB X.env.scope p.sh e = some es) (q : PEs X es ts) : Pp X e (tPr M p ts) := by
  cases p with
  | add => exact sh_bin T (p := .add) rfl h q
  | sub => exact sh_bin T (p := .sub) rfl h q
  | mul => exact sh_bin T (p := .mul) rfl h q
  | fdiv => exact sh_bin T (p := .fdiv) rfl h q
  | mod => exact sh_bin T (p := .mod) rfl h q
  | pow => exact sh_bin T (p := .pow) rfl h q
  | eq => exact sh_cmp T (p := .eq) rfl h q
  | ne => exact sh_cmp T (p := .ne) rfl h q
  | lt => exact sh_cmp T (p := .lt) rfl h q
  | le => exact sh_cmp T (p := .le) rfl h q
  | gt => exact sh_cmp T (p := .gt) rfl h q
  | ge => exact sh_cmp T (p := .ge) rfl h q
  | is_ => exact sh_cmp T (p := .is_) rfl h q
  | isn => exact sh_cmp T (p := .isn) rfl h q
  | in_ => exact sh_cmp T (p := .in_) rfl h q
  | nin => exact sh_cmp T (p := .nin) rfl h q
  | ix => exact sh_ix T h q
  | sl a b => exact sh_sl T h q
  | rv => exact sh_rv T h q
  | eqNil n t => exact sh_nil T h q
  | len => exact sh_fn T (p := .len) rfl h q
  | isi ts => exact sh_isi T h q
  | tupOf => exact sh_tupOf T h q
  | lstOf => exact sh_ty T (p := .lstOf) rfl h q
  | lstRng1 => exact sh_lstRng T h q
  | abs => exact sh_fn T (p := .abs) rfl h q
  | intOf => exact sh_ty T (p := .intOf) rfl h q
  | min2 => exact sh_fn T (p := .min2) rfl h q
  | sortd => exact sh_fn T (p := .sortd) rfl h q
  | all_ => exact sh_fn T (p := .all_) rfl h q
  | any_ => exact sh_fn T (p := .any_) rfl h q
  | tupRev => exact sh_tupRev T h q
  | split t => exact sh_split T h q
end
end Mn
set_option Elab.async false
set_option linter.all false
set_option maxRecDepth 100000
set_option maxHeartbeats 4000000
/-! Mn, part 13: expressions are sound, the plain ones. -/
namespace Mn
open PySem L2
structure Ok3 (C : Cn) (M : Mc) (X : Cx) (m : E) (e : Expr) : Prop where
  pe : PE X e (tE M (evE C m))
  pt : PT X e (tB (tE M (evE C m)))
  pw : isBoolOp e = true → PW X e (tB (tE M (evE C m)))
  st : isStar e = false
theorem Ok3.of {C : Cn} {M : Mc} {X : Cx} {m : E} {e : Expr} (h : PE X e (tE M (evE C m))) (p : plainT e = true) (s : isStar e = false) : Ok3 C M X m e :=
  ⟨h, ptVal h p, fun z => (by cases e <;> first | (cases p; done) | (cases z; done)), s⟩
structure OkA (C : Cn) (M : Mc) (X : Cx) (m : E) (es : List Expr) : Prop where
  a : ∃ ts, PEs X es ts ∧ rdsA M C m = tsCons ts
  l : ∃ ts, PEs X es ts ∧ rdsL M C m = tsCons ts
def OkK (C : Cn) (M : Mc) (X : Cx) (m : E) (es : List Expr) : Prop := ∃ ts, PEs X es ts ∧ rdsK M C m = tsCons ts
section
variable {nm : Nat → Str} {C : Cn} {CXt : CXT} {M : Mc} {X : Cx}
theorem ok_never {e : Expr} (h : isStar e = false) : Ok3 C M X .never e := by
  have n : ∀ σ H Q, ¬ tE M (evE C .never) σ H Q := fun σ H Q ⟨B, F, ev, s, o⟩ => o
  exact ⟨peNever n, ⟨fun pins s σ H Q I q => (n _ _ _ q).elim⟩, fun _ => ⟨fun wh pins s σ H Q I q => (n _ _ _ q).elim⟩, h⟩
theorem isVarB_pt {N sc i e} (h : isVarB N sc i e = true) : plainT e = true := by cases e <;> first | rfl | cases h
theorem ok_var {i : Nat} {e : Expr} (h : isVarB X.N X.env.scope i e = true) : Ok3 C M X (.var i) e := by
  obtain ⟨p, s, _⟩ := isVarB_ok h
  refine Ok3.of (peImp p ?_) (isVarB_pt h) s
  rintro σ H Q ⟨B, F, ev, st, o⟩
  have o : Out M B F σ Q (match ev.get i with
    | some w => match w.frz with
      | some d => .ok (.val d) (ev.set i (some (.val d)))
      | none => .bad
    | none => .bad) := o
  cases q : ev.get i with
  | none => rw [q] at o; exact o.elim
  | some w =>
    rw [q] at o
    cases q2 : w.frz with
    | none => simp only [q2] at o; exact o.elim
    | some d =>
      simp only [q2] at o
      obtain ⟨v, F', hv, g, st', rp⟩ := st.var q q2
      exact ⟨v, hv, o v F' H g (StV.of st' rp)⟩
theorem ok_mv {i : Nat} {e : Expr} (h : isVarB X.N X.env.scope i e = true) : Ok3 C M X (.mv i) e := by
  obtain ⟨p, s, _⟩ := isVarB_ok h
  refine Ok3.of (peImp p ?_) (isVarB_pt h) s
  rintro σ H Q ⟨B, F, ev, st, o⟩
  have o : Out M B F σ Q (match ev.get i with
    | some w => .ok w (ev.set i none)
    | none => .bad) := o
  cases q : ev.get i with
  | none => rw [q] at o; exact o.elim
  | some w =>
    rw [q] at o
    obtain ⟨v, hv, st'⟩ := st.mv q
    exact ⟨v, hv, o v F H (Gr.refl _ _) st'⟩
theorem ok_pth (T : Tx nm C CXt M X) {i : Nat} {f : Str} {e : Expr} (h : isPthB X.N X.env.scope i f e = true) : Ok3 C M X (.pth i f) e := by
  obtain ⟨p, s, _, pl⟩ := isPthB_ok T h
  refine Ok3.of (peImp p ?_) pl s
  rintro σ H Q ⟨B, F, ev, st, o⟩
  have o : Out M B F σ Q (match ev.at i (some f) with
    | some (.val d) => .ok (.val d) ev
    | _ => .bad) := o
  cases q : ev.at i (some f) with
  | none => rw [q] at o; exact o.elim
  | some w =>
    rw [q] at o
    cases w with
    | val d =>
      obtain ⟨a, kvs, v, S, hv, ha, hk, r⟩ := st.part q
      exact ⟨a, kvs, v, hv, ha, hk, o v F H (Gr.refl _ _) (StV.of st (WR.val_iff.mp r).2)⟩
    | _ => exact o.elim
theorem ok_cst {d : D} {e : Expr} (h : isCstB d e = true) : Ok3 C M X (.cst d) e := by
  obtain ⟨p, sc, s, pl⟩ := isCstB_ok (X := X) h
  refine Ok3.of (peImp p ?_) pl s
  rintro σ H Q ⟨B, F, ev, st, o⟩
  exact o _ F H (Gr.refl _ _) (StV.of st (D.sc_rp sc))
theorem ok_glb (T : Tx nm C CXt M X) {g : Nat} {e : Expr} (h : isGlbB X.env.scope (nm g) e = true) : Ok3 C M X (.glb g) e := by
  obtain ⟨pn, rfl, hg⟩ := isGlbB_ok h
  obtain ⟨g1, g2, g3⟩ := glB_ok hg
  refine Ok3.of ?_ rfl rfl
  cases q : C.Γ g with
  | none =>
    refine peNever ?_
    rintro σ H Q ⟨B, F, ev, st, o⟩
    have o : Out M B F σ Q (match C.Γ g with
      | some d => .ok (.val d) ev
      | none => .bad) := o
    rw [q] at o
    exact o
  | some d =>
    obtain ⟨v, u, h1, h2, h3⟩ := T.glob g d q
    refine peImp (pe_glob g1 h1 h2 g2) ?_
    rintro σ H Q ⟨B, F, ev, st, o⟩
    have o : Out M B F σ Q (match C.Γ g with
      | some d => .ok (.val d) ev
      | none => .bad) := o
    rw [q] at o
    exact o v F H (Gr.refl _ _) (StV.of st (h3 F))
theorem shB_star {sc : Scope} {s : Sh} {e : Expr} {es : List Expr} (h : shB sc s e = some es) : isStar e = false := by
  cases e <;> first | rfl | skip
  cases s <;> first | cases h | skip
  rename_i a b
  cases a <;> cases b <;> cases h
theorem ok_prim (T : Tx nm C CXt M X) {p : P} {a : E} {e : Expr} {es : List Expr} (hs : shB X.env.scope p.sh e = some es) (ha : OkA C M X a es) : Ok3 C M X (.prim p a) e := by
  obtain ⟨ts, hp, hr⟩ := ha.a
  have q := prim_pp T hs hp
  have k : ∀ σ H Q, tE M (evE C (.prim p a)) σ H Q → tPr M p ts σ H Q := by
    rintro σ H Q ⟨B, F, ev, st, o⟩
    have := prim_out st o
    rw [hr] at this
    exact this
  exact ⟨peImp q.pe k, ptImp q.pt fun σ H Q => k σ H _, fun z => (by rw [q.nb] at z; cases z), shB_star hs⟩
theorem ok_tupd {a : E} {es : List Expr} {k : Nat} {pos : Pos} (ha : OkA C M X a es) : Ok3 C M X (.tupd a) (.Tuple es k pos) := by
  obtain ⟨ts, hp, hr⟩ := ha.l
  refine Ok3.of (peImp (pe_tup hp.pa) ?_) rfl rfl
  rintro σ H Q ⟨B, F, ev, st, o⟩
  have o : Out M B F σ Q ((evL C a ev).bind fun ds e' => if szOk ds.length then .ok (.val (.tup ds)) e' else .bad) := o
  have q := evL_ok a st (OutL.mono (Out.bindL (Rl := RL M) o) (Gr.refl _ _) fun vs H' z => show vs.length ≤ sizeLine ∧ ∀ p, H' p = none → Q (.ref p) (upd H' p (.tup vs)) from by
    obtain ⟨ds, e', F', g, st', rp, o'⟩ := z
    by_cases hz : szOk ds.length = true
    · rw [if_pos hz] at o'
      refine ⟨by rw [rp.length]; exact szOk_le hz, fun p hp => ?_⟩
      obtain ⟨F2, g2, s2⟩ := st'.post (PostW.tup (let ⟨fp, s⟩ := st'; s.exF) hp rp)
      exact o' _ F2 _ g2 s2
    · rw [if_neg hz] at o'
      exact o'.elim)
  rw [hr] at q
  exact q
theorem ok_lstd {a : E} {es : List Expr} {pos : Pos} (ha : OkA C M X a es) : Ok3 C M X (.lstd a) (.List es pos) := by
  obtain ⟨ts, hp, hr⟩ := ha.l
  refine Ok3.of (peImp (pe_lst hp.pa) ?_) rfl rfl
  rintro σ H Q ⟨B, F, ev, st, o⟩
  have o : Out M B F σ Q ((evL C a ev).bind fun ds e' => if szOk ds.length then .ok (.lst ds) e' else .bad) := o
  have q := evL_ok a st (OutL.mono (Out.bindL (Rl := RL M) o) (Gr.refl _ _) fun vs H' z => show vs.length ≤ sizeLine ∧ ∀ p, H' p = none → Q (.ref p) (upd H' p (.lst vs)) from by
    obtain ⟨ds, e', F', g, st', rp, o'⟩ := z
    by_cases hz : szOk ds.length = true
    · rw [if_pos hz] at o'
      refine ⟨by rw [rp.length]; exact szOk_le hz, fun p hp => ?_⟩
      obtain ⟨F2, g2, s2⟩ := st'.post (PostW.lst (let ⟨fp, s⟩ := st'; s.exF) hp rp)
      exact o' _ F2 _ g2 s2
    · rw [if_neg hz] at o'
      exact o'.elim)
  rw [hr] at q
  exact q
/-- a bool comes back -/
theorem bool_of {B F H : Hp} {e : Env} {σ : List (Option V)} {b : Bool} {v : V} (s : StV M.K M.G M.pv B F H e σ (.val (.bl b)) v) : v = .bl b := by
  have := s.rp
  unfold Rp at this
  exact this
theorem ok_and2 {a b : E} {e1 e2 : Expr} {r : List Expr} {pos : Pos} (h1 : Ok3 C M X a e1) (h2 : Ok3 C M X b (.BoolOp .And (e2 :: r) pos)) : Ok3 C M X (.and2 a b) (.BoolOp .And (e1 :: e2 :: r) pos) := by
  have key : ∀ σ H Q, tE M (evE C (.and2 a b)) σ H Q → tE M (evE C a) σ H fun x H1 => ∃ c, x = .bl c ∧ if c = true then tE M (evE C b) σ H1 Q else Q (.bl false) H1 := by
    rintro σ H Q ⟨B, F, ev, st, o⟩
    refine ⟨B, F, ev, st, Out.mono (Out.bind o) (Gr.refl _ _) fun v H' z => ?_⟩
    obtain ⟨w, e', F', g, s', o'⟩ := z
    cases w with
    | val d => cases d with
      | bl c =>
        refine ⟨c, bool_of s', ?_⟩
        cases c with
        | true => exact ⟨B, F', e', s'.st, o'⟩
        | false => exact o' _ F' H' (Gr.refl _ _) (StV.of s'.st (by unfold Rp; rfl))
      | _ => exact o'.elim
    | _ => exact o'.elim
  have w : PW X (.BoolOp .And (e1 :: e2 :: r) pos) (tB (tE M (evE C (.and2 a b)))) := pwImp (pw_and h1.pt (h2.pw rfl)) fun σ H Q q => TMono.ev M _ _ _ _ _ (fun x H1 ⟨c, e, z⟩ => ⟨c, e, by
    cases c with
    | true => exact z
    | false => obtain ⟨c, e, z⟩ := z; cases e; exact z⟩) (key σ H _ q)
  exact ⟨peImp (pe_and h1.pe h2.pe) key, w.pt, fun _ => w, rfl⟩
theorem ok_or2 {a b : E} {e1 e2 : Expr} {r : List Expr} {pos : Pos} (h1 : Ok3 C M X a e1) (h2 : Ok3 C M X b (.BoolOp .Or (e2 :: r) pos)) : Ok3 C M X (.or2 a b) (.BoolOp .Or (e1 :: e2 :: r) pos) := by
  have key : ∀ σ H Q, tE M (evE C (.or2 a b)) σ H Q → tE M (evE C a) σ H fun x H1 => ∃ c, x = .bl c ∧ if c = true then Q (.bl true) H1 else tE M (evE C b) σ H1 Q := by
    rintro σ H Q ⟨B, F, ev, st, o⟩
    refine ⟨B, F, ev, st, Out.mono (Out.bind o) (Gr.refl _ _) fun v H' z => ?_⟩
    obtain ⟨w, e', F', g, s', o'⟩ := z
    cases w with
    | val d => cases d with
      | bl c =>
        refine ⟨c, bool_of s', ?_⟩
        cases c with
        | true => exact o' _ F' H' (Gr.refl _ _) (StV.of s'.st (by unfold Rp; rfl))
        | false => exact ⟨B, F', e', s'.st, o'⟩
      | _ => exact o'.elim
    | _ => exact o'.elim
  have w : PW X (.BoolOp .Or (e1 :: e2 :: r) pos) (tB (tE M (evE C (.or2 a b)))) := pwImp (pw_or h1.pt (h2.pw rfl)) fun σ H Q q => TMono.ev M _ _ _ _ _ (fun x H1 ⟨c, e, z⟩ => ⟨c, e, by
    cases c with
    | true => obtain ⟨c, e, z⟩ := z; cases e; exact z
    | false => exact z⟩) (key σ H _ q)
  exact ⟨peImp (pe_or h1.pe h2.pe) key, w.pt, fun _ => w, rfl⟩
theorem ok_one {a : E} {op : BoolOp} {e1 : Expr} {pos : Pos} (h1 : Ok3 C M X a e1) : Ok3 C M X (.one a) (.BoolOp op [e1] pos) := by
  have w : PW X (.BoolOp op [e1] pos) (tB (tE M (evE C (.one a)))) := by
    cases op with
    | And => exact pw_and1 h1.pt
    | Or => exact pw_or1 h1.pt
  exact ⟨pe_one h1.pe, w.pt, fun _ => w, rfl⟩
theorem ok_frz {a : E} {e : Expr} (h1 : Ok3 C M X a e) : Ok3 C M X (.frz a) e := by
  have key : ∀ σ H Q, tE M (evE C (.frz a)) σ H Q → tE M (evE C a) σ H Q := by
    rintro σ H Q ⟨B, F, ev, st, o⟩
    refine ⟨B, F, ev, st, Out.mono (Out.bind o) (Gr.refl _ _) fun v H' z => ?_⟩
    obtain ⟨w, e', F', g, s', o'⟩ := z
    cases hw : w.frz with
    | none => rw [hw] at o'; exact o'.elim
    | some d =>
      rw [hw] at o'
      obtain ⟨F2, g2, s2, rp⟩ := s'.frz hw
      exact o' v F2 H' g2 (StV.of s2 rp)
  exact ⟨peImp h1.pe key, ptImp h1.pt fun σ H Q q => key σ H _ q, fun z => pwImp (h1.pw z) fun σ H Q q => key σ H _ q, h1.st⟩
theorem ok_nt {a : E} {e1 : Expr} {pos : Pos} (h1 : Ok3 C M X a e1) : Ok3 C M X (.nt a) (.UnaryOp .Not e1 pos) := by
  have key : ∀ σ H Q, tE M (evE C (.nt a)) σ H Q → tE M (evE C a) σ H fun x H1 => ∃ c, x = .bl c ∧ Q (.bl (!c)) H1 := by
    rintro σ H Q ⟨B, F, ev, st, o⟩
    refine ⟨B, F, ev, st, Out.mono (Out.bind o) (Gr.refl _ _) fun v H' z => ?_⟩
    obtain ⟨w, e', F', g, s', o'⟩ := z
    cases w with
    | val d => cases d with
      | bl c => exact ⟨c, bool_of s', o' _ F' H' (Gr.refl _ _) (StV.of s'.st (by unfold Rp; rfl))⟩
      | _ => exact o'.elim
    | _ => exact o'.elim
  refine ⟨peImp (pe_not h1.pe) key, ptImp (pt_not h1.pt) fun σ H Q q => ?_, (fun z => nomatch z), rfl⟩
  exact TMono.ev M _ _ _ _ _ (fun x H1 ⟨c, e, c', e', z⟩ => ⟨c, e, by cases e'; exact z⟩) (key σ H _ q)
theorem ok_ife {c a b : E} {e1 e2 e3 : Expr} {pos : Pos} (h1 : Ok3 C M X c e1) (h2 : Ok3 C M X a e2) (h3 : Ok3 C M X b e3) : Ok3 C M X (.ife c a b) (.IfExp e1 e2 e3 pos) := by
  have key : ∀ σ H Q, tE M (evE C (.ife c a b)) σ H Q → tE M (evE C c) σ H fun x H1 => ∃ k, x = .bl k ∧ if k = true then tE M (evE C a) σ H1 Q else tE M (evE C b) σ H1 Q := by
    rintro σ H Q ⟨B, F, ev, st, o⟩
    refine ⟨B, F, ev, st, Out.mono (Out.bind o) (Gr.refl _ _) fun v H' z => ?_⟩
    obtain ⟨w, e', F', g, s', o'⟩ := z
    cases w with
    | val d => cases d with
      | bl c =>
        refine ⟨c, bool_of s', ?_⟩
        cases c with
        | true => exact ⟨B, F', e', s'.st, o'⟩
        | false => exact ⟨B, F', e', s'.st, o'⟩
      | _ => exact o'.elim
    | _ => exact o'.elim
  exact ⟨peImp (pe_ifExp h1.pt h2.pe h3.pe) key, ptImp (ptIf h1.pt h2.pt h3.pt) fun σ H Q q => key σ H _ q, (fun z => nomatch z), rfl⟩
end
end Mn
set_option Elab.async false
set_option linter.all false
set_option maxRecDepth 100000
set_option maxHeartbeats 4000000
/-! Mn, part 14: chains, dicts, calls. -/
namespace Mn
open PySem L2
section
variable {nm : Nat → Str} {C : Cn} {CXt : CXT} {M : Mc} {X : Cx}
theorem St.ex {K G pv} {B F H : Hp} {e : Env} {σ : List (Option V)} (s : St K G pv B F H e σ) : Ex F H := let ⟨fp, s⟩ := s; s.exF
theorem ok_chain (T : Tx nm C CXt M X) {o1 o2 : P} {p1 p2 : CmpOp} {ab c : E} {e1 e2 e3 : Expr} {pos : Pos} (q1 : cmpOp? o1 = some p1) (q2 : cmpOp? o2 = some p2) (h1 : OkA C M X ab [e1, e2]) (h2 : Ok3 C M X c e3) (hs : isSetE e3 = false) :
    Ok3 C M X (.chain o1 o2 ab c) (.Compare e1 [p1, p2] [e2, e3] pos) := by
  obtain ⟨ts, hp, hr⟩ := h1.l
  obtain ⟨t, u, rfl, ⟨pa, ma, _⟩, pb, mb, _⟩ := hp.two
  have hm : lastMarks [p1, p2] [e2, e3] = false := noMark hs
  have key : ∀ σ H Q, tE M (evE C (.chain o1 o2 ab c)) σ H Q → tChain (rP M o1) (rP M o2) t u (tE M (evE C c)) σ H Q := by
    rintro σ H Q ⟨B, F, ev, st, o⟩
    have o : Out M B F σ Q ((evL C ab ev).bind fun ds e' => match ds with
      | [x, y] => match o1.ev [x, y] with
        | some (.val (.bl true)) => (evE C c e').bind fun w e2 => match w.frz with
          | some z => match o2.ev [y, z] with
            | some w => .ok w e2
            | none => .bad
          | none => .bad
        | some (.val (.bl false)) => .ok (.val (.bl false)) e'
        | _ => .bad
      | _ => .bad) := o
    have q := evL_ok ab st (OutL.mono (Q' := fun vs H' => match vs with
      | [x, y] => rP M o1 x y H' fun z H3 => ∃ k, z = .bl k ∧ (if k = true then tE M (evE C c) σ H3 fun w' H4 => rP M o2 y w' H4 Q else Q (.bl false) H3)
      | _ => True) (Out.bindL (Rl := RL M) o) (Gr.refl _ _) fun vs H' z => by
        obtain ⟨ds, e', F', g, st', rp, o'⟩ := z
        match vs, rp with
        | [], _ => trivial
        | [_], _ => trivial
        | _ :: _ :: _ :: _, _ => trivial
        | [x, y], rp =>
          match ds, rp, o' with
          | [], _, o' => exact o'.elim
          | [_], _, o' => exact o'.elim
          | _ :: _ :: _ :: _, _, o' => exact o'.elim
          | [d1, d2], rp, o' =>
            obtain ⟨v1, r1, e1, rp1, rp2⟩ := Rps.cons_iff.mp rp
            obtain ⟨v2, r2, e2, rp2, _⟩ := Rps.cons_iff.mp rp2
            cases e1
            cases e2
            cases hw : o1.ev [d1, d2] with
            | none => simp only [hw] at o'; exact o'.elim
            | some w =>
              refine ⟨[d1, d2], w, F', st'.ex, ⟨.inl rp1, .inl rp2, trivial⟩, hw, fun v H3 pw => ?_⟩
              obtain ⟨F3, g3, s3⟩ := st'.post pw
              simp only [hw] at o'
              cases w with
              | val d => cases d with
                | bl b =>
                  refine ⟨b, bool_of s3, ?_⟩
                  cases b with
                  | false => exact o' _ F3 H3 g3 (StV.of s3.st (by unfold Rp; rfl))
                  | true =>
                    refine ⟨B, F3, e', s3.st, Out.mono (Out.bind (Out.mono o' g3 fun _ _ z => z)) (Gr.refl _ _) fun v4 H4 z => ?_⟩
                    obtain ⟨w4, e4, F4, g4, s4, o4⟩ := z
                    cases hz : w4.frz with
                    | none => simp only [hz] at o4; exact o4.elim
                    | some z4 =>
                      simp only [hz] at o4
                      cases hw2 : o2.ev [d2, z4] with
                      | none => simp only [hw2] at o4; exact o4.elim
                      | some w5 =>
                        simp only [hw2] at o4
                        have pk4 : Pk M.K M.G F4 H4 z4 v4 := by
                          obtain ⟨fp, S, _, r4, _⟩ := s4
                          exact .inr ⟨w4, S, r4, hz⟩
                        refine ⟨[d2, z4], w5, F4, s4.st.ex, ⟨.inl ((rp2.mono g3.ex).mono g4.ex), pk4, trivial⟩, hw2, fun v H5 pw => ?_⟩
                        obtain ⟨F5, g5, s5⟩ := s4.st.post pw
                        exact o4 v F5 H5 g5 s5
                | _ => exact o'.elim
              | _ => exact o'.elim)
    rw [hr] at q
    exact q
  exact ⟨peImp (pe_chain (cmp_or T q1) (cmp_or T q2) pa pb h2.pe hm) key, ptImp (pt_chain (cmp_or T q1) (cmp_or T q2) pa pb h2.pe hm) fun σ H Q q => key σ H _ q, (fun z => nomatch z), rfl⟩

theorem args_len {e : Env} : ∀ {as : List (Option D × Nat)} {ws : List W}, args? e as = some ws → ws.length = as.length
  | [], ws, h => by cases h; rfl
  | (some d, _) :: r, ws, h => by
    have h : (args? e r).map (.val d :: ·) = some ws := h
    obtain ⟨us, h1, rfl⟩ := Option.map_eq_some_iff.mp h
    rw [List.length_cons, List.length_cons, args_len h1]
  | (none, i) :: r, ws, h => by
    unfold args? at h
    cases q0 : e.get i with
    | none => simp [q0] at h
    | some w =>
      cases q : args? e r with
      | none => simp [q0, q] at h
      | some us =>
        simp [q0, q] at h
        subst h
        rw [List.length_cons, List.length_cons, args_len q]
theorem ok_call (T : Tx nm C CXt M X) {f : Nat} {a : E} {fe : Expr} {es : List Expr} {pos : Pos} (hn : fnB nm f = true) (hf : isGlbB X.env.scope (nm f) fe = true) (ha : OkK C M X a es) : Ok3 C M X (.call f a) (.Call fe es [] pos) := by
  obtain ⟨pn, rfl, hg⟩ := isGlbB_ok hf
  obtain ⟨g1, g2, g3⟩ := glB_ok hg
  obtain ⟨ts, hp, hr⟩ := ha
  refine Ok3.of ?_ rfl rfl
  obtain ⟨np, k, ad, fd, ps, har, F, hroom, hm, hk, hb⟩ := T.fns f hn
  have key : ∀ σ H Q, tE M (evE C (.call f a)) σ H Q → tCall (spOf M.K M.G M.XR np (C.io f) (C.Φ f)) [] M.EX (tsCons ts) σ H Q := by
    rintro σ H Q ⟨B, Fz, ev, st, o⟩
    have o : Out M B Fz σ Q ((evC C a ev).bind fun as e' => callE (C.Φ f) (C.io f) as e') := o
    have q := evC_ok a st (OutL.mono (Out.bindL (Rl := RC M σ) o) (Gr.refl _ _) fun vs H' z => show spOf M.K M.G M.XR np (C.io f) (C.Φ f) (vs ++ []) H' Q M.EX from by
      obtain ⟨as, e', F', g, st', rc, o'⟩ := z
      rw [List.append_nil]
      refine call_ok st' ?_ rc o'
      have o2 := o'
      unfold callE at o2
      split at o2
      · cases hq : args? e' as with
        | none => rw [hq] at o2; exact o2.elim
        | some ws =>
          rw [hq] at o2
          rw [← args_len hq]
          refine har ws fun z => ?_
          simp only [z] at o2
          exact o2
      · exact o2.elim)
    rw [hr] at q
    exact q
  cases hp with
  | nil =>
    exact peImp (pe_call0 F hroom g1 hm hk hb .nil T.pass g2) key
  | cons h q m r =>
    have st := (PEs.cons h q m r).stars
    exact peImp (pe_call F hroom g1 hm hk hb .nil T.pass (PEs.cons h q m r).pa g2 (star_cons h) (star_none fun e he => st e (List.mem_cons_of_mem _ he))) key
end
end Mn
set_option Elab.async false
set_option linter.all false
set_option maxRecDepth 100000
set_option maxHeartbeats 4000000
/-! Mn, part 15: changes of own things; dict displays; methods of lists. -/
namespace Mn
open PySem L2
section
variable {K : PySem.W.Frag} {G : Nat → Option Addr} {pv : List (Nat × V)} {fp : Nat → AS} {B B' F F' H H' : Hp} {e : Env} {σ : List (Option V)}
/-- an own thing changes where it stands -/
theorem StF.change {i : Nat} {a : Addr} {o : HO} {w : W} {v : V} (s : StF K G pv fp B F H e σ) (ha : fp i a) (hv : σ[i]? = some (some v)) (r : WR K G F (upd H a o) w v (fp i)) : StF K G pv fp B F (upd H a o) (e.set i (some w)) σ := by
  have hi : i < e.length := by rw [← s.len]; exact (List.getElem?_eq_some_iff.mp hv).1
  have oa := s.own i a ha
  refine ⟨by rw [List.length_set, s.len], fun j u h => ?_, fun j h => ?_, s.sep, fun j b hb => ?_, fun b u h => ?_, fun b u h => ?_, s.pin⟩
  · by_cases hj : j = i
    · subst hj
      rw [Env.get_set_self hi] at h
      cases h
      exact ⟨v, hv, r⟩
    · rw [Env.get_set_ne (Ne.symm hj)] at h
      obtain ⟨x, e1, r1⟩ := s.slot j u h
      exact ⟨x, e1, WR.frame (Ex.refl _) u x _ (fun b hb => upd_ne fun z => s.sep j i a hj (z ▸ hb) ha) r1⟩
  · by_cases hj : j = i
    · subst hj
      rw [Env.get_set_self hi] at h
      cases h
    · rw [Env.get_set_ne (Ne.symm hj)] at h
      exact s.nil j h
  · refine ⟨(s.own j b hb).1, (s.own j b hb).2.1, ?_⟩
    by_cases z : b = a
    · subst z
      rw [upd_same]
      exact fun z => nomatch z
    · rw [upd_ne z]
      exact (s.own j b hb).2.2
  · rw [upd_ne fun z => ?_]
    · exact s.exB b u h
    · subst z
      rw [oa.2.1] at h
      cases h
  · rw [upd_ne fun z => ?_]
    · exact s.exF b u h
    · subst z
      rw [oa.1] at h
      cases h
/-- a list of one's own -/
theorem StF.lst_at {i : Nat} {ds : List D} (s : StF K G pv fp B F H e σ) (h : e.get i = some (.lst ds)) : ∃ a vs, σ[i]? = some (some (.ref a)) ∧ H a = some (.lst vs) ∧ Rps K G F ds vs ∧ fp i a ∧ ∀ (es : List D) (us : List V) (F' : Hp), F' = F → Rps K G F es us → StF K G pv fp B F (upd H a (.lst us)) (e.set i (some (.lst es))) σ := by
  obtain ⟨v, hv, r⟩ := s.slot i _ h
  obtain ⟨a, vs, rfl, ha, r, z⟩ := WR.lst_iff.mp r
  exact ⟨a, vs, hv, ha, r, (z a).mpr rfl, fun es us F' _ r' => s.change ((z a).mpr rfl) hv (WR.lst_iff.mpr ⟨a, us, rfl, upd_same, r', z⟩)⟩
/-- less is told to stand -/
theorem StF.less (s : StF K G pv fp B' F H e σ) (x : Ex B B') : StF K G pv fp B F H e σ := s.base (x.trans s.exB) fun i a h => x.back (s.own i a h).2.1
theorem Gr.less (g : Gr B' F F') (x : Ex B B') : Gr B F F' := ⟨g.ex, fun a h => (g.new a h).imp id x.back⟩
theorem Own.less {S : AS} (o : Own B' F H S) (x : Ex B B') : Own B F H S := fun a h => ⟨(o a h).1, x.back (o a h).2.1, (o a h).2.2⟩
end
section
variable {M : Mc} {B B' F : Hp} {σ : List (Option V)}
theorem OutW.more {Q : List V → Hp → Prop} {r : R (List W)} (h : OutW M B F σ Q r) (x : Ex B B') : OutW M B' F σ (fun vs H => Ex B' H ∧ Q vs H) r := by
  cases r with
  | ok ws e =>
    rintro vs F' H' g ⟨fp, S, s, r, o, d⟩
    exact ⟨s.exB, h vs F' H' (g.less x) ⟨fp, S, s.less x, r, o.less x, d⟩⟩
  | exn c p e =>
    rintro cls d F' H' g ⟨fp, s⟩ xr
    exact h cls d F' H' (g.less x) ⟨fp, s.less x⟩ xr
  | bad => exact h
/-- the empty dict stands -/
theorem St.withD {K : PySem.W.Frag} {G : Nat → Option Addr} {pv : List (Nat × V)} {H : Hp} {e : Env} {p : Addr} {o : HO} (s : St K G pv B F H e σ) (hp : H p = none) : St K G pv (upd B p o) F (upd H p o) e σ ∧ Ex B (upd B p o) := by
  obtain ⟨fp, s⟩ := s
  have bp : B p = none := s.exB.back hp
  have fpn : F p = none := s.exF.back hp
  have x : Ex B (upd B p o) := Ex.new bp
  have xH : Ex H (upd H p o) := Ex.new hp
  have s1 := s.step (H' := upd H p o) (Gr.refl _ _) (s.exB.trans xH) (s.exF.trans xH) (fun i a ha => upd_ne fun z => (s.own i a ha).2.2 (z ▸ hp)) fun i a ha => (s.own i a ha).1
  refine ⟨⟨fp, s1.base (fun a u h => ?_) fun i a ha => ?_⟩, x⟩
  · by_cases z : a = p
    · subst z
      rw [upd_same] at h ⊢
      exact h
    · rw [upd_ne z] at h ⊢
      exact s.exB a u h
  · rw [upd_ne (fun z : a = p => (s.own i a ha).2.2 (z ▸ hp))]
    exact (s.own i a ha).2.1
end

/-! ### pairs -/
theorem pps_of {X : Cx} {pos : Pos} : ∀ {ks : List D} {kes : List (Option Expr)} {ves : List Expr} {ts : List TE}, keysB ks kes = true → PEs X ves ts → kes.length = ves.length → ∃ trs, PPs X pos kes ves trs ∧
    ∀ {σ : L2.St} {H : Hp} {Q : List (V × V) → Hp → Prop}, tsCons ts σ H (fun vs H' => Q ((ks.map D.cv).zip vs) H') → tPairs trs σ H Q
  | [], [], [], ts, _, q, _ => by
    cases q
    exact ⟨[], pps_nil, fun h => h⟩
  | [], [], _ :: _, _, _, _, l => by cases l
  | [], _ :: _, _, _, h, _, _ => by cases h
  | _ :: _, [], _, _, h, _, _ => by cases h
  | _ :: _, none :: _, _, _, h, _, _ => by cases h
  | _ :: _, some _ :: _, [], _, _, _, l => by cases l
  | k :: ks, some ke :: kes, ve :: ves, ts, h, q, l => by
    have h : (isCstB k ke && keysB ks kes) = true := h
    rw [Bool.and_eq_true] at h
    cases q with
    | cons hs pv m r =>
      obtain ⟨pk, _, _, _⟩ := isCstB_ok (X := X) h.1
      obtain ⟨trs, h1, h2⟩ := pps_of (pos := pos) h.2 r (by simpa using l)
      refine ⟨_, pps_cons pk pv h1, fun {σ H Q} z => ?_⟩
      refine m _ _ _ _ (fun y H2 z => ?_) z
      exact h2 z
theorem keys_cv : ∀ {ks : List D} {qs : List Key}, D.keys ks = some qs → ks.map D.cv = qs.map kV
  | [], qs, h => by cases h; rfl
  | d :: ds, qs, h => by
    unfold D.keys at h
    cases h1 : d.key with
    | none => simp [h1] at h
    | some k =>
      cases h2 : D.keys ds with
      | none => simp [h1, h2] at h
      | some r =>
        simp [h1, h2] at h
        subst h
        rw [List.map_cons, List.map_cons, keys_cv h2]
        congr 1
        cases d with
        | int i => cases h1; rfl
        | str i => cases h1; rfl
        | _ => cases h1
theorem keys_len : ∀ {ks : List D} {qs : List Key}, D.keys ks = some qs → qs.length = ks.length
  | [], qs, h => by cases h; rfl
  | d :: ds, qs, h => by
    unfold D.keys at h
    cases h1 : d.key with
    | none => simp [h1] at h
    | some k =>
      cases h2 : D.keys ds with
      | none => simp [h1, h2] at h
      | some r =>
        simp [h1, h2] at h
        subst h
        rw [List.length_cons, List.length_cons, keys_len h2]
theorem putK_new {kvs : List (Key × V)} {k : Key} {v : V} (h : k ∉ kvs.map (·.1)) : putK kvs k v = kvs ++ [(k, v)] := by
  unfold putK
  rw [if_neg]
  intro z
  obtain ⟨kv, h1, h2⟩ := List.any_eq_true.mp z
  exact h (of_decide_eq_true h2 ▸ List.mem_map_of_mem h1)
theorem mergeK_new : ∀ {more kvs : List (Key × V)}, ((kvs ++ more).map (·.1)).Nodup → mergeK kvs more = kvs ++ more
  | [], kvs, _ => by rw [List.append_nil]; rfl
  | p :: r, kvs, h => by
    show mergeK (putK kvs p.1 p.2) r = _
    have hp : p.1 ∉ kvs.map (·.1) := by
      rw [List.map_append, List.map_cons, List.nodup_append] at h
      exact fun z => h.2.2 _ z _ List.mem_cons_self rfl
    rw [putK_new hp, mergeK_new (by simpa using h)]
    simp
theorem keysB_all : ∀ {ks : List D} {kes : List (Option Expr)}, keysB ks kes = true → kes.all (·.isSome) = true ∧ ks.length = kes.length
  | [], [], _ => ⟨rfl, rfl⟩
  | [], _ :: _, h => by cases h
  | _ :: _, [], h => by cases h
  | _ :: _, none :: _, h => by cases h
  | k :: ks, some ke :: kes, h => by
    have h : (isCstB k ke && keysB ks kes) = true := h
    rw [Bool.and_eq_true] at h
    obtain ⟨h1, h2⟩ := keysB_all h.2
    exact ⟨by rw [List.all_cons, h1]; rfl, by rw [List.length_cons, List.length_cons, h2]⟩
theorem zip_kv : ∀ {qs : List Key} {vs : List V}, (qs.map kV).zip vs = (qs.zip vs).map fun kv => (kV kv.1, kv.2)
  | [], _ => rfl
  | _ :: _, [] => rfl
  | q :: qs, v :: vs => by
    rw [List.map_cons, List.zip_cons_cons, List.zip_cons_cons, List.map_cons, zip_kv]
theorem WRs.length {K : PySem.W.Frag} {G : Nat → Option Addr} {F H : Hp} : ∀ {ws : List W} {vs : List V} {S : AS}, WRs K G F H ws vs S → vs.length = ws.length
  | [], vs, S, h => by rw [(WRs.nil_iff.mp h).1]; rfl
  | w :: ws, vs, S, h => by
    obtain ⟨v, r, S1, S2, rfl, _, h2, _⟩ := WRs.cons_iff.mp h
    rw [List.length_cons, List.length_cons, WRs.length h2]
theorem dkOk_ok {ks : List D} (h : dkOk ks = true) : ∃ qs, D.keys ks = some qs ∧ qs.Nodup ∧ qs.length ≤ 15 := by
  unfold dkOk at h
  cases q : D.keys ks with
  | none => rw [q] at h; cases h
  | some qs =>
    rw [q] at h
    have h : (decide qs.Nodup && decide (qs.length ≤ 15)) = true := h
    rw [Bool.and_eq_true] at h
    exact ⟨qs, rfl, of_decide_eq_true h.1, of_decide_eq_true h.2⟩
/-- behind the display: the state, the dict not yet filled -/
theorem disp_end {K : PySem.W.Frag} {G : Nat → Option Addr} {pv : List (Nat × V)} {B F F' H2 : Hp} {e : Env} {σ : List (Option V)} {p : Addr} {fp : Nat → AS} {o : HO} (bp : B p = none) (fn : F p = none) (g : Gr (upd B p (.dK [])) F F') (s : StF K G pv fp (upd B p (.dK [])) F' H2 e σ) :
    H2 p = some (.dK []) ∧ F' p = none ∧ StF K G pv fp B F' (upd H2 p o) e σ ∧ ∀ i, ¬ fp i p := by
  have h1 : H2 p = some (.dK []) := s.exB p _ upd_same
  have h2 : F' p = none := g.none fn (by rw [upd_same]; exact fun z => nomatch z)
  have h3 : ∀ i, ¬ fp i p := fun i z => by
    have := (s.own i p z).2.1
    rw [upd_same] at this
    cases this
  have x : Ex B (upd B p (.dK [])) := Ex.new bp
  refine ⟨h1, h2, (s.less x).step (Gr.refl _ _) (fun a u h => ?_) (fun a u h => ?_) (fun i a ha => upd_ne fun z => h3 i (z ▸ ha)) fun i a ha => (s.own i a ha).1, h3⟩
  · rw [upd_ne fun z => ?_]
    · exact (x.trans s.exB) a u h
    · subst z
      rw [bp] at h
      cases h
  · rw [upd_ne fun z => ?_]
    · exact s.exF a u h
    · subst z
      rw [h2] at h
      cases h
section
variable {nm : Nat → Str} {C : Cn} {CXt : CXT} {M : Mc} {X : Cx}
theorem ok_rcd {ks : List Str} {a : E} {kes : List (Option Expr)} {ves : List Expr} {pos : Pos} (hk : keysB (ks.map D.str) kes = true) (ha : OkA C M X a ves) (hl : kes.length = ves.length) (h0 : kes ≠ []) (h15 : kes.length ≤ 15) : Ok3 C M X (.rcd ks a) (.Dict kes ves pos) := by
  obtain ⟨ts, hp, hr⟩ := ha.l
  obtain ⟨trs, pps, ht⟩ := pps_of (pos := pos) hk hp hl
  refine Ok3.of (peImp (pe_disp pps (keysB_all hk).1 hl h0 h15) ?_) rfl rfl
  rintro σ H Q ⟨B, F, ev, st, o⟩ p hpn
  have o : Out M B F σ Q ((evW C a ev).bind fun ws e' => if ks.length = ws.length ∧ dkOk (ks.map D.str) = true then .ok (.rc ks ws) e' else .bad) := o
  have bp : B p = none := let ⟨fp, s⟩ := st; s.exB.back hpn
  have fn : F p = none := st.ex.back hpn
  obtain ⟨st2, x⟩ := St.withD (o := .dK []) st hpn
  refine ht ?_
  rw [← hr]
  refine evW_ok a st2 ?_
  cases hq : evW C a ev with
  | bad => rw [hq] at o; exact o.elim
  | exn c pp e' =>
    rw [hq] at o
    rintro cls d F' H' g ⟨fp, s⟩ xr
    exact o cls d F' H' (g.less x) ⟨fp, s.less x⟩ xr
  | ok ws e' =>
    rw [hq] at o
    have o : Out M B F σ Q (if ks.length = ws.length ∧ dkOk (ks.map D.str) = true then .ok (.rc ks ws) e' else .bad) := o
    rintro vs F' H2 g ⟨fp, S, s, r, ow, d⟩
    by_cases hc : ks.length = ws.length ∧ dkOk (ks.map D.str) = true
    · rw [if_pos hc] at o
      obtain ⟨qs, e1, e2, e3⟩ := dkOk_ok hc.2
      have e4 : qs = ks.map Sum.inr := by
        have : ∀ (l : List Str), D.keys (l.map D.str) = some (l.map Sum.inr) := by
          intro l
          induction l with
          | nil => rfl
          | cons y l ih =>
            show (match D.key (D.str y), D.keys (l.map D.str) with
              | some k, some ks => some (k :: ks)
              | _, _ => none) = _
            rw [ih]
            rfl
        rw [this] at e1
        exact (Option.some.inj e1).symm
      have nl : ks.length ≤ 15 := by
        rw [e4, List.length_map] at e3
        exact e3
      have nd : ks.Nodup := by
        rw [e4] at e2
        exact (List.pairwise_map.mp e2).imp fun h z => h (by rw [z])
      have hlen : vs.length = qs.length := by rw [r.length, ← hc.1, e4, List.length_map]
      obtain ⟨h1, h2, h3, h4⟩ := disp_end (o := .dK (qs.zip vs)) bp fn g s
      have hmap : (qs.zip vs).map (·.1) = qs := List.map_fst_zip (by omega)
      have hmap2 : (qs.zip vs).map (·.2) = vs := List.map_snd_zip (by omega)
      have nS : ¬ S p := fun z => by
        have := (ow p z).2.1
        rw [upd_same] at this
        cases this
      refine ⟨h1, qs.zip vs, ?_, ?_, ?_⟩
      · rw [keys_cv e1, zip_kv]
      · rw [List.length_zip]
        omega
      · rw [mergeK_new (by rw [List.nil_append, hmap]; exact e2), List.nil_append]
        refine o _ F' _ (g.less x) ⟨fp, fun a => a = p ∨ S a, h3, WR.rc_iff.mpr ⟨p, qs.zip vs, S, rfl, upd_same, ⟨⟨nd, nl⟩, by rw [hmap, e4]⟩, ?_, nS, fun _ => Iff.rfl⟩, ?_, ?_⟩
        · rw [hmap2]
          exact WRs.frame (Ex.refl _) ws vs S (fun a ha => upd_ne fun z => nS (z ▸ ha)) r
        · rintro a (rfl | ha)
          · exact ⟨h2, bp, by rw [upd_same]; exact fun z => nomatch z⟩
          · exact ⟨(ow a ha).1, x.back (ow a ha).2.1, by rw [upd_ne (fun z : a = p => nS (z ▸ ha))]; exact (ow a ha).2.2⟩
        · rintro i a hi (rfl | ha)
          · exact h4 i hi
          · exact d i a hi ha
    · rw [if_neg hc] at o
      exact o.elim
theorem ok_dicd {ks : List D} {a : E} {kes : List (Option Expr)} {ves : List Expr} {pos : Pos} (hk : keysB ks kes = true) (ha : OkA C M X a ves) (hl : kes.length = ves.length) (h0 : kes ≠ []) (h15 : kes.length ≤ 15) : Ok3 C M X (.dicd ks a) (.Dict kes ves pos) := by
  obtain ⟨ts, hp, hr⟩ := ha.l
  obtain ⟨trs, pps, ht⟩ := pps_of (pos := pos) hk hp hl
  refine Ok3.of (peImp (pe_disp pps (keysB_all hk).1 hl h0 h15) ?_) rfl rfl
  rintro σ H Q ⟨B, F, ev, st, o⟩ p hpn
  have o : Out M B F σ Q ((evL C a ev).bind fun ds e' => if ks.length = ds.length ∧ dkOk ks = true then .ok (.dic ks ds) e' else .bad) := o
  have bp : B p = none := let ⟨fp, s⟩ := st; s.exB.back hpn
  have fn : F p = none := st.ex.back hpn
  obtain ⟨st2, x⟩ := St.withD (o := .dK []) st hpn
  refine ht ?_
  rw [← hr]
  refine evL_ok a st2 ?_
  cases hq : evL C a ev with
  | bad => rw [hq] at o; exact o.elim
  | exn c pp e' =>
    rw [hq] at o
    rintro cls d F' H' g ⟨fp, s⟩ xr
    exact o cls d F' H' (g.less x) ⟨fp, s.less x⟩ xr
  | ok ds e' =>
    rw [hq] at o
    have o : Out M B F σ Q (if ks.length = ds.length ∧ dkOk ks = true then .ok (.dic ks ds) e' else .bad) := o
    rintro vs F' H2 g ⟨fp, s⟩ r
    by_cases hc : ks.length = ds.length ∧ dkOk ks = true
    · rw [if_pos hc] at o
      obtain ⟨qs, e1, e2, e3⟩ := dkOk_ok hc.2
      have hlen : vs.length = qs.length := by rw [Rps.length r, ← hc.1, keys_len e1]
      obtain ⟨h1, h2, h3, h4⟩ := disp_end (o := .dK (qs.zip vs)) bp fn g s
      have hmap : (qs.zip vs).map (·.1) = qs := List.map_fst_zip (by omega)
      have hmap2 : (qs.zip vs).map (·.2) = vs := List.map_snd_zip (by omega)
      refine ⟨h1, qs.zip vs, ?_, ?_, ?_⟩
      · rw [keys_cv e1, zip_kv]
      · rw [List.length_zip]
        omega
      · rw [mergeK_new (by rw [List.nil_append, hmap]; exact e2), List.nil_append]
        refine o _ F' _ (g.less x) ⟨fp, fun a => a = p, h3, WR.dic_iff.mpr ⟨p, qs.zip vs, rfl, upd_same, by rw [hmap]; exact e1, by rw [hmap2]; exact r, fun _ => Iff.rfl⟩, ?_, ?_⟩
        · rintro a rfl
          exact ⟨h2, bp, by rw [upd_same]; exact fun z => nomatch z⟩
        · rintro i a hi rfl
          exact h4 i hi
    · rw [if_neg hc] at o
      exact o.elim
end
end Mn
set_option Elab.async false
set_option linter.all false
set_option maxRecDepth 100000
set_option maxHeartbeats 4000000
/-! Mn, part 16: methods of lists. -/
namespace Mn
open PySem L2
section
variable {nm : Nat → Str} {C : Cn} {CXt : CXT} {M : Mc} {X : Cx}
def rMut : Mn.M → V → List V → Hp → VK → Prop
  | .append => rAppend | .extend => rExtend | .pop => rPop | .popAt => rPopAt
theorem mut_core {m : Mn.M} {B F H : Hp} {σ : List (Option V)} {Q : VK} {e : Env} {i : Nat} {xs ds ys : List D} {d : D} {vs : List V} {a : Addr} (s : St M.K M.G M.pv B F H e σ) (he : e.get i = some (.lst xs)) (hv : σ[i]? = some (some (.ref a))) (r : Rps M.K M.G F ds vs)
    (hm : m.ev xs ds = some (d, ys)) (o : Out M B F σ Q (.ok (.val d) (e.set i (some (.lst ys))))) : rMut m (.ref a) vs H Q := by
  obtain ⟨fp, s⟩ := s
  obtain ⟨a', us, hv', ha, rx, hfp, ch⟩ := s.lst_at he
  have : a' = a := by
    rw [hv] at hv'
    cases hv'
    rfl
  subst this
  have fin : ∀ {y : V} {zs : List V}, Rp M.K M.G F d y → Rps M.K M.G F ys zs → Q y (upd H a' (.lst zs)) := fun {y zs} r1 r2 => o y F _ (Gr.refl _ _) (StV.of ⟨fp, ch ys zs F rfl r2⟩ r1)
  cases m with
  | append =>
    match ds, r, hm with
    | [], _, hm => cases hm
    | _ :: _ :: _, _, hm => cases hm
    | [d0], r, hm =>
      obtain ⟨v, t, e1, r1, r2⟩ := Rps.cons_iff.mp r
      rw [Rps.nil_iff.mp r2] at e1
      subst e1
      have hm : (if decide (xs.length < 16777216) then some (D.non, xs ++ [d0]) else none) = some (d, ys) := hm
      by_cases hl : decide (xs.length < 16777216) = true
      · rw [if_pos hl] at hm
        cases hm
        exact ⟨a', us, v, rfl, rfl, ha, by rw [rx.length, sizeLine_eq]; exact of_decide_eq_true hl, fin (by unfold Rp; rfl) (rx.append (Rps.one r1))⟩
      · rw [if_neg hl] at hm
        cases hm
  | extend =>
    match ds, r, hm with
    | [], _, hm => cases hm
    | d0 :: _ :: _, _, hm => cases d0 <;> cases hm
    | [d0], r, hm =>
      cases d0 <;> first | (cases hm; done) | skip
      rename_i es
      obtain ⟨v, t, e1, r1, r2⟩ := Rps.cons_iff.mp r
      rw [Rps.nil_iff.mp r2] at e1
      subst e1
      have hm : (if szOk (xs.length + es.length) then some (D.non, xs ++ es) else none) = some (d, ys) := hm
      by_cases hl : szOk (xs.length + es.length) = true
      · rw [if_pos hl] at hm
        cases hm
        unfold Rp at r1
        obtain ⟨b, ws, rfl, hb, rb⟩ := r1
        exact ⟨a', b, us, ws, rfl, rfl, ha, s.exF _ _ hb, by rw [rx.length, rb.length]; exact szOk_le hl, fin (by unfold Rp; rfl) (rx.append rb)⟩
      · rw [if_neg hl] at hm
        cases hm
  | pop =>
    match ds, r, hm with
    | _ :: _, _, hm => cases hm
    | [], r, hm =>
      rw [Rps.nil_iff.mp r]
      have hm : (match xs[xs.length - 1]? with
        | some d => some (d, xs.dropLast)
        | none => none) = some (d, ys) := hm
      cases q : xs[xs.length - 1]? with
      | none => rw [q] at hm; cases hm
      | some y =>
        rw [q] at hm
        cases hm
        obtain ⟨v, h1, h2⟩ := rx.get q
        exact ⟨a', us, v, rfl, rfl, ha, by rw [rx.length]; exact h1, fin h2 rx.dropLast⟩
  | popAt =>
    match ds, r, hm with
    | [], _, hm => cases hm
    | d0 :: _ :: _, _, hm => cases d0 <;> cases hm
    | [d0], r, hm =>
      cases d0 <;> first | (cases hm; done) | skip
      rename_i j
      obtain ⟨v, t, e1, r1, r2⟩ := Rps.cons_iff.mp r
      rw [Rps.nil_iff.mp r2] at e1
      subst e1
      unfold Rp at r1
      subst r1
      have hm : (match (if rngOk j then seqIndex? j xs.length else none) with
        | some k => match xs[k]? with
          | some d => some (d, xs.eraseIdx k)
          | none => none
        | none => none) = some (d, ys) := hm
      by_cases hj : rngOk j = true
      · rw [if_pos hj] at hm
        have b := rngOk_ok hj
        cases q : seqIndex? j xs.length with
        | none => rw [q] at hm; cases hm
        | some k =>
          rw [q] at hm
          cases q2 : xs[k]? with
          | none => simp only [q2] at hm; cases hm
          | some y =>
            simp only [q2] at hm
            cases hm
            obtain ⟨v, h1, h2⟩ := rx.get q2
            exact ⟨a', us, j, k, v, rfl, rfl, ha, by omega, by omega, by rw [rx.length]; exact q, h1, fin h2 (rx.eraseIdx k)⟩
      · rw [if_neg hj] at hm
        cases hm
theorem ok_mut (T : Tx nm C CXt M X) {m : Mn.M} {i : Nat} {a : E} {ob : Expr} {x : Str} {ap pos : Pos} {es : List Expr} (hx : x = mtName m) (hl : (ap.endLine == pos.line) = true) (ho : isVarB X.N X.env.scope i ob = true) (ha : OkA C M X a es) (hn : es.length = mtArgs m) :
    Ok3 C M X (.mut m i none a) (.Call (.Attribute ob x ap) es [] pos) := by
  obtain ⟨ts, hp, hr⟩ := ha.l
  obtain ⟨po, _, nc⟩ := isVarB_ok ho
  subst hx
  have key : ∀ σ H Q, tE M (evE C (.mut m i none a)) σ H Q → ∃ v, σ[i]? = some (some v) ∧ tyV X.K "list" v H ∧ tsCons ts σ H fun xs H2 => rMut m v xs H2 Q := by
    rintro σ H Q ⟨B, F, ev, st, o⟩
    have o : Out M B F σ Q (match ev.get i with
      | some (.lst _) => (evL C a ev).bind fun ds e' => match e'.get i with
        | some (.lst xs) => match m.ev xs ds with
          | some (d, ys) => .ok (.val d) (e'.set i (some (.lst ys)))
          | none => .bad
        | _ => .bad
      | _ => .bad) := o
    cases q : ev.get i with
    | none => rw [q] at o; exact o.elim
    | some w =>
      rw [q] at o
      cases w with
      | lst ds0 =>
        obtain ⟨fp, s⟩ := id st
        obtain ⟨ad, us, hv, had, _⟩ := s.lst_at q
        refine ⟨.ref ad, hv, .inl ⟨rfl, us, SqL.of had⟩, ?_⟩
        rw [← hr]
        refine evL_ok a st (OutL.mono (Out.bindL (Rl := RL M) o) (Gr.refl _ _) fun vs H' z => ?_)
        obtain ⟨ds, e', F', g, s', rp, o'⟩ := z
        cases q1 : e'.get i with
        | none => rw [q1] at o'; exact o'.elim
        | some w =>
          rw [q1] at o'
          cases w with
          | lst xs =>
            have o' : Out M B F' σ Q (match m.ev xs ds with
              | some (d, ys) => .ok (.val d) (e'.set i (some (.lst ys)))
              | none => .bad) := o'
            cases q2 : m.ev xs ds with
            | none => rw [q2] at o'; exact o'.elim
            | some dy =>
              obtain ⟨d, ys⟩ := dy
              rw [q2] at o'
              exact mut_core s' q1 hv rp q2 o'
          | _ => exact o'.elim
      | _ => exact o.elim
  refine Ok3.of ?_ rfl rfl
  have st := hp.stars
  cases hp with
  | nil =>
    cases m <;> first | (cases hn; done) | skip
    exact peImp (pe_bm0 PySem.F.plainAttrs_list PySem.F.slot_list_pop PySem.F.type_list_pop mt_pop po (attrBase nc) hl) key
  | cons h q mm r =>
    rename_i e1 er t1 tr
    have hlen : (e1 :: er).length = mtArgs m := hn
    have few : ∀ {env : PySem.Env}, ((backTo pos (starEach (e1 :: er) env)).all (fun x => !x.1) && (backToKw pos (keywordEach [] env)).all (fun x => x.1.isSome)
      && decide ((e1 :: er).length + ([] : List Keyword).length + (if ([] : List Keyword).isEmpty then 0 else 1) < 30)) = true := by
      intro env
      rw [star_all st]
      have : (e1 :: er).length ≤ 1 := by rw [hlen]; cases m <;> decide
      show (true && true && decide ((e1 :: er).length + 0 + 0 < 30)) = true
      rw [decide_eq_true (by omega)]
      rfl
    have sn : (backTo pos (starEach er X.env)).any (·.1) = false := star_none fun e he => st e (List.mem_cons_of_mem _ he)
    cases m with
    | append => exact peImp (pe_bm PySem.F.plainAttrs_list PySem.F.slot_list_append PySem.F.type_list_append mt_append po (PEs.cons h q mm r).pa (attrBase nc) few hl (star_cons h) sn) key
    | extend => exact peImp (pe_bm PySem.F.plainAttrs_list PySem.F.slot_list_extend PySem.F.type_list_extend mt_extend po (PEs.cons h q mm r).pa (attrBase nc) few hl (star_cons h) sn) key
    | pop => cases hlen
    | popAt => exact peImp (pe_bm PySem.F.plainAttrs_list PySem.F.slot_list_pop PySem.F.type_list_pop mt_popAt po (PEs.cons h q mm r).pa (attrBase nc) few hl (star_cons h) sn) key
end
end Mn
set_option Elab.async false
set_option linter.all false
set_option maxRecDepth 100000
set_option maxHeartbeats 4000000
/-! Mn: fields of an own dict change. -/
namespace Mn
open PySem L2
section
variable {K : PySem.W.Frag} {G : Nat → Option Addr} {pv : List (Nat × V)} {fp : Nat → AS} {B F H : Hp} {e : Env} {σ : List (Option V)}
theorem fld_lst : ∀ {ns : List Str} {ws : List W} {kvs : List (Key × V)} {T : AS} {f : Str} {ds : List D}, kvs.map (·.1) = ns.map Sum.inr → WRs K G F H ws (kvs.map (·.2)) T → fld ns ws f = some (.lst ds) →
    ∃ b vs, valV kvs (Sum.inr f) = some (.ref b) ∧ T b ∧ H b = some (.lst vs) ∧ Rps K G F ds vs ∧ ∀ es us, Rps K G F es us → WRs K G F (upd H b (.lst us)) (setFld ns ws f (.lst es)) (kvs.map (·.2)) T
  | [], ws, kvs, T, f, ds, _, _, h => by unfold fld at h; cases h
  | n :: ns, [], kvs, T, f, ds, _, _, h => by unfold fld at h; cases h
  | n :: ns, w :: ws, [], T, f, ds, e, _, h => by cases e
  | n :: ns, w :: ws, kv :: kvs, T, f, ds, e, r, h => by
    obtain ⟨v, t, S1, S2, e1, r1, r2, dj, z⟩ := WRs.cons_iff.mp r
    injection e1 with e1 e1'
    have e1 : kv.2 = _ := e1
    subst e1'
    injection e with e2 e3
    unfold fld at h
    unfold setFld
    by_cases q : n = f
    · rw [if_pos q] at h
      cases h
      obtain ⟨b, vs, hb, hv, rv, zS⟩ := WR.lst_iff.mp r1
      have hT : T b := (z b).mpr (.inl ((zS b).mpr rfl))
      refine ⟨b, vs, ?_, hT, hv, rv, fun es us r' => ?_⟩
      · rw [valV_pos (show kv.1 = Sum.inr f from e2.trans (by rw [q]))]
        rw [← hb, ← e1]
      · rw [if_pos q]
        refine WRs.cons_iff.mpr ⟨v, _, S1, S2, by rw [List.map_cons, e1], WR.lst_iff.mpr ⟨b, us, hb, upd_same, r', zS⟩, ?_, dj, z⟩
        exact WRs.frame (Ex.refl _) ws _ S2 (fun a ha => upd_ne fun zz => dj b ((zS b).mpr rfl) (zz ▸ ha)) r2
    · rw [if_neg q] at h
      obtain ⟨b, vs, h1, h2, h3, h4, h5⟩ := fld_lst e3 r2 h
      refine ⟨b, vs, ?_, (z b).mpr (.inr h2), h3, h4, fun es us r' => ?_⟩
      · rw [valV_neg (fun zz => q (Sum.inr.inj (e2.symm.trans zz)))]
        exact h1
      · rw [if_neg q]
        refine WRs.cons_iff.mpr ⟨v, _, S1, S2, by rw [List.map_cons, e1], ?_, h5 es us r', dj, z⟩
        exact WR.frame (Ex.refl _) w v S1 (fun a ha => upd_ne fun zz => dj b (zz ▸ ha) h2) r1
theorem fld_val : ∀ {ns : List Str} {ws : List W} {kvs : List (Key × V)} {T : AS} {f : Str} {d0 : D}, ns.Nodup → kvs.map (·.1) = ns.map Sum.inr → WRs K G F H ws (kvs.map (·.2)) T → fld ns ws f = some (.val d0) →
    (kvs.any fun kv => decide (kv.1 = Sum.inr f)) = true ∧ ∀ d v, Rp K G F d v → WRs K G F H (setFld ns ws f (.val d)) ((kvs.map fun kv => if kv.1 = Sum.inr f then (kv.1, v) else kv).map (·.2)) T
  | [], ws, kvs, T, f, d0, _, _, _, h => by unfold fld at h; cases h
  | n :: ns, [], kvs, T, f, d0, _, _, _, h => by unfold fld at h; cases h
  | n :: ns, w :: ws, [], T, f, d0, _, e, _, h => by cases e
  | n :: ns, w :: ws, kv :: kvs, T, f, d0, nd, e, r, h => by
    obtain ⟨v0, t, S1, S2, e1, r1, r2, dj, z⟩ := WRs.cons_iff.mp r
    injection e1 with e1 e1'
    have e1 : kv.2 = _ := e1
    subst e1'
    injection e with e2 e3
    obtain ⟨n1, n2⟩ := List.nodup_cons.mp nd
    unfold fld at h
    unfold setFld
    by_cases q : n = f
    · rw [if_pos q] at h
      cases h
      have hk : kv.1 = Sum.inr f := e2.trans (by rw [q])
      refine ⟨by rw [List.any_cons, decide_eq_true hk]; rfl, fun d v r' => ?_⟩
      rw [if_pos q, List.map_cons, if_pos hk, List.map_cons]
      have rest : (kvs.map fun kv => if kv.1 = Sum.inr f then (kv.1, v) else kv) = kvs := by
        have : ∀ kv ∈ kvs, (if kv.1 = Sum.inr f then (kv.1, v) else kv) = kv := fun kv' hm => by
          rw [if_neg]
          intro zz
          have hm2 : kv'.1 ∈ kvs.map (·.1) := List.mem_map_of_mem hm
          rw [e3, zz] at hm2
          obtain ⟨y, hy, e⟩ := List.mem_map.mp hm2
          have : y = f := Sum.inr.inj e
          subst this
          exact n1 (q ▸ hy)
        calc kvs.map _ = kvs.map id := List.map_congr_left this
          _ = kvs := List.map_id _
      rw [rest]
      have nS : ∀ a, ¬ S1 a := (WR.val_iff.mp r1).1
      exact WRs.cons_iff.mpr ⟨v, _, S1, S2, rfl, WR.val_iff.mpr ⟨nS, r'⟩, r2, dj, z⟩
    · rw [if_neg q] at h
      have hk : ¬ kv.1 = Sum.inr f := fun zz => q (Sum.inr.inj (e2.symm.trans zz))
      obtain ⟨h1, h2⟩ := fld_val n2 e3 r2 h
      refine ⟨by rw [List.any_cons, h1, Bool.or_true], fun d v r' => ?_⟩
      rw [if_neg q, List.map_cons, if_neg hk, List.map_cons]
      exact WRs.cons_iff.mpr ⟨v0, _, S1, S2, by rw [e1], r1, h2 d v r', dj, z⟩
theorem at_rc {i : Nat} {f : Str} {w : W} (h : e.at i (some f) = some w) : ∃ ns ws, e.get i = some (.rc ns ws) ∧ fld ns ws f = some w ∧ ∀ w', e.put i w' (some f) = e.set i (some (.rc ns (setFld ns ws f w'))) := by
  unfold Env.at at h
  cases q : e.get i with
  | none => simp [q] at h
  | some u =>
    cases u with
    | rc ns ws =>
      simp [q] at h
      exact ⟨ns, ws, rfl, h, fun w' => by unfold Env.put; rw [q]⟩
    | _ => simp [q] at h
/-- a list in a field -/
theorem StF.fld_at {i : Nat} {f : Str} {ds : List D} (s : StF K G pv fp B F H e σ) (h : e.at i (some f) = some (.lst ds)) : ∃ a kvs b vs, σ[i]? = some (some (.ref a)) ∧ H a = some (.dK kvs) ∧ valV kvs (Sum.inr f) = some (.ref b) ∧ H b = some (.lst vs) ∧ Rps K G F ds vs ∧
    ∀ es us, Rps K G F es us → StF K G pv fp B F (upd H b (.lst us)) (e.put i (.lst es) (some f)) σ := by
  obtain ⟨ns, ws, h1, h2, h3⟩ := at_rc h
  obtain ⟨v, hv, r⟩ := s.slot i _ h1
  obtain ⟨a, kvs, T, rfl, ha, hk, r, nT, z⟩ := WR.rc_iff.mp r
  obtain ⟨b, vs, f1, f2, f3, f4, f5⟩ := fld_lst hk.2 r h2
  refine ⟨a, kvs, b, vs, hv, ha, f1, f3, f4, fun es us r' => ?_⟩
  rw [h3]
  refine s.change ((z b).mpr (.inr f2)) hv (WR.rc_iff.mpr ⟨a, kvs, T, rfl, ?_, hk, f5 es us r', nT, z⟩)
  rw [upd_ne (fun zz : a = b => nT (zz ▸ f2))]
  exact ha
/-- a value in a field -/
theorem StF.fld_set {i : Nat} {f : Str} {d0 d : D} {v : V} (s : StF K G pv fp B F H e σ) (h : e.at i (some f) = some (.val d0)) (r' : Rp K G F d v) : ∃ a kvs, σ[i]? = some (some (.ref a)) ∧ H a = some (.dK kvs) ∧ kvs.length ≤ 15 ∧
    StF K G pv fp B F (upd H a (.dK (putK kvs (Sum.inr f) v))) (e.put i (.val d) (some f)) σ := by
  obtain ⟨ns, ws, h1, h2, h3⟩ := at_rc h
  obtain ⟨v0, hv, r⟩ := s.slot i _ h1
  obtain ⟨a, kvs, T, rfl, ha, hk, r, nT, z⟩ := WR.rc_iff.mp r
  obtain ⟨f1, f2⟩ := fld_val hk.1.1 hk.2 r h2
  have ep : putK kvs (Sum.inr f) v = kvs.map fun kv => if kv.1 = Sum.inr f then (kv.1, v) else kv := by
    unfold putK
    rw [if_pos f1]
  refine ⟨a, kvs, hv, ha, by rw [← List.length_map (f := fun x => x.1), hk.2, List.length_map]; exact hk.1.2, ?_⟩
  rw [h3, ep]
  refine s.change ((z a).mpr (.inl rfl)) hv (WR.rc_iff.mpr ⟨a, _, T, rfl, upd_same, ⟨hk.1, ?_⟩, ?_, nT, z⟩)
  · rw [← hk.2, List.map_map]
    refine List.map_congr_left fun kv _ => ?_
    show (if kv.1 = Sum.inr f then (kv.1, v) else kv).1 = kv.1
    split <;> rfl
  · exact WRs.frame (Ex.refl _) _ _ T (fun b hb => upd_ne fun zz => nT (zz ▸ hb)) (f2 d v r')
end
section
variable {nm : Nat → Str} {C : Cn} {CXt : CXT} {M : Mc} {X : Cx}
theorem csts_pes {N : List Str} {sc : Scope} : ∀ {a : E} {es : List Expr}, a.csts = true → isA nm N sc a es = true → ∃ ts, PEs X es ts ∧ rdsC a = tsCons ts := by
  intro a
  induction a with
  | nil =>
    intro es _ h
    cases es with
    | nil => exact ⟨[], .nil, rfl⟩
    | cons _ _ => unfold isA at h; cases h
  | cons b r ihb ih =>
    intro es hc h
    cases b <;> first | (cases hc; done) | skip
    rename_i d
    have hc : (d.sc && r.csts) = true := hc
    rw [Bool.and_eq_true] at hc
    cases es with
    | nil => unfold isA at h; cases h
    | cons e es =>
      unfold isA at h
      rw [Bool.and_eq_true, Bool.and_eq_true] at h
      obtain ⟨ts, h1, h2⟩ := ih hc.2 h.2
      have h3 : isCstB d e = true := by
        have := h.1.2
        unfold isE at this
        exact this
      obtain ⟨p, _, s, _⟩ := isCstB_ok (X := X) h3
      exact ⟨_, .cons s p (TMono.cst _) h1, by show tCons _ (rdsC r) = _; rw [h2]; rfl⟩
  | _ => intro es hc; cases hc
theorem csts_okL {F H : Hp} {e : Env} {σ : List (Option V)} {C : Cn} : ∀ {r : E}, r.csts = true → ∃ ds vs, evL C r e = .ok ds e ∧ Rps M.K M.G F ds vs ∧ ∀ Q : List V → Hp → Prop, Q vs H → rdsC r σ H Q := by
  intro r
  induction r with
  | nil => intro _; exact ⟨[], [], rfl, Rps.nil, fun Q q => q⟩
  | cons b r ihb ih =>
    intro hc
    cases b <;> first | (cases hc; done) | skip
    rename_i d
    have hc : (d.sc && r.csts) = true := hc
    rw [Bool.and_eq_true] at hc
    obtain ⟨ds, vs, e1, h1, h2⟩ := ih hc.2
    refine ⟨d :: ds, d.cv :: vs, ?_, Rps.cons (D.sc_rp hc.1) h1, fun Q q => h2 _ q⟩
    show ((R.ok (W.val d) e).bind fun w e' => match w.frz with | some d => (evL C r e').bind fun ds e2 => .ok (d :: ds) e2 | none => .bad) = _
    show ((evL C r e).bind fun ds e2 => .ok (d :: ds) e2) = _
    rw [e1]
    rfl
  | _ => intro hc; cases hc
/-- the change of a list, by values -/
theorem mut_val {m : Mn.M} {F H : Hp} {xs ds ys : List D} {d : D} {us vs : List V} {a : Addr} {Q : VK} (ex : Ex F H) (ha : H a = some (.lst us)) (rx : Rps M.K M.G F xs us) (r : Rps M.K M.G F ds vs)
    (hm : m.ev xs ds = some (d, ys)) (fin : ∀ {y : V} {zs : List V}, Rp M.K M.G F d y → Rps M.K M.G F ys zs → Q y (upd H a (.lst zs))) : rMut m (.ref a) vs H Q := by
  cases m with
  | append =>
    match ds, r, hm with
    | [], _, hm => cases hm
    | _ :: _ :: _, _, hm => cases hm
    | [d0], r, hm =>
      obtain ⟨v, t, e1, r1, r2⟩ := Rps.cons_iff.mp r
      rw [Rps.nil_iff.mp r2] at e1
      subst e1
      have hm : (if decide (xs.length < 16777216) then some (D.non, xs ++ [d0]) else none) = some (d, ys) := hm
      by_cases hl : decide (xs.length < 16777216) = true
      · rw [if_pos hl] at hm
        cases hm
        exact ⟨a, us, v, rfl, rfl, ha, by rw [rx.length, sizeLine_eq]; exact of_decide_eq_true hl, fin (by unfold Rp; rfl) (rx.append (Rps.one r1))⟩
      · rw [if_neg hl] at hm
        cases hm
  | extend =>
    match ds, r, hm with
    | [], _, hm => cases hm
    | d0 :: _ :: _, _, hm => cases d0 <;> cases hm
    | [d0], r, hm =>
      cases d0 <;> first | (cases hm; done) | skip
      rename_i es
      obtain ⟨v, t, e1, r1, r2⟩ := Rps.cons_iff.mp r
      rw [Rps.nil_iff.mp r2] at e1
      subst e1
      have hm : (if szOk (xs.length + es.length) then some (D.non, xs ++ es) else none) = some (d, ys) := hm
      by_cases hl : szOk (xs.length + es.length) = true
      · rw [if_pos hl] at hm
        cases hm
        unfold Rp at r1
        obtain ⟨b, ws, rfl, hb, rb⟩ := r1
        exact ⟨a, b, us, ws, rfl, rfl, ha, ex _ _ hb, by rw [rx.length, rb.length]; exact szOk_le hl, fin (by unfold Rp; rfl) (rx.append rb)⟩
      · rw [if_neg hl] at hm
        cases hm
  | pop =>
    match ds, r, hm with
    | _ :: _, _, hm => cases hm
    | [], r, hm =>
      rw [Rps.nil_iff.mp r]
      have hm : (match xs[xs.length - 1]? with
        | some d => some (d, xs.dropLast)
        | none => none) = some (d, ys) := hm
      cases q : xs[xs.length - 1]? with
      | none => rw [q] at hm; cases hm
      | some y =>
        rw [q] at hm
        cases hm
        obtain ⟨v, h1, h2⟩ := rx.get q
        exact ⟨a, us, v, rfl, rfl, ha, by rw [rx.length]; exact h1, fin h2 rx.dropLast⟩
  | popAt =>
    match ds, r, hm with
    | [], _, hm => cases hm
    | d0 :: _ :: _, _, hm => cases d0 <;> cases hm
    | [d0], r, hm =>
      cases d0 <;> first | (cases hm; done) | skip
      rename_i j
      obtain ⟨v, t, e1, r1, r2⟩ := Rps.cons_iff.mp r
      rw [Rps.nil_iff.mp r2] at e1
      subst e1
      unfold Rp at r1
      subst r1
      have hm : (match (if rngOk j then seqIndex? j xs.length else none) with
        | some k => match xs[k]? with
          | some d => some (d, xs.eraseIdx k)
          | none => none
        | none => none) = some (d, ys) := hm
      by_cases hj : rngOk j = true
      · rw [if_pos hj] at hm
        have b := rngOk_ok hj
        cases q : seqIndex? j xs.length with
        | none => rw [q] at hm; cases hm
        | some k =>
          rw [q] at hm
          cases q2 : xs[k]? with
          | none => simp only [q2] at hm; cases hm
          | some y =>
            simp only [q2] at hm
            cases hm
            obtain ⟨v, h1, h2⟩ := rx.get q2
            exact ⟨a, us, j, k, v, rfl, rfl, ha, by omega, by omega, by rw [rx.length]; exact q, h1, fin h2 (rx.eraseIdx k)⟩
      · rw [if_neg hj] at hm
        cases hm
/-- the call's text -/
theorem mut_pe {m : Mn.M} {ob : Expr} {x : Str} {ap pos : Pos} {es : List Expr} {to : TE} {ts : List TE} (hx : x = mtName m) (hl : (ap.endLine == pos.line) = true) (po : PE X ob to) (nc : notCallB ob = true) (hp : PEs X es ts) (hn : es.length = mtArgs m) (mto : TMono to) :
    PE X (.Call (.Attribute ob x ap) es [] pos) (fun σ H Q => to σ H fun v H1 => tyV X.K "list" v H1 ∧ tsCons ts σ H1 fun xs H2 => rMut m v xs H2 Q) := by
  subst hx
  have st := hp.stars
  cases hp with
  | nil =>
    cases m <;> first | (cases hn; done) | skip
    exact pe_bm0 PySem.F.plainAttrs_list PySem.F.slot_list_pop PySem.F.type_list_pop mt_pop po (attrBase nc) hl
  | cons h q mm r =>
    rename_i e1 er t1 tr
    have hlen : (e1 :: er).length = mtArgs m := hn
    have few : ∀ {env : PySem.Env}, ((backTo pos (starEach (e1 :: er) env)).all (fun x => !x.1) && (backToKw pos (keywordEach [] env)).all (fun x => x.1.isSome)
      && decide ((e1 :: er).length + ([] : List Keyword).length + (if ([] : List Keyword).isEmpty then 0 else 1) < 30)) = true := by
      intro env
      rw [star_all st]
      have : (e1 :: er).length ≤ 1 := by rw [hlen]; cases m <;> decide
      show (true && true && decide ((e1 :: er).length + 0 + 0 < 30)) = true
      rw [decide_eq_true (by omega)]
      rfl
    have sn : (backTo pos (starEach er X.env)).any (·.1) = false := star_none fun e he => st e (List.mem_cons_of_mem _ he)
    cases m with
    | append => exact pe_bm PySem.F.plainAttrs_list PySem.F.slot_list_append PySem.F.type_list_append mt_append po (PEs.cons h q mm r).pa (attrBase nc) few hl (star_cons h) sn
    | extend => exact pe_bm PySem.F.plainAttrs_list PySem.F.slot_list_extend PySem.F.type_list_extend mt_extend po (PEs.cons h q mm r).pa (attrBase nc) few hl (star_cons h) sn
    | pop => cases hlen
    | popAt => exact pe_bm PySem.F.plainAttrs_list PySem.F.slot_list_pop PySem.F.type_list_pop mt_popAt po (PEs.cons h q mm r).pa (attrBase nc) few hl (star_cons h) sn
theorem ok_mutF (T : Tx nm C CXt M X) {m : Mn.M} {i : Nat} {f : Str} {a : E} {ob : Expr} {x : Str} {ap pos : Pos} {es : List Expr} (hx : x = mtName m) (hl : (ap.endLine == pos.line) = true) (ho : isPthB X.N X.env.scope i f ob = true) (hcs : a.csts = true) (ha : isA nm X.N X.env.scope a es = true) (hn : es.length = mtArgs m) :
    Ok3 C M X (.mut m i (some f) a) (.Call (.Attribute ob x ap) es [] pos) := by
  obtain ⟨ts, hp, hr⟩ := csts_pes (X := X) hcs ha
  obtain ⟨po, _, nc, _⟩ := isPthB_ok T ho
  refine Ok3.of (peImp (mut_pe hx hl po nc hp hn (TMono.pth _ _)) ?_) rfl rfl
  rintro σ H Q ⟨B, F, ev, st, o⟩
  have o : Out M B F σ Q (match ev.at i (some f) with
    | some (.lst _) => if (some f).isNone || a.csts then (evL C a ev).bind fun ds e' => match e'.at i (some f) with
      | some (.lst xs) => match m.ev xs ds with
        | some (d, ys) => .ok (.val d) (e'.put i (.lst ys) (some f))
        | none => .bad
      | _ => .bad
      else .bad
    | _ => .bad) := o
  cases q : ev.at i (some f) with
  | none => rw [q] at o; exact o.elim
  | some w =>
    rw [q] at o
    cases w with
    | lst xs =>
      rw [hcs] at o
      obtain ⟨fp, s⟩ := st
      obtain ⟨ad, kvs, b, us, h1, h2, h3, h4, rx, ch⟩ := s.fld_at q
      refine ⟨ad, kvs, .ref b, h1, h2, h3, .inl ⟨rfl, us, SqL.of h4⟩, ?_⟩
      rw [← hr]
      obtain ⟨ds, vs, e1, rd, hQ⟩ := csts_okL (M := M) (F := F) (H := H) (e := ev) (σ := σ) (C := C) hcs
      refine hQ _ ?_
      have o : Out M B F σ Q ((evL C a ev).bind fun ds e' => match e'.at i (some f) with
        | some (.lst xs) => match m.ev xs ds with
          | some (d, ys) => .ok (.val d) (e'.put i (.lst ys) (some f))
          | none => .bad
        | _ => .bad) := o
      rw [e1] at o
      have o : Out M B F σ Q (match ev.at i (some f) with
        | some (.lst xs) => match m.ev xs ds with
          | some (d, ys) => .ok (.val d) (ev.put i (.lst ys) (some f))
          | none => .bad
        | _ => .bad) := o
      rw [q] at o
      have o : Out M B F σ Q (match m.ev xs ds with
        | some (d, ys) => .ok (.val d) (ev.put i (.lst ys) (some f))
        | none => .bad) := o
      cases q2 : m.ev xs ds with
      | none => rw [q2] at o; exact o.elim
      | some dy =>
        obtain ⟨d, ys⟩ := dy
        rw [q2] at o
        exact mut_val s.exF h4 rx rd q2 fun {y zs} r1 r2 => o y F _ (Gr.refl _ _) (StV.of ⟨fp, ch ys zs r2⟩ r1)
    | _ => exact o.elim
end
end Mn
set_option Elab.async false
set_option linter.all false
set_option maxRecDepth 100000
set_option maxHeartbeats 4000000
/-! Mn, part 17: enumerate of a tuple. -/
namespace MnM
open PySem PySem.Spec PyProof.Rows L2
abbrev enObj (i : Addr) (k : Int) : Obj := { cls := .type "enumerate", data := .fields #[.none, .bool false, .ref i, rawInt k, .none, .none] }
theorem meets_en1 {v : Value} {o : Obj} {J : Heap → Prop} (b : Begins v o J) :
    Meets (Builtin.«enumerate.__new__» ⟨[.type "enumerate", v], []⟩) (fun _ Rz s => J s.heap ∧
      Rz (.ok (.ret (.ref (s.heap.push o).objs.size))) { s with heap := (s.heap.push o).push (enObj s.heap.objs.size 0) }) :=
  .of_wp fun prog w A Rz s hz => by
    obtain ⟨hp, g, d, tk, os⟩ := s
    obtain ⟨j1, hz⟩ := hz
    have hs0 := sub_enumerate
    have go : ∀ {A' : Around} {E : Value → Shared → Prop} {Q : Value → Shared → Prop},
        Q (.ref hp.objs.size) ⟨hp.push o, g, d, tk, os⟩ →
        wpAny (model prog w) A' (pyIter v) Q E ⟨hp, g, d, tk, os⟩ := fun q => b.iter prog w _ _ ⟨hp, g, d, tk, os⟩ _ j1 q
    wp_walk using go
    refine wpAny_stack_any fun z => wpAny_pure ?_
    split
    · rename_i c _ _ _ _ _
      cases (c == Value.type "enumerate") <;> (wp_walk using go; exact ⟨_, rfl, hz⟩)
    · wp_walk using go
      exact ⟨_, rfl, hz⟩
theorem call_en1 {prog : Program} {w : World} {A : Around} {E : Value → Shared → Prop} {s : Shared} {v : Value} {o : Obj} {J : Heap → Prop} {Q : Value → Shared → Prop} (b : Begins v o J) (j1 : J s.heap)
    (h : ∀ h', IsEnum h' (s.heap.objs.size + 1) s.heap.objs.size 0 .none → h'.get? s.heap.objs.size = some o →
      (∀ b o, s.heap.get? b = some o → h'.get? b = some o) → Q (.ref (s.heap.objs.size + 1)) { s with heap := h' }) :
    wpAny (model prog w) A (call (.type "enumerate") [v]) Q E s := by
  refine callType_new F.called_enumerate (by decide) (F.typeCall_enumerate_1 _) (F.newCall_enumerate_1 _)
    (fun ob => F.args_object_init_2 ob _) F.entry_enumerate_new (meets_en1 b) ⟨j1, ?_⟩
  have e1 : (s.heap.push o).objs.size = s.heap.objs.size + 1 := Heap.size_push ..
  show _ ∧ _
  rw [e1]
  have e2 : ((s.heap.push o).push (enObj s.heap.objs.size 0)).get? (s.heap.objs.size + 1) = some (enObj s.heap.objs.size 0) := by
    have q := Heap.get?_push_size (s.heap.push o) (o := enObj s.heap.objs.size 0) rfl
    rw [e1] at q
    exact q
  exact ⟨⟨_, e2, rfl⟩, h _ e2 (Heap.get?_push_of_some _ (Heap.get?_push_size _ b.free)) fun b o x => Heap.get?_push_of_some _ (Heap.get?_push_of_some _ x)⟩
/-- the tuple at a, each item in a new pair -/
def ItEt (K : PySem.W.Frag) (a : Addr) : It where
  go := fun i H => ∃ (xs : List V) (x : V), SqT K H a xs ∧ xs[i]? = some x
  yld := fun i H v H' => ∃ T x, v = .ref T ∧ H T = none ∧ H' = upd H T (.tup [.int (i : Nat), x]) ∧ ∀ xs, SqT K H a xs → xs[i]? = some x
  stop := fun i H => ∃ xs : List V, SqT K H a xs ∧ xs.length = i
theorem turn_en {P : Program} {w : World} {K : PySem.W.Frag} {elts : List Expr} {kk : Nat} {tpos : Pos} (a e it : Addr) :
    Turn P w K (.Tuple elts kk tpos) (ItEt K a) [e, it] e (fun i h => (∃ old, IsEnum h e it ((i : Nat) : Int) old) ∧ h.IsTupleIter it a i ∧ e ≠ it) where
  mem := by simp
  obj := fun i h st b hb => by
    obtain ⟨⟨old, he⟩, ⟨o, ho, hc, hd⟩, _⟩ := st
    rcases (by simpa using hb : b = e ∨ b = it) with rfl | rfl
    · exact ⟨_, he, fun v q => nomatch q⟩
    · exact ⟨o, ho, fun v q => by rw [hd] at q; cases q⟩
  keep := fun i h h' st k => by
    obtain ⟨⟨old, he⟩, hi, hne⟩ := st
    exact ⟨⟨old, k e (by simp) _ he⟩, hi.at fun o q => k it (by simp) o q, hne⟩
  item := by
    intro X hP hw hK hc i pins s σ H E I hf st hg
    subst hP hw hK
    obtain ⟨⟨old, he⟩, hit, hne⟩ := st
    obtain ⟨xs, x0, hq, hx⟩ := hg
    obtain ⟨its, rv, p, hz⟩ := I.tuple hq
    obtain ⟨u, hu, ru⟩ := rv.get hx
    have pt : s.heap.IsTuple a its.toArray := p
    have nea : e ≠ a := fun z => by
      obtain ⟨o, ho, hcl, _⟩ := pt
      have he2 : s.heap.get? a = _ := z ▸ he
      rw [ho] at he2
      cases he2
      injection hcl with q
      exact absurd q (by decide)
    have nia : a ≠ it := fun z => by
      obtain ⟨o, ho, hcl, _⟩ := pt
      obtain ⟨o2, ho2, hcl2, _⟩ := hit
      rw [z, ho2] at ho
      cases ho
      rw [hcl2] at hcl
      injection hcl with q
      exact absurd q (by decide)
    have dr := Draws.tuple (prog := X.prog) (w := X.w) (A := X.A.in1) (I.ok.hd hc) it a nia its.toArray
    have hel : e < s.heap.objs.size := Heap.lt_size he
    have hil : it < s.heap.objs.size := by obtain ⟨_, q, _⟩ := hit; exact Heap.lt_size q
    have hlt : i < its.toArray.size := by
      have := (List.getElem?_eq_some_iff.mp hu).1
      simpa using this
    refine wpAny_pyNext_enum_itemD dr he ⟨hit, pt⟩ hlt hne (by simp [nea, hne]) fun y h' tk hy ho hst hT hsz hk => ?_
    have ey : y = u := by
      have hy' : its[i]? = some y := by simpa using hy
      rw [hu] at hy'
      exact (Option.some.inj hy').symm
    subst ey
    obtain ⟨hit', _⟩ := hst
    refine ⟨_, rfl, wpAny_letOwnedTupleGo_enum (s := { s with heap := h', toks := tk + 1 }) ho fun h'' he' sb => ?_⟩
    have hT2 : h''.get? s.heap.objs.size = some { cls := .type "tuple", data := .seq #[.int i tk, y] } := (sb.2 _ (Nat.ne_of_gt hel)).trans hT
    have new : ObjOk X.prog X.w (upd H s.heap.objs.size (.tup [.int (i : Nat), x0])) h'' s.heap.objs.size (.tup [.int (i : Nat), x0]) :=
      ⟨by show 2 ≤ sizeLine; decide, [.int i tk, y], .cons ⟨_, rfl⟩ (.cons ru .nil), ⟨_, hT2, rfl, _, rfl⟩⟩
    have I1 : L2.Inv X pins σ (upd H s.heap.objs.size (.tup [.int (i : Nat), x0])) { s with heap := h'', toks := tk + 1 } :=
      I.turnedNew (ch := [e, it]) (fun b ob hb q => (sb.2 b (fun z => hb (by simp [z]))).trans (hk b ob (fun z => hb (by simp [z])) (fun z => hb (by simp [z])) q)) hf (Nat.le_refl _) new
    refine ⟨.ref s.heap.objs.size, _, I1, rfl, ⟨_, x0, rfl, I.hok.fresh (Nat.le_refl _), rfl, fun ys hy => by rw [I.tuple_inj hy hq]; exact hx⟩,
      ⟨⟨y, ?_⟩, hit'.at fun o q => (sb.2 it (Ne.symm hne)).trans q, hne⟩, fun b hb => ?_⟩
    · have e1 : ((i + 1 : Nat) : Int) = (i : Int) + 1 := by omega
      rw [e1]
      exact he'
    · have hb' : b < s.heap.objs.size := by
        rcases (by simpa using hb : b = e ∨ b = it) with rfl | rfl
        · exact hel
        · exact hil
      rw [upd_ne (Nat.ne_of_lt hb')]
      exact (hf b hb).1
  done := by
    intro X hP hw hK hc i pins s σ H E I hf st hg
    subst hP hw hK
    obtain ⟨⟨old, he⟩, hit, hne⟩ := st
    obtain ⟨xs, hq, hx⟩ := hg
    obtain ⟨its, rv, p, hz⟩ := I.tuple hq
    have pt : s.heap.IsTuple a its.toArray := p
    obtain ⟨f0, f1, f2, f3, f4, f5⟩ := hf it (by simp)
    have nia : a ≠ it := fun z => by
      obtain ⟨o, ho, hcl, _⟩ := pt
      obtain ⟨o2, ho2, hcl2, _⟩ := hit
      rw [z, ho2] at ho
      cases ho
      rw [hcl2] at hcl
      injection hcl with q
      exact absurd q (by decide)
    have dr := Draws.tuple (prog := X.prog) (w := X.w) (A := X.A.in1) (I.ok.hd hc) it a nia its.toArray
    have hl := rv.length
    have ei : i = its.toArray.size := by simp; omega
    refine wpAny_pyNext_enum_endD dr he (ei ▸ ⟨hit, pt⟩) fun h' eb => ⟨rfl, I.turned (t' := s.toks) (fun b o hb q => eb b o hb q) f0 f1 f3 f4 f5⟩
  self := fun _ _ _ _ _ st h => let ⟨⟨_, he⟩, _⟩ := st; wpAny_pyIter_enum he h
/-- enumerate(x), x a list or a tuple -/
def iEnA (K : PySem.W.Frag) (ta : TA) : TI := fun σ H R => ta σ H fun vs H1 => ∃ (a : Addr) (xs : List V), vs = [.ref a] ∧ ((SqL K H1 a xs ∧ R (Ite K a) H1) ∨ (SqT K H1 a xs ∧ R (ItEt K a) H1))
theorem pi_enA {X : Cx} {e : Expr} {ta : TA} {p pos tpos : Pos} {elts : List Expr} {kk : Nat} (hg : Gl X "enumerate") (hm : X.mg "enumerate" = none) (ha : PA X [e] ta) (hs : starEach [e] X.env = [(false, eval e X.env)]) :
    PI X (.Tuple elts kk tpos) (.Call (.Name "enumerate" p) [e] [] pos) (iEnA X.K ta) := by
  refine ⟨fun pins s σ H Rz I h => ?_⟩
  refine Call_ (ld_blt I hg hm boot_enumerate (PyProof.Rows.callWith_type1 (thn (ha.run pos pins s σ H _ I h) fun us s1 ⟨vs, H1, I1, r1, q1⟩ => ?_) hs rfl))
  obtain ⟨a, xs, ex, q⟩ := q1
  subst ex
  cases r1 with
  | cons r rr =>
    cases rr
    cases r
    have fr : ∀ b, b ∈ [s1.heap.objs.size + 1, s1.heap.objs.size] → FpOk X pins H1 b := fun b hb => by
      have hle : s1.heap.objs.size ≤ b := by
        rcases (by simpa using hb : b = s1.heap.objs.size + 1 ∨ b = s1.heap.objs.size) with z | z
        · rw [z]; exact Nat.le_add_right _ _
        · rw [z]; exact Nat.le_refl _
      exact I1.fpOk hle (I1.hok.fresh hle)
    rcases q with ⟨hq, q⟩ | ⟨hq, q⟩
    · obtain ⟨its, rv, p', hz⟩ := I1.list hq
      refine call_enumerate_list p'.isList fun h' he hit hsz hk => wpAny_pyIter_enum he ?_
      exact ⟨s1.heap.objs.size + 1, _, _, _, H1, rfl, I1.kept (t' := s1.toks) hk, turn_enum a (s1.heap.objs.size + 1) s1.heap.objs.size, ⟨⟨.none, he⟩, hit, Nat.succ_ne_self _⟩, fr, q⟩
    · obtain ⟨its, rv, p', hz⟩ := I1.tuple hq
      have pt : s1.heap.IsTuple a its.toArray := p'
      refine call_en1 (begins_tuple a its.toArray) pt fun h' he hit hk => wpAny_pyIter_enum he ?_
      exact ⟨s1.heap.objs.size + 1, _, _, _, H1, rfl, I1.kept (t' := s1.toks) hk, turn_en a (s1.heap.objs.size + 1) s1.heap.objs.size, ⟨⟨.none, he⟩, ⟨_, hit, rfl, rfl⟩, Nat.succ_ne_self _⟩, fr, q⟩
/-- x itself, a list or a tuple -/
def iSeq (K : PySem.W.Frag) (tl : TE) : TI := fun σ H R => tl σ H fun x H1 => ∃ a, x = .ref a ∧ ((∃ xs, SqL K H1 a xs ∧ R (Itl K a) H1) ∨ (∃ xs, SqT K H1 a xs ∧ R (Itt K a) H1))
theorem pi_seq {X : Cx} {tg l : Expr} {tl : TE} (hl : PE X l tl) : PI X tg l (iSeq X.K tl) := by
  refine ⟨fun pins s σ H Rz I h => ?_⟩
  refine thn (hl.run pins s σ H _ I h) fun v s1 ⟨x, H1, I1, r1, q1⟩ => ?_
  obtain ⟨a, ex, q⟩ := q1
  subst ex
  cases r1
  have fr : ∀ b, b ∈ [s1.heap.objs.size] → FpOk X pins H1 b := fun b hb => by
    have z : b = s1.heap.objs.size := by simpa using hb
    subst z
    exact I1.fpOk (Nat.le_refl _) (I1.hok.fresh (Nat.le_refl _))
  rcases q with ⟨xs, hq, q⟩ | ⟨xs, hq, q⟩
  · obtain ⟨its, rv, p, hz⟩ := I1.list hq
    refine wpAny_pyIter_list p.isList ?_
    exact ⟨s1.heap.objs.size, _, _, _, H1, rfl, I1.kept (t' := s1.toks) fun b o e => Heap.get?_push_of_some _ e, turn_list a _, ⟨_, Heap.get?_push_size _ rfl, rfl, rfl⟩, fr, q⟩
  · obtain ⟨its, rv, p, hz⟩ := I1.tuple hq
    refine wpAny_pyIter_tuple (show s1.heap.IsTuple a its.toArray from p) ?_
    exact ⟨s1.heap.objs.size, _, _, _, H1, rfl, I1.kept (t' := s1.toks) fun b o e => Heap.get?_push_of_some _ e, turn_tuple a _, ⟨_, Heap.get?_push_size _ rfl, rfl, rfl⟩, fr, q⟩
end MnM
set_option Elab.async false
set_option linter.all false
set_option maxRecDepth 100000
set_option maxHeartbeats 4000000
/-! Mn, part 18: what loops walk. -/
namespace Mn
open PySem L2
def Yields (M : Mc) (F0 : Hp) (J : It) (items : List D) : Prop := ∀ F H, Ex F0 F → Ex F H → (∀ i d, items[i]? = some d → J.go i H ∧ ∀ x H', J.yld i H x H' → PostW M.K M.G F H (.val d) x H') ∧ J.stop items.length H
section
variable {M : Mc} {F0 : Hp} {ds es : List D} {vs us : List V} {a b : Addr}
theorem y_sqL (h : SqL M.K F0 a vs) (r : Rps M.K M.G F0 ds vs) : Yields M F0 (Itl M.K a) ds := by
  intro F H x ex
  have h' := (x.trans ex).sqL h
  refine ⟨fun i d e => ?_, vs, h', by rw [r.length]; exact Nat.le_refl _⟩
  obtain ⟨v, e1, r1⟩ := r.get e
  refine ⟨⟨vs, v, h', e1⟩, ?_⟩
  rintro y H' ⟨rfl, k⟩
  have := k vs h'
  rw [e1] at this
  cases this
  exact PostW.same ex (r1.mono x)
theorem y_sqT (h : SqT M.K F0 a vs) (r : Rps M.K M.G F0 ds vs) : Yields M F0 (Itt M.K a) ds := by
  intro F H x ex
  have h' := (x.trans ex).sqT h
  refine ⟨fun i d e => ?_, vs, h', by rw [r.length]; exact Nat.le_refl _⟩
  obtain ⟨v, e1, r1⟩ := r.get e
  refine ⟨⟨vs, v, h', e1⟩, ?_⟩
  rintro y H' ⟨rfl, k⟩
  have := k vs h'
  rw [e1] at this
  cases this
  exact PostW.same ex (r1.mono x)
theorem rangeD_len (a b : Int) : (rangeD a b).length = (b - a).toNat := by unfold rangeD; rw [List.length_map, List.length_range]
theorem rangeD_get {a b : Int} {i : Nat} {d : D} (e : (rangeD a b)[i]? = some d) : i < (b - a).toNat ∧ d = .int (a + (i : Int)) := by
  have hl := (List.getElem?_eq_some_iff.mp e).1
  rw [rangeD_len] at hl
  unfold rangeD at e
  rw [List.getElem?_map, List.getElem?_range hl] at e
  cases e
  exact ⟨hl, rfl⟩
theorem y_rng (lo hi : Int) : Yields M F0 (Itr lo (hi - lo).toNat) (rangeD lo hi) := by
  intro F H x ex
  refine ⟨fun i d e => ?_, Nat.le_of_eq (rangeD_len lo hi).symm⟩
  obtain ⟨h1, rfl⟩ := rangeD_get e
  refine ⟨h1, ?_⟩
  rintro y H' ⟨rfl, rfl⟩
  exact PostW.int ex
theorem enumD_get : ∀ {ds : List D} {k i : Nat} {d : D}, (enumD k ds)[i]? = some d → ∃ e, ds[i]? = some e ∧ d = .tup [.int ((k + i : Nat) : Int), e]
  | [], _, _, _, h => by cases h
  | x :: ds, k, 0, d, h => by
    cases h
    exact ⟨x, rfl, rfl⟩
  | x :: ds, k, i + 1, d, h => by
    obtain ⟨e, h1, h2⟩ := enumD_get (ds := ds) (k := k + 1) (i := i) (d := d) h
    exact ⟨e, h1, by rw [h2]; congr 4; omega⟩
theorem enumD_len : ∀ {ds : List D} {k : Nat}, (enumD k ds).length = ds.length
  | [], _ => rfl
  | x :: ds, k => by
    show (enumD (k + 1) ds).length + 1 = _
    rw [enumD_len]
    rfl
theorem y_enL (h : SqL M.K F0 a vs) (r : Rps M.K M.G F0 ds vs) : Yields M F0 (Ite M.K a) (enumD 0 ds) := by
  intro F H x ex
  have h' := (x.trans ex).sqL h
  refine ⟨fun i d e => ?_, vs, h', by rw [r.length, enumD_len]; exact Nat.le_refl _⟩
  obtain ⟨d', e0, rfl⟩ := enumD_get e
  obtain ⟨v, e1, r1⟩ := r.get e0
  refine ⟨⟨vs, v, h', e1⟩, ?_⟩
  rintro y H' ⟨p, z, rfl, hp, rfl, k⟩
  have := k vs h'
  rw [e1] at this
  cases this
  rw [Nat.zero_add]
  exact PostW.tup ex hp (Rps.cons (by unfold Rp; rfl) (Rps.one (r1.mono x)))
theorem y_enT (h : SqT M.K F0 a vs) (r : Rps M.K M.G F0 ds vs) : Yields M F0 (MnM.ItEt M.K a) (enumD 0 ds) := by
  intro F H x ex
  have h' := (x.trans ex).sqT h
  refine ⟨fun i d e => ?_, vs, h', by rw [r.length, enumD_len]⟩
  obtain ⟨d', e0, rfl⟩ := enumD_get e
  obtain ⟨v, e1, r1⟩ := r.get e0
  refine ⟨⟨vs, v, h', e1⟩, ?_⟩
  rintro y H' ⟨p, z, rfl, hp, rfl, k⟩
  have := k vs h'
  rw [e1] at this
  cases this
  rw [Nat.zero_add]
  exact PostW.tup ex hp (Rps.cons (by unfold Rp; rfl) (Rps.one (r1.mono x)))
theorem zipD_get : ∀ {as bs : List D} {i : Nat} {d : D}, (zipD as bs)[i]? = some d → ∃ x y, as[i]? = some x ∧ bs[i]? = some y ∧ d = .tup [x, y]
  | [], _, _, _, h => by cases h
  | _ :: _, [], _, _, h => by cases h
  | x :: as, y :: bs, 0, d, h => by
    cases h
    exact ⟨x, y, rfl, rfl, rfl⟩
  | x :: as, y :: bs, i + 1, d, h => zipD_get (as := as) (bs := bs) (i := i) (d := d) h
theorem zipD_len : ∀ {as bs : List D}, as.length ≤ (zipD as bs).length ∨ bs.length ≤ (zipD as bs).length
  | [], _ => .inl (Nat.zero_le _)
  | _ :: _, [] => .inr (Nat.zero_le _)
  | x :: as, y :: bs => (zipD_len (as := as) (bs := bs)).imp Nat.succ_le_succ Nat.succ_le_succ
theorem y_zL (h : SqL M.K F0 a vs) (r : Rps M.K M.G F0 ds vs) (h2 : SqL M.K F0 b us) (r2 : Rps M.K M.G F0 es us) : Yields M F0 (Itz M.K a b) (zipD ds es) := by
  intro F H x ex
  have h' := (x.trans ex).sqL h
  have h2' := (x.trans ex).sqL h2
  refine ⟨fun i d e => ?_, vs, us, h', h2', by rw [r.length, r2.length]; exact zipD_len⟩
  obtain ⟨d1, d2, e1, e2, rfl⟩ := zipD_get e
  obtain ⟨v, e1, r1⟩ := r.get e1
  obtain ⟨u, e2, r3⟩ := r2.get e2
  refine ⟨⟨vs, us, v, u, h', h2', e1, e2⟩, ?_⟩
  rintro y H' ⟨p, z1, z2, rfl, hp, rfl, k1, k2⟩
  have q1 := k1 vs h'
  have q2 := k2 us h2'
  rw [e1] at q1
  rw [e2] at q2
  cases q1
  cases q2
  exact PostW.tup ex hp (Rps.cons (r1.mono x) (Rps.one (r3.mono x)))
theorem y_zT (h : SqT M.K F0 a vs) (r : Rps M.K M.G F0 ds vs) (h2 : SqT M.K F0 b us) (r2 : Rps M.K M.G F0 es us) : Yields M F0 (RZ.ItzT M.K a b) (zipD ds es) := by
  intro F H x ex
  have h' := (x.trans ex).sqT h
  have h2' := (x.trans ex).sqT h2
  refine ⟨fun i d e => ?_, vs, us, h', h2', by rw [r.length, r2.length]; exact zipD_len⟩
  obtain ⟨d1, d2, e1, e2, rfl⟩ := zipD_get e
  obtain ⟨v, e1, r1⟩ := r.get e1
  obtain ⟨u, e2, r3⟩ := r2.get e2
  refine ⟨⟨vs, us, v, u, h', h2', e1, e2⟩, ?_⟩
  rintro y H' ⟨p, z1, z2, rfl, hp, rfl, k1, k2⟩
  have q1 := k1 vs h'
  have q2 := k2 us h2'
  rw [e1] at q1
  rw [e2] at q2
  cases q1
  cases q2
  exact PostW.tup ex hp (Rps.cons (r1.mono x) (Rps.one (r3.mono x)))
theorem rev_get {i : Nat} {d : D} (r : Rps M.K M.G F0 ds vs) (e : ds.reverse[i]? = some d) : i < vs.length ∧ ∃ v, vs[vs.length - 1 - i]? = some v ∧ Rp M.K M.G F0 d v := by
  have hl := (List.getElem?_eq_some_iff.mp e).1
  rw [List.length_reverse] at hl
  rw [List.getElem?_reverse hl] at e
  rw [r.length]
  exact ⟨hl, r.get e⟩
theorem y_rvL (h : SqL M.K F0 a vs) (r : Rps M.K M.G F0 ds vs) : Yields M F0 (Itv M.K a vs.length) ds.reverse := by
  intro F H x ex
  have h' := (x.trans ex).sqL h
  refine ⟨fun i d e => ?_, ?_⟩
  · obtain ⟨hi, v, e1, r1⟩ := rev_get r e
    refine ⟨⟨hi, vs, v, h', e1⟩, ?_⟩
    rintro y H' ⟨rfl, k⟩
    have := k vs h'
    rw [e1] at this
    cases this
    exact PostW.same ex (r1.mono x)
  · show _ ≤ _
    rw [List.length_reverse, r.length]
    exact Nat.le_refl _
theorem y_rvT (h : SqT M.K F0 a vs) (r : Rps M.K M.G F0 ds vs) : Yields M F0 (RT.ItvT M.K a vs.length) ds.reverse := by
  intro F H x ex
  have h' := (x.trans ex).sqT h
  refine ⟨fun i d e => ?_, ?_⟩
  · obtain ⟨hi, v, e1, r1⟩ := rev_get r e
    refine ⟨⟨hi, vs, v, h', e1⟩, ?_⟩
    rintro y H' ⟨rfl, k⟩
    have := k vs h'
    rw [e1] at this
    cases this
    exact PostW.same ex (r1.mono x)
  · show _ ≤ _
    rw [List.length_reverse, r.length]
    exact Nat.le_refl _
end
section
variable {nm : Nat → Str} {C : Cn} {CXt : CXT} {M : Mc} {X : Cx}
/-- what is wanted of the operands of a loop -/
def SrcC (M : Mc) (ik : IK) (vs : List V) (H : Hp) (R : It → Hp → Prop) : Prop := ∃ ds items F, Ex F H ∧ Rps M.K M.G F ds vs ∧ ik.ev ds = some items ∧ ∀ J, Yields M F J items → R J H
theorem src1 {ik : IK} {x : V} {H : Hp} {R : It → Hp → Prop} (h : SrcC M ik [x] H R) : ∃ d items F, Ex F H ∧ Rp M.K M.G F d x ∧ ik.ev [d] = some items ∧ ∀ J, Yields M F J items → R J H := by
  obtain ⟨ds, items, F, ex, r, e, k⟩ := h
  cases ds with
  | nil => cases Rps.nil_iff.mp r
  | cons d ds =>
    obtain ⟨v, t, e1, r1, r2⟩ := Rps.cons_iff.mp r
    cases e1
    cases ds with
    | nil => exact ⟨d, items, F, ex, r1, e, k⟩
    | cons d2 ds =>
      obtain ⟨_, _, e1, _⟩ := Rps.cons_iff.mp r2
      cases e1
theorem src2 {ik : IK} {x y : V} {H : Hp} {R : It → Hp → Prop} (h : SrcC M ik [x, y] H R) : ∃ d d2 items F, Ex F H ∧ Rp M.K M.G F d x ∧ Rp M.K M.G F d2 y ∧ ik.ev [d, d2] = some items ∧ ∀ J, Yields M F J items → R J H := by
  obtain ⟨ds, items, F, ex, r, e, k⟩ := h
  cases ds with
  | nil => cases Rps.nil_iff.mp r
  | cons d ds =>
    obtain ⟨v, t, e1, r1, r2⟩ := Rps.cons_iff.mp r
    cases e1
    cases ds with
    | nil => cases Rps.nil_iff.mp r2
    | cons d2 ds =>
      obtain ⟨v2, t2, e1, r3, r4⟩ := Rps.cons_iff.mp r2
      cases e1
      cases ds with
      | nil => exact ⟨d, d2, items, F, ex, r1, r3, e, k⟩
      | cons d3 ds =>
        obtain ⟨_, _, e1, _⟩ := Rps.cons_iff.mp r4
        cases e1
theorem rp_lst {K G F ds v} (h : Rp K G F (.lst ds) v) : ∃ a vs, v = .ref a ∧ SqL K F a vs ∧ Rps K G F ds vs := by
  unfold Rp at h
  obtain ⟨a, vs, e, q, r⟩ := h
  exact ⟨a, vs, e, SqL.of q, r⟩
theorem rp_tup {K G F ds v} (h : Rp K G F (.tup ds) v) : ∃ a vs, v = .ref a ∧ SqT K F a vs ∧ Rps K G F ds vs := by
  unfold Rp at h
  exact h
theorem rp_scr {K G F ds v} (h : Rp K G F (.scr ds) v) : ∃ a vs, v = .ref a ∧ SqL K F a vs ∧ Rps K G F ds vs := by
  unfold Rp at h
  exact h
theorem rp_int {K G F i v} (h : Rp K G F (.int i) v) : v = .int i := by
  unfold Rp at h
  exact h
theorem tup_of {te : Expr} (h : isTupE te = true) : ∃ elts k pos, te = .Tuple elts k pos := by cases te <;> first | exact ⟨_, _, _, rfl⟩ | cases h
theorem itB2 {sc : Scope} {x : Str} {te e : Expr} {es : List Expr} (h : (if isBltB sc x e && isTupE te then some es else none) = some es') : isBltB sc x e = true ∧ isTupE te = true ∧ es' = es := by
  cases q : isBltB sc x e && isTupE te with
  | false => rw [q] at h; cases h
  | true =>
    rw [q] at h
    cases h
    rw [Bool.and_eq_true] at q
    exact ⟨q.1, q.2, rfl⟩
theorem itB1 {sc : Scope} {x : Str} {e : Expr} {es : List Expr} (h : (if isBltB sc x e then some es else none) = some es') : isBltB sc x e = true ∧ es' = es := by
  cases q : isBltB sc x e with
  | false => rw [q] at h; cases h
  | true =>
    rw [q] at h
    cases h
    exact ⟨rfl, rfl⟩
theorem src_pi (T : Tx nm C CXt M X) {ik : IK} {te ie : Expr} {es : List Expr} {ts : List TE} (hi : itB X.env.scope te ik ie = some es) (hp : PEs X es ts) :
    ∃ wi, PI X te ie wi ∧ ∀ σ H R, (tsCons ts σ H fun vs H1 => SrcC M ik vs H1 R) → wi σ H R := by
  have hK := T.K
  cases ik with
  | seq =>
    have hi : some [ie] = some es := hi
    cases hi
    obtain ⟨t, rfl, p, m, st⟩ := hp.one
    have r := MnM.pi_seq (tg := te) p
    rw [hK] at r
    refine ⟨_, r, fun σ H R h => m _ _ _ _ (fun x H1 q => ?_) h⟩
    obtain ⟨d, items, F, ex, r1, e, k⟩ := src1 q
    cases d <;> first | (cases e; done) | skip
    · cases e
      obtain ⟨a, vs, rfl, q, r⟩ := rp_tup r1
      exact ⟨a, rfl, .inr ⟨vs, ex.sqT q, k _ (y_sqT q r)⟩⟩
    · cases e
      obtain ⟨a, vs, rfl, q, r⟩ := rp_lst r1
      exact ⟨a, rfl, .inl ⟨vs, ex.sqL q, k _ (y_sqL q r)⟩⟩
    · cases e
      obtain ⟨a, vs, rfl, q, r⟩ := rp_scr r1
      exact ⟨a, rfl, .inl ⟨vs, ex.sqL q, k _ (y_sqL q r)⟩⟩
  | rng1 =>
    cases ie <;> first | (cases hi; done) | skip
    rename_i f as kws pos
    obtain ⟨a, rfl, rfl⟩ : ∃ a, as = [a] ∧ kws = [] := by
      cases as with
      | nil => cases hi
      | cons a r => cases r with
        | cons _ _ => cases kws <;> cases hi
        | nil => cases kws with
          | nil => exact ⟨a, rfl, rfl⟩
          | cons _ _ => cases hi
    obtain ⟨hb, rfl⟩ := itB1 (show (if isBltB X.env.scope "range" f then some [a] else none) = some es from hi)
    obtain ⟨pn, rfl, g, m0⟩ := blt_of T hb (by decide +kernel)
    have st := hp.stars
    have pa := hp.pa
    obtain ⟨t, rfl, p, m, s1⟩ := hp.one
    refine ⟨_, pi_range1 g m0 pa (star_cons s1), fun σ H R h => m _ _ _ _ (fun x H1 q => ?_) h⟩
    obtain ⟨d, items, F, ex, r1, e, k⟩ := src1 q
    cases d <;> first | (cases e; done) | skip
    rename_i n
    have e : (if rngOk n then some (rangeD 0 n) else none) = some items := e
    by_cases hr : rngOk n = true
    · rw [if_pos hr] at e
      cases e
      have b := rngOk_ok hr
      rw [rp_int r1]
      refine ⟨n, rfl, b.1, b.2, ?_⟩
      have y := k _ (y_rng 0 n)
      rw [Int.sub_zero] at y
      exact y
    · rw [if_neg hr] at e
      cases e
  | rng2 =>
    cases ie <;> first | (cases hi; done) | skip
    rename_i f as kws pos
    obtain ⟨a, b, rfl, rfl⟩ : ∃ a b, as = [a, b] ∧ kws = [] := by
      cases as with
      | nil => cases hi
      | cons a r => cases r with
        | nil => cases kws <;> cases hi
        | cons b r => cases r with
          | cons _ _ => cases kws <;> cases hi
          | nil => cases kws with
            | nil => exact ⟨a, b, rfl, rfl⟩
            | cons _ _ => cases hi
    obtain ⟨hb, rfl⟩ := itB1 (show (if isBltB X.env.scope "range" f then some [a, b] else none) = some es from hi)
    obtain ⟨pn, rfl, g, m0⟩ := blt_of T hb (by decide +kernel)
    have pa := hp.pa
    obtain ⟨t, u, rfl, ⟨p, m, s1⟩, p2, m2, s2⟩ := hp.two
    refine ⟨_, pi_range2 g m0 pa (by rw [star_cons s1, star_cons s2]; rfl) (star_cons s2), fun σ H R h => m _ _ _ _ (fun x H1 q => m2 _ _ _ _ (fun y H2 q => ?_) q) h⟩
    obtain ⟨d, d2, items, F, ex, r1, r2, e, k⟩ := src2 q
    cases d <;> cases d2 <;> first | (cases e; done) | skip
    rename_i i j
    have e : (if rngOk i && rngOk j then some (rangeD i j) else none) = some items := e
    by_cases hr : (rngOk i && rngOk j) = true
    · rw [if_pos hr] at e
      cases e
      rw [Bool.and_eq_true] at hr
      have b1 := rngOk_ok hr.1
      have b2 := rngOk_ok hr.2
      rw [rp_int r1, rp_int r2]
      exact ⟨i, j, rfl, ⟨b1.1, b1.2, b2.1, b2.2⟩, k _ (y_rng i j)⟩
    · rw [if_neg hr] at e
      cases e
  | enum =>
    cases ie <;> first | (cases hi; done) | skip
    rename_i f as kws pos
    obtain ⟨a, rfl, rfl⟩ : ∃ a, as = [a] ∧ kws = [] := by
      cases as with
      | nil => cases hi
      | cons a r => cases r with
        | cons _ _ => cases kws <;> cases hi
        | nil => cases kws with
          | nil => exact ⟨a, rfl, rfl⟩
          | cons _ _ => cases hi
    obtain ⟨hb, htu, rfl⟩ := itB2 (show (if isBltB X.env.scope "enumerate" f && isTupE te then some [a] else none) = some es from hi)
    obtain ⟨elts, kk, tpos, rfl⟩ := tup_of htu
    obtain ⟨pn, rfl, g, m0⟩ := blt_of T hb (by decide +kernel)
    have pa := hp.pa
    obtain ⟨t, rfl, p, m, s1⟩ := hp.one
    have r := MnM.pi_enA (elts := elts) (kk := kk) (tpos := tpos) (p := pn) (pos := pos) g m0 pa (star_cons s1)
    rw [hK] at r
    refine ⟨_, r, fun σ H R h => m _ _ _ _ (fun x H1 q => ?_) h⟩
    obtain ⟨d, items, F, ex, r1, e, k⟩ := src1 q
    cases d <;> first | (cases e; done) | skip
    · cases e
      obtain ⟨a, vs, rfl, q, r⟩ := rp_tup r1
      exact ⟨a, vs, rfl, .inr ⟨ex.sqT q, k _ (y_enT q r)⟩⟩
    · cases e
      obtain ⟨a, vs, rfl, q, r⟩ := rp_lst r1
      exact ⟨a, vs, rfl, .inl ⟨ex.sqL q, k _ (y_enL q r)⟩⟩
  | zip =>
    cases ie <;> first | (cases hi; done) | skip
    rename_i f as kws pos
    obtain ⟨a, b, rfl, rfl⟩ : ∃ a b, as = [a, b] ∧ kws = [] := by
      cases as with
      | nil => cases hi
      | cons a r => cases r with
        | nil => cases kws <;> cases hi
        | cons b r => cases r with
          | cons _ _ => cases kws <;> cases hi
          | nil => cases kws with
            | nil => exact ⟨a, b, rfl, rfl⟩
            | cons _ _ => cases hi
    obtain ⟨hb, htu, rfl⟩ := itB2 (show (if isBltB X.env.scope "zip" f && isTupE te then some [a, b] else none) = some es from hi)
    obtain ⟨elts, kk, tpos, rfl⟩ := tup_of htu
    obtain ⟨pn, rfl, g, m0⟩ := blt_of T hb (by decide +kernel)
    have pa := hp.pa
    have st := hp.stars
    obtain ⟨t, u, rfl, ⟨p, m, s1⟩, p2, m2, s2⟩ := hp.two
    have r := RZ.pi_zipA (elts := elts) (kk := kk) (tpos := tpos) (p := pn) (pos := pos) g m0 pa (star_cons s1) (star_none fun e he => st e (List.mem_cons_of_mem _ he))
    rw [hK] at r
    refine ⟨_, r, fun σ H R h => m _ _ _ _ (fun x H1 q => m2 _ _ _ _ (fun y H2 q => ?_) q) h⟩
    obtain ⟨d, d2, items, F, ex, r1, r2, e, k⟩ := src2 q
    cases d <;> first | (cases d2 <;> cases e; done) | skip
    · cases d2 <;> first | (cases e; done) | skip
      cases e
      obtain ⟨a, vs, rfl, hq, hr⟩ := rp_tup r1
      obtain ⟨b, us, rfl, hq2, hr2⟩ := rp_tup r2
      exact ⟨a, b, vs, us, rfl, .inr ⟨ex.sqT hq, ex.sqT hq2, k _ (y_zT hq hr hq2 hr2)⟩⟩
    · cases d2 <;> first | (cases e; done) | skip
      cases e
      obtain ⟨a, vs, rfl, hq, hr⟩ := rp_lst r1
      obtain ⟨b, us, rfl, hq2, hr2⟩ := rp_lst r2
      exact ⟨a, b, vs, us, rfl, .inl ⟨ex.sqL hq, ex.sqL hq2, k _ (y_zL hq hr hq2 hr2)⟩⟩
  | rev =>
    cases ie <;> first | (cases hi; done) | skip
    rename_i f as kws pos
    obtain ⟨a, rfl, rfl⟩ : ∃ a, as = [a] ∧ kws = [] := by
      cases as with
      | nil => cases hi
      | cons a r => cases r with
        | cons _ _ => cases kws <;> cases hi
        | nil => cases kws with
          | nil => exact ⟨a, rfl, rfl⟩
          | cons _ _ => cases hi
    obtain ⟨hb, rfl⟩ := itB1 (show (if isBltB X.env.scope "reversed" f then some [a] else none) = some es from hi)
    obtain ⟨pn, rfl, g, m0⟩ := blt_of T hb (by decide +kernel)
    obtain ⟨t, rfl, p, m, s1⟩ := hp.one
    have r := RT.pi_revA (tg := te) (p := pn) (pos := pos) g m0 p (star_cons s1)
    rw [hK] at r
    refine ⟨_, r, fun σ H R h => m _ _ _ _ (fun x H1 q => ?_) h⟩
    obtain ⟨d, items, F, ex, r1, e, k⟩ := src1 q
    cases d <;> first | (cases e; done) | skip
    · cases e
      obtain ⟨a, vs, rfl, q, r⟩ := rp_tup r1
      exact ⟨a, vs, rfl, .inr ⟨ex.sqT q, k _ (y_rvT q r)⟩⟩
    · cases e
      obtain ⟨a, vs, rfl, q, r⟩ := rp_lst r1
      exact ⟨a, vs, rfl, .inl ⟨ex.sqL q, k _ (y_rvL q r)⟩⟩
end
end Mn
set_option Elab.async false
set_option linter.all false
set_option maxRecDepth 100000
set_option maxHeartbeats 4000000
/-! Mn, part 19: targets. -/
namespace Mn
open PySem L2
theorem asg_cons {e : Expr} {es : List Expr} {env : PySem.Env} (h : isStar e = false) : assignEach (e :: es) env = (false, assign e env) :: assignEach es env := by
  cases e <;> first | rfl | cases h
def GOk (M : Mc) (pn : List Nat) (tg : Tg) (g : TG) : Prop := ∀ {B F H : Hp} {e e' : Env} {σ : List (Option V)} {d : D} {v : V} {Q : L2.St → Hp → Prop}, St M.K M.G M.pv B F H e σ → Rp M.K M.G F d v → tg.asgn pn d e = some e' →
  (∀ σ', St M.K M.G M.pv B F H e' σ' → σ'.length = σ.length → (∀ j, j ∉ tg.slots → σ'[j]? = σ[j]?) → Q σ' H) → g v σ H Q
def GsOk (M : Mc) (pn : List Nat) (tg : Tg) (g : TGs) : Prop := ∀ {B F H : Hp} {e e' : Env} {σ : List (Option V)} {ds : List D} {vs : List V} {Q : L2.St → Hp → Prop}, St M.K M.G M.pv B F H e σ → Rps M.K M.G F ds vs → tg.asgn pn (.tup ds) e = some e' →
  (∀ σ', St M.K M.G M.pv B F H e' σ' → σ'.length = σ.length → (∀ j, j ∉ tg.slots → σ'[j]? = σ[j]?) → Q σ' H) → g vs σ H Q
def Tg.cnt : Tg → Nat
  | .tcons _ b => b.cnt + 1
  | _ => 0
def gT (K : PySem.W.Frag) : Tg → TG × TGs
  | .nm i => (gName i, fun _ _ _ _ => False)
  | .tnil => (fun _ _ _ _ => False, gNil)
  | .tcons a b => (gTup K (b.cnt + 1) (gCons (gT K a).1 (gT K b).2), gCons (gT K a).1 (gT K b).2)
theorem tgs_cnt {N : List Str} {sc : Scope} {cf : Str → Bool} : ∀ (tg : Tg) (es : List Expr), isTgsB N sc cf tg es = true → es.length = tg.cnt
  | .nm i, es, h => by unfold isTgsB at h; cases h
  | .tnil, es, h => by
    cases es with
    | cons _ _ => unfold isTgsB at h; cases h
    | nil => rfl
  | .tcons a b, es, h => by
    cases es with
    | nil => unfold isTgsB at h; cases h
    | cons e1 er =>
      unfold isTgsB at h
      rw [Bool.and_eq_true, Bool.and_eq_true] at h
      rw [List.length_cons, tgs_cnt b er h.2]
      rfl
section
variable {nm : Nat → Str} {C : Cn} {CXt : CXT} {M : Mc} {X : Cx}
theorem tg_name (T : Tx nm C CXt M X) {pn : List Nat} {cf : Str → Bool} (hp : ∀ p ∈ M.pv, p.1 ∈ pn) (hcf : ∀ x, cf x = true → X.fn x = true) {i : Nat} {e : Expr} (h : isTgB X.N X.env.scope cf (.nm i) e = true) : PG X e (gT M.K (.nm i)).1 ∧ GOk M pn (.nm i) (gT M.K (.nm i)).1 := by
  cases e <;> first | (unfold isTgB at h; cases h; done) | skip
  rename_i x pos
  unfold isTgB at h
  rw [Bool.and_eq_true] at h
  have hi := of_decide_eq_true h.1
  have h2 := h.2
  have hx : Loc X.env.scope x ∧ (X.fn x = true ∨ X.env.scope.names.lookup x = some .local) := by
    cases q : X.env.scope.names.lookup x with
    | none => rw [q] at h2; cases h2
    | some k =>
      rw [q] at h2
      cases k with
      | «local» => exact ⟨.inl q, .inr rfl⟩
      | cell => exact ⟨.inr q, .inl (hcf x h2)⟩
      | _ => cases h2
  refine ⟨pg_name T.nd hi hx.1 hx.2, ?_⟩
  intro B F H e e' σ d v Q st r ha k
  unfold Tg.asgn at ha
  by_cases hc : i ∈ pn ∨ ¬ i < e.length
  · rw [if_pos hc] at ha
    cases ha
  · rw [if_neg hc] at ha
    cases ha
    obtain ⟨fp, s⟩ := st
    refine k _ ⟨_, s.set (Decidable.not_not.mp fun z => hc (.inr z)) (WR.of r) (fun a z => z.elim) (fun _ _ _ _ z => z) fun p hp' z => hc (.inl (z ▸ hp p hp'))⟩ (List.length_set ..) fun j hj => ?_
    exact List.getElem?_set_ne fun z => hj (by rw [← z]; exact List.mem_singleton.mpr rfl)
theorem asgn_len {N : List Str} {sc : Scope} {cf : Str → Bool} {pn : List Nat} : ∀ (tg : Tg) (es : List Expr) (ds : List D) (e e' : Env), isTgsB N sc cf tg es = true → tg.asgn pn (.tup ds) e = some e' → ds.length = es.length
  | .nm i, es, ds, e, e', h, _ => by unfold isTgsB at h; cases h
  | .tnil, es, ds, e, e', h, ha => by
    cases es with
    | cons _ _ => unfold isTgsB at h; cases h
    | nil => cases ds with
      | nil => rfl
      | cons _ _ => unfold Tg.asgn at ha; cases ha
  | .tcons a b, es, ds, e, e', h, ha => by
    cases es with
    | nil => unfold isTgsB at h; cases h
    | cons e1 er =>
      unfold isTgsB at h
      rw [Bool.and_eq_true, Bool.and_eq_true] at h
      cases ds with
      | nil => unfold Tg.asgn at ha; cases ha
      | cons d1 dr =>
        unfold Tg.asgn at ha
        cases h1 : a.asgn pn d1 e with
        | none => rw [h1] at ha; cases ha
        | some e2 =>
          rw [h1] at ha
          rw [List.length_cons, List.length_cons, asgn_len b er dr e2 e' h.2 ha]
mutual
theorem tg_pg (T : Tx nm C CXt M X) {pn : List Nat} {cf : Str → Bool} (hp : ∀ p ∈ M.pv, p.1 ∈ pn) (hcf : ∀ x, cf x = true → X.fn x = true) : ∀ (tg : Tg) (e : Expr), isTgB X.N X.env.scope cf tg e = true → PG X e (gT M.K tg).1 ∧ GOk M pn tg (gT M.K tg).1
  | .nm i, e, h => tg_name T hp hcf h
  | .tnil, e, h => by unfold isTgB at h; cases h
  | .tcons a b, e, h => by
    cases e <;> first | (unfold isTgB at h; cases h; done) | skip
    rename_i es k pos
    have h : isTgsB X.N X.env.scope cf (.tcons a b) es = true := by unfold isTgB at h; exact h
    cases es with
    | nil => unfold isTgsB at h; cases h
    | cons e1 er =>
      unfold isTgsB at h
      rw [Bool.and_eq_true, Bool.and_eq_true] at h
      obtain ⟨⟨h0, h1⟩, h2⟩ := h
      have h0 : isStar e1 = false := by cases q : isStar e1 <;> first | rfl | (rw [q] at h0; cases h0)
      obtain ⟨p1, o1⟩ := tg_pg T hp hcf a e1 h1
      obtain ⟨p2, l2, f2, o2⟩ := tgs_pg T hp hcf b er h2
      have ae := asg_cons (es := er) (env := X.env) h0
      have hcnt := tgs_cnt b er h2
      have r := pg_tup (k := k) (pos := pos) (n := b.cnt + 1) T.calm (pgs_cons p1 p2 (by rw [ae]; rfl)) (by rw [ae, List.length_cons, l2, hcnt]) (by rw [ae, List.findIdx?_cons, f2]; rfl)
      rw [T.K] at r
      refine ⟨r, ?_⟩
      intro B F H e e' σ d v Q st rp ha kk
      cases d <;> first | (unfold Tg.asgn at ha; cases ha; done) | skip
      rename_i ds
      cases ds with
      | nil => unfold Tg.asgn at ha; cases ha
      | cons d1 dr =>
        unfold Tg.asgn at ha
        cases h1 : a.asgn pn d1 e with
        | none => rw [h1] at ha; cases ha
        | some e1 =>
          rw [h1] at ha
          obtain ⟨ad, vs, rfl, q, rps⟩ := rp_tup rp
          obtain ⟨v1, vr, rfl, r1, r2⟩ := Rps.cons_iff.mp rps
          refine ⟨ad, v1 :: vr, rfl, st.ex.sqT q, ?_, v1, vr, rfl, o1 st r1 h1 fun σ' s' l' k' => ?_⟩
          · rw [List.length_cons, r2.length, asgn_len b er dr e1 e' h2 ha, hcnt]
          · refine o2 s' r2 ha fun σ2 s2 l2 k2 => kk σ2 s2 (l2.trans l') fun j hj => ?_
            have hj' : j ∉ a.slots ∧ j ∉ b.slots := ⟨fun z => hj (List.mem_append_left _ z), fun z => hj (List.mem_append_right _ z)⟩
            rw [k2 j hj'.2, k' j hj'.1]
theorem tgs_pg (T : Tx nm C CXt M X) {pn : List Nat} {cf : Str → Bool} (hp : ∀ p ∈ M.pv, p.1 ∈ pn) (hcf : ∀ x, cf x = true → X.fn x = true) : ∀ (tg : Tg) (es : List Expr), isTgsB X.N X.env.scope cf tg es = true → PGs X es (gT M.K tg).2 ∧ (assignEach es X.env).length = es.length ∧ (assignEach es X.env).findIdx? (·.1) = none ∧ GsOk M pn tg (gT M.K tg).2
  | .nm i, es, h => by unfold isTgsB at h; cases h
  | .tnil, es, h => by
    cases es with
    | cons _ _ => unfold isTgsB at h; cases h
    | nil =>
      refine ⟨pgs_nil, rfl, rfl, ?_⟩
      intro B F H e e' σ ds vs Q st rp ha kk
      cases ds with
      | cons _ _ => unfold Tg.asgn at ha; cases ha
      | nil =>
        unfold Tg.asgn at ha
        cases ha
        have := Rps.nil_iff.mp rp
        subst this
        exact ⟨rfl, kk σ st rfl fun _ _ => rfl⟩
  | .tcons a b, es, h => by
    cases es with
    | nil => unfold isTgsB at h; cases h
    | cons e1 er =>
      unfold isTgsB at h
      rw [Bool.and_eq_true, Bool.and_eq_true] at h
      obtain ⟨⟨h0, h1⟩, h2⟩ := h
      have h0 : isStar e1 = false := by cases q : isStar e1 <;> first | rfl | (rw [q] at h0; cases h0)
      obtain ⟨p1, o1⟩ := tg_pg T hp hcf a e1 h1
      obtain ⟨p2, l2, f2, o2⟩ := tgs_pg T hp hcf b er h2
      have ae := asg_cons (es := er) (env := X.env) h0
      refine ⟨pgs_cons p1 p2 (by rw [ae]; rfl), by rw [ae, List.length_cons, List.length_cons, l2], by rw [ae, List.findIdx?_cons, f2]; rfl, ?_⟩
      intro B F H e e' σ ds vs Q st rp ha kk
      cases ds with
      | nil => unfold Tg.asgn at ha; cases ha
      | cons d1 dr =>
        unfold Tg.asgn at ha
        cases h1 : a.asgn pn d1 e with
        | none => rw [h1] at ha; cases ha
        | some e1 =>
          rw [h1] at ha
          obtain ⟨v1, vr, rfl, r1, r2⟩ := Rps.cons_iff.mp rp
          refine ⟨v1, vr, rfl, o1 st r1 h1 fun σ' s' l' k' => ?_⟩
          refine o2 s' r2 ha fun σ2 s2 l2 k2 => kk σ2 s2 (l2.trans l') fun j hj => ?_
          have hj' : j ∉ a.slots ∧ j ∉ b.slots := ⟨fun z => hj (List.mem_append_left _ z), fun z => hj (List.mem_append_right _ z)⟩
          rw [k2 j hj'.2, k' j hj'.1]
end
end
end Mn
set_option Elab.async false
set_option linter.all false
set_option maxRecDepth 100000
set_option maxHeartbeats 4000000
/-! Mn, part 20: list comprehensions. -/
namespace Mn
open PySem L2
section
variable {K : PySem.W.Frag} {G : Nat → Option Addr} {pv : List (Nat × V)} {fp : Nat → AS} {B F H : Hp} {e e0 : Env} {σ σ2 : List (Option V)}
theorem wipe_out {σ : L2.St} {i : Nat} : ∀ {vs : List Nat}, i ∉ vs → (wipe σ vs)[i]? = σ[i]?
  | [], _ => rfl
  | v :: vs, h => by
    unfold wipe
    rw [List.getElem?_set_ne fun z => h (by rw [z]; exact List.mem_cons_self), wipe_out fun z => h (List.mem_cons_of_mem _ z)]
theorem wipe_in {σ : L2.St} {i : Nat} : ∀ {vs : List Nat}, i ∈ vs → i < σ.length → (wipe σ vs)[i]? = some none
  | [], h, _ => nomatch h
  | v :: vs, h, hl => by
    unfold wipe
    by_cases z : v = i
    · subst z
      rw [List.getElem?_set_self (by rw [wipe_length]; exact hl)]
    · rw [List.getElem?_set_ne z]
      exact wipe_in ((List.mem_cons.mp h).resolve_left fun q => z q.symm) hl
theorem wipe_eq {σ1 σ2 : L2.St} {vs : List Nat} (hl : σ2.length = σ1.length) (h : ∀ j, j ∉ vs → σ2[j]? = σ1[j]?) : wipe σ2 vs = wipe σ1 vs := by
  apply List.ext_getElem?
  intro j
  by_cases hj : j ∈ vs
  · by_cases hlt : j < σ1.length
    · rw [wipe_in hj (by rw [hl]; exact hlt), wipe_in hj hlt]
    · rw [List.getElem?_eq_none (by rw [wipe_length]; omega), List.getElem?_eq_none (by rw [wipe_length]; omega)]
  · rw [wipe_out hj, wipe_out hj, h j hj]
theorem wipe_wipe {σ : L2.St} {vs : List Nat} : wipe (wipe σ vs) vs = wipe σ vs := wipe_eq (wipe_length ..) fun j hj => wipe_out hj
theorem wipe_len_eq {σ σ2 : L2.St} {vs : List Nat} (h : wipe σ2 vs = wipe σ vs) : σ2.length = σ.length := by
  rw [← wipe_length σ2 vs, h, wipe_length]
theorem wipeE_len : ∀ {vs : List Nat}, (wipeE e vs).length = e.length
  | [] => rfl
  | v :: vs => by unfold wipeE; rw [List.length_set, wipeE_len]
theorem wipeE_out {i : Nat} : ∀ {vs : List Nat}, i ∉ vs → (wipeE e vs).get i = e.get i
  | [], _ => rfl
  | v :: vs, h => by
    unfold wipeE
    rw [Env.get_set_ne fun z => h (by rw [z]; exact List.mem_cons_self), wipeE_out fun z => h (List.mem_cons_of_mem _ z)]
theorem wipeE_in {i : Nat} : ∀ {vs : List Nat}, i ∈ vs → (wipeE e vs).get i = none
  | [], h => nomatch h
  | v :: vs, h => by
    unfold wipeE
    by_cases z : v = i
    · subst z
      by_cases hl : v < (wipeE e vs).length
      · rw [Env.get_set_self hl]
      · unfold Env.get
        rw [List.getElem?_eq_none (by rw [List.length_set]; omega)]
        rfl
    · rw [Env.get_set_ne z]
      exact wipeE_in ((List.mem_cons.mp h).resolve_left fun q => z q.symm)
/-- ahead of a turn the block's names are not told -/
theorem StF.wipe {vs : List Nat} (s : StF K G pv fp B F H e σ) : StF K G [] (fun j a => j ∉ vs ∧ fp j a) B F H (wipeE e vs) (L2.wipe σ vs) where
  len := by rw [wipe_length, wipeE_len, s.len]
  slot := fun i w h => by
    by_cases hi : i ∈ vs
    · rw [wipeE_in hi] at h
      cases h
    · rw [wipeE_out hi] at h
      obtain ⟨v, e1, r⟩ := s.slot i w h
      refine ⟨v, by rw [wipe_out hi]; exact e1, ?_⟩
      have : (fun a => i ∉ vs ∧ fp i a) = fp i := by
        funext a
        exact propext ⟨fun z => z.2, fun z => ⟨hi, z⟩⟩
      rw [this]
      exact r
  nil := fun i h a ha => by
    rw [wipeE_out ha.1] at h
    exact s.nil i h a ha.2
  sep := fun i j a n hi hj => s.sep i j a n hi.2 hj.2
  own := fun i a ha => s.own i a ha.2
  exB := s.exB
  exF := s.exF
  pin := fun _ h => nomatch h
theorem restore_len : ∀ {vs : List Nat}, (restore e0 e vs).length = e.length
  | [] => rfl
  | v :: vs => by unfold restore; rw [List.length_set, restore_len]
theorem restore_out {i : Nat} : ∀ {vs : List Nat}, i ∉ vs → (restore e0 e vs).get i = e.get i
  | [], _ => rfl
  | v :: vs, h => by
    unfold restore
    rw [Env.get_set_ne fun z => h (by rw [z]; exact List.mem_cons_self), restore_out fun z => h (List.mem_cons_of_mem _ z)]
theorem restore_in {i : Nat} {w : W} : ∀ {vs : List Nat}, i ∈ vs → (restore e0 e vs).get i = some w → ∃ d, w = .val d ∧ e0.get i = some (.val d)
  | [], h, _ => nomatch h
  | v :: vs, h, q => by
    unfold restore at q
    by_cases z : v = i
    · subst z
      have hl := Env.get_lt q
      rw [List.length_set] at hl
      rw [Env.get_set_self hl] at q
      cases q0 : e0.get v with
      | none => rw [q0] at q; cases q
      | some w0 =>
        rw [q0] at q
        cases w0 with
        | val d =>
          cases q
          exact ⟨d, rfl, rfl⟩
        | _ => cases q
    · rw [Env.get_set_ne z] at q
      exact restore_in ((List.mem_cons.mp h).resolve_left fun q => z q.symm) q
/-- behind the block they hold what they held -/
theorem StF.back {vs : List Nat} {F0 H0 : Hp} {fp0 : Nat → AS} {B0 : Hp} (s0 : StF K G pv fp0 B0 F0 H0 e0 σ) (x : Ex F0 F) (s : StF K G [] fp B F H e σ2) (hw : L2.wipe σ2 vs = L2.wipe σ vs) : StF K G pv (fun j a => j ∉ vs ∧ fp j a) B F H (restore e0 e vs) σ where
  len := by rw [restore_len, ← s.len, wipe_len_eq hw]
  slot := fun i w h => by
    by_cases hi : i ∈ vs
    · obtain ⟨d, rfl, h0⟩ := restore_in hi h
      obtain ⟨v, e1, r⟩ := s0.slot i _ h0
      exact ⟨v, e1, WR.val_iff.mpr ⟨fun a z => z.1 hi, (WR.val_iff.mp r).2.mono x⟩⟩
    · rw [restore_out hi] at h
      obtain ⟨v, e1, r⟩ := s.slot i w h
      refine ⟨v, ?_, ?_⟩
      · rw [← wipe_out hi, ← hw, wipe_out hi]
        exact e1
      · have : (fun a => i ∉ vs ∧ fp i a) = fp i := by
          funext a
          exact propext ⟨fun z => z.2, fun z => ⟨hi, z⟩⟩
        rw [this]
        exact r
  nil := fun i h a ha => by
    rw [restore_out ha.1] at h
    exact s.nil i h a ha.2
  sep := fun i j a n hi hj => s.sep i j a n hi.2 hj.2
  own := fun i a ha => s.own i a ha.2
  exB := s.exB
  exF := s.exF
  pin := s0.pin
theorem StF.nopv (s : StF K G pv fp B F H e σ) : StF K G [] fp B F H e σ := ⟨s.len, s.slot, s.nil, s.sep, s.own, s.exB, s.exF, fun _ h => nomatch h⟩
/-- the guarded list at D changes -/
theorem StF.guard {D : Addr} {o o' : HO} (s : StF K G pv fp (upd B D o) F H e σ) (fn : F D = none) : StF K G pv fp (upd B D o') F (upd H D o') e σ := by
  have nD : ∀ i, ¬ fp i D := fun i z => by
    have := (s.own i D z).2.1
    rw [upd_same] at this
    cases this
  refine ⟨s.len, fun i w h => ?_, s.nil, s.sep, fun i a ha => ⟨(s.own i a ha).1, ?_, ?_⟩, fun a u h => ?_, fun a u h => ?_, s.pin⟩
  · obtain ⟨v, e1, r⟩ := s.slot i w h
    exact ⟨v, e1, WR.frame (Ex.refl _) w v _ (fun a ha => upd_ne fun z => nD i (z ▸ ha)) r⟩
  · have q := (s.own i a ha).2.1
    have n : a ≠ D := fun z => nD i (z ▸ ha)
    rw [upd_ne n] at q ⊢
    exact q
  · have n : a ≠ D := fun z => nD i (z ▸ ha)
    rw [upd_ne n]
    exact (s.own i a ha).2.2
  · by_cases z : a = D
    · subst z
      rw [upd_same] at h ⊢
      exact h
    · rw [upd_ne z] at h ⊢
      exact s.exB a u (by rw [upd_ne z]; exact h)
  · have n : a ≠ D := fun z => by
      subst z
      rw [fn] at h
      cases h
    rw [upd_ne n]
    exact s.exF a u h
end

theorem comp_inv {vs : List Nat} {tg : Tg} {cnd el : Env → R W} {d : D} {ds acc accF : List D} {e eF : Env} (h : compLoop vs tg cnd el (d :: ds) e acc = .ok accF eF) :
    ∃ e1, tg.asgn [] d (wipeE e vs) = some e1 ∧ ((∃ e2 w e3 x, cnd e1 = .ok (.val (.bl true)) e2 ∧ el e2 = .ok w e3 ∧ w.frz = some x ∧ acc.length < 16777216 ∧ compLoop vs tg cnd el ds e3 (acc ++ [x]) = .ok accF eF) ∨
      (∃ e2, cnd e1 = .ok (.val (.bl false)) e2 ∧ compLoop vs tg cnd el ds e2 acc = .ok accF eF)) := by
  unfold compLoop at h
  cases h1 : tg.asgn [] d (wipeE e vs) with
  | none => rw [h1] at h; cases h
  | some e1 =>
    rw [h1] at h
    refine ⟨e1, rfl, ?_⟩
    cases h2 : cnd e1 with
    | bad => simp only [h2] at h; cases h
    | exn c p e => simp only [h2] at h; cases h
    | ok w e2 =>
      simp only [h2] at h
      cases w with
      | val d => cases d with
        | bl b => cases b with
          | false => exact .inr ⟨e2, rfl, h⟩
          | true =>
            refine .inl ?_
            cases h3 : el e2 with
            | bad => simp only [h3] at h; cases h
            | exn c p e => simp only [h3] at h; cases h
            | ok w e3 =>
              simp only [h3] at h
              cases h4 : w.frz with
              | none => simp only [h4] at h; cases h
              | some x =>
                simp only [h4] at h
                by_cases h5 : acc.length < 16777216
                · rw [if_pos h5] at h
                  exact ⟨e2, w, e3, x, rfl, h3, h4, h5, h⟩
                · rw [if_neg h5] at h
                  cases h
        | _ => cases h
      | _ => cases h

section
variable {nm : Nat → Str} {C : Cn} {CXt : CXT} {M : Mc} {X : Cx}
abbrev Mc.blk (M : Mc) : Mc := { M with EX := fun _ _ _ => False, pv := [] }
theorem Tx.blk (T : Tx nm C CXt M X) (s : Shared) (H : Hp) (scope : Scope) (ce : PySem.Env) (fp : List Addr) : Tx nm C CXt M.blk (X.blk s H scope ce fp) :=
  ⟨T.calm, T.nd, T.K, T.un, T.blt, T.glob, T.fns, fun pins σ H s e s' I h => (T.nopass _ _ _ _ _ h).elim, T.nopass⟩
theorem lc_map {N : List Str} (vs : List Nat) : (vs.map fun v => (N.getD v "", v)).map (·.2) = vs := by
  rw [List.map_map]
  exact List.map_id _
/-- what stands between two turns -/
def LcI (M : Mc) (B F0 : Hp) (σ : L2.St) (vs : List Nat) (tg : Tg) (cnd el : Env → R W) (items accF : List D) (eF : Env) (D0 : Addr) (i : Nat) (H : Hp) : Prop :=
  ∃ F e acc vacc σ2, Gr B F0 F ∧ F D0 = none ∧ wipe σ2 vs = wipe σ vs ∧ St M.K M.G [] (upd B D0 (.lst vacc)) F H e σ2 ∧ Rps M.K M.G F acc vacc ∧ compLoop vs tg cnd el (items.drop i) e acc = .ok accF eF
theorem lc_turns {B F0 H1 : Hp} {σ : L2.St} {vs : List Nat} {tg : Tg} {C : Cn} {cE elE : E} {items accF : List D} {e' eF : Env} {D0 : Addr} {J : It} {tt : TT} {Q : VK} (hD : H1 D0 = none) (st : St M.K M.G M.pv B F0 H1 e' σ) (y : Yields M F0 J items)
    (hcl : compLoop vs tg (evE C cE) (evE C elE) items e' [] = .ok accF eF) (hsl : ∀ i ∈ tg.slots, i ∈ vs) (hg : GOk M.blk [] tg (gT M.K tg).1)
    (htt : ∀ {B F H e σ b e2} {Qt : Bool → Hp → Prop}, St M.K M.G [] B F H e σ → evE C cE e = .ok (.val (.bl b)) e2 → (∀ F' H', Gr B F F' → St M.K M.G [] B F' H' e2 σ → Qt b H') → tt σ H Qt)
    (hq : ∀ v F' H', Gr B F0 F' → StV M.K M.G M.pv B F' H' (restore e' eF vs) σ (.lst accF) v → Q v H') :
    ∃ Wz : Nat → Nat → Hp → Prop, (∃ m, Wz 0 m (upd H1 D0 (.lst []))) ∧ ∀ i m H, Wz i m H →
      (J.stop i H ∧ Q (.ref D0) H) ∨ (J.go i H ∧ ∃ Nx : Hp → Prop, (∀ H', Nx H' → ∃ m', m' < m ∧ Wz (i + 1) m' H') ∧ ∀ x H', J.yld i H x H' → (gT M.K tg).1 x (wipe σ vs) H' fun σ2 H2 => wipe σ2 vs = wipe σ vs ∧ tt σ2 H2 fun b H3 =>
        if b = true then tE M.blk (evE C elE) σ2 H3 fun y H4 => ∃ acc, H4 D0 = some (.lst acc) ∧ acc.length < sizeLine ∧ Nx (upd H4 D0 (.lst (acc ++ [y]))) else Nx H3) := by
  have fD : F0 D0 = none := st.ex.back hD
  have bD : B D0 = none := let ⟨fp, s⟩ := st; s.exB.back hD
  refine ⟨fun i m H => m = items.length - i ∧ i ≤ items.length ∧ LcI M B F0 σ vs tg (evE C cE) (evE C elE) items accF eF D0 i H, ⟨_, rfl, Nat.zero_le _, ?_⟩, ?_⟩
  · refine ⟨F0, e', [], [], σ, Gr.refl _ _, fD, rfl, ?_, Rps.nil, hcl⟩
    obtain ⟨fp, s⟩ := (St.withD (o := .lst []) st hD).1
    exact ⟨fp, s.nopv⟩
  · rintro i m H ⟨rfl, hi, F, e, acc, vacc, σ2, g, fn, hw, s, ra, hl⟩
    by_cases hlt : i < items.length
    · refine .inr ?_
      have hd : items.drop i = items[i] :: items.drop (i + 1) := List.drop_eq_getElem_cons hlt
      rw [hd] at hl
      obtain ⟨e1, ha, hrest⟩ := comp_inv hl
      obtain ⟨y1, y2⟩ := (y F H g.ex s.ex).1 i items[i] (List.getElem?_eq_getElem hlt)
      refine ⟨y1, LcI M B F0 σ vs tg (evE C cE) (evE C elE) items accF eF D0 (i + 1), fun H' n => ⟨_, by omega, rfl, hlt, n⟩, fun x H' yl => ?_⟩
      have s0 : St M.K M.G [] (upd B D0 (.lst vacc)) F H (wipeE e vs) (wipe σ vs) := by
        obtain ⟨fp, s⟩ := s
        rw [← hw]
        exact ⟨_, s.wipe⟩
      obtain ⟨F2, g2, s2⟩ := s0.post (y2 x H' yl)
      refine hg s2.st s2.rp ha fun σ3 s3 l3 k3 => ?_
      have hw3 : wipe σ3 vs = wipe σ vs := (wipe_eq l3 fun j hj => k3 j fun z => hj (hsl j z)).trans wipe_wipe
      refine ⟨hw3, ?_⟩
      have lessB : ∀ {F' : Hp}, Gr (upd B D0 (.lst vacc)) F F' → Gr B F0 F' ∧ F' D0 = none := fun {F'} g' =>
        ⟨g.trans (g'.less (Ex.new bD)), g'.none fn (by rw [upd_same]; exact fun z => nomatch z)⟩
      rcases hrest with ⟨e2, w, e3, xx, hc, hel, hfz, hlen, hnext⟩ | ⟨e2, hc, hnext⟩
      · refine htt s3 hc fun F4 H4 g4 s4 => ?_
        rw [if_pos rfl]
        refine ⟨_, F4, e2, s4, ?_⟩
        rw [hel]
        intro v F5 H5 g5 s5
        obtain ⟨F6, g6, s6, rp6⟩ := s5.frz hfz
        have gg := ((g2.trans g4).trans g5).trans g6
        obtain ⟨gB, fn6⟩ := lessB gg
        obtain ⟨fp6, s6⟩ := s6
        refine ⟨vacc, s6.exB D0 _ upd_same, by rw [ra.length, sizeLine_eq]; exact hlen, F6, e3, acc ++ [xx], vacc ++ [v], σ3, gB, fn6, hw3, ⟨fp6, s6.guard fn6⟩, (Rps.mono gg.ex _ _ ra).append (Rps.one rp6), hnext⟩
      · refine htt s3 hc fun F4 H4 g4 s4 => ?_
        rw [if_neg Bool.false_ne_true]
        obtain ⟨gB, fn4⟩ := lessB (g2.trans g4)
        exact ⟨F4, e2, acc, vacc, σ3, gB, fn4, hw3, s4, Rps.mono (g2.trans g4).ex _ _ ra, hnext⟩
    · refine .inl ?_
      have ei : i = items.length := by omega
      subst ei
      refine ⟨(y F H g.ex s.ex).2, ?_⟩
      rw [List.drop_length] at hl
      unfold compLoop at hl
      cases hl
      obtain ⟨fp0, s00⟩ := st
      obtain ⟨fp, s⟩ := s
      have hHD : H D0 = some (.lst vacc) := s.exB D0 _ upd_same
      have nD : ∀ j, ¬ fp j D0 := fun j z => by
        have := (s.own j D0 z).2.1
        rw [upd_same] at this
        cases this
      have sb := s00.back g.ex s hw
      refine hq _ F H g ⟨_, fun a => a = D0, sb.less (Ex.new bD), WR.lst_iff.mpr ⟨D0, vacc, rfl, hHD, ra, fun _ => Iff.rfl⟩, fun a z => ?_, fun j a z1 z2 => ?_⟩
      · have z : a = D0 := z
        subst z
        exact ⟨fn, bD, by rw [hHD]; exact fun z => nomatch z⟩
      · have z2 : a = D0 := z2
        subst z2
        exact nD j z1.2
theorem ok_lc (T : Tx nm C CXt M X) {vs : List Nat} {tg : Tg} {ik : IK} {its c elt : E} {ee te ie : Expr} {cs : List Expr} {scope : Scope} {pos : Pos} {es : List Expr} (hi : itB X.env.scope te ik ie = some es) (ha : OkA C M X its es) (hs : isSetE ie = false)
    (htg : isTgB X.N (relS scope X.env.scope) (fun x => scope.names.lookup x == some .cell) tg te = true) (hsl : ∀ i ∈ tg.slots, i ∈ vs) (hb : blkC X.N X.env.scope scope (vs.map fun v => (X.N.getD v "", v)) = true)
    (he : ∀ s H Ca cl fp, Ok3 C M.blk (X.blk s H scope (compEnvC scope cl Ca X.env) fp) elt ee)
    (hc : (cs = [] ∧ c = .cst (.bl true)) ∨ ∃ ce, cs = [ce] ∧ ∀ s H Ca cl fp, Ok3 C M.blk (X.blk s H scope (compEnvC scope cl Ca X.env) fp) c ce) :
    ∃ t, (∀ σ H Q, tE M (evE C (.lc vs tg ik its c elt)) σ H Q → t σ H Q) ∧ PE X (.ListComp ee [⟨te, ie, cs, 0⟩] scope pos) t ∧
      ∀ {i : Nat} {y : Str} {py spos : Pos}, X.N[i]? = some y → X.env.scope.names.lookup y = some .local → swapsWith (.ListComp ee [⟨te, ie, cs, 0⟩] scope pos) (some (.Name y py)) spos.line X.env = pure true →
        PS X (.Assign [.Name y py] (.ListComp ee [⟨te, ie, cs, 0⟩] scope pos) spos) (tAsg t (gName i)) := by
  obtain ⟨ts, hp, hr⟩ := ha.l
  obtain ⟨wi, pi, hwi⟩ := src_pi T hi hp
  have bo := blkOk_by hb
  have tgp : ∀ (s : Shared) (H : Hp) (Ca : Addr) (cl : List (Str × Addr)) (fp : List Addr), PG (X.blk s H scope (compEnvC scope cl Ca X.env) fp) te (gT M.K tg).1 ∧ GOk M.blk [] tg (gT M.K tg).1 := fun s H Ca cl fp =>
    tg_pg (T.blk s H scope (compEnvC scope cl Ca X.env) fp) (pn := []) (fun _ z => nomatch z) (fun x z => z) tg te htg
  have hgo : GOk M.blk [] tg (gT M.K tg).1 := (tgp X.s_0 X.H_0 0 [] []).2
  -- the tests
  obtain ⟨tt, ptt, htt⟩ : ∃ tt : TT, (∀ (s : Shared) (H : Hp) (Ca : Addr) (cl : List (Str × Addr)) (fp : List Addr), PTs (X.blk s H scope (compEnvC scope cl Ca X.env) fp) cs tt) ∧
      ∀ {B F H e σ b e2} {Qt : Bool → Hp → Prop}, St M.K M.G [] B F H e σ → evE C c e = .ok (.val (.bl b)) e2 → (∀ F' H', Gr B F F' → St M.K M.G [] B F' H' e2 σ → Qt b H') → tt σ H Qt := by
    rcases hc with ⟨rfl, rfl⟩ | ⟨ce, rfl, hce⟩
    · refine ⟨tYes, fun _ _ _ _ _ => pts_nil, ?_⟩
      intro B F H e σ b e2 Qt s h k
      cases h
      exact k F H (Gr.refl _ _) s
    · refine ⟨tB (tE M.blk (evE C c)), fun s H Ca cl fp => pts_one (hce s H Ca cl fp).pt, ?_⟩
      intro B F H e σ b e2 Qt s h k
      refine ⟨B, F, e, s, ?_⟩
      rw [h]
      intro v F' H' g s'
      exact ⟨b, bool_of (M := M.blk) s', k F' H' g s'.st⟩
  have key : ∀ σ H Q, tE M (evE C (.lc vs tg ik its c elt)) σ H Q → tLc wi (gT M.K tg).1 tt (tE M.blk (evE C elt)) vs σ H Q := by
    rintro σ H Q ⟨B, F, ev, st, o⟩
    have o : Out M B F σ Q ((evL C its ev).bind fun ds e' => match ik.ev ds with
      | some items => match compLoop vs tg (fun e => evE C c e) (fun e => evE C elt e) items e' [] with
        | .ok acc e2 => .ok (.lst acc) (restore e' e2 vs)
        | _ => .bad
      | none => .bad) := o
    refine hwi _ _ _ ?_
    rw [← hr]
    refine evL_ok its st (OutL.mono (Out.bindL (Rl := RL M) o) (Gr.refl _ _) fun us H1 z => ?_)
    obtain ⟨ds, e', F', g, st', rp, o'⟩ := z
    cases hik : ik.ev ds with
    | none => rw [hik] at o'; exact o'.elim
    | some items =>
      rw [hik] at o'
      cases hcl : compLoop vs tg (fun e => evE C c e) (fun e => evE C elt e) items e' [] with
      | bad => simp only [hcl] at o'; exact o'.elim
      | exn cc pp ee => simp only [hcl] at o'; exact o'.elim
      | ok accF eF =>
        simp only [hcl] at o'
        refine ⟨ds, items, F', st'.ex, rp, hik, fun J y D0 hD => ?_⟩
        exact lc_turns hD st' y hcl hsl hgo htt o'
  have hmap := lc_map (N := X.N) vs
  refine ⟨_, key, ?_, ?_⟩
  · have r := pe_lc (pos := pos) T.calm T.nd pi bo (fun s H Ca cl fp => (tgp s H Ca cl fp).1) ptt (fun s H Ca cl fp => (he s H Ca cl fp).pe) (noFold hs _)
    rw [hmap] at r
    exact r
  · intro i y py spos hy hyl hsw
    have r := ps_setLc T.calm T.nd hy hyl hsw pi bo (fun s H Ca cl fp => (tgp s H Ca cl fp).1) ptt (fun s H Ca cl fp => (he s H Ca cl fp).pe) (noFold hs _)
    rw [hmap] at r
    exact r
end
end Mn
set_option Elab.async false
set_option linter.all false
set_option maxRecDepth 100000
set_option maxHeartbeats 4000000
/-! Mn, part 21: every expression is sound. -/
namespace Mn
open PySem L2
section
variable {nm : Nat → Str} {C : Cn} {CXt : CXT}
theorem rdsA_var {M : Mc} {i : Nat} {r : E} : rdsA M C (.cons (.var i) r) = tCons (tVar i) (rdsA M C r) := rfl
theorem not_true {b : Bool} (h : (!b) = true) : b = false := by cases b <;> first | rfl | cases h
/-- the general form of a list's operand -/
theorem okA_gen {M : Mc} {X : Cx} {a r : E} {e : Expr} {es : List Expr} (hs : isStar e = false) (h1 : Ok3 C M X a e) (h2 : OkA C M X r es) (hg : rdsA M C (.cons a r) = tCons (tE M (evE C a)) (rdsA M C r)) : OkA C M X (.cons a r) (e :: es) := by
  obtain ⟨ts, p1, e1⟩ := h2.a
  obtain ⟨us, p2, e2⟩ := h2.l
  refine ⟨⟨_, .cons hs h1.pe (TMono.ev _ _) p1, by rw [hg, e1]; rfl⟩, ⟨_, .cons hs h1.pe (TMono.ev _ _) p2, ?_⟩⟩
  show tCons (tE M (evE C a)) (rdsL M C r) = _
  rw [e2]
  rfl
def Good (nm : Nat → Str) (C : Cn) (CXt : CXT) (m : E) : Prop := ∀ (M : Mc) (X : Cx), Tx nm C CXt M X → (∀ e, isE nm X.N X.env.scope m e = true → Ok3 C M X m e) ∧ (∀ es, isA nm X.N X.env.scope m es = true → OkA C M X m es) ∧ (∀ es, isK nm X.N X.env.scope m es = true → OkK C M X m es)
theorem noA {m : E} {M : Mc} {X : Cx} (h : ∀ es, isA nm X.N X.env.scope m es = false) : ∀ es, isA nm X.N X.env.scope m es = true → OkA C M X m es := fun es z => by rw [h] at z; cases z
theorem noK {m : E} {M : Mc} {X : Cx} (h : ∀ es, isK nm X.N X.env.scope m es = false) : ∀ es, isK nm X.N X.env.scope m es = true → OkK C M X m es := fun es z => by rw [h] at z; cases z
/-- a comprehension, as a value and where a name takes it on one line -/
theorem lc_ok {M : Mc} {X : Cx} (T : Tx nm C CXt M X) {vs : List Nat} {tg : Tg} {ik : IK} {its c elt : E} (ihi : Good nm C CXt its) (ihc : Good nm C CXt c) (ihe : Good nm C CXt elt) {e : Expr} (h : isE nm X.N X.env.scope (.lc vs tg ik its c elt) e = true) :
    ∃ t, (∀ σ H Q, tE M (evE C (.lc vs tg ik its c elt)) σ H Q → t σ H Q) ∧ ((∃ ee gs scope pos, e = .ListComp ee gs scope pos) ∧ PE X e t) ∧
      ∀ {i : Nat} {y : Str} {py spos : Pos}, X.N[i]? = some y → X.env.scope.names.lookup y = some .local → swapsWith e (some (.Name y py)) spos.line X.env = pure true → PS X (.Assign [.Name y py] e spos) (tAsg t (gName i)) := by
  cases e <;> first | (unfold isE at h; cases h; done) | skip
  rename_i ee gs scope pos
  obtain ⟨te, ie, cs, asn, rfl⟩ : ∃ te ie cs asn, gs = [⟨te, ie, cs, asn⟩] := by
    cases gs with
    | nil => unfold isE at h; cases h
    | cons g r =>
      obtain ⟨te, ie, cs, k⟩ := g
      cases r with
      | cons _ _ => unfold isE at h; cases h
      | nil => exact ⟨te, ie, cs, k, rfl⟩
  unfold isE at h
  rw [Bool.and_eq_true, Bool.and_eq_true, Bool.and_eq_true, Bool.and_eq_true, Bool.and_eq_true, Bool.and_eq_true] at h
  obtain ⟨⟨⟨⟨⟨⟨h0, h1⟩, h2⟩, h3⟩, h4⟩, h5⟩, h6⟩ := h
  have h0 := of_decide_eq_true h0
  subst h0
  cases q : itB X.env.scope te ik ie with
  | none => rw [q] at h1; cases h1
  | some es =>
    rw [q] at h1
    have h1 : (isA nm X.N X.env.scope its es && !isSetE ie) = true := h1
    rw [Bool.and_eq_true] at h1
    have hsl : ∀ i ∈ tg.slots, i ∈ vs := fun i hi => by
      have := List.all_eq_true.mp h3 i hi
      simpa using this
    have he : ∀ s H Ca cl fp, Ok3 C M.blk (X.blk s H scope (compEnvC scope cl Ca X.env) fp) elt ee := fun s H Ca cl fp =>
      (ihe M.blk _ (T.blk s H scope (compEnvC scope cl Ca X.env) fp)).1 ee h5
    have hc : (cs = [] ∧ c = .cst (.bl true)) ∨ ∃ ce, cs = [ce] ∧ ∀ s H Ca cl fp, Ok3 C M.blk (X.blk s H scope (compEnvC scope cl Ca X.env) fp) c ce := by
      cases cs with
      | nil =>
        refine .inl ⟨rfl, ?_⟩
        cases c <;> first | (cases h6; done) | skip
        rename_i d
        cases d <;> first | (cases h6; done) | skip
        rename_i b
        cases b
        · cases h6
        · rfl
      | cons ce r => cases r with
        | cons _ _ => cases h6
        | nil => exact .inr ⟨ce, rfl, fun s H Ca cl fp => (ihc M.blk _ (T.blk s H scope (compEnvC scope cl Ca X.env) fp)).1 ce h6⟩
    obtain ⟨t, k1, k2, k3⟩ := ok_lc (ee := ee) (pos := pos) T q ((ihi M X T).2.1 es h1.1) (not_true h1.2) h2 hsl h4 he hc
    exact ⟨t, k1, ⟨⟨_, _, _, _, rfl⟩, k2⟩, k3⟩
theorem exp_ok : ∀ m : E, Good nm C CXt m := by
  intro m
  induction m with
  | var i => exact fun M X T => ⟨fun e h => ok_var (by unfold isE at h; exact h), noA (fun es => by unfold isA; rfl), noK (fun es => by unfold isK; rfl)⟩
  | mv i => exact fun M X T => ⟨fun e h => ok_mv (by unfold isE at h; exact h), noA (fun es => by unfold isA; rfl), noK (fun es => by unfold isK; rfl)⟩
  | pth i f => exact fun M X T => ⟨fun e h => ok_pth T (by unfold isE at h; exact h), noA (fun es => by unfold isA; rfl), noK (fun es => by unfold isK; rfl)⟩
  | cst d => exact fun M X T => ⟨fun e h => ok_cst (by unfold isE at h; exact h), noA (fun es => by unfold isA; rfl), noK (fun es => by unfold isK; rfl)⟩
  | glb g => exact fun M X T => ⟨fun e h => ok_glb T (by unfold isE at h; exact h), noA (fun es => by unfold isA; rfl), noK (fun es => by unfold isK; rfl)⟩
  | never => exact fun M X T => ⟨fun e h => ok_never (by unfold isE at h; exact not_true h), noA (fun es => by unfold isA; rfl), noK (fun es => by unfold isK; rfl)⟩
  | io i => exact fun M X T => ⟨fun e h => (by unfold isE at h; cases h), noA (fun es => by unfold isA; rfl), noK (fun es => by unfold isK; rfl)⟩
  | prim p a ih =>
    refine fun M X T => ⟨fun e h => ?_, noA (fun es => by unfold isA; rfl), noK (fun es => by unfold isK; rfl)⟩
    unfold isE at h
    cases q : shB X.env.scope p.sh e with
    | none => rw [q] at h; cases h
    | some es =>
      rw [q] at h
      exact ok_prim T q ((ih M X T).2.1 es h)
  | tupd a ih =>
    refine fun M X T => ⟨fun e h => ?_, noA (fun es => by unfold isA; rfl), noK (fun es => by unfold isK; rfl)⟩
    cases e <;> first | (unfold isE at h; cases h; done) | skip
    unfold isE at h
    exact ok_tupd ((ih M X T).2.1 _ h)
  | lstd a ih =>
    refine fun M X T => ⟨fun e h => ?_, noA (fun es => by unfold isA; rfl), noK (fun es => by unfold isK; rfl)⟩
    cases e <;> first | (unfold isE at h; cases h; done) | skip
    unfold isE at h
    exact ok_lstd ((ih M X T).2.1 _ h)
  | dicd ks a ih =>
    refine fun M X T => ⟨fun e h => ?_, noA (fun es => by unfold isA; rfl), noK (fun es => by unfold isK; rfl)⟩
    cases e <;> first | (unfold isE at h; cases h; done) | skip
    unfold isE at h
    rw [Bool.and_eq_true, Bool.and_eq_true, Bool.and_eq_true, Bool.and_eq_true] at h
    obtain ⟨⟨⟨⟨h1, h2⟩, h3⟩, h4⟩, h5⟩ := h
    exact ok_dicd h1 ((ih M X T).2.1 _ h2) (of_decide_eq_true h3) (fun z => by rw [z] at h4; cases h4) (of_decide_eq_true h5)
  | rcd ks a ih =>
    refine fun M X T => ⟨fun e h => ?_, noA (fun es => by unfold isA; rfl), noK (fun es => by unfold isK; rfl)⟩
    cases e <;> first | (unfold isE at h; cases h; done) | skip
    unfold isE at h
    rw [Bool.and_eq_true, Bool.and_eq_true, Bool.and_eq_true, Bool.and_eq_true] at h
    obtain ⟨⟨⟨⟨h1, h2⟩, h3⟩, h4⟩, h5⟩ := h
    exact ok_rcd h1 ((ih M X T).2.1 _ h2) (of_decide_eq_true h3) (fun z => by rw [z] at h4; cases h4) (of_decide_eq_true h5)
  | and2 a b iha ihb =>
    refine fun M X T => ⟨fun e h => ?_, noA (fun es => by unfold isA; rfl), noK (fun es => by unfold isK; rfl)⟩
    cases e <;> first | (unfold isE at h; cases h; done) | skip
    rename_i op vs pos
    cases op <;> first | (unfold isE at h; cases h; done) | skip
    cases vs with
    | nil => unfold isE at h; cases h
    | cons e1 r => cases r with
      | nil => unfold isE at h; cases h
      | cons e2 r =>
        unfold isE at h
        rw [Bool.and_eq_true] at h
        exact ok_and2 ((iha M X T).1 _ h.1) ((ihb M X T).1 _ h.2)
  | or2 a b iha ihb =>
    refine fun M X T => ⟨fun e h => ?_, noA (fun es => by unfold isA; rfl), noK (fun es => by unfold isK; rfl)⟩
    cases e <;> first | (unfold isE at h; cases h; done) | skip
    rename_i op vs pos
    cases op <;> first | (unfold isE at h; cases h; done) | skip
    cases vs with
    | nil => unfold isE at h; cases h
    | cons e1 r => cases r with
      | nil => unfold isE at h; cases h
      | cons e2 r =>
        unfold isE at h
        rw [Bool.and_eq_true] at h
        exact ok_or2 ((iha M X T).1 _ h.1) ((ihb M X T).1 _ h.2)
  | one a iha =>
    refine fun M X T => ⟨fun e h => ?_, noA (fun es => by unfold isA; rfl), noK (fun es => by unfold isK; rfl)⟩
    cases e <;> first | (unfold isE at h; cases h; done) | skip
    rename_i op vs pos
    cases vs with
    | nil => unfold isE at h; cases h
    | cons e1 r => cases r with
      | cons _ _ => unfold isE at h; cases h
      | nil =>
        unfold isE at h
        exact ok_one ((iha M X T).1 _ h)
  | frz a iha =>
    refine fun M X T => ⟨fun e h => ?_, noA (fun es => by unfold isA; rfl), noK (fun es => by unfold isK; rfl)⟩
    unfold isE at h
    exact ok_frz ((iha M X T).1 _ h)
  | nt a iha =>
    refine fun M X T => ⟨fun e h => ?_, noA (fun es => by unfold isA; rfl), noK (fun es => by unfold isK; rfl)⟩
    cases e <;> first | (unfold isE at h; cases h; done) | skip
    rename_i op x pos
    cases op <;> first | (unfold isE at h; cases h; done) | skip
    unfold isE at h
    exact ok_nt ((iha M X T).1 _ h)
  | ife c a b ihc iha ihb =>
    refine fun M X T => ⟨fun e h => ?_, noA (fun es => by unfold isA; rfl), noK (fun es => by unfold isK; rfl)⟩
    cases e <;> first | (unfold isE at h; cases h; done) | skip
    unfold isE at h
    rw [Bool.and_eq_true, Bool.and_eq_true] at h
    exact ok_ife ((ihc M X T).1 _ h.1.1) ((iha M X T).1 _ h.1.2) ((ihb M X T).1 _ h.2)
  | chain o1 o2 ab c ihab ihc =>
    refine fun M X T => ⟨fun e h => ?_, noA (fun es => by unfold isA; rfl), noK (fun es => by unfold isK; rfl)⟩
    cases e <;> first | (unfold isE at h; cases h; done) | skip
    rename_i e1 ops cs pos
    obtain ⟨p1, p2, e2, e3, rfl, rfl⟩ : ∃ p1 p2 e2 e3, ops = [p1, p2] ∧ cs = [e2, e3] := by
      cases ops with
      | nil => unfold isE at h; cases h
      | cons p1 r => cases r with
        | nil => unfold isE at h; cases h
        | cons p2 r => cases r with
          | cons _ _ => unfold isE at h; cases h
          | nil => cases cs with
            | nil => unfold isE at h; cases h
            | cons e2 r => cases r with
              | nil => unfold isE at h; cases h
              | cons e3 r => cases r with
                | cons _ _ => unfold isE at h; cases h
                | nil => exact ⟨p1, p2, e2, e3, rfl, rfl⟩
    unfold isE at h
    rw [Bool.and_eq_true, Bool.and_eq_true, Bool.and_eq_true] at h
    obtain ⟨⟨⟨h1, h2⟩, h3⟩, h4⟩ := h
    cases q1 : cmpOp? o1 with
    | none => simp only [q1] at h1; cases h1
    | some r1 =>
      cases q2 : cmpOp? o2 with
      | none => simp only [q1, q2] at h1; cases h1
      | some r2 =>
        simp only [q1, q2] at h1
        rw [Bool.and_eq_true] at h1
        have z1 := of_decide_eq_true h1.1
        have z2 := of_decide_eq_true h1.2
        subst z1 z2
        exact ok_chain T q1 q2 ((ihab M X T).2.1 _ h2) ((ihc M X T).1 _ h3) (not_true h4)
  | lc vs tg ik its c elt ihi ihc ihe =>
    refine fun M X T => ⟨fun e h => ?_, noA (fun es => by unfold isA; rfl), noK (fun es => by unfold isK; rfl)⟩
    obtain ⟨t, h1, h2, _⟩ := lc_ok T ihi ihc ihe h
    obtain ⟨ee, gs, scope, pos, rfl⟩ := h2.1
    exact Ok3.of (peImp h2.2 h1) rfl rfl
  | call f a iha =>
    refine fun M X T => ⟨fun e h => ?_, noA (fun es => by unfold isA; rfl), noK (fun es => by unfold isK; rfl)⟩
    cases e <;> first | (unfold isE at h; cases h; done) | skip
    rename_i fe es kws pos
    cases kws with
    | cons _ _ => unfold isE at h; cases h
    | nil =>
      unfold isE at h
      rw [Bool.and_eq_true, Bool.and_eq_true] at h
      exact ok_call T h.1.1 h.1.2 ((iha M X T).2.2 _ h.2)
  | «mut» m i f a iha =>
    refine fun M X T => ⟨fun e h => ?_, noA (fun es => by unfold isA; rfl), noK (fun es => by unfold isK; rfl)⟩
    cases e <;> first | (unfold isE at h; cases h; done) | skip
    rename_i fe es kws pos
    cases kws with
    | cons _ _ => cases fe <;> (unfold isE at h; cases h)
    | nil =>
      cases fe <;> first | (unfold isE at h; cases h; done) | skip
      rename_i ob x ap
      unfold isE at h
      rw [Bool.and_eq_true, Bool.and_eq_true, Bool.and_eq_true, Bool.and_eq_true] at h
      obtain ⟨⟨⟨⟨h1, h2⟩, h3⟩, h4⟩, h5⟩ := h
      cases f with
      | none => exact ok_mut T (of_decide_eq_true h1) h2 h3 ((iha M X T).2.1 _ h4) (of_decide_eq_true h5)
      | some f =>
        have h3 : (isPthB X.N X.env.scope i f ob && a.csts) = true := h3
        rw [Bool.and_eq_true] at h3
        exact ok_mutF T (of_decide_eq_true h1) h2 h3.1 h3.2 h4 (of_decide_eq_true h5)
  | nil =>
    refine fun M X T => ⟨fun e h => (by unfold isE at h; cases h), fun es h => ?_, fun es h => ?_⟩
    · cases es with
      | cons _ _ => unfold isA at h; cases h
      | nil => exact ⟨⟨[], .nil, rfl⟩, ⟨[], .nil, rfl⟩⟩
    · cases es with
      | cons _ _ => unfold isK at h; cases h
      | nil => exact ⟨[], .nil, rfl⟩
  | cons a r iha ihr =>
    refine fun M X T => ⟨fun e h => (by unfold isE at h; cases h), fun es h => ?_, fun es h => ?_⟩
    · cases es with
      | nil => unfold isA at h; cases h
      | cons e es =>
        unfold isA at h
        rw [Bool.and_eq_true, Bool.and_eq_true] at h
        obtain ⟨⟨h1, h2⟩, h3⟩ := h
        have hs := not_true h1
        have o1 := (iha M X T).1 e h2
        have o2 := (ihr M X T).2.1 es h3
        cases a with
        | var i =>
          obtain ⟨ts, p1, e1⟩ := o2.a
          obtain ⟨us, p2, e2⟩ := o2.l
          have hv : isVarB X.N X.env.scope i e = true := by unfold isE at h2; exact h2
          obtain ⟨pv, _, _⟩ := isVarB_ok hv
          refine ⟨⟨_, .cons hs pv (TMono.var i) p1, by rw [rdsA_var, e1]; rfl⟩, ⟨_, .cons hs o1.pe (TMono.ev _ _) p2, ?_⟩⟩
          show tCons (tE M (evE C (.var i))) (rdsL M C r) = _
          rw [e2]
          rfl
        | pth i f =>
          cases hc : r.csts with
          | false => exact okA_gen hs o1 o2 (by show (if r.csts then _ else _) = _; rw [hc]; rfl)
          | true =>
            obtain ⟨us, p2, e2⟩ := o2.l
            have hv : isPthB X.N X.env.scope i f e = true := by unfold isE at h2; exact h2
            obtain ⟨pv, _, _, _⟩ := isPthB_ok T hv
            obtain ⟨ts, p1, e1⟩ := csts_pes (X := X) hc h3
            refine ⟨⟨_, .cons hs pv (TMono.pth i f) p1, ?_⟩, ⟨_, .cons hs o1.pe (TMono.ev _ _) p2, ?_⟩⟩
            · show (if r.csts then tCons (tPth i f) (rdsC r) else _) = _
              rw [hc, if_pos rfl, e1]
              rfl
            · show tCons (tE M (evE C (.pth i f))) (rdsL M C r) = _
              rw [e2]
              rfl
        | _ => exact okA_gen hs o1 o2 rfl
    · cases es with
      | nil => unfold isK at h; cases h
      | cons e es =>
        unfold isK at h
        rw [Bool.and_eq_true, Bool.and_eq_true] at h
        obtain ⟨⟨h1, h2⟩, h3⟩ := h
        have hs := not_true h1
        obtain ⟨ts, p1, e1⟩ := (ihr M X T).2.2 es h3
        cases a with
        | io i =>
          obtain ⟨pv, _, _⟩ := isVarB_ok (show isVarB X.N X.env.scope i e = true from h2)
          refine ⟨_, .cons hs pv (TMono.var i) p1, ?_⟩
          show tCons (tVar i) (rdsK M C r) = _
          rw [e1]
          rfl
        | _ =>
          have o1 := (iha M X T).1 e h2
          refine ⟨_, .cons hs o1.pe (TMono.ev _ _) p1, ?_⟩
          show tCons (tE M (evE C _)) (rdsK M C r) = _
          rw [e1]
          rfl
end
end Mn
set_option Elab.async false
set_option linter.all false
set_option maxRecDepth 100000
set_option maxHeartbeats 4000000
/-! Mn, part 22: statements: checks, readings. -/
namespace Mn
open PySem L2
/-! ### checks -/
def isCompE : Expr → Bool
  | .ListComp .. => true
  | .SetComp .. => true
  | .DictComp .. => true
  | _ => false
def isLc : E → Bool
  | .lc .. => true
  | _ => false
def nmB (N : List Str) (sc : Scope) (i : Nat) : Expr → Bool
  | .Name x _ => decide (N[i]? = some x) && (match sc.names.lookup x with | some .local => true | some .cell => true | _ => false)
  | _ => false
/-- a plain local name -/
def locN (N : List Str) (sc : Scope) (i : Nat) (line : Nat) : Expr → Bool
  | .Name x p => decide (N[i]? = some x) && (match sc.names.lookup x with | some .local => true | _ => false) && (p.line == line)
  | _ => false
def isLocName (sc : Scope) : Expr → Bool
  | .Name x _ => sc.names.lookup x == some .local
  | _ => false
def nameOf : Expr → Str
  | .Name x _ => x
  | _ => ""
/-- no stores are exchanged -/
def noSwapB (sc : Scope) : Expr → Expr → Bool
  | .Tuple ts _ _, .Tuple _ _ _ => ts.any fun t => !isLocName sc t
  | _, .Tuple _ _ _ => false
  | _, _ => true
def posLine : Expr → Nat
  | .Name _ p => p.line
  | _ => 0
mutual
def isS1 (nm : Nat → Str) (N : List Str) (sc : Scope) : S → Stmt → Bool
  | .setE i x, .Assign [t] e _ => nmB N sc i t && isE nm N sc x e && (isLc x || !isCompE e)
  | .asg tg x, .Assign [t] e _ => isTupE t && isTgB N sc (fun _ => true) tg t && isE nm N sc x e && noSwapB sc t e && !isCompE e
  | .par [i, j] a, .Assign [.Tuple [t1, t2] _ _] (.Tuple [e1, e2] _ _) _ => locN N sc i (posLine t1) t1 && locN N sc j (posLine t1) t2 && isA nm N sc a [e1, e2] && decide (i ≠ j) && !([e1, e2].all (foldedForSure 8)) && !([e1, e2].all (constantsAlone 8))
  | .setIx i k v, .Assign [.Subscript o ke _] e _ => isVarB N sc i o && isE nm N sc k ke && !isSlice ke && isE nm N sc v e && !isCompE e
  | .setRc i f v, .Assign [.Subscript o (.Constant (.str s) _ _) _] e _ => isVarB N sc i o && decide (s = f) && isE nm N sc v e && !isCompE e
  | .expr x, .Expr e _ => isE nm N sc x e && !isCompE e
  | .ife c a b, .If e p q _ => isE nm N sc c e && isSs nm N sc a p && isSs nm N sc b q
  | .for_ tg ik its b, .For t ie p [] _ => (match itB sc t ik ie with
      | some es => isA nm N sc its es && !isSetE ie
      | none => false) && isTgB N sc (fun _ => true) tg t && isSs nm N sc b p
  | .while_ c b, .While e p [] _ => isE nm N sc c e && isSs nm N sc b p
  | .ret x, .Return (some e) _ => isE nm N sc x e
  | .retN, .Return none _ => true
  | .brk, .Break _ => true
  | .cont, .Continue _ => true
  | .never, _ => true
  | _, _ => false
def isSs (nm : Nat → Str) (N : List Str) (sc : Scope) : S → List Stmt → Bool
  | .skip, [] => true
  | .never, _ => true
  | .seq a b, st :: r => isS1 nm N sc a st && isSs nm N sc b r
  | _, _ => false
end

/-! ### readings -/
def OutS (M : Mc) (B F : Hp) (D : Ends) : RS → Prop
  | .nx e => ∀ σ F' H', Gr B F F' → St M.K M.G M.pv B F' H' e σ → D.nx σ H'
  | .bk e => ∀ σ F' H', Gr B F F' → St M.K M.G M.pv B F' H' e σ → D.bk σ H'
  | .ct e => ∀ σ F' H', Gr B F F' → St M.K M.G M.pv B F' H' e σ → D.ct σ H'
  | .rt w e => ∀ v σ F' H', Gr B F F' → StV M.K M.G M.pv B F' H' e σ w v → D.rt v H'
  | .exn c p e => ∀ cls d σ F' H', Gr B F F' → St M.K M.G M.pv B F' H' e σ → M.XR c p cls d F' H' → M.EX cls d H'
  | .bad => False
def tS (M : Mc) (f : Env → RS) : TS := fun D σ H => ∃ B F e, St M.K M.G M.pv B F H e σ ∧ OutS M B F D (f e)
theorem OutS.grow {M : Mc} {B F F1 : Hp} {D : Ends} {r : RS} (h : OutS M B F D r) (g : Gr B F F1) : OutS M B F1 D r := by
  cases r with
  | nx e => exact fun σ F' H' g' s => h σ F' H' (g.trans g') s
  | bk e => exact fun σ F' H' g' s => h σ F' H' (g.trans g') s
  | ct e => exact fun σ F' H' g' s => h σ F' H' (g.trans g') s
  | rt w e => exact fun v σ F' H' g' s => h v σ F' H' (g.trans g') s
  | exn c p e => exact fun cls d σ F' H' g' s x => h cls d σ F' H' (g.trans g') s x
  | bad => exact h
/-- an expression, then the rest -/
theorem OutS.rs {M : Mc} {B F : Hp} {σ : List (Option V)} {D : Ends} {r : R W} {k : W → Env → RS} (h : OutS M B F D (r.rs k)) :
    Out M B F σ (fun v H' => ∃ w e' F', Gr B F F' ∧ StV M.K M.G M.pv B F' H' e' σ w v ∧ OutS M B F' D (k w e')) r := by
  cases r with
  | ok w e => exact fun v F' H' g s => ⟨w, e, F', g, s, h.grow g⟩
  | exn c p e => exact fun cls d F' H' g s x => h cls d σ F' H' g s x
  | bad => exact h
theorem OutS.rsL {α : Type} {M : Mc} {B F : Hp} {σ : List (Option V)} {D : Ends} {Rl : Hp → Hp → Env → α → List V → Prop} {r : R α} {k : α → Env → RS} (h : OutS M B F D (r.rs k)) :
    OutL M B F σ Rl (fun vs H' => ∃ a e' F', Gr B F F' ∧ St M.K M.G M.pv B F' H' e' σ ∧ Rl F' H' e' a vs ∧ OutS M B F' D (k a e')) r := by
  cases r with
  | ok w e => exact fun v F' H' g s rl => ⟨w, e, F', g, s, rl, h.grow g⟩
  | exn c p e => exact fun cls d F' H' g s x => h cls d σ F' H' g s x
  | bad => exact h
theorem OutS.rsW {M : Mc} {B F : Hp} {σ : List (Option V)} {D : Ends} {r : R (List W)} {k : List W → Env → RS} (h : OutS M B F D (r.rs k)) :
    OutW M B F σ (fun vs H' => ∃ ws e' F', Gr B F F' ∧ StVs M.K M.G M.pv B F' H' e' σ ws vs ∧ OutS M B F' D (k ws e')) r := by
  cases r with
  | ok w e => exact fun v F' H' g s => ⟨w, e, F', g, s, h.grow g⟩
  | exn c p e => exact fun cls d F' H' g s x => h cls d σ F' H' g s x
  | bad => exact h
theorem psImp {X : Cx} {st : Stmt} {t t' : TS} (h : PS X st t) (k : ∀ D σ H, t' D σ H → t D σ H) : PS X st t' := ⟨fun pins s σ H D I q => h.run pins s σ H D I (k D σ H q)⟩
theorem pssImp {X : Cx} {st : List Stmt} {t t' : TS} (h : PSs X st t) (k : ∀ D σ H, t' D σ H → t D σ H) : PSs X st t' := ⟨fun pins s σ H D I q => h.run pins s σ H D I (k D σ H q)⟩

/-! ### the context of a def's body -/
structure Sx (nm : Nat → Str) (C : Cn) (CXt : CXT) (M : Mc) (X : Cx) (pn : List Nat) : Prop where
  tx : Tx nm C CXt M X
  fn : ∀ x, X.fn x = true
  bk : X.env.blockKind = .function
  po : PassesOwn (model X.prog X.w) X.A X.env X.xe
  pv : ∀ p ∈ M.pv, p.1 ∈ pn
section
variable {nm : Nat → Str} {C : Cn} {CXt : CXT} {M : Mc} {X : Cx} {pn : List Nat}
theorem nmB_ok {i : Nat} {t : Expr} (h : nmB X.N X.env.scope i t = true) : ∃ x p, t = .Name x p ∧ X.N[i]? = some x ∧ Loc X.env.scope x := by
  cases t <;> first | (cases h; done) | skip
  rename_i x p
  have h : (decide (X.N[i]? = some x) && (match X.env.scope.names.lookup x with | some .local => true | some .cell => true | _ => false)) = true := h
  rw [Bool.and_eq_true] at h
  refine ⟨x, p, rfl, of_decide_eq_true h.1, ?_⟩
  have h2 := h.2
  cases q : X.env.scope.names.lookup x with
  | none => rw [q] at h2; cases h2
  | some k =>
    rw [q] at h2
    cases k with
    | «local» => exact .inl q
    | cell => exact .inr q
    | _ => cases h2
theorem swaps_none {e : Expr} {t : Option Expr} {l : Nat} {env : PySem.Env} (h : isCompE e = false) : swapsWith e t l env = pure false := by
  cases e <;> first | rfl | cases h
theorem swaps_lc {ee : Expr} {gs : List Comprehension} {scope : Scope} {pos : Pos} {x : Str} {p : Pos} {l : Nat} {env : PySem.Env} : ∃ b, swapsWith (.ListComp ee gs scope pos) (some (.Name x p)) l env = pure b ∧ (b = true → env.kindOf x = some .local) := by
  refine ⟨_, rfl, fun h => ?_⟩
  rw [Bool.and_eq_true, Bool.and_eq_true, Bool.and_eq_true] at h
  have := h.1.1.2
  simpa using this
theorem setAt {B F H : Hp} {e : Env} {σ : List (Option V)} {w : W} {v : V} {i : Nat} (s : StV M.K M.G M.pv B F H e σ w v) (hp : ∀ p ∈ M.pv, p.1 ∈ pn) (h : ¬ (i ∈ pn ∨ ¬ i < e.length)) : St M.K M.G M.pv B F H (e.set i (some w)) (σ.set i (some v)) := by
  obtain ⟨fp, S, s, r, o, d⟩ := s
  exact ⟨_, s.set (Decidable.not_not.mp fun z => h (.inr z)) r o (fun j a _ h1 h2 => d j a h1 h2) fun p hp' z => h (.inl (z ▸ hp p hp'))⟩
theorem s_setE (T : Sx nm C CXt M X pn) {i : Nat} {x : E} {t e : Expr} {pos : Pos} (h1 : nmB X.N X.env.scope i t = true) (h2 : isE nm X.N X.env.scope x e = true) (h3 : (isLc x || !isCompE e) = true) : PS X (.Assign [t] e pos) (tS M (evS C pn (.setE i x))) := by
  obtain ⟨y, py, rfl, hi, hx⟩ := nmB_ok h1
  have hf : X.fn y = true ∨ X.env.scope.names.lookup y = some .local := .inl (T.fn y)
  have fin : ∀ D σ H, tS M (evS C pn (.setE i x)) D σ H → tAsg (tE M (evE C x)) (gName i) D σ H := by
    rintro D σ H ⟨B, F, ev, st, o⟩
    refine ⟨B, F, ev, st, Out.mono (OutS.rs o) (Gr.refl _ _) fun v H' z => ?_⟩
    obtain ⟨w, e', F', g, s', o'⟩ := z
    by_cases hc : i ∈ pn ∨ ¬ i < e'.length
    · rw [if_pos hc] at o'; exact o'.elim
    · rw [if_neg hc] at o'
      exact o' _ F' H' (Gr.refl _ _) (setAt s' T.pv hc)
  have viaE : swapsWith e (some (.Name y py)) pos.line X.env = pure false → PS X (.Assign [.Name y py] e pos) (tS M (evS C pn (.setE i x))) := fun hs =>
    psImp (ps_set T.tx.nd hi hx ((exp_ok x M X T.tx).1 e h2).pe hs hf) fin
  cases hl : isLc x with
  | false =>
    rw [hl] at h3
    exact viaE (swaps_none (not_true h3))
  | true =>
    cases x <;> first | (cases hl; done) | skip
    rename_i vs tg ik its c elt
    obtain ⟨tt, k1, ⟨⟨ee, gs, scope, ps, rfl⟩, k2⟩, k3⟩ := lc_ok T.tx (exp_ok its) (exp_ok c) (exp_ok elt) h2
    obtain ⟨b, hb, hbl⟩ := swaps_lc (ee := ee) (gs := gs) (scope := scope) (pos := ps) (x := y) (p := py) (l := pos.line) (env := X.env)
    cases b with
    | false => exact viaE hb
    | true => exact psImp (k3 hi (hbl rfl) hb) fun D σ H q => k1 _ _ _ (fin D σ H q)
theorem s_expr (T : Sx nm C CXt M X pn) {x : E} {e : Expr} {pos : Pos} (h2 : isE nm X.N X.env.scope x e = true) (h3 : isCompE e = false) : PS X (.Expr e pos) (tS M (evS C pn (.expr x))) := by
  refine psImp (ps_expr ((exp_ok x M X T.tx).1 e h2).pe (swaps_none h3)) ?_
  rintro D σ H ⟨B, F, ev, st, o⟩
  refine ⟨B, F, ev, st, Out.mono (OutS.rs o) (Gr.refl _ _) fun v H' z => ?_⟩
  obtain ⟨w, e', F', g, s', o'⟩ := z
  exact o' σ F' H' (Gr.refl _ _) s'.st
theorem s_ret (T : Sx nm C CXt M X pn) {x : E} {e : Expr} {pos : Pos} (h2 : isE nm X.N X.env.scope x e = true) : PS X (.Return (some e) pos) (tS M (evS C pn (.ret x))) := by
  refine psImp (ps_ret ((exp_ok x M X T.tx).1 e h2).pe) ?_
  rintro D σ H ⟨B, F, ev, st, o⟩
  refine ⟨B, F, ev, st, Out.mono (OutS.rs o) (Gr.refl _ _) fun v H' z => ?_⟩
  obtain ⟨w, e', F', g, s', o'⟩ := z
  exact o' v σ F' H' (Gr.refl _ _) s'
theorem s_retN {pos : Pos} : PS X (.Return none pos) (tS M (evS C pn .retN)) := by
  refine psImp ps_retN ?_
  rintro D σ H ⟨B, F, ev, st, o⟩
  exact o .non σ F H (Gr.refl _ _) (StV.of st (by unfold Rp; rfl))
theorem s_brk {pos : Pos} : PS X (.Break pos) (tS M (evS C pn .brk)) := psImp ps_break fun D σ H ⟨B, F, ev, st, o⟩ => o σ F H (Gr.refl _ _) st
theorem s_cont {pos : Pos} : PS X (.Continue pos) (tS M (evS C pn .cont)) := psImp ps_continue fun D σ H ⟨B, F, ev, st, o⟩ => o σ F H (Gr.refl _ _) st
theorem s_if (T : Sx nm C CXt M X pn) {c : E} {a b : S} {e : Expr} {p q : List Stmt} {pos : Pos} (h2 : isE nm X.N X.env.scope c e = true) (ha : PSs X p (tS M (evS C pn a))) (hb : PSs X q (tS M (evS C pn b))) : PS X (.If e p q pos) (tS M (evS C pn (.ife c a b))) := by
  refine psImp (ps_if ((exp_ok c M X T.tx).1 e h2).pt ha hb) ?_
  rintro D σ H ⟨B, F, ev, st, o⟩
  refine ⟨B, F, ev, st, Out.mono (OutS.rs o) (Gr.refl _ _) fun v H' z => ?_⟩
  obtain ⟨w, e', F', g, s', o'⟩ := z
  cases w with
  | val d => cases d with
    | bl k =>
      refine ⟨k, bool_of s', ?_⟩
      cases k with
      | true => exact ⟨B, F', e', s'.st, o'⟩
      | false => exact ⟨B, F', e', s'.st, o'⟩
    | _ => exact o'.elim
  | _ => exact o'.elim
theorem ss_nil : PSs X [] (tS M (evS C pn .skip)) := pssImp pss_nil fun D σ H ⟨B, F, ev, st, o⟩ => o σ F H (Gr.refl _ _) st
theorem ss_cons {a b : S} {st : Stmt} {r : List Stmt} (h1 : PS X st (tS M (evS C pn a))) (h2 : PSs X r (tS M (evS C pn b))) : PSs X (st :: r) (tS M (evS C pn (.seq a b))) := by
  refine pssImp (pss_cons h1 h2) ?_
  rintro D σ H ⟨B, F, ev, s, o⟩
  refine ⟨B, F, ev, s, ?_⟩
  have o : OutS M B F D (match evS C pn a ev with
    | .nx e' => evS C pn b e'
    | r => r) := o
  cases q : evS C pn a ev with
  | nx e => rw [q] at o; exact fun σ' F' H' g s' => ⟨B, F', e, s', o.grow g⟩
  | bk e => rw [q] at o; exact o
  | ct e => rw [q] at o; exact o
  | rt w e => rw [q] at o; exact o
  | exn c p e => rw [q] at o; exact o
  | bad => rw [q] at o; exact o
end
end Mn
set_option Elab.async false
set_option linter.all false
set_option maxRecDepth 100000
set_option maxHeartbeats 4000000
/-! Mn, part 23: statements, the rest. -/
namespace Mn
open PySem L2
section
variable {nm : Nat → Str} {C : Cn} {CXt : CXT} {M : Mc} {X : Cx} {pn : List Nat}
theorem filterMap_less {α β : Type} {f : α → Option β} : ∀ {l : List α}, l.any (fun x => (f x).isNone) = true → (l.filterMap f).length < l.length
  | [], h => by cases h
  | x :: l, h => by
    rw [List.any_cons] at h
    cases q : f x with
    | none =>
      rw [List.filterMap_cons_none q, List.length_cons]
      have := List.length_filterMap_le f l
      omega
    | some y =>
      rw [q] at h
      have h : l.any (fun x => (f x).isNone) = true := by simpa using h
      rw [List.filterMap_cons_some q, List.length_cons, List.length_cons]
      have := filterMap_less h
      omega
theorem noSwap {t e : Expr} {env : PySem.Env} (h : noSwapB env.scope t e = true) : swappedStores [t] e env = pure none := by
  cases t with
  | Tuple ts k p =>
    cases e with
    | Tuple vs k2 p2 =>
      have h : ts.any (fun t => !isLocName env.scope t) = true := h
      unfold swappedStores
      have hl : ∀ line : Nat, (ts.filterMap fun
        | .Name id pos => if env.kindOf id == some .local && pos.line == line then some id else none
        | _ => none).length ≠ ts.length := fun line => by
        refine Nat.ne_of_lt (filterMap_less ?_)
        obtain ⟨x, hx, hx2⟩ := List.any_eq_true.mp h
        refine List.any_eq_true.mpr ⟨x, hx, ?_⟩
        cases x <;> first | rfl | skip
        rename_i y py
        have hx2 : (!(env.scope.names.lookup y == some .local)) = true := hx2
        have hx3 : (env.kindOf y == some .local) = false := not_true hx2
        simp [hx3]
      simp only []
      split
      · rfl
      · split
        · rfl
        · split
          · rfl
          · rename_i h3
            exact (h3 (by rw [Bool.or_eq_true]; exact .inl (bne_iff_ne.mpr (hl _)))).elim
    | _ => rfl
  | List ts p =>
    cases e with
    | Tuple vs k2 p2 => cases h
    | _ => rfl
  | _ => cases e <;> first | rfl | cases h
theorem s_asg (T : Sx nm C CXt M X pn) {tg : Tg} {x : E} {t e : Expr} {pos : Pos} (h0 : isTupE t = true) (h1 : isTgB X.N X.env.scope (fun _ => true) tg t = true) (h2 : isE nm X.N X.env.scope x e = true) (h3 : noSwapB X.env.scope t e = true) (h4 : isCompE e = false) : PS X (.Assign [t] e pos) (tS M (evS C pn (.asg tg x))) := by
  obtain ⟨pg, go⟩ := tg_pg (pn := pn) T.tx T.pv (fun y _ => T.fn y) tg t h1
  refine psImp (ps_asg ((exp_ok x M X T.tx).1 e h2).pe pg (swaps_none h4) (noSwap h3) (by cases t <;> first | rfl | cases h0)) ?_
  rintro D σ H ⟨B, F, ev, st, o⟩
  refine ⟨B, F, ev, st, Out.mono (OutS.rs o) (Gr.refl _ _) fun v H' z => ?_⟩
  obtain ⟨w, e', F', g, s', o'⟩ := z
  cases w with
  | val d =>
    have o' : OutS M B F' D (match tg.asgn pn d e' with
      | some e2 => .nx e2
      | none => .bad) := o'
    cases q : tg.asgn pn d e' with
    | none => rw [q] at o'; exact o'.elim
    | some e2 =>
      rw [q] at o'
      exact go s'.st s'.rp q fun σ' s2 _ _ => o' σ' F' H' (Gr.refl _ _) s2
  | _ => exact o'.elim
theorem locN_ok {i l : Nat} {t : Expr} (h : locN X.N X.env.scope i l t = true) : ∃ x p, t = .Name x p ∧ X.N[i]? = some x ∧ X.env.scope.names.lookup x = some .local ∧ p.line = l := by
  cases t <;> first | (cases h; done) | skip
  rename_i x p
  have h : (decide (X.N[i]? = some x) && (match X.env.scope.names.lookup x with | some .local => true | _ => false) && (p.line == l)) = true := h
  rw [Bool.and_eq_true, Bool.and_eq_true] at h
  refine ⟨x, p, rfl, of_decide_eq_true h.1.1, ?_, by simpa using h.2⟩
  have h2 := h.1.2
  cases q : X.env.scope.names.lookup x with
  | none => rw [q] at h2; cases h2
  | some k =>
    rw [q] at h2
    cases k with
    | «local» => rfl
    | _ => cases h2
theorem swap2 {x y : Str} {px py p p2 : Pos} {k k2 : Nat} {e1 e2 : Expr} {env : PySem.Env} (bk : env.blockKind = .function) (s1 : isStar e1 = false) (s2 : isStar e2 = false) (hx : env.scope.names.lookup x = some .local) (hy : env.scope.names.lookup y = some .local) (hl : py.line = px.line) (hne : x ≠ y)
    (hf : [e1, e2].all (foldedForSure 8) = false) (hc : [e1, e2].all (constantsAlone 8) = false) : swappedStores [.Tuple [.Name x px, .Name y py] k p] (.Tuple [e1, e2] k2 p2) env = pure (some [x, y]) := by
  have kx : (env.kindOf x == some .local) = true := by
    have : env.kindOf x = some .local := hx
    rw [this]
    rfl
  have ky : (env.kindOf y == some .local) = true := by
    have : env.kindOf y = some .local := hy
    rw [this]
    rfl
  have st : ([e1, e2].any fun | .Starred .. => true | _ => false) = false := by
    refine List.any_eq_false.mpr fun z hz q => ?_
    have hs : isStar z = false := by
      rcases List.mem_cons.mp hz with rfl | hz
      · exact s1
      · rw [List.mem_singleton.mp hz]
        exact s2
    cases z <;> first | (cases hs; done) | (cases q; done)
  have fm2 : ∀ {f : Expr → Option Str}, f (.Name x px) = some x → f (.Name y py) = some y → [Expr.Name x px, Expr.Name y py].filterMap f = [x, y] := fun {f} q1 q2 => by
    rw [List.filterMap_cons_some q1, List.filterMap_cons_some q2, List.filterMap_nil]
  have fm : ([Expr.Name x px, Expr.Name y py].filterMap fun
      | .Name id pos => if env.kindOf id == some .local && pos.line == ((([Expr.Name x px, Expr.Name y py].head?.map (·.pos.line)).getD 0)) then some id else none
      | _ => none) = [x, y] := by
    refine fm2 ?_ ?_
    · show (if (env.kindOf x == some .local && px.line == px.line) = true then some x else none) = some x
      rw [if_pos (by rw [kx, beq_self_eq_true]; rfl)]
    · show (if (env.kindOf y == some .local && py.line == px.line) = true then some y else none) = some y
      rw [if_pos (by rw [ky, hl, beq_self_eq_true]; rfl)]
  unfold swappedStores
  simp only []
  rw [if_neg (by rw [bk]; exact Bool.false_ne_true)]
  refine (if_neg ?_).trans ?_
  · exact fun q => absurd (st.symm.trans q) Bool.false_ne_true
  generalize hn : List.filterMap _ [Expr.Name x px, Expr.Name y py] = names
  have hn2 : names = [x, y] := hn.symm.trans fm
  subst hn2
  rw [if_neg, if_neg (by rw [hf]; decide), if_neg (by rw [hc]; decide)]
  · have hxy : (y == x) = false := by simpa using fun z => hne z.symm
    simp [List.eraseDups_cons, hxy]
theorem s_par (T : Sx nm C CXt M X pn) {i j : Nat} {a : E} {t1 t2 e1 e2 : Expr} {k k2 : Nat} {p1 p2 pos : Pos} (h1 : locN X.N X.env.scope i (posLine t1) t1 = true) (h2 : locN X.N X.env.scope j (posLine t1) t2 = true) (ha : isA nm X.N X.env.scope a [e1, e2] = true) (hij : i ≠ j)
    (hf : [e1, e2].all (foldedForSure 8) = false) (hc : [e1, e2].all (constantsAlone 8) = false) : PS X (.Assign [.Tuple [t1, t2] k p1] (.Tuple [e1, e2] k2 p2) pos) (tS M (evS C pn (.par [i, j] a))) := by
  obtain ⟨x, px, rfl, hi, hx, lx⟩ := locN_ok h1
  obtain ⟨y, py, rfl, hj, hy, ly⟩ := locN_ok h2
  obtain ⟨ts, hp, hr⟩ := ((exp_ok (CXt := CXt) a M X T.tx).2.1 _ ha).l
  have pa := hp.pa
  have st := hp.stars
  have hne : x ≠ y := fun z => hij (nodup_ix T.tx.nd hi (z ▸ hj))
  refine psImp (ps_par T.tx.calm T.tx.nd hi hj hij hx hy pa (swap2 T.bk (st _ List.mem_cons_self) (st _ (List.mem_cons_of_mem _ List.mem_cons_self)) hx hy ly hne hf hc)) ?_
  rintro D σ H ⟨B, F, ev, st, o⟩
  show tsCons ts σ H _
  rw [← hr]
  refine evW_ok a st (OutW.mono (OutS.rsW (σ := σ) o) (Gr.refl _ _) fun vs H' z => ?_)
  obtain ⟨ws, e', F', g, ⟨fp, S, s, r, ow, d⟩, o'⟩ := z
  have o' : OutS M B F' D (match setAll pn [i, j] ws e' with
    | some e2 => .nx e2
    | none => .bad) := o'
  match ws, r, o' with
  | [], _, o' => exact o'.elim
  | [w1], r, o' =>
    by_cases c : i ∈ pn ∨ i ∈ [j] ∨ ¬ i < e'.length
    · have : setAll pn [i, j] [w1] e' = none := by show (if _ then _ else _) = _; rw [if_pos c]
      rw [this] at o'; exact o'.elim
    · have : setAll pn [i, j] [w1] e' = none := by show (if _ then _ else _) = _; rw [if_neg c]; rfl
      rw [this] at o'; exact o'.elim
  | w1 :: w2 :: w3 :: wr, r, o' =>
    by_cases c : i ∈ pn ∨ i ∈ [j] ∨ ¬ i < e'.length
    · have : setAll pn [i, j] (w1 :: w2 :: w3 :: wr) e' = none := by show (if _ then _ else _) = _; rw [if_pos c]
      rw [this] at o'; exact o'.elim
    · have : setAll pn [i, j] (w1 :: w2 :: w3 :: wr) e' = setAll pn [j] (w2 :: w3 :: wr) (e'.set i (some w1)) := by show (if _ then _ else _) = _; rw [if_neg c]
      rw [this] at o'
      have : setAll pn [j] (w2 :: w3 :: wr) (e'.set i (some w1)) = none := by
        show (if _ then _ else _) = _
        split <;> rfl
      rw [this] at o'; exact o'.elim
  | [w1, w2], r, o' =>
    obtain ⟨v1, vr, S1, S2', rfl, r1, r2', dj, z⟩ := WRs.cons_iff.mp r
    obtain ⟨v2, vr2, S2, S3, rfl, r2, r3, dj2, z2⟩ := WRs.cons_iff.mp r2'
    obtain ⟨rfl, n3⟩ := WRs.nil_iff.mp r3
    refine ⟨v1, v2, rfl, ?_⟩
    by_cases c : i ∈ pn ∨ i ∈ [j] ∨ ¬ i < e'.length
    · have : setAll pn [i, j] [w1, w2] e' = none := by show (if _ then _ else _) = _; rw [if_pos c]
      rw [this] at o'; exact o'.elim
    · have : setAll pn [i, j] [w1, w2] e' = setAll pn [j] [w2] (e'.set i (some w1)) := by show (if _ then _ else _) = _; rw [if_neg c]
      rw [this] at o'
      by_cases c2 : j ∈ pn ∨ j ∈ ([] : List Nat) ∨ ¬ j < (e'.set i (some w1)).length
      · have : setAll pn [j] [w2] (e'.set i (some w1)) = none := by show (if _ then _ else _) = _; rw [if_pos c2]
        rw [this] at o'; exact o'.elim
      · have : setAll pn [j] [w2] (e'.set i (some w1)) = some ((e'.set i (some w1)).set j (some w2)) := by show (if _ then _ else _) = _; rw [if_neg c2]; rfl
        rw [this] at o'
        have inS1 : ∀ a, S1 a → S a := fun a h => (z a).mpr (.inl h)
        have inS2 : ∀ a, S2 a → S a := fun a h => (z a).mpr (.inr ((z2 a).mpr (.inl h)))
        have s1 := s.set (v := v1) (Decidable.not_not.mp fun q => c (.inr (.inr q))) r1 (fun a h => ow a (inS1 a h)) (fun j a _ h1 h2 => d j a h1 (inS1 a h2)) fun p hp q => c (.inl (q ▸ T.pv p hp))
        have s2 := s1.set (v := v2) (i := j) (Decidable.not_not.mp fun q => c2 (.inr (.inr q))) r2 (fun a h => ow a (inS2 a h)) (fun l a hl h1 h2 => by
          by_cases q : l = i
          · subst q
            rw [fpSet_self] at h1
            exact dj a h1 ((z2 a).mpr (.inl h2))
          · rw [fpSet_ne q] at h1
            exact d l a h1 (inS2 a h2)) fun p hp q => c2 (.inl (q ▸ T.pv p hp))
        exact o' _ F' H' (Gr.refl _ _) ⟨_, s2⟩
end
end Mn
set_option Elab.async false
set_option linter.all false
set_option maxRecDepth 100000
set_option maxHeartbeats 4000000
/-! Mn, part 24: stores into lists and dicts, loops; every statement is sound. -/
namespace Mn
open PySem L2
section
variable {nm : Nat → Str} {C : Cn} {CXt : CXT} {M : Mc} {X : Cx} {pn : List Nat}
theorem s_setIx (T : Sx nm C CXt M X pn) {i : Nat} {k v : E} {o ke e : Expr} {sp pos : Pos} (h1 : isVarB X.N X.env.scope i o = true) (h2 : isE nm X.N X.env.scope k ke = true) (h3 : isSlice ke = false) (h4 : isE nm X.N X.env.scope v e = true) (h5 : isCompE e = false) :
    PS X (.Assign [.Subscript o ke sp] e pos) (tS M (evS C pn (.setIx i k v))) := by
  obtain ⟨po, _, _⟩ := isVarB_ok h1
  have pk := ((exp_ok k M X T.tx).1 ke h2).pe
  have pv := ((exp_ok v M X T.tx).1 e h4).pe
  have pg : PG X (.Subscript o ke sp) _ := pg_sub po pk set_list (by
    intro u
    cases ke <;> first | rfl | cases h3)
  refine psImp (ps_asg pv pg (hs := (swaps_none h5 : swapsWith e (some (.Subscript o ke sp)) pos.line X.env = pure false)) (hw := rfl) (h1 := rfl)) ?_
  rintro D σ H ⟨B, F, ev, st, oo⟩
  have oo : OutS M B F D (if (ev.get i).isSome then (evL C (.cons v (.cons k .nil)) ev).rs fun ds e' => match ds, e'.get i with
      | [d, .int j], some (.lst xs) => match ixN xs.length j with
        | some n => .nx (e'.set i (some (.lst (xs.set n d))))
        | none => .bad
      | _, _ => .bad
    else .bad) := oo
  cases q0 : ev.get i with
  | none => rw [q0] at oo; exact oo.elim
  | some w0 =>
    rw [q0] at oo
    have oo : OutS M B F D ((evL C (.cons v (.cons k .nil)) ev).rs fun ds e' => match ds, e'.get i with
      | [d, .int j], some (.lst xs) => match ixN xs.length j with
        | some n => .nx (e'.set i (some (.lst (xs.set n d))))
        | none => .bad
      | _, _ => .bad) := oo
    have hv : ∃ ov, σ[i]? = some (some ov) := by
      obtain ⟨fp, s⟩ := st
      obtain ⟨ov, h, _⟩ := s.slot i _ q0
      exact ⟨ov, h⟩
    obtain ⟨ov, hv⟩ := hv
    have key := evL_ok (.cons v (.cons k .nil)) st (OutL.mono (Q' := fun vs H' => match vs with
      | [x, kx] => rSetL ov kx x H' fun H4 => D.nx σ H4
      | _ => True) (OutS.rsL (σ := σ) (Rl := RL M) oo) (Gr.refl _ _) fun vs H' z => by
        obtain ⟨ds, e', F', g, st', rp, o'⟩ := z
        match vs, rp with
        | [], _ => trivial
        | [_], _ => trivial
        | _ :: _ :: _ :: _, _ => trivial
        | [x, kx], rp =>
          match ds, rp, o' with
          | [], rp, _ => cases Rps.nil_iff.mp rp
          | [_], rp, _ =>
            obtain ⟨_, _, e1, _, r2⟩ := Rps.cons_iff.mp rp
            cases e1
            cases Rps.nil_iff.mp r2
          | _ :: _ :: _ :: _, rp, _ =>
            obtain ⟨_, _, e1, _, r2⟩ := Rps.cons_iff.mp rp
            cases e1
            obtain ⟨_, _, e1, _, r2⟩ := Rps.cons_iff.mp r2
            cases e1
            obtain ⟨_, _, e1, _, r2⟩ := Rps.cons_iff.mp r2
            cases e1
          | [d1, d2], rp, o' =>
            obtain ⟨v1, r1, e1, rp1, rp2⟩ := Rps.cons_iff.mp rp
            cases e1
            obtain ⟨v2, r2, e2, rp2, _⟩ := Rps.cons_iff.mp rp2
            cases e2
            cases q : e'.get i with
            | none => rw [q] at o'; cases d2 <;> exact o'.elim
            | some w =>
              rw [q] at o'
              cases w with
              | lst xs =>
                cases d2 with
                | int j =>
                  have o' : OutS M B F' D (match ixN xs.length j with
                    | some n => .nx (e'.set i (some (.lst (xs.set n d1))))
                    | none => .bad) := o'
                  cases q2 : ixN xs.length j with
                  | none => rw [q2] at o'; exact o'.elim
                  | some n =>
                    rw [q2] at o'
                    obtain ⟨fp, s'⟩ := st'
                    obtain ⟨a, us, hv2, ha, rx, hfp, ch⟩ := s'.lst_at q
                    rw [hv] at hv2
                    cases hv2
                    have e3 := rp_int rp2
                    subst e3
                    refine ⟨a, us, j, n, rfl, rfl, ha, by rw [rx.length]; exact q2, ?_⟩
                    exact o' σ F' _ (Gr.refl _ _) ⟨fp, ch _ _ F' rfl (rx.set n rp1)⟩
                | _ => exact o'.elim
              | _ => cases d2 <;> exact o'.elim)
    exact TMono.ev M _ _ _ _ _ (fun x H1 z => ⟨ov, hv, z⟩) key
theorem s_setRc (T : Sx nm C CXt M X pn) {i : Nat} {f s : Str} {v : E} {o e : Expr} {kk : Nat} {kp sp pos : Pos} (h1 : isVarB X.N X.env.scope i o = true) (hs : s = f) (h4 : isE nm X.N X.env.scope v e = true) (h5 : isCompE e = false) :
    PS X (.Assign [.Subscript o (.Constant (.str s) kk kp) sp] e pos) (tS M (evS C pn (.setRc i f v))) := by
  subst hs
  obtain ⟨po, _, _⟩ := isVarB_ok h1
  have hu := T.tx.un
  refine psImp (ps_dput (by omega) po pe_str ((exp_ok v M X T.tx).1 e h4).pe (swaps_none h5)) ?_
  rintro D σ H ⟨B, F, ev, st, oo⟩
  have oo : OutS M B F D ((evL C (.cons v .nil) ev).rs fun ds e' => match ds, e'.at i (some s) with
    | [d], some (.val _) => .nx (e'.put i (.val d) (some s))
    | _, _ => .bad) := oo
  have key := evL_ok (.cons v .nil) st (OutL.mono (Q' := fun vs H' => match vs with
    | [x] => tVar i σ H' fun a H2 => ∃ ad H4, a = .ref ad ∧ DPut H2 ad (.str s) x H4 ∧ D.nx σ H4
    | _ => True) (OutS.rsL (σ := σ) (Rl := RL M) oo) (Gr.refl _ _) fun vs H' z => by
      obtain ⟨ds, e', F', g, st', rp, o'⟩ := z
      match vs, rp with
      | [], _ => trivial
      | _ :: _ :: _, _ => trivial
      | [x], rp =>
        match ds, rp, o' with
        | [], rp, _ => cases Rps.nil_iff.mp rp
        | _ :: _ :: _, rp, _ =>
          obtain ⟨_, _, e1, _, r2⟩ := Rps.cons_iff.mp rp
          cases e1
          obtain ⟨_, _, e1, _, r2⟩ := Rps.cons_iff.mp r2
          cases e1
        | [d1], rp, o' =>
          obtain ⟨v1, r1, e1, rp1, rp2⟩ := Rps.cons_iff.mp rp
          cases e1
          cases q : e'.at i (some s) with
          | none => rw [q] at o'; exact o'.elim
          | some w =>
            rw [q] at o'
            cases w with
            | val d0 =>
              obtain ⟨fp, s'⟩ := st'
              obtain ⟨a, kvs, hv, ha, hl, s2⟩ := s'.fld_set q rp1
              refine ⟨_, hv, a, _, rfl, DPut.k (k := Sum.inr s) ha (by rw [sizeLine_eq]; omega), ?_⟩
              exact o' σ F' _ (Gr.refl _ _) ⟨fp, s2⟩
            | _ => exact o'.elim)
  exact key
theorem s_for (T : Sx nm C CXt M X pn) {tg : Tg} {ik : IK} {its : E} {b : S} {t ie : Expr} {p : List Stmt} {pos : Pos} {es : List Expr} (hi : itB X.env.scope t ik ie = some es) (ha : isA nm X.N X.env.scope its es = true) (hs : isSetE ie = false) (htg : isTgB X.N X.env.scope (fun _ => true) tg t = true)
    (hb : PSs X p (tS M (evS C pn b))) : PS X (.For t ie p [] pos) (tS M (evS C pn (.for_ tg ik its b))) := by
  obtain ⟨ts, hp, hr⟩ := ((exp_ok (CXt := CXt) its M X T.tx).2.1 _ ha).l
  obtain ⟨wi, pi, hwi⟩ := src_pi T.tx hi hp
  obtain ⟨pg, go⟩ := tg_pg (pn := pn) T.tx T.pv (fun y _ => T.fn y) tg t htg
  refine psImp (ps_for T.po T.tx.calm pi pg hb (noFold hs _)) ?_
  rintro D σ H ⟨B, F, ev, st, o⟩
  have o : OutS M B F D ((evL C its ev).rs fun ds e' => match ik.ev ds with
    | some items => forLoop pn tg (fun e => evS C pn b e) items e'
    | none => .bad) := o
  refine hwi _ _ _ ?_
  rw [← hr]
  refine evL_ok its st (OutL.mono (OutS.rsL (σ := σ) (Rl := RL M) o) (Gr.refl _ _) fun us H1 z => ?_)
  obtain ⟨ds, e', F0, g, st', rp, o'⟩ := z
  cases hik : ik.ev ds with
  | none => rw [hik] at o'; exact o'.elim
  | some items =>
    rw [hik] at o'
    refine ⟨ds, items, F0, st'.ex, rp, hik, fun J y => ?_⟩
    refine ⟨fun i m σ H => m = items.length - i ∧ i ≤ items.length ∧ ∃ F e, Gr B F0 F ∧ St M.K M.G M.pv B F H e σ ∧ OutS M B F D (forLoop pn tg (fun e => evS C pn b e) (items.drop i) e), ⟨_, rfl, Nat.zero_le _, F0, e', Gr.refl _ _, st', o'⟩, ?_⟩
    rintro i m σ1 H2 ⟨rfl, hi, F, e, gF, s, ol⟩
    by_cases hlt : i < items.length
    · refine .inr ?_
      rw [List.drop_eq_getElem_cons hlt] at ol
      obtain ⟨y1, y2⟩ := (y F H2 gF.ex s.ex).1 i items[i] (List.getElem?_eq_getElem hlt)
      refine ⟨y1, fun σ' H' => ∃ F e, Gr B F0 F ∧ St M.K M.G M.pv B F H' e σ' ∧ OutS M B F D (forLoop pn tg (fun e => evS C pn b e) (items.drop (i + 1)) e), fun σ' H' n => ⟨_, by omega, rfl, hlt, n⟩, fun x H' yl => ?_⟩
      obtain ⟨F2, g2, s2⟩ := s.post (y2 x H' yl)
      unfold forLoop at ol
      cases q : tg.asgn pn items[i] e with
      | none => rw [q] at ol; exact ol.elim
      | some e1 =>
        rw [q] at ol
        refine go s2.st s2.rp q fun σ2 s3 _ _ => ⟨B, F2, e1, s3, ?_⟩
        have ol : OutS M B F D (match evS C pn b e1 with
          | .nx e2 => forLoop pn tg (fun e => evS C pn b e) (items.drop (i + 1)) e2
          | .ct e2 => forLoop pn tg (fun e => evS C pn b e) (items.drop (i + 1)) e2
          | .bk e2 => .nx e2
          | r => r) := ol
        have ol := ol.grow g2
        cases q2 : evS C pn b e1 with
        | nx e2 => rw [q2] at ol; exact fun σ' F' H' g' s' => ⟨F', e2, (gF.trans g2).trans g', s', ol.grow g'⟩
        | ct e2 => rw [q2] at ol; exact fun σ' F' H' g' s' => ⟨F', e2, (gF.trans g2).trans g', s', ol.grow g'⟩
        | bk e2 => rw [q2] at ol; exact ol
        | rt w e2 => rw [q2] at ol; exact ol
        | exn c p e2 => rw [q2] at ol; exact ol
        | bad => rw [q2] at ol; exact ol
    · refine .inl ?_
      have ei : i = items.length := by omega
      subst ei
      rw [List.drop_length] at ol
      exact ⟨(y F H2 gF.ex s.ex).2, ol σ1 F H2 (Gr.refl _ _) s⟩
theorem s_while (T : Sx nm C CXt M X pn) {c : E} {b : S} {e : Expr} {p : List Stmt} {pos : Pos} (hc : isE nm X.N X.env.scope c e = true) (hb : PSs X p (tS M (evS C pn b))) : PS X (.While e p [] pos) (tS M (evS C pn (.while_ c b))) := by
  refine psImp (ps_while T.po ((exp_ok c M X T.tx).1 e hc).pt hb) ?_
  rintro D σ H ⟨B, F0, ev, st, o⟩
  refine ⟨fun m σ H => ∃ F e, Gr B F0 F ∧ St M.K M.G M.pv B F H e σ ∧ OutS M B F D (whileLoop (fun e => evE C c e) (fun e => evS C pn b e) m e), ⟨C.fuel, F0, ev, Gr.refl _ _, st, o⟩, ?_⟩
  rintro m σ1 H1 ⟨F, e, gF, s, ol⟩
  cases m with
  | zero => exact ol.elim
  | succ m =>
    have ol : OutS M B F D ((evE C c e).rs fun w e1 => match w with
      | .val (.bl true) => match evS C pn b e1 with
        | .nx e2 => whileLoop (fun e => evE C c e) (fun e => evS C pn b e) m e2
        | .ct e2 => whileLoop (fun e => evE C c e) (fun e => evS C pn b e) m e2
        | .bk e2 => .nx e2
        | r => r
      | .val (.bl false) => .nx e1
      | _ => .bad) := ol
    refine ⟨B, F, e, s, Out.mono (OutS.rs ol) (Gr.refl _ _) fun v H' z => ?_⟩
    obtain ⟨w, e1, F1, g1, s1, o1⟩ := z
    cases w with
    | val d => cases d with
      | bl k =>
        refine ⟨k, bool_of s1, ?_⟩
        cases k with
        | false => exact o1 σ1 F1 H' (Gr.refl _ _) s1.st
        | true =>
          refine ⟨fun σ' H' => ∃ F e, Gr B F0 F ∧ St M.K M.G M.pv B F H' e σ' ∧ OutS M B F D (whileLoop (fun e => evE C c e) (fun e => evS C pn b e) m e), fun σ' H' n => ⟨m, Nat.lt_succ_self m, n⟩, B, F1, e1, s1.st, ?_⟩
          have o1 : OutS M B F1 D (match evS C pn b e1 with
            | .nx e2 => whileLoop (fun e => evE C c e) (fun e => evS C pn b e) m e2
            | .ct e2 => whileLoop (fun e => evE C c e) (fun e => evS C pn b e) m e2
            | .bk e2 => .nx e2
            | r => r) := o1
          cases q2 : evS C pn b e1 with
          | nx e2 => rw [q2] at o1; exact fun σ' F' H' g' s' => ⟨F', e2, (gF.trans g1).trans g', s', o1.grow g'⟩
          | ct e2 => rw [q2] at o1; exact fun σ' F' H' g' s' => ⟨F', e2, (gF.trans g1).trans g', s', o1.grow g'⟩
          | bk e2 => rw [q2] at o1; exact o1
          | rt w e2 => rw [q2] at o1; exact o1
          | exn c p e2 => rw [q2] at o1; exact o1
          | bad => rw [q2] at o1; exact o1
      | _ => exact o1.elim
    | _ => exact o1.elim
end
end Mn
set_option Elab.async false
set_option linter.all false
set_option maxRecDepth 100000
set_option maxHeartbeats 4000000
/-! Mn, part 25: every statement is sound. -/
namespace Mn
open PySem L2
section
variable {nm : Nat → Str} {C : Cn} {CXt : CXT} {M : Mc} {X : Cx} {pn : List Nat}
theorem s_never {st : Stmt} : PS X st (tS M (evS C pn .never)) := psImp ps_never fun D σ H ⟨B, F, ev, s, o⟩ => o
theorem ss_never {st : List Stmt} : PSs X st (tS M (evS C pn .never)) := pssImp pss_never fun D σ H ⟨B, F, ev, s, o⟩ => o
theorem stm_ok (T : Sx nm C CXt M X pn) : ∀ m : S, (∀ st, isS1 nm X.N X.env.scope m st = true → PS X st (tS M (evS C pn m))) ∧ (∀ sts, isSs nm X.N X.env.scope m sts = true → PSs X sts (tS M (evS C pn m))) := by
  intro m
  induction m with
  | skip =>
    refine ⟨fun st h => by cases st <;> (unfold isS1 at h; cases h), fun sts h => ?_⟩
    cases sts with
    | nil => exact ss_nil
    | cons _ _ => unfold isSs at h; cases h
  | seq a b iha ihb =>
    refine ⟨fun st h => by cases st <;> (unfold isS1 at h; cases h), fun sts h => ?_⟩
    cases sts with
    | nil => unfold isSs at h; cases h
    | cons st r =>
      unfold isSs at h
      rw [Bool.and_eq_true] at h
      exact ss_cons (iha.1 st h.1) (ihb.2 r h.2)
  | never => exact ⟨fun st _ => s_never, fun sts _ => ss_never⟩
  | setE i x =>
    refine ⟨fun st h => ?_, fun sts h => by cases sts <;> (unfold isSs at h; cases h)⟩
    cases st <;> first | (unfold isS1 at h; cases h; done) | skip
    rename_i ts e pos
    cases ts with
    | nil => unfold isS1 at h; cases h
    | cons t r => cases r with
      | cons _ _ => unfold isS1 at h; cases h
      | nil =>
        unfold isS1 at h
        rw [Bool.and_eq_true, Bool.and_eq_true] at h
        exact s_setE T h.1.1 h.1.2 h.2
  | asg tg x =>
    refine ⟨fun st h => ?_, fun sts h => by cases sts <;> (unfold isSs at h; cases h)⟩
    cases st <;> first | (unfold isS1 at h; cases h; done) | skip
    rename_i ts e pos
    cases ts with
    | nil => unfold isS1 at h; cases h
    | cons t r => cases r with
      | cons _ _ => unfold isS1 at h; cases h
      | nil =>
        unfold isS1 at h
        rw [Bool.and_eq_true, Bool.and_eq_true, Bool.and_eq_true, Bool.and_eq_true] at h
        obtain ⟨⟨⟨⟨h0, h1⟩, h2⟩, h3⟩, h4⟩ := h
        exact s_asg T h0 h1 h2 h3 (not_true h4)
  | par is a =>
    refine ⟨fun st h => ?_, fun sts h => by cases sts <;> (unfold isSs at h; cases h)⟩
    obtain ⟨i, j, rfl⟩ : ∃ i j, is = [i, j] := by
      cases is with
      | nil => cases st <;> (unfold isS1 at h; cases h)
      | cons i r => cases r with
        | nil => cases st <;> (unfold isS1 at h; cases h)
        | cons j r => cases r with
          | nil => exact ⟨i, j, rfl⟩
          | cons _ _ => cases st <;> (unfold isS1 at h; cases h)
    cases st <;> first | (unfold isS1 at h; cases h; done) | skip
    rename_i ts e pos
    cases ts with
    | nil => unfold isS1 at h; cases h
    | cons t r =>
      cases t <;> first | (unfold isS1 at h; cases h; done) | skip
      rename_i tt k p1
      cases tt with
      | nil => unfold isS1 at h; cases h
      | cons t1 tt => cases tt with
        | nil => unfold isS1 at h; cases h
        | cons t2 tt => cases tt with
          | cons _ _ => unfold isS1 at h; cases h
          | nil => cases r with
            | cons _ _ => unfold isS1 at h; cases h
            | nil =>
              cases e <;> first | (unfold isS1 at h; cases h; done) | skip
              rename_i es k2 p2
              cases es with
              | nil => unfold isS1 at h; cases h
              | cons e1 es => cases es with
                | nil => unfold isS1 at h; cases h
                | cons e2 es => cases es with
                  | cons _ _ => unfold isS1 at h; cases h
                  | nil =>
                    unfold isS1 at h
                    rw [Bool.and_eq_true, Bool.and_eq_true, Bool.and_eq_true, Bool.and_eq_true, Bool.and_eq_true] at h
                    obtain ⟨⟨⟨⟨⟨h1, h2⟩, h3⟩, h4⟩, h5⟩, h6⟩ := h
                    exact s_par T h1 h2 h3 (of_decide_eq_true h4) (not_true h5) (not_true h6)
  | setIx i k v =>
    refine ⟨fun st h => ?_, fun sts h => by cases sts <;> (unfold isSs at h; cases h)⟩
    cases st <;> first | (unfold isS1 at h; cases h; done) | skip
    rename_i ts e pos
    cases ts with
    | nil => unfold isS1 at h; cases h
    | cons t r => cases r with
      | cons _ _ => cases t <;> (unfold isS1 at h; cases h)
      | nil =>
        cases t <;> first | (unfold isS1 at h; cases h; done) | skip
        unfold isS1 at h
        rw [Bool.and_eq_true, Bool.and_eq_true, Bool.and_eq_true, Bool.and_eq_true] at h
        obtain ⟨⟨⟨⟨h0, h1⟩, h2⟩, h3⟩, h4⟩ := h
        exact s_setIx T h0 h1 (not_true h2) h3 (not_true h4)
  | setRc i f v =>
    refine ⟨fun st h => ?_, fun sts h => by cases sts <;> (unfold isSs at h; cases h)⟩
    cases st <;> first | (unfold isS1 at h; cases h; done) | skip
    rename_i ts e pos
    cases ts with
    | nil => unfold isS1 at h; cases h
    | cons t r =>
      cases t <;> first | (unfold isS1 at h; cases h; done) | skip
      rename_i o ke sp
      cases ke <;> first | (unfold isS1 at h; cases h; done) | skip
      rename_i cc kk kp
      cases cc <;> first | (unfold isS1 at h; cases h; done) | skip
      rename_i s
      cases r with
      | cons _ _ => unfold isS1 at h; cases h
      | nil =>
        unfold isS1 at h
        rw [Bool.and_eq_true, Bool.and_eq_true, Bool.and_eq_true] at h
        obtain ⟨⟨⟨h0, h1⟩, h2⟩, h3⟩ := h
        exact s_setRc T h0 (of_decide_eq_true h1) h2 (not_true h3)
  | expr x =>
    refine ⟨fun st h => ?_, fun sts h => by cases sts <;> (unfold isSs at h; cases h)⟩
    cases st <;> first | (unfold isS1 at h; cases h; done) | skip
    unfold isS1 at h
    rw [Bool.and_eq_true] at h
    exact s_expr T h.1 (not_true h.2)
  | ife c a b iha ihb =>
    refine ⟨fun st h => ?_, fun sts h => by cases sts <;> (unfold isSs at h; cases h)⟩
    cases st <;> first | (unfold isS1 at h; cases h; done) | skip
    unfold isS1 at h
    rw [Bool.and_eq_true, Bool.and_eq_true] at h
    exact s_if T h.1.1 (iha.2 _ h.1.2) (ihb.2 _ h.2)
  | for_ tg ik its b ihb =>
    refine ⟨fun st h => ?_, fun sts h => by cases sts <;> (unfold isSs at h; cases h)⟩
    cases st <;> first | (unfold isS1 at h; cases h; done) | skip
    rename_i t ie p orelse pos
    cases orelse with
    | cons _ _ => unfold isS1 at h; cases h
    | nil =>
      unfold isS1 at h
      rw [Bool.and_eq_true, Bool.and_eq_true] at h
      obtain ⟨⟨h1, h2⟩, h3⟩ := h
      cases q : itB X.env.scope t ik ie with
      | none => rw [q] at h1; cases h1
      | some es =>
        rw [q] at h1
        have h1 : (isA nm X.N X.env.scope its es && !isSetE ie) = true := h1
        rw [Bool.and_eq_true] at h1
        exact s_for T q h1.1 (not_true h1.2) h2 (ihb.2 _ h3)
  | while_ c b ihb =>
    refine ⟨fun st h => ?_, fun sts h => by cases sts <;> (unfold isSs at h; cases h)⟩
    cases st <;> first | (unfold isS1 at h; cases h; done) | skip
    rename_i e p orelse pos
    cases orelse with
    | cons _ _ => unfold isS1 at h; cases h
    | nil =>
      unfold isS1 at h
      rw [Bool.and_eq_true] at h
      exact s_while T h.1 (ihb.2 _ h.2)
  | ret x =>
    refine ⟨fun st h => ?_, fun sts h => by cases sts <;> (unfold isSs at h; cases h)⟩
    cases st <;> first | (unfold isS1 at h; cases h; done) | skip
    rename_i v pos
    cases v with
    | none => unfold isS1 at h; cases h
    | some e =>
      unfold isS1 at h
      exact s_ret T h
  | retN =>
    refine ⟨fun st h => ?_, fun sts h => by cases sts <;> (unfold isSs at h; cases h)⟩
    cases st <;> first | (unfold isS1 at h; cases h; done) | skip
    rename_i v pos
    cases v with
    | none => exact s_retN
    | some e => unfold isS1 at h; cases h
  | brk =>
    refine ⟨fun st h => ?_, fun sts h => by cases sts <;> (unfold isSs at h; cases h)⟩
    cases st <;> first | (unfold isS1 at h; cases h; done) | skip
    exact s_brk
  | cont =>
    refine ⟨fun st h => ?_, fun sts h => by cases sts <;> (unfold isSs at h; cases h)⟩
    cases st <;> first | (unfold isS1 at h; cases h; done) | skip
    exact s_cont
  | «raise» c a => exact ⟨fun st h => by cases st <;> (unfold isS1 at h; cases h), fun sts h => by cases sts <;> (unfold isSs at h; cases h)⟩
end
end Mn
set_option Elab.async false
set_option linter.all false
set_option maxRecDepth 100000
set_option maxHeartbeats 4000000
/-! Mn, part 26: a def keeps its promise; the whole table. -/
namespace Mn
open PySem L2
section
variable {K : PySem.W.Frag} {G : Nat → Option Addr} {B F H : Hp}
/-- the sets of the arguments, one by one -/
theorem WRs.split : ∀ {ws : List W} {vs : List V} {S : AS}, WRs K G F H ws vs S → ∃ fp : Nat → AS, (∀ i w, ws[i]? = some w → ∃ v, vs[i]? = some v ∧ WR K G F H w v (fp i)) ∧ (∀ i, ws[i]? = none → ∀ a, ¬ fp i a) ∧ (∀ i j a, i ≠ j → fp i a → fp j a → False) ∧ ∀ i a, fp i a → S a
  | [], vs, S, h => by
    obtain ⟨rfl, n⟩ := WRs.nil_iff.mp h
    exact ⟨fun _ _ => False, fun i w e => by simp at e, fun _ _ _ z => z, fun _ _ _ _ z => z.elim, fun _ _ z => z.elim⟩
  | w :: ws, vs, S, h => by
    obtain ⟨v, r, S1, S2, rfl, h1, h2, dj, z⟩ := WRs.cons_iff.mp h
    obtain ⟨fp, f1, f2, f3, f4⟩ := WRs.split h2
    refine ⟨fun i => match i with | 0 => S1 | i + 1 => fp i, fun i u e => ?_, fun i e => ?_, fun i j a hij hi hj => ?_, fun i a ha => ?_⟩
    · cases i with
      | zero =>
        cases e
        exact ⟨v, rfl, h1⟩
      | succ i =>
        obtain ⟨x, e1, e2⟩ := f1 i u (by simpa using e)
        exact ⟨x, by simpa using e1, e2⟩
    · cases i with
      | zero => simp at e
      | succ i => exact f2 i (by simpa using e)
    · cases i with
      | zero => cases j with
        | zero => exact hij rfl
        | succ j => exact dj a hi (f4 j a hj)
      | succ i => cases j with
        | zero => exact dj a hj (f4 i a hi)
        | succ j => exact f3 i j a (fun q => hij (by rw [q])) hi hj
    · cases i with
      | zero => exact (z a).mpr (.inl ha)
      | succ i => exact (z a).mpr (.inr (f4 i a ha))
theorem env0_get {ws : List W} {n i : Nat} : Env.get (ws.map some ++ List.replicate n none) i = ws[i]? := by
  unfold Env.get
  by_cases h : i < ws.length
  · rw [List.getElem?_append_left (by simpa using h), List.getElem?_map]
    cases ws[i]? <;> rfl
  · rw [List.getElem?_append_right (by simpa using h), List.getElem?_eq_none (l := ws) (by omega), List.getElem?_replicate]
    split <;> rfl
theorem start_get {N : List Str} {vs : List V} {i : Nat} {v : V} (h : vs[i]? = some v) : (L2.start N vs)[i]? = some (some v) := by
  unfold L2.start
  have hl := (List.getElem?_eq_some_iff.mp h).1
  rw [List.getElem?_append_left (by simpa using hl), List.getElem?_map, h]
  rfl
/-- the entry -/
theorem entry_ok {ws : List W} {vs : List V} {S : AS} {N : List Str} {n : Nat} {io : List Nat} (h : WRs K G F H ws vs S) (ow : Own B F H S) (xB : Ex B H) (xF : Ex F H) (hn : N.length = vs.length + n) (hio : ∀ i ∈ io, i < vs.length) :
    St K G (io.filterMap fun i => vs[i]?.map fun v => (i, v)) B F H (ws.map some ++ List.replicate n none) (L2.start N vs) := by
  obtain ⟨fp, f1, f2, f3, f4⟩ := h.split
  have hl := h.length
  refine ⟨fp, ?_, fun i w e => ?_, fun i e => ?_, f3, fun i a ha => ow a (f4 i a ha), xB, xF, fun p hp => ?_⟩
  · unfold L2.start
    rw [List.length_append, List.length_map, List.length_replicate, List.length_append, List.length_map, List.length_replicate]
    omega
  · rw [env0_get] at e
    obtain ⟨v, e1, r⟩ := f1 i w e
    exact ⟨v, start_get e1, r⟩
  · rw [env0_get] at e
    exact f2 i e
  · obtain ⟨i, hi, q⟩ := List.mem_filterMap.mp hp
    cases q2 : vs[i]? with
    | none => rw [q2] at q; cases q
    | some v =>
      rw [q2] at q
      cases q
      exact start_get q2
/-- what is handed back -/
theorem outs_ok {pv : List (Nat × V)} {fp : Nat → AS} {e : Env} {σ : List (Option V)} {vs : List V} (s : StF K G pv fp B F H e σ) : ∀ {io : List Nat} {os : List W}, io.Nodup → (∀ i ∈ io, ∃ v, vs[i]? = some v ∧ σ[i]? = some (some v)) → outs? e io = some os →
    WRs K G F H os (ioV io vs) (fun a => ∃ i ∈ io, fp i a)
  | [], os, _, _, h => by
    cases h
    exact WRs.nil_iff.mpr ⟨rfl, fun a ⟨i, hi, _⟩ => nomatch hi⟩
  | i :: io, os, nd, hv, h => by
    obtain ⟨n1, n2⟩ := List.nodup_cons.mp nd
    unfold outs? at h
    cases q0 : e.get i with
    | none => simp [q0] at h
    | some w =>
      cases q : outs? e io with
      | none => simp [q0, q] at h
      | some us =>
        simp [q0, q] at h
        subst h
        obtain ⟨v, hv1, hv2⟩ := hv i List.mem_cons_self
        obtain ⟨v', hv', r⟩ := s.slot i w q0
        rw [hv2] at hv'
        cases hv'
        have ih := outs_ok s n2 (fun j hj => hv j (List.mem_cons_of_mem _ hj)) q
        have e1 : ioV (i :: io) vs = v :: ioV io vs := by
          unfold ioV
          rw [List.filterMap_cons_some hv1]
        rw [e1]
        refine WRs.cons_iff.mpr ⟨v, _, fp i, _, rfl, r, ih, fun a h1 ⟨j, hj, ha⟩ => s.sep i j a (fun z => n1 (by rw [z]; exact hj)) h1 ha, fun a => ⟨fun ⟨j, hj, ha⟩ => ?_, fun z => ?_⟩⟩
        · rcases List.mem_cons.mp hj with rfl | hj
          · exact .inl ha
          · exact .inr ⟨j, hj, ha⟩
        · rcases z with z | ⟨j, hj, ha⟩
          · exact ⟨i, List.mem_cons_self, z⟩
          · exact ⟨j, List.mem_cons_of_mem _ hj, ha⟩
end
/-- a body that runs as the evaluator says keeps the promise -/
theorem body_keeps {K : PySem.W.Frag} {G : Nat → Option Addr} {XR : XRT} {C : Cn} {fd : Fd} {N : List Str} {vs : List V} {H : Hp} {Q : VK} {E : XK} (hN : N.length = fd.n) (hio : ∀ i ∈ fd.io, i < fd.np) (nd : fd.io.Nodup) (hnp : fd.np ≤ fd.n)
    (h : spOf K G XR fd.np fd.io (runFd C fd) vs H Q E) : tS ⟨K, G, XR, fd.io.filterMap fun i => vs[i]?.map fun v => (i, v), E⟩ (evS C fd.io fd.body) { nx := fun _ H' => Q .non H', rt := Q } (L2.start N vs) H := by
  obtain ⟨hl, B, F, ws, S, r, ow, xB, xF, h⟩ := h
  have hwl := r.length
  have h1 : ws.length = fd.np ∧ argOk fd.io 0 ws = true := by
    by_cases q : ws.length = fd.np ∧ argOk fd.io 0 ws = true
    · exact q
    · have : runFd C fd ws = .bad := by unfold runFd; rw [if_neg q]
      rw [this] at h
      exact h.elim
  have e0 := entry_ok (N := N) (n := fd.n - fd.np) (io := fd.io) r ow xB xF (by omega) (fun i hi => by rw [hl]; exact hio i hi)
  refine ⟨B, F, _, e0, ?_⟩
  have hr : runFd C fd ws = (match evS C fd.io fd.body (ws.map some ++ List.replicate (fd.n - fd.np) none) with
    | .rt w e => match outs? e fd.io with
      | some os => .ok w os
      | none => .bad
    | .nx e => match outs? e fd.io with
      | some os => .ok (.val .non) os
      | none => .bad
    | .exn c p e => match outs? e fd.io with
      | some os => .exn c p os
      | none => .bad
    | _ => .bad) := by
    unfold runFd
    rw [if_pos h1]
    try rfl
  rw [hr] at h
  have pins : ∀ {fp : Nat → AS} {F' H' : Hp} {e : Env} {σ : List (Option V)}, StF K G (fd.io.filterMap fun i => vs[i]?.map fun v => (i, v)) fp B F' H' e σ → ∀ i ∈ fd.io, ∃ v, vs[i]? = some v ∧ σ[i]? = some (some v) := fun {fp F' H' e σ} s i hi => by
    have hlt : i < vs.length := by rw [hl]; exact hio i hi
    refine ⟨vs[i], List.getElem?_eq_getElem hlt, s.pin (i, vs[i]) (List.mem_filterMap.mpr ⟨i, hi, by rw [List.getElem?_eq_getElem hlt]; rfl⟩)⟩
  cases q : evS C fd.io fd.body (ws.map some ++ List.replicate (fd.n - fd.np) none) with
  | bad => rw [q] at h; exact h.elim
  | bk e => rw [q] at h; exact h.elim
  | ct e => rw [q] at h; exact h.elim
  | rt w e =>
    rw [q] at h
    rintro v σ F' H' g ⟨fp, Sv, s, rv, ov, d⟩
    cases q2 : outs? e fd.io with
    | none => simp only [q2] at h
    | some os =>
      simp only [q2] at h
      refine h v H' F' _ Sv g s.exB s.exF (outs_ok s nd (pins s) q2) rv ?_ ?_ ov
      · rintro a ⟨i, _, ha⟩ hs
        exact d i a ha hs
      · rintro a ⟨i, _, ha⟩
        exact s.own i a ha
  | nx e =>
    rw [q] at h
    rintro σ F' H' g ⟨fp, s⟩
    cases q2 : outs? e fd.io with
    | none => simp only [q2] at h
    | some os =>
      simp only [q2] at h
      refine h .non H' F' _ (fun _ => False) g s.exB s.exF (outs_ok s nd (pins s) q2) (WR.of (by unfold Rp; rfl)) ?_ ?_ (fun _ z => z.elim)
      · exact fun _ _ z => z
      · rintro a ⟨i, _, ha⟩
        exact s.own i a ha
  | exn c p e =>
    rw [q] at h
    rintro cls d σ F' H' g ⟨fp, s⟩ x
    cases q2 : outs? e fd.io with
    | none => simp only [q2] at h
    | some os =>
      simp only [q2] at h
      refine h cls d H' F' _ g s.exB s.exF (outs_ok s nd (pins s) q2) ?_ x
      rintro a ⟨i, _, ha⟩
      exact s.own i a ha

/-! ### the table -/
/-- a def of the text is the table's -/
structure DefOk (nm : Nat → Str) (K : PySem.W.Frag) (mg : Str → Option Value) (T : Nat → Option Fd) (f : Nat) : Prop where
  ex : ∃ (x : Str) (args : Arguments) (body : List Stmt) (scope : Scope) (fa : Addr) (fd : FuncData) (N ps : List Str) (d : Fd), T f = some d ∧ FunD K x x args body scope [] [] fa fd ∧ mg (nm f) = some (.ref fa) ∧ FnScope N ps scope ∧ ps.length = d.np ∧ N.length = d.n ∧ d.np ≤ d.n ∧ d.io.Nodup ∧ (∀ i ∈ d.io, i < d.np) ∧
    isSs nm N scope d.body body = true ∧ Binds K fd ps []
section
variable {nm : Nat → Str} {P : Program} {w : World} {K : PySem.W.Frag} {mg : Str → Option Value} {base : Heap} {CXt : CXT} {G : Nat → Option Addr} {XR : XRT} {T : Nat → Option Fd} {Γ : Nat → Option D} {fuel : Nat}
theorem run_ar {k f : Nat} {d : Fd} (h : T f = some d) : ∀ ws, run T Γ fuel k f ws ≠ .bad → ws.length = d.np := by
  intro ws n
  cases k with
  | zero => exact (n rfl).elim
  | succ k =>
    have e : run T Γ fuel (k + 1) f ws = runFd ⟨run T Γ fuel k, ioT T, Γ, fuel⟩ d ws := by
      show (match T f with | some fd => runFd ⟨run T Γ fuel k, ioT T, Γ, fuel⟩ fd ws | none => .bad) = _
      rw [h]
    rw [e] at n
    unfold runFd at n
    by_cases q : ws.length = d.np ∧ argOk d.io 0 ws = true
    · exact q.1
    · rw [if_neg q] at n
      exact (n rfl).elim
theorem fns_ok (hb : ∀ x : Str, x ∈ bltNames → mg x = none) (hg : ∀ g d, Γ g = some d → ∃ v u, mg (nm g) = some u ∧ RelV v u ∧ ∀ F, Rp K G F d v) (hd : ∀ f, fnB nm f = true → DefOk nm K mg T f)
    (hpass : ∀ (X : Cx) (N : List Str) (qual : Str) (scope : Scope) (f : Addr) (cd : Value) (A : Around) (outer : List PySem.Env) (s : Shared) (H : Hp) (E : XK), X = cxOf CXt P w K mg base N qual scope f cd A outer s H E → Passes CXt X E) (hno : ∀ outer H s e s', ¬ CXt outer H s (fun _ _ _ => False) e s') :
    ∀ k f, fnB nm f = true → ∃ np a fd ps, (∀ ws, run T Γ fuel k f ws ≠ .bad → ws.length = np) ∧ FnOk P w K mg base CXt k a fd ps (spOf K G XR np (ioT T f) (run T Γ fuel k f)) ∧ mg (nm f) = some (.ref a) ∧ PySem.W.keepIn K (.ref a) = true ∧ Binds K fd ps [] := by
  intro k
  induction k with
  | zero =>
    intro f hf
    obtain ⟨x, args, body, scope, fa, fd, N, ps, d, h1, h2, h3, h4, h5, h6, h7, h8, h9, h10, h11⟩ := (hd f hf).ex
    refine ⟨d.np, fa, fd, ps, run_ar h1, ⟨fun vs H Q E h => ?_, fun A outer s H args us vs Q E _ _ _ _ h => ?_⟩, h3, h2.kp, h11⟩
    · rw [h.1, h5]
    · obtain ⟨_, B, F, ws, S, _, _, _, _, z⟩ := h
      exact z.elim
  | succ k ih =>
    intro f hf
    obtain ⟨x, args, body, scope, fa, fd, N, ps, d, h1, h2, h3, h4, h5, h6, h7, h8, h9, h10, h11⟩ := (hd f hf).ex
    have eio : ioT T f = d.io := by unfold ioT; rw [h1]
    have er : run T Γ fuel (k + 1) f = runFd ⟨run T Γ fuel k, ioT T, Γ, fuel⟩ d := by
      funext ws
      show (match T f with | some fd => runFd ⟨run T Γ fuel k, ioT T, Γ, fuel⟩ fd ws | none => .bad) = _
      rw [h1]
    refine ⟨d.np, fa, fd, ps, run_ar h1, ?_, h3, h2.kp, h11⟩
    rw [eio, er]
    refine h2.ok h4 (fun vs H Q E h => by rw [h.1, h5]) fun cdv A outer s H vs Q E hr h => ?_
    refine ⟨tS ⟨K, G, XR, d.io.filterMap fun i => vs[i]?.map fun v => (i, v), E⟩ (evS ⟨run T Γ fuel k, ioT T, Γ, fuel⟩ d.io d.body), ?_, body_keeps h6 h9 h8 h7 h⟩
    refine (stm_ok (CXt := CXt) ?_ d.body).2 body h10
    refine ⟨⟨rfl, h4.nd, rfl, hr.units, hb, hg, fun f' hf' => ?_, hpass _ N x scope fa cdv A outer s H E rfl, hno⟩, fun _ => rfl, ?_, passes_of rfl, ?_⟩
    · obtain ⟨np, a, fd', ps', g1, g2, g3, g4, g5⟩ := ih f' hf'
      exact ⟨np, k, a, fd', ps', g1, g2, hr, g3, g4, g5⟩
    · show (PyProof.Rows.envOfC x scope s.heap.objs.size fa cdv).blockKind = .function
      unfold Env.blockKind
      have e : (PyProof.Rows.envOfC x scope s.heap.objs.size fa cdv).scope.kind = .function := h4.kind
      rw [e]
      rfl
    · intro p hp
      obtain ⟨i, hi, q⟩ := List.mem_filterMap.mp hp
      cases q2 : vs[i]? with
      | none => rw [q2] at q; cases q
      | some v =>
        rw [q2] at q
        cases q
        exact hi
end
end Mn
set_option Elab.async false
set_option linter.all false
set_option maxRecDepth 100000
set_option maxHeartbeats 0
/-! Mn, part 27: the head: facts, tuples of the module. -/
namespace Mn
open PySem L2
abbrev Tup : Type := Str × List He.Dv
def obsX (fa : List He.Fa) (fn : List He.DefD) (tb : List Tup) (K : PySem.W.Frag) : He.AlD := (((fa.all fun f => f.ok K) && fn.all fun d => d.ok K) && tb.all fun t => He.tupB K t.1 t.2, fn.map fun d => He.fnW K d.at_)
def SaysX (fa : List He.Fa) (fn : List He.DefD) (tb : List Tup) (K : PySem.W.Frag) : Prop := obsX fa fn tb K = He.valD fn
def obsXG (n : Nat) (fa : List He.Fa) (fn : List He.DefD) (tb : List Tup) (g : Addr → Option Obj) : He.AlD := obsX fa fn tb (He.frG g (He.asD g n))
def hookX (n : Nat) (fa : List He.Fa) (fn : List He.DefD) (tb : List Tup) : PySem.W.Hook where
  α := He.AlD
  obs := fun s => obsXG n fa fn tb s.heap.get?
  val := fun _ => He.valD fn
  says := fun _ h => ∃ K : PySem.W.Frag, K.In h ∧ SaysX fa fn tb K
  of := fun _ _ e => ⟨_, He.frG_in, e⟩
  keeps := fun _ _ _ ⟨K, hK, c⟩ k => ⟨K, PySem.W.Frag.In.keeps hK k, c⟩
theorem obsXG_eq {n : Nat} {fa : List He.Fa} {fn : List He.DefD} {tb : List Tup} {g : Addr → Option Obj} {s : Shared} (h : ∀ a, g a = s.heap.get? a) : obsXG n fa fn tb g = (hookX n fa fn tb).obs s := by
  have e : g = s.heap.get? := funext h
  rw [e] <;> rfl
section
variable {fa : List He.Fa} {fn : List He.DefD} {tb : List Tup} {K : PySem.W.Frag}
theorem SaysX.all (c : SaysX fa fn tb K) : ((fa.all fun f => f.ok K) = true ∧ (fn.all fun d => d.ok K) = true) ∧ (tb.all fun t => He.tupB K t.1 t.2) = true := by
  have c1 := show (((fa.all fun f => f.ok K) && fn.all fun d => d.ok K) && tb.all fun t => He.tupB K t.1 t.2) = true from congrArg (fun z : He.AlD => z.1) c
  rw [Bool.and_eq_true, Bool.and_eq_true] at c1
  exact c1
theorem SaysX.fact (c : SaysX fa fn tb K) (i : Nat) {f : He.Fa} (h : fa[i]? = some f) : f.ok K = true := List.all_eq_true.mp c.all.1.1 f (List.mem_of_getElem? h)
theorem SaysX.tup (c : SaysX fa fn tb K) (i : Nat) {t : Tup} (h : tb[i]? = some t) : He.tupB K t.1 t.2 = true := List.all_eq_true.mp c.all.2 t (List.mem_of_getElem? h)
theorem SaysX.def_ (c : SaysX fa fn tb K) (i : Nat) {d : He.DefD} (h : fn[i]? = some d) : ∃ fd, FunD K d.name d.qual d.params d.body d.scope (d.dvs K) (d.kws K) (He.fAd K d.at_) fd := by
  have e : fn.map (fun d => He.fnW K d.at_) = fn.map He.DefD.val := congrArg (fun z : He.AlD => z.2) c
  have e2 : (fn.map fun d => He.fnW K d.at_)[i]? = (fn.map He.DefD.val)[i]? := by rw [e]
  rw [List.getElem?_map, List.getElem?_map, h] at e2
  exact He.DefD.funD (Option.some.inj e2) (List.all_eq_true.mp c.all.1.2 d (List.mem_of_getElem? h))
end
theorem Rps.strs_dv {K : PySem.W.Frag} {G : Nat → Option Addr} {F : Hp} : ∀ ss : List Str, Rps K G F (ss.map D.str) ((ss.map He.Dv.str).map (He.Dv.v K))
  | [] => Rps.nil
  | s :: ss => Rps.cons (by unfold Rp; rfl) (Rps.strs_dv ss)
/-- the law's end: what the table's run says of the script -/
theorem law_end {P : Program} {w : World} {K : PySem.W.Frag} {mg : Str → Option Value} {T : Nat → Option Fd} {Γ : Nat → Option D} {nm : Nat → Str} {fuel k f : Nat} {fa : Addr} {x : Str} {n : Nat} {h : Heap}
    (hb : ∀ x : Str, x ∈ bltNames → mg x = none) (hg : ∀ g d, Γ g = some d → ∃ v u, mg (nm g) = some u ∧ RelV v u ∧ ∀ F, Rp K (fun _ => none) F d v) (hd : ∀ f, fnB nm f = true → DefOk nm K mg T f) (hf : fnB nm f = true) (hmg : mg (nm f) = some (.ref fa)) (hps : ∀ fd : FuncData, ∀ ps : List Str, Binds K fd ps [] → True)
    (hx : ∃ args body scope fd N d, T f = some d ∧ d.np = 1 ∧ d.io = [] ∧ FunD K (nm f) (nm f) args body scope [] [] fa fd ∧ FnScope N [x] scope ∧ N.length = d.n ∧ 1 ≤ d.n ∧ isSs nm N scope d.body body = true ∧ ∀ (s : Shared) (u : Value), BindsTo s fd ⟨[u], []⟩ [(x, u)])
    (hr : ∀ ns : List Int, ns.length ≤ n → run T Γ fuel (k + 1) f [.val (.scr (ns.map D.int))] = .ok (.val (.bl true)) []) :
    ∃ (fd : FuncData) (sp : Sp), (∀ (s : Shared) (u : Value), BindsTo s fd ⟨[u], []⟩ [(x, u)]) ∧
        (∀ (H : Hp) (a : Addr) (ns : List Int), ns.length ≤ n → Only H → SqL K H a (ns.map V.int) → sp [.ref a] H (fun v _ => v = .bl true) fun _ _ _ => False) ∧
        ∀ base : Heap, K.In base → base.Ns mainGlobals mg → FnOk P w K mg base CX0 (k + 1) fa fd [x] sp := by
  obtain ⟨args, body, scope, fd, N, d, h1, h2, h3, h4, h5, h6, h7, h8, h9⟩ := hx
  refine ⟨fd, spOf K (fun _ => none) (fun _ _ _ _ _ _ => False) 1 [] (run T Γ fuel (k + 1) f), h9, ?_, ?_⟩
  · intro H a ns hl ho hs
    refine ⟨rfl, H, H, [.val (.scr (ns.map D.int))], fun _ => False, ?_, fun _ z => z.elim, Ex.refl _, Ex.refl _, ?_⟩
    · refine WRs.cons_iff.mpr ⟨.ref a, [], fun _ => False, fun _ => False, rfl, WR.of ?_, WRs.nil_iff.mpr ⟨rfl, fun _ z => z⟩, fun _ z => z.elim, fun _ => ⟨.inl, fun z => z.elim id id⟩⟩
      unfold Rp
      exact ⟨a, ns.map V.int, rfl, hs, Rps.of_ints ns⟩
    · rw [hr ns hl]
      intro v H' F' S' Sv _ _ _ _ rv _ _ _
      have := (WR.val_iff.mp rv).2
      unfold Rp at this
      exact this
  · intro base _ _
    have all := fns_ok (P := P) (w := w) (base := base) (CXt := CX0) (G := fun _ => none) (XR := fun _ _ _ _ _ _ => False) (fuel := fuel) hb hg hd (fun X N qual scope f cd A outer s H E e pins σ H s e s' I z => z.elim) (fun _ _ _ _ _ z => z) k
    have er : run T Γ fuel (k + 1) f = runFd ⟨run T Γ fuel k, ioT T, Γ, fuel⟩ d := by
      funext ws
      show (match T f with | some fd => runFd ⟨run T Γ fuel k, ioT T, Γ, fuel⟩ fd ws | none => .bad) = _
      rw [h1]
    rw [er]
    have e1 : spOf K (fun _ => none) (fun _ _ _ _ _ _ => False) 1 [] (runFd ⟨run T Γ fuel k, ioT T, Γ, fuel⟩ d) = spOf K (fun _ => none) (fun _ _ _ _ _ _ => False) d.np d.io (runFd ⟨run T Γ fuel k, ioT T, Γ, fuel⟩ d) := by rw [h2, h3]
    rw [e1]
    refine h4.ok h5 (fun vs H Q E z => by rw [z.1, h2]; rfl) fun cdv A outer s H vs Q E hroom z => ?_
    refine ⟨tS ⟨K, fun _ => none, fun _ _ _ _ _ _ => False, d.io.filterMap fun i => vs[i]?.map fun v => (i, v), E⟩ (evS ⟨run T Γ fuel k, ioT T, Γ, fuel⟩ d.io d.body), ?_, body_keeps h6 (by rw [h3]; exact fun _ z => nomatch z) (by rw [h3]; exact List.nodup_nil) (by rw [h2]; exact h7) z⟩
    refine (stm_ok (CXt := CX0) ?_ d.body).2 body h8
    refine ⟨⟨rfl, h5.nd, rfl, hroom.units, hb, hg, fun f' hf' => ?_, fun pins σ H s e s' I z => z.elim, fun _ _ _ _ _ z => z⟩, fun _ => rfl, ?_, passes_of rfl, ?_⟩
    · obtain ⟨np, a, fd', ps', g1, g2, g3, g4, g5⟩ := all f' hf'
      exact ⟨np, k, a, fd', ps', g1, g2, hroom, g3, g4, g5⟩
    · show (PyProof.Rows.envOfC (nm f) scope s.heap.objs.size fa cdv).blockKind = .function
      unfold Env.blockKind
      have e : (PyProof.Rows.envOfC (nm f) scope s.heap.objs.size fa cdv).scope.kind = .function := h5.kind
      rw [e]
      rfl
    · intro p hp
      rw [h3] at hp
      cases hp
end Mn
set_option Elab.async false
set_option linter.all false
set_option maxRecDepth 100000
set_option maxHeartbeats 4000000
/-! Mn, plain: rules by which the evaluator is run by hand (simp). -/
namespace Mn
open PySem L2
section
variable {C : Cn} {e : Env} {α β : Type} {pn : List Nat}
/-! what comes next is told by names of its own, not by functions: simp then looks at one thing at a time -/
def gR {β : Type} (p : Prop) [Decidable p] (x : R β) : R β := if p then x else .bad
def gS (p : Prop) [Decidable p] (x : RS) : RS := if p then x else .bad
@[simp] theorem gR_of {p : Prop} [Decidable p] {x : R β} (h : p) : gR p x = x := if_pos h
@[simp] theorem gS_of {p : Prop} [Decidable p] {x : RS} (h : p) : gS p x = x := if_pos h
@[simp] theorem get_cons0 {o : Option W} {r : List (Option W)} : Env.get (o :: r) 0 = o := by unfold Env.get; rfl
@[simp] theorem get_consS {o : Option W} {r : List (Option W)} {i : Nat} : Env.get (o :: r) (i + 1) = Env.get r i := by unfold Env.get; rfl
@[simp] theorem frz_val {d : D} : (W.val d).frz = some d := rfl
@[simp] theorem frz_lst {d : List D} : (W.lst d).frz = some (.lst d) := rfl
@[simp] theorem frz_dic {k d : List D} : (W.dic k d).frz = some (.dic k d) := rfl
@[simp] theorem R.bind_ok {a : α} {k : α → Env → R β} : (R.ok a e).bind k = k a e := rfl
@[simp] theorem R.rs_ok {a : α} {k : α → Env → RS} : (R.ok a e).rs k = k a e := rfl
/-! expressions -/
def kVar (i : Nat) (e : Env) (o : Option W) : R W := match o with
  | some w => match w.frz with
    | some d => .ok (.val d) (e.set i (some (.val d)))
    | none => .bad
  | none => .bad
@[simp] theorem kVar_val {i : Nat} {d : D} : kVar i e (some (.val d)) = .ok (.val d) (e.set i (some (.val d))) := rfl
@[simp] theorem kVar_lst {i : Nat} {d : List D} : kVar i e (some (.lst d)) = .ok (.val (.lst d)) (e.set i (some (.val (.lst d)))) := rfl
@[simp] theorem kVar_dic {i : Nat} {k d : List D} : kVar i e (some (.dic k d)) = .ok (.val (.dic k d)) (e.set i (some (.val (.dic k d)))) := rfl
@[simp] theorem ev_var {i : Nat} : evE C (.var i) e = kVar i e (e.get i) := rfl
def kMv (i : Nat) (e : Env) (o : Option W) : R W := match o with
  | some w => .ok w (e.set i none)
  | none => .bad
@[simp] theorem kMv_some {i : Nat} {w : W} : kMv i e (some w) = .ok w (e.set i none) := rfl
@[simp] theorem ev_mv {i : Nat} : evE C (.mv i) e = kMv i e (e.get i) := rfl
def kVal (e : Env) (o : Option W) : R W := match o with
  | some (.val d) => .ok (.val d) e
  | _ => .bad
@[simp] theorem kVal_val {d : D} : kVal e (some (.val d)) = .ok (.val d) e := rfl
@[simp] theorem ev_pth {i : Nat} {f : Str} : evE C (.pth i f) e = kVal e (e.at i (some f)) := rfl
@[simp] theorem ev_cst {d : D} : evE C (.cst d) e = .ok (.val d) e := rfl
def kGlb (e : Env) (o : Option D) : R W := match o with
  | some d => .ok (.val d) e
  | none => .bad
@[simp] theorem kGlb_some {d : D} : kGlb e (some d) = .ok (.val d) e := rfl
@[simp] theorem ev_glb {g : Nat} : evE C (.glb g) e = kGlb e (C.Γ g) := rfl
def kP3 (e : Env) (o : Option W) : R W := match o with
  | some w => .ok w e
  | none => .bad
def kP2 (p : P) (e : Env) (o : Option (List D)) : R W := match o with
  | some ds => kP3 e (p.ev ds)
  | none => .bad
def kP1 (p : P) (r : R (List Opd)) : R W := r.bind fun os e' => kP2 p e' (resolve e' os)
@[simp] theorem kP3_some {w : W} : kP3 e (some w) = .ok w e := rfl
@[simp] theorem kP2_some {p : P} {ds : List D} : kP2 p e (some ds) = kP3 e (p.ev ds) := rfl
@[simp] theorem kP1_ok {p : P} {os : List Opd} : kP1 p (.ok os e) = kP2 p e (resolve e os) := rfl
@[simp] theorem ev_prim {p : P} {a : E} : evE C (.prim p a) e = kP1 p (evA C a e) := rfl
def kTup (r : R (List D)) : R W := r.bind fun ds e' => gR (szOk ds.length = true) (.ok (.val (.tup ds)) e')
def kLst (r : R (List D)) : R W := r.bind fun ds e' => gR (szOk ds.length = true) (.ok (.lst ds) e')
def kDic (ks : List D) (r : R (List D)) : R W := r.bind fun ds e' => gR (ks.length = ds.length ∧ dkOk ks = true) (.ok (.dic ks ds) e')
def kRc (ks : List Str) (r : R (List W)) : R W := r.bind fun ws e' => gR (ks.length = ws.length ∧ dkOk (ks.map D.str) = true) (.ok (.rc ks ws) e')
@[simp] theorem kTup_ok {ds : List D} : kTup (.ok ds e) = gR (szOk ds.length = true) (.ok (.val (.tup ds)) e) := rfl
@[simp] theorem kLst_ok {ds : List D} : kLst (.ok ds e) = gR (szOk ds.length = true) (.ok (.lst ds) e) := rfl
@[simp] theorem kDic_ok {ks ds : List D} : kDic ks (.ok ds e) = gR (ks.length = ds.length ∧ dkOk ks = true) (.ok (.dic ks ds) e) := rfl
@[simp] theorem kRc_ok {ks : List Str} {ws : List W} : kRc ks (.ok ws e) = gR (ks.length = ws.length ∧ dkOk (ks.map D.str) = true) (.ok (.rc ks ws) e) := rfl
@[simp] theorem ev_tupd {a : E} : evE C (.tupd a) e = kTup (evL C a e) := rfl
@[simp] theorem ev_lstd {a : E} : evE C (.lstd a) e = kLst (evL C a e) := rfl
@[simp] theorem ev_dicd {ks : List D} {a : E} : evE C (.dicd ks a) e = kDic ks (evL C a e) := rfl
@[simp] theorem ev_rcd {ks : List Str} {a : E} : evE C (.rcd ks a) e = kRc ks (evW C a e) := rfl
def kIf (C : Cn) (a b : E) (r : R W) : R W := r.bind fun w e' => match w with
  | .val (.bl true) => evE C a e'
  | .val (.bl false) => evE C b e'
  | _ => .bad
def kAnd (C : Cn) (b : E) (r : R W) : R W := r.bind fun w e' => match w with
  | .val (.bl true) => evE C b e'
  | .val (.bl false) => .ok (.val (.bl false)) e'
  | _ => .bad
def kOr (C : Cn) (b : E) (r : R W) : R W := r.bind fun w e' => match w with
  | .val (.bl true) => .ok (.val (.bl true)) e'
  | .val (.bl false) => evE C b e'
  | _ => .bad
def kNt (r : R W) : R W := r.bind fun w e' => match w with
  | .val (.bl k) => .ok (.val (.bl !k)) e'
  | _ => .bad
def kFrz (r : R W) : R W := r.bind fun w e' => match w.frz with
  | some d => .ok (.val d) e'
  | none => .bad
@[simp] theorem kIf_t {a b : E} : kIf C a b (.ok (.val (.bl true)) e) = evE C a e := rfl
@[simp] theorem kIf_f {a b : E} : kIf C a b (.ok (.val (.bl false)) e) = evE C b e := rfl
@[simp] theorem kAnd_t {b : E} : kAnd C b (.ok (.val (.bl true)) e) = evE C b e := rfl
@[simp] theorem kAnd_f {b : E} : kAnd C b (.ok (.val (.bl false)) e) = .ok (.val (.bl false)) e := rfl
@[simp] theorem kOr_t {b : E} : kOr C b (.ok (.val (.bl true)) e) = .ok (.val (.bl true)) e := rfl
@[simp] theorem kOr_f {b : E} : kOr C b (.ok (.val (.bl false)) e) = evE C b e := rfl
@[simp] theorem kNt_ok {k : Bool} : kNt (.ok (.val (.bl k)) e) = .ok (.val (.bl !k)) e := rfl
@[simp] theorem kFrz_val {d : D} : kFrz (.ok (.val d) e) = .ok (.val d) e := rfl
@[simp] theorem kFrz_lst {d : List D} : kFrz (.ok (.lst d) e) = .ok (.val (.lst d)) e := rfl
@[simp] theorem kFrz_dic {k d : List D} : kFrz (.ok (.dic k d) e) = .ok (.val (.dic k d)) e := rfl
@[simp] theorem ev_and2 {a b : E} : evE C (.and2 a b) e = kAnd C b (evE C a e) := rfl
@[simp] theorem ev_or2 {a b : E} : evE C (.or2 a b) e = kOr C b (evE C a e) := rfl
@[simp] theorem ev_one {a : E} : evE C (.one a) e = evE C a e := rfl
@[simp] theorem ev_frz {a : E} : evE C (.frz a) e = kFrz (evE C a e) := rfl
@[simp] theorem ev_nt {a : E} : evE C (.nt a) e = kNt (evE C a e) := rfl
@[simp] theorem ev_ife {c a b : E} : evE C (.ife c a b) e = kIf C a b (evE C c e) := rfl
def kC3 (y : D) (o2 : P) (r : R W) : R W := r.bind fun w e2 => match w.frz with
  | some z => match o2.ev [y, z] with
    | some w => .ok w e2
    | none => .bad
  | none => .bad
def kC2 (C : Cn) (y : D) (o2 : P) (c : E) (e : Env) (o : Option W) : R W := match o with
  | some (.val (.bl true)) => kC3 y o2 (evE C c e)
  | some (.val (.bl false)) => .ok (.val (.bl false)) e
  | _ => .bad
def kC1 (C : Cn) (o1 o2 : P) (c : E) (r : R (List D)) : R W := r.bind fun ds e' => match ds with
    | [x, y] => kC2 C y o2 c e' (o1.ev [x, y])
    | _ => .bad
@[simp] theorem kC3_val {y z : D} {o2 : P} : kC3 y o2 (.ok (.val z) e) = kP3 e (o2.ev [y, z]) := rfl
@[simp] theorem kC2_t {y : D} {o2 : P} {c : E} : kC2 C y o2 c e (some (.val (.bl true))) = kC3 y o2 (evE C c e) := rfl
@[simp] theorem kC2_f {y : D} {o2 : P} {c : E} : kC2 C y o2 c e (some (.val (.bl false))) = .ok (.val (.bl false)) e := rfl
@[simp] theorem kC1_ok {x y : D} {o1 o2 : P} {c : E} : kC1 C o1 o2 c (.ok [x, y] e) = kC2 C y o2 c e (o1.ev [x, y]) := rfl
@[simp] theorem ev_chain {o1 o2 : P} {ab c : E} : evE C (.chain o1 o2 ab c) e = kC1 C o1 o2 c (evL C ab e) := rfl
def kCo (is : List Nat) (e : Env) (o : FR) : R W := match o with
  | .ok w outs => match putOuts e is outs with
    | some e2 => .ok w e2
    | none => .bad
  | .exn c p outs => match putOuts e is outs with
    | some e2 => .exn c p e2
    | none => .bad
  | .bad => .bad
def kPo (w : W) (o : Option Env) : R W := match o with
  | some e => .ok w e
  | none => .bad
def kPx (c : Nat) (p : List D) (o : Option Env) : R W := match o with
  | some e => .exn c p e
  | none => .bad
def kCa (φ : List W → FR) (is : List Nat) (e : Env) (o : Option (List W)) : R W := match o with
  | some ws => kCo is e (φ ws)
  | none => .bad
def kCl (φ : List W → FR) (io : List Nat) (r : R (List (Option D × Nat))) : R W := r.bind fun as e' => callE φ io as e'
@[simp] theorem kPo_some {w : W} : kPo w (some e) = .ok w e := rfl
@[simp] theorem kPx_some {c : Nat} {p : List D} : kPx c p (some e) = .exn c p e := rfl
@[simp] theorem kCo_ok {is : List Nat} {w : W} {outs : List W} : kCo is e (.ok w outs) = kPo w (putOuts e is outs) := rfl
@[simp] theorem kCo_exn {is : List Nat} {c : Nat} {p : List D} {outs : List W} : kCo is e (.exn c p outs) = kPx c p (putOuts e is outs) := rfl
@[simp] theorem kCa_some {φ : List W → FR} {is : List Nat} {ws : List W} : kCa φ is e (some ws) = kCo is e (φ ws) := rfl
@[simp] theorem kCl_ok {φ : List W → FR} {io : List Nat} {as : List (Option D × Nat)} : kCl φ io (.ok as e) = gR ((iosOf as).Nodup ∧ posIo as = io) (kCa φ (iosOf as) e (args? e as)) := rfl
@[simp] theorem ev_call {f : Nat} {a : E} : evE C (.call f a) e = kCl (C.Φ f) (C.io f) (evC C a e) := rfl
@[simp] theorem args_nil : args? e [] = some [] := rfl
@[simp] theorem args_d {d : D} {i : Nat} {r : List (Option D × Nat)} : args? e ((some d, i) :: r) = (args? e r).map (.val d :: ·) := rfl
def agS (w : Option W) (r : Option (List W)) : Option (List W) := match w, r with
    | some w, some ws => some (w :: ws)
    | _, _ => none
@[simp] theorem agS_eq {w : W} {ws : List W} : agS (some w) (some ws) = some (w :: ws) := rfl
@[simp] theorem args_i {i : Nat} {r : List (Option D × Nat)} : args? e ((none, i) :: r) = agS (e.get i) (args? e r) := rfl
@[simp] theorem iosOf_nil : iosOf [] = [] := rfl
@[simp] theorem iosOf_d {d : D} {i : Nat} {r : List (Option D × Nat)} : iosOf ((some d, i) :: r) = iosOf r := rfl
@[simp] theorem iosOf_i {i : Nat} {r : List (Option D × Nat)} : iosOf ((none, i) :: r) = i :: iosOf r := rfl
@[simp] theorem posIo_nil : posIo [] = [] := rfl
@[simp] theorem posIo_d {d : D} {i : Nat} {r : List (Option D × Nat)} : posIo ((some d, i) :: r) = (posIo r).map (· + 1) := rfl
@[simp] theorem posIo_i {i : Nat} {r : List (Option D × Nat)} : posIo ((none, i) :: r) = 0 :: (posIo r).map (· + 1) := rfl
@[simp] theorem putOuts_nil : putOuts e [] [] = some e := rfl
@[simp] theorem putOuts_cons {i : Nat} {is : List Nat} {w : W} {ws : List W} : putOuts e (i :: is) (w :: ws) = putOuts (e.set i (some w)) is ws := rfl
def kM3 (i : Nat) (f : Option Str) (e : Env) (o : Option (D × List D)) : R W := match o with
  | some (d, ys) => .ok (.val d) (e.put i (.lst ys) f)
  | none => .bad
def kM2 (m : M) (ds : List D) (i : Nat) (f : Option Str) (e : Env) (o : Option W) : R W := match o with
  | some (.lst xs) => kM3 i f e (m.ev xs ds)
  | _ => .bad
def kM1 (m : M) (i : Nat) (f : Option Str) (r : R (List D)) : R W := r.bind fun ds e' => kM2 m ds i f e' (e'.at i f)
def kM0 (C : Cn) (m : M) (i : Nat) (f : Option Str) (a : E) (e : Env) (o : Option W) : R W := match o with
  | some (.lst _) => if f.isNone || a.csts then kM1 m i f (evL C a e) else .bad
  | _ => .bad
@[simp] theorem kM3_some {i : Nat} {f : Option Str} {d : D} {ys : List D} : kM3 i f e (some (d, ys)) = .ok (.val d) (e.put i (.lst ys) f) := rfl
@[simp] theorem kM2_lst {m : M} {ds : List D} {i : Nat} {f : Option Str} {xs : List D} : kM2 m ds i f e (some (.lst xs)) = kM3 i f e (m.ev xs ds) := rfl
@[simp] theorem kM1_ok {m : M} {i : Nat} {f : Option Str} {ds : List D} : kM1 m i f (.ok ds e) = kM2 m ds i f e (e.at i f) := rfl
@[simp] theorem kM0_none {m : M} {i : Nat} {a : E} {xs : List D} : kM0 C m i none a e (some (.lst xs)) = kM1 m i none (evL C a e) := rfl
@[simp] theorem kM0_some {m : M} {i : Nat} {f : Str} {a : E} {xs : List D} (h : a.csts = true) : kM0 C m i (some f) a e (some (.lst xs)) = kM1 m i (some f) (evL C a e) := if_pos h
@[simp] theorem ev_mut {m : M} {i : Nat} {f : Option Str} {a : E} : evE C (.mut m i f a) e = kM0 C m i f a e (e.at i f) := rfl
@[simp] theorem at_none {i : Nat} : Env.at e i none = e.get i := rfl
@[simp] theorem put_none {i : Nat} {w : W} : Env.put e i w none = e.set i (some w) := rfl
theorem ev_lc {vs : List Nat} {tg : Tg} {ik : IK} {its c elt : E} : evE C (.lc vs tg ik its c elt) e = (evL C its e).bind fun ds e' => match ik.ev ds with
    | some items => match compLoop vs tg (fun e => evE C c e) (fun e => evE C elt e) items e' [] with
      | .ok acc e2 => .ok (.lst acc) (restore e' e2 vs)
      | _ => .bad
    | none => .bad := rfl
/-! lists of expressions -/
@[simp] theorem evA_nil : evA C .nil e = .ok [] e := rfl
@[simp] theorem evL_nil : evL C .nil e = .ok [] e := rfl
@[simp] theorem evW_nil : evW C .nil e = .ok [] e := rfl
@[simp] theorem evC_nil : evC C .nil e = .ok [] e := rfl
def kL2 (d : D) (r : R (List D)) : R (List D) := r.bind fun ds e2 => .ok (d :: ds) e2
def kL1 (C : Cn) (r : E) (x : R W) : R (List D) := x.bind fun w e' => match w.frz with
  | some d => kL2 d (evL C r e')
  | none => .bad
@[simp] theorem kL2_ok {d : D} {ds : List D} : kL2 d (.ok ds e) = .ok (d :: ds) e := rfl
@[simp] theorem kL1_val {r : E} {d : D} : kL1 C r (.ok (.val d) e) = kL2 d (evL C r e) := rfl
@[simp] theorem kL1_lst {r : E} {d : List D} : kL1 C r (.ok (.lst d) e) = kL2 (.lst d) (evL C r e) := rfl
@[simp] theorem kL1_dic {r : E} {k d : List D} : kL1 C r (.ok (.dic k d) e) = kL2 (.dic k d) (evL C r e) := rfl
@[simp] theorem evL_cons {a r : E} : evL C (.cons a r) e = kL1 C r (evE C a e) := rfl
def kW2 (w : W) (r : R (List W)) : R (List W) := r.bind fun ws e2 => .ok (w :: ws) e2
def kW1 (C : Cn) (r : E) (x : R W) : R (List W) := x.bind fun w e' => kW2 w (evW C r e')
@[simp] theorem kW2_ok {w : W} {ws : List W} : kW2 w (.ok ws e) = .ok (w :: ws) e := rfl
@[simp] theorem kW1_ok {r : E} {w : W} : kW1 C r (.ok w e) = kW2 w (evW C r e) := rfl
@[simp] theorem evW_cons {a r : E} : evW C (.cons a r) e = kW1 C r (evE C a e) := rfl
def kA2 (o : Opd) (r : R (List Opd)) : R (List Opd) := r.bind fun ws e2 => .ok (o :: ws) e2
def kA1 (C : Cn) (r : E) (x : R W) : R (List Opd) := x.bind fun w e' => match w.frz with
  | some d => kA2 (.d d) (evA C r e')
  | none => .bad
@[simp] theorem kA2_ok {o : Opd} {os : List Opd} : kA2 o (.ok os e) = .ok (o :: os) e := rfl
@[simp] theorem kA1_val {r : E} {d : D} : kA1 C r (.ok (.val d) e) = kA2 (.d d) (evA C r e) := rfl
@[simp] theorem kA1_lst {r : E} {d : List D} : kA1 C r (.ok (.lst d) e) = kA2 (.d (.lst d)) (evA C r e) := rfl
@[simp] theorem kA1_dic {r : E} {k d : List D} : kA1 C r (.ok (.dic k d) e) = kA2 (.d (.dic k d)) (evA C r e) := rfl
@[simp] theorem evA_var {i : Nat} {r : E} : evA C (.cons (.var i) r) e = gR ((e.get i).isSome = true) (kA2 (.s i) (evA C r e)) := rfl
def kAp (C : Cn) (r : E) (e : Env) (o : Option W) : R (List Opd) := match o with
  | some w => match w.frz with
    | some d => kA2 (.d d) (evA C r e)
    | none => .bad
  | none => .bad
@[simp] theorem kAp_val {r : E} {d : D} : kAp C r e (some (.val d)) = kA2 (.d d) (evA C r e) := rfl
@[simp] theorem kAp_lst {r : E} {d : List D} : kAp C r e (some (.lst d)) = kA2 (.d (.lst d)) (evA C r e) := rfl
def kApp (C : Cn) (i : Nat) (f : Str) (r : E) (e : Env) (b : Bool) : R (List Opd) := if b then kAp C r e (e.at i (some f)) else kA1 C r (evE C (.pth i f) e)
@[simp] theorem kApp_t {i : Nat} {f : Str} {r : E} : kApp C i f r e true = kAp C r e (e.at i (some f)) := rfl
@[simp] theorem kApp_f {i : Nat} {f : Str} {r : E} : kApp C i f r e false = kA1 C r (evE C (.pth i f) e) := rfl
@[simp] theorem evA_pth {i : Nat} {f : Str} {r : E} : evA C (.cons (.pth i f) r) e = kApp C i f r e r.csts := rfl
@[simp] theorem csts_nil : E.csts .nil = true := rfl
@[simp] theorem csts_cst {d : D} {r : E} : E.csts (.cons (.cst d) r) = (d.sc && r.csts) := rfl
@[simp] theorem csts_var {i : Nat} {r : E} : E.csts (.cons (.var i) r) = false := rfl
@[simp] theorem sc_int {i : Int} : D.sc (.int i) = true := rfl
@[simp] theorem sc_str {i : Str} : D.sc (.str i) = true := rfl
@[simp] theorem evA_cst {d : D} {r : E} : evA C (.cons (.cst d) r) e = kA2 (.d d) (evA C r e) := rfl
@[simp] theorem evA_glb {g : Nat} {r : E} : evA C (.cons (.glb g) r) e = kA1 C r (evE C (.glb g) e) := rfl
@[simp] theorem evA_prim {p : P} {a r : E} : evA C (.cons (.prim p a) r) e = kA1 C r (evE C (.prim p a) e) := rfl
@[simp] theorem evA_tupd {a r : E} : evA C (.cons (.tupd a) r) e = kA1 C r (evE C (.tupd a) e) := rfl
@[simp] theorem evA_lstd {a r : E} : evA C (.cons (.lstd a) r) e = kA1 C r (evE C (.lstd a) e) := rfl
@[simp] theorem evA_nt {a r : E} : evA C (.cons (.nt a) r) e = kA1 C r (evE C (.nt a) e) := rfl
@[simp] theorem evA_ife {c a b r : E} : evA C (.cons (.ife c a b) r) e = kA1 C r (evE C (.ife c a b) e) := rfl
@[simp] theorem evA_lc {vs : List Nat} {tg : Tg} {ik : IK} {its c elt r : E} : evA C (.cons (.lc vs tg ik its c elt) r) e = kA1 C r (evE C (.lc vs tg ik its c elt) e) := rfl
@[simp] theorem evA_call {f : Nat} {a r : E} : evA C (.cons (.call f a) r) e = kA1 C r (evE C (.call f a) e) := rfl
@[simp] theorem evA_and2 {a b r : E} : evA C (.cons (.and2 a b) r) e = kA1 C r (evE C (.and2 a b) e) := rfl
@[simp] theorem evA_or2 {a b r : E} : evA C (.cons (.or2 a b) r) e = kA1 C r (evE C (.or2 a b) e) := rfl
@[simp] theorem evA_mut {m : M} {i : Nat} {f : Option Str} {a r : E} : evA C (.cons (.mut m i f a) r) e = kA1 C r (evE C (.mut m i f a) e) := rfl
def kB2 (o : Option D × Nat) (r : R (List (Option D × Nat))) : R (List (Option D × Nat)) := r.bind fun ws e2 => .ok (o :: ws) e2
def kB1 (C : Cn) (r : E) (x : R W) : R (List (Option D × Nat)) := x.bind fun w e' => match w.frz with
  | some d => kB2 (some d, 0) (evC C r e')
  | none => .bad
@[simp] theorem kB2_ok {o : Option D × Nat} {os : List (Option D × Nat)} : kB2 o (.ok os e) = .ok (o :: os) e := rfl
@[simp] theorem kB1_val {r : E} {d : D} : kB1 C r (.ok (.val d) e) = kB2 (some d, 0) (evC C r e) := rfl
@[simp] theorem kB1_lst {r : E} {d : List D} : kB1 C r (.ok (.lst d) e) = kB2 (some (.lst d), 0) (evC C r e) := rfl
@[simp] theorem kB1_dic {r : E} {k d : List D} : kB1 C r (.ok (.dic k d) e) = kB2 (some (.dic k d), 0) (evC C r e) := rfl
@[simp] theorem evC_io {i : Nat} {r : E} : evC C (.cons (.io i) r) e = gR ((e.get i).isSome = true) (kB2 (none, i) (evC C r e)) := rfl
@[simp] theorem evC_var {i : Nat} {r : E} : evC C (.cons (.var i) r) e = kB1 C r (evE C (.var i) e) := rfl
@[simp] theorem evC_cst {d : D} {r : E} : evC C (.cons (.cst d) r) e = kB1 C r (evE C (.cst d) e) := rfl
@[simp] theorem evC_glb {d : Nat} {r : E} : evC C (.cons (.glb d) r) e = kB1 C r (evE C (.glb d) e) := rfl
@[simp] theorem evC_prim {p : P} {a r : E} : evC C (.cons (.prim p a) r) e = kB1 C r (evE C (.prim p a) e) := rfl
@[simp] theorem evC_call {p : Nat} {a r : E} : evC C (.cons (.call p a) r) e = kB1 C r (evE C (.call p a) e) := rfl
@[simp] theorem evC_tupd {a r : E} : evC C (.cons (.tupd a) r) e = kB1 C r (evE C (.tupd a) e) := rfl
@[simp] theorem evC_lstd {a r : E} : evC C (.cons (.lstd a) r) e = kB1 C r (evE C (.lstd a) e) := rfl
@[simp] theorem evC_lc {vs : List Nat} {tg : Tg} {ik : IK} {its c elt r : E} : evC C (.cons (.lc vs tg ik its c elt) r) e = kB1 C r (evE C (.lc vs tg ik its c elt) e) := rfl
@[simp] theorem evC_ife {c a b r : E} : evC C (.cons (.ife c a b) r) e = kB1 C r (evE C (.ife c a b) e) := rfl
@[simp] theorem resolve_nil : resolve e [] = some [] := rfl
@[simp] theorem resolve_d {d : D} {os : List Opd} : resolve e (.d d :: os) = (resolve e os).map (d :: ·) := rfl
def rsS (w : Option W) (r : Option (List D)) : Option (List D) := match w with
  | some w => match w.frz, r with
    | some d, some ds => some (d :: ds)
    | _, _ => none
  | none => none
@[simp] theorem rsS_val {d : D} {ds : List D} : rsS (some (.val d)) (some ds) = some (d :: ds) := rfl
@[simp] theorem rsS_lst {d : List D} {ds : List D} : rsS (some (.lst d)) (some ds) = some (.lst d :: ds) := rfl
@[simp] theorem rsS_dic {k d : List D} {ds : List D} : rsS (some (.dic k d)) (some ds) = some (.dic k d :: ds) := rfl
@[simp] theorem resolve_s {i : Nat} {os : List Opd} : resolve e (.s i :: os) = rsS (e.get i) (resolve e os) := rfl
/-! statements -/
@[simp] theorem es_skip : evS C pn .skip e = .nx e := rfl
def kSq (C : Cn) (pn : List Nat) (b : S) (r : RS) : RS := match r with
  | .nx e' => evS C pn b e'
  | r => r
@[simp] theorem kSq_nx {b : S} : kSq C pn b (.nx e) = evS C pn b e := rfl
@[simp] theorem kSq_rt {b : S} {w : W} : kSq C pn b (.rt w e) = .rt w e := rfl
@[simp] theorem kSq_bk {b : S} : kSq C pn b (.bk e) = .bk e := rfl
@[simp] theorem kSq_ct {b : S} : kSq C pn b (.ct e) = .ct e := rfl
@[simp] theorem kSq_exn {b : S} {c : Nat} {p : List D} : kSq C pn b (.exn c p e) = .exn c p e := rfl
@[simp] theorem es_seq {a b : S} : evS C pn (.seq a b) e = kSq C pn b (evS C pn a e) := rfl
def kSet (pn : List Nat) (i : Nat) (r : R W) : RS := r.rs fun w e' => if i ∈ pn ∨ ¬ i < e'.length then .bad else .nx (e'.set i (some w))
@[simp] theorem kSet_ok {i : Nat} {w : W} : kSet pn i (.ok w e) = gS (¬ (i ∈ pn ∨ ¬ i < e.length)) (.nx (e.set i (some w))) := by
  show (if _ then _ else _) = _
  unfold gS
  split <;> rfl
@[simp] theorem es_setE {i : Nat} {x : E} : evS C pn (.setE i x) e = kSet pn i (evE C x e) := rfl
def kNx (o : Option Env) : RS := match o with
  | some e => .nx e
  | none => .bad
@[simp] theorem kNx_some : kNx (some e) = .nx e := rfl
def kAsg (pn : List Nat) (tg : Tg) (r : R W) : RS := r.rs fun w e' => match w with
    | .val d => kNx (tg.asgn pn d e')
    | _ => .bad
@[simp] theorem kAsg_ok {tg : Tg} {d : D} : kAsg pn tg (.ok (.val d) e) = kNx (tg.asgn pn d e) := rfl
@[simp] theorem es_asg {tg : Tg} {x : E} : evS C pn (.asg tg x) e = kAsg pn tg (evE C x e) := rfl
def kPar (pn is : List Nat) (r : R (List W)) : RS := r.rs fun ws e' => kNx (setAll pn is ws e')
@[simp] theorem kPar_ok {is : List Nat} {ws : List W} : kPar pn is (.ok ws e) = kNx (setAll pn is ws e) := rfl
@[simp] theorem es_par {is : List Nat} {a : E} : evS C pn (.par is a) e = kPar pn is (evW C a e) := rfl
def kX3 (i : Nat) (xs : List D) (d : D) (e : Env) (o : Option Nat) : RS := match o with
  | some n => .nx (e.set i (some (.lst (xs.set n d))))
  | none => .bad
def kX2 (i : Nat) (d : D) (j : Int) (e : Env) (o : Option W) : RS := match o with
  | some (.lst xs) => kX3 i xs d e (ixN xs.length j)
  | _ => .bad
def kX1 (i : Nat) (r : R (List D)) : RS := r.rs fun ds e' => match ds, e'.get i with
      | [d, .int j], some (.lst xs) => match ixN xs.length j with
        | some n => .nx (e'.set i (some (.lst (xs.set n d))))
        | none => .bad
      | _, _ => .bad
@[simp] theorem kX3_some {i n : Nat} {xs : List D} {d : D} : kX3 i xs d e (some n) = .nx (e.set i (some (.lst (xs.set n d)))) := rfl
@[simp] theorem kX2_lst {i : Nat} {d : D} {j : Int} {xs : List D} : kX2 i d j e (some (.lst xs)) = kX3 i xs d e (ixN xs.length j) := rfl
@[simp] theorem kX1_ok {i : Nat} {d : D} {j : Int} : kX1 i (.ok [d, .int j] e) = kX2 i d j e (e.get i) := by
  unfold kX1 kX2
  simp only [R.rs_ok]
  rcases e.get i with _ | (_ | _ | _ | _) <;> rfl
@[simp] theorem es_setIx {i : Nat} {k v : E} : evS C pn (.setIx i k v) e = gS ((e.get i).isSome = true) (kX1 i (evL C (.cons v (.cons k .nil)) e)) := rfl
def kR2 (i : Nat) (f : Str) (d : D) (e : Env) (o : Option W) : RS := match o with
  | some (.val _) => .nx (e.put i (.val d) (some f))
  | _ => .bad
def kR1 (i : Nat) (f : Str) (r : R (List D)) : RS := r.rs fun ds e' => match ds, e'.at i (some f) with
    | [d], some (.val _) => .nx (e'.put i (.val d) (some f))
    | _, _ => .bad
@[simp] theorem kR2_val {i : Nat} {f : Str} {d d2 : D} : kR2 i f d e (some (.val d2)) = .nx (e.put i (.val d) (some f)) := rfl
@[simp] theorem kR1_ok {i : Nat} {f : Str} {d : D} : kR1 i f (.ok [d] e) = kR2 i f d e (e.at i (some f)) := by
  unfold kR1 kR2
  simp only [R.rs_ok]
  rcases e.at i (some f) with _ | (_ | _ | _ | _) <;> rfl
@[simp] theorem es_setRc {i : Nat} {f : Str} {x : E} : evS C pn (.setRc i f x) e = kR1 i f (evL C (.cons x .nil) e) := rfl
def kEx (r : R W) : RS := r.rs fun _ e' => .nx e'
@[simp] theorem kEx_ok {w : W} : kEx (.ok w e) = .nx e := rfl
@[simp] theorem es_expr {x : E} : evS C pn (.expr x) e = kEx (evE C x e) := rfl
def kIfS (C : Cn) (pn : List Nat) (a b : S) (r : R W) : RS := r.rs fun w e' => match w with
    | .val (.bl true) => evS C pn a e'
    | .val (.bl false) => evS C pn b e'
    | _ => .bad
@[simp] theorem kIfS_t {a b : S} : kIfS C pn a b (.ok (.val (.bl true)) e) = evS C pn a e := rfl
@[simp] theorem kIfS_f {a b : S} : kIfS C pn a b (.ok (.val (.bl false)) e) = evS C pn b e := rfl
@[simp] theorem es_ife {c : E} {a b : S} : evS C pn (.ife c a b) e = kIfS C pn a b (evE C c e) := rfl
def forL (C : Cn) (pn : List Nat) (tg : Tg) (b : S) (ds : List D) (e : Env) : RS := forLoop pn tg (fun e => evS C pn b e) ds e
def whL (C : Cn) (pn : List Nat) (c : E) (b : S) (n : Nat) (e : Env) : RS := whileLoop (fun e => evE C c e) (fun e => evS C pn b e) n e
def kFo2 (C : Cn) (pn : List Nat) (tg : Tg) (b : S) (e : Env) (o : Option (List D)) : RS := match o with
  | some items => forLoop pn tg (fun e => evS C pn b e) items e
  | none => .bad
def kFo (C : Cn) (pn : List Nat) (tg : Tg) (ik : IK) (b : S) (r : R (List D)) : RS := r.rs fun ds e' => kFo2 C pn tg b e' (ik.ev ds)
@[simp] theorem kFo2_some {tg : Tg} {b : S} {items : List D} : kFo2 C pn tg b e (some items) = forL C pn tg b items e := rfl
@[simp] theorem kFo_ok {tg : Tg} {ik : IK} {b : S} {ds : List D} : kFo C pn tg ik b (.ok ds e) = kFo2 C pn tg b e (ik.ev ds) := rfl
theorem es_for {tg : Tg} {ik : IK} {its : E} {b : S} : evS C pn (.for_ tg ik its b) e = kFo C pn tg ik b (evL C its e) := rfl
theorem es_while {c : E} {b : S} : evS C pn (.while_ c b) e = whL C pn c b C.fuel e := rfl
def kRt (r : R W) : RS := r.rs fun w e' => .rt w e'
@[simp] theorem kRt_ok {w : W} : kRt (.ok w e) = .rt w e := rfl
@[simp] theorem es_ret {x : E} : evS C pn (.ret x) e = kRt (evE C x e) := rfl
@[simp] theorem es_retN : evS C pn .retN e = .rt (.val .non) e := rfl
@[simp] theorem es_brk : evS C pn .brk e = .bk e := rfl
@[simp] theorem es_cont : evS C pn .cont e = .ct e := rfl
def gO (p : Prop) [Decidable p] (x : Option Env) : Option Env := if p then x else none
@[simp] theorem gO_of {p : Prop} [Decidable p] {x : Option Env} (h : p) : gO p x = x := if_pos h
@[simp] theorem asgn_nm {i : Nat} {d : D} : (Tg.nm i).asgn pn d e = gO (¬ (i ∈ pn ∨ ¬ i < e.length)) (some (e.set i (some (.val d)))) := by
  unfold Tg.asgn gO
  split <;> rfl
@[simp] theorem asgn_nil : Tg.tnil.asgn pn (.tup []) e = some e := by unfold Tg.asgn; rfl
def kTc (pn : List Nat) (b : Tg) (ds : List D) (o : Option Env) : Option Env := match o with
  | some e => b.asgn pn (.tup ds) e
  | none => none
@[simp] theorem kTc_some {b : Tg} {ds : List D} : kTc pn b ds (some e) = b.asgn pn (.tup ds) e := rfl
@[simp] theorem asgn_cons {a b : Tg} {d : D} {ds : List D} : (Tg.tcons a b).asgn pn (.tup (d :: ds)) e = kTc pn b ds (a.asgn pn d e) := by
  conv => lhs; unfold Tg.asgn
  rfl
@[simp] theorem setAll_nil : setAll pn [] [] e = some e := rfl
@[simp] theorem setAll_cons {i : Nat} {is : List Nat} {w : W} {ws : List W} : setAll pn (i :: is) (w :: ws) e = gO (¬ (i ∈ pn ∨ i ∈ is ∨ ¬ i < e.length)) (setAll pn is ws (e.set i (some w))) := by
  conv => lhs; unfold setAll
  unfold gO
  split <;> rfl
@[simp] theorem szOk_0 : szOk 0 = true := rfl
@[simp] theorem szOk_lit {n : Nat} (h : n ≤ 16777216) : szOk n = true := decide_eq_true h
@[simp] theorem m_append {ds : List D} {d : D} (h : ds.length < 16777216) : M.ev .append ds [d] = some (.non, ds ++ [d]) := if_pos (decide_eq_true h)
@[simp] theorem m_extend {ds es : List D} (h : szOk (ds.length + es.length) = true) : M.ev .extend ds [.lst es] = some (.non, ds ++ es) := if_pos h
@[simp] theorem m_pop {l : List D} {d : D} : M.ev .pop (l ++ [d]) [] = some (d, l) := by
  show (match (l ++ [d])[(l ++ [d]).length - 1]? with
    | some d' => some (d', (l ++ [d]).dropLast)
    | none => none) = _
  rw [List.length_append, List.length_singleton, Nat.add_sub_cancel, List.getElem?_append_right (Nat.le_refl _), Nat.sub_self, List.dropLast_concat]
  rfl
end
/-! operations -/
@[simp] theorem p_add_int {i j : Int} : P.ev .add [.int i, .int j] = some (.val (.int (i + j))) := rfl
@[simp] theorem p_add_tup {a b : List D} (h : szOk (a.length + b.length) = true) : P.ev .add [.tup a, .tup b] = some (.val (.tup (a ++ b))) := if_pos h
@[simp] theorem p_add_lst {a b : List D} (h : szOk (a.length + b.length) = true) : P.ev .add [.lst a, .lst b] = some (.lst (a ++ b)) := if_pos h
@[simp] theorem p_sub {i j : Int} : P.ev .sub [.int i, .int j] = some (.val (.int (i - j))) := rfl
@[simp] theorem p_mul_int {i j : Int} (h : mulOk i j = true) : P.ev .mul [.int i, .int j] = some (.val (.int (i * j))) := if_pos h
theorem p_mul_lst {a : List D} {j : Int} : P.ev .mul [.lst a, .int j] = if rngOk j && szOk (a.length * j.toNat) then some (.lst (List.replicate j.toNat a).flatten) else none := rfl
@[simp] theorem p_fdiv {i j : Int} (h : j ≠ 0 ∧ j.natAbs < 1073741824) : P.ev .fdiv [.int i, .int j] = some (.val (.int (i.fdiv j))) := if_pos h
@[simp] theorem p_mod {i j : Int} (h : j ≠ 0) : P.ev .mod [.int i, .int j] = some (.val (.int (i.fmod j))) := if_pos h
@[simp] theorem p_pow {i j : Int} (h : 0 ≤ j ∧ j.natAbs ≤ 1000000 ∧ i.natAbs < pw64) : P.ev .pow [.int i, .int j] = some (.val (.int (i ^ j.toNat))) := if_pos h
@[simp] theorem p_eq {a b : D} : P.ev .eq [a, b] = (cmpEq a b).map fun k => .val (.bl k) := rfl
@[simp] theorem p_ne {a b : D} : P.ev .ne [a, b] = (cmpEq a b).map fun k => .val (.bl !k) := rfl
@[simp] theorem p_lt {i j : Int} : P.ev .lt [.int i, .int j] = some (.val (.bl (decide (i < j)))) := rfl
@[simp] theorem p_le {i j : Int} : P.ev .le [.int i, .int j] = some (.val (.bl (decide (i ≤ j)))) := rfl
@[simp] theorem p_gt {i j : Int} : P.ev .gt [.int i, .int j] = some (.val (.bl (decide (j < i)))) := rfl
@[simp] theorem p_ge {i j : Int} : P.ev .ge [.int i, .int j] = some (.val (.bl (decide (j ≤ i)))) := rfl
@[simp] theorem p_is_bl {a b : Bool} : P.ev .is_ [.bl a, .bl b] = some (.val (.bl (decide (a = b)))) := rfl
@[simp] theorem p_is_non : P.ev .is_ [.non, .non] = some (.val (.bl true)) := rfl
@[simp] theorem p_is_int {i : Int} : P.ev .is_ [.int i, .non] = some (.val (.bl false)) := rfl
@[simp] theorem p_is_str {i : Str} : P.ev .is_ [.str i, .non] = some (.val (.bl false)) := rfl
@[simp] theorem p_is_tup {i : List D} : P.ev .is_ [.tup i, .non] = some (.val (.bl false)) := rfl
@[simp] theorem p_is_lst {i : List D} : P.ev .is_ [.lst i, .non] = some (.val (.bl false)) := rfl
@[simp] theorem p_is_bn {i : Bool} : P.ev .is_ [.bl i, .non] = some (.val (.bl false)) := rfl
@[simp] theorem p_isn_bl {a b : Bool} : P.ev .isn [.bl a, .bl b] = some (.val (.bl !(decide (a = b)))) := rfl
@[simp] theorem p_isn_non : P.ev .isn [.non, .non] = some (.val (.bl false)) := rfl
@[simp] theorem p_isn_int {i : Int} : P.ev .isn [.int i, .non] = some (.val (.bl true)) := rfl
@[simp] theorem p_isn_str {i : Str} : P.ev .isn [.str i, .non] = some (.val (.bl true)) := rfl
@[simp] theorem p_isn_tup {i : List D} : P.ev .isn [.tup i, .non] = some (.val (.bl true)) := rfl
@[simp] theorem p_isn_bn {i : Bool} : P.ev .isn [.bl i, .non] = some (.val (.bl true)) := rfl
@[simp] theorem p_in_tup {x : D} {ds : List D} : P.ev .in_ [x, .tup ds] = (inFlat x ds).map fun k => .val (.bl k) := rfl
@[simp] theorem p_in_lst {x : D} {ds : List D} : P.ev .in_ [x, .lst ds] = (inFlat x ds).map fun k => .val (.bl k) := rfl
@[simp] theorem p_nin_tup {x : D} {ds : List D} : P.ev .nin [x, .tup ds] = (inFlat x ds).map fun k => .val (.bl !k) := rfl
@[simp] theorem p_nin_lst {x : D} {ds : List D} : P.ev .nin [x, .lst ds] = (inFlat x ds).map fun k => .val (.bl !k) := rfl
@[simp] theorem p_ix_tup {i : Int} {ds : List D} : P.ev .ix [.tup ds, .int i] = (atI ds i).map .val := rfl
@[simp] theorem p_ix_lst {i : Int} {ds : List D} : P.ev .ix [.lst ds, .int i] = (atI ds i).map .val := rfl
@[simp] theorem p_ix_scr {i : Int} {ds : List D} : P.ev .ix [.scr ds, .int i] = (atI ds i).map .val := rfl
theorem p_ix_dic {k : D} {ks ds : List D} : P.ev .ix [.dic ks ds, k] = match dicGet ks ds k with
    | some (some d) => some (.val d)
    | _ => none := rfl
@[simp] theorem p_sl11t {i j : Int} {ds : List D} : P.ev (.sl true true) [.tup ds, .int i, .int j] = some (.val (.tup (cutD ds (some i) (some j)))) := rfl
@[simp] theorem p_sl10t {i : Int} {ds : List D} : P.ev (.sl true false) [.tup ds, .int i] = some (.val (.tup (cutD ds (some i) none))) := rfl
@[simp] theorem p_sl01t {j : Int} {ds : List D} : P.ev (.sl false true) [.tup ds, .int j] = some (.val (.tup (cutD ds none (some j)))) := rfl
@[simp] theorem p_sl11l {i j : Int} {ds : List D} : P.ev (.sl true true) [.lst ds, .int i, .int j] = some (.lst (cutD ds (some i) (some j))) := rfl
@[simp] theorem p_sl10l {i : Int} {ds : List D} : P.ev (.sl true false) [.lst ds, .int i] = some (.lst (cutD ds (some i) none)) := rfl
@[simp] theorem p_sl01l {j : Int} {ds : List D} : P.ev (.sl false true) [.lst ds, .int j] = some (.lst (cutD ds none (some j))) := rfl
@[simp] theorem p_rv {ds : List D} : P.ev .rv [.lst ds] = some (.lst ds.reverse) := rfl
@[simp] theorem p_eqNil {n t : Bool} {d : D} : P.ev (.eqNil n t) [d] = (cmpEq d (if t then .tup [] else .lst [])).map fun k => .val (.bl (if n then !k else k)) := rfl
@[simp] theorem p_len_tup {ds : List D} : P.ev .len [.tup ds] = some (.val (.int ds.length)) := rfl
@[simp] theorem p_len_lst {ds : List D} : P.ev .len [.lst ds] = some (.val (.int ds.length)) := rfl
@[simp] theorem p_len_scr {ds : List D} : P.ev .len [.scr ds] = some (.val (.int ds.length)) := rfl
@[simp] theorem p_isi {ts : List Ty} {d : D} : P.ev (.isi ts) [d] = (d.isTys ts).map fun k => .val (.bl k) := rfl
@[simp] theorem p_tupOf_tup {ds : List D} : P.ev .tupOf [.tup ds] = some (.val (.tup ds)) := rfl
@[simp] theorem p_tupOf_lst {ds : List D} : P.ev .tupOf [.lst ds] = some (.val (.tup ds)) := rfl
@[simp] theorem p_lstOf_tup {ds : List D} : P.ev .lstOf [.tup ds] = some (.lst ds) := rfl
@[simp] theorem p_lstOf_lst {ds : List D} : P.ev .lstOf [.lst ds] = some (.lst ds) := rfl
theorem p_lstRng1 {n : Int} : P.ev .lstRng1 [.int n] = if rngOk n && szOk n.toNat then some (.lst (rangeD 0 n)) else none := rfl
@[simp] theorem p_abs {i : Int} : P.ev .abs [.int i] = some (.val (.int (if i < 0 then -i else i))) := rfl
@[simp] theorem p_intOf {i : Int} : P.ev .intOf [.int i] = some (.val (.int i)) := rfl
@[simp] theorem p_min2 {i j : Int} : P.ev .min2 [.int i, .int j] = some (.val (.int (if j < i then j else i))) := rfl
@[simp] theorem p_sortd_tup {ds : List D} : P.ev .sortd [.tup ds] = (ints? ds).map fun ns => .lst ((isort ns).map D.int) := rfl
@[simp] theorem p_sortd_lst {ds : List D} : P.ev .sortd [.lst ds] = (ints? ds).map fun ns => .lst ((isort ns).map D.int) := rfl
@[simp] theorem p_all {ds : List D} : P.ev .all_ [.lst ds] = (bools? ds).map fun bs => .val (.bl (bs.all id)) := rfl
@[simp] theorem p_any {ds : List D} : P.ev .any_ [.lst ds] = (bools? ds).map fun bs => .val (.bl (bs.any id)) := rfl
@[simp] theorem p_tupRev_tup {ds : List D} : P.ev .tupRev [.tup ds] = some (.val (.tup ds.reverse)) := rfl
@[simp] theorem p_tupRev_lst {ds : List D} : P.ev .tupRev [.lst ds] = some (.val (.tup ds.reverse)) := rfl
theorem p_split {s t : Str} : P.ev (.split t) [.str s] = if t.length == 0 || !(decide (s.length + 2 ≤ 16777216)) then none else some (.lst ((Txt.split s t).map D.str)) := rfl
@[simp] theorem isTys_nil {d : D} : d.isTys [] = some false := rfl
@[simp] theorem isTys_cons {d : D} {t : Ty} {ts : List Ty} : d.isTys (t :: ts) = match d.isTy t with
    | some true => some true
    | some false => D.isTys d ts
    | none => none := rfl
@[simp] theorem isTy_int_int {i : Int} : (D.int i).isTy .int = some true := rfl
@[simp] theorem isTy_int_str {i : Int} : (D.int i).isTy .str = some false := rfl
@[simp] theorem isTy_int_tup {i : Int} : (D.int i).isTy .tup = some false := rfl
@[simp] theorem isTy_int_lst {i : Int} : (D.int i).isTy .lst = some false := rfl
@[simp] theorem isTy_int_dic {i : Int} : (D.int i).isTy .dic = some false := rfl
@[simp] theorem isTy_int_bool {i : Int} : (D.int i).isTy .bool = some false := rfl
@[simp] theorem isTy_str_int {i : Str} : (D.str i).isTy .int = some false := rfl
@[simp] theorem isTy_str_str {i : Str} : (D.str i).isTy .str = some true := rfl
@[simp] theorem isTy_str_tup {i : Str} : (D.str i).isTy .tup = some false := rfl
@[simp] theorem isTy_str_lst {i : Str} : (D.str i).isTy .lst = some false := rfl
@[simp] theorem isTy_str_dic {i : Str} : (D.str i).isTy .dic = some false := rfl
@[simp] theorem isTy_str_bool {i : Str} : (D.str i).isTy .bool = some false := rfl
@[simp] theorem isTy_tup_int {i : List D} : (D.tup i).isTy .int = some false := rfl
@[simp] theorem isTy_tup_str {i : List D} : (D.tup i).isTy .str = some false := rfl
@[simp] theorem isTy_tup_tup {i : List D} : (D.tup i).isTy .tup = some true := rfl
@[simp] theorem isTy_tup_lst {i : List D} : (D.tup i).isTy .lst = some false := rfl
@[simp] theorem isTy_tup_dic {i : List D} : (D.tup i).isTy .dic = some false := rfl
@[simp] theorem isTy_tup_bool {i : List D} : (D.tup i).isTy .bool = some false := rfl
@[simp] theorem isTy_lst_int {i : List D} : (D.lst i).isTy .int = some false := rfl
@[simp] theorem isTy_lst_str {i : List D} : (D.lst i).isTy .str = some false := rfl
@[simp] theorem isTy_lst_tup {i : List D} : (D.lst i).isTy .tup = some false := rfl
@[simp] theorem isTy_lst_lst {i : List D} : (D.lst i).isTy .lst = some true := rfl
@[simp] theorem isTy_lst_dic {i : List D} : (D.lst i).isTy .dic = some false := rfl
@[simp] theorem isTy_lst_bool {i : List D} : (D.lst i).isTy .bool = some false := rfl
@[simp] theorem isTy_bl_int {i : Bool} : (D.bl i).isTy .int = some true := rfl
@[simp] theorem isTy_bl_bool {i : Bool} : (D.bl i).isTy .bool = some true := rfl
@[simp] theorem ceq_int {a b : Int} : cmpEq (.int a) (.int b) = some (decide (a = b)) := by
  show (if (SeqAt.shaped (.int a) && SeqAt.shaped (.int b)) = true then some (PyData.eqv (.int a) (.int b)) else none) = _
  refine (if_pos ?_).trans ?_
  · rfl
  · simp only [PyData.eqv, Bool.beq_eq_decide_eq]
theorem ceq_str {a b : Str} (ha : SeqAt.shaped (.str a) = true) (hb : SeqAt.shaped (.str b) = true) : cmpEq (.str a) (.str b) = some (decide (a = b)) := by
  show (if (SeqAt.shaped (.str a) && SeqAt.shaped (.str b)) = true then some (PyData.eqv (.str a) (.str b)) else none) = _
  refine (if_pos ?_).trans ?_
  · rw [ha, hb]; rfl
  · simp only [PyData.eqv, Bool.beq_eq_decide_eq]
@[simp] theorem ceq_bl {a b : Bool} : cmpEq (.bl a) (.bl b) = some (a == b) := by
  show (if (SeqAt.shaped (.bool a) && SeqAt.shaped (.bool b)) = true then some (PyData.eqv (.bool a) (.bool b)) else none) = _
  refine (if_pos ?_).trans ?_
  · rfl
  · simp [PyData.eqv]
def kEnd (io : List Nat) (r : RS) : FR := match r with
    | .rt w e => match outs? e io with
      | some os => .ok w os
      | none => .bad
    | .nx e => match outs? e io with
      | some os => .ok (.val .non) os
      | none => .bad
    | .exn c p e => match outs? e io with
      | some os => .exn c p os
      | none => .bad
    | _ => .bad
def kOk (w : W) (o : Option (List W)) : FR := match o with
  | some os => .ok w os
  | none => .bad
def kXn (c : Nat) (p : List D) (o : Option (List W)) : FR := match o with
  | some os => .exn c p os
  | none => .bad
@[simp] theorem kOk_some {w : W} {os : List W} : kOk w (some os) = .ok w os := rfl
@[simp] theorem kXn_some {c : Nat} {p : List D} {os : List W} : kXn c p (some os) = .exn c p os := rfl
@[simp] theorem kEnd_rt {io : List Nat} {w : W} {e : Env} : kEnd io (.rt w e) = kOk w (outs? e io) := rfl
@[simp] theorem kEnd_nx {io : List Nat} {e : Env} : kEnd io (.nx e) = kOk (.val .non) (outs? e io) := rfl
@[simp] theorem kEnd_exn {io : List Nat} {c : Nat} {p : List D} {e : Env} : kEnd io (.exn c p e) = kXn c p (outs? e io) := rfl
@[simp] theorem outs_nil {e : Env} : outs? e [] = some [] := rfl
@[simp] theorem outs_cons {e : Env} {i : Nat} {is : List Nat} : outs? e (i :: is) = agS (e.get i) (outs? e is) := rfl
theorem run_s {T : Nat → Option Fd} {Γ : Nat → Option D} {fu k f : Nat} {fd : Fd} {ws : List W} (h : T f = some fd) : run T Γ fu (k + 1) f ws = runFd ⟨run T Γ fu k, ioT T, Γ, fu⟩ fd ws := by
  show (match T f with | some fd => runFd ⟨run T Γ fu k, ioT T, Γ, fu⟩ fd ws | none => .bad) = _
  rw [h]
/-- a def's run, where the arguments fit -/
theorem runFd_ok {C : Cn} {fd : Fd} {ws : List W} (h1 : ws.length = fd.np) (h2 : argOk fd.io 0 ws = true) : runFd C fd ws = kEnd fd.io (evS C fd.io fd.body (ws.map some ++ List.replicate (fd.n - fd.np) none)) := by
  unfold runFd
  rw [if_pos ⟨h1, h2⟩]
  rfl

/-! ### loops -/
theorem wE_len {e : Env} : ∀ {vs : List Nat}, (wipeE e vs).length = e.length
  | [] => rfl
  | v :: vs => by unfold wipeE; rw [List.length_set, wE_len]
theorem wE_out {e : Env} {j : Nat} : ∀ {vs : List Nat}, j ∉ vs → (wipeE e vs)[j]? = e[j]?
  | [], _ => rfl
  | v :: vs, h => by
    unfold wipeE
    rw [List.getElem?_set_ne fun z => h (by rw [z]; exact List.mem_cons_self), wE_out fun z => h (List.mem_cons_of_mem _ z)]
theorem rs_len {e0 e : Env} : ∀ {vs : List Nat}, (restore e0 e vs).length = e.length
  | [] => rfl
  | v :: vs => by unfold restore; rw [List.length_set, rs_len]
theorem rs_out {e0 e : Env} {j : Nat} : ∀ {vs : List Nat}, j ∉ vs → (restore e0 e vs)[j]? = e[j]?
  | [], _ => rfl
  | v :: vs, h => by
    unfold restore
    rw [List.getElem?_set_ne fun z => h (by rw [z]; exact List.mem_cons_self), rs_out fun z => h (List.mem_cons_of_mem _ z)]
theorem rs_in {e0 e : Env} {j : Nat} : ∀ {vs : List Nat}, j ∈ vs → j < e.length → (restore e0 e vs)[j]? = some (match e0.get j with | some (.val d) => some (.val d) | _ => none)
  | [], h, _ => nomatch h
  | v :: vs, h, hl => by
    unfold restore
    by_cases z : v = j
    · subst z
      rw [List.getElem?_set_self (by rw [rs_len]; exact hl)]
      try rfl
    · rw [List.getElem?_set_ne z]
      exact rs_in ((List.mem_cons.mp h).resolve_left fun q => z q.symm) hl
/-- the names of a block hold data or nothing: as ahead of it -/
theorem restore_same {e e2 : Env} {vs : List Nat} (hv : ∀ v ∈ vs, ∀ w, e[v]? = some (some w) → ∃ d, w = .val d) (h : wipeE e2 vs = wipeE e vs) : restore e e2 vs = e := by
  have hl : e2.length = e.length := by rw [← wE_len (e := e2) (vs := vs), h, wE_len]
  apply List.ext_getElem?
  intro j
  by_cases hj : j ∈ vs
  · by_cases hlt : j < e.length
    · rw [rs_in hj (by omega)]
      have hg : e.get j = (e[j]?).join := rfl
      cases q : e[j]? with
      | none => rw [List.getElem?_eq_none_iff] at q; omega
      | some o =>
        rw [hg, q]
        cases o with
        | none => rfl
        | some w =>
          obtain ⟨d, rfl⟩ := hv j hj w q
          rfl
    · rw [List.getElem?_eq_none (by rw [rs_len]; omega), List.getElem?_eq_none (by omega)]
  · rw [rs_out hj, ← wE_out hj, h, wE_out hj]
/-- a comprehension that touches nothing -/
theorem lc_pure {C : Cn} {vs : List Nat} {tg : Tg} {ik : IK} {its c elt : E} {e : Env} {ds items : List D} {p : D → Bool} {f : D → D} (h1 : evL C its e = .ok ds e) (h2 : ik.ev ds = some items) (hl : items.length ≤ 16777216)
    (hs : ∀ d ∈ items, ∃ e1, tg.asgn [] d (wipeE e vs) = some e1 ∧ wipeE e1 vs = wipeE e vs ∧ evE C c e1 = .ok (.val (.bl (p d))) e1 ∧ (p d = true → ∃ w, evE C elt e1 = .ok w e1 ∧ w.frz = some (f d)))
    (hv : ∀ v ∈ vs, ∀ w, e[v]? = some (some w) → ∃ d, w = .val d) : evE C (.lc vs tg ik its c elt) e = .ok (.lst ((items.filter p).map f)) e := by
  rw [ev_lc, h1]
  simp only [R.bind_ok, h2]
  have key : ∀ (l : List D) (e' : Env) (acc : List D), (∀ d ∈ l, d ∈ items) → wipeE e' vs = wipeE e vs → acc.length + l.length ≤ 16777216 → ∃ e2, compLoop vs tg (fun e => evE C c e) (fun e => evE C elt e) l e' acc = .ok (acc ++ (l.filter p).map f) e2 ∧ wipeE e2 vs = wipeE e vs := by
    intro l
    induction l with
    | nil => intro e' acc _ hw _; exact ⟨e', by simp [compLoop], hw⟩
    | cons d l ih =>
      intro e' acc hm hw hn
      obtain ⟨e1, g1, g2, g3, g4⟩ := hs d (hm d List.mem_cons_self)
      unfold compLoop
      rw [hw, g1]
      simp only [g3]
      rw [List.length_cons] at hn
      cases hp : p d with
      | false =>
        obtain ⟨e2, q1, q2⟩ := ih e1 acc (fun x hx => hm x (List.mem_cons_of_mem _ hx)) g2 (by omega)
        exact ⟨e2, by simp only []; rw [q1, List.filter_cons_of_neg (by rw [hp]; decide)], q2⟩
      | true =>
        obtain ⟨w, g5, g6⟩ := g4 hp
        obtain ⟨e2, q1, q2⟩ := ih e1 (acc ++ [f d]) (fun x hx => hm x (List.mem_cons_of_mem _ hx)) g2 (by rw [List.length_append, List.length_singleton]; omega)
        refine ⟨e2, ?_, q2⟩
        simp only [g5, g6]
        rw [if_pos (by omega), q1, List.filter_cons_of_pos hp]
        simp
  obtain ⟨e2, q1, q2⟩ := key items e [] (fun _ h => h) rfl (by simpa using hl)
  rw [q1]
  simp only [List.nil_append]
  rw [restore_same hv q2]
/-- a loop by its state -/
theorem for_inv {pn : List Nat} {tg : Tg} {body : Env → RS} (Inv : Nat → Env → Prop) {items : List D} {e : Env} (h0 : Inv 0 e) (hs : ∀ i d e, items[i]? = some d → Inv i e → ∃ e1 e2, tg.asgn pn d e = some e1 ∧ (body e1 = .nx e2 ∨ body e1 = .ct e2) ∧ Inv (i + 1) e2) :
    ∃ e', forLoop pn tg body items e = .nx e' ∧ Inv items.length e' := by
  have key : ∀ (l : List D) (i : Nat) (e : Env), i ≤ items.length → items.drop i = l → Inv i e → ∃ e', forLoop pn tg body l e = .nx e' ∧ Inv items.length e' := by
    intro l
    induction l with
    | nil =>
      intro i e hle hd hi
      have : items.length ≤ i := List.drop_eq_nil_iff.mp hd
      have ei : i = items.length := by omega
      subst ei
      exact ⟨e, rfl, hi⟩
    | cons d l ih =>
      intro i e hle hd hi
      have hlt : i < items.length := by
        have := congrArg List.length hd
        rw [List.length_drop, List.length_cons] at this
        omega
      have hget : items[i]? = some d := by
        rw [List.drop_eq_getElem_cons hlt] at hd
        injection hd with h1 h2
        rw [List.getElem?_eq_getElem hlt, h1]
      have hdrop : items.drop (i + 1) = l := by
        rw [List.drop_eq_getElem_cons hlt] at hd
        injection hd with h1 h2
      obtain ⟨e1, e2, g1, g2, g3⟩ := hs i d e hget hi
      obtain ⟨e', q1, q2⟩ := ih (i + 1) e2 hlt hdrop g3
      refine ⟨e', ?_, q2⟩
      unfold forLoop
      rw [g1]
      rcases g2 with g2 | g2 <;> (simp only [g2]; exact q1)
  exact key items 0 e (Nat.zero_le _) rfl h0
end Mn
set_option Elab.async false
set_option linter.all false
set_option maxRecDepth 100000
set_option maxHeartbeats 4000000
/-! Mn, plain: loops over what is told by plain lists. -/
namespace Mn
open PySem L2
/-- the names of a block hold data or nothing -/
def vOk (e : Env) (vs : List Nat) : Bool := vs.all fun v => match e.get v with
  | some (.val _) => true
  | none => true
  | _ => false
theorem vOk_of {e : Env} {vs : List Nat} (h : vOk e vs = true) : ∀ v ∈ vs, ∀ w, e[v]? = some (some w) → ∃ d, w = .val d := by
  intro v hv w hw
  have := List.all_eq_true.mp h v hv
  have hg : e.get v = some w := by
    show (e[v]?).join = _
    rw [hw]
    rfl
  rw [hg] at this
  cases w with
  | val d => exact ⟨d, rfl⟩
  | lst _ => cases this
  | dic _ _ => cases this
  | rc _ _ => cases this
section
variable {C : Cn} {vs : List Nat} {tg : Tg} {ik : IK} {its c elt : E} {e : Env} {α : Type}
theorem lc_filt (enc : α → D) (xs : List α) (p : α → Bool) (f : α → D) (ds : List D) (h1 : evL C its e = .ok ds e) (h2 : ik.ev ds = some (xs.map enc)) (hl : xs.length ≤ 16777216)
    (hs : ∀ x ∈ xs, ∃ e1, tg.asgn [] (enc x) (wipeE e vs) = some e1 ∧ wipeE e1 vs = wipeE e vs ∧ evE C c e1 = .ok (.val (.bl (p x))) e1 ∧ (p x = true → ∃ w, evE C elt e1 = .ok w e1 ∧ w.frz = some (f x)))
    (hv : vOk e vs = true) : evE C (.lc vs tg ik its c elt) e = .ok (.lst ((xs.filter p).map f)) e := by
  rw [ev_lc, h1]
  simp only [R.bind_ok, h2]
  have key : ∀ (l : List α) (e' : Env) (acc : List D), (∀ d ∈ l, d ∈ xs) → wipeE e' vs = wipeE e vs → acc.length + l.length ≤ 16777216 → ∃ e2, compLoop vs tg (fun e => evE C c e) (fun e => evE C elt e) (l.map enc) e' acc = .ok (acc ++ (l.filter p).map f) e2 ∧ wipeE e2 vs = wipeE e vs := by
    intro l
    induction l with
    | nil => intro e' acc _ hw _; exact ⟨e', by simp [compLoop], hw⟩
    | cons d l ih =>
      intro e' acc hm hw hn
      obtain ⟨e1, g1, g2, g3, g4⟩ := hs d (hm d List.mem_cons_self)
      rw [List.map_cons]
      unfold compLoop
      rw [hw, g1]
      simp only [g3]
      rw [List.length_cons] at hn
      cases hp : p d with
      | false =>
        obtain ⟨e2, q1, q2⟩ := ih e1 acc (fun x hx => hm x (List.mem_cons_of_mem _ hx)) g2 (by omega)
        exact ⟨e2, by simp only []; rw [q1, List.filter_cons_of_neg (by rw [hp]; decide)], q2⟩
      | true =>
        obtain ⟨w, g5, g6⟩ := g4 hp
        obtain ⟨e2, q1, q2⟩ := ih e1 (acc ++ [f d]) (fun x hx => hm x (List.mem_cons_of_mem _ hx)) g2 (by rw [List.length_append, List.length_singleton]; omega)
        refine ⟨e2, ?_, q2⟩
        simp only [g5, g6]
        rw [if_pos (by omega), q1, List.filter_cons_of_pos hp]
        simp
  obtain ⟨e2, q1, q2⟩ := key xs e [] (fun _ h => h) rfl (by simpa using hl)
  rw [q1]
  simp only [List.nil_append]
  rw [restore_same (vOk_of hv) q2]
theorem lcMap (enc : α → D) (xs : List α) (f : α → D) (ds : List D) (h1 : evL C its e = .ok ds e) (h2 : ik.ev ds = some (xs.map enc)) (hl : xs.length ≤ 16777216)
    (hs : ∀ x ∈ xs, ∃ e1, tg.asgn [] (enc x) (wipeE e vs) = some e1 ∧ wipeE e1 vs = wipeE e vs ∧ evE C c e1 = .ok (.val (.bl true)) e1 ∧ ∃ w, evE C elt e1 = .ok w e1 ∧ w.frz = some (f x))
    (hv : vOk e vs = true) : evE C (.lc vs tg ik its c elt) e = .ok (.lst (xs.map f)) e := by
  have := lc_filt (C := C) (vs := vs) (tg := tg) (ik := ik) (its := its) (c := c) (elt := elt) (e := e) enc xs (fun _ => true) f ds h1 h2 hl (fun x hx => by
    obtain ⟨e1, g1, g2, g3, g4⟩ := hs x hx
    exact ⟨e1, g1, g2, g3, fun _ => g4⟩) hv
  rw [this, List.filter_eq_self.mpr fun _ _ => rfl]
end
/-- a loop over a list: the items told by what is behind and ahead -/
theorem for_run {α : Type} {C : Cn} {pn : List Nat} {tg : Tg} {b : S} (enc : α → D) (Inv : List α → Env → Prop) (xs : List α) (e : Env) (h0 : Inv [] e)
    (hs : ∀ ys x zs e, xs = ys ++ x :: zs → Inv ys e → ∃ e1 e2, tg.asgn pn (enc x) e = some e1 ∧ (evS C pn b e1 = .nx e2 ∨ evS C pn b e1 = .ct e2) ∧ Inv (ys ++ [x]) e2) :
    ∃ e', forL C pn tg b (xs.map enc) e = .nx e' ∧ Inv xs e' := by
  have key : ∀ (zs ys : List α) (e : Env), xs = ys ++ zs → Inv ys e → ∃ e', forL C pn tg b (zs.map enc) e = .nx e' ∧ Inv xs e' := by
    intro zs
    induction zs with
    | nil => intro ys e hx hi; rw [List.append_nil] at hx; subst hx; exact ⟨e, rfl, hi⟩
    | cons x zs ih =>
      intro ys e hx hi
      obtain ⟨e1, e2, g1, g2, g3⟩ := hs ys x zs e hx hi
      obtain ⟨e', q1, q2⟩ := ih (ys ++ [x]) e2 (by rw [hx]; simp) g3
      refine ⟨e', ?_, q2⟩
      rw [List.map_cons]
      unfold forL forLoop
      rw [g1]
      rcases g2 with g2 | g2 <;> (simp only [g2]; exact q1)
  exact key xs [] e rfl h0
/-- a loop whose states are told -/
theorem for_det {α : Type} {C : Cn} {pn : List Nat} {tg : Tg} {b : S} (enc : α → D) (E : List α → Env) (xs : List α)
    (hs : ∀ ys x zs, xs = ys ++ x :: zs → ∃ e1, tg.asgn pn (enc x) (E ys) = some e1 ∧ evS C pn b e1 = .nx (E (ys ++ [x]))) :
    forL C pn tg b (xs.map enc) (E []) = .nx (E xs) := by
  obtain ⟨e', h1, h2⟩ := for_run (C := C) (pn := pn) (tg := tg) (b := b) enc (fun ys e => e = E ys) xs (E []) rfl (fun ys x zs e hx he => by
    obtain ⟨e1, g1, g2⟩ := hs ys x zs hx
    exact ⟨e1, _, he ▸ g1, .inl g2, rfl⟩)
  rw [h1, h2]
/-- what a loop's name holds behind it -/
def lastO {α : Type} (enc : α → D) (o : Option W) (ys : List α) : Option W := match ys.getLast? with
  | none => o
  | some x => some (.val (enc x))
@[simp] theorem lastO_nil {α : Type} {enc : α → D} {o : Option W} : lastO enc o [] = o := rfl
@[simp] theorem lastO_app {α : Type} {enc : α → D} {o : Option W} {ys : List α} {x : α} : lastO enc o (ys ++ [x]) = some (.val (enc x)) := by
  unfold lastO
  rw [List.getLast?_append]
  rfl
/-- a loop over a written list -/
def kF2 (C : Cn) (pn : List Nat) (tg : Tg) (b : S) (ds : List D) (r : RS) : RS := match r with
  | .nx e2 => forL C pn tg b ds e2
  | .ct e2 => forL C pn tg b ds e2
  | .bk e2 => .nx e2
  | r => r
def kF1 (C : Cn) (pn : List Nat) (tg : Tg) (b : S) (ds : List D) (o : Option Env) : RS := match o with
  | none => .bad
  | some e1 => kF2 C pn tg b ds (evS C pn b e1)
section
variable {C : Cn} {pn : List Nat} {tg : Tg} {b : S} {ds : List D} {e : Env}
theorem for_nil : forL C pn tg b [] e = .nx e := rfl
theorem for_cons {d : D} : forL C pn tg b (d :: ds) e = kF1 C pn tg b ds (tg.asgn pn d e) := rfl
@[simp] theorem kF1_some : kF1 C pn tg b ds (some e) = kF2 C pn tg b ds (evS C pn b e) := rfl
@[simp] theorem kF2_nx : kF2 C pn tg b ds (.nx e) = forL C pn tg b ds e := rfl
@[simp] theorem kF2_ct : kF2 C pn tg b ds (.ct e) = forL C pn tg b ds e := rfl
@[simp] theorem kF2_bk : kF2 C pn tg b ds (.bk e) = .nx e := rfl
@[simp] theorem kF2_rt {w : W} : kF2 C pn tg b ds (.rt w e) = .rt w e := rfl
@[simp] theorem kF2_exn {c : Nat} {p : List D} : kF2 C pn tg b ds (.exn c p e) = .exn c p e := rfl
end
/-- a while by fuel -/
theorem while_t {C : Cn} {pn : List Nat} {c : E} {b : S} {n : Nat} {e e1 e2 : Env} (h : evE C c e = .ok (.val (.bl true)) e1) (hb : evS C pn b e1 = .nx e2 ∨ evS C pn b e1 = .ct e2) : whL C pn c b (n + 1) e = whL C pn c b n e2 := by
  conv => lhs; unfold whL whileLoop
  rw [h]
  simp only [R.rs_ok]
  rcases hb with hb | hb <;> simp only [hb] <;> rfl
theorem while_f {C : Cn} {pn : List Nat} {c : E} {b : S} {n : Nat} {e e1 : Env} (h : evE C c e = .ok (.val (.bl false)) e1) : whL C pn c b (n + 1) e = .nx e1 := by
  conv => lhs; unfold whL whileLoop
  rw [h]
  rfl
end Mn
set_option Elab.async false
set_option linter.all false
set_option maxRecDepth 100000
set_option maxHeartbeats 0
namespace T
open PySem L2 Mn
/-- is_whole -/
def f0 : Fd := ⟨1, [], 1,
 (.seq (.ret (.and2 (.prim (.isi [.int]) (.cons (.var 0) .nil)) (.one (.nt (.prim (.isi [.bool]) (.cons (.var 0) .nil))))))
 .skip)⟩
/-- is_row -/
def f1 : Fd := ⟨1, [], 2,
 (.seq (.ife (.or2 (.nt (.prim (.isi [.tup]) (.cons (.var 0) .nil))) (.or2 (.prim .gt (.cons (.prim .len (.cons (.var 0) .nil)) (.cons (.glb 1000) .nil))) (.one (.nt (.prim .all_ (.cons (.lc [1] (.nm 1) .seq (.cons (.var 0) .nil) (.cst (.bl true)) (.call 0 (.cons (.var 1) .nil))) .nil))))))
 (.seq (.ret (.cst (.bl false)))
 .skip)
 .skip)
 (.seq (.ret (.prim .eq (.cons (.prim .sortd (.cons (.var 0) .nil)) (.cons (.prim .lstRng1 (.cons (.prim .len (.cons (.var 0) .nil)) .nil)) .nil))))
 .skip))⟩
/-- need_row -/
def f2 : Fd := ⟨1, [], 1,
 (.seq (.ife (.nt (.call 1 (.cons (.var 0) .nil)))
 .never
 .skip)
 .skip)⟩
/-- back -/
def f3 : Fd := ⟨1, [], 1,
 (.seq (.ret (.prim .tupRev (.cons (.var 0) .nil)))
 .skip)⟩
/-- turned -/
def f4 : Fd := ⟨1, [], 1,
 (.seq (.expr (.call 2 (.cons (.var 0) .nil)))
 (.seq (.ret (.call 3 (.cons (.var 0) .nil)))
 .skip))⟩
/-- inverse -/
def f5 : Fd := ⟨1, [], 4,
 (.seq (.setE 1 (.prim .mul (.cons (.lstd (.cons (.cst (.int (0))) .nil)) (.cons (.prim .len (.cons (.var 0) .nil)) .nil))))
 (.seq (.for_ (.tcons (.nm 2) (.tcons (.nm 3) .tnil)) .enum (.cons (.var 0) .nil)
 (.seq (.setIx 1 (.var 3) (.var 2))
 .skip))
 (.seq (.ret (.prim .tupOf (.cons (.var 1) .nil)))
 .skip)))⟩
/-- sum_of -/
def f6 : Fd := ⟨2, [], 3,
 (.seq (.ret (.prim .add (.cons (.var 0) (.cons (.prim .tupOf (.cons (.lc [2] (.nm 2) .seq (.cons (.var 1) .nil) (.cst (.bl true)) (.prim .add (.cons (.var 2) (.cons (.prim .len (.cons (.var 0) .nil)) .nil)))) .nil)) .nil))))
 .skip)⟩
/-- skew_of -/
def f7 : Fd := ⟨2, [], 3,
 (.seq (.ret (.prim .add (.cons (.prim .tupOf (.cons (.lc [2] (.nm 2) .seq (.cons (.var 0) .nil) (.cst (.bl true)) (.prim .add (.cons (.var 2) (.cons (.prim .len (.cons (.var 1) .nil)) .nil)))) .nil)) (.cons (.var 1) .nil))))
 .skip)⟩
/-- need_room -/
def f8 : Fd := ⟨1, [], 1,
 (.seq (.ife (.prim .gt (.cons (.var 0) (.cons (.glb 1000) .nil)))
 .never
 .skip)
 .skip)⟩
/-- beside -/
def f9 : Fd := ⟨2, [], 2,
 (.seq (.expr (.call 2 (.cons (.var 0) .nil)))
 (.seq (.expr (.call 2 (.cons (.var 1) .nil)))
 (.seq (.expr (.call 8 (.cons (.prim .add (.cons (.prim .len (.cons (.var 0) .nil)) (.cons (.prim .len (.cons (.var 1) .nil)) .nil))) .nil)))
 (.seq (.ret (.call 6 (.cons (.var 0) (.cons (.var 1) .nil))))
 .skip))))⟩
/-- under -/
def f10 : Fd := ⟨2, [], 2,
 (.seq (.expr (.call 2 (.cons (.var 0) .nil)))
 (.seq (.expr (.call 2 (.cons (.var 1) .nil)))
 (.seq (.expr (.call 8 (.cons (.prim .add (.cons (.prim .len (.cons (.var 0) .nil)) (.cons (.prim .len (.cons (.var 1) .nil)) .nil))) .nil)))
 (.seq (.ret (.call 7 (.cons (.var 0) (.cons (.var 1) .nil))))
 .skip))))⟩
/-- slots_from -/
def f11 : Fd := ⟨2, [], 5,
 (.seq (.setE 2 (.lstd .nil))
 (.seq (.for_ (.tcons (.nm 3) (.tcons (.nm 4) .tnil)) .enum (.cons (.var 0) .nil)
 (.seq (.ife (.and2 (.prim .ge (.cons (.var 4) (.cons (.var 1) .nil))) (.and2 (.prim .gt (.cons (.var 3) (.cons (.cst (.int (0))) .nil))) (.one (.prim .ge (.cons (.prim .ix (.cons (.var 0) (.cons (.prim .sub (.cons (.var 3) (.cons (.cst (.int (1))) .nil))) .nil))) (.cons (.var 1) .nil))))))
 (.seq (.setIx 2 (.cst (.int (-1))) (.tupd (.cons (.prim .ix (.cons (.prim .ix (.cons (.var 2) (.cons (.cst (.int (-1))) .nil))) (.cons (.cst (.int (0))) .nil))) (.cons (.var 3) .nil))))
 .skip)
 (.seq (.ife (.prim .ge (.cons (.var 4) (.cons (.var 1) .nil)))
 (.seq (.expr (.mut .append 2 none (.cons (.tupd (.cons (.var 3) (.cons (.var 3) .nil))) .nil)))
 .skip)
 .skip)
 .skip))
 .skip))
 (.seq (.ret (.var 2))
 .skip)))⟩
/-- kind_at -/
def f12 : Fd := ⟨3, [], 3,
 (.seq (.ife (.prim .eq (.cons (.var 1) (.cons (.var 2) .nil)))
 (.seq (.ret (.cst (.str "fill")))
 .skip)
 .skip)
 (.seq (.ife (.prim .eq (.cons (.var 0) (.cons (.var 1) .nil)))
 (.seq (.ret (.cst (.str "left")))
 .skip)
 .skip)
 (.seq (.ret (.ife (.prim .eq (.cons (.var 0) (.cons (.var 2) .nil))) (.cst (.str "right")) (.cst (.str "split"))))
 .skip)))⟩
/-- letter_of -/
def f13 : Fd := ⟨3, [], 7,
 (.seq (.setE 3 (.call 11 (.cons (.var 0) (.cons (.var 1) .nil))))
 (.seq (.setE 4 (.prim .len (.cons (.lc [5, 6] (.tcons (.nm 5) (.tcons (.nm 6) .tnil)) .seq (.cons (.var 3) .nil) (.prim .lt (.cons (.var 6) (.cons (.var 2) .nil))) (.var 5)) .nil)))
 (.seq (.asg (.tcons (.nm 5) (.tcons (.nm 6) .tnil)) (.prim .ix (.cons (.var 3) (.cons (.var 4) .nil))))
 (.seq (.ret (.tupd (.cons (.var 4) (.cons (.call 12 (.cons (.var 2) (.cons (.var 5) (.cons (.var 6) .nil)))) .nil))))
 .skip))))⟩
/-- word_in -/
def f14 : Fd := ⟨1, [], 3,
 (.seq (.ret (.prim .tupOf (.cons (.lc [1, 2] (.tcons (.nm 1) (.tcons (.nm 2) .tnil)) .enum (.cons (.call 5 (.cons (.var 0) .nil)) .nil) (.cst (.bl true)) (.call 13 (.cons (.var 0) (.cons (.var 1) (.cons (.var 2) .nil))))) .nil)))
 .skip)⟩
/-- word_of -/
def f15 : Fd := ⟨1, [], 1,
 (.seq (.expr (.call 2 (.cons (.var 0) .nil)))
 (.seq (.ret (.call 14 (.cons (.var 0) .nil)))
 .skip))⟩
/-- open_slots -/
def f16 : Fd := ⟨1, [], 2,
 (.seq (.expr (.call 2 (.cons (.var 0) .nil)))
 (.seq (.ret (.prim .tupOf (.cons (.lc [1] (.nm 1) .rng1 (.cons (.prim .add (.cons (.prim .len (.cons (.var 0) .nil)) (.cons (.cst (.int (1))) .nil))) .nil) (.cst (.bl true)) (.prim .len (.cons (.call 11 (.cons (.var 0) (.cons (.var 1) .nil))) .nil))) .nil)))
 .skip))⟩
/-- slots_behind -/
def f17 : Fd := ⟨2, [], 2,
 (.seq (.ife (.prim .eq (.cons (.var 1) (.cons (.cst (.str "fill")) .nil)))
 (.seq (.ret (.prim .sub (.cons (.var 0) (.cons (.cst (.int (1))) .nil))))
 .skip)
 .skip)
 (.seq (.ret (.ife (.prim .eq (.cons (.var 1) (.cons (.cst (.str "split")) .nil))) (.prim .add (.cons (.var 0) (.cons (.cst (.int (1))) .nil))) (.var 0)))
 .skip))⟩
/-- is_letter -/
def f18 : Fd := ⟨1, [], 1,
 (.seq (.ife (.or2 (.nt (.prim (.isi [.tup]) (.cons (.var 0) .nil))) (.or2 (.prim .ne (.cons (.prim .len (.cons (.var 0) .nil)) (.cons (.cst (.int (2))) .nil))) (.or2 (.nt (.call 0 (.cons (.prim .ix (.cons (.var 0) (.cons (.cst (.int (0))) .nil))) .nil))) (.one (.prim .lt (.cons (.prim .ix (.cons (.var 0) (.cons (.cst (.int (0))) .nil))) (.cons (.cst (.int (0))) .nil)))))))
 (.seq (.ret (.cst (.bl false)))
 .skip)
 .skip)
 (.seq (.ret (.and2 (.prim (.isi [.str]) (.cons (.prim .ix (.cons (.var 0) (.cons (.cst (.int (1))) .nil))) .nil)) (.one (.prim .in_ (.cons (.prim .ix (.cons (.var 0) (.cons (.cst (.int (1))) .nil))) (.cons (.glb 1001) .nil))))))
 .skip))⟩
/-- is_word -/
def f19 : Fd := ⟨1, [], 5,
 (.seq (.ife (.or2 (.nt (.prim (.isi [.tup]) (.cons (.var 0) .nil))) (.or2 (.prim .gt (.cons (.prim .len (.cons (.var 0) .nil)) (.cons (.glb 1000) .nil))) (.one (.nt (.prim .all_ (.cons (.lc [4] (.nm 4) .seq (.cons (.var 0) .nil) (.cst (.bl true)) (.call 18 (.cons (.var 4) .nil))) .nil))))))
 (.seq (.ret (.cst (.bl false)))
 .skip)
 .skip)
 (.seq (.setE 1 (.ife (.prim (.eqNil true true) (.cons (.var 0) .nil)) (.cst (.int (1))) (.cst (.int (0)))))
 (.seq (.for_ (.tcons (.nm 2) (.tcons (.nm 3) .tnil)) .seq (.cons (.var 0) .nil)
 (.seq (.ife (.prim .ge (.cons (.var 2) (.cons (.var 1) .nil)))
 (.seq (.ret (.cst (.bl false)))
 .skip)
 .skip)
 (.seq (.setE 1 (.call 17 (.cons (.var 1) (.cons (.var 3) .nil))))
 .skip)))
 (.seq (.ret (.prim .eq (.cons (.var 1) (.cons (.cst (.int (0))) .nil))))
 .skip))))⟩
/-- put_by -/
def f20 : Fd := ⟨3, [], 8,
 (.seq (.asg (.tcons (.nm 5) (.tcons (.nm 6) .tnil)) (.var 2))
 (.seq (.setE 3 (.prim .ix (.cons (.lc [4, 7] (.tcons (.nm 7) (.tcons (.nm 4) .tnil)) .enum (.cons (.var 0) .nil) (.prim .is_ (.cons (.var 4) (.cons (.cst .non) .nil))) (.var 7)) (.cons (.var 5) .nil))))
 (.seq (.setE 4 (.lstd (.cons (.var 1) .nil)))
 (.seq (.ife (.prim .in_ (.cons (.var 6) (.cons (.tupd (.cons (.cst (.str "right")) (.cons (.cst (.str "split")) .nil))) .nil)))
 (.seq (.setE 4 (.prim .add (.cons (.lstd (.cons (.cst .non) .nil)) (.cons (.var 4) .nil))))
 .skip)
 .skip)
 (.seq (.ife (.prim .in_ (.cons (.var 6) (.cons (.tupd (.cons (.cst (.str "left")) (.cons (.cst (.str "split")) .nil))) .nil)))
 (.seq (.setE 4 (.prim .add (.cons (.var 4) (.cons (.lstd (.cons (.cst .non) .nil)) .nil))))
 .skip)
 .skip)
 (.seq (.ret (.prim .add (.cons (.prim .add (.cons (.prim (.sl false true) (.cons (.var 0) (.cons (.var 3) .nil))) (.cons (.var 4) .nil))) (.cons (.prim (.sl true false) (.cons (.var 0) (.cons (.prim .add (.cons (.var 3) (.cons (.cst (.int (1))) .nil))) .nil))) .nil))))
 .skip))))))⟩
/-- row_by -/
def f21 : Fd := ⟨1, [], 4,
 (.seq (.setE 1 (.ife (.prim (.eqNil true true) (.cons (.var 0) .nil)) (.lstd (.cons (.cst .non) .nil)) (.lstd .nil)))
 (.seq (.for_ (.tcons (.nm 2) (.tcons (.nm 3) .tnil)) .enum (.cons (.var 0) .nil)
 (.seq (.setE 1 (.call 20 (.cons (.var 1) (.cons (.var 2) (.cons (.var 3) .nil)))))
 .skip))
 (.seq (.ret (.prim .tupOf (.cons (.var 1) .nil)))
 .skip)))⟩
/-- row_of_word -/
def f22 : Fd := ⟨1, [], 1,
 (.seq (.ife (.nt (.call 19 (.cons (.var 0) .nil)))
 .never
 .skip)
 (.seq (.ret (.call 21 (.cons (.var 0) .nil)))
 .skip))⟩
/-- _law_begun -/
def f23 : Fd := ⟨1, [], 3,
 (.seq (.setE 1 (.lc [2] (.nm 2) .seq (.cons (.var 0) .nil) (.prim .ge (.cons (.prim .abs (.cons (.var 2) .nil)) (.cons (.prim .pow (.cons (.cst (.int (10))) (.cons (.cst (.int (18))) .nil))) .nil))) (.prim .sub (.cons (.prim .abs (.cons (.var 2) .nil)) (.cons (.prim .pow (.cons (.cst (.int (10))) (.cons (.cst (.int (18))) .nil))) .nil)))))
 (.seq (.ret (.rcd ["great", "cells", "rest", "turn"] (.cons (.mv 1) (.cons (.frz (.lc [2] (.nm 2) .seq (.cons (.var 0) .nil) (.cst (.bl true)) (.prim .abs (.cons (.var 2) .nil)))) (.cons (.cst (.int (0))) (.cons (.cst (.int (0))) .nil))))))
 .skip))⟩
/-- _law_blended -/
def f24 : Fd := ⟨1, [0], 6,
 (.seq (.par [2, 3] (.cons (.prim .add (.cons (.pth 0 "turn") (.cons (.cst (.int (1))) .nil))) (.cons (.cst (.int (0))) .nil)))
 (.seq (.setRc 0 "turn" (.var 2))
 (.seq (.for_ (.nm 1) .seq (.cons (.lstd (.cons (.cst (.int (2147483579))) (.cons (.cst (.int (2147483629))) (.cons (.cst (.int (2147483563))) .nil)))) .nil)
 (.seq (.setE 4 (.prim .add (.cons (.prim .mul (.cons (.cst (.int (48271))) (.cons (.var 2) .nil))) (.cons (.prim .fdiv (.cons (.var 1) (.cons (.cst (.int (53))) .nil))) .nil))))
 (.seq (.for_ (.nm 5) .seq (.cons (.pth 0 "cells") .nil)
 (.seq (.setE 4 (.prim .mod (.cons (.prim .intOf (.cons (.prim .add (.cons (.prim .add (.cons (.prim .mul (.cons (.var 4) (.cons (.cst (.int (69621))) .nil))) (.cons (.var 5) .nil))) (.cons (.var 2) .nil))) .nil)) (.cons (.var 1) .nil))))
 .skip))
 (.seq (.setE 3 (.prim .add (.cons (.prim .mul (.cons (.var 3) (.cons (.cst (.int (2147483647))) .nil))) (.cons (.prim .mod (.cons (.prim .intOf (.cons (.prim .pow (.cons (.var 4) (.cons (.cst (.int (5))) .nil))) .nil)) (.cons (.var 1) .nil))) .nil))))
 .skip))))
 (.seq (.ret (.var 3))
 .skip))))⟩
/-- _law_draw -/
def f25 : Fd := ⟨2, [0], 3,
 (.seq (.ife (.prim .eq (.cons (.pth 0 "rest") (.cons (.cst (.int (0))) .nil)))
 (.seq (.setRc 0 "rest" (.ife (.prim (.eqNil true false) (.cons (.pth 0 "great") .nil)) (.mut .popAt 0 (some "great") (.cons (.cst (.int (0))) .nil)) (.call 24 (.cons (.io 0) .nil))))
 .skip)
 .skip)
 (.seq (.setE 2 (.prim .mod (.cons (.prim .intOf (.cons (.pth 0 "rest") .nil)) (.cons (.var 1) .nil))))
 (.seq (.setRc 0 "rest" (.prim .fdiv (.cons (.pth 0 "rest") (.cons (.var 1) .nil))))
 (.seq (.ret (.var 2))
 .skip))))⟩
/-- _law_pick -/
def f26 : Fd := ⟨2, [0], 2,
 (.seq (.ret (.prim .ix (.cons (.var 1) (.cons (.call 25 (.cons (.io 0) (.cons (.prim .len (.cons (.var 1) .nil)) .nil))) .nil))))
 .skip)⟩
/-- _law_shuffled -/
def f27 : Fd := ⟨2, [0], 4,
 (.seq (.par [2, 3] (.cons (.prim .lstOf (.cons (.var 1) .nil)) (.cons (.lstd .nil) .nil)))
 (.seq (.while_ (.prim (.eqNil true false) (.cons (.var 2) .nil))
 (.seq (.expr (.mut .append 3 none (.cons (.mut .popAt 2 none (.cons (.call 25 (.cons (.io 0) (.cons (.prim .len (.cons (.var 2) .nil)) .nil))) .nil)) .nil)))
 .skip))
 (.seq (.ret (.var 3))
 .skip)))⟩
/-- _law_is_truth -/
def f28 : Fd := ⟨2, [], 2,
 (.seq (.ret (.ife (.var 1) (.prim .is_ (.cons (.var 0) (.cons (.cst (.bl true)) .nil))) (.prim .is_ (.cons (.var 0) (.cons (.cst (.bl false)) .nil)))))
 .skip)⟩
/-- _law_same -/
def f29 : Fd := ⟨2, [], 9,
 (.seq (.setE 2 (.lstd (.cons (.tupd (.cons (.var 0) (.cons (.var 1) .nil))) .nil)))
 (.seq (.while_ (.prim (.eqNil true false) (.cons (.var 2) .nil))
 (.seq (.asg (.tcons (.nm 3) (.tcons (.nm 4) .tnil)) (.mut .pop 2 none .nil))
 (.seq (.ife (.or2 (.prim .is_ (.cons (.var 4) (.cons (.cst .non) .nil))) (.one (.prim (.isi [.bool]) (.cons (.var 4) .nil))))
 (.seq (.ife (.ife (.prim .is_ (.cons (.var 4) (.cons (.cst .non) .nil))) (.prim .isn (.cons (.var 3) (.cons (.cst .non) .nil))) (.nt (.call 28 (.cons (.var 3) (.cons (.var 4) .nil)))))
 (.seq (.ret (.cst (.bl false)))
 .skip)
 .skip)
 .skip)
 (.seq (.ife (.prim (.isi [.int, .str]) (.cons (.var 4) .nil))
 (.seq (.ife (.or2 (.prim (.isi [.bool]) (.cons (.var 3) .nil)) (.or2 (.prim .ne (.cons (.prim (.isi [.int]) (.cons (.var 3) .nil)) (.cons (.prim (.isi [.int]) (.cons (.var 4) .nil)) .nil))) (.one (.prim .ne (.cons (.var 3) (.cons (.var 4) .nil))))))
 (.seq (.ret (.cst (.bl false)))
 .skip)
 .skip)
 .skip)
 (.seq (.ife (.prim (.isi [.dic]) (.cons (.var 4) .nil))
 (.seq (.ife (.or2 (.nt (.prim (.isi [.dic]) (.cons (.var 3) .nil))) (.one (.prim .ne (.cons (.prim .lstOf (.cons (.var 3) .nil)) (.cons (.prim .lstOf (.cons (.var 4) .nil)) .nil)))))
 (.seq (.ret (.cst (.bl false)))
 .skip)
 .skip)
 (.seq .never
 (.seq (.expr (.mut .extend 2 none (.cons (.lc [6] (.nm 6) .seq (.cons (.var 4) .nil) (.cst (.bl true)) (.tupd (.cons (.prim .ix (.cons (.var 3) (.cons (.var 6) .nil))) (.cons (.prim .ix (.cons (.var 4) (.cons (.var 6) .nil))) .nil)))) .nil)))
 .skip)))
 (.seq (.setE 5 (.lstd (.cons (.and2 (.prim (.isi [.tup]) (.cons (.var 3) .nil)) (.one (.prim (.isi [.tup]) (.cons (.var 4) .nil)))) (.cons (.and2 (.prim (.isi [.lst]) (.cons (.var 3) .nil)) (.one (.prim (.isi [.lst]) (.cons (.var 4) .nil)))) .nil))))
 (.seq (.ife (.or2 (.prim .nin (.cons (.cst (.bl true)) (.cons (.var 5) .nil))) (.one (.prim .ne (.cons (.prim .len (.cons (.var 3) .nil)) (.cons (.prim .len (.cons (.var 4) .nil)) .nil)))))
 (.seq (.ret (.cst (.bl false)))
 .skip)
 .skip)
 (.seq (.expr (.mut .extend 2 none (.cons (.lc [7, 8] (.tcons (.nm 7) (.tcons (.nm 8) .tnil)) .zip (.cons (.var 3) (.cons (.var 4) .nil)) (.cst (.bl true)) (.tupd (.cons (.var 7) (.cons (.var 8) .nil)))) .nil)))
 .skip))))
 .skip))
 .skip))
 .skip)))
 (.seq (.ret (.cst (.bl true)))
 .skip)))⟩
/-- _law_swapped -/
def f30 : Fd := ⟨1, [], 4,
 (.seq (.setE 1 (.prim .mul (.cons (.lstd (.cons (.cst (.int (0))) .nil)) (.cons (.prim .len (.cons (.var 0) .nil)) .nil))))
 (.seq (.for_ (.tcons (.nm 2) (.tcons (.nm 3) .tnil)) .enum (.cons (.var 0) .nil)
 (.seq (.setIx 1 (.var 3) (.var 2))
 .skip))
 (.seq (.ret (.prim .tupOf (.cons (.var 1) .nil)))
 .skip)))⟩
/-- _law_beside -/
def f31 : Fd := ⟨2, [], 3,
 (.seq (.ret (.prim .add (.cons (.prim .tupOf (.cons (.var 0) .nil)) (.cons (.prim .tupOf (.cons (.lc [2] (.nm 2) .seq (.cons (.var 1) .nil) (.cst (.bl true)) (.prim .add (.cons (.var 2) (.cons (.prim .len (.cons (.var 0) .nil)) .nil)))) .nil)) .nil))))
 .skip)⟩
/-- _law_under -/
def f32 : Fd := ⟨2, [], 3,
 (.seq (.ret (.prim .add (.cons (.prim .tupOf (.cons (.lc [2] (.nm 2) .seq (.cons (.var 0) .nil) (.cst (.bl true)) (.prim .add (.cons (.var 2) (.cons (.prim .len (.cons (.var 1) .nil)) .nil)))) .nil)) (.cons (.prim .tupOf (.cons (.var 1) .nil)) .nil))))
 .skip)⟩
/-- _law_dealt -/
def f33 : Fd := ⟨2, [0], 2,
 (.seq (.ret (.prim .tupOf (.cons (.call 27 (.cons (.io 0) (.cons (.prim .lstRng1 (.cons (.var 1) .nil)) .nil))) .nil)))
 .skip)⟩
/-- _law_ten_families -/
def f34 : Fd := ⟨0, [], 0,
 (.seq (.ret (.lstd (.cons (.cst (.str "floors up up")) (.cons (.cst (.str "floors up down")) (.cons (.cst (.str "floors down up")) (.cons (.cst (.str "floors down down")) (.cons (.cst (.str "sides up up")) (.cons (.cst (.str "sides up down")) (.cons (.cst (.str "sides down up")) (.cons (.cst (.str "sides down down")) (.cons (.cst (.str "pairs up")) (.cons (.cst (.str "pairs down")) .nil))))))))))))
 .skip)⟩
/-- _law_family_row -/
def f35 : Fd := ⟨2, [], 5,
 (.seq (.par [3, 4] (.cons (.prim (.split " ") (.cons (.var 0) .nil)) (.cons (.lstd .nil) .nil)))
 (.seq (.ife (.prim .eq (.cons (.prim .ix (.cons (.var 3) (.cons (.cst (.int (0))) .nil))) (.cons (.cst (.str "pairs")) .nil)))
 (.seq (.for_ (.nm 2) .rng1 (.cons (.var 1) .nil)
 (.seq (.expr (.mut .extend 4 none (.cons (.lstd (.cons (.prim .add (.cons (.prim .mul (.cons (.cst (.int (2))) (.cons (.var 2) .nil))) (.cons (.cst (.int (1))) .nil))) (.cons (.prim .mul (.cons (.cst (.int (2))) (.cons (.var 2) .nil))) .nil))) .nil)))
 .skip))
 (.seq (.ret (.ife (.prim .eq (.cons (.prim .ix (.cons (.var 3) (.cons (.cst (.int (1))) .nil))) (.cons (.cst (.str "up")) .nil))) (.prim .tupOf (.cons (.var 4) .nil)) (.prim .tupOf (.cons (.prim .rv (.cons (.var 4) .nil)) .nil))))
 .skip))
 .skip)
 (.seq (.for_ (.nm 2) .rng1 (.cons (.var 1) .nil)
 (.seq (.expr (.mut .extend 4 none (.cons (.lstd (.cons (.ife (.prim .eq (.cons (.prim .ix (.cons (.var 3) (.cons (.cst (.int (1))) .nil))) (.cons (.cst (.str "up")) .nil))) (.var 2) (.prim .sub (.cons (.prim .sub (.cons (.var 1) (.cons (.cst (.int (1))) .nil))) (.cons (.var 2) .nil)))) (.cons (.ife (.prim .eq (.cons (.prim .ix (.cons (.var 3) (.cons (.cst (.int (2))) .nil))) (.cons (.cst (.str "up")) .nil))) (.prim .add (.cons (.var 1) (.cons (.var 2) .nil))) (.prim .sub (.cons (.prim .sub (.cons (.prim .mul (.cons (.cst (.int (2))) (.cons (.var 1) .nil))) (.cons (.cst (.int (1))) .nil))) (.cons (.var 2) .nil)))) .nil))) .nil)))
 .skip))
 (.seq (.ret (.ife (.prim .eq (.cons (.prim .ix (.cons (.var 3) (.cons (.cst (.int (0))) .nil))) (.cons (.cst (.str "floors")) .nil))) (.prim .tupOf (.cons (.var 4) .nil)) (.call 30 (.cons (.var 4) .nil))))
 .skip))))⟩
/-- _law_beside_word -/
def f36 : Fd := ⟨2, [], 6,
 (.seq (.setE 2 (.lstd .nil))
 (.seq (.for_ (.tcons (.nm 3) (.tcons (.tcons (.nm 4) (.tcons (.nm 5) .tnil)) .tnil)) .enum (.cons (.call 15 (.cons (.var 0) .nil)) .nil)
 (.seq (.ife (.prim .eq (.cons (.prim .ix (.cons (.var 0) (.cons (.cst (.int (-1))) .nil))) (.cons (.var 3) .nil)))
 (.seq (.setE 5 (.ife (.prim .eq (.cons (.var 5) (.cons (.cst (.str "fill")) .nil))) (.cst (.str "left")) (.cst (.str "split"))))
 .skip)
 .skip)
 (.seq (.expr (.mut .append 2 none (.cons (.tupd (.cons (.var 4) (.cons (.var 5) .nil))) .nil)))
 .skip)))
 (.seq (.ret (.prim .add (.cons (.prim .tupOf (.cons (.var 2) .nil)) (.cons (.call 15 (.cons (.var 1) .nil)) .nil))))
 .skip)))⟩
/-- _law_under_word -/
def f37 : Fd := ⟨2, [], 6,
 (.seq (.setE 2 (.lstd .nil))
 (.seq (.for_ (.tcons (.nm 3) (.tcons (.tcons (.nm 4) (.tcons (.nm 5) .tnil)) .tnil)) .enum (.cons (.call 15 (.cons (.var 1) .nil)) .nil)
 (.seq (.ife (.prim .eq (.cons (.prim .ix (.cons (.var 1) (.cons (.cst (.int (0))) .nil))) (.cons (.var 3) .nil)))
 (.seq (.expr (.mut .append 2 none (.cons (.tupd (.cons (.var 4) (.cons (.ife (.prim .eq (.cons (.var 5) (.cons (.cst (.str "fill")) .nil))) (.cst (.str "right")) (.cst (.str "split"))) .nil))) .nil)))
 .skip)
 (.seq (.expr (.mut .append 2 none (.cons (.tupd (.cons (.ife (.prim .lt (.cons (.prim .ix (.cons (.var 1) (.cons (.cst (.int (0))) .nil))) (.cons (.var 3) .nil))) (.prim .add (.cons (.var 4) (.cons (.cst (.int (1))) .nil))) (.var 4)) (.cons (.var 5) .nil))) .nil)))
 .skip))
 .skip))
 (.seq (.ret (.prim .add (.cons (.prim .tupOf (.cons (.var 2) .nil)) (.cons (.call 15 (.cons (.var 0) .nil)) .nil))))
 .skip)))⟩
/-- _law_back_word -/
def f38 : Fd := ⟨1, [], 5,
 (.seq (.setE 1 (.dicd [(.str "fill"), (.str "left"), (.str "right"), (.str "split")] (.cons (.cst (.str "fill")) (.cons (.cst (.str "right")) (.cons (.cst (.str "left")) (.cons (.cst (.str "split")) .nil))))))
 (.seq (.setE 2 (.call 16 (.cons (.var 0) .nil)))
 (.seq (.ret (.prim .tupOf (.cons (.lc [3, 4] (.tcons (.nm 3) (.tcons (.nm 4) .tnil)) .enum (.cons (.call 15 (.cons (.var 0) .nil)) .nil) (.cst (.bl true)) (.tupd (.cons (.prim .sub (.cons (.prim .sub (.cons (.prim .ix (.cons (.var 2) (.cons (.var 3) .nil))) (.cons (.cst (.int (1))) .nil))) (.cons (.prim .ix (.cons (.var 4) (.cons (.cst (.int (0))) .nil))) .nil))) (.cons (.prim .ix (.cons (.var 1) (.cons (.prim .ix (.cons (.var 4) (.cons (.cst (.int (1))) .nil))) .nil))) .nil)))) .nil)))
 .skip)))⟩
/-- _law_exchange_right -/
def f39 : Fd := ⟨2, [0], 10,
 (.seq (.setE 2 (.call 25 (.cons (.io 0) (.cons (.prim .sub (.cons (.prim .len (.cons (.var 1) .nil)) (.cons (.cst (.int (1))) .nil))) .nil))))
 (.seq (.setE 3 (.prim .tupOf (.cons (.lc [8] (.nm 8) .seq (.cons (.var 1) .nil) (.cst (.bl true)) (.ife (.prim .eq (.cons (.var 8) (.cons (.var 2) .nil))) (.prim .add (.cons (.var 2) (.cons (.cst (.int (1))) .nil))) (.ife (.prim .eq (.cons (.var 8) (.cons (.prim .add (.cons (.var 2) (.cons (.cst (.int (1))) .nil))) .nil))) (.var 2) (.var 8)))) .nil)))
 (.seq (.asg (.tcons (.nm 4) (.tcons (.nm 5) .tnil)) (.tupd (.cons (.call 15 (.cons (.var 1) .nil)) (.cons (.call 15 (.cons (.var 3) .nil)) .nil))))
 (.seq (.asg (.tcons (.nm 6) (.tcons (.nm 7) .tnil)) (.tupd (.cons (.call 16 (.cons (.var 1) .nil)) (.cons (.call 16 (.cons (.var 3) .nil)) .nil))))
 (.seq (.ife (.prim (.eqNil true false) (.cons (.lc [9] (.nm 9) .rng1 (.cons (.prim .len (.cons (.var 1) .nil)) .nil) (.and2 (.prim .nin (.cons (.var 9) (.cons (.lstd (.cons (.var 2) (.cons (.prim .add (.cons (.var 2) (.cons (.cst (.int (1))) .nil))) .nil))) .nil))) (.one (.prim .ne (.cons (.prim .ix (.cons (.var 4) (.cons (.var 9) .nil))) (.cons (.prim .ix (.cons (.var 5) (.cons (.var 9) .nil))) .nil))))) (.cst (.int (1)))) .nil))
 (.seq (.ret (.cst (.bl false)))
 .skip)
 .skip)
 (.seq (.ife (.prim (.eqNil true false) (.cons (.lc [9] (.nm 9) .rng1 (.cons (.prim .add (.cons (.prim .len (.cons (.var 1) .nil)) (.cons (.cst (.int (1))) .nil))) .nil) (.and2 (.prim .ne (.cons (.var 9) (.cons (.prim .add (.cons (.var 2) (.cons (.cst (.int (1))) .nil))) .nil))) (.one (.prim .ne (.cons (.prim .ix (.cons (.var 6) (.cons (.var 9) .nil))) (.cons (.prim .ix (.cons (.var 7) (.cons (.var 9) .nil))) .nil))))) (.cst (.int (1)))) .nil))
 (.seq (.ret (.cst (.bl false)))
 .skip)
 .skip)
 (.seq (.ret (.and2 (.prim .ne (.cons (.var 5) (.cons (.var 4) .nil))) (.one (.call 29 (.cons (.call 22 (.cons (.var 5) .nil)) (.cons (.var 3) .nil))))))
 .skip)))))))⟩
/-- law -/
def f40 : Fd := ⟨1, [], 8,
 (.seq (.setE 1 (.call 23 (.cons (.var 0) .nil)))
 (.seq (.for_ (.nm 2) .rng1 (.cons (.prim .add (.cons (.cst (.int (2))) (.cons (.prim .min2 (.cons (.prim .len (.cons (.var 0) .nil)) (.cons (.cst (.int (6))) .nil))) .nil))) .nil)
 (.seq (.par [4, 5] (.cons (.call 33 (.cons (.io 1) (.cons (.prim .add (.cons (.cst (.int (1))) (.cons (.call 25 (.cons (.io 1) (.cons (.cst (.int (20))) .nil))) .nil))) .nil))) (.cons (.call 33 (.cons (.io 1) (.cons (.prim .add (.cons (.cst (.int (1))) (.cons (.call 25 (.cons (.io 1) (.cons (.cst (.int (20))) .nil))) .nil))) .nil))) .nil)))
 (.seq (.ife (.prim .eq (.cons (.call 25 (.cons (.io 1) (.cons (.cst (.int (3))) .nil))) (.cons (.cst (.int (0))) .nil)))
 (.seq (.setE 4 (.call 35 (.cons (.call 26 (.cons (.io 1) (.cons (.call 34 .nil) .nil))) (.cons (.prim .add (.cons (.cst (.int (1))) (.cons (.call 25 (.cons (.io 1) (.cons (.cst (.int (10))) .nil))) .nil))) .nil))))
 .skip)
 .skip)
 (.seq (.par [6, 7] (.cons (.call 9 (.cons (.var 4) (.cons (.var 5) .nil))) (.cons (.call 10 (.cons (.var 4) (.cons (.var 5) .nil))) .nil)))
 (.seq (.ife (.or2 (.nt (.call 29 (.cons (.call 15 (.cons (.var 6) .nil)) (.cons (.call 36 (.cons (.var 4) (.cons (.var 5) .nil))) .nil)))) (.one (.nt (.call 29 (.cons (.var 6) (.cons (.call 31 (.cons (.var 4) (.cons (.var 5) .nil))) .nil))))))
 (.seq (.ret (.cst (.bl false)))
 .skip)
 .skip)
 (.seq (.ife (.or2 (.nt (.call 29 (.cons (.call 15 (.cons (.var 7) .nil)) (.cons (.call 37 (.cons (.var 4) (.cons (.var 5) .nil))) .nil)))) (.one (.nt (.call 29 (.cons (.var 7) (.cons (.call 32 (.cons (.var 4) (.cons (.var 5) .nil))) .nil))))))
 (.seq (.ret (.cst (.bl false)))
 .skip)
 .skip)
 (.seq (.for_ (.nm 3) .seq (.cons (.lstd (.cons (.var 4) (.cons (.var 6) (.cons (.var 7) .nil)))) .nil)
 (.seq (.ife (.nt (.call 29 (.cons (.call 15 (.cons (.call 4 (.cons (.var 3) .nil)) .nil)) (.cons (.call 38 (.cons (.var 3) .nil)) .nil))))
 (.seq (.ret (.cst (.bl false)))
 .skip)
 .skip)
 (.seq (.ife (.and2 (.prim .gt (.cons (.prim .len (.cons (.var 3) .nil)) (.cons (.cst (.int (1))) .nil))) (.one (.nt (.call 39 (.cons (.io 1) (.cons (.var 3) .nil))))))
 (.seq (.ret (.cst (.bl false)))
 .skip)
 .skip)
 .skip)))
 (.seq (.ife (.nt (.call 29 (.cons (.call 16 (.cons (.call 4 (.cons (.var 6) .nil)) .nil)) (.cons (.call 16 (.cons (.var 6) .nil)) .nil))))
 (.seq (.ret (.cst (.bl false)))
 .skip)
 .skip)
 .skip))))))))
 (.seq (.ret (.cst (.bl true)))
 .skip)))⟩
def fns : List Fd := ([f0, f1, f2, f3, f4, f5, f6, f7, f8, f9, f10, f11, f12, f13, f14, f15, f16, f17, f18, f19, f20, f21, f22, f23] : List Fd) ++ ([f24, f25, f26, f27, f28, f29, f30, f31, f32, f33, f34, f35, f36, f37, f38, f39, f40] : List Fd)
def Tb (i : Nat) : Option Fd := fns[i]?
def Γ (g : Nat) : Option D := match g with
  | 1000 => some (.int 40)
  | 1001 => some (.tup [.str "fill", .str "left", .str "right", .str "split"])
  | _ => none
end T
set_option Elab.async false
set_option linter.all false
set_option maxRecDepth 100000
set_option maxHeartbeats 4000000
/-! k67, plain: data that may be compared; the first defs. -/
namespace Mn
open PySem L2
abbrev nI (n : Nat) : D := .int (n : Int)
abbrev nD (l : List Nat) : List D := l.map nI
def IsRow (r : List Nat) : Prop := r.Perm (List.range r.length)
/-! ### comparing -/
/-- plain data, so deep -/
def Pl (n : Nat) (d : D) : Prop := PyData.canLay0 d.py = true ∧ PyData.depth d.py ≤ n
theorem Pl.int {n : Nat} {i : Int} : Pl n (.int i) := ⟨rfl, Nat.zero_le _⟩
theorem Pl.str {n : Nat} {s : Str} (h : PyData.canLay0 (.str s) = true) : Pl n (.str s) := ⟨h, Nat.zero_le _⟩
theorem Pl.all {n : Nat} : ∀ {ds : List D}, (∀ d ∈ ds, Pl n d) → PyData.canLayAll0 (D.pys ds) = true ∧ PyData.depthAll (D.pys ds) ≤ n
  | [], _ => ⟨rfl, Nat.zero_le _⟩
  | d :: ds, h => by
    obtain ⟨h1, h2⟩ := Pl.all (ds := ds) fun x hx => h x (List.mem_cons_of_mem _ hx)
    have h3 := h d List.mem_cons_self
    refine ⟨?_, ?_⟩
    · show (PyData.canLay0 d.py && PyData.canLayAll0 (D.pys ds)) = true
      rw [h3.1, h1]
      rfl
    · show max (PyData.depth d.py) (PyData.depthAll (D.pys ds)) ≤ n
      exact Nat.max_le.mpr ⟨h3.2, h2⟩
theorem Pl.tup {n : Nat} {ds : List D} (h : ∀ d ∈ ds, Pl n d) : Pl (n + 1) (.tup ds) := ⟨(Pl.all h).1, Nat.succ_le_succ (Pl.all h).2⟩
theorem Pl.lst {n : Nat} {ds : List D} (h : ∀ d ∈ ds, Pl n d) : Pl (n + 1) (.lst ds) := ⟨(Pl.all h).1, Nat.succ_le_succ (Pl.all h).2⟩
theorem Pl.shaped {n : Nat} {d : D} (h : Pl n d) (hn : n ≤ 64) : SeqAt.shaped d.py = true := by
  unfold SeqAt.shaped
  rw [h.1, decide_eq_true (Nat.le_trans h.2 hn)]
  rfl
theorem Pl.nD {l : List Nat} : ∀ d ∈ nD l, Pl 0 d := fun d hd => by
  obtain ⟨n, _, rfl⟩ := List.mem_map.mp hd
  exact Pl.int
mutual
theorem eqv_refl : ∀ d : PyData, PyData.canLay0 d = true → PyData.eqv d d = true
  | .none, _ => rfl
  | .bool b, _ => by simp [PyData.eqv]
  | .int b, _ => by simp [PyData.eqv]
  | .str b, _ => by simp [PyData.eqv]
  | .list xs, h => by
    show PyData.eqvAll xs xs = true
    exact eqvAll_refl xs h
  | .tuple xs, h => by
    show PyData.eqvAll xs xs = true
    exact eqvAll_refl xs h
  | .dict _, h => by cases h
theorem eqvAll_refl : ∀ xs : List PyData, PyData.canLayAll0 xs = true → PyData.eqvAll xs xs = true
  | [], _ => rfl
  | x :: xs, h => by
    have h : (PyData.canLay0 x && PyData.canLayAll0 xs) = true := h
    rw [Bool.and_eq_true] at h
    show (PyData.eqv x x && PyData.eqvAll xs xs) = true
    rw [eqv_refl x h.1, eqvAll_refl xs h.2]
    rfl
end
theorem ceq_of {n m : Nat} {a b : D} (ha : Pl n a) (hb : Pl m b) (hn : n ≤ 64) (hm : m ≤ 64) : cmpEq a b = some (PyData.eqv a.py b.py) := by
  unfold cmpEq
  rw [ha.shaped hn, hb.shaped hm]
  rfl
theorem ceq_refl {n : Nat} {a : D} (ha : Pl n a) (hn : n ≤ 64) : cmpEq a a = some true := by rw [ceq_of ha ha hn hn, eqv_refl _ ha.1]
theorem ceq_lnil {n : Nat} {ds : List D} (h : ∀ d ∈ ds, Pl n d) (hn : n < 64) : cmpEq (.lst ds) (.lst []) = some ds.isEmpty := by
  rw [ceq_of (Pl.lst h) (Pl.lst (n := 0) (ds := []) (by simp)) hn (by decide)]
  cases ds <;> rfl
theorem ceq_tnil {n : Nat} {ds : List D} (h : ∀ d ∈ ds, Pl n d) (hn : n < 64) : cmpEq (.tup ds) (.tup []) = some ds.isEmpty := by
  rw [ceq_of (Pl.tup h) (Pl.tup (n := 0) (ds := []) (by simp)) hn (by decide)]
  cases ds <;> rfl

/-! ### rows -/
theorem ints_nD : ∀ (l : List Nat), ints? (nD l) = some (l.map fun (n : Nat) => (n : Int))
  | [] => rfl
  | n :: l => by
    show (ints? (nD l)).map ((n : Int) :: ·) = _
    rw [ints_nD l]
    rfl
theorem bools_true : ∀ {α : Type} (l : List α), bools? (l.map fun _ => D.bl true) = some (l.map fun _ => true)
  | _, [] => rfl
  | _, a :: l => by
    show (bools? (l.map fun _ => D.bl true)).map (true :: ·) = _
    rw [bools_true l]
    rfl
theorem rangeD_nD (n : Nat) : rangeD 0 (n : Int) = nD (List.range n) := by
  unfold rangeD nD
  rw [show ((n : Int) - 0).toNat = n by omega]
  exact List.map_congr_left fun k _ => by show D.int (0 + (k : Int)) = D.int (k : Int); rw [Int.zero_add]
theorem isort_perm' (ns : List Int) : (isort ns).Perm ns := List.mergeSort_perm _ _
theorem isort_row {r : List Nat} (h : IsRow r) : isort (r.map fun (n : Nat) => (n : Int)) = (List.range r.length).map fun (n : Nat) => (n : Int) := by
  have p1 : (isort (r.map fun (n : Nat) => (n : Int))).Perm ((List.range r.length).map fun (n : Nat) => (n : Int)) := (isort_perm' _).trans (h.map _)
  have s1 : (isort (r.map fun (n : Nat) => (n : Int))).Pairwise (· ≤ ·) := by
    have q := List.pairwise_mergeSort (le := fun a b : Int => decide (a ≤ b)) (fun a b c h1 h2 => by simp at *; omega) (fun a b => by simp; omega) (r.map fun (n : Nat) => (n : Int))
    exact q.imp fun h => by simpa using h
  have s2 : ((List.range r.length).map fun (n : Nat) => (n : Int)).Pairwise (· ≤ ·) := by
    rw [List.pairwise_map]
    exact List.pairwise_lt_range.imp fun h => by omega
  exact p1.eq_of_pairwise (fun a b _ _ x y => Int.le_antisymm x y) s1 s2
section
variable {fu k : Nat}
theorem t_isw {n : Nat} : run T.Tb T.Γ fu (k + 1) 0 [.val (nI n)] = .ok (.val (.bl true)) [] := by
  rw [run_s (fd := T.f0) rfl, runFd_ok rfl rfl]
  simp [T.f0]
theorem szOk_of {n : Nat} (h : n ≤ 16777216) : szOk n = true := decide_eq_true h
theorem rngOk_of {n : Nat} (h : n ≤ 16777216) : rngOk (n : Int) = true := decide_eq_true (by omega)
theorem p_lstRng {n : Nat} (h : n ≤ 16777216) : P.ev .lstRng1 [.int (n : Int)] = some (.lst (nD (List.range n))) := by
  rw [p_lstRng1, rngOk_of h, szOk_of (show ((n : Int)).toNat ≤ 16777216 by rw [Int.toNat_natCast]; exact h), ← rangeD_nD]
  rfl
theorem row_lc {r : List Nat} (hl : r.length ≤ 40) : evE ⟨run T.Tb T.Γ fu (k + 1), ioT T.Tb, T.Γ, fu⟩ (.lc [1] (.nm 1) .seq (.cons (.var 0) .nil) (.cst (.bl true)) (.call 0 (.cons (.var 1) .nil))) [some (.val (.tup (nD r))), none] = .ok (.lst (((nD r).filter fun _ => true).map fun _ => .bl true)) [some (.val (.tup (nD r))), none] := by
  refine lc_pure (ds := [.tup (nD r)]) (items := nD r) (by simp) rfl (by rw [List.length_map]; omega) (fun d hd => ?_) ?_
  · obtain ⟨n, _, rfl⟩ := List.mem_map.mp hd
    refine ⟨[some (.val (.tup (nD r))), some (.val (nI n))], by simp [wipeE], rfl, rfl, fun _ => ⟨.val (.bl true), ?_, rfl⟩⟩
    have hio : ioT T.Tb 0 = [] := rfl
    simp [callE, iosOf, posIo, args?, putOuts, t_isw, hio]
  · intro v hv w hw
    rw [List.mem_singleton.mp hv] at hw
    cases hw
theorem t_row {r : List Nat} (h : IsRow r) (hl : r.length ≤ 40) : run T.Tb T.Γ fu (k + 2) 1 [.val (.tup (nD r))] = .ok (.val (.bl true)) [] := by
  rw [run_s (fd := T.f1) rfl, runFd_ok rfl rfl]
  have e1 : ((nD r).filter fun _ => true).map (fun _ => D.bl true) = r.map fun _ => D.bl true := by
    rw [List.filter_eq_self.mpr fun _ _ => rfl, List.map_map]
    rfl
  have lc := row_lc (fu := fu) (k := k) hl
  rw [e1] at lc
  have hΓ : T.Γ 1000 = some (.int 40) := rfl
  have hq := p_lstRng (n := r.length) (by omega)
  have hc : P.ev .eq [.lst (nD (List.range r.length)), .lst (nD (List.range r.length))] = some (.val (.bl true)) := by
    rw [p_eq, ceq_refl (n := 1) (Pl.lst Pl.nD) (by decide)]
    rfl
  have hi : P.ev .sortd [.tup (nD r)] = some (.lst (nD (List.range r.length))) := by
    rw [p_sortd_tup, ints_nD, Option.map_some, isort_row h, List.map_map]
    rfl
  have ha : (r.all fun _ => true) = true := List.all_eq_true.mpr fun _ _ => rfl
  have h40 : ¬ (40 : Int) < (r.length : Int) := by omega
  simp [-p_sortd_tup, -p_lstRng1, -p_eq, T.f1, lc, ha, bools_true, hΓ, hq, hc, hi, h40]
theorem t_need {r : List Nat} (h : IsRow r) (hl : r.length ≤ 40) : run T.Tb T.Γ fu (k + 3) 2 [.val (.tup (nD r))] = .ok (.val .non) [] := by
  rw [run_s (fd := T.f2) rfl, runFd_ok rfl rfl]
  have hio : ioT T.Tb 1 = [] := rfl
  simp [T.f2, callE, iosOf, posIo, args?, putOuts, t_row h hl, hio]
theorem t_back {r : List Nat} : run T.Tb T.Γ fu (k + 1) 3 [.val (.tup (nD r))] = .ok (.val (.tup (nD r.reverse))) [] := by
  rw [run_s (fd := T.f3) rfl, runFd_ok rfl rfl]
  simp [T.f3]
theorem t_turned {r : List Nat} (h : IsRow r) (hl : r.length ≤ 40) : run T.Tb T.Γ fu (k + 4) 4 [.val (.tup (nD r))] = .ok (.val (.tup (nD r.reverse))) [] := by
  rw [run_s (fd := T.f4) rfl, runFd_ok rfl rfl]
  have hio : ioT T.Tb 2 = [] := rfl
  have hio3 : ioT T.Tb 3 = [] := rfl
  simp [T.f4, callE, iosOf, posIo, args?, putOuts, t_need h hl, t_back, hio, hio3]
/-- the kind of a slot's place -/
def kindS (p a b : Nat) : Str := if a = b then "fill" else if p = a then "left" else if p = b then "right" else "split"
theorem t_kind {p a b : Nat} : run T.Tb T.Γ fu (k + 1) 12 [.val (nI p), .val (nI a), .val (nI b)] = .ok (.val (.str (kindS p a b))) [] := by
  rw [run_s (fd := T.f12) rfl, runFd_ok rfl rfl]
  unfold kindS
  by_cases h1 : a = b
  · simp [T.f12, h1]
  · have n1 : ¬ (a : Int) = (b : Int) := by omega
    by_cases h2 : p = a
    · simp [T.f12, h1, n1, h2]
    · have n2 : ¬ (p : Int) = (a : Int) := by omega
      by_cases h3 : p = b
      · have n4 : ¬ (b : Int) = (a : Int) := by omega
        have h4 : ¬ b = a := by omega
        simp [T.f12, h1, n1, h3, n4, h4]
      · have n3 : ¬ (p : Int) = (b : Int) := by omega
        simp [T.f12, h1, n1, h2, n2, h3, n3]
/-- where each entry stands, so far -/
def invF (r : List Nat) : Nat → List Nat
  | 0 => List.replicate r.length 0
  | i + 1 => (invF r i).set (r.getD i 0) i
theorem invF_len {r : List Nat} : ∀ i, (invF r i).length = r.length
  | 0 => by simp [invF]
  | i + 1 => by simp [invF, invF_len i]
theorem nD_set {l : List Nat} {i n : Nat} : (nD l).set i (nI n) = nD (l.set i n) := by simp [List.map_set]
theorem ixN_nat {n i : Nat} (h : i < n) : ixN n (i : Int) = some i := by
  unfold ixN
  rw [if_pos (by omega), if_pos (by omega), Int.toNat_natCast]
theorem enumD_eq : ∀ (l : List Nat) (k i : Nat) (d : D), (enumD k (nD l))[i]? = some d → ∃ n, l[i]? = some n ∧ d = .tup [nI (k + i), nI n]
  | [], _, _, _, h => by cases h
  | n :: l, k, 0, d, h => by
    cases h
    exact ⟨n, rfl, rfl⟩
  | n :: l, k, i + 1, d, h => by
    obtain ⟨m, h1, h2⟩ := enumD_eq l (k + 1) i d h
    exact ⟨m, h1, by rw [h2, show k + 1 + i = k + (i + 1) by omega]⟩
theorem enumD_l : ∀ (ds : List D) (k : Nat), (enumD k ds).length = ds.length
  | [], _ => rfl
  | d :: ds, k => by
    show (enumD (k + 1) ds).length + 1 = _
    rw [enumD_l ds]
    rfl
theorem flat_zeros : ∀ n : Nat, (List.replicate n [D.int 0]).flatten = nD (List.replicate n 0)
  | 0 => rfl
  | n + 1 => by
    rw [List.replicate_succ, List.flatten_cons, flat_zeros n]
    rfl
theorem p_zeros {n : Nat} (h : n ≤ 16777216) : P.ev .mul [.lst [.int 0], .int (n : Int)] = some (.lst (nD (List.replicate n 0))) := by
  rw [p_mul_lst, rngOk_of h, szOk_of (show [D.int 0].length * ((n : Int)).toNat ≤ 16777216 by rw [Int.toNat_natCast]; simp; exact h), Int.toNat_natCast, flat_zeros]
  rfl
theorem t_inv {r : List Nat} (hr : ∀ x ∈ r, x < r.length) (hl : r.length ≤ 40) : run T.Tb T.Γ fu (k + 1) 5 [.val (.tup (nD r))] = .ok (.val (.tup (nD (invF r r.length)))) [] := by
  rw [run_s (fd := T.f5) rfl, runFd_ok rfl rfl]
  have hz := p_zeros (n := r.length) (by omega)
  have lp : ∃ e', forLoop [] (.tcons (.nm 2) (.tcons (.nm 3) .tnil)) (fun e => evS ⟨run T.Tb T.Γ fu k, ioT T.Tb, T.Γ, fu⟩ [] (.seq (.setIx 1 (.var 3) (.var 2)) .skip) e) (enumD 0 (nD r)) [some (.val (.tup (nD r))), some (.lst (nD (List.replicate r.length 0))), none, none] = .nx e' ∧
      ∃ a b, e' = [some (.val (.tup (nD r))), some (.lst (nD (invF r r.length))), a, b] := by
    obtain ⟨e', h1, h2⟩ := for_inv (pn := []) (tg := .tcons (.nm 2) (.tcons (.nm 3) .tnil)) (body := fun e => evS ⟨run T.Tb T.Γ fu k, ioT T.Tb, T.Γ, fu⟩ [] (.seq (.setIx 1 (.var 3) (.var 2)) .skip) e)
      (fun i e => ∃ a b, e = [some (.val (.tup (nD r))), some (.lst (nD (invF r i))), a, b]) (items := enumD 0 (nD r)) (e := [some (.val (.tup (nD r))), some (.lst (nD (List.replicate r.length 0))), none, none]) ⟨none, none, rfl⟩ (by
        rintro i d e hd ⟨a, b, rfl⟩
        obtain ⟨n, hn, rfl⟩ := enumD_eq r 0 i d hd
        have hlt : n < r.length := hr n (List.mem_of_getElem? hn)
        have hg : r.getD i 0 = n := by rw [List.getD_eq_getElem?_getD, hn]; rfl
        rw [Nat.zero_add]
        refine ⟨[some (.val (.tup (nD r))), some (.lst (nD (invF r i))), some (.val (nI i)), some (.val (nI n))], [some (.val (.tup (nD r))), some (.lst (nD (invF r (i + 1)))), some (.val (nI i)), some (.val (nI n))], by simp, .inl ?_, _, _, rfl⟩
        have hix : ixN (invF r i).length (n : Int) = some n := ixN_nat (by rw [invF_len]; exact hlt)
        simp [hix, invF, hn])
    rw [enumD_l, List.length_map] at h2
    exact ⟨e', h1, h2⟩
  obtain ⟨e', h1, a, b, rfl⟩ := lp
  have hfor : evS ⟨run T.Tb T.Γ fu k, ioT T.Tb, T.Γ, fu⟩ [] (.for_ (.tcons (.nm 2) (.tcons (.nm 3) .tnil)) .enum (.cons (.var 0) .nil) (.seq (.setIx 1 (.var 3) (.var 2)) .skip)) [some (.val (.tup (nD r))), some (.lst (nD (List.replicate r.length 0))), none, none] = .nx [some (.val (.tup (nD r))), some (.lst (nD (invF r r.length))), a, b] := h1
  have h0 : szOk 1 = true := rfl
  have hz2 : List.map nI (List.replicate r.length 0) = nD (List.replicate r.length 0) := rfl
  simp [-p_mul_lst, -List.map_replicate, T.f5, hz, hfor, h0]
end
end Mn
set_option Elab.async false
set_option linter.all false
set_option maxRecDepth 100000
set_option maxHeartbeats 4000000
/-! k67, plain: slots. -/
namespace Mn
open PySem L2
abbrev pD (p : Nat × Nat) : D := .tup [nI p.1, nI p.2]
/-- the slots of the first i places: runs of b -/
def runs (b : Nat → Bool) : Nat → List (Nat × Nat)
  | 0 => []
  | i + 1 => if b i then (if 0 < i ∧ b (i - 1) = true then (runs b i).set ((runs b i).length - 1) (((runs b i).getLast?.getD (0, 0)).1, i) else runs b i ++ [(i, i)]) else runs b i
theorem runs_len (b : Nat → Bool) : ∀ i, (runs b i).length ≤ i
  | 0 => Nat.le_refl 0
  | i + 1 => by
    have h := runs_len b i
    unfold runs
    split
    · split
      · rw [List.length_set]; omega
      · rw [List.length_append, List.length_singleton]; omega
    · omega
theorem runs_ne (b : Nat → Bool) : ∀ i, 0 < i → b (i - 1) = true → runs b i ≠ []
  | 0, h, _ => absurd h (Nat.lt_irrefl 0)
  | i + 1, _, h => by
    have h : b i = true := h
    unfold runs
    rw [if_pos h]
    split
    · rename_i q
      have := runs_ne b i q.1 q.2
      intro z
      exact this (by
        have := congrArg List.length z
        rw [List.length_set] at this
        exact List.length_eq_zero_iff.mp this)
    · simp
theorem atI_n {l : List D} {i : Nat} {d : D} (h : l[i]? = some d) : atI l (i : Int) = some d := by
  unfold atI
  rw [ixN_nat (List.getElem?_eq_some_iff.mp h).1]
  exact h
theorem ixN_m1 {n : Nat} (h : 0 < n) : ixN n (-1) = some (n - 1) := by
  unfold ixN
  rw [if_neg (by decide), if_pos (by omega)]
  congr 1
  omega
theorem atI_m1 {l : List D} {d : D} (h : l.getLast? = some d) : atI l (-1) = some d := by
  have hne : 0 < l.length := by
    cases l with
    | nil => cases h
    | cons _ _ => simp
  unfold atI
  rw [ixN_m1 hne]
  rw [List.getLast?_eq_getElem?] at h
  exact h
section
variable {fu k : Nat}
def geF (r : List Nat) (e : Nat) (i : Nat) : Bool := decide (e ≤ r.getD i 0)
theorem slots_step {C : Cn} {r : List Nat} {e i n : Nat} (hl : r.length ≤ 40) (hi : r[i]? = some n) : evS C [] (.seq (.ife (.and2 (.prim .ge (.cons (.var 4) (.cons (.var 1) .nil))) (.and2 (.prim .gt (.cons (.var 3) (.cons (.cst (.int (0))) .nil))) (.one (.prim .ge (.cons (.prim .ix (.cons (.var 0) (.cons (.prim .sub (.cons (.var 3) (.cons (.cst (.int (1))) .nil))) .nil))) (.cons (.var 1) .nil))))))
 (.seq (.setIx 2 (.cst (.int (-1))) (.tupd (.cons (.prim .ix (.cons (.prim .ix (.cons (.var 2) (.cons (.cst (.int (-1))) .nil))) (.cons (.cst (.int (0))) .nil))) (.cons (.var 3) .nil))))
 .skip)
 (.seq (.ife (.prim .ge (.cons (.var 4) (.cons (.var 1) .nil)))
 (.seq (.expr (.mut .append 2 none (.cons (.tupd (.cons (.var 3) (.cons (.var 3) .nil))) .nil)))
 .skip)
 .skip)
 .skip))
 .skip) [some (.val (.tup (nD r))), some (.val (nI e)), some (.lst ((runs (geF r e) i).map pD)), some (.val (nI i)), some (.val (nI n))] = .nx [some (.val (.tup (nD r))), some (.val (nI e)), some (.lst ((runs (geF r e) (i + 1)).map pD)), some (.val (nI i)), some (.val (nI n))] := by
  have hn : r.getD i 0 = n := by rw [List.getD_eq_getElem?_getD, hi]; rfl
  by_cases h1 : e ≤ n
  · have g1 : geF r e i = true := by unfold geF; rw [hn]; exact decide_eq_true h1
    have z1 : (e : Int) ≤ (n : Int) := by omega
    have lenB : (runs (geF r e) i).length < 16777216 := by
      have := runs_len (geF r e) i
      have := (List.getElem?_eq_some_iff.mp hi).1
      omega
    by_cases h2 : 0 < i
    · have hlt := (List.getElem?_eq_some_iff.mp hi).1
      have z2 : (0 : Int) < (i : Int) := by omega
      obtain ⟨m, hm0⟩ : ∃ m, r[i - 1]? = some m := ⟨_, List.getElem?_eq_getElem (by omega)⟩
      have hgm : r.getD (i - 1) 0 = m := by rw [List.getD_eq_getElem?_getD, hm0]; rfl
      have hp : (nD r)[i - 1]? = some (nI m) := by
        rw [List.getElem?_map, hm0]
        rfl
      have ha : atI (nD r) ((i : Int) - 1) = some (nI m) := by
        have := atI_n hp
        rw [show ((i - 1 : Nat) : Int) = (i : Int) - 1 by omega] at this
        exact this
      have hs2 : szOk 2 = true := rfl
      by_cases h3 : e ≤ m
      · have g3 : geF r e (i - 1) = true := by unfold geF; rw [hgm]; exact decide_eq_true h3
        have hne := runs_ne (geF r e) i h2 g3
        obtain ⟨p, hp2⟩ : ∃ p, (runs (geF r e) i).getLast? = some p := ⟨_, List.getLast?_eq_some_getLast hne⟩
        have hm : atI ((runs (geF r e) i).map pD) (-1) = some (pD p) := atI_m1 (by rw [List.getLast?_map, hp2]; rfl)
        have h0 : atI [nI p.1, nI p.2] 0 = some (nI p.1) := rfl
        have hx : ixN ((runs (geF r e) i).map pD).length (-1) = some ((runs (geF r e) i).length - 1) := by
          rw [ixN_m1 (by rw [List.length_map]; exact List.length_pos_iff.mpr hne), List.length_map]
        have hr2 : runs (geF r e) (i + 1) = (runs (geF r e) i).set ((runs (geF r e) i).length - 1) (p.1, i) := by
          show (if geF r e i = true then _ else _) = _
          rw [if_pos g1, if_pos ⟨h2, g3⟩, hp2]
          rfl
        rw [hr2]
        simp only [List.length_map] at hx
        simp [h1, h2, ha, h3, hm, h0, hx, hs2]
      · have g3 : geF r e (i - 1) = false := by unfold geF; rw [hgm]; exact decide_eq_false h3
        have hr2 : runs (geF r e) (i + 1) = runs (geF r e) i ++ [(i, i)] := by
          show (if geF r e i = true then _ else _) = _
          rw [if_pos g1, if_neg (by rw [g3]; simp)]
        rw [hr2]
        simp [h1, h2, ha, h3, hs2, ev_mut, Env.at, M.ev, lenB, Env.put]
    · have hr2 : runs (geF r e) (i + 1) = runs (geF r e) i ++ [(i, i)] := by
        show (if geF r e i = true then _ else _) = _
        rw [if_pos g1, if_neg (fun z => h2 z.1)]
      rw [hr2]
      have hs2 : szOk 2 = true := rfl
      simp [h1, h2, hs2, ev_mut, Env.at, M.ev, lenB, Env.put]
  · have g1 : geF r e i = false := by unfold geF; rw [hn]; exact decide_eq_false h1
    have z1 : ¬ (e : Int) ≤ (n : Int) := by omega
    simp [z1, runs, g1, h1]
theorem t_slots {r : List Nat} {e : Nat} (hl : r.length ≤ 40) : run T.Tb T.Γ fu (k + 1) 11 [.val (.tup (nD r)), .val (nI e)] = .ok (.val (.lst ((runs (geF r e) r.length).map pD))) [] := by
  rw [run_s (fd := T.f11) rfl, runFd_ok rfl rfl]
  obtain ⟨e', h1, a, b, rfl⟩ := for_inv (pn := []) (tg := .tcons (.nm 3) (.tcons (.nm 4) .tnil)) (body := fun e => evS ⟨run T.Tb T.Γ fu k, ioT T.Tb, T.Γ, fu⟩ [] (.seq (.ife (.and2 (.prim .ge (.cons (.var 4) (.cons (.var 1) .nil))) (.and2 (.prim .gt (.cons (.var 3) (.cons (.cst (.int (0))) .nil))) (.one (.prim .ge (.cons (.prim .ix (.cons (.var 0) (.cons (.prim .sub (.cons (.var 3) (.cons (.cst (.int (1))) .nil))) .nil))) (.cons (.var 1) .nil))))))
 (.seq (.setIx 2 (.cst (.int (-1))) (.tupd (.cons (.prim .ix (.cons (.prim .ix (.cons (.var 2) (.cons (.cst (.int (-1))) .nil))) (.cons (.cst (.int (0))) .nil))) (.cons (.var 3) .nil))))
 .skip)
 (.seq (.ife (.prim .ge (.cons (.var 4) (.cons (.var 1) .nil)))
 (.seq (.expr (.mut .append 2 none (.cons (.tupd (.cons (.var 3) (.cons (.var 3) .nil))) .nil)))
 .skip)
 .skip)
 .skip))
 .skip) e)
      (fun i e' => ∃ a b, e' = [some (.val (.tup (nD r))), some (.val (nI e)), some (.lst ((runs (geF r e) i).map pD)), a, b]) (items := enumD 0 (nD r)) (e := [some (.val (.tup (nD r))), some (.val (nI e)), some (.lst []), none, none]) ⟨none, none, rfl⟩ (by
        rintro i d e' hd ⟨a, b, rfl⟩
        obtain ⟨n, hn, rfl⟩ := enumD_eq r 0 i d hd
        rw [Nat.zero_add]
        exact ⟨[some (.val (.tup (nD r))), some (.val (nI e)), some (.lst ((runs (geF r e) i).map pD)), some (.val (nI i)), some (.val (nI n))], _, by simp, .inl (slots_step hl hn), _, _, rfl⟩)
  rw [enumD_l, List.length_map] at h1
  have hfor : evS ⟨run T.Tb T.Γ fu k, ioT T.Tb, T.Γ, fu⟩ [] (match T.f11.body with | .seq _ (.seq l _) => l | _ => .skip) [some (.val (.tup (nD r))), some (.val (nI e)), some (.lst []), none, none] = .nx [some (.val (.tup (nD r))), some (.val (nI e)), some (.lst ((runs (geF r e) r.length).map pD)), a, b] := h1
  have h0 : szOk 0 = true := rfl
  simp only [T.f11] at hfor
  simp [T.f11, hfor, h0]
end
end Mn
set_option Elab.async false
set_option linter.all false
set_option maxRecDepth 100000
set_option maxHeartbeats 4000000
/-! k67, plain: letters. -/
namespace Mn
open PySem L2
section
variable {fu k : Nat}
theorem letter_lc {C : Cn} {r : List Nat} {e p : Nat} {rs : List (Nat × Nat)} (hl : rs.length ≤ 16777216) : evE C (.lc [5, 6] (.tcons (.nm 5) (.tcons (.nm 6) .tnil)) .seq (.cons (.var 3) .nil) (.prim .lt (.cons (.var 6) (.cons (.var 2) .nil))) (.var 5))
    [some (.val (.tup (nD r))), some (.val (nI e)), some (.val (nI p)), some (.val (.lst (rs.map pD))), none, none, none] = .ok (.lst (((rs.filter fun q => decide (q.2 < p)).map fun q => nI q.1)))
    [some (.val (.tup (nD r))), some (.val (nI e)), some (.val (nI p)), some (.val (.lst (rs.map pD))), none, none, none] := by
  have key := lc_pure (C := C) (vs := [5, 6]) (tg := .tcons (.nm 5) (.tcons (.nm 6) .tnil)) (ik := .seq) (its := .cons (.var 3) .nil) (c := .prim .lt (.cons (.var 6) (.cons (.var 2) .nil))) (elt := .var 5)
    (e := [some (.val (.tup (nD r))), some (.val (nI e)), some (.val (nI p)), some (.val (.lst (rs.map pD))), none, none, none]) (ds := [.lst (rs.map pD)]) (items := rs.map pD)
    (p := fun d => match d with | .tup [_, .int j] => decide (j < (p : Int)) | _ => false) (f := fun d => match d with | .tup [a, _] => a | _ => .non) (by simp) rfl (by rw [List.length_map]; exact hl) (fun d hd => by
      obtain ⟨q, _, rfl⟩ := List.mem_map.mp hd
      refine ⟨[some (.val (.tup (nD r))), some (.val (nI e)), some (.val (nI p)), some (.val (.lst (rs.map pD))), none, some (.val (nI q.1)), some (.val (nI q.2))], by simp [wipeE], rfl, by simp, fun _ => ⟨.val (nI q.1), by simp, rfl⟩⟩) (by
      intro v hv w hw
      rcases List.mem_cons.mp hv with rfl | hv
      · cases hw
      · rw [List.mem_singleton.mp hv] at hw
        cases hw)
  rw [key, List.filter_map, List.map_map]
  have e1 : ((fun d => match d with | D.tup [_, .int j] => decide (j < (p : Int)) | _ => false) ∘ pD) = fun q : Nat × Nat => decide (q.2 < p) := by
    funext q
    show decide ((q.2 : Int) < (p : Int)) = decide (q.2 < p)
    exact decide_eq_decide.mpr (by omega)
  have e2 : ((fun d => match d with | D.tup [a, _] => a | _ => .non) ∘ pD) = fun q : Nat × Nat => nI q.1 := by
    funext q
    rfl
  rw [e1, e2]
/-- the slot of a place -/
def slotN (rs : List (Nat × Nat)) (p : Nat) : Nat := (rs.filter fun q => decide (q.2 < p)).length
theorem t_letter {r : List Nat} {e p : Nat} {q : Nat × Nat} (hl : r.length ≤ 40) (hq : (runs (geF r e) r.length)[slotN (runs (geF r e) r.length) p]? = some q) :
    run T.Tb T.Γ fu (k + 2) 13 [.val (.tup (nD r)), .val (nI e), .val (nI p)] = .ok (.val (.tup [nI (slotN (runs (geF r e) r.length) p), .str (kindS p q.1 q.2)])) [] := by
  rw [run_s (fd := T.f13) rfl, runFd_ok rfl rfl]
  have hio : ioT T.Tb 11 = [] := rfl
  have hio2 : ioT T.Tb 12 = [] := rfl
  have hs := t_slots (fu := fu) (k := k) (r := r) (e := e) hl
  have hrl := runs_len (geF r e) r.length
  generalize runs (geF r e) r.length = rs at hs hrl hq
  have hlc := fun C => letter_lc (C := C) (r := r) (e := e) (p := p) (rs := rs) (by omega)
  have hix : atI (rs.map pD) ((slotN rs p : Nat) : Int) = some (pD q) := atI_n (by rw [List.getElem?_map, hq]; rfl)
  have hk := fun a b => t_kind (fu := fu) (k := k) (p := p) (a := a) (b := b)
  have h2 : szOk 2 = true := rfl
  have hlen : ((rs.filter fun q => decide (q.2 < p)).map fun q => nI q.1).length = slotN rs p := by rw [List.length_map]; rfl
  generalize hsl : slotN rs p = sl at hix hlen
  simp [T.f13, callE, iosOf, posIo, args?, putOuts, hio, hio2, hs, hlc, hix, hk, h2, hlen, -List.length_map]
end
end Mn
set_option Elab.async false
set_option linter.all false
set_option maxRecDepth 100000
set_option maxHeartbeats 4000000
/-! k67, plain: words. -/
namespace Mn
open PySem L2
section
variable {fu k : Nat}
/-- the place of an entry -/
def plc (r : List Nat) (e : Nat) : Nat := (invF r r.length).getD e 0
def rsF (r : List Nat) (e : Nat) : List (Nat × Nat) := runs (geF r e) r.length
def slF (r : List Nat) (e : Nat) : Nat := slotN (rsF r e) (plc r e)
def kdF (r : List Nat) (e : Nat) : Str := kindS (plc r e) ((rsF r e).getD (slF r e) (0, 0)).1 ((rsF r e).getD (slF r e) (0, 0)).2
def letD (r : List Nat) (e : Nat) : D := .tup [nI (slF r e), .str (kdF r e)]
/-- each place lies in a slot -/
def InSlot (r : List Nat) : Prop := ∀ e, e < r.length → slF r e < (rsF r e).length
theorem t_letter2 {r : List Nat} {e : Nat} (hl : r.length ≤ 40) (h : slF r e < (rsF r e).length) : run T.Tb T.Γ fu (k + 2) 13 [.val (.tup (nD r)), .val (nI e), .val (nI (plc r e))] = .ok (.val (letD r e)) [] := by
  have q := t_letter (fu := fu) (k := k) (r := r) (e := e) (p := plc r e) (q := (rsF r e)[slF r e]) hl (List.getElem?_eq_getElem h)
  rw [q]
  have e1 : (rsF r e).getD (slF r e) (0, 0) = (rsF r e)[slF r e] := by rw [List.getD_eq_getElem?_getD, List.getElem?_eq_getElem h]; rfl
  unfold letD kdF
  rw [e1]
  rfl
theorem enumD_mem {l : List Nat} {d : D} (h : d ∈ enumD 0 (nD l)) : ∃ i, i < l.length ∧ d = .tup [nI i, nI (l.getD i 0)] := by
  obtain ⟨i, hi⟩ := List.mem_iff_getElem?.mp h
  obtain ⟨n, h1, h2⟩ := enumD_eq l 0 i d hi
  refine ⟨i, (List.getElem?_eq_some_iff.mp h1).1, ?_⟩
  rw [h2, Nat.zero_add, List.getD_eq_getElem?_getD, h1]
  rfl
/-- the entry of an enumerated pair -/
def ent : D → Nat
  | .tup (.int i :: _) => i.toNat
  | _ => 0
theorem enum_ent {l : List Nat} {g : Nat → D} : (enumD 0 (nD l)).map (fun d => g (ent d)) = (List.range l.length).map g := by
  apply List.ext_getElem?
  intro i
  rw [List.getElem?_map, List.getElem?_map]
  by_cases h : i < l.length
  · have hi : i < (enumD 0 (nD l)).length := by rw [enumD_l, List.length_map]; exact h
    obtain ⟨n, h1, h2⟩ := enumD_eq l 0 i _ (List.getElem?_eq_getElem hi)
    rw [List.getElem?_eq_getElem hi, h2, List.getElem?_range h, Nat.zero_add]
    rfl
  · rw [List.getElem?_eq_none (by rw [enumD_l, List.length_map]; omega), List.getElem?_eq_none (by rw [List.length_range]; omega)]
    rfl
theorem t_wordin {r : List Nat} (hr : ∀ x ∈ r, x < r.length) (hl : r.length ≤ 40) (hs : InSlot r) : run T.Tb T.Γ fu (k + 3) 14 [.val (.tup (nD r))] = .ok (.val (.tup ((List.range r.length).map (letD r)))) [] := by
  rw [run_s (fd := T.f14) rfl, runFd_ok rfl rfl]
  have hio : ioT T.Tb 5 = [] := rfl
  have hio2 : ioT T.Tb 13 = [] := rfl
  have hi := t_inv (fu := fu) (k := k + 1) hr hl
  have hil := invF_len (r := r) r.length
  have key := lc_pure (C := ⟨run T.Tb T.Γ fu (k + 2), ioT T.Tb, T.Γ, fu⟩) (vs := [1, 2]) (tg := .tcons (.nm 1) (.tcons (.nm 2) .tnil)) (ik := .enum) (its := .cons (.call 5 (.cons (.var 0) .nil)) .nil) (c := .cst (.bl true)) (elt := .call 13 (.cons (.var 0) (.cons (.var 1) (.cons (.var 2) .nil))))
    (e := [some (.val (.tup (nD r))), none, none]) (ds := [.tup (nD (invF r r.length))]) (items := enumD 0 (nD (invF r r.length))) (p := fun _ => true) (f := fun d => letD r (ent d))
    (by simp [callE, iosOf, posIo, args?, putOuts, hio, hi]) rfl (by rw [enumD_l, List.length_map, hil]; omega) (fun d hd => by
      obtain ⟨e, he, rfl⟩ := enumD_mem hd
      rw [hil] at he
      have hp : (invF r r.length).getD e 0 = plc r e := rfl
      rw [hp]
      refine ⟨[some (.val (.tup (nD r))), some (.val (nI e)), some (.val (nI (plc r e)))], by simp [wipeE], rfl, rfl, fun _ => ⟨.val (letD r e), ?_, rfl⟩⟩
      have ht := t_letter2 (fu := fu) (k := k) hl (hs e he)
      simp [callE, iosOf, posIo, args?, putOuts, hio2, ht]) (by
      intro v hv w hw
      rcases List.mem_cons.mp hv with rfl | hv
      · cases hw
      · rw [List.mem_singleton.mp hv] at hw
        cases hw)
  have e1 : ((enumD 0 (nD (invF r r.length))).filter fun _ => true).map (fun d => letD r (ent d)) = (List.range r.length).map (letD r) := by
    rw [List.filter_eq_self.mpr fun _ _ => rfl, enum_ent, hil]
  rw [e1] at key
  simp [T.f14, key]
theorem row_lt {r : List Nat} (h : IsRow r) : ∀ x ∈ r, x < r.length := fun x hx => List.mem_range.mp (h.mem_iff.mp hx)
theorem t_wordof {r : List Nat} (h : IsRow r) (hl : r.length ≤ 40) (hs : InSlot r) : run T.Tb T.Γ fu (k + 4) 15 [.val (.tup (nD r))] = .ok (.val (.tup ((List.range r.length).map (letD r)))) [] := by
  rw [run_s (fd := T.f15) rfl, runFd_ok rfl rfl]
  have hio : ioT T.Tb 2 = [] := rfl
  have hio2 : ioT T.Tb 14 = [] := rfl
  simp [T.f15, callE, iosOf, posIo, args?, putOuts, hio, hio2, t_need h hl, t_wordin (row_lt h) hl hs]
def intN : D → Nat
  | .int i => i.toNat
  | _ => 0
theorem range_items {n : Nat} {g : Nat → D} : (rangeD 0 (n : Int)).map (fun d => g (intN d)) = (List.range n).map g := by
  rw [rangeD_nD, List.map_map]
  rfl
/-- how many slots -/
def nsF (r : List Nat) (e : Nat) : Nat := (rsF r e).length
theorem t_open {r : List Nat} (h : IsRow r) (hl : r.length ≤ 40) : run T.Tb T.Γ fu (k + 4) 16 [.val (.tup (nD r))] = .ok (.val (.tup (nD ((List.range (r.length + 1)).map (nsF r))))) [] := by
  rw [run_s (fd := T.f16) rfl, runFd_ok rfl rfl]
  have hio : ioT T.Tb 2 = [] := rfl
  have hio2 : ioT T.Tb 11 = [] := rfl
  have hrg : IK.ev .rng1 [.int ((r.length : Int) + 1)] = some (nD (List.range (r.length + 1))) := by
    have e1 : ((r.length : Int) + 1) = ((r.length + 1 : Nat) : Int) := by omega
    show (if rngOk ((r.length : Int) + 1) then some (rangeD 0 ((r.length : Int) + 1)) else none) = _
    rw [e1, rngOk_of (by omega), if_pos rfl, rangeD_nD]
  have key := lc_pure (C := ⟨run T.Tb T.Γ fu (k + 3), ioT T.Tb, T.Γ, fu⟩) (vs := [1]) (tg := .nm 1) (ik := .rng1) (its := .cons (.prim .add (.cons (.prim .len (.cons (.var 0) .nil)) (.cons (.cst (.int (1))) .nil))) .nil) (c := .cst (.bl true)) (elt := .prim .len (.cons (.call 11 (.cons (.var 0) (.cons (.var 1) .nil))) .nil))
    (e := [some (.val (.tup (nD r))), none]) (ds := [.int ((r.length : Int) + 1)]) (items := nD (List.range (r.length + 1))) (p := fun _ => true) (f := fun d => nI (nsF r (intN d)))
    (by simp) hrg (by rw [List.length_map, List.length_range]; omega) (fun d hd => by
      obtain ⟨e, he, rfl⟩ := List.mem_map.mp hd
      refine ⟨[some (.val (.tup (nD r))), some (.val (nI e))], by simp [wipeE], rfl, rfl, fun _ => ⟨.val (nI (nsF r e)), ?_, rfl⟩⟩
      have ht := t_slots (fu := fu) (k := k + 2) (r := r) (e := e) hl
      simp [callE, iosOf, posIo, args?, putOuts, hio2, ht, nsF, rsF]) (by
      intro v hv w hw
      rw [List.mem_singleton.mp hv] at hw
      cases hw)
  have e1 : ((nD (List.range (r.length + 1))).filter fun _ => true).map (fun d => nI (nsF r (intN d))) = nD ((List.range (r.length + 1)).map (nsF r)) := by
    rw [List.filter_eq_self.mpr fun _ _ => rfl, List.map_map]
    unfold nD
    rw [List.map_map]
    rfl
  rw [e1] at key

  simp [T.f16, hio, t_need h hl, key]
end
end Mn
set_option Elab.async false
set_option linter.all false
set_option maxRecDepth 100000
set_option maxHeartbeats 4000000
/-! k67, plain: the mathematics of slots and letters. -/
namespace Mn
open PySem L2
/-- how many below -/
def cnt (f : Nat → Bool) : Nat → Nat
  | 0 => 0
  | n + 1 => cnt f n + if f n then 1 else 0
def stB (b : Nat → Bool) (i : Nat) : Bool := b i && !(decide (0 < i) && b (i - 1))
def enB (b : Nat → Bool) (i : Nat) : Bool := b i && !b (i + 1)
theorem cnt_congr {f g : Nat → Bool} : ∀ {n : Nat}, (∀ i, i < n → f i = g i) → cnt f n = cnt g n
  | 0, _ => rfl
  | n + 1, h => by
    unfold cnt
    rw [cnt_congr fun i hi => h i (by omega), h n (by omega)]
theorem cnt_add {f : Nat → Bool} {m : Nat} : ∀ {n : Nat}, cnt f (m + n) = cnt f m + cnt (fun i => f (m + i)) n
  | 0 => rfl
  | n + 1 => by
    show cnt f (m + n) + (if f (m + n) then 1 else 0) = cnt f m + (cnt (fun i => f (m + i)) n + (if f (m + n) then 1 else 0))
    rw [cnt_add (n := n)]
    omega
theorem cnt_zero {f : Nat → Bool} : ∀ {n : Nat}, (∀ i, i < n → f i = false) → cnt f n = 0
  | 0, _ => rfl
  | n + 1, h => by
    unfold cnt
    rw [cnt_zero fun i hi => h i (by omega), h n (by omega)]
    rfl
theorem cnt_rev {f : Nat → Bool} : ∀ {n : Nat}, cnt (fun i => f (n - 1 - i)) n = cnt f n
  | 0 => rfl
  | n + 1 => by
    have h1 := cnt_add (f := fun i => f (n + 1 - 1 - i)) (m := 1) (n := n)
    rw [Nat.add_comm 1 n] at h1
    rw [h1]
    have h2 : cnt (fun i => f (n + 1 - 1 - (1 + i))) n = cnt f n := by
      rw [← cnt_rev (f := f) (n := n)]
      exact cnt_congr fun i hi => by congr 1; omega
    rw [h2]
    show 0 + (if f (n + 1 - 1 - 0) then 1 else 0) + cnt f n = cnt f n + _
    rw [show n + 1 - 1 - 0 = n by omega]
    omega
theorem cnt_le {f : Nat → Bool} {m n : Nat} (h : m ≤ n) : cnt f m ≤ cnt f n := by
  obtain ⟨k, rfl⟩ := Nat.exists_eq_add_of_le h
  rw [cnt_add]
  omega
theorem runs_succ_f {b : Nat → Bool} {i : Nat} (h : b i = false) : runs b (i + 1) = runs b i := by
  show (if b i = true then _ else _) = _
  rw [if_neg (by rw [h]; decide)]
theorem runs_succ_t {b : Nat → Bool} {i : Nat} (h : b i = true) (h2 : ¬ (0 < i ∧ b (i - 1) = true)) : runs b (i + 1) = runs b i ++ [(i, i)] := by
  show (if b i = true then _ else _) = _
  rw [if_pos h, if_neg h2]
theorem runs_succ_s {b : Nat → Bool} {i f l : Nat} {A : List (Nat × Nat)} (h : b i = true) (h2 : 0 < i ∧ b (i - 1) = true) (h3 : runs b i = A ++ [(f, l)]) : runs b (i + 1) = A ++ [(f, i)] := by
  show (if b i = true then _ else _) = _
  rw [if_pos h, if_pos h2, h3, List.getLast?_append, List.length_append]
  simp
/-- the runs as far as a place in one of them -/
theorem runs_open {b : Nat → Bool} : ∀ {i : Nat}, b i = true → ∃ A f, runs b (i + 1) = A ++ [(f, i)] ∧ A.length = cnt (enB b) i ∧ (∀ q ∈ A, q.2 < i) ∧ f ≤ i ∧ (f = i ↔ ¬ (0 < i ∧ b (i - 1) = true)) := by
  have all : ∀ n, (∀ q ∈ runs b n, q.2 < n) ∧ (∀ i, n = i + 1 → (b i = true → ∃ A f, runs b (i + 1) = A ++ [(f, i)] ∧ A.length = cnt (enB b) i ∧ (∀ q ∈ A, q.2 < i) ∧ f ≤ i ∧ (f = i ↔ ¬ (0 < i ∧ b (i - 1) = true))) ∧ (b i = false → (runs b (i + 1)).length = cnt (enB b) (i + 1) ∨ True)) ∧ (∀ i, n = i + 1 → b i = false → (runs b (i + 1)).length = cnt (enB b) i) := by
    intro n
    induction n with
    | zero => exact ⟨by simp [runs], by omega, by omega⟩
    | succ n ih =>
      obtain ⟨i1, i2, i3⟩ := ih
      have key : b n = true → ∃ A f, runs b (n + 1) = A ++ [(f, n)] ∧ A.length = cnt (enB b) n ∧ (∀ q ∈ A, q.2 < n) ∧ f ≤ n ∧ (f = n ↔ ¬ (0 < n ∧ b (n - 1) = true)) := by
        intro hb
        by_cases h2 : 0 < n ∧ b (n - 1) = true
        · obtain ⟨m, rfl⟩ : ∃ m, n = m + 1 := ⟨n - 1, by omega⟩
          obtain ⟨A, f, g1, g2, g3, g4, g5⟩ := (i2 m rfl).1 h2.2
          refine ⟨A, f, runs_succ_s hb h2 g1, ?_, fun q hq => Nat.lt_succ_of_lt (g3 q hq), by omega, ?_⟩
          · show _ = cnt (enB b) m + _
            rw [if_neg (by unfold enB; rw [hb]; simp), g2]
            rfl
          · constructor
            · omega
            · exact fun z => absurd h2 z
        · refine ⟨runs b n, n, runs_succ_t hb h2, ?_, i1, Nat.le_refl n, ⟨fun _ => h2, fun _ => rfl⟩⟩
          cases n with
          | zero => rfl
          | succ m =>
            have hm : b m = false := by
              cases q : b m with
              | false => rfl
              | true => exact absurd ⟨by omega, q⟩ h2
            rw [i3 m rfl hm]
            show _ = cnt (enB b) m + _
            rw [if_neg (by unfold enB; rw [hm]; simp)]
            rfl
      refine ⟨?_, ?_, ?_⟩
      · cases hb : b n with
        | false => rw [runs_succ_f hb]; exact fun q hq => Nat.lt_succ_of_lt (i1 q hq)
        | true =>
          obtain ⟨A, f, g1, g2, g3, g4, g5⟩ := key hb
          rw [g1]
          intro q hq
          rcases List.mem_append.mp hq with hq | hq
          · exact Nat.lt_succ_of_lt (g3 q hq)
          · rw [List.mem_singleton.mp hq]; exact Nat.lt_succ_self n
      · intro i hi
        obtain rfl : n = i := by omega
        exact ⟨key, fun _ => .inr trivial⟩
      · intro i hi hb
        obtain rfl : n = i := by omega
        rw [runs_succ_f hb]
        cases n with
        | zero => rfl
        | succ m =>
          cases hm : b m with
          | false =>
            rw [i3 m rfl hm]
            show _ = cnt (enB b) m + _
            rw [if_neg (by unfold enB; rw [hm]; simp)]
            rfl
          | true =>
            obtain ⟨A, f, g1, g2, g3, g4, g5⟩ := (i2 m rfl).1 hm
            rw [g1, List.length_append, g2]
            show _ = cnt (enB b) m + _
            rw [if_pos (by unfold enB; rw [hb, hm]; rfl)]
            rfl
  intro i hb
  exact ((all (i + 1)).2.1 i rfl).1 hb
theorem last_snd {A : List (Nat × Nat)} {p q : Nat} : (A ++ [(p, q)]).getLast?.map Prod.snd = some q := by simp
/-- .. and of all places -/
theorem runs_all {b : Nat → Bool} {i : Nat} (hb : b i = true) : ∀ k, ∃ A f l rest, runs b (i + 1 + k) = A ++ (f, l) :: rest ∧ A.length = cnt (enB b) i ∧ (∀ q ∈ A, q.2 < i) ∧ f ≤ i ∧ (f = i ↔ ¬ (0 < i ∧ b (i - 1) = true)) ∧ i ≤ l ∧ (l = i ↔ ¬ (0 < k ∧ b (i + 1) = true)) ∧ (∀ q ∈ rest, i < q.2) ∧ (b (i + k) = true → (runs b (i + 1 + k)).getLast?.map Prod.snd = some (i + k) ∧ (rest = [] → l = i + k))
  | 0 => by
    obtain ⟨A, f, g1, g2, g3, g4, g5⟩ := runs_open hb
    exact ⟨A, f, i, [], g1, g2, g3, g4, g5, Nat.le_refl i, by omega, by simp, fun _ => ⟨by rw [show i + 1 + 0 = i + 1 by omega, g1]; simp, fun _ => rfl⟩⟩
  | k + 1 => by
    obtain ⟨A, f, l, rest, g1, g2, g3, g4, g5, g6, g7, g8, g9⟩ := runs_all hb k
    have hik : i + 1 + k = i + (k + 1) := by omega
    cases hk : b (i + 1 + k) with
    | false =>
      refine ⟨A, f, l, rest, (runs_succ_f hk).trans g1, g2, g3, g4, g5, g6, ?_, g8, fun z => ?_⟩
      · rw [g7]
        cases k with
        | zero => rw [show i + 1 + 0 = i + 1 by omega] at hk; rw [hk]; simp
        | succ k => simp
      · rw [← hik, hk] at z; cases z
    | true =>
      by_cases h2 : 0 < i + 1 + k ∧ b (i + 1 + k - 1) = true
      · have h3 : b (i + k) = true := by have := h2.2; rwa [show i + 1 + k - 1 = i + k by omega] at this
        obtain ⟨g10, g11⟩ := g9 h3
        cases hr : rest.reverse with
        | nil =>
          have hr : rest = [] := by simpa using hr
          subst hr
          have hl := g11 rfl
          refine ⟨A, f, i + 1 + k, [], runs_succ_s hk h2 g1, g2, g3, g4, g5, by omega, ?_, by simp, fun _ => ⟨by rw [show i + 1 + (k + 1) = i + 1 + k + 1 by omega, runs_succ_s hk h2 g1, last_snd, hik], fun _ => by omega⟩⟩
          constructor
          · omega
          · intro z
            exfalso
            apply z
            refine ⟨by omega, ?_⟩
            cases k with
            | zero => exact hk
            | succ k =>
              by_cases q : b (i + 1) = true
              · exact q
              · have := g7.mpr fun z => q z.2
                omega
        | cons x xs =>
          have hr : rest = xs.reverse ++ [x] := by
            have := congrArg List.reverse hr
            simpa using this
          have g1' : runs b (i + 1 + k) = (A ++ (f, l) :: xs.reverse) ++ [(x.1, x.2)] := by rw [g1, hr]; simp
          have e := runs_succ_s hk h2 g1'
          refine ⟨A, f, l, xs.reverse ++ [(x.1, i + 1 + k)], by rw [show i + 1 + (k + 1) = i + 1 + k + 1 by omega, e]; simp, g2, g3, g4, g5, g6, ?_, ?_, fun _ => ⟨by rw [show i + 1 + (k + 1) = i + 1 + k + 1 by omega, e, last_snd, hik], fun z => by simp at z⟩⟩
          · rw [g7]
            cases k with
            | zero =>
              exfalso
              have h4 : (runs b (i + 1 + 0)) = _ := g1
              obtain ⟨A', f', q1, q2, q3, q4, q5⟩ := runs_open hb
              rw [show i + 1 + 0 = i + 1 by omega, q1] at h4
              have h5 := congrArg List.length h4
              rw [hr] at h5
              simp at h5
              omega
            | succ k => simp
          · intro q hq
            rcases List.mem_append.mp hq with hq | hq
            · exact g8 q (by rw [hr]; exact List.mem_append_left _ hq)
            · rw [List.mem_singleton.mp hq]; show i < i + 1 + k; omega
      · have e := runs_succ_t hk h2
        have h3 : ¬ b (i + k) = true := fun z => h2 ⟨by omega, by rwa [show i + 1 + k - 1 = i + k by omega]⟩
        refine ⟨A, f, l, rest ++ [(i + 1 + k, i + 1 + k)], by rw [show i + 1 + (k + 1) = i + 1 + k + 1 by omega, e, g1]; simp, g2, g3, g4, g5, g6, ?_, ?_, fun _ => ⟨by rw [show i + 1 + (k + 1) = i + 1 + k + 1 by omega, e, last_snd, hik], fun z => by simp at z⟩⟩
        · rw [g7]
          cases k with
          | zero => exact absurd hb h3
          | succ k => simp
        · intro q hq
          rcases List.mem_append.mp hq with hq | hq
          · exact g8 q hq
          · rw [List.mem_singleton.mp hq]; show i < i + 1 + k; omega
/-- how many runs -/
theorem runs_cnt {b : Nat → Bool} : ∀ n, (runs b n).length = cnt (stB b) n
  | 0 => rfl
  | n + 1 => by
    show _ = cnt (stB b) n + _
    rw [← runs_cnt n]
    cases hb : b n with
    | false => rw [runs_succ_f hb, if_neg (by unfold stB; rw [hb]; simp)]; rfl
    | true =>
      by_cases h2 : 0 < n ∧ b (n - 1) = true
      · obtain ⟨m, rfl⟩ : ∃ m, n = m + 1 := ⟨n - 1, by omega⟩
        obtain ⟨A, f, g1, _⟩ := runs_open h2.2
        rw [runs_succ_s hb h2 g1, show m + 1 - 1 + 1 = m + 1 from rfl] at *
        rw [if_neg (by unfold stB; rw [hb]; simp; exact h2.2), g1]
        simp
      · rw [runs_succ_t hb h2, if_pos (by unfold stB; rw [hb]; simp only [Bool.true_and, Bool.not_eq_true', Bool.and_eq_false_iff, decide_eq_false_iff_not]; exact (Classical.em (0 < n)).elim (fun z => .inr (by cases q : b (n - 1) with | false => rfl | true => exact absurd ⟨z, q⟩ h2)) .inl)]
        simp
/-- has the place a place of its slot ahead, behind -/
def Lb (b : Nat → Bool) (p : Nat) : Bool := decide (0 < p) && b (p - 1)
def Rb (b : Nat → Bool) (n p : Nat) : Bool := decide (p + 1 < n) && b (p + 1)
theorem letter_at {b : Nat → Bool} {n p : Nat} (hp : p < n) (hb : b p = true) : ∃ f l, (runs b n)[cnt (enB b) p]? = some (f, l) ∧ slotN (runs b n) p = cnt (enB b) p ∧ (p = f ↔ Lb b p = false) ∧ (p = l ↔ Rb b n p = false) ∧ f ≤ p ∧ p ≤ l := by
  obtain ⟨k, rfl⟩ : ∃ k, n = p + 1 + k := ⟨n - p - 1, by omega⟩
  obtain ⟨A, f, l, rest, g1, g2, g3, g4, g5, g6, g7, g8, _⟩ := runs_all hb k
  refine ⟨f, l, ?_, ?_, ?_, ?_, g4, g6⟩
  · rw [g1, ← g2, List.getElem?_append_right (Nat.le_refl _)]
    simp
  · unfold slotN
    rw [g1, List.filter_append, List.filter_cons_of_neg (by simp; omega), ← g2, List.length_append]
    have h1 : A.filter (fun q => decide (q.2 < p)) = A := List.filter_eq_self.mpr fun q hq => decide_eq_true (g3 q hq)
    have h2 : rest.filter (fun q => decide (q.2 < p)) = [] := List.filter_eq_nil_iff.mpr fun q hq => by
      have := g8 q hq
      simp; omega
    rw [h1, h2]
    rfl
  · rw [show (p = f) = (f = p) from propext ⟨Eq.symm, Eq.symm⟩, g5]
    unfold Lb
    cases b (p - 1) <;> simp
  · rw [show (p = l) = (l = p) from propext ⟨Eq.symm, Eq.symm⟩, g7]
    unfold Rb
    by_cases z : 0 < k
    · rw [decide_eq_true (show p + 1 < p + 1 + k by omega)]
      cases b (p + 1) <;> simp [z]
    · rw [decide_eq_false (show ¬ p + 1 < p + 1 + k by omega)]
      simp [z]
theorem invF_at {r : List Nat} (hn : r.Nodup) (hr : ∀ x ∈ r, x < r.length) : ∀ i, i ≤ r.length → ∀ j, j < i → (invF r i)[r.getD j 0]? = some j
  | 0, _, j, h => absurd h (Nat.not_lt_zero j)
  | i + 1, hi, j, hj => by
    show ((invF r i).set (r.getD i 0) i)[r.getD j 0]? = some j
    have gi : ∀ i, i < r.length → r.getD i 0 = r[i]?.getD 0 := fun i _ => List.getD_eq_getElem?_getD
    by_cases e : i = j
    · subst e
      rw [List.getElem?_set_self]
      rw [invF_len]
      have hlt : i < r.length := hi
      rw [List.getD_eq_getElem?_getD, List.getElem?_eq_getElem hlt]
      exact hr _ (List.getElem_mem hlt)
    · have hlt : i < r.length := hi
      have hlt2 : j < r.length := by omega
      rw [List.getElem?_set_ne, invF_at hn hr i (by omega) j (by omega)]
      rw [List.getD_eq_getElem?_getD, List.getD_eq_getElem?_getD, List.getElem?_eq_getElem hlt, List.getElem?_eq_getElem hlt2]
      intro z
      exact e ((List.getElem_inj hn).mp z)
theorem row_nd {r : List Nat} (h : IsRow r) : r.Nodup := h.nodup_iff.mpr List.nodup_range
theorem plc_of {r : List Nat} (h : IsRow r) {p e : Nat} (hp : r[p]? = some e) : plc r e = p := by
  obtain ⟨hlt, _⟩ := List.getElem?_eq_some_iff.mp hp
  have q := invF_at (row_nd h) (row_lt h) r.length (Nat.le_refl _) p hlt
  rw [List.getD_eq_getElem?_getD, hp] at q
  unfold plc
  rw [List.getD_eq_getElem?_getD, show (some e).getD 0 = e from rfl] at *
  rw [q]
  rfl
theorem row_has {r : List Nat} (h : IsRow r) {e : Nat} (he : e < r.length) : ∃ p : Nat, r[p]? = some e := by
  have : e ∈ r := h.mem_iff.mpr (List.mem_range.mpr he)
  exact List.mem_iff_getElem?.mp this
theorem plc_at {r : List Nat} (h : IsRow r) {e : Nat} (he : e < r.length) : r[plc r e]? = some e := by
  obtain ⟨p, hp⟩ := row_has h he
  rw [plc_of h hp]
  exact hp
theorem plc_lt {r : List Nat} (h : IsRow r) {e : Nat} (he : e < r.length) : plc r e < r.length := (List.getElem?_eq_some_iff.mp (plc_at h he)).1
theorem geF_plc {r : List Nat} (h : IsRow r) {e : Nat} (he : e < r.length) : geF r e (plc r e) = true := by
  unfold geF
  rw [List.getD_eq_getElem?_getD, plc_at h he]
  exact decide_eq_true (Nat.le_refl e)
/-- the letter of an entry -/
def ltF (r : List Nat) (e : Nat) : Nat × Bool × Bool := (cnt (enB (geF r e)) (plc r e), Lb (geF r e) (plc r e), Rb (geF r e) r.length (plc r e))
def besR (r s : List Nat) : List Nat := r ++ s.map (· + r.length)
def undR (r s : List Nat) : List Nat := r.map (· + s.length) ++ s
theorem besR_row {r s : List Nat} (h : IsRow r) (g : IsRow s) : IsRow (besR r s) := by
  unfold IsRow besR
  rw [List.length_append, List.length_map, List.range_add]
  refine List.Perm.append h ?_
  have := g.map (· + r.length)
  refine this.trans (List.Perm.of_eq ?_)
  exact List.map_congr_left fun x _ => Nat.add_comm _ _
theorem undR_row {r s : List Nat} (h : IsRow r) (g : IsRow s) : IsRow (undR r s) := by
  unfold IsRow undR
  rw [List.length_append, List.length_map, Nat.add_comm, List.range_add]
  refine List.perm_append_comm.trans (List.Perm.append g ?_)
  have := h.map (· + s.length)
  refine this.trans (List.Perm.of_eq ?_)
  exact List.map_congr_left fun x _ => Nat.add_comm _ _
theorem rev_row {r : List Nat} (h : IsRow r) : IsRow r.reverse := by
  unfold IsRow
  rw [List.length_reverse]
  exact (List.reverse_perm r).trans h
theorem getD_l {r s : List Nat} {i : Nat} (h : i < r.length) : (r ++ s).getD i 0 = r.getD i 0 := by
  simp only [List.getD_eq_getElem?_getD]
  rw [List.getElem?_append_left h]
theorem getD_r {r s : List Nat} {i : Nat} : (r ++ s).getD (r.length + i) 0 = s.getD i 0 := by
  simp only [List.getD_eq_getElem?_getD]
  rw [List.getElem?_append_right (Nat.le_add_right _ _), Nat.add_sub_cancel_left]
theorem getD_add {r : List Nat} {i k : Nat} (h : i < r.length) : (r.map (· + k)).getD i 0 = r.getD i 0 + k := by
  simp only [List.getD_eq_getElem?_getD, List.getElem?_map, List.getElem?_eq_getElem h]
  rfl
theorem getD_mem {r : List Nat} {i : Nat} (h : i < r.length) : r.getD i 0 ∈ r := by
  rw [List.getD_eq_getElem?_getD, List.getElem?_eq_getElem h]
  exact List.getElem_mem h
theorem Lb_congr {b c : Nat → Bool} {p : Nat} (h : ∀ i, i ≤ p → b i = c i) : Lb b p = Lb c p := by
  unfold Lb
  rw [h (p - 1) (by omega)]
theorem en_congr {b c : Nat → Bool} {p : Nat} (h : ∀ i, i ≤ p → b i = c i) : cnt (enB b) p = cnt (enB c) p := cnt_congr fun i hi => by
  unfold enB
  rw [h i (by omega), h (i + 1) (by omega)]
/-- beside: the first row's letters -/
theorem bes_l {r s : List Nat} (h : IsRow r) (g : IsRow s) (hs : 0 < s.length) {e : Nat} (he : e < r.length) :
    ltF (besR r s) e = ((ltF r e).1, (ltF r e).2.1, if r.getD (r.length - 1) 0 = e then true else (ltF r e).2.2) := by
  have hp := plc_at h he
  have hlt := plc_lt h he
  have hp2 : plc (besR r s) e = plc r e := plc_of (besR_row h g) (by unfold besR; rw [List.getElem?_append_left hlt]; exact hp)
  have hb : ∀ i, i < r.length → geF (besR r s) e i = geF r e i := fun i hi => by unfold geF besR; rw [getD_l hi]
  unfold ltF
  rw [hp2]
  refine Prod.ext ?_ (Prod.ext ?_ ?_)
  · exact en_congr fun i hi => hb i (by omega)
  · exact Lb_congr fun i hi => hb i (by omega)
  · show Rb (geF (besR r s) e) (besR r s).length (plc r e) = _
    have hl : (besR r s).length = r.length + s.length := by unfold besR; rw [List.length_append, List.length_map]
    by_cases z : r.getD (r.length - 1) 0 = e
    · rw [if_pos z]
      have z2 : plc r e = r.length - 1 := plc_of h (by rw [← z, List.getD_eq_getElem?_getD, List.getElem?_eq_getElem (by omega)]; rfl)
      unfold Rb
      rw [hl, z2, show r.length - 1 + 1 = r.length by omega, decide_eq_true (by omega), Bool.true_and]
      unfold geF besR
      have := getD_r (r := r) (s := s.map (· + r.length)) (i := 0)
      rw [Nat.add_zero] at this
      rw [this, getD_add hs]
      exact decide_eq_true (by omega)
    · rw [if_neg z]
      have z2 : plc r e + 1 < r.length := by
        by_cases q : plc r e = r.length - 1
        · exfalso
          apply z
          rw [q] at hp
          rw [List.getD_eq_getElem?_getD, hp]
          rfl
        · omega
      show Rb _ _ _ = Rb _ _ _
      unfold Rb
      rw [hb _ z2, hl, decide_eq_true (by omega), decide_eq_true z2]
/-- a row whose first places are all below: the letters of the rest -/
theorem low_l {r s : List Nat} (h : IsRow (r ++ s)) {e p : Nat} (hp : s[p]? = some e) (hr : ∀ x ∈ r, x < e) :
    ltF (r ++ s) e = (cnt (enB (geF s e)) p, Lb (geF s e) p, Rb (geF s e) s.length p) := by
  have hlt := (List.getElem?_eq_some_iff.mp hp).1
  have hp2 : plc (r ++ s) e = r.length + p := plc_of h (by rw [List.getElem?_append_right (Nat.le_add_right _ _), Nat.add_sub_cancel_left]; exact hp)
  have hb : ∀ i, i < r.length → geF (r ++ s) e i = false := fun i hi => by
    unfold geF
    rw [getD_l hi]
    have := hr _ (getD_mem hi)
    exact decide_eq_false (by omega)
  have hb2 : ∀ i, geF (r ++ s) e (r.length + i) = geF s e i := fun i => by unfold geF; rw [getD_r]
  unfold ltF
  rw [hp2]
  refine Prod.ext ?_ (Prod.ext ?_ ?_)
  · show cnt _ (r.length + p) = _
    rw [cnt_add, cnt_zero fun i hi => by unfold enB; rw [hb i hi]; rfl, Nat.zero_add]
    exact cnt_congr fun i hi => by unfold enB; rw [hb2, show r.length + i + 1 = r.length + (i + 1) by omega, hb2]
  · show Lb _ _ = _
    unfold Lb
    cases p with
    | zero =>
      cases hz : r.length with
      | zero => simp
      | succ m => rw [Nat.add_zero, show m + 1 - 1 = m from rfl, hb m (by omega)]; simp
    | succ p => rw [show r.length + (p + 1) - 1 = r.length + p by omega, hb2, decide_eq_true (show 0 < r.length + (p + 1) by omega)]; simp
  · show Rb _ _ _ = _
    unfold Rb
    rw [show r.length + p + 1 = r.length + (p + 1) by omega, hb2, List.length_append]
    congr 1
    exact decide_eq_decide.mpr (by omega)
theorem geF_add {s : List Nat} {e k i : Nat} (hi : i < s.length) : geF (s.map (· + k)) (k + e) i = geF s e i := by
  unfold geF
  rw [getD_add hi]
  exact decide_eq_decide.mpr (by omega)
theorem lt_of {s : List Nat} (g : IsRow s) {e p : Nat} (hp : s[p]? = some e) : ltF s e = (cnt (enB (geF s e)) p, Lb (geF s e) p, Rb (geF s e) s.length p) := by
  unfold ltF
  rw [plc_of g hp]
theorem Rb_congr {b c : Nat → Bool} {n p : Nat} (h : ∀ i, i < n → b i = c i) : Rb b n p = Rb c n p := by
  unfold Rb
  by_cases z : p + 1 < n
  · rw [h _ z]
  · rw [decide_eq_false z]; rfl
/-- beside: the second row's letters -/
theorem bes_r {r s : List Nat} (h : IsRow r) (g : IsRow s) {e : Nat} (he : e < s.length) : ltF (besR r s) (r.length + e) = ltF s e := by
  have hp := plc_at g he
  have hlt := plc_lt g he
  have q := low_l (r := r) (s := s.map (· + r.length)) (e := r.length + e) (p := plc s e) (besR_row h g) (by rw [List.getElem?_map, hp]; exact congrArg some (Nat.add_comm _ _)) (fun x hx => by have := row_lt h x hx; omega)
  unfold besR
  rw [q, lt_of g hp, List.length_map]
  refine Prod.ext ?_ (Prod.ext ?_ ?_)
  · exact en_congr fun i hi => geF_add (by omega)
  · exact Lb_congr fun i hi => geF_add (by omega)
  · exact Rb_congr fun i hi => geF_add hi
/-- under: the first row's letters -/
theorem und_r {r s : List Nat} (h : IsRow r) (g : IsRow s) {e : Nat} (he : e < r.length) : ltF (undR r s) (s.length + e) = ltF r e := by
  have hp := plc_at h he
  have hlt := plc_lt h he
  have hp2 : (undR r s)[plc r e]? = some (s.length + e) := by
    unfold undR
    rw [List.getElem?_append_left (by rw [List.length_map]; exact hlt), List.getElem?_map, hp]
    exact congrArg some (Nat.add_comm _ _)
  have hb : ∀ i, i < r.length → geF (undR r s) (s.length + e) i = geF r e i := fun i hi => by
    rw [← geF_add (k := s.length) hi]
    unfold geF undR
    rw [getD_l (by rw [List.length_map]; exact hi)]
  rw [lt_of (undR_row h g) hp2, lt_of h hp]
  refine Prod.ext ?_ (Prod.ext ?_ ?_)
  · exact en_congr fun i hi => hb i (by omega)
  · exact Lb_congr fun i hi => hb i (by omega)
  · show Rb _ _ _ = Rb _ _ _
    unfold Rb
    by_cases z : plc r e + 1 < r.length
    · rw [hb _ z]
      congr 1
      rw [decide_eq_true z]
      refine decide_eq_true ?_
      unfold undR
      rw [List.length_append, List.length_map]
      omega
    · rw [decide_eq_false z, Bool.false_and, show plc r e + 1 = (r.map (· + s.length)).length + 0 by rw [List.length_map]; omega]
      unfold geF undR
      rw [getD_r]
      by_cases y : 0 < s.length
      · have : s.getD 0 0 < s.length := row_lt g _ (getD_mem y)
        rw [Bool.and_eq_false_iff]
        exact .inr (decide_eq_false (by omega))
      · rw [Bool.and_eq_false_iff]
        exact .inl (decide_eq_false (by rw [List.length_append]; omega))
/-- under: the second row's letters -/
theorem und_l {r s : List Nat} (h : IsRow r) (g : IsRow s) (hr : 0 < r.length) {e : Nat} (he : e < s.length) :
    ltF (undR r s) e = if s.getD 0 0 = e then ((ltF s e).1, true, (ltF s e).2.2) else (if s.getD 0 0 < e then (ltF s e).1 + 1 else (ltF s e).1, (ltF s e).2.1, (ltF s e).2.2) := by
  have hp := plc_at g he
  have hlt := plc_lt g he
  have h0 : s[0]? = some (s.getD 0 0) := by rw [List.getD_eq_getElem?_getD, List.getElem?_eq_getElem (by omega)]; rfl
  have hp2 : (undR r s)[r.length + plc s e]? = some e := by
    unfold undR
    rw [List.getElem?_append_right (by rw [List.length_map]; omega), List.length_map, Nat.add_sub_cancel_left]
    exact hp
  have hb : ∀ i, i < r.length → geF (undR r s) e i = true := fun i hi => by
    unfold geF undR
    rw [getD_l (by rw [List.length_map]; exact hi), getD_add hi]
    exact decide_eq_true (by omega)
  have hb2 : ∀ i, geF (undR r s) e (r.length + i) = geF s e i := fun i => by
    have := getD_r (r := r.map (· + s.length)) (s := s) (i := i)
    rw [List.length_map] at this
    unfold geF undR
    rw [this]
  have hR : Rb (geF (undR r s) e) (undR r s).length (r.length + plc s e) = Rb (geF s e) s.length (plc s e) := by
    unfold Rb
    rw [show r.length + plc s e + 1 = r.length + (plc s e + 1) by omega, hb2]
    congr 1
    refine decide_eq_decide.mpr ?_
    unfold undR
    rw [List.length_append, List.length_map]
    omega
  have hC : cnt (enB (geF (undR r s) e)) (r.length + plc s e) = (if s.getD 0 0 < e then 1 else 0) + cnt (enB (geF s e)) (plc s e) := by
    rw [cnt_add]
    congr 1
    · obtain ⟨m, hm⟩ : ∃ m, r.length = m + 1 := ⟨r.length - 1, by omega⟩
      rw [hm]
      show cnt _ m + _ = _
      rw [cnt_zero fun i hi => by unfold enB; rw [hb i (by omega), hb (i + 1) (by omega)]; rfl, Nat.zero_add]
      have := hb2 0
      rw [Nat.add_zero, hm] at this
      unfold enB
      rw [hb m (by omega), this]
      unfold geF
      by_cases z : s.getD 0 0 < e
      · rw [if_pos z, decide_eq_false (by omega)]; rfl
      · rw [if_neg z, decide_eq_true (by omega)]; rfl
    · exact cnt_congr fun i hi => by unfold enB; rw [hb2, show r.length + i + 1 = r.length + (i + 1) by omega, hb2]
  rw [lt_of (undR_row h g) hp2, lt_of g hp, hR, hC]
  by_cases z : s.getD 0 0 = e
  · rw [if_pos z]
    have z2 : plc s e = 0 := plc_of g (by rw [← z]; exact h0)
    rw [z2, if_neg (by omega)]
    refine Prod.ext (Nat.zero_add _) (Prod.ext ?_ rfl)
    show Lb _ _ = true
    unfold Lb
    rw [hb _ (by omega), decide_eq_true (by omega)]
    rfl
  · rw [if_neg z]
    have z2 : 0 < plc s e := by
      apply Nat.pos_of_ne_zero
      intro q
      apply z
      rw [q, h0] at hp
      exact Option.some.inj hp
    refine Prod.ext ?_ (Prod.ext ?_ rfl)
    · show _ + _ = _
      by_cases y : s.getD 0 0 < e
      · rw [if_pos y, if_pos y]; exact Nat.add_comm _ _
      · rw [if_neg y, if_neg y]; exact Nat.zero_add _
    · show Lb _ _ = Lb _ _
      unfold Lb
      rw [show r.length + plc s e - 1 = r.length + (plc s e - 1) by omega, hb2, decide_eq_true z2, decide_eq_true (by omega)]
def nsM (r : List Nat) (e : Nat) : Nat := cnt (stB (geF r e)) r.length
theorem st_en {b : Nat → Bool} {p : Nat} (hb : b p = true) : cnt (stB b) (p + 1) = cnt (enB b) p + 1 := by
  obtain ⟨A, f, g1, g2, _⟩ := runs_open hb
  rw [← runs_cnt, g1, List.length_append, g2]
  rfl
theorem geF_rev {r : List Nat} {e i : Nat} (hi : i < r.length) : geF r.reverse e i = geF r e (r.length - 1 - i) := by
  unfold geF
  rw [List.getD_eq_getElem?_getD, List.getElem?_reverse hi, List.getD_eq_getElem?_getD]
theorem plc_rev {r : List Nat} (h : IsRow r) {e : Nat} (he : e < r.length) : plc r.reverse e = r.length - 1 - plc r e := by
  have hlt := plc_lt h he
  refine plc_of (rev_row h) ?_
  rw [List.getElem?_reverse (by omega), show r.length - 1 - (r.length - 1 - plc r e) = plc r e by omega]
  exact plc_at h he
theorem cnt_from {f : Nat → Bool} {p n : Nat} (hp : p < n) : cnt f n = cnt f (p + 1) + cnt (fun i => f (p + 1 + i)) (n - 1 - p) := by
  have := cnt_add (f := f) (m := p + 1) (n := n - 1 - p)
  rw [show p + 1 + (n - 1 - p) = n by omega] at this
  exact this
theorem rev_l {r : List Nat} (h : IsRow r) {e : Nat} (he : e < r.length) : (ltF r.reverse e).2 = ((ltF r e).2.2, (ltF r e).2.1) ∧ (ltF r.reverse e).1 + (ltF r e).1 + 1 = nsM r e := by
  have hlt := plc_lt h he
  have hb := geF_plc h he
  unfold ltF
  rw [plc_rev h he]
  refine ⟨Prod.ext ?_ ?_, ?_⟩
  · show Lb _ _ = Rb _ _ _
    unfold Lb Rb
    by_cases z : plc r e + 1 < r.length
    · rw [geF_rev (by omega), decide_eq_true z, decide_eq_true (by omega), show r.length - 1 - (r.length - 1 - plc r e - 1) = plc r e + 1 by omega]
    · rw [decide_eq_false z, decide_eq_false (by omega)]; rfl
  · show Rb _ _ _ = Lb _ _
    unfold Lb Rb
    rw [List.length_reverse]
    by_cases z : 0 < plc r e
    · rw [geF_rev (by omega), decide_eq_true z, decide_eq_true (by omega), show r.length - 1 - (r.length - 1 - plc r e + 1) = plc r e - 1 by omega]
    · rw [decide_eq_false z, decide_eq_false (by omega)]; rfl
  · show cnt _ _ + cnt _ _ + 1 = _
    unfold nsM
    rw [cnt_from hlt, st_en hb, ← cnt_rev (f := fun i => stB (geF r e) (plc r e + 1 + i))]
    have : cnt (enB (geF r.reverse e)) (r.length - 1 - plc r e) = cnt (fun i => stB (geF r e) (plc r e + 1 + (r.length - 1 - plc r e - 1 - i))) (r.length - 1 - plc r e) := cnt_congr fun i hi => by
      unfold enB stB
      rw [geF_rev (by omega), geF_rev (by omega), show plc r e + 1 + (r.length - 1 - plc r e - 1 - i) = r.length - 1 - i by omega, decide_eq_true (show 0 < r.length - 1 - i by omega), Bool.true_and, show r.length - 1 - (i + 1) = r.length - 1 - i - 1 by omega]
    rw [this]
    omega
theorem cnt_ends {b : Nat → Bool} : ∀ n, cnt (stB b) n = cnt (fun i => b i && !(decide (i + 1 < n) && b (i + 1))) n
  | 0 => rfl
  | n + 1 => by
    cases hb : b n with
    | true =>
      rw [st_en hb]
      show _ = cnt _ n + _
      rw [if_pos (by show (b n && !(decide (n + 1 < n + 1) && b (n + 1))) = true; rw [hb, decide_eq_false (by omega)]; rfl)]
      congr 1
      exact cnt_congr fun i hi => by unfold enB; rw [decide_eq_true (by omega), Bool.true_and]
    | false =>
      show cnt _ n + _ = cnt _ n + _
      rw [if_neg (by unfold stB; rw [hb]; simp), if_neg (by show ¬ (b n && !(decide (n + 1 < n + 1) && b (n + 1))) = true; rw [hb]; simp), cnt_ends n, Nat.add_zero, Nat.add_zero]
      refine cnt_congr fun i hi => ?_
      by_cases z : i + 1 < n
      · rw [decide_eq_true z, decide_eq_true (by omega)]
      · have e : i + 1 = n := by omega
        rw [e, hb]; simp
theorem rev_ns {r : List Nat} {e : Nat} : nsM r.reverse e = nsM r e := by
  unfold nsM
  rw [List.length_reverse, cnt_ends (b := geF r e), ← cnt_rev (f := fun i => geF r e i && _)]
  refine cnt_congr fun i hi => ?_
  unfold stB
  rw [geF_rev hi]
  congr 2
  by_cases z : 0 < i
  · rw [decide_eq_true z, decide_eq_true (by omega), geF_rev (by omega), show r.length - 1 - (i - 1) = r.length - 1 - i + 1 by omega]
  · rw [decide_eq_false z, decide_eq_false (by omega)]; rfl
/-- a step of the slots -/
theorem ns_step {r : List Nat} (h : IsRow r) {e : Nat} (he : e < r.length) : nsM r (e + 1) + (if (ltF r e).2.1 then 0 else 1) = nsM r e + (if (ltF r e).2.2 then 1 else 0) := by
  have hlt := plc_lt h he
  have hb := geF_plc h he
  have hp := plc_at h he
  have hs : ∀ i, i < r.length → i ≠ plc r e → geF r (e + 1) i = geF r e i := fun i hi hn => by
    unfold geF
    have : r.getD i 0 ≠ e := fun z => hn (plc_of h (by rw [← z, List.getD_eq_getElem?_getD, List.getElem?_eq_getElem hi]; rfl)).symm
    exact decide_eq_decide.mpr (by omega)
  have hf : geF r (e + 1) (plc r e) = false := by
    unfold geF
    rw [List.getD_eq_getElem?_getD, hp]
    exact decide_eq_false (by show ¬ e + 1 ≤ e; omega)
  unfold nsM
  have split : ∀ c : Nat → Bool, cnt (stB c) r.length = cnt (stB c) (plc r e) + (if stB c (plc r e) then 1 else 0) + cnt (fun i => stB c (plc r e + 1 + i)) (r.length - 1 - plc r e) := fun c => by rw [cnt_from hlt]; rfl
  rw [split, split]
  have c1 : cnt (stB (geF r (e + 1))) (plc r e) = cnt (stB (geF r e)) (plc r e) := cnt_congr fun i hi => by
    unfold stB
    rw [hs i (by omega) (by omega), hs (i - 1) (by omega) (by omega)]
  have c2 : (if stB (geF r (e + 1)) (plc r e) then 1 else 0) = 0 := if_neg (by unfold stB; rw [hf]; simp)
  have c3 : (if stB (geF r e) (plc r e) then 1 else 0) = (if (ltF r e).2.1 then 0 else 1) := by
    show _ = if Lb _ _ then 0 else 1
    unfold stB Lb
    rw [hb]
    cases (decide (0 < plc r e) && geF r e (plc r e - 1)) <;> rfl
  have c4 : cnt (fun i => stB (geF r (e + 1)) (plc r e + 1 + i)) (r.length - 1 - plc r e) = cnt (fun i => stB (geF r e) (plc r e + 1 + i)) (r.length - 1 - plc r e) + (if (ltF r e).2.2 then 1 else 0) := by
    show _ = _ + if Rb _ _ _ then 1 else 0
    cases hm : r.length - 1 - plc r e with
    | zero =>
      show 0 = 0 + _
      unfold Rb
      rw [decide_eq_false (show ¬ plc r e + 1 < r.length by omega)]
      rfl
    | succ m =>
      rw [Nat.add_comm m 1, cnt_add, cnt_add]
      have d1 : cnt (fun i => stB (geF r (e + 1)) (plc r e + 1 + (1 + i))) m = cnt (fun i => stB (geF r e) (plc r e + 1 + (1 + i))) m := cnt_congr fun i hi => by
        unfold stB
        rw [hs (plc r e + 1 + (1 + i)) (by omega) (by omega), hs (plc r e + 1 + (1 + i) - 1) (by omega) (by omega)]
      rw [d1]
      show 0 + (if stB (geF r (e + 1)) (plc r e + 1 + 0) then 1 else 0) + _ = 0 + (if stB (geF r e) (plc r e + 1 + 0) then 1 else 0) + _ + _
      unfold stB Rb
      rw [Nat.add_zero, show plc r e + 1 - 1 = plc r e from rfl, hf, hb, hs (plc r e + 1) (by omega) (by omega), decide_eq_true (show plc r e + 1 < r.length by omega)]
      cases geF r e (plc r e + 1) <;> simp
      omega
  rw [c1, c2, c3, c4]
  omega
theorem ns_zero {r : List Nat} : nsM r 0 = if r.length = 0 then 0 else 1 := by
  unfold nsM
  cases hr : r.length with
  | zero => rfl
  | succ n =>
    rw [if_neg (by omega), st_en (show geF r 0 n = true from decide_eq_true (Nat.zero_le _)), cnt_zero fun i hi => by unfold enB geF; simp]
theorem ns_top {r : List Nat} (h : IsRow r) : nsM r r.length = 0 := by
  unfold nsM
  refine cnt_zero fun i hi => ?_
  unfold stB geF
  rw [decide_eq_false (by have := row_lt h _ (getD_mem hi); omega)]
  rfl
theorem slot_lt {r : List Nat} (h : IsRow r) {e : Nat} (he : e < r.length) : (ltF r e).1 < nsM r e := by
  have := (rev_l h he).2
  omega
/-! exchanged -/
def swE (low x : Nat) : Nat := if x = low then low + 1 else if x = low + 1 then low else x
def swR (r : List Nat) (low : Nat) : List Nat := r.map (swE low)
theorem swE_inv {low x : Nat} : swE low (swE low x) = x := by
  unfold swE
  by_cases h : x = low
  · simp [h]
  · by_cases h2 : x = low + 1
    · simp [h2]
    · simp [h, h2]
theorem sw_row {r : List Nat} (h : IsRow r) {low : Nat} (hl : low + 1 < r.length) : IsRow (swR r low) := by
  have nd : (swR r low).Nodup := by
    unfold swR
    rw [List.nodup_iff_pairwise_ne, List.pairwise_map]
    refine (List.nodup_iff_pairwise_ne.mp (row_nd h)).imp fun hab z => hab ?_
    have := congrArg (swE low) z
    rwa [swE_inv, swE_inv] at this
  unfold IsRow
  have hlen : (swR r low).length = r.length := by unfold swR; rw [List.length_map]
  rw [hlen]
  refine (List.perm_ext_iff_of_nodup nd List.nodup_range).mpr fun a => ?_
  unfold swR
  rw [List.mem_map, List.mem_range]
  constructor
  · rintro ⟨x, hx, rfl⟩
    have := row_lt h x hx
    unfold swE
    split
    · omega
    · split <;> omega
  · intro ha
    have hs : swE low a < r.length := by
      unfold swE
      split
      · omega
      · split <;> omega
    exact ⟨swE low a, h.mem_iff.mpr (List.mem_range.mpr hs), swE_inv⟩
theorem geF_sw {r : List Nat} {low e i : Nat} (hi : i < r.length) (he : e ≠ low + 1) : geF (swR r low) e i = geF r e i := by
  unfold geF swR
  rw [List.getD_eq_getElem?_getD, List.getElem?_map, List.getD_eq_getElem?_getD, List.getElem?_eq_getElem hi]
  refine decide_eq_decide.mpr ?_
  show e ≤ swE low r[i] ↔ e ≤ r[i]
  unfold swE
  split
  · omega
  · split <;> omega
theorem sw_len {r : List Nat} {low : Nat} : (swR r low).length = r.length := by unfold swR; rw [List.length_map]
theorem sw_ns {r : List Nat} {low e : Nat} (he : e ≠ low + 1) : nsM (swR r low) e = nsM r e := by
  unfold nsM
  rw [sw_len]
  exact cnt_congr fun i hi => by unfold stB; rw [geF_sw hi he, geF_sw (i := i - 1) (by omega) he]
theorem sw_lt {r : List Nat} (h : IsRow r) {low e : Nat} (hl : low + 1 < r.length) (he : e < r.length) (h1 : e ≠ low) (h2 : e ≠ low + 1) : ltF (swR r low) e = ltF r e := by
  have hp := plc_at h he
  have hlt := plc_lt h he
  have hp2 : (swR r low)[plc r e]? = some e := by
    unfold swR
    rw [List.getElem?_map, hp]
    show some (swE low e) = some e
    unfold swE
    rw [if_neg h1, if_neg h2]
  rw [lt_of (sw_row h hl) hp2, lt_of h hp, sw_len]
  refine Prod.ext ?_ (Prod.ext ?_ ?_)
  · exact en_congr fun i hi => geF_sw (by omega) h2
  · exact Lb_congr fun i hi => geF_sw (by omega) h2
  · exact Rb_congr fun i hi => geF_sw hi h2
theorem sw_ne {r : List Nat} (h : IsRow r) {low : Nat} (hl : low + 1 < r.length) : swR r low ≠ r := by
  intro z
  have hp := plc_at h (e := low) (by omega)
  have := congrArg (fun l : List Nat => l[plc r low]?) z
  unfold swR at this
  simp only [List.getElem?_map, hp] at this
  have := Option.some.inj this
  unfold swE at this
  rw [if_pos rfl] at this
  omega
/-! the row of a word -/
def putM (X Y : List (Option Nat)) (e : Nat) (L R : Bool) : List (Option Nat) := X ++ (if L then [none] else []) ++ [some e] ++ (if R then [none] else []) ++ Y
def cmpF (e : Nat) : Bool → List Nat → List (Option Nat)
  | _, [] => []
  | pv, x :: xs => if e ≤ x then (if pv then cmpF e true xs else none :: cmpF e true xs) else some x :: cmpF e false xs
def nNone (l : List (Option Nat)) : Nat := l.countP Option.isNone
/-- runs that end -/
def trF (e : Nat) : Bool → List Nat → Nat
  | _, [] => 0
  | pv, x :: xs => if e ≤ x then trF e true xs else (if pv then 1 else 0) + trF e false xs
def lastGe (e : Nat) : Bool → List Nat → Bool
  | pv, [] => pv
  | _, x :: xs => lastGe e (decide (e ≤ x)) xs
def headGe (e : Nat) : List Nat → Bool
  | [] => false
  | x :: _ => decide (e ≤ x)
theorem cmpF_succ {e : Nat} : ∀ {B : List Nat} (_ : e ∉ B) (pv : Bool), cmpF (e + 1) pv B = cmpF e pv B
  | [], _, _ => rfl
  | x :: xs, h, pv => by
    have hx : e ≠ x := fun z => h (by rw [z]; exact List.mem_cons_self)
    have ih := fun pv => cmpF_succ (B := xs) (fun z => h (List.mem_cons_of_mem _ z)) pv
    unfold cmpF
    by_cases z : e ≤ x
    · rw [if_pos z, if_pos (show e + 1 ≤ x by omega), ih]
    · rw [if_neg z, if_neg (show ¬ e + 1 ≤ x by omega), ih]
theorem cmpF_pv {e : Nat} : ∀ {B : List Nat}, cmpF e false B = (if headGe e B then [none] else []) ++ cmpF e true B
  | [] => rfl
  | x :: xs => by
    unfold cmpF headGe
    by_cases z : e ≤ x
    · rw [if_pos z, if_pos z, if_pos (decide_eq_true z)]; rfl
    · rw [if_neg z, if_neg z, if_neg (by show ¬ decide (e ≤ x) = true; rw [decide_eq_false z]; decide)]; rfl
theorem cmp_split {e : Nat} {B : List Nat} (hB : e ∉ B) : ∀ (A : List Nat) (_ : e ∉ A) (pv : Bool),
    (∃ X, cmpF e pv (A ++ e :: B) = X ++ none :: cmpF e true B ∧ cmpF (e + 1) pv (A ++ e :: B) = putM X (cmpF e true B) e (lastGe e pv A) (headGe e B) ∧ nNone X + (if pv then 1 else 0) = trF e pv A) ∨
    (pv = true ∧ trF e pv A = 0 ∧ lastGe e pv A = true ∧ cmpF e pv (A ++ e :: B) = cmpF e true B ∧ none :: cmpF (e + 1) pv (A ++ e :: B) = putM [] (cmpF e true B) e true (headGe e B))
  | [], _, pv => by
    have h1 : cmpF e pv (e :: B) = if pv then cmpF e true B else none :: cmpF e true B := by
      show (if e ≤ e then _ else _) = _
      rw [if_pos (Nat.le_refl e)]
    have h2 : cmpF (e + 1) pv (e :: B) = some e :: ((if headGe e B then [none] else []) ++ cmpF e true B) := by
      show (if e + 1 ≤ e then _ else _) = _
      rw [if_neg (by omega), cmpF_succ hB, cmpF_pv]
    cases pv with
    | true =>
      refine .inr ⟨rfl, rfl, rfl, h1, ?_⟩
      rw [List.nil_append, h2]
      simp [putM]
    | false =>
      refine .inl ⟨[], h1, ?_, rfl⟩
      rw [List.nil_append, h2]
      simp [putM, lastGe]
  | x :: A, hA, pv => by
    have hx : e ≠ x := fun z => hA (by rw [z]; exact List.mem_cons_self)
    have hA2 : e ∉ A := fun z => hA (List.mem_cons_of_mem _ z)
    by_cases z : e ≤ x
    · have h1 : cmpF e pv (x :: A ++ e :: B) = if pv then cmpF e true (A ++ e :: B) else none :: cmpF e true (A ++ e :: B) := by
        show (if e ≤ x then _ else _) = _
        rw [if_pos z]; rfl
      have h2 : cmpF (e + 1) pv (x :: A ++ e :: B) = if pv then cmpF (e + 1) true (A ++ e :: B) else none :: cmpF (e + 1) true (A ++ e :: B) := by
        show (if e + 1 ≤ x then _ else _) = _
        rw [if_pos (show e + 1 ≤ x by omega)]; rfl
      have h3 : trF e pv (x :: A) = trF e true A := by
        show (if e ≤ x then _ else _) = _
        rw [if_pos z]
      have h4 : lastGe e pv (x :: A) = lastGe e true A := by
        show lastGe e (decide (e ≤ x)) A = _
        rw [decide_eq_true z]
      rcases cmp_split hB A hA2 true with ⟨X, g1, g2, g3⟩ | ⟨_, g1, g2, g3, g4⟩
      · refine .inl ⟨if pv then X else none :: X, ?_, ?_, ?_⟩
        · rw [h1, g1]; cases pv <;> rfl
        · rw [h2, g2, h4]; cases pv <;> simp [putM]
        · rw [h3, ← g3]; cases pv <;> simp [nNone]
      · cases pv with
        | true => exact .inr ⟨rfl, by rw [h3, g1], by rw [h4, g2], by rw [h1, g3]; rfl, by rw [h2]; exact g4⟩
        | false => exact .inl ⟨[], by rw [h1, g3]; rfl, by rw [h2, h4, g2]; exact g4, by rw [h3, g1]; rfl⟩
    · have h1 : cmpF e pv (x :: A ++ e :: B) = some x :: cmpF e false (A ++ e :: B) := by
        show (if e ≤ x then _ else _) = _
        rw [if_neg z]; rfl
      have h2 : cmpF (e + 1) pv (x :: A ++ e :: B) = some x :: cmpF (e + 1) false (A ++ e :: B) := by
        show (if e + 1 ≤ x then _ else _) = _
        rw [if_neg (show ¬ e + 1 ≤ x by omega)]; rfl
      have h3 : trF e pv (x :: A) = (if pv then 1 else 0) + trF e false A := by
        show (if e ≤ x then _ else _) = _
        rw [if_neg z]
      have h4 : lastGe e pv (x :: A) = lastGe e false A := by
        show lastGe e (decide (e ≤ x)) A = _
        rw [decide_eq_false z]
      rcases cmp_split hB A hA2 false with ⟨X, g1, g2, g3⟩ | ⟨g0, _⟩
      · refine .inl ⟨some x :: X, by rw [h1, g1]; rfl, by rw [h2, g2, h4]; simp [putM], ?_⟩
        rw [h3, ← g3]
        unfold nNone
        rw [List.countP_cons_of_neg (by simp)]
        cases pv <;> simp
        omega
      · cases g0
theorem tr_cnt {e : Nat} {B : List Nat} : ∀ (A : List Nat) (pv : Bool), trF e pv A = cnt (enB (geF (A ++ e :: B) e)) A.length + (if pv && decide (0 < A.length) && !headGe e A then 1 else 0)
  | [], pv => by cases pv <;> rfl
  | x :: A, pv => by
    have ih := tr_cnt (e := e) (B := B) A
    have c1 : cnt (enB (geF (x :: A ++ e :: B) e)) (x :: A).length = (if enB (geF (x :: A ++ e :: B) e) 0 then 1 else 0) + cnt (enB (geF (A ++ e :: B) e)) A.length := by
      rw [show (x :: A).length = 1 + A.length by rw [List.length_cons]; omega, cnt_add]
      have q1 : cnt (enB (geF (x :: A ++ e :: B) e)) 1 = if enB (geF (x :: A ++ e :: B) e) 0 then 1 else 0 := Nat.zero_add _
      have q2 : cnt (fun i => enB (geF (x :: A ++ e :: B) e) (1 + i)) A.length = cnt (enB (geF (A ++ e :: B) e)) A.length := cnt_congr fun i hi => by
        show enB _ (1 + i) = _
        rw [Nat.add_comm 1 i]
        rfl
      rw [q1, q2]
    have c2 : enB (geF (x :: A ++ e :: B) e) 0 = (decide (e ≤ x) && decide (0 < A.length) && !headGe e A) := by
      unfold enB geF
      cases A with
      | nil => show (decide (e ≤ x) && !decide (e ≤ e)) = _; simp
      | cons y A => show (decide (e ≤ x) && !decide (e ≤ y)) = _; simp [headGe]
    rw [c1, c2]
    show (if e ≤ x then _ else _) = _
    by_cases z : e ≤ x
    · rw [if_pos z, ih true, decide_eq_true z, Bool.true_and]
      simp [headGe, z]
      omega
    · rw [if_neg z, ih false, decide_eq_false z]
      simp [headGe, z]
      cases pv <;> simp <;> omega
theorem lastGe_eq {e : Nat} : ∀ (A : List Nat) (pv : Bool), lastGe e pv A = if A.length = 0 then pv else decide (e ≤ A.getD (A.length - 1) 0)
  | [], _ => rfl
  | [x], _ => rfl
  | x :: y :: A, pv => by
    show lastGe e (decide (e ≤ x)) (y :: A) = _
    rw [lastGe_eq (y :: A)]
    rfl
theorem row_split {r : List Nat} (h : IsRow r) {e : Nat} (he : e < r.length) : ∃ A B, r = A ++ e :: B ∧ e ∉ A ∧ e ∉ B ∧ A.length = plc r e ∧ lastGe e false A = (ltF r e).2.1 ∧ headGe e B = (ltF r e).2.2 ∧ trF e false A = (ltF r e).1 := by
  obtain ⟨hlt, hp⟩ := List.getElem?_eq_some_iff.mp (plc_at h he)
  have hd : r = r.take (plc r e) ++ e :: r.drop (plc r e + 1) := by
    have q := List.drop_eq_getElem_cons hlt
    rw [hp] at q
    rw [← q, List.take_append_drop]
  have hl : (r.take (plc r e)).length = plc r e := by rw [List.length_take]; omega
  refine ⟨r.take (plc r e), r.drop (plc r e + 1), hd, ?_, ?_, hl, ?_, ?_, ?_⟩
  · have := row_nd h
    rw [hd, List.nodup_append] at this
    exact fun z => this.2.2 _ z _ List.mem_cons_self rfl
  · have := row_nd h
    rw [hd, List.nodup_append, List.nodup_cons] at this
    exact this.2.1.1
  · rw [lastGe_eq, hl]
    show _ = Lb _ _
    unfold Lb
    by_cases z : plc r e = 0
    · rw [if_pos z, decide_eq_false (show ¬ 0 < plc r e by omega)]; rfl
    · rw [if_neg z, decide_eq_true (show 0 < plc r e by omega)]
      unfold geF
      simp only [List.getD_eq_getElem?_getD]
      rw [List.getElem?_take_of_lt (show plc r e - 1 < plc r e by omega)]
      rfl
  · show _ = Rb _ _ _
    unfold Rb geF
    by_cases z : plc r e + 1 < r.length
    · rw [decide_eq_true z, List.drop_eq_getElem_cons z, List.getD_eq_getElem?_getD, List.getElem?_eq_getElem z]
      rfl
    · rw [decide_eq_false z, List.drop_eq_nil_of_le (by omega)]
      rfl
  · have := tr_cnt (e := e) (B := r.drop (plc r e + 1)) (r.take (plc r e)) false
    rw [← hd, hl] at this
    exact this
/-- a letter put: the next stage -/
theorem cmp_put {r : List Nat} (h : IsRow r) {e : Nat} (he : e < r.length) : ∃ X Y, cmpF e false r = X ++ none :: Y ∧ cmpF (e + 1) false r = putM X Y e (ltF r e).2.1 (ltF r e).2.2 ∧ nNone X = (ltF r e).1 := by
  obtain ⟨A, B, h1, h2, h3, h4, h5, h6, h7⟩ := row_split h he
  rcases cmp_split h3 A h2 false with ⟨X, g1, g2, g3⟩ | ⟨g0, _⟩
  · rw [← h1] at g1 g2
    rw [h5, h6] at g2
    rw [h7] at g3
    exact ⟨X, _, g1, g2, g3⟩
  · cases g0
theorem cmp_zero {x : Nat} {xs : List Nat} : cmpF 0 false (x :: xs) = [none] := by
  have : ∀ l : List Nat, cmpF 0 true l = [] := by
    intro l
    induction l with
    | nil => rfl
    | cons y l ih => show (if 0 ≤ y then _ else _) = _; rw [if_pos (Nat.zero_le _), if_pos rfl, ih]
  show (if 0 ≤ x then _ else _) = _
  rw [if_pos (Nat.zero_le _), this]
  rfl
theorem cmp_top {e : Nat} : ∀ {l : List Nat} {pv : Bool}, (∀ x ∈ l, x < e) → cmpF e pv l = l.map some
  | [], _, _ => rfl
  | x :: xs, pv, h => by
    show (if e ≤ x then _ else _) = _
    have := h x List.mem_cons_self
    rw [if_neg (by omega), cmp_top fun y hy => h y (List.mem_cons_of_mem _ hy)]
    rfl
theorem cmp_len {e : Nat} : ∀ {l : List Nat} {pv : Bool}, (cmpF e pv l).length ≤ l.length
  | [], _ => Nat.le_refl 0
  | x :: xs, pv => by
    unfold cmpF
    have := fun pv => cmp_len (e := e) (l := xs) (pv := pv)
    split
    · split
      · exact Nat.le_succ_of_le (this _)
      · exact Nat.succ_le_succ (this _)
    · exact Nat.succ_le_succ (this _)
end Mn
set_option Elab.async false
set_option linter.all false
set_option maxRecDepth 100000
set_option maxHeartbeats 4000000
/-! k67, plain: letters as data; comparing at every depth. -/
namespace Mn
open PySem L2
section
variable {fu k : Nat}
def kdB (L R : Bool) : Str := if L then (if R then "split" else "right") else (if R then "left" else "fill")
def letE (t : Nat × Bool × Bool) : D := .tup [nI t.1, .str (kdB t.2.1 t.2.2)]
theorem inSlot {r : List Nat} (h : IsRow r) : InSlot r := fun e he => by
  obtain ⟨f, l, g1, g2, _⟩ := letter_at (plc_lt h he) (geF_plc h he)
  show slotN (runs (geF r e) r.length) (plc r e) < (runs (geF r e) r.length).length
  rw [g2]
  exact (List.getElem?_eq_some_iff.mp g1).1
theorem letD_eq {r : List Nat} (h : IsRow r) {e : Nat} (he : e < r.length) : letD r e = letE (ltF r e) := by
  obtain ⟨f, l, g1, g2, g3, g4, g5, g6⟩ := letter_at (plc_lt h he) (geF_plc h he)
  have h1 : slF r e = (ltF r e).1 := g2
  have h2 : (rsF r e).getD (slF r e) (0, 0) = (f, l) := by
    rw [h1, List.getD_eq_getElem?_getD]
    show (runs (geF r e) r.length)[cnt (enB (geF r e)) (plc r e)]?.getD (0, 0) = _
    rw [g1]
    rfl
  unfold letD letE kdF
  rw [h2, h1]
  congr 4
  show kindS (plc r e) f l = kdB (Lb (geF r e) (plc r e)) (Rb (geF r e) r.length (plc r e))
  unfold kindS kdB
  cases hL : Lb (geF r e) (plc r e) <;> cases hR : Rb (geF r e) r.length (plc r e) <;> rw [hL] at g3 <;> rw [hR] at g4 <;> simp only [reduceIte, iff_true, iff_false, reduceCtorEq] at g3 g4 ⊢
  · rw [if_pos (by omega)]
  · rw [if_neg (by omega), if_pos g3]
  · rw [if_neg (by omega), if_neg g3, if_pos g4]
  · rw [if_neg (by omega), if_neg g3, if_neg g4]
theorem nsF_eq {r : List Nat} {e : Nat} : nsF r e = nsM r e := runs_cnt _
/-- the word of a row -/
def wL (r : List Nat) : List D := (List.range r.length).map fun e => letE (ltF r e)
abbrev wordD (r : List Nat) : D := .tup (wL r)
@[simp] theorem wL_len {r : List Nat} : (wL r).length = r.length := by unfold wL; simp
def slotsL (r : List Nat) : List Nat := (List.range (r.length + 1)).map (nsM r)
theorem t_word {r : List Nat} (h : IsRow r) (hl : r.length ≤ 40) : run T.Tb T.Γ fu (k + 4) 15 [.val (.tup (nD r))] = .ok (.val (wordD r)) [] := by
  rw [t_wordof h hl (inSlot h)]
  unfold wordD wL
  congr 3
  exact List.map_congr_left fun e he => letD_eq h (List.mem_range.mp he)
theorem t_openS {r : List Nat} (h : IsRow r) (hl : r.length ≤ 40) : run T.Tb T.Γ fu (k + 4) 16 [.val (.tup (nD r))] = .ok (.val (.tup (nD (slotsL r)))) [] := by
  rw [t_open h hl]
  unfold slotsL
  congr 4
  exact List.map_congr_left fun e he => nsF_eq
/-! ### alike at every depth -/
mutual
def szD : D → Nat
  | .tup xs => 1 + szDs xs
  | .lst xs => 1 + szDs xs
  | _ => 1
def szDs : List D → Nat
  | [] => 0
  | x :: xs => szD x + szDs xs
end
theorem szDs_app : ∀ {a b : List D}, szDs (a ++ b) = szDs a + szDs b
  | [], b => by simp [szDs]
  | x :: a, b => by
    show szD x + szDs (a ++ b) = szD x + szDs a + szDs b
    rw [szDs_app]
    omega
theorem szDs_len : ∀ {a : List D}, a.length ≤ szDs a
  | [] => Nat.le_refl 0
  | x :: a => by
    show a.length + 1 ≤ szD x + szDs a
    have := szDs_len (a := a)
    have : 0 < szD x := by cases x <;> simp [szD] <;> omega
    omega
theorem szD_pos {d : D} : 0 < szD d := by cases d <;> simp [szD] <;> omega
theorem Pl.inv {n : Nat} : ∀ {ds : List D}, PyData.canLayAll0 (D.pys ds) = true → PyData.depthAll (D.pys ds) ≤ n → ∀ d ∈ ds, Pl n d
  | [], _, _, d, h => by cases h
  | x :: xs, h1, h2, d, h => by
    have h1 : (PyData.canLay0 x.py && PyData.canLayAll0 (D.pys xs)) = true := h1
    have h2 : max (PyData.depth x.py) (PyData.depthAll (D.pys xs)) ≤ n := h2
    rw [Bool.and_eq_true] at h1
    rcases List.mem_cons.mp h with rfl | h
    · exact ⟨h1.1, by omega⟩
    · exact Pl.inv h1.2 (by omega) d h
theorem Pl.tup_inv {n : Nat} {ds : List D} (h : Pl n (.tup ds)) : ∃ m, n = m + 1 ∧ ∀ d ∈ ds, Pl m d := by
  have h1 : PyData.canLayAll0 (D.pys ds) = true := h.1
  have h2 : PyData.depthAll (D.pys ds) + 1 ≤ n := h.2
  exact ⟨n - 1, by omega, Pl.inv h1 (by omega)⟩
theorem Pl.lst_inv {n : Nat} {ds : List D} (h : Pl n (.lst ds)) : ∃ m, n = m + 1 ∧ ∀ d ∈ ds, Pl m d := by
  have h1 : PyData.canLayAll0 (D.pys ds) = true := h.1
  have h2 : PyData.depthAll (D.pys ds) + 1 ≤ n := h.2
  exact ⟨n - 1, by omega, Pl.inv h1 (by omega)⟩
theorem Pl.mono {n m : Nat} {d : D} (h : Pl n d) (hn : n ≤ m) : Pl m d := ⟨h.1, Nat.le_trans h.2 hn⟩
def pr (d : D) : D := .tup [d, d]
theorem pr_pl {n : Nat} {stk : List D} (h : ∀ d ∈ stk, Pl n d) : ∀ d ∈ stk.map pr, Pl (n + 1) d := fun d hd => by
  obtain ⟨x, hx, rfl⟩ := List.mem_map.mp hd
  exact Pl.tup fun y hy => by
    have : y = x := by simpa using hy
    rw [this]
    exact h x hx
theorem zip_self : ∀ (xs : List D), zipD xs xs = xs.map pr
  | [] => rfl
  | x :: xs => by
    show D.tup [x, x] :: zipD xs xs = _
    rw [zip_self xs]
    rfl
/-- the parts of the loop -/
def smC : E := match T.f29.body with | .seq _ (.seq (.while_ c _) _) => c | _ => .nil
def smB : S := match T.f29.body with | .seq _ (.seq (.while_ _ b) _) => b | _ => .skip
def kids : D → List D
  | .tup xs => xs
  | .lst xs => xs
  | _ => []
theorem same_step {C : Cn} (hφ : ∀ b, C.Φ 28 [.val (.bl b), .val (.bl b)] = .ok (.val (.bl true)) []) (hio : C.io 28 = []) {l : List D} {d : D} {n : Nat} (hd : Pl n d) (hn : n < 60) (hz : l.length + szD d ≤ 1000000) {a b o3 o4 o5 o6 : Option W} :
    ∃ p5, evS C [] smB [a, b, some (.lst (l.map pr ++ [pr d])), o3, o4, o5, o6, none, none] = .nx [a, b, some (.lst ((l ++ kids d).map pr)), some (.val d), some (.val d), p5, o6, none, none] := by
  have hself := ceq_refl hd (by omega)
  have hal : inFlat (.bl true) [.bl true, .bl false] = some true := rfl
  have hal2 : inFlat (.bl true) [.bl false, .bl true] = some true := rfl
  cases d with
  | non => exact ⟨o5, by simp [smB, T.f29, pr, kids]⟩
  | bl v => exact ⟨o5, by simp [smB, T.f29, pr, kids, hφ, hio]⟩
  | int i => exact ⟨o5, by simp [smB, T.f29, pr, kids]⟩
  | str s => exact ⟨o5, by simp [smB, T.f29, pr, kids, hself]⟩
  | tup xs =>
    have hx : szDs xs + 1 = szD (.tup xs) := by unfold szD; omega
    have hx2 := szDs_len (a := xs)
    refine ⟨some (.lst [.bl true, .bl false]), ?_⟩
    simp [smB, T.f29, pr, kids, hal]
    rw [lcMap id (xs.map pr) id [.tup xs, .tup xs] (by simp) (by simp [IK.ev, zip_self]) (by simp; omega) (fun x hx => by
      obtain ⟨y, hy, rfl⟩ := List.mem_map.mp hx
      exact ⟨[a, b, some (.lst (l.map pr)), some (.val (.tup xs)), some (.val (.tup xs)), some (.lst [.bl true, .bl false]), o6, some (.val y), some (.val y)], by simp [wipeE, pr], rfl, rfl, _, by simp; rfl, rfl⟩) rfl]
    have hsz : szOk (l.length + xs.length) = true := decide_eq_true (by omega)
    simp [hsz]
  | lst xs =>
    have hx : szDs xs + 1 = szD (.lst xs) := by unfold szD; omega
    have hx2 := szDs_len (a := xs)
    refine ⟨some (.lst [.bl false, .bl true]), ?_⟩
    simp [smB, T.f29, pr, kids, hal2]
    rw [lcMap id (xs.map pr) id [.lst xs, .lst xs] (by simp) (by simp [IK.ev, zip_self]) (by simp; omega) (fun x hx => by
      obtain ⟨y, hy, rfl⟩ := List.mem_map.mp hx
      exact ⟨[a, b, some (.lst (l.map pr)), some (.val (.lst xs)), some (.val (.lst xs)), some (.lst [.bl false, .bl true]), o6, some (.val y), some (.val y)], by simp [wipeE, pr], rfl, rfl, _, by simp; rfl, rfl⟩) rfl]
    have hsz : szOk (l.length + xs.length) = true := decide_eq_true (by omega)
    simp [hsz]
  | dic ks ds => exact absurd hd.1 (by show ¬ false = true; decide)
  | scr xs => exact absurd hd.1 (by show ¬ false = true; decide)
  | glob g => exact absurd hd.1 (by show ¬ false = true; decide)
theorem kids_pl {d : D} {n : Nat} (h : Pl n d) : ∀ x ∈ kids d, Pl n x := by
  cases d with
  | tup xs =>
    obtain ⟨m, rfl, g⟩ := h.tup_inv
    exact fun x hx => (g x hx).mono (Nat.le_succ _)
  | lst xs =>
    obtain ⟨m, rfl, g⟩ := h.lst_inv
    exact fun x hx => (g x hx).mono (Nat.le_succ _)
  | _ => exact fun x hx => by cases hx
theorem kids_sz {d : D} : szDs (kids d) < szD d := by
  cases d <;> simp [kids, szD, szDs] <;> omega
theorem same_loop {C : Cn} (hφ : ∀ b, C.Φ 28 [.val (.bl b), .val (.bl b)] = .ok (.val (.bl true)) []) (hio : C.io 28 = []) : ∀ (fuel : Nat) (stk : List D) (n : Nat), (∀ d ∈ stk, Pl n d) → n < 60 → szDs stk < fuel → szDs stk ≤ 1000000 → ∀ (a b o3 o4 o5 o6 : Option W), ∃ e', whL C [] smC smB fuel [a, b, some (.lst (stk.map pr)), o3, o4, o5, o6, none, none] = .nx e'
  | 0, _, _, _, _, hf, _, _, _, _, _, _, _ => absurd hf (Nat.not_lt_zero _)
  | fuel + 1, stk, n, hp, hn, hf, hz, a, b, o3, o4, o5, o6 => by
    have hc : evE C smC [a, b, some (.lst (stk.map pr)), o3, o4, o5, o6, none, none] = .ok (.val (.bl (!stk.isEmpty))) [a, b, some (.lst (stk.map pr)), o3, o4, o5, o6, none, none] := by
      have := ceq_lnil (pr_pl hp) (by omega)
      simp [smC, T.f29, this]
    rcases List.eq_nil_or_concat stk with rfl | ⟨l, d, rfl⟩
    · exact ⟨_, while_f hc⟩
    · rw [List.concat_eq_append] at *
      rw [szDs_app] at hf hz
      have hsd : szDs [d] = szD d := by show szD d + 0 = _; omega
      have hl := szDs_len (a := l)
      have hd : Pl n d := hp d (List.mem_append_right _ List.mem_cons_self)
      obtain ⟨p5, hb⟩ := same_step (C := C) hφ hio (l := l) (d := d) hd hn (by omega) (a := a) (b := b) (o3 := o3) (o4 := o4) (o5 := o5) (o6 := o6)
      have hk := kids_sz (d := d)
      have hc2 : (!(l ++ [d]).isEmpty) = true := by simp
      rw [hc2] at hc
      have e1 : (l ++ [d]).map pr = l.map pr ++ [pr d] := by simp
      rw [e1] at hc ⊢
      obtain ⟨e', h⟩ := same_loop hφ hio fuel (l ++ kids d) n (fun x hx => (List.mem_append.mp hx).elim (fun h => hp x (List.mem_append_left _ h)) (kids_pl hd x)) hn (by rw [szDs_app]; omega) (by rw [szDs_app]; omega) a b (some (.val d)) (some (.val d)) p5 o6
      exact ⟨e', (while_t hc (.inl hb)).trans h⟩
theorem t_truth {b : Bool} : run T.Tb T.Γ fu (k + 1) 28 [.val (.bl b), .val (.bl b)] = .ok (.val (.bl true)) [] := by
  rw [run_s (fd := T.f28) rfl, runFd_ok rfl rfl]
  cases b <;> simp [T.f28]
theorem t_same {d : D} {n : Nat} (h : Pl n d) (hn : n < 60) (hz : szD d ≤ 100000) (hfu : 100000 < fu) : run T.Tb T.Γ fu (k + 2) 29 [.val d, .val d] = .ok (.val (.bl true)) [] := by
  rw [run_s (fd := T.f29) rfl, runFd_ok rfl rfl]
  obtain ⟨e', h1⟩ := same_loop (C := ⟨run T.Tb T.Γ fu (k + 1), ioT T.Tb, T.Γ, fu⟩) (fun b => t_truth) rfl fu [d] n (by simpa using h) hn (by show szD d + 0 < fu; omega) (by show szD d + 0 ≤ _; omega) (some (.val d)) (some (.val d)) none none none none
  have h2 : evS ⟨run T.Tb T.Γ fu (k + 1), ioT T.Tb, T.Γ, fu⟩ [] (.while_ smC smB) [some (.val d), some (.val d), some (.lst [.tup [d, d]]), none, none, none, none, none, none] = .nx e' := h1
  simp only [smC, smB, T.f29] at h2
  simp [T.f29, h2]
end
end Mn
set_option Elab.async false
set_option linter.all false
set_option maxRecDepth 100000
set_option maxHeartbeats 4000000
/-! k67, plain: the draws. -/
namespace Mn
open PySem L2
abbrev iL (l : List Int) : List D := l.map D.int
/-- the state of the draws -/
def stW (g c : List Int) (r t : Int) : W := .rc ["great", "cells", "rest", "turn"] [.lst (iL g), .val (.lst (iL c)), .val (.int r), .val (.int t)]
/-- .. after at most so many draws -/
def DrawSt (b : Nat) (w : W) : Prop := ∃ g c r t, w = stW g c r t ∧ 0 ≤ t ∧ t ≤ b
theorem DrawSt.mono {b c : Nat} {w : W} (h : DrawSt b w) (hc : b ≤ c) : DrawSt c w := by
  obtain ⟨g, d, r, t, h1, h2, h3⟩ := h
  exact ⟨g, d, r, t, h1, h2, by omega⟩
section
variable {g c : List Int} {r t x : Int} {e : Env}
@[simp] theorem st_great : Env.at (some (stW g c r t) :: e) 0 (some (Str.ofString "great")) = some (.lst (iL g)) := rfl
@[simp] theorem st_cells : Env.at (some (stW g c r t) :: e) 0 (some (Str.ofString "cells")) = some (.val (.lst (iL c))) := rfl
@[simp] theorem st_rest : Env.at (some (stW g c r t) :: e) 0 (some (Str.ofString "rest")) = some (.val (.int r)) := rfl
@[simp] theorem st_turn : Env.at (some (stW g c r t) :: e) 0 (some (Str.ofString "turn")) = some (.val (.int t)) := rfl
@[simp] theorem st_put_turn : Env.put (some (stW g c r t) :: e) 0 (.val (.int x)) (some (Str.ofString "turn")) = some (stW g c r x) :: e := rfl
@[simp] theorem st_put_rest : Env.put (some (stW g c r t) :: e) 0 (.val (.int x)) (some (Str.ofString "rest")) = some (stW g c x t) :: e := rfl
@[simp] theorem st_put_great {g2 : List Int} : Env.put (some (stW g c r t) :: e) 0 (.lst (iL g2)) (some (Str.ofString "great")) = some (stW g2 c r t) :: e := rfl
end
section
variable {fu k : Nat}
def blS (p t b c : Int) : Int := (b * 69621 + c + t).fmod p
def blF (p t b : Int) (cs : List Int) : Int := cs.foldl (blS p t) b
theorem blF_app {p t b c : Int} {cs : List Int} : blF p t b (cs ++ [c]) = blS p t (blF p t b cs) c := by
  unfold blF
  rw [List.foldl_append]
  rfl
theorem blF_lt {p t b : Int} {cs : List Int} (hp : 0 < p) (hp2 : p ≤ 2147483647) (hb : b.natAbs < pw64) : (blF p t b cs).natAbs < pw64 := by
  rcases List.eq_nil_or_concat cs with rfl | ⟨l, c, rfl⟩
  · exact hb
  · rw [List.concat_eq_append, blF_app]
    unfold blS
    have h1 := Int.fmod_nonneg_of_pos (blF p t b l * 69621 + c + t) hp
    have h2 := Int.fmod_lt_of_pos (blF p t b l * 69621 + c + t) hp
    show _ < 18446744073709551616
    omega
theorem mulOk_r {i j : Int} (h : j.natAbs < pw64) : mulOk i j = true := by
  unfold mulOk
  rw [decide_eq_true h, Bool.or_true]
theorem mulOk_l {i j : Int} (h : i.natAbs < pw64) : mulOk i j = true := by
  unfold mulOk
  rw [decide_eq_true h, Bool.true_or]
theorem bl_loop {C : Cn} {w : W} {p t f b : Int} (hp : p ≠ 0) {o5 : Option W} (cs : List Int) : forL C [0] (.nm 5) (.seq (.setE 4 (.prim .mod (.cons (.prim .intOf (.cons (.prim .add (.cons (.prim .add (.cons (.prim .mul (.cons (.var 4) (.cons (.cst (.int (69621))) .nil))) (.cons (.var 5) .nil))) (.cons (.var 2) .nil))) .nil)) (.cons (.var 1) .nil)))) .skip) (iL cs)
    [some w, some (.val (.int p)), some (.val (.int t)), some (.val (.int f)), some (.val (.int b)), o5] = .nx [some w, some (.val (.int p)), some (.val (.int t)), some (.val (.int f)), some (.val (.int (blF p t b cs))), lastO D.int o5 cs] := by
  refine for_det D.int (fun ys => [some w, some (.val (.int p)), some (.val (.int t)), some (.val (.int f)), some (.val (.int (blF p t b ys))), lastO D.int o5 ys]) cs fun ys x zs hx => ?_
  refine ⟨[some w, some (.val (.int p)), some (.val (.int t)), some (.val (.int f)), some (.val (.int (blF p t b ys))), some (.val (.int x))], by simp, ?_⟩
  have h1 : mulOk (blF p t b ys) 69621 = true := mulOk_r (by decide)
  rw [blF_app]
  simp [h1, hp, blS]
theorem t_blend {g c : List Int} {r t : Int} (ht : 0 ≤ t) (ht2 : t < 1000000000) : ∃ v, run T.Tb T.Γ fu (k + 1) 24 [stW g c r t] = .ok (.val (.int v)) [stW g c r (t + 1)] := by
  refine ⟨((blF 2147483579 (t + 1) (48271 * (t + 1) + 40518558) c ^ 5).fmod 2147483579 * 2147483647 + (blF 2147483629 (t + 1) (48271 * (t + 1) + 40518559) c ^ 5).fmod 2147483629) * 2147483647 + (blF 2147483563 (t + 1) (48271 * (t + 1) + 40518557) c ^ 5).fmod 2147483563, ?_⟩
  rw [run_s (fd := T.f24) rfl, runFd_ok rfl rfl]
  have m1 : mulOk 48271 (t + 1) = true := mulOk_l (by decide)
  have m2 : ∀ i, mulOk i 2147483647 = true := fun i => mulOk_r (by decide)
  have b1 := blF_lt (p := 2147483579) (t := t + 1) (b := 48271 * (t + 1) + 40518558) (cs := c) (by decide) (by decide) (by show _ < 18446744073709551616; omega)
  have b2 := blF_lt (p := 2147483629) (t := t + 1) (b := 48271 * (t + 1) + 40518559) (cs := c) (by decide) (by decide) (by show _ < 18446744073709551616; omega)
  have b3 := blF_lt (p := 2147483563) (t := t + 1) (b := 48271 * (t + 1) + 40518557) (cs := c) (by decide) (by decide) (by show _ < 18446744073709551616; omega)
  simp [T.f24, es_for, for_cons, for_nil, IK.ev, D.items, m1, m2, b1, b2, b3, bl_loop]
theorem popAt0 {x : D} {xs : List D} : M.ev .popAt (x :: xs) [.int 0] = some (x, xs) := by
  show (match (if rngOk 0 then seqIndex? 0 (xs.length + 1) else none) with
    | some k => match (x :: xs)[k]? with
      | some d => some (d, (x :: xs).eraseIdx k)
      | none => none
    | none => none) = _
  have h : (if rngOk 0 then seqIndex? 0 (xs.length + 1) else none) = some 0 := by
    rw [if_pos (by rfl)]
    unfold seqIndex?
    simp
  rw [h]
  rfl
theorem t_draw {b room : Nat} {w : W} (hw : DrawSt b w) (hb : b < 1000000000) (h0 : 0 < room) (h1 : room < 1073741824) : ∃ v w', v < room ∧ DrawSt (b + 1) w' ∧ run T.Tb T.Γ fu (k + 2) 25 [w, .val (nI room)] = .ok (.val (nI v)) [w'] := by
  obtain ⟨g, c, r, t, rfl, ht, ht2⟩ := hw
  have key : ∀ (r2 : Int) (g2 : List Int) (t2 : Int), 0 ≤ t2 → t2 ≤ (b + 1 : Nat) → run T.Tb T.Γ fu (k + 2) 25 [stW g c r t, .val (nI room)] = .ok (.val (.int (r2.fmod room))) [stW g2 c (r2.fdiv room) t2] → ∃ v w', v < room ∧ DrawSt (b + 1) w' ∧ run T.Tb T.Γ fu (k + 2) 25 [stW g c r t, .val (nI room)] = .ok (.val (nI v)) [w'] := by
    intro r2 g2 t2 h2 h3 h
    have q1 := Int.fmod_nonneg_of_pos r2 (show (0 : Int) < room by omega)
    have q2 := Int.fmod_lt_of_pos r2 (show (0 : Int) < room by omega)
    refine ⟨(r2.fmod room).toNat, _, by omega, ⟨g2, c, r2.fdiv room, t2, rfl, h2, h3⟩, ?_⟩
    rw [h]
    congr 3
    omega
  have n0 : ¬ room = 0 := by omega
  have hio : ioT T.Tb 24 = [0] := rfl
  by_cases hr : r = 0
  · subst hr
    cases g with
    | nil =>
      obtain ⟨v, hv⟩ := t_blend (fu := fu) (k := k) (g := []) (c := c) (r := 0) (t := t) ht (by omega)
      refine key v [] (t + 1) (by omega) (by omega) ?_
      rw [run_s (fd := T.f25) rfl, runFd_ok rfl rfl]
      have hc := ceq_lnil (n := 0) (ds := []) (by simp) (by omega)
      simp [T.f25, hc, hio, hv, n0, h1]
    | cons x xs =>
      refine key x xs t (by omega) (by omega) ?_
      rw [run_s (fd := T.f25) rfl, runFd_ok rfl rfl]
      have hc := ceq_lnil (n := 0) (ds := iL (x :: xs)) (fun d hd => by obtain ⟨y, _, rfl⟩ := List.mem_map.mp hd; exact Pl.int) (by omega)
      have hc : cmpEq (D.lst (iL (x :: xs))) (D.lst []) = some false := hc
      rw [show iL (x :: xs) = D.int x :: iL xs from rfl] at hc
      simp [T.f25, hc, hio, n0, h1, popAt0]
  · refine key r g t (by omega) (by omega) ?_
    rw [run_s (fd := T.f25) rfl, runFd_ok rfl rfl]
    simp [T.f25, hr, n0, h1]
end
end Mn
set_option Elab.async false
set_option linter.all false
set_option maxRecDepth 100000
set_option maxHeartbeats 4000000
/-! k67, plain: what is dealt. -/
namespace Mn
open PySem L2
section
variable {fu k : Nat}
theorem t_begun {ns : List Int} (hn : ns.length ≤ 63) : ∃ w, DrawSt 0 w ∧ run T.Tb T.Γ fu (k + 1) 23 [.val (.scr (iL ns))] = .ok w [] := by
  refine ⟨stW ((ns.filter fun i => decide ((10 : Int) ^ 18 ≤ if i < 0 then -i else i)).map fun i => (if i < 0 then -i else i) - 10 ^ 18) (ns.map fun i => if i < 0 then -i else i) 0 0, ⟨_, _, _, _, rfl, by omega, by omega⟩, ?_⟩
  rw [run_s (fd := T.f23) rfl, runFd_ok rfl rfl]
  have hpw : (10 : Nat) < pw64 := by decide
  simp [T.f23]
  rw [lc_filt D.int ns (fun i => decide ((10 : Int) ^ 18 ≤ if i < 0 then -i else i)) (fun i => .int ((if i < 0 then -i else i) - 10 ^ 18)) [.scr (iL ns)] (by simp) (by simp [IK.ev, D.items]) (by omega) (fun x hx => by
    refine ⟨[some (.val (.scr (iL ns))), none, some (.val (.int x))], by simp [wipeE], by simp [wipeE], ?_, fun hp => ⟨.val (.int ((if x < 0 then -x else x) - 10 ^ 18)), ?_, rfl⟩⟩
    · simp [hpw]
    · simp [hpw]) rfl]
  simp
  rw [lcMap D.int ns (fun i => .int (if i < 0 then -i else i)) [.scr (iL ns)] (by simp) (by simp [IK.ev, D.items]) (by omega) (fun x hx => by
    refine ⟨[some (.val (.scr (iL ns))), none, some (.val (.int x))], by simp [wipeE], by simp [wipeE], rfl, .val (.int (if x < 0 then -x else x)), ?_, rfl⟩
    simp) rfl]
  have hdk : dkOk [D.str (Str.ofString "great"), D.str (Str.ofString "cells"), D.str (Str.ofString "rest"), D.str (Str.ofString "turn")] = true := by rfl
  simp [hdk, stW, iL]
  done
theorem nD_erase : ∀ {l : List Nat} {v : Nat}, (nD l).eraseIdx v = nD (l.eraseIdx v)
  | [], _ => by simp
  | a :: l, 0 => by simp
  | a :: l, v + 1 => by
    show nI a :: (nD l).eraseIdx v = nI a :: nD (l.eraseIdx v)
    rw [nD_erase]
theorem erase_perm : ∀ {l : List Nat} {v : Nat} (h : v < l.length), (l[v] :: l.eraseIdx v).Perm l
  | a :: l, 0, _ => by simp
  | a :: l, v + 1, h => by
    have h2 : v < l.length := by simpa using h
    show (l[v] :: a :: l.eraseIdx v).Perm (a :: l)
    exact (List.Perm.swap _ _ _).trans ((erase_perm h2).cons a)
theorem popAt_n {l : List Nat} {v : Nat} (h : v < l.length) (hl : l.length ≤ 1000) : M.ev .popAt (nD l) [nI v] = some (nI l[v], nD (l.eraseIdx v)) := by
  show (match (if rngOk (v : Int) then seqIndex? (v : Int) (nD l).length else none) with
    | some k => match (nD l)[k]? with
      | some d => some (d, (nD l).eraseIdx k)
      | none => none
    | none => none) = _
  have h1 : (if rngOk (v : Int) then seqIndex? (v : Int) (nD l).length else none) = some v := by
    rw [if_pos (rngOk_of (by omega)), List.length_map]
    unfold seqIndex?
    have : ¬ (v : Int) < 0 := by omega
    simp [h, this]
  rw [h1]
  simp only [List.getElem?_map, List.getElem?_eq_getElem h, Option.map_some]
  rw [nD_erase]
def shufC : E := match T.f27.body with | .seq _ (.seq (.while_ c _) _) => c | _ => .nil
def shufB : S := match T.f27.body with | .seq _ (.seq (.while_ _ b) _) => b | _ => .skip
theorem sh_loop : ∀ (n : Nat) (left found : List Nat) (b : Nat) (w : W) (x : Option W), left.length < n → left.length + found.length ≤ 1000 → DrawSt b w → b + left.length < 1000000000 →
    ∃ m w', m.Perm (found ++ left) ∧ DrawSt (b + left.length) w' ∧ whL ⟨run T.Tb T.Γ fu (k + 2), ioT T.Tb, T.Γ, fu⟩ [0] shufC shufB n [some w, x, some (.lst (nD left)), some (.lst (nD found))] = .nx [some w', x, some (.lst []), some (.lst (nD m))]
  | 0, _, _, _, _, _, h, _, _, _ => absurd h (Nat.not_lt_zero _)
  | n + 1, left, found, b, w, x, hn, hl, hw, hb => by
    have hc := ceq_lnil (n := 0) (ds := nD left) Pl.nD (by omega)
    have hC : evE ⟨run T.Tb T.Γ fu (k + 2), ioT T.Tb, T.Γ, fu⟩ shufC [some w, x, some (.lst (nD left)), some (.lst (nD found))] = .ok (.val (.bl (!left.isEmpty))) [some w, x, some (.lst (nD left)), some (.lst (nD found))] := by
      simp [shufC, T.f27, hc]
    cases hle : left with
    | nil =>
      subst hle
      exact ⟨found, w, by simp, hw, while_f hC⟩
    | cons a as =>
      rw [← hle]
      have h0 : 0 < left.length := by rw [hle]; simp
      rw [show (!left.isEmpty) = true by rw [hle]; rfl] at hC
      obtain ⟨v, w', h1, h2, h3⟩ := t_draw (fu := fu) (k := k) (room := left.length) hw (by omega) h0 (by omega)
      have hel : (left.eraseIdx v).length = left.length - 1 := by rw [List.length_eraseIdx_of_lt h1]
      obtain ⟨m, w2, g1, g2, g3⟩ := sh_loop n (left.eraseIdx v) (found ++ [left[v]]) (b + 1) w' x (by omega) (by rw [hel, List.length_append, List.length_singleton]; omega) h2 (by omega)
      refine ⟨m, w2, g1.trans ?_, by rw [hel] at g2; exact g2.mono (by omega), (while_t hC (.inl ?_)).trans g3⟩
      · rw [List.append_assoc]
        exact (erase_perm h1).append_left found
      · have hio : ioT T.Tb 25 = [0] := rfl
        have hp := popAt_n h1 (by omega)
        have hfl : found.length < 16777216 := by omega
        simp [shufB, T.f27, hio, h3, hp, hfl]
theorem t_shuf {b : Nat} {w : W} {l : List Nat} (hw : DrawSt b w) (hb : b < 1000000) (hl : l.length ≤ 100) (hfu : 100000 < fu) : ∃ m w', m.Perm l ∧ DrawSt (b + l.length) w' ∧ run T.Tb T.Γ fu (k + 3) 27 [w, .val (.lst (nD l))] = .ok (.val (.lst (nD m))) [w'] := by
  obtain ⟨m, w', h1, h2, h3⟩ := sh_loop (fu := fu) (k := k) fu l [] b w (some (.val (.lst (nD l)))) (by omega) (by simp; omega) hw (by omega)
  refine ⟨m, w', h1, h2, ?_⟩
  rw [run_s (fd := T.f27) rfl, runFd_ok rfl (by
    obtain ⟨g, c, r, t, rfl, _⟩ := hw
    rfl)]
  have h4 : evS ⟨run T.Tb T.Γ fu (k + 2), ioT T.Tb, T.Γ, fu⟩ [0] (.while_ shufC shufB) [some w, some (.val (.lst (nD l))), some (.lst (nD l)), some (.lst [])] = .nx [some w', some (.val (.lst (nD l))), some (.lst []), some (.lst (nD m))] := h3
  simp only [shufC, shufB, T.f27] at h4
  simp [T.f27, h4]
theorem t_dealt {b n : Nat} {w : W} (hw : DrawSt b w) (hb : b < 1000000) (hl : n ≤ 100) (hfu : 100000 < fu) : ∃ m w', IsRow m ∧ m.length = n ∧ DrawSt (b + n) w' ∧ run T.Tb T.Γ fu (k + 4) 33 [w, .val (nI n)] = .ok (.val (.tup (nD m))) [w'] := by
  obtain ⟨m, w', h1, h2, h3⟩ := t_shuf (fu := fu) (k := k) (l := List.range n) hw hb (by simp; omega) hfu
  have hl := h1.length_eq
  rw [List.length_range] at hl h2
  refine ⟨m, w', by unfold IsRow; rw [hl]; exact h1, hl, h2, ?_⟩
  rw [run_s (fd := T.f33) rfl, runFd_ok rfl (by
    obtain ⟨g, c, r, t, rfl, _⟩ := hw
    rfl)]
  have hio : ioT T.Tb 27 = [0] := rfl
  have hq := p_lstRng (n := n) (by omega)
  simp [T.f33, hio, hq, h3]
end
end Mn
set_option Elab.async false
set_option linter.all false
set_option maxRecDepth 100000
set_option maxHeartbeats 4000000
/-! k67, plain: families; beside, under. -/
namespace Mn
open PySem L2
section
variable {fu k : Nat}
theorem w_arg {b : Nat} {w : W} (hw : DrawSt b w) {ws : List W} (h : argOk [0] 1 ws = true) : argOk [0] 0 (w :: ws) = true := by
  obtain ⟨g, c, r, t, rfl, _⟩ := hw
  exact h
theorem t_pick {b : Nat} {w : W} {l : List D} (hw : DrawSt b w) (hb : b < 1000000) (h0 : 0 < l.length) (hl : l.length ≤ 1000) : ∃ (v : Nat) (h : v < l.length) (w' : W), DrawSt (b + 1) w' ∧ run T.Tb T.Γ fu (k + 3) 26 [w, .val (.lst l)] = .ok (.val l[v]) [w'] := by
  obtain ⟨v, w', h1, h2, h3⟩ := t_draw (fu := fu) (k := k) (room := l.length) hw (by omega) h0 (by omega)
  refine ⟨v, h1, w', h2, ?_⟩
  rw [run_s (fd := T.f26) rfl, runFd_ok rfl (w_arg hw rfl)]
  have hio : ioT T.Tb 25 = [0] := rfl
  have ha := atI_n (List.getElem?_eq_getElem h1)
  simp [T.f26, hio, h3, ha]
def fams : List Str := ["floors up up", "floors up down", "floors down up", "floors down down", "sides up up", "sides up down", "sides down up", "sides down down", "pairs up", "pairs down"]
theorem t_ten : run T.Tb T.Γ fu (k + 1) 34 [] = .ok (.lst (fams.map D.str)) [] := by
  rw [run_s (fd := T.f34) rfl, runFd_ok rfl rfl]
  simp [T.f34, fams]
theorem t_swp {r : List Nat} (hr : ∀ x ∈ r, x < r.length) (hl : r.length ≤ 40) : run T.Tb T.Γ fu (k + 1) 30 [.val (.lst (nD r))] = .ok (.val (.tup (nD (invF r r.length)))) [] := by
  rw [run_s (fd := T.f30) rfl, runFd_ok rfl rfl]
  have hz := p_zeros (n := r.length) (by omega)
  have lp := for_inv (pn := []) (tg := .tcons (.nm 2) (.tcons (.nm 3) .tnil)) (body := fun e => evS ⟨run T.Tb T.Γ fu k, ioT T.Tb, T.Γ, fu⟩ [] (.seq (.setIx 1 (.var 3) (.var 2)) .skip) e)
      (fun i e => ∃ a b, e = [some (.val (.lst (nD r))), some (.lst (nD (invF r i))), a, b]) (items := enumD 0 (nD r)) (e := [some (.val (.lst (nD r))), some (.lst (nD (List.replicate r.length 0))), none, none]) ⟨none, none, rfl⟩ (by
        rintro i d e hd ⟨a, b, rfl⟩
        obtain ⟨n, hn, rfl⟩ := enumD_eq r 0 i d hd
        have hlt : n < r.length := hr n (List.mem_of_getElem? hn)
        rw [Nat.zero_add]
        refine ⟨[some (.val (.lst (nD r))), some (.lst (nD (invF r i))), some (.val (nI i)), some (.val (nI n))], [some (.val (.lst (nD r))), some (.lst (nD (invF r (i + 1)))), some (.val (nI i)), some (.val (nI n))], by simp, .inl ?_, _, _, rfl⟩
        have hix : ixN (invF r i).length (n : Int) = some n := ixN_nat (by rw [invF_len]; exact hlt)
        simp [hix, invF, hn])
  rw [enumD_l, List.length_map] at lp
  obtain ⟨e', h1, a, b, rfl⟩ := lp
  have h1 : forL ⟨run T.Tb T.Γ fu k, ioT T.Tb, T.Γ, fu⟩ [] (.tcons (.nm 2) (.tcons (.nm 3) .tnil)) (.seq (.setIx 1 (.var 3) (.var 2)) .skip) (enumD 0 (nD r)) [some (.val (.lst (nD r))), some (.lst (nD (List.replicate r.length 0))), none, none] = .nx [some (.val (.lst (nD r))), some (.lst (nD (invF r r.length))), a, b] := h1
  have hz2 : List.map nI (List.replicate r.length 0) = nD (List.replicate r.length 0) := rfl
  simp [-List.map_replicate, T.f30, hz, h1, es_for, IK.ev]
def uS (b : Bool) : Str := if b then "up" else "down"
def floG (k : Nat) (u v : Bool) (p : Nat) : List Nat := [if u then p else k - 1 - p, if v then k + p else 2 * k - 1 - p]
def floR (k : Nat) (u v : Bool) : List Nat := (List.range k).flatMap (floG k u v)
def paiR (k : Nat) : List Nat := (List.range k).flatMap fun p => [2 * p + 1, 2 * p]
theorem flo_len {k : Nat} {u v : Bool} : ∀ l : List Nat, (l.flatMap (floG k u v)).length = 2 * l.length
  | [] => rfl
  | x :: l => by
    rw [List.flatMap_cons, List.length_append, flo_len l]
    show 2 + _ = 2 * (l.length + 1)
    omega
theorem pai_len : ∀ l : List Nat, (l.flatMap fun p => [2 * p + 1, 2 * p]).length = 2 * l.length
  | [] => rfl
  | x :: l => by
    rw [List.flatMap_cons, List.length_append, pai_len l]
    show 2 + _ = 2 * (l.length + 1)
    omega
theorem flo_loop {C : Cn} {a o2 : Option W} {n : Nat} {x : Str} (u v : Bool) (hn : n ≤ 10) : forL C [] (.nm 2) (match T.f35.body with | .seq _ (.seq _ (.seq (.for_ _ _ _ b) _)) => b | _ => .skip) (nD (List.range n)) [a, some (.val (nI n)), o2, some (.lst [.str x, .str (uS u), .str (uS v)]), some (.lst [])] =
    .nx [a, some (.val (nI n)), lastO nI o2 (List.range n), some (.lst [.str x, .str (uS u), .str (uS v)]), some (.lst (nD (floR n u v)))] := by
  refine for_det nI (fun ys => [a, some (.val (nI n)), lastO nI o2 ys, some (.lst [.str x, .str (uS u), .str (uS v)]), some (.lst (nD (ys.flatMap (floG n u v))))]) (List.range n) fun ys p zs hx => ?_
  have hp : p < n := List.mem_range.mp (by rw [hx]; simp)
  have hy : ys.length ≤ 10 := by
    have := congrArg List.length hx
    rw [List.length_range, List.length_append] at this
    omega
  refine ⟨[a, some (.val (nI n)), some (.val (nI p)), some (.lst [.str x, .str (uS u), .str (uS v)]), some (.lst (nD (ys.flatMap (floG n u v))))], by simp, ?_⟩
  have c1 : cmpEq (.str (uS true)) (.str "up") = some true := by decide +kernel
  have c2 : cmpEq (.str (uS false)) (.str "up") = some false := by decide +kernel
  have i1 : atI [D.str x, .str (uS u), .str (uS v)] 1 = some (.str (uS u)) := rfl
  have i2 : atI [D.str x, .str (uS u), .str (uS v)] 2 = some (.str (uS v)) := rfl
  have m1 : mulOk 2 (n : Int) = true := mulOk_l (by decide)
  have hsz : szOk ((ys.flatMap (floG n u v)).length + 2) = true := decide_eq_true (by rw [flo_len]; omega)
  have e1 : ((n : Int) - 1 - (p : Int)) = ((n - 1 - p : Nat) : Int) := by omega
  have e2 : (2 * (n : Int) - 1 - (p : Int)) = ((2 * n - 1 - p : Nat) : Int) := by omega
  cases u <;> cases v <;> simp only [T.f35] <;> simp [i1, i2, c1, c2, m1, hsz, floG, -List.length_flatMap] at * <;> simp [e1, e2]
theorem pai_loop {C : Cn} {a o2 w : Option W} {n : Nat} (hn : n ≤ 10) : forL C [] (.nm 2) (match T.f35.body with | .seq _ (.seq (.ife _ (.seq (.for_ _ _ _ b) _) _) _) => b | _ => .skip) (nD (List.range n)) [a, some (.val (nI n)), o2, w, some (.lst [])] =
    .nx [a, some (.val (nI n)), lastO nI o2 (List.range n), w, some (.lst (nD (paiR n)))] := by
  refine for_det nI (fun ys => [a, some (.val (nI n)), lastO nI o2 ys, w, some (.lst (nD (ys.flatMap fun p => [2 * p + 1, 2 * p])))]) (List.range n) fun ys p zs hx => ?_
  have hy : ys.length ≤ 10 := by
    have := congrArg List.length hx
    rw [List.length_range, List.length_append] at this
    omega
  refine ⟨[a, some (.val (nI n)), some (.val (nI p)), w, some (.lst (nD (ys.flatMap fun p => [2 * p + 1, 2 * p])))], by simp, ?_⟩
  have m1 : mulOk 2 (p : Int) = true := mulOk_l (by decide)
  have hsz : szOk ((ys.flatMap fun p => [2 * p + 1, 2 * p]).length + 2) = true := decide_eq_true (by rw [pai_len]; omega)
  simp only [T.f35]
  simp [m1, hsz, -List.length_flatMap] at *
def isRowB (r : List Nat) : Bool := r.isPerm (List.range r.length)
theorem isRow_of {r : List Nat} (h : isRowB r = true) : IsRow r := List.isPerm_iff.mp h
theorem flo_row : ∀ n, n ≤ 10 → ∀ u v, IsRow (floR n u v) ∧ IsRow (invF (floR n u v) (floR n u v).length) := by
  have h : ((List.range 11).all fun n => [true, false].all fun u => [true, false].all fun v => isRowB (floR n u v) && isRowB (invF (floR n u v) (floR n u v).length)) = true := by decide +kernel
  intro n hn u v
  have h1 := List.all_eq_true.mp h n (List.mem_range.mpr (by omega))
  have h2 := List.all_eq_true.mp h1 u (by cases u <;> simp)
  have h3 := List.all_eq_true.mp h2 v (by cases v <;> simp)
  rw [Bool.and_eq_true] at h3
  exact ⟨isRow_of h3.1, isRow_of h3.2⟩
theorem pai_row : ∀ n, n ≤ 10 → IsRow (paiR n) := by
  have h : ((List.range 11).all fun n => isRowB (paiR n)) = true := by decide +kernel
  intro n hn
  exact isRow_of (List.all_eq_true.mp h n (List.mem_range.mpr (by omega)))
theorem rng1_n {n : Nat} (h : n ≤ 1000) : IK.ev .rng1 [.int (n : Int)] = some (nD (List.range n)) := by
  show (if rngOk (n : Int) then some (rangeD 0 (n : Int)) else none) = _
  rw [rngOk_of (by omega), if_pos rfl, rangeD_nD]
theorem t_fam_floors {n : Nat} {u v : Bool} {x : Str} (hs : P.ev (.split " ") [.str x] = some (.lst [.str "floors", .str (uS u), .str (uS v)])) (hn : n ≤ 10) : run T.Tb T.Γ fu (k + 2) 35 [.val (.str x), .val (nI n)] = .ok (.val (.tup (nD (floR n u v)))) [] := by
  rw [run_s (fd := T.f35) rfl, runFd_ok rfl rfl]
  have i0 : atI [D.str "floors", .str (uS u), .str (uS v)] 0 = some (.str "floors") := rfl
  have c1 : cmpEq (.str "floors") (.str "pairs") = some false := by decide +kernel
  have c2 : cmpEq (.str "floors") (.str "floors") = some true := by decide +kernel
  have lp := fun C a o2 => flo_loop (C := C) (a := a) (o2 := o2) (x := "floors") u v hn
  simp only [T.f35] at lp
  have rg := rng1_n (n := n) (by omega)
  simp [T.f35, hs, i0, c1, c2, es_for, rg, lp]
theorem t_fam_sides {n : Nat} {u v : Bool} {x : Str} (hs : P.ev (.split " ") [.str x] = some (.lst [.str "sides", .str (uS u), .str (uS v)])) (hn : n ≤ 10) : run T.Tb T.Γ fu (k + 2) 35 [.val (.str x), .val (nI n)] = .ok (.val (.tup (nD (invF (floR n u v) (floR n u v).length)))) [] := by
  rw [run_s (fd := T.f35) rfl, runFd_ok rfl rfl]
  have i0 : atI [D.str "sides", .str (uS u), .str (uS v)] 0 = some (.str "sides") := rfl
  have c1 : cmpEq (.str "sides") (.str "pairs") = some false := by decide +kernel
  have c2 : cmpEq (.str "sides") (.str "floors") = some false := by decide +kernel
  have lp := fun C a o2 => flo_loop (C := C) (a := a) (o2 := o2) (x := "sides") u v hn
  simp only [T.f35] at lp
  have rg := rng1_n (n := n) (by omega)
  have hio : ioT T.Tb 30 = [] := rfl
  have hl : (floR n u v).length = 2 * n := by
    have := flo_len (k := n) (u := u) (v := v) (List.range n)
    rw [List.length_range] at this
    exact this
  have sw := t_swp (fu := fu) (k := k) (r := floR n u v) (row_lt (flo_row n hn u v).1) (by omega)
  simp [T.f35, hs, i0, c1, c2, es_for, rg, lp, hio, sw]
theorem t_fam_pairs {n : Nat} {u : Bool} {x : Str} (hs : P.ev (.split " ") [.str x] = some (.lst [.str "pairs", .str (uS u)])) (hn : n ≤ 10) : run T.Tb T.Γ fu (k + 2) 35 [.val (.str x), .val (nI n)] = .ok (.val (.tup (nD (if u then paiR n else (paiR n).reverse)))) [] := by
  rw [run_s (fd := T.f35) rfl, runFd_ok rfl rfl]
  have i0 : atI [D.str "pairs", .str (uS u)] 0 = some (.str "pairs") := rfl
  have i1 : atI [D.str "pairs", .str (uS u)] 1 = some (.str (uS u)) := rfl
  have c1 : cmpEq (.str "pairs") (.str "pairs") = some true := by decide +kernel
  have c2 : cmpEq (.str (uS true)) (.str "up") = some true := by decide +kernel
  have c3 : cmpEq (.str (uS false)) (.str "up") = some false := by decide +kernel
  have lp := fun C a o2 w => pai_loop (C := C) (a := a) (o2 := o2) (w := w) hn
  simp only [T.f35] at lp
  have rg := rng1_n (n := n) (by omega)
  cases u <;> simp [T.f35, hs, i0, i1, c1, c2, c3, es_for, rg, lp]
theorem t_fam {i n : Nat} (hi : i < fams.length) (hn : n ≤ 10) : ∃ r, IsRow r ∧ r.length = 2 * n ∧ run T.Tb T.Γ fu (k + 2) 35 [.val (.str fams[i]), .val (nI n)] = .ok (.val (.tup (nD r))) [] := by
  have hl : ∀ u v, (floR n u v).length = 2 * n := fun u v => by
    have := flo_len (k := n) (u := u) (v := v) (List.range n)
    rw [List.length_range] at this
    exact this
  have hp : (paiR n).length = 2 * n := by
    have := pai_len (List.range n)
    rw [List.length_range] at this
    exact this
  have sp : ∀ (x : Str) (l : List Str), Txt.split x " " = l → x.length + 2 ≤ 16777216 → P.ev (.split " ") [.str x] = some (.lst (l.map D.str)) := fun x l h h2 => by
    rw [p_split, if_neg (by rw [decide_eq_true h2]; decide), h]
  have fl : ∀ u v x, P.ev (.split " ") [.str x] = some (.lst [.str "floors", .str (uS u), .str (uS v)]) → ∃ r, IsRow r ∧ r.length = 2 * n ∧ run T.Tb T.Γ fu (k + 2) 35 [.val (.str x), .val (nI n)] = .ok (.val (.tup (nD r))) [] := fun u v x hx => ⟨_, (flo_row n hn u v).1, hl u v, t_fam_floors hx hn⟩
  have sd : ∀ u v x, P.ev (.split " ") [.str x] = some (.lst [.str "sides", .str (uS u), .str (uS v)]) → ∃ r, IsRow r ∧ r.length = 2 * n ∧ run T.Tb T.Γ fu (k + 2) 35 [.val (.str x), .val (nI n)] = .ok (.val (.tup (nD r))) [] := fun u v x hx => ⟨_, (flo_row n hn u v).2, by rw [invF_len, hl], t_fam_sides hx hn⟩
  have pp : ∀ u x, P.ev (.split " ") [.str x] = some (.lst [.str "pairs", .str (uS u)]) → ∃ r, IsRow r ∧ r.length = 2 * n ∧ run T.Tb T.Γ fu (k + 2) 35 [.val (.str x), .val (nI n)] = .ok (.val (.tup (nD r))) [] := fun u x hx => ⟨_, by cases u <;> simp [pai_row n hn, rev_row], by cases u <;> simp [hp], t_fam_pairs hx hn⟩
  match i, hi with
  | 0, _ => exact fl true true "floors up up" (sp "floors up up" ["floors", "up", "up"] (by decide +kernel) (by decide +kernel))
  | 1, _ => exact fl true false "floors up down" (sp "floors up down" ["floors", "up", "down"] (by decide +kernel) (by decide +kernel))
  | 2, _ => exact fl false true "floors down up" (sp "floors down up" ["floors", "down", "up"] (by decide +kernel) (by decide +kernel))
  | 3, _ => exact fl false false "floors down down" (sp "floors down down" ["floors", "down", "down"] (by decide +kernel) (by decide +kernel))
  | 4, _ => exact sd true true "sides up up" (sp "sides up up" ["sides", "up", "up"] (by decide +kernel) (by decide +kernel))
  | 5, _ => exact sd true false "sides up down" (sp "sides up down" ["sides", "up", "down"] (by decide +kernel) (by decide +kernel))
  | 6, _ => exact sd false true "sides down up" (sp "sides down up" ["sides", "down", "up"] (by decide +kernel) (by decide +kernel))
  | 7, _ => exact sd false false "sides down down" (sp "sides down down" ["sides", "down", "down"] (by decide +kernel) (by decide +kernel))
  | 8, _ => exact pp true "pairs up" (sp "pairs up" ["pairs", "up"] (by decide +kernel) (by decide +kernel))
  | 9, _ => exact pp false "pairs down" (sp "pairs down" ["pairs", "down"] (by decide +kernel) (by decide +kernel))
  | i + 10, h => exact absurd h (by show ¬ i + 10 < 10; omega)
end
end Mn
set_option Elab.async false
set_option linter.all false
set_option maxRecDepth 100000
set_option maxHeartbeats 4000000
/-! k67, plain: beside, under; words judged and read. -/
namespace Mn
open PySem L2
section
variable {fu k : Nat}
theorem t_sum {r s : List Nat} (hr : r.length ≤ 40) (hs : s.length ≤ 40) : run T.Tb T.Γ fu (k + 1) 6 [.val (.tup (nD r)), .val (.tup (nD s))] = .ok (.val (.tup (nD (besR r s)))) [] := by
  rw [run_s (fd := T.f6) rfl, runFd_ok rfl rfl]
  simp [T.f6]
  rw [lcMap nI s (fun x => nI (x + r.length)) [.tup (nD s)] (by simp) (by simp [IK.ev, D.items]) (by omega) (fun x hx => ⟨[some (.val (.tup (nD r))), some (.val (.tup (nD s))), some (.val (nI x))], by simp [wipeE], by simp [wipeE], rfl, .val (nI (x + r.length)), by simp, rfl⟩) rfl]
  have hsz : szOk (r.length + s.length) = true := decide_eq_true (by omega)
  simp [hsz, besR]
theorem t_skew {r s : List Nat} (hr : r.length ≤ 40) (hs : s.length ≤ 40) : run T.Tb T.Γ fu (k + 1) 7 [.val (.tup (nD r)), .val (.tup (nD s))] = .ok (.val (.tup (nD (undR r s)))) [] := by
  rw [run_s (fd := T.f7) rfl, runFd_ok rfl rfl]
  simp [T.f7]
  rw [lcMap nI r (fun x => nI (x + s.length)) [.tup (nD r)] (by simp) (by simp [IK.ev, D.items]) (by omega) (fun x hx => ⟨[some (.val (.tup (nD r))), some (.val (.tup (nD s))), some (.val (nI x))], by simp [wipeE], by simp [wipeE], rfl, .val (nI (x + s.length)), by simp, rfl⟩) rfl]
  have hsz : szOk (r.length + s.length) = true := decide_eq_true (by omega)
  simp [hsz, undR]
theorem t_lbes {r s : List Nat} (hr : r.length ≤ 40) (hs : s.length ≤ 40) : run T.Tb T.Γ fu (k + 1) 31 [.val (.tup (nD r)), .val (.tup (nD s))] = .ok (.val (.tup (nD (besR r s)))) [] := by
  rw [run_s (fd := T.f31) rfl, runFd_ok rfl rfl]
  simp [T.f31]
  rw [lcMap nI s (fun x => nI (x + r.length)) [.tup (nD s)] (by simp) (by simp [IK.ev, D.items]) (by omega) (fun x hx => ⟨[some (.val (.tup (nD r))), some (.val (.tup (nD s))), some (.val (nI x))], by simp [wipeE], by simp [wipeE], rfl, .val (nI (x + r.length)), by simp, rfl⟩) rfl]
  have hsz : szOk (r.length + s.length) = true := decide_eq_true (by omega)
  simp [hsz, besR]
theorem t_lund {r s : List Nat} (hr : r.length ≤ 40) (hs : s.length ≤ 40) : run T.Tb T.Γ fu (k + 1) 32 [.val (.tup (nD r)), .val (.tup (nD s))] = .ok (.val (.tup (nD (undR r s)))) [] := by
  rw [run_s (fd := T.f32) rfl, runFd_ok rfl rfl]
  simp [T.f32]
  rw [lcMap nI r (fun x => nI (x + s.length)) [.tup (nD r)] (by simp) (by simp [IK.ev, D.items]) (by omega) (fun x hx => ⟨[some (.val (.tup (nD r))), some (.val (.tup (nD s))), some (.val (nI x))], by simp [wipeE], by simp [wipeE], rfl, .val (nI (x + s.length)), by simp, rfl⟩) rfl]
  have hsz : szOk (r.length + s.length) = true := decide_eq_true (by omega)
  simp [hsz, undR]
theorem t_room {n : Nat} (h : n ≤ 40) : run T.Tb T.Γ fu (k + 1) 8 [.val (nI n)] = .ok (.val .non) [] := by
  rw [run_s (fd := T.f8) rfl, runFd_ok rfl rfl]
  have hΓ : T.Γ 1000 = some (.int 40) := rfl
  have h2 : ¬ (40 : Int) < (n : Int) := by omega
  simp [T.f8, hΓ, h2]
theorem t_beside {r s : List Nat} (h : IsRow r) (g : IsRow s) (hl : r.length + s.length ≤ 40) : run T.Tb T.Γ fu (k + 4) 9 [.val (.tup (nD r)), .val (.tup (nD s))] = .ok (.val (.tup (nD (besR r s)))) [] := by
  rw [run_s (fd := T.f9) rfl, runFd_ok rfl rfl]
  have hio : ioT T.Tb 2 = [] := rfl
  have hio2 : ioT T.Tb 8 = [] := rfl
  have hio3 : ioT T.Tb 6 = [] := rfl
  have hm := t_room (fu := fu) (k := k + 2) hl
  have hm : run T.Tb T.Γ fu (k + 2 + 1) 8 [.val (.int ((r.length : Int) + (s.length : Int)))] = .ok (.val .non) [] := hm
  simp [T.f9, hio, hio2, hio3, t_need h (by omega), t_need g (by omega), hm, t_sum (k := k + 2) (r := r) (s := s) (by omega) (by omega)]
theorem t_under {r s : List Nat} (h : IsRow r) (g : IsRow s) (hl : r.length + s.length ≤ 40) : run T.Tb T.Γ fu (k + 4) 10 [.val (.tup (nD r)), .val (.tup (nD s))] = .ok (.val (.tup (nD (undR r s)))) [] := by
  rw [run_s (fd := T.f10) rfl, runFd_ok rfl rfl]
  have hio : ioT T.Tb 2 = [] := rfl
  have hio2 : ioT T.Tb 8 = [] := rfl
  have hio3 : ioT T.Tb 7 = [] := rfl
  have hm := t_room (fu := fu) (k := k + 2) hl
  have hm : run T.Tb T.Γ fu (k + 2 + 1) 8 [.val (.int ((r.length : Int) + (s.length : Int)))] = .ok (.val .non) [] := hm
  simp [T.f10, hio, hio2, hio3, t_need h (by omega), t_need g (by omega), hm, t_skew (k := k + 2) (r := r) (s := s) (by omega) (by omega)]
/-! ### words judged -/
@[simp] theorem all_true {α : Type} {l : List α} : (l.all fun _ => true) = true := List.all_eq_true.mpr fun _ _ => rfl
@[simp] theorem bools_nil : bools? [] = some [] := rfl
@[simp] theorem bools_cons {b : Bool} {ds : List D} : bools? (.bl b :: ds) = (bools? ds).map (b :: ·) := rfl
@[simp] theorem bools_rep {b : Bool} : ∀ {n : Nat}, bools? (List.replicate n (D.bl b)) = some (List.replicate n b)
  | 0 => rfl
  | n + 1 => by
    rw [List.replicate_succ, bools_cons, bools_rep]
    rfl
theorem kd_fill {L R : Bool} : cmpEq (.str (kdB L R)) (.str "fill") = some (!L && !R) := by cases L <;> cases R <;> decide +kernel
theorem kd_split {L R : Bool} : cmpEq (.str (kdB L R)) (.str "split") = some (L && R) := by cases L <;> cases R <;> decide +kernel
theorem kd_left {L R : Bool} : cmpEq (.str (kdB L R)) (.str "left") = some (!L && R) := by cases L <;> cases R <;> decide +kernel
theorem kd_right {L R : Bool} : cmpEq (.str (kdB L R)) (.str "right") = some (L && !R) := by cases L <;> cases R <;> decide +kernel
def kdStep (n : Nat) (L R : Bool) : Int := (n : Int) - (if L then 0 else 1) + (if R then 1 else 0)
theorem t_behind {n : Nat} {L R : Bool} : run T.Tb T.Γ fu (k + 1) 17 [.val (nI n), .val (.str (kdB L R))] = .ok (.val (.int (kdStep n L R))) [] := by
  rw [run_s (fd := T.f17) rfl, runFd_ok rfl rfl]
  have c1 := kd_fill (L := L) (R := R)
  have c2 := kd_split (L := L) (R := R)
  cases L <;> cases R <;> simp [T.f17, c1, c2, kdStep]
theorem t_isletter {t : Nat × Bool × Bool} : run T.Tb T.Γ fu (k + 2) 18 [.val (letE t)] = .ok (.val (.bl true)) [] := by
  rw [run_s (fd := T.f18) rfl, runFd_ok rfl rfl]
  obtain ⟨s, L, R⟩ := t
  have hio : ioT T.Tb 0 = [] := rfl
  have i0 : atI [nI s, D.str (kdB L R)] 0 = some (nI s) := rfl
  have i1 : atI [nI s, D.str (kdB L R)] 1 = some (.str (kdB L R)) := rfl
  have hΓ : T.Γ 1001 = some (.tup [.str "fill", .str "left", .str "right", .str "split"]) := rfl
  have hin : inFlat (.str (kdB L R)) [.str "fill", .str "left", .str "right", .str "split"] = some true := by cases L <;> cases R <;> decide +kernel
  have h0 : ¬ (s : Int) < 0 := by omega
  have hw := t_isw (fu := fu) (k := k) (n := s)
  simp [T.f18, letE, hio, i0, i1, hΓ, hin, h0, hw]
theorem kd_can {L R : Bool} : PyData.canLay0 (.str (kdB L R)) = true := by cases L <;> cases R <;> decide +kernel
theorem letE_pl {t : Nat × Bool × Bool} : Pl 1 (letE t) := by
  refine Pl.tup fun d hd => ?_
  rcases List.mem_cons.mp hd with rfl | hd
  · exact Pl.int
  · rw [List.mem_singleton.mp hd]
    exact Pl.str kd_can
theorem wordD_pl {r : List Nat} : Pl 2 (wordD r) := Pl.tup fun d hd => by
  obtain ⟨e, _, rfl⟩ := List.mem_map.mp hd
  exact letE_pl
theorem nsM_step {r : List Nat} (h : IsRow r) {e : Nat} (he : e < r.length) : kdStep (nsM r e) (ltF r e).2.1 (ltF r e).2.2 = (nsM r (e + 1) : Int) := by
  have := ns_step h he
  have h2 := slot_lt h he
  unfold kdStep
  generalize (ltF r e).2.1 = L at *
  generalize (ltF r e).2.2 = R at *
  cases L <;> cases R <;> simp at this ⊢ <;> omega
theorem range_split {n e : Nat} {ys zs : List Nat} (hx : List.range n = ys ++ e :: zs) : ys.length = e ∧ e < n := by
  have h1 : (List.range n)[ys.length]? = some e := by rw [hx, List.getElem?_append_right (Nat.le_refl _), Nat.sub_self]; rfl
  obtain ⟨h4, h5⟩ := List.getElem?_eq_some_iff.mp h1
  rw [List.getElem_range] at h5
  rw [List.length_range] at h4
  exact ⟨h5, by omega⟩
theorem t_isword {r : List Nat} (h : IsRow r) (hl : r.length ≤ 40) : run T.Tb T.Γ fu (k + 3) 19 [.val (wordD r)] = .ok (.val (.bl true)) [] := by
  rw [run_s (fd := T.f19) rfl, runFd_ok rfl rfl]
  have hΓ : T.Γ 1000 = some (.int 40) := rfl
  have h2 : ¬ (40 : Int) < (r.length : Int) := by omega
  have hnil := ceq_tnil (n := 1) (ds := wL r) (fun d hd => by
    obtain ⟨e, _, rfl⟩ := List.mem_map.mp hd
    exact letE_pl) (by omega)
  have hio : ioT T.Tb 18 = [] := rfl
  have hio2 : ioT T.Tb 17 = [] := rfl
  have hlp := for_det (C := ⟨run T.Tb T.Γ fu (k + 2), ioT T.Tb, T.Γ, fu⟩) (pn := []) (tg := .tcons (.nm 2) (.tcons (.nm 3) .tnil)) (b := match T.f19.body with | .seq _ (.seq _ (.seq (.for_ _ _ _ b) _)) => b | _ => .skip) (fun e => letE (ltF r e)) (fun ys => [some (.val (wordD r)), some (.val (nI (nsM r ys.length))), lastO (fun e => nI (ltF r e).1) none ys, lastO (fun e => .str (kdB (ltF r e).2.1 (ltF r e).2.2)) none ys, none]) (List.range r.length) (fun ys e zs hx => by
    obtain ⟨he, hlt⟩ := range_split hx
    refine ⟨[some (.val (wordD r)), some (.val (nI (nsM r e))), some (.val (nI (ltF r e).1)), some (.val (.str (kdB (ltF r e).2.1 (ltF r e).2.2))), none], by simp [letE, he], ?_⟩
    have hs := slot_lt h hlt
    have hst := nsM_step h hlt
    have hbh := t_behind (fu := fu) (k := k + 1) (n := nsM r e) (L := (ltF r e).2.1) (R := (ltF r e).2.2)
    rw [hst] at hbh
    have hns : ¬ (nsM r e : Int) ≤ ((ltF r e).1 : Int) := by omega
    simp only [T.f19]
    simp [hns, hio2, hbh, he])
  simp only [T.f19] at hlp
  have hz := ns_zero (r := r)
  have ht := ns_top h
  rw [List.length_range, ht] at hlp
  simp [T.f19, hΓ, h2]
  rw [lcMap (fun e => letE (ltF r e)) (List.range r.length) (fun _ => .bl true) [wordD r] (by simp) (by simp [IK.ev, D.items, wL]) (by simp; omega) (fun e he => ⟨[some (.val (wordD r)), none, none, none, some (.val (letE (ltF r e)))], by simp [wipeE], by simp [wipeE], rfl, .val (.bl true), by simp [hio, t_isletter (fu := fu) (k := k)], rfl⟩) rfl]
  have hall : (List.replicate r.length true).all id = true := by simp
  have q0 : nI 0 = .int 0 := rfl
  have q1 : nI 1 = .int 1 := rfl
  have hwl : (List.range r.length).map (fun e => letE (ltF r e)) = wL r := rfl
  rw [hwl] at hlp
  cases hr : r.length with
  | zero =>
    have he : (wL r).isEmpty = true := by unfold wL; rw [hr]; rfl
    rw [he] at hnil
    rw [hr, if_pos rfl] at hz
    simp only [List.length_nil, hz, lastO_nil, hr, q0, q1] at hlp
    simp [hr, bools_true, hnil, es_for, IK.ev, D.items, hlp]
  | succ n =>
    have he : (wL r).isEmpty = false := by unfold wL; rw [hr, List.range_succ_eq_map]; rfl
    rw [he] at hnil
    rw [hr, if_neg (by omega)] at hz
    simp only [List.length_nil, hz, lastO_nil, hr, q0, q1] at hlp
    simp [hr, bools_true, hnil, es_for, IK.ev, D.items, hlp]
end
end Mn
set_option Elab.async false
set_option linter.all false
set_option maxRecDepth 100000
set_option maxHeartbeats 4000000
/-! k67, plain: the row of a word. -/
namespace Mn
open PySem L2
section
variable {fu k : Nat}
def oD : Option Nat → D
  | none => .non
  | some n => nI n
abbrev oL (l : List (Option Nat)) : List D := l.map oD
theorem enumD_zip {α : Type} {enc : α → D} : ∀ (l : List α) (k : Nat), enumD k (l.map enc) = (l.zipIdx k).map fun q => .tup [nI q.2, enc q.1]
  | [], _ => rfl
  | x :: l, k => by
    rw [List.zipIdx_cons, List.map_cons, List.map_cons, ← enumD_zip l (k + 1)]
    rfl
theorem cut_to {xs : List D} {j : Nat} (h : j ≤ xs.length) : cutD xs none (some (j : Int)) = xs.take j := by
  unfold cutD sIx
  rw [HT.sIx_none, HT.sIx_nat, Nat.min_eq_left h]
  simp
theorem cut_from {xs : List D} {j : Nat} (h : j ≤ xs.length) : cutD xs (some (j : Int)) none = xs.drop j := by
  unfold cutD sIx
  rw [HT.sIx_none, HT.sIx_nat, Nat.min_eq_left h]
  exact List.take_of_length_le (by rw [List.length_drop]; omega)
theorem nones_at {X Y : List (Option Nat)} : (((X ++ none :: Y).zipIdx.filter fun q => q.1.isNone).map fun q => nI q.2)[nNone X]? = some (nI X.length) := by
  rw [List.zipIdx_append, List.filter_append, List.zipIdx_cons, List.filter_cons_of_pos (by rfl), List.map_append, List.map_cons]
  have hl : ((X.zipIdx.filter fun q => q.1.isNone).map fun q => nI q.2).length = nNone X := by
    rw [List.length_map]
    unfold nNone
    have : ∀ (l : List (Option Nat)) (k : Nat), ((l.zipIdx k).filter fun q => q.1.isNone).length = l.countP Option.isNone := by
      intro l
      induction l with
      | nil => intro k; rfl
      | cons x l ih =>
        intro k
        rw [List.zipIdx_cons]
        cases x with
        | none => rw [List.filter_cons_of_pos (by rfl), List.length_cons, ih, List.countP_cons_of_pos (by rfl)]
        | some n => rw [List.filter_cons_of_neg (by show ¬ false = true; decide), ih, List.countP_cons_of_neg (by show ¬ false = true; decide)]
    exact this X 0
  rw [List.getElem?_append_right (by rw [hl]; exact Nat.le_refl _), hl, Nat.sub_self]
  simp
theorem t_put {X Y : List (Option Nat)} {e : Nat} {L R : Bool} (hl : X.length + Y.length ≤ 100) : run T.Tb T.Γ fu (k + 1) 20 [.val (.lst (oL (X ++ none :: Y))), .val (nI e), .val (letE (nNone X, L, R))] = .ok (.lst (oL (putM X Y e L R))) [] := by
  rw [run_s (fd := T.f20) rfl, runFd_ok rfl rfl]
  have hat := atI_n (nones_at (X := X) (Y := Y))
  have i1 : inFlat (.str (kdB L R)) [.str "right", .str "split"] = some L := by cases L <;> cases R <;> decide +kernel
  have i2 : inFlat (.str (kdB L R)) [.str "left", .str "split"] = some R := by cases L <;> cases R <;> decide +kernel
  have s1 : ∀ n, n ≤ 200 → szOk n = true := fun n hn => decide_eq_true (by omega)
  have c1 := cut_to (xs := oL (X ++ none :: Y)) (j := X.length) (by simp)
  have c2 := cut_from (xs := oL (X ++ none :: Y)) (j := X.length + 1) (by simp)
  have d1 : (oL (X ++ none :: Y)).take X.length = oL X := by simp
  have d2 : (oL (X ++ none :: Y)).drop (X.length + 1) = oL Y := by
    rw [← List.map_drop, List.drop_append]
    simp
  rw [d1] at c1
  rw [d2] at c2
  generalize hpa : oL (X ++ none :: Y) = pa at c1 c2 ⊢
  simp [T.f20, letE]
  rw [lc_filt (fun q : Option Nat × Nat => .tup [nI q.2, oD q.1]) (X ++ none :: Y).zipIdx (fun q => q.1.isNone) (fun q => nI q.2) [.lst pa] (by simp) (by rw [← hpa, ← enumD_zip]; rfl) (by simp; omega) (fun q hq => by
    refine ⟨[some (.val (.lst pa)), some (.val (nI e)), some (.val (.tup [nI (nNone X), .str (kdB L R)])), none, some (.val (oD q.1)), some (.val (nI (nNone X))), some (.val (.str (kdB L R))), some (.val (nI q.2))], by simp [wipeE], by simp [wipeE], ?_, fun _ => ⟨.val (nI q.2), by simp, rfl⟩⟩
    rcases q with ⟨_ | n, i⟩ <;> simp [oD]) rfl]
  have hX : 1 + (X.length + Y.length) ≤ 200 := by omega
  have w1 : oL (putM X Y e L R) = oL X ++ ((if L then [.non] else []) ++ [nI e] ++ (if R then [.non] else [])) ++ oL Y := by
    unfold putM
    cases L <;> cases R <;> simp [oD]
  rw [w1]
  have z1 : szOk (X.length + 1) = true := s1 _ (by omega)
  have z2 : szOk (X.length + 1 + Y.length) = true := s1 _ (by omega)
  have z3 : szOk (X.length + 2) = true := s1 _ (by omega)
  have z4 : szOk (X.length + 2 + Y.length) = true := s1 _ (by omega)
  have z5 : szOk (X.length + 3) = true := s1 _ (by omega)
  have z6 : szOk (X.length + 3 + Y.length) = true := s1 _ (by omega)
  have c3 : cutD pa (some ((X.length : Int) + 1)) none = oL Y := c2
  cases L <;> cases R <;> simp [hat, i1, i2, c1, c3, z1, z2, z3, z4, z5, z6]
theorem enumD_range {f : Nat → D} : ∀ (n k : Nat), enumD k ((List.range' k n).map f) = (List.range' k n).map fun e => .tup [nI e, f e]
  | 0, _ => rfl
  | n + 1, k => by
    rw [List.range'_succ, List.map_cons, List.map_cons, ← enumD_range n (k + 1)]
    rfl
theorem enum_wL {r : List Nat} : enumD 0 (wL r) = (List.range r.length).map fun e => .tup [nI e, letE (ltF r e)] := by
  unfold wL
  rw [List.range_eq_range', enumD_range]
theorem t_rowby {r : List Nat} (h : IsRow r) (hl : r.length ≤ 40) : run T.Tb T.Γ fu (k + 2) 21 [.val (wordD r)] = .ok (.val (.tup (nD r))) [] := by
  rw [run_s (fd := T.f21) rfl, runFd_ok rfl rfl]
  have hio : ioT T.Tb 20 = [] := rfl
  have hnil := ceq_tnil (n := 1) (ds := wL r) (fun d hd => by
    obtain ⟨e, _, rfl⟩ := List.mem_map.mp hd
    exact letE_pl) (by omega)
  have hlp := for_det (C := ⟨run T.Tb T.Γ fu (k + 1), ioT T.Tb, T.Γ, fu⟩) (pn := []) (tg := .tcons (.nm 2) (.tcons (.nm 3) .tnil)) (b := .seq (.setE 1 (.call 20 (.cons (.var 1) (.cons (.var 2) (.cons (.var 3) .nil))))) .skip) (fun e => .tup [nI e, letE (ltF r e)])
    (fun ys => [some (.val (wordD r)), some (.lst (oL (cmpF ys.length false r))), lastO nI none ys, lastO (fun e => letE (ltF r e)) none ys]) (List.range r.length) (fun ys e zs hx => by
      obtain ⟨he, hlt⟩ := range_split hx
      obtain ⟨X, Y, g1, g2, g3⟩ := cmp_put h hlt
      have hlen := cmp_len (e := e) (l := r) (pv := false)
      rw [g1] at hlen
      simp at hlen
      have tp := t_put (fu := fu) (k := k) (X := X) (Y := Y) (e := e) (L := (ltF r e).2.1) (R := (ltF r e).2.2) (by omega)
      rw [g3, ← g2, ← g1] at tp
      have tp : run T.Tb T.Γ fu (k + 1) 20 [.val (.lst (oL (cmpF e false r))), .val (nI e), .val (letE (ltF r e))] = .ok (.lst (oL (cmpF (e + 1) false r))) [] := tp
      refine ⟨[some (.val (wordD r)), some (.lst (oL (cmpF e false r))), some (.val (nI e)), some (.val (letE (ltF r e)))], by simp [he], ?_⟩
      simp [hio, tp, he])
  rw [← enum_wL, List.length_range, cmp_top (row_lt h), List.length_nil, lastO_nil, lastO_nil] at hlp
  have ho : oL (r.map some) = nD r := by
    show (r.map some).map oD = r.map nI
    rw [List.map_map]
    rfl
  rw [ho] at hlp
  cases r with
  | nil =>
    have he : (wL []).isEmpty = true := rfl
    rw [he] at hnil
    have hc : cmpF 0 false [] = [] := rfl
    rw [hc] at hlp
    have hlp : forL ⟨run T.Tb T.Γ fu (k + 1), ioT T.Tb, T.Γ, fu⟩ [] (.tcons (.nm 2) (.tcons (.nm 3) .tnil)) (.seq (.setE 1 (.call 20 (.cons (.var 1) (.cons (.var 2) (.cons (.var 3) .nil))))) .skip) (enumD 0 (wL [])) [some (.val (wordD [])), some (.lst []), none, none] = _ := hlp
    simp [T.f21, hnil, es_for, IK.ev, hlp]
  | cons x xs =>
    have he : (wL (x :: xs)).isEmpty = false := by unfold wL; rw [List.length_cons, List.range_succ_eq_map]; rfl
    rw [he] at hnil
    rw [cmp_zero] at hlp
    have hlp : forL ⟨run T.Tb T.Γ fu (k + 1), ioT T.Tb, T.Γ, fu⟩ [] (.tcons (.nm 2) (.tcons (.nm 3) .tnil)) (.seq (.setE 1 (.call 20 (.cons (.var 1) (.cons (.var 2) (.cons (.var 3) .nil))))) .skip) (enumD 0 (wL (x :: xs))) [some (.val (wordD (x :: xs))), some (.lst [.non]), none, none] = _ := hlp
    simp [T.f21, hnil, es_for, IK.ev, hlp]
theorem t_rowofword {r : List Nat} (h : IsRow r) (hl : r.length ≤ 40) : run T.Tb T.Γ fu (k + 4) 22 [.val (wordD r)] = .ok (.val (.tup (nD r))) [] := by
  rw [run_s (fd := T.f22) rfl, runFd_ok rfl rfl]
  have hio : ioT T.Tb 19 = [] := rfl
  have hio2 : ioT T.Tb 21 = [] := rfl
  simp [T.f22, hio, hio2, t_isword h hl, t_rowby (fu := fu) (k := k + 1) h hl]
/-- words tell rows -/
theorem word_inj {r s : List Nat} (h : IsRow r) (g : IsRow s) (hr : r.length ≤ 40) (hs : s.length ≤ 40) (e : wordD r = wordD s) : r = s := by
  have h1 := t_rowby (fu := 0) (k := 0) h hr
  have h2 := t_rowby (fu := 0) (k := 0) g hs
  rw [e, h2] at h1
  injection h1 with h1
  injection h1 with h1
  injection h1 with h1
  have : ∀ (a b : List Nat), nD a = nD b → a = b := by
    intro a
    induction a with
    | nil => intro b hb; cases b with | nil => rfl | cons => cases hb
    | cons x a ih =>
      intro b hb
      cases b with
      | nil => cases hb
      | cons y b =>
        injection hb with q1 q2
        injection q1 with q1
        rw [ih b q2, show x = y by omega]
  exact (this _ _ h1).symm
end
end Mn
set_option Elab.async false
set_option linter.all false
set_option maxRecDepth 100000
set_option maxHeartbeats 4000000
/-! k67, plain: the law's own words. -/
namespace Mn
open PySem L2
section
variable {fu k : Nat}
theorem last_at {r : List Nat} (h : 0 < r.length) : atI (nD r) (-1) = some (nI (r.getD (r.length - 1) 0)) := by
  refine atI_m1 ?_
  rw [List.getLast?_map, List.getLast?_eq_getElem?, List.getD_eq_getElem?_getD, List.getElem?_eq_getElem (by omega)]
  rfl
theorem first_at {r : List Nat} (h : 0 < r.length) : atI (nD r) 0 = some (nI (r.getD 0 0)) := by
  have : atI (nD r) ((0 : Nat) : Int) = some (nI (r.getD 0 0)) := atI_n (by
    rw [List.getElem?_map, List.getD_eq_getElem?_getD, List.getElem?_eq_getElem h]
    rfl)
  exact this
theorem last_R {r : List Nat} (h : IsRow r) {e : Nat} (he : e < r.length) (hz : r.getD (r.length - 1) 0 = e) : (ltF r e).2.2 = false := by
  have z2 : plc r e = r.length - 1 := plc_of h (by rw [← hz, List.getD_eq_getElem?_getD, List.getElem?_eq_getElem (by omega)]; rfl)
  show Rb _ _ _ = false
  unfold Rb
  rw [z2, decide_eq_false (by omega)]
  rfl
theorem first_L {r : List Nat} (h : IsRow r) {e : Nat} (he : e < r.length) (hz : r.getD 0 0 = e) : (ltF r e).2.1 = false := by
  have z2 : plc r e = 0 := plc_of h (by rw [← hz, List.getD_eq_getElem?_getD, List.getElem?_eq_getElem (by omega)]; rfl)
  show Lb _ _ = false
  unfold Lb
  rw [z2]
  rfl
theorem bes_word {r s : List Nat} (h : IsRow r) (g : IsRow s) : ((List.range r.length).map fun e => letE (ltF (besR r s) e)) ++ wL s = wL (besR r s) := by
  unfold wL
  have hl : (besR r s).length = r.length + s.length := by unfold besR; rw [List.length_append, List.length_map]
  rw [hl, List.range_add, List.map_append, List.map_map]
  congr 1
  exact List.map_congr_left fun e he => by
    show _ = letE (ltF (besR r s) (r.length + e))
    rw [bes_r h g (List.mem_range.mp he)]
theorem und_word {r s : List Nat} (h : IsRow r) (g : IsRow s) : ((List.range s.length).map fun e => letE (ltF (undR r s) e)) ++ wL r = wL (undR r s) := by
  unfold wL
  have hl : (undR r s).length = s.length + r.length := by unfold undR; rw [List.length_append, List.length_map, Nat.add_comm]
  rw [hl, List.range_add, List.map_append, List.map_map]
  congr 1
  exact List.map_congr_left fun e he => by
    show _ = letE (ltF (undR r s) (s.length + e))
    rw [und_r h g (List.mem_range.mp he)]
def bwB : S := match T.f36.body with | .seq _ (.seq (.for_ _ _ _ b) _) => b | _ => .skip
def uwB : S := match T.f37.body with | .seq _ (.seq (.for_ _ _ _ b) _) => b | _ => .skip
theorem bw_step {C : Cn} {r s : List Nat} (h : IsRow r) (g : IsRow s) (hs : 0 < s.length) {e : Nat} (hlt : e < r.length) {o : Option W} {fd : List D} (hfl : fd.length < 16777216) :
    ∃ q, evS C [] bwB [some (.val (.tup (nD r))), o, some (.lst fd), some (.val (nI e)), some (.val (nI (ltF r e).1)), some (.val (.str (kdB (ltF r e).2.1 (ltF r e).2.2)))] =
      .nx [some (.val (.tup (nD r))), o, some (.lst (fd ++ [letE (ltF (besR r s) e)])), some (.val (nI e)), some (.val (nI (ltF r e).1)), q] := by
  have hb := bes_l h g hs hlt
  have hla := last_at (show 0 < r.length by omega)
  rw [hb]
  by_cases z : r.getD (r.length - 1) 0 = e
  · have hR := last_R h hlt z
    have c1 := kd_fill (L := (ltF r e).2.1) (R := (ltF r e).2.2)
    rw [if_pos z]
    rw [hR] at c1 ⊢
    rw [z] at hla
    generalize (ltF r e).2.1 = L at *
    refine ⟨some (.val (.str (kdB L true))), ?_⟩
    cases L <;> simp [kdB] at c1 <;> simp [bwB, T.f36, hla, c1, hfl, letE, kdB]
  · rw [if_neg z]
    have z3 : ¬ (r.getD (r.length - 1) 0 : Int) = (e : Int) := by omega
    generalize r.getD (r.length - 1) 0 = q at *
    exact ⟨_, by simp [bwB, T.f36, hla, z, z3, hfl, letE]; rfl⟩
theorem t_besw {r s : List Nat} (h : IsRow r) (g : IsRow s) (hr : 0 < r.length) (hs : 0 < s.length) (hl : r.length + s.length ≤ 40) : run T.Tb T.Γ fu (k + 5) 36 [.val (.tup (nD r)), .val (.tup (nD s))] = .ok (.val (wordD (besR r s))) [] := by
  rw [run_s (fd := T.f36) rfl, runFd_ok rfl rfl]
  have hio : ioT T.Tb 15 = [] := rfl
  have hw := t_word (fu := fu) (k := k) h (by omega)
  have hw2 := t_word (fu := fu) (k := k) g (by omega)
  obtain ⟨e', h1, a, b, c, rfl⟩ := for_run (C := ⟨run T.Tb T.Γ fu (k + 4), ioT T.Tb, T.Γ, fu⟩) (pn := []) (tg := .tcons (.nm 3) (.tcons (.tcons (.nm 4) (.tcons (.nm 5) .tnil)) .tnil)) (b := bwB) (fun e => .tup [nI e, letE (ltF r e)])
    (fun ys e => ∃ a b c, e = [some (.val (.tup (nD r))), some (.val (.tup (nD s))), some (.lst (ys.map fun e => letE (ltF (besR r s) e))), a, b, c]) (List.range r.length) [some (.val (.tup (nD r))), some (.val (.tup (nD s))), some (.lst []), none, none, none] ⟨none, none, none, rfl⟩ (by
      rintro ys e zs e' hx ⟨a, b, c, rfl⟩
      obtain ⟨he, hlt⟩ := range_split hx
      obtain ⟨q, hq⟩ := bw_step (C := ⟨run T.Tb T.Γ fu (k + 4), ioT T.Tb, T.Γ, fu⟩) h g hs hlt (o := some (.val (.tup (nD s)))) (fd := ys.map fun e => letE (ltF (besR r s) e)) (by rw [List.length_map]; omega)
      exact ⟨[some (.val (.tup (nD r))), some (.val (.tup (nD s))), some (.lst (ys.map fun e => letE (ltF (besR r s) e))), some (.val (nI e)), some (.val (nI (ltF r e).1)), some (.val (.str (kdB (ltF r e).2.1 (ltF r e).2.2)))], _, by simp [letE], .inl hq, _, _, _, by rw [List.map_append]; rfl⟩)
  rw [← enum_wL] at h1
  simp only [bwB, T.f36] at h1
  have hsz : szOk (r.length + s.length) = true := decide_eq_true (by omega)
  have hbw := bes_word h g
  simp [T.f36, hio, hw, hw2, es_for, IK.ev, h1, hsz, hbw]
theorem uw_step {C : Cn} {r s : List Nat} (h : IsRow r) (g : IsRow s) (hr : 0 < r.length) {e : Nat} (hlt : e < s.length) {o : Option W} {fd : List D} (hfl : fd.length < 16777216) :
    evS C [] uwB [o, some (.val (.tup (nD s))), some (.lst fd), some (.val (nI e)), some (.val (nI (ltF s e).1)), some (.val (.str (kdB (ltF s e).2.1 (ltF s e).2.2)))] =
      .nx [o, some (.val (.tup (nD s))), some (.lst (fd ++ [letE (ltF (undR r s) e)])), some (.val (nI e)), some (.val (nI (ltF s e).1)), some (.val (.str (kdB (ltF s e).2.1 (ltF s e).2.2)))] := by
  have hb := und_l h g hr hlt
  have hla := first_at (show 0 < s.length by omega)
  rw [hb]
  by_cases z : s.getD 0 0 = e
  · have hL := first_L g hlt z
    have c1 := kd_fill (L := (ltF s e).2.1) (R := (ltF s e).2.2)
    rw [if_pos z]
    rw [hL] at c1 ⊢
    rw [z] at hla
    generalize (ltF s e).2.2 = R at *
    cases R <;> simp [kdB] at c1 <;> simp [uwB, T.f37, hla, c1, hfl, letE, kdB]
  · rw [if_neg z]
    generalize s.getD 0 0 = q at *
    have z4 : ¬ (q : Int) = (e : Int) := by omega
    by_cases z2 : q < e
    · have z3 : (q : Int) < (e : Int) := by omega
      simp [uwB, T.f37, hla, z, z2, z3, z4, hfl, letE]
    · have z3 : ¬ (q : Int) < (e : Int) := by omega
      simp [uwB, T.f37, hla, z, z2, z3, z4, hfl, letE]
theorem t_undw {r s : List Nat} (h : IsRow r) (g : IsRow s) (hr : 0 < r.length) (hs : 0 < s.length) (hl : r.length + s.length ≤ 40) : run T.Tb T.Γ fu (k + 5) 37 [.val (.tup (nD r)), .val (.tup (nD s))] = .ok (.val (wordD (undR r s))) [] := by
  rw [run_s (fd := T.f37) rfl, runFd_ok rfl rfl]
  have hio : ioT T.Tb 15 = [] := rfl
  have hw := t_word (fu := fu) (k := k) h (by omega)
  have hw2 := t_word (fu := fu) (k := k) g (by omega)
  obtain ⟨e', h1, a, b, c, rfl⟩ := for_run (C := ⟨run T.Tb T.Γ fu (k + 4), ioT T.Tb, T.Γ, fu⟩) (pn := []) (tg := .tcons (.nm 3) (.tcons (.tcons (.nm 4) (.tcons (.nm 5) .tnil)) .tnil)) (b := uwB) (fun e => .tup [nI e, letE (ltF s e)])
    (fun ys e => ∃ a b c, e = [some (.val (.tup (nD r))), some (.val (.tup (nD s))), some (.lst (ys.map fun e => letE (ltF (undR r s) e))), a, b, c]) (List.range s.length) [some (.val (.tup (nD r))), some (.val (.tup (nD s))), some (.lst []), none, none, none] ⟨none, none, none, rfl⟩ (by
      rintro ys e zs e' hx ⟨a, b, c, rfl⟩
      obtain ⟨he, hlt⟩ := range_split hx
      have hq := uw_step (C := ⟨run T.Tb T.Γ fu (k + 4), ioT T.Tb, T.Γ, fu⟩) h g hr hlt (o := some (.val (.tup (nD r)))) (fd := ys.map fun e => letE (ltF (undR r s) e)) (by rw [List.length_map]; omega)
      exact ⟨[some (.val (.tup (nD r))), some (.val (.tup (nD s))), some (.lst (ys.map fun e => letE (ltF (undR r s) e))), some (.val (nI e)), some (.val (nI (ltF s e).1)), some (.val (.str (kdB (ltF s e).2.1 (ltF s e).2.2)))], _, by simp [letE], .inl hq, _, _, _, by rw [List.map_append]; rfl⟩)
  rw [← enum_wL] at h1
  simp only [uwB, T.f37] at h1
  have hsz : szOk (s.length + r.length) = true := decide_eq_true (by omega)
  have hbw := und_word h g
  simp [T.f37, hio, hw, hw2, es_for, IK.ev, h1, hsz, hbw]
end
end Mn
set_option Elab.async false
set_option linter.all false
set_option maxRecDepth 100000
set_option maxHeartbeats 4000000
/-! k67, plain: backwards, exchanged. -/
namespace Mn
open PySem L2
section
variable {fu k : Nat}
theorem kinds_at {L R : Bool} : P.ev .ix [.dic [.str "fill", .str "left", .str "right", .str "split"] [.str "fill", .str "right", .str "left", .str "split"], .str (kdB L R)] = some (.val (.str (kdB R L))) := by
  cases L <;> cases R <;> rfl
theorem t_backw {r : List Nat} (h : IsRow r) (hl : r.length ≤ 40) : run T.Tb T.Γ fu (k + 5) 38 [.val (.tup (nD r))] = .ok (.val (wordD r.reverse)) [] := by
  rw [run_s (fd := T.f38) rfl, runFd_ok rfl rfl]
  have hio : ioT T.Tb 15 = [] := rfl
  have hio2 : ioT T.Tb 16 = [] := rfl
  have hw := t_word (fu := fu) (k := k) h (by omega)
  have hs := t_openS (fu := fu) (k := k) h (by omega)
  have hdk : dkOk [.str "fill", .str "left", .str "right", .str "split"] = true := by rfl
  have hka := fun L R => kinds_at (L := L) (R := R)
  simp [T.f38, hio2, hs, hdk]
  rw [lcMap (fun e => .tup [nI e, letE (ltF r e)]) (List.range r.length) (fun e => letE (ltF r.reverse e)) [wordD r] (by simp [hio, hw]) (by rw [← enum_wL]; rfl) (by simp; omega) (fun e he => by
    have hlt := List.mem_range.mp he
    obtain ⟨g1, g2⟩ := rev_l h hlt
    have ha := atI_n (l := nD (slotsL r)) (i := e) (d := nI (nsM r e)) (by
      rw [List.getElem?_map]
      unfold slotsL
      rw [List.getElem?_map, List.getElem?_range (by omega)]
      rfl)
    have i0 : atI [nI (ltF r e).1, D.str (kdB (ltF r e).2.1 (ltF r e).2.2)] 0 = some (nI (ltF r e).1) := rfl
    have i1 : atI [nI (ltF r e).1, D.str (kdB (ltF r e).2.1 (ltF r e).2.2)] 1 = some (.str (kdB (ltF r e).2.1 (ltF r e).2.2)) := rfl
    have e1 : ((nsM r e : Int) - 1 - ((ltF r e).1 : Int)) = ((ltF r.reverse e).1 : Int) := by omega
    have e2 : letE (ltF r.reverse e) = .tup [.int ((ltF r.reverse e).1 : Int), .str (kdB (ltF r e).2.2 (ltF r e).2.1)] := by unfold letE; rw [g1]
    refine ⟨[some (.val (.tup (nD r))), some (.dic [.str "fill", .str "left", .str "right", .str "split"] [.str "fill", .str "right", .str "left", .str "split"]), some (.val (.tup (nD (slotsL r)))), some (.val (nI e)), some (.val (letE (ltF r e)))], by simp [wipeE], by simp [wipeE], rfl, .val (letE (ltF r.reverse e)), ?_, rfl⟩
    rw [e2, ← e1]
    simp [letE, ha, i0, i1, hka]) rfl]
  simp [wL]
theorem letE_inj {t u : Nat × Bool × Bool} (h : PyData.eqv (letE t).py (letE u).py = true) : letE t = letE u := by
  have h : (((t.1 : Int) == (u.1 : Int)) && ((kdB t.2.1 t.2.2 == kdB u.2.1 u.2.2) && true)) = true := h
  rw [Bool.and_true, Bool.and_eq_true, beq_iff_eq, beq_iff_eq] at h
  unfold letE
  rw [show nI t.1 = nI u.1 from congrArg D.int h.1, h.2]
theorem wl_inj {f g : Nat → Nat × Bool × Bool} : ∀ {a b : List Nat}, PyData.eqvAll (D.pys (a.map fun e => letE (f e))) (D.pys (b.map fun e => letE (g e))) = true → (a.map fun e => letE (f e)) = b.map fun e => letE (g e)
  | [], [], _ => rfl
  | [], _ :: _, h => by cases h
  | _ :: _, [], h => by cases h
  | x :: a, y :: b, h => by
    have h : (PyData.eqv (letE (f x)).py (letE (g y)).py && PyData.eqvAll (D.pys (a.map fun e => letE (f e))) (D.pys (b.map fun e => letE (g e)))) = true := h
    rw [Bool.and_eq_true] at h
    rw [List.map_cons, List.map_cons, letE_inj h.1, wl_inj h.2]
theorem word_ne {r s : List Nat} (h : IsRow r) (g : IsRow s) (hr : r.length ≤ 40) (hs : s.length ≤ 40) (e : r ≠ s) : cmpEq (wordD r) (wordD s) = some false := by
  rw [ceq_of wordD_pl wordD_pl (by decide) (by decide)]
  cases q : PyData.eqv (wordD r).py (wordD s).py with
  | false => rfl
  | true =>
    exact absurd (word_inj h g hr hs (congrArg D.tup (wl_inj q))) e
theorem row_sz : ∀ {r : List Nat}, szDs (nD r) = r.length
  | [] => rfl
  | x :: r => by
    show 1 + szDs (nD r) = r.length + 1
    rw [row_sz]
    omega
theorem word_sz {f : Nat → Nat × Bool × Bool} : ∀ {l : List Nat}, szDs (l.map fun e => letE (f e)) = 3 * l.length
  | [] => rfl
  | x :: l => by
    show szD (letE (f x)) + szDs (l.map fun e => letE (f e)) = 3 * (l.length + 1)
    rw [word_sz]
    show 1 + (1 + (1 + 0)) + _ = _
    omega
theorem t_sameR {r : List Nat} (hl : r.length ≤ 40) (hfu : 100000 < fu) : run T.Tb T.Γ fu (k + 2) 29 [.val (.tup (nD r)), .val (.tup (nD r))] = .ok (.val (.bl true)) [] :=
  t_same (n := 1) (Pl.tup Pl.nD) (by decide) (by show 1 + szDs (nD r) ≤ _; rw [row_sz]; omega) hfu
theorem t_sameW {r : List Nat} (hl : r.length ≤ 40) (hfu : 100000 < fu) : run T.Tb T.Γ fu (k + 2) 29 [.val (wordD r), .val (wordD r)] = .ok (.val (.bl true)) [] :=
  t_same (n := 2) wordD_pl (by decide) (by show 1 + szDs (wL r) ≤ _; unfold wL; rw [word_sz, List.length_range]; omega) hfu
theorem in2 {a b c : Int} : inFlat (.int a) [.int b, .int c] = some (decide (b = a) || decide (c = a)) := by
  refine (if_pos rfl).trans ?_
  simp [PyData.eqv, D.py, Bool.beq_eq_decide_eq]
theorem t_exch {r : List Nat} {b : Nat} {w : W} (h : IsRow r) (hl : r.length ≤ 40) (h1 : 1 < r.length) (hw : DrawSt b w) (hb : b < 1000000) (hfu : 100000 < fu) : ∃ w', DrawSt (b + 1) w' ∧ run T.Tb T.Γ fu (k + 5) 39 [w, .val (.tup (nD r))] = .ok (.val (.bl true)) [w'] := by
  obtain ⟨low, w', hv, hw2, hd⟩ := t_draw (fu := fu) (k := k + 2) (room := r.length - 1) hw (by omega) (by omega) (by omega)
  refine ⟨w', hw2, ?_⟩
  rw [run_s (fd := T.f39) rfl, runFd_ok rfl (w_arg hw rfl)]
  have hd : run T.Tb T.Γ fu (k + 4) 25 [w, .val (.int ((r.length : Int) - 1))] = .ok (.val (nI low)) [w'] := by
    rw [show ((r.length : Int) - 1) = ((r.length - 1 : Nat) : Int) by omega]
    exact hd
  have hlow : low + 1 < r.length := by omega
  have g := sw_row h hlow
  have gl : (swR r low).length ≤ 40 := by rw [sw_len]; exact hl
  have hio : ioT T.Tb 25 = [0] := rfl
  have hio1 : ioT T.Tb 15 = [] := rfl
  have hio2 : ioT T.Tb 16 = [] := rfl
  have hio3 : ioT T.Tb 29 = [] := rfl
  have hio4 : ioT T.Tb 22 = [] := rfl
  have hwr := t_word (fu := fu) (k := k) h hl
  have hws := t_word (fu := fu) (k := k) g gl
  have hor := t_openS (fu := fu) (k := k) h hl
  have hos := t_openS (fu := fu) (k := k) g gl
  have hne := word_ne g h gl hl (sw_ne h hlow)
  have hrw := t_rowofword (fu := fu) (k := k) g gl
  have hsm := t_sameR (fu := fu) (k := k + 2) (r := swR r low) gl hfu
  have hnil : cmpEq (.lst []) (.lst []) = some true := by decide +kernel
  simp [T.f39, hio, hd]
  rw [lcMap nI r (fun x => nI (swE low x)) [.tup (nD r)] (by simp) (by simp [IK.ev, D.items]) (by omega) (fun x hx => by
    refine ⟨[some w', some (.val (.tup (nD r))), some (.val (nI low)), none, none, none, none, none, some (.val (nI x)), none], by simp [wipeE], by simp [wipeE], rfl, .val (nI (swE low x)), ?_, rfl⟩
    unfold swE
    by_cases z1 : x = low
    · simp [z1]
    · have z3 : ¬ (x : Int) = (low : Int) := by omega
      by_cases z2 : x = low + 1
      · have z4 : (x : Int) = (low : Int) + 1 := by omega
        have z5 : ¬ (low : Int) + 1 = (low : Int) := by omega
        simp [z2, z5]
      · have z4 : ¬ (x : Int) = (low : Int) + 1 := by omega
        simp [z1, z2, z3, z4]) rfl]
  have hsw : (r.map fun x => nI (swE low x)) = nD (swR r low) := by
    show _ = (r.map (swE low)).map nI
    rw [List.map_map]
    rfl
  rw [hsw]
  simp [hio1, hio2, hwr, hws, hor, hos]
  have wat : ∀ {q : List Nat} {e : Nat}, e < q.length → atI (wL q) (e : Int) = some (letE (ltF q e)) := fun {q e} he => atI_n (by
    unfold wL
    rw [List.getElem?_map, List.getElem?_range he]
    rfl)
  have sat : ∀ {q : List Nat} {e : Nat}, e < q.length + 1 → atI (nD (slotsL q)) (e : Int) = some (nI (nsM q e)) := fun {q e} he => atI_n (by
    rw [List.getElem?_map]
    unfold slotsL
    rw [List.getElem?_map, List.getElem?_range he]
    rfl)
  have hff : ∀ l : List Nat, (l.filter fun _ => false) = [] := fun l => List.filter_eq_nil_iff.mpr (by simp)
  rw [lc_filt nI (List.range r.length) (fun _ => false) (fun _ => .int 1) [nI r.length] (by simp) (rng1_n (by omega)) (by simp; omega) (fun e he => by
    have hlt := List.mem_range.mp he
    refine ⟨[some w', some (.val (.tup (nD r))), some (.val (nI low)), some (.val (.tup (nD (swR r low)))), some (.val (wordD r)), some (.val (wordD (swR r low))), some (.val (.tup (nD (slotsL r)))), some (.val (.tup (nD (slotsL (swR r low))))), none, some (.val (nI e))], by simp [wipeE], by simp [wipeE], ?_, fun hp => by cases hp⟩
    by_cases z1 : e = low
    · simp [z1, in2]
    · have z3 : ¬ (low : Int) = (e : Int) := by omega
      by_cases z2 : e = low + 1
      · simp [z2, in2]
      · have z4 : ¬ (low : Int) + 1 = (e : Int) := by omega
        have hsl := sw_lt h hlow hlt z1 z2
        have a1 := wat hlt
        have a2 := wat (q := swR r low) (e := e) (by rw [sw_len]; exact hlt)
        rw [hsl] at a2
        have hcc := ceq_refl (letE_pl (t := ltF r e)) (by decide)
        simp [in2, z3, z4, a1, a2, hcc]) rfl]
  simp [hnil, hff]
  have rg : IK.ev .rng1 [.int ((r.length : Int) + 1)] = some (nD (List.range (r.length + 1))) := rng1_n (n := r.length + 1) (by omega)
  rw [lc_filt nI (List.range (r.length + 1)) (fun _ => false) (fun _ => .int 1) [.int ((r.length : Int) + 1)] (by simp) rg (by simp; omega) (fun e he => by
    have hlt := List.mem_range.mp he
    refine ⟨[some w', some (.val (.tup (nD r))), some (.val (nI low)), some (.val (.tup (nD (swR r low)))), some (.val (wordD r)), some (.val (wordD (swR r low))), some (.val (.tup (nD (slotsL r)))), some (.val (.tup (nD (slotsL (swR r low))))), none, some (.val (nI e))], by simp [wipeE], by simp [wipeE], ?_, fun hp => by cases hp⟩
    by_cases z2 : e = low + 1
    · have z4 : (e : Int) = (low : Int) + 1 := by omega
      simp [z2]
    · have z4 : ¬ (e : Int) = (low : Int) + 1 := by omega
      have a1 := sat (q := r) hlt
      have a2 := sat (q := swR r low) (e := e) (by rw [sw_len]; exact hlt)
      rw [sw_ns z2] at a2
      simp [z4, a1, a2]) rfl]
  simp [hnil, hff, hne, hio3, hio4, hrw, hsm]
end
end Mn
set_option Elab.async false
set_option linter.all false
set_option maxRecDepth 100000
set_option maxHeartbeats 4000000
/-! k67, plain: the law. -/
namespace Mn
open PySem L2
section
variable {fu k : Nat}
def lawB : S := match T.f40.body with | .seq _ (.seq (.for_ _ _ _ b) _) => b | _ => .skip
def restB : S := match lawB with | .seq _ (.seq _ r) => r | _ => .skip
def inB : S := match restB with | .seq _ (.seq _ (.seq _ (.seq (.for_ _ _ _ b) _))) => b | _ => .skip
theorem t_turnedR {r : List Nat} (h : IsRow r) (hl : r.length ≤ 40) : run T.Tb T.Γ fu (k + 5) 4 [.val (.tup (nD r))] = .ok (.val (.tup (nD r.reverse))) [] := t_turned (k := k + 1) h hl
theorem in_step {q : List Nat} {b : Nat} {w : W} (h : IsRow q) (hl : q.length ≤ 40) (hw : DrawSt b w) (hb : b < 100000) (hfu : 100000 < fu) {s0 o2 a4 a5 a6 a7 : Option W} :
    ∃ w', DrawSt (b + 1) w' ∧ evS ⟨run T.Tb T.Γ fu (k + 5), ioT T.Tb, T.Γ, fu⟩ [] inB [s0, some w, o2, some (.val (.tup (nD q))), a4, a5, a6, a7] = .nx [s0, some w', o2, some (.val (.tup (nD q))), a4, a5, a6, a7] := by
  have hio : ioT T.Tb 39 = [0] := rfl
  have hio1 : ioT T.Tb 15 = [] := rfl
  have hio2 : ioT T.Tb 4 = [] := rfl
  have hio3 : ioT T.Tb 29 = [] := rfl
  have hio4 : ioT T.Tb 38 = [] := rfl
  have g := rev_row h
  have gl : q.reverse.length ≤ 40 := by rw [List.length_reverse]; exact hl
  have h1 := t_turnedR (fu := fu) (k := k) h hl
  have h2 := t_word (fu := fu) (k := k + 1) g gl
  have h3 := t_backw (fu := fu) (k := k) h hl
  have h4 := t_sameW (fu := fu) (k := k + 3) (r := q.reverse) gl hfu
  by_cases z : 1 < q.length
  · obtain ⟨w', hw', he⟩ := t_exch (fu := fu) (k := k) h hl z hw (by omega) hfu
    refine ⟨w', hw', ?_⟩
    have z : (1 : Int) < (q.length : Int) := by omega
    simp [-List.map_reverse, inB, restB, lawB, T.f40, hio, hio1, hio2, hio3, hio4, h1, h2, h3, h4, z, he]
  · refine ⟨w, hw.mono (by omega), ?_⟩
    have z : ¬ (1 : Int) < (q.length : Int) := by omega
    simp [-List.map_reverse, inB, restB, lawB, T.f40, hio, hio1, hio2, hio3, hio4, h1, h2, h3, h4, z]
theorem rest_step {r s : List Nat} {b : Nat} {w : W} (h : IsRow r) (g : IsRow s) (hr : 0 < r.length) (hs : 0 < s.length) (hrl : r.length ≤ 20) (hsl : s.length ≤ 20) (hw : DrawSt b w) (hb : b < 10000) (hfu : 100000 < fu) {s0 o2 o3 o6 o7 : Option W} :
    ∃ w' a3 a6 a7, DrawSt (b + 3) w' ∧ evS ⟨run T.Tb T.Γ fu (k + 5), ioT T.Tb, T.Γ, fu⟩ [] restB [s0, some w, o2, o3, some (.val (.tup (nD r))), some (.val (.tup (nD s))), o6, o7] = .nx [s0, some w', o2, a3, some (.val (.tup (nD r))), some (.val (.tup (nD s))), a6, a7] := by
  have hio1 : ioT T.Tb 15 = [] := rfl
  have hio2 : ioT T.Tb 4 = [] := rfl
  have hio3 : ioT T.Tb 29 = [] := rfl
  have hio4 : ioT T.Tb 9 = [] := rfl
  have hio5 : ioT T.Tb 10 = [] := rfl
  have hio6 : ioT T.Tb 36 = [] := rfl
  have hio7 : ioT T.Tb 37 = [] := rfl
  have hio8 : ioT T.Tb 31 = [] := rfl
  have hio9 : ioT T.Tb 32 = [] := rfl
  have hio10 : ioT T.Tb 16 = [] := rfl
  have hbe := besR_row h g
  have hun := undR_row h g
  have lbe : (besR r s).length ≤ 40 := by unfold besR; rw [List.length_append, List.length_map]; omega
  have lun : (undR r s).length ≤ 40 := by unfold undR; rw [List.length_append, List.length_map]; omega
  have m1 := t_beside (fu := fu) (k := k + 1) h g (by omega)
  have m2 := t_under (fu := fu) (k := k + 1) h g (by omega)
  have m3 := t_word (fu := fu) (k := k + 1) hbe lbe
  have m4 := t_word (fu := fu) (k := k + 1) hun lun
  have m5 := t_besw (fu := fu) (k := k) h g hr hs (by omega)
  have m6 := t_undw (fu := fu) (k := k) h g hr hs (by omega)
  have m7 := t_sameW (fu := fu) (k := k + 3) (r := besR r s) lbe hfu
  have m8 := t_sameW (fu := fu) (k := k + 3) (r := undR r s) lun hfu
  have m9 := t_sameR (fu := fu) (k := k + 3) (r := besR r s) lbe hfu
  have m10 := t_sameR (fu := fu) (k := k + 3) (r := undR r s) lun hfu
  have m11 := t_lbes (fu := fu) (k := k + 4) (r := r) (s := s) (by omega) (by omega)
  have m12 := t_lund (fu := fu) (k := k + 4) (r := r) (s := s) (by omega) (by omega)
  have m13 := t_turnedR (fu := fu) (k := k) hbe lbe
  have m14 := t_openS (fu := fu) (k := k + 1) hbe lbe
  have m15 := t_openS (fu := fu) (k := k + 1) (rev_row hbe) (by rw [List.length_reverse]; exact lbe)
  have hsl2 : slotsL (besR r s).reverse = slotsL (besR r s) := by
    unfold slotsL
    rw [List.length_reverse]
    exact List.map_congr_left fun e _ => rev_ns
  rw [hsl2] at m15
  have m16 : run T.Tb T.Γ fu (k + 5) 29 [.val (.tup (nD (slotsL (besR r s)))), .val (.tup (nD (slotsL (besR r s))))] = .ok (.val (.bl true)) [] :=
    t_same (k := k + 3) (n := 1) (Pl.tup Pl.nD) (by decide) (by show 1 + szDs (nD _) ≤ _; rw [row_sz]; unfold slotsL; rw [List.length_map, List.length_range]; omega) hfu
  obtain ⟨w1, hw1, i1⟩ := in_step (fu := fu) (k := k) h (by omega) hw (by omega) hfu (s0 := s0) (o2 := o2) (a4 := some (.val (.tup (nD r)))) (a5 := some (.val (.tup (nD s)))) (a6 := some (.val (.tup (nD (besR r s))))) (a7 := some (.val (.tup (nD (undR r s)))))
  obtain ⟨w2, hw2, i2⟩ := in_step (fu := fu) (k := k) hbe lbe hw1 (by omega) hfu (s0 := s0) (o2 := o2) (a4 := some (.val (.tup (nD r)))) (a5 := some (.val (.tup (nD s)))) (a6 := some (.val (.tup (nD (besR r s))))) (a7 := some (.val (.tup (nD (undR r s)))))
  obtain ⟨w3, hw3, i3⟩ := in_step (fu := fu) (k := k) hun lun hw2 (by omega) hfu (s0 := s0) (o2 := o2) (a4 := some (.val (.tup (nD r)))) (a5 := some (.val (.tup (nD s)))) (a6 := some (.val (.tup (nD (besR r s))))) (a7 := some (.val (.tup (nD (undR r s)))))
  have hin : inB = (match restB with | .seq _ (.seq _ (.seq _ (.seq (.for_ _ _ _ b) _))) => b | _ => .skip) := rfl
  simp only [restB, lawB, T.f40] at hin
  rw [hin] at i1 i2 i3
  refine ⟨w3, some (.val (.tup (nD (undR r s)))), some (.val (.tup (nD (besR r s)))), some (.val (.tup (nD (undR r s)))), hw3, ?_⟩
  have s3 : szOk 3 = true := rfl
  simp [-List.map_reverse, restB, lawB, T.f40, hio1, hio2, hio3, hio4, hio5, hio6, hio7, hio8, hio9, hio10, m1, m2, m3, m4, m5, m6, m7, m8, m9, m10, m11, m12, m13, m14, m15, m16, es_for, IK.ev, D.items, s3, for_cons, for_nil, i1, i2, i3]
def lawP : S := match lawB with | .seq a (.seq _ _) => a | _ => .skip
def lawI : S := match lawB with | .seq _ (.seq a _) => a | _ => .skip
theorem lawB_eq : lawB = .seq lawP (.seq lawI restB) := rfl
theorem law_step {b : Nat} {w : W} (hw : DrawSt b w) (hb : b < 5000) (hfu : 100000 < fu) {s0 o2 o3 o4 o5 o6 o7 : Option W} :
    ∃ w' a3 a4 a5 a6 a7, DrawSt (b + 100) w' ∧ evS ⟨run T.Tb T.Γ fu (k + 5), ioT T.Tb, T.Γ, fu⟩ [] lawB [s0, some w, o2, o3, o4, o5, o6, o7] = .nx [s0, some w', o2, a3, a4, a5, a6, a7] := by
  have hio : ioT T.Tb 33 = [0] := rfl
  have hio1 : ioT T.Tb 25 = [0] := rfl
  have hio2 : ioT T.Tb 26 = [0] := rfl
  have hio3 : ioT T.Tb 35 = [] := rfl
  have hio4 : ioT T.Tb 34 = [] := rfl
  obtain ⟨v1, w1, hv1, hw1, d1⟩ := t_draw (fu := fu) (k := k + 3) (room := 20) hw (by omega) (by omega) (by omega)
  obtain ⟨r, w2, hr, hrl, hw2, d2⟩ := t_dealt (fu := fu) (k := k + 1) (n := 1 + v1) hw1 (by omega) (by omega) hfu
  obtain ⟨v2, w3, hv2, hw3, d3⟩ := t_draw (fu := fu) (k := k + 3) (room := 20) hw2 (by omega) (by omega) (by omega)
  obtain ⟨s, w4, hs, hsl, hw4, d4⟩ := t_dealt (fu := fu) (k := k + 1) (n := 1 + v2) hw3 (by omega) (by omega) hfu
  obtain ⟨v3, w5, hv3, hw5, d5⟩ := t_draw (fu := fu) (k := k + 3) (room := 3) hw4 (by omega) (by omega) (by omega)
  have d1 : run T.Tb T.Γ fu (k + 5) 25 [w, .val (.int 20)] = .ok (.val (nI v1)) [w1] := d1
  have d2 : run T.Tb T.Γ fu (k + 5) 33 [w1, .val (.int (1 + (v1 : Int)))] = .ok (.val (.tup (nD r))) [w2] := by
    rw [show (1 + (v1 : Int)) = ((1 + v1 : Nat) : Int) by omega]
    exact d2
  have d3 : run T.Tb T.Γ fu (k + 5) 25 [w2, .val (.int 20)] = .ok (.val (nI v2)) [w3] := d3
  have d4 : run T.Tb T.Γ fu (k + 5) 33 [w3, .val (.int (1 + (v2 : Int)))] = .ok (.val (.tup (nD s))) [w4] := by
    rw [show (1 + (v2 : Int)) = ((1 + v2 : Nat) : Int) by omega]
    exact d4
  have d5 : run T.Tb T.Γ fu (k + 5) 25 [w4, .val (.int 3)] = .ok (.val (nI v3)) [w5] := d5
  have main : ∀ (q : List Nat) (w : W), IsRow q → 0 < q.length → q.length ≤ 20 → DrawSt (b + 50) w → ∀ o3 o6 o7, ∃ w' a3 a4 a5 a6 a7, DrawSt (b + 100) w' ∧ evS ⟨run T.Tb T.Γ fu (k + 5), ioT T.Tb, T.Γ, fu⟩ [] restB [s0, some w, o2, o3, some (.val (.tup (nD q))), some (.val (.tup (nD s))), o6, o7] = .nx [s0, some w', o2, a3, a4, a5, a6, a7] := fun q w hq h0 h1 hw o3 o6 o7 => by
    obtain ⟨w', a3, a6, a7, g1, g2⟩ := rest_step (fu := fu) (k := k) hq hs h0 (by omega) h1 (by omega) hw (by omega) hfu (s0 := s0) (o2 := o2) (o3 := o3) (o6 := o6) (o7 := o7)
    exact ⟨w', a3, _, _, a6, a7, g1.mono (by omega), g2⟩
  by_cases z : v3 = 0
  · subst z
    obtain ⟨i, hi, w6, hw6, d6⟩ := t_pick (fu := fu) (k := k + 2) (l := fams.map D.str) hw5 (by omega) (by decide) (by decide)
    obtain ⟨v4, w7, hv4, hw7, d7⟩ := t_draw (fu := fu) (k := k + 3) (room := 10) hw6 (by omega) (by omega) (by omega)
    have hi2 : i < fams.length := by rw [List.length_map] at hi; exact hi
    obtain ⟨q, hq, hql, d8⟩ := t_fam (fu := fu) (k := k + 3) (i := i) (n := 1 + v4) hi2 (by omega)
    have d6 : run T.Tb T.Γ fu (k + 5) 26 [w5, .val (.lst (fams.map D.str))] = .ok (.val (.str fams[i])) [w6] := by
      rw [d6, List.getElem_map]
    have d7 : run T.Tb T.Γ fu (k + 5) 25 [w6, .val (.int 10)] = .ok (.val (nI v4)) [w7] := d7
    have d8 : run T.Tb T.Γ fu (k + 5) 35 [.val (.str fams[i]), .val (.int (1 + (v4 : Int)))] = .ok (.val (.tup (nD q))) [] := by
      rw [show (1 + (v4 : Int)) = ((1 + v4 : Nat) : Int) by omega]
      exact d8
    obtain ⟨w', a3, a4, a5, a6, a7, g1, g2⟩ := main q w7 hq (by omega) (by omega) (hw7.mono (by omega)) o3 o6 o7
    refine ⟨w', a3, a4, a5, a6, a7, g1, ?_⟩
    have ht := t_ten (fu := fu) (k := k + 4)
    rw [lawB_eq]
    simp [lawP, lawI, lawB, T.f40, hio, hio1, hio2, hio3, hio4, d1, d2, d3, d4, d5, d6, d7, d8, ht, g2]
  · have z2 : ¬ (v3 : Int) = 0 := by omega
    obtain ⟨w', a3, a4, a5, a6, a7, g1, g2⟩ := main r w5 hr (by omega) (by omega) (hw5.mono (by omega)) o3 o6 o7
    refine ⟨w', a3, a4, a5, a6, a7, g1, ?_⟩
    rw [lawB_eq]
    simp [lawP, lawI, lawB, T.f40, hio, hio1, hio2, hio3, hio4, d1, d2, d3, d4, d5, z, g2]
theorem t_law {ns : List Int} (hn : ns.length ≤ 63) (hfu : 100000 < fu) : run T.Tb T.Γ fu (k + 6) 40 [.val (.scr (iL ns))] = .ok (.val (.bl true)) [] := by
  obtain ⟨w, hw, hb⟩ := t_begun (fu := fu) (k := k + 4) hn
  rw [run_s (fd := T.f40) rfl, runFd_ok rfl rfl]
  have hio : ioT T.Tb 23 = [] := rfl
  have hmin : (if (6 : Int) < (ns.length : Int) then (6 : Int) else (ns.length : Int)) = ((min ns.length 6 : Nat) : Int) := by
    split <;> omega
  have hrg : IK.ev .rng1 [.int (2 + (if (6 : Int) < (ns.length : Int) then (6 : Int) else (ns.length : Int)))] = some (nD (List.range (2 + min ns.length 6))) := by
    rw [hmin, show (2 + ((min ns.length 6 : Nat) : Int)) = ((2 + min ns.length 6 : Nat) : Int) by omega]
    exact rng1_n (by omega)
  obtain ⟨e', h1, w', a2, a3, a4, a5, a6, a7, hw', rfl⟩ := for_run (C := ⟨run T.Tb T.Γ fu (k + 5), ioT T.Tb, T.Γ, fu⟩) (pn := []) (tg := .nm 2) (b := lawB) nI
    (fun ys e => ∃ w a2 a3 a4 a5 a6 a7, DrawSt (100 * ys.length) w ∧ e = [some (.val (.scr (iL ns))), some w, a2, a3, a4, a5, a6, a7]) (List.range (2 + min ns.length 6)) [some (.val (.scr (iL ns))), some w, none, none, none, none, none, none] ⟨w, none, none, none, none, none, none, hw, rfl⟩ (by
      rintro ys i zs e hx ⟨w, a2, a3, a4, a5, a6, a7, hw, rfl⟩
      obtain ⟨he, hlt⟩ := range_split hx
      obtain ⟨w', b3, b4, b5, b6, b7, g1, g2⟩ := law_step (fu := fu) (k := k) hw (by omega) hfu (s0 := some (.val (.scr (iL ns)))) (o2 := some (.val (nI i))) (o3 := a3) (o4 := a4) (o5 := a5) (o6 := a6) (o7 := a7)
      exact ⟨[some (.val (.scr (iL ns))), some w, some (.val (nI i)), a3, a4, a5, a6, a7], _, by simp, .inl g2, w', _, b3, b4, b5, b6, b7, g1.mono (by rw [List.length_append, List.length_singleton]; omega), rfl⟩)
  simp only [lawB, T.f40] at h1
  simp [T.f40, hio, hb, es_for, hrg, h1]
end
end Mn
set_option Elab.async false
set_option linter.all false
set_option maxRecDepth 100000
set_option maxHeartbeats 0
namespace T
open PySem L2 Mn
def top (i : Nat) : Stmt := PySem.Challenge.pw_withinrows_k67_whole_words_put_together.main.body.getD i (.Pass ⟨0, 0, 0, 0⟩)
def N0 : List Str := ["value"]
abbrev s0 : Stmt := top 7
def N1 : List Str := ["value", "entry"]
abbrev s1 : Stmt := top 8
def N2 : List Str := ["row"]
abbrev s2 : Stmt := top 9
def N3 : List Str := ["row"]
abbrev s3 : Stmt := top 10
def N4 : List Str := ["row"]
abbrev s4 : Stmt := top 11
def N5 : List Str := ["row", "found", "place", "entry"]
abbrev s5 : Stmt := top 12
def N6 : List Str := ["one", "other", "entry"]
abbrev s6 : Stmt := top 13
def N7 : List Str := ["one", "other", "entry"]
abbrev s7 : Stmt := top 14
def N8 : List Str := ["many"]
abbrev s8 : Stmt := top 15
def N9 : List Str := ["one", "other"]
abbrev s9 : Stmt := top 16
def N10 : List Str := ["one", "other"]
abbrev s10 : Stmt := top 17
def N11 : List Str := ["row", "entry", "found", "place", "own"]
abbrev s11 : Stmt := top 20
def N12 : List Str := ["place", "first", "last"]
abbrev s12 : Stmt := top 21
def N13 : List Str := ["row", "entry", "place", "slots", "slot", "first", "last"]
abbrev s13 : Stmt := top 22
def N14 : List Str := ["row", "entry", "place"]
abbrev s14 : Stmt := top 23
def N15 : List Str := ["row"]
abbrev s15 : Stmt := top 24
def N16 : List Str := ["row", "entry"]
abbrev s16 : Stmt := top 25
def N17 : List Str := ["slots", "kind"]
abbrev s17 : Stmt := top 26
def N18 : List Str := ["value"]
abbrev s18 : Stmt := top 27
def N19 : List Str := ["value", "slots", "slot", "kind", "letter"]
abbrev s19 : Stmt := top 28
def N20 : List Str := ["parts", "entry", "letter", "at", "own", "slot", "kind", "place"]
abbrev s20 : Stmt := top 29
def N21 : List Str := ["word", "parts", "entry", "letter"]
abbrev s21 : Stmt := top 30
def N22 : List Str := ["word"]
abbrev s22 : Stmt := top 31
def N23 : List Str := ["script", "great", "cell"]
abbrev s23 : Stmt := top 33
def N24 : List Str := ["state", "prime", "turn", "found", "blend", "cell"]
abbrev s24 : Stmt := top 34
def N25 : List Str := ["state", "room", "found"]
abbrev s25 : Stmt := top 35
def N26 : List Str := ["state", "some"]
abbrev s26 : Stmt := top 36
def N27 : List Str := ["state", "some", "left", "found"]
abbrev s27 : Stmt := top 37
def N28 : List Str := ["found", "due"]
abbrev s28 : Stmt := top 38
def N29 : List Str := ["found", "due", "unseen_here", "one", "other", "alike", "key", "left", "right"]
abbrev s29 : Stmt := top 39
def N30 : List Str := ["row", "found", "place", "entry"]
abbrev s30 : Stmt := top 40
def N31 : List Str := ["one", "other", "entry"]
abbrev s31 : Stmt := top 41
def N32 : List Str := ["one", "other", "entry"]
abbrev s32 : Stmt := top 42
def N33 : List Str := ["draws", "n"]
abbrev s33 : Stmt := top 43
def N34 : List Str := []
abbrev s34 : Stmt := top 44
def N35 : List Str := ["family", "k", "pair", "words", "row"]
abbrev s35 : Stmt := top 45
def N36 : List Str := ["one", "other", "found", "entry", "slot", "kind"]
abbrev s36 : Stmt := top 46
def N37 : List Str := ["one", "other", "found", "entry", "slot", "kind"]
abbrev s37 : Stmt := top 47
def N38 : List Str := ["row", "kinds", "slots", "entry", "letter"]
abbrev s38 : Stmt := top 48
def N39 : List Str := ["draws", "row", "low", "later", "one", "other", "slots", "after", "own", "entry"]
abbrev s39 : Stmt := top 49
def N40 : List Str := ["script", "draws", "turn", "row", "one", "other", "along", "below"]
abbrev s40 : Stmt := top 50
def names : List Str := (["is_whole", "is_row", "need_row", "back", "turned", "inverse", "sum_of", "skew_of", "need_room", "beside", "under", "slots_from", "kind_at", "letter_of", "word_in", "word_of", "open_slots", "slots_behind", "is_letter", "is_word", "put_by", "row_by", "row_of_word", "_law_begun"] : List Str) ++ (["_law_blended", "_law_draw", "_law_pick", "_law_shuffled", "_law_is_truth", "_law_same", "_law_swapped", "_law_beside", "_law_under", "_law_dealt", "_law_ten_families", "_law_family_row", "_law_beside_word", "_law_under_word", "_law_back_word", "_law_exchange_right", "law"] : List Str)
def gnames : List Str := (["MOST_ENTRIES", "KINDS"] : List Str)
def nm (i : Nat) : Str := if i < 1000 then names.getD i "" else gnames.getD (i - 1000) ""
theorem sc0 : FnScope N0 ["value"] (defScope s0) := ⟨rfl, rfl, rfl, by decide +kernel, rfl, by decide +kernel, by decide +kernel⟩
theorem ok0 : isSs nm N0 (defScope s0) f0.body (defBody s0) = true := by decide +kernel
theorem sc1 : FnScope N1 ["value"] (defScope s1) := ⟨rfl, rfl, rfl, by decide +kernel, rfl, by decide +kernel, by decide +kernel⟩
theorem ok1 : isSs nm N1 (defScope s1) f1.body (defBody s1) = true := by decide +kernel
theorem sc2 : FnScope N2 ["row"] (defScope s2) := ⟨rfl, rfl, rfl, by decide +kernel, rfl, by decide +kernel, by decide +kernel⟩
theorem ok2 : isSs nm N2 (defScope s2) f2.body (defBody s2) = true := by decide +kernel
theorem sc3 : FnScope N3 ["row"] (defScope s3) := ⟨rfl, rfl, rfl, by decide +kernel, rfl, by decide +kernel, by decide +kernel⟩
theorem ok3 : isSs nm N3 (defScope s3) f3.body (defBody s3) = true := by decide +kernel
theorem sc4 : FnScope N4 ["row"] (defScope s4) := ⟨rfl, rfl, rfl, by decide +kernel, rfl, by decide +kernel, by decide +kernel⟩
theorem ok4 : isSs nm N4 (defScope s4) f4.body (defBody s4) = true := by decide +kernel
theorem sc5 : FnScope N5 ["row"] (defScope s5) := ⟨rfl, rfl, rfl, by decide +kernel, rfl, by decide +kernel, by decide +kernel⟩
theorem ok5 : isSs nm N5 (defScope s5) f5.body (defBody s5) = true := by decide +kernel
theorem sc6 : FnScope N6 ["one", "other"] (defScope s6) := ⟨rfl, rfl, rfl, by decide +kernel, rfl, by decide +kernel, by decide +kernel⟩
theorem ok6 : isSs nm N6 (defScope s6) f6.body (defBody s6) = true := by decide +kernel
theorem sc7 : FnScope N7 ["one", "other"] (defScope s7) := ⟨rfl, rfl, rfl, by decide +kernel, rfl, by decide +kernel, by decide +kernel⟩
theorem ok7 : isSs nm N7 (defScope s7) f7.body (defBody s7) = true := by decide +kernel
theorem sc8 : FnScope N8 ["many"] (defScope s8) := ⟨rfl, rfl, rfl, by decide +kernel, rfl, by decide +kernel, by decide +kernel⟩
theorem ok8 : isSs nm N8 (defScope s8) f8.body (defBody s8) = true := by decide +kernel
theorem sc9 : FnScope N9 ["one", "other"] (defScope s9) := ⟨rfl, rfl, rfl, by decide +kernel, rfl, by decide +kernel, by decide +kernel⟩
theorem ok9 : isSs nm N9 (defScope s9) f9.body (defBody s9) = true := by decide +kernel
theorem sc10 : FnScope N10 ["one", "other"] (defScope s10) := ⟨rfl, rfl, rfl, by decide +kernel, rfl, by decide +kernel, by decide +kernel⟩
theorem ok10 : isSs nm N10 (defScope s10) f10.body (defBody s10) = true := by decide +kernel
theorem sc11 : FnScope N11 ["row", "entry"] (defScope s11) := ⟨rfl, rfl, rfl, by decide +kernel, rfl, by decide +kernel, by decide +kernel⟩
theorem ok11 : isSs nm N11 (defScope s11) f11.body (defBody s11) = true := by decide +kernel
theorem sc12 : FnScope N12 ["place", "first", "last"] (defScope s12) := ⟨rfl, rfl, rfl, by decide +kernel, rfl, by decide +kernel, by decide +kernel⟩
theorem ok12 : isSs nm N12 (defScope s12) f12.body (defBody s12) = true := by decide +kernel
theorem sc13 : FnScope N13 ["row", "entry", "place"] (defScope s13) := ⟨rfl, rfl, rfl, by decide +kernel, rfl, by decide +kernel, by decide +kernel⟩
theorem ok13 : isSs nm N13 (defScope s13) f13.body (defBody s13) = true := by decide +kernel
theorem sc14 : FnScope N14 ["row"] (defScope s14) := ⟨rfl, rfl, rfl, by decide +kernel, rfl, by decide +kernel, by decide +kernel⟩
theorem ok14 : isSs nm N14 (defScope s14) f14.body (defBody s14) = true := by decide +kernel
theorem sc15 : FnScope N15 ["row"] (defScope s15) := ⟨rfl, rfl, rfl, by decide +kernel, rfl, by decide +kernel, by decide +kernel⟩
theorem ok15 : isSs nm N15 (defScope s15) f15.body (defBody s15) = true := by decide +kernel
theorem sc16 : FnScope N16 ["row"] (defScope s16) := ⟨rfl, rfl, rfl, by decide +kernel, rfl, by decide +kernel, by decide +kernel⟩
theorem ok16 : isSs nm N16 (defScope s16) f16.body (defBody s16) = true := by decide +kernel
theorem sc17 : FnScope N17 ["slots", "kind"] (defScope s17) := ⟨rfl, rfl, rfl, by decide +kernel, rfl, by decide +kernel, by decide +kernel⟩
theorem ok17 : isSs nm N17 (defScope s17) f17.body (defBody s17) = true := by decide +kernel
theorem sc18 : FnScope N18 ["value"] (defScope s18) := ⟨rfl, rfl, rfl, by decide +kernel, rfl, by decide +kernel, by decide +kernel⟩
theorem ok18 : isSs nm N18 (defScope s18) f18.body (defBody s18) = true := by decide +kernel
theorem sc19 : FnScope N19 ["value"] (defScope s19) := ⟨rfl, rfl, rfl, by decide +kernel, rfl, by decide +kernel, by decide +kernel⟩
theorem ok19 : isSs nm N19 (defScope s19) f19.body (defBody s19) = true := by decide +kernel
theorem sc20 : FnScope N20 ["parts", "entry", "letter"] (defScope s20) := ⟨rfl, rfl, rfl, by decide +kernel, rfl, by decide +kernel, by decide +kernel⟩
theorem ok20 : isSs nm N20 (defScope s20) f20.body (defBody s20) = true := by decide +kernel
theorem sc21 : FnScope N21 ["word"] (defScope s21) := ⟨rfl, rfl, rfl, by decide +kernel, rfl, by decide +kernel, by decide +kernel⟩
theorem ok21 : isSs nm N21 (defScope s21) f21.body (defBody s21) = true := by decide +kernel
theorem sc22 : FnScope N22 ["word"] (defScope s22) := ⟨rfl, rfl, rfl, by decide +kernel, rfl, by decide +kernel, by decide +kernel⟩
theorem ok22 : isSs nm N22 (defScope s22) f22.body (defBody s22) = true := by decide +kernel
theorem sc23 : FnScope N23 ["script"] (defScope s23) := ⟨rfl, rfl, rfl, by decide +kernel, rfl, by decide +kernel, by decide +kernel⟩
theorem ok23 : isSs nm N23 (defScope s23) f23.body (defBody s23) = true := by decide +kernel
theorem sc24 : FnScope N24 ["state"] (defScope s24) := ⟨rfl, rfl, rfl, by decide +kernel, rfl, by decide +kernel, by decide +kernel⟩
theorem ok24 : isSs nm N24 (defScope s24) f24.body (defBody s24) = true := by decide +kernel
theorem sc25 : FnScope N25 ["state", "room"] (defScope s25) := ⟨rfl, rfl, rfl, by decide +kernel, rfl, by decide +kernel, by decide +kernel⟩
theorem ok25 : isSs nm N25 (defScope s25) f25.body (defBody s25) = true := by decide +kernel
theorem sc26 : FnScope N26 ["state", "some"] (defScope s26) := ⟨rfl, rfl, rfl, by decide +kernel, rfl, by decide +kernel, by decide +kernel⟩
theorem ok26 : isSs nm N26 (defScope s26) f26.body (defBody s26) = true := by decide +kernel
theorem sc27 : FnScope N27 ["state", "some"] (defScope s27) := ⟨rfl, rfl, rfl, by decide +kernel, rfl, by decide +kernel, by decide +kernel⟩
theorem ok27 : isSs nm N27 (defScope s27) f27.body (defBody s27) = true := by decide +kernel
theorem sc28 : FnScope N28 ["found", "due"] (defScope s28) := ⟨rfl, rfl, rfl, by decide +kernel, rfl, by decide +kernel, by decide +kernel⟩
theorem ok28 : isSs nm N28 (defScope s28) f28.body (defBody s28) = true := by decide +kernel
theorem sc29 : FnScope N29 ["found", "due"] (defScope s29) := ⟨rfl, rfl, rfl, by decide +kernel, rfl, by decide +kernel, by decide +kernel⟩
theorem ok29 : isSs nm N29 (defScope s29) f29.body (defBody s29) = true := by decide +kernel
theorem sc30 : FnScope N30 ["row"] (defScope s30) := ⟨rfl, rfl, rfl, by decide +kernel, rfl, by decide +kernel, by decide +kernel⟩
theorem ok30 : isSs nm N30 (defScope s30) f30.body (defBody s30) = true := by decide +kernel
theorem sc31 : FnScope N31 ["one", "other"] (defScope s31) := ⟨rfl, rfl, rfl, by decide +kernel, rfl, by decide +kernel, by decide +kernel⟩
theorem ok31 : isSs nm N31 (defScope s31) f31.body (defBody s31) = true := by decide +kernel
theorem sc32 : FnScope N32 ["one", "other"] (defScope s32) := ⟨rfl, rfl, rfl, by decide +kernel, rfl, by decide +kernel, by decide +kernel⟩
theorem ok32 : isSs nm N32 (defScope s32) f32.body (defBody s32) = true := by decide +kernel
theorem sc33 : FnScope N33 ["draws", "n"] (defScope s33) := ⟨rfl, rfl, rfl, by decide +kernel, rfl, by decide +kernel, by decide +kernel⟩
theorem ok33 : isSs nm N33 (defScope s33) f33.body (defBody s33) = true := by decide +kernel
theorem sc34 : FnScope N34 [] (defScope s34) := ⟨rfl, rfl, rfl, by decide +kernel, rfl, by decide +kernel, by decide +kernel⟩
theorem ok34 : isSs nm N34 (defScope s34) f34.body (defBody s34) = true := by decide +kernel
theorem sc35 : FnScope N35 ["family", "k"] (defScope s35) := ⟨rfl, rfl, rfl, by decide +kernel, rfl, by decide +kernel, by decide +kernel⟩
theorem ok35 : isSs nm N35 (defScope s35) f35.body (defBody s35) = true := by decide +kernel
theorem sc36 : FnScope N36 ["one", "other"] (defScope s36) := ⟨rfl, rfl, rfl, by decide +kernel, rfl, by decide +kernel, by decide +kernel⟩
theorem ok36 : isSs nm N36 (defScope s36) f36.body (defBody s36) = true := by decide +kernel
theorem sc37 : FnScope N37 ["one", "other"] (defScope s37) := ⟨rfl, rfl, rfl, by decide +kernel, rfl, by decide +kernel, by decide +kernel⟩
theorem ok37 : isSs nm N37 (defScope s37) f37.body (defBody s37) = true := by decide +kernel
theorem sc38 : FnScope N38 ["row"] (defScope s38) := ⟨rfl, rfl, rfl, by decide +kernel, rfl, by decide +kernel, by decide +kernel⟩
theorem ok38 : isSs nm N38 (defScope s38) f38.body (defBody s38) = true := by decide +kernel
theorem sc39 : FnScope N39 ["draws", "row"] (defScope s39) := ⟨rfl, rfl, rfl, by decide +kernel, rfl, by decide +kernel, by decide +kernel⟩
theorem ok39 : isSs nm N39 (defScope s39) f39.body (defBody s39) = true := by decide +kernel
theorem sc40 : FnScope N40 ["script"] (defScope s40) := ⟨rfl, rfl, rfl, by decide +kernel, rfl, by decide +kernel, by decide +kernel⟩
theorem ok40 : isSs nm N40 (defScope s40) f40.body (defBody s40) = true := by decide +kernel
def dfs : List He.DefD := ([
  ⟨("is_whole", none), "is_whole", "is_whole", defArgs s0, defBody s0, defScope s0, [], []⟩, 
  ⟨("is_row", none), "is_row", "is_row", defArgs s1, defBody s1, defScope s1, [], []⟩, 
  ⟨("need_row", none), "need_row", "need_row", defArgs s2, defBody s2, defScope s2, [], []⟩, 
  ⟨("back", none), "back", "back", defArgs s3, defBody s3, defScope s3, [], []⟩, 
  ⟨("turned", none), "turned", "turned", defArgs s4, defBody s4, defScope s4, [], []⟩, 
  ⟨("inverse", none), "inverse", "inverse", defArgs s5, defBody s5, defScope s5, [], []⟩, 
  ⟨("sum_of", none), "sum_of", "sum_of", defArgs s6, defBody s6, defScope s6, [], []⟩, 
  ⟨("skew_of", none), "skew_of", "skew_of", defArgs s7, defBody s7, defScope s7, [], []⟩, 
  ⟨("need_room", none), "need_room", "need_room", defArgs s8, defBody s8, defScope s8, [], []⟩, 
  ⟨("beside", none), "beside", "beside", defArgs s9, defBody s9, defScope s9, [], []⟩, 
  ⟨("under", none), "under", "under", defArgs s10, defBody s10, defScope s10, [], []⟩, 
  ⟨("slots_from", none), "slots_from", "slots_from", defArgs s11, defBody s11, defScope s11, [], []⟩, 
  ⟨("kind_at", none), "kind_at", "kind_at", defArgs s12, defBody s12, defScope s12, [], []⟩, 
  ⟨("letter_of", none), "letter_of", "letter_of", defArgs s13, defBody s13, defScope s13, [], []⟩, 
  ⟨("word_in", none), "word_in", "word_in", defArgs s14, defBody s14, defScope s14, [], []⟩, 
  ⟨("word_of", none), "word_of", "word_of", defArgs s15, defBody s15, defScope s15, [], []⟩, 
  ⟨("open_slots", none), "open_slots", "open_slots", defArgs s16, defBody s16, defScope s16, [], []⟩, 
  ⟨("slots_behind", none), "slots_behind", "slots_behind", defArgs s17, defBody s17, defScope s17, [], []⟩, 
  ⟨("is_letter", none), "is_letter", "is_letter", defArgs s18, defBody s18, defScope s18, [], []⟩, 
  ⟨("is_word", none), "is_word", "is_word", defArgs s19, defBody s19, defScope s19, [], []⟩, 
  ⟨("put_by", none), "put_by", "put_by", defArgs s20, defBody s20, defScope s20, [], []⟩, 
  ⟨("row_by", none), "row_by", "row_by", defArgs s21, defBody s21, defScope s21, [], []⟩, 
  ⟨("row_of_word", none), "row_of_word", "row_of_word", defArgs s22, defBody s22, defScope s22, [], []⟩, 
  ⟨("_law_begun", none), "_law_begun", "_law_begun", defArgs s23, defBody s23, defScope s23, [], []⟩] : List He.DefD) ++ ([
  ⟨("_law_blended", none), "_law_blended", "_law_blended", defArgs s24, defBody s24, defScope s24, [], []⟩, 
  ⟨("_law_draw", none), "_law_draw", "_law_draw", defArgs s25, defBody s25, defScope s25, [], []⟩, 
  ⟨("_law_pick", none), "_law_pick", "_law_pick", defArgs s26, defBody s26, defScope s26, [], []⟩, 
  ⟨("_law_shuffled", none), "_law_shuffled", "_law_shuffled", defArgs s27, defBody s27, defScope s27, [], []⟩, 
  ⟨("_law_is_truth", none), "_law_is_truth", "_law_is_truth", defArgs s28, defBody s28, defScope s28, [], []⟩, 
  ⟨("_law_same", none), "_law_same", "_law_same", defArgs s29, defBody s29, defScope s29, [], []⟩, 
  ⟨("_law_swapped", none), "_law_swapped", "_law_swapped", defArgs s30, defBody s30, defScope s30, [], []⟩, 
  ⟨("_law_beside", none), "_law_beside", "_law_beside", defArgs s31, defBody s31, defScope s31, [], []⟩, 
  ⟨("_law_under", none), "_law_under", "_law_under", defArgs s32, defBody s32, defScope s32, [], []⟩, 
  ⟨("_law_dealt", none), "_law_dealt", "_law_dealt", defArgs s33, defBody s33, defScope s33, [], []⟩, 
  ⟨("_law_ten_families", none), "_law_ten_families", "_law_ten_families", defArgs s34, defBody s34, defScope s34, [], []⟩, 
  ⟨("_law_family_row", none), "_law_family_row", "_law_family_row", defArgs s35, defBody s35, defScope s35, [], []⟩, 
  ⟨("_law_beside_word", none), "_law_beside_word", "_law_beside_word", defArgs s36, defBody s36, defScope s36, [], []⟩, 
  ⟨("_law_under_word", none), "_law_under_word", "_law_under_word", defArgs s37, defBody s37, defScope s37, [], []⟩, 
  ⟨("_law_back_word", none), "_law_back_word", "_law_back_word", defArgs s38, defBody s38, defScope s38, [], []⟩, 
  ⟨("_law_exchange_right", none), "_law_exchange_right", "_law_exchange_right", defArgs s39, defBody s39, defScope s39, [], []⟩, 
  ⟨("law", none), "law", "law", defArgs s40, defBody s40, defScope s40, [], []⟩] : List He.DefD)
def fcs : List He.Fa := ([.glo "is_whole", .glo "is_row", .glo "need_row", .glo "back", .glo "turned", .glo "inverse", .glo "sum_of", .glo "skew_of", .glo "need_room", .glo "beside", .glo "under", .glo "slots_from", .glo "kind_at", .glo "letter_of", .glo "word_in", .glo "word_of", .glo "open_slots", .glo "slots_behind", .glo "is_letter", .glo "is_word", .glo "put_by", .glo "row_by", .glo "row_of_word", .glo "_law_begun"] : List He.Fa) ++ ([.glo "_law_blended", .glo "_law_draw", .glo "_law_pick", .glo "_law_shuffled", .glo "_law_is_truth", .glo "_law_same", .glo "_law_swapped", .glo "_law_beside", .glo "_law_under", .glo "_law_dealt", .glo "_law_ten_families", .glo "_law_family_row", .glo "_law_beside_word", .glo "_law_under_word", .glo "_law_back_word", .glo "_law_exchange_right", .glo "law", .free "len", .free "abs", .free "min", .free "sorted", .free "all", .free "any", .free "isinstance"] : List He.Fa) ++ ([.free "tuple", .free "list", .free "int", .free "str", .free "dict", .free "bool", .free "range", .free "reversed", .free "enumerate", .free "zip", .int "MOST_ENTRIES" 40, .glo "KINDS"] : List He.Fa)
def tups : List Tup := ([("KINDS", [.str "fill", .str "left", .str "right", .str "split"])] : List Tup)
section
variable {K : PySem.W.Frag} {h : Heap} {mg : Str → Option Value} (X : K.In h) (G : h.Ns mainGlobals mg) (c : SaysX fcs dfs tups K)
include X G c
theorem d0 : DefOk nm K mg Tb 0 := by
  obtain ⟨fd, F⟩ := c.def_ 0 rfl
  exact ⟨_, _, _, _, _, fd, N0, ["value"], f0, rfl, F, He.glo_ok X G (c.fact 0 rfl), sc0, rfl, rfl, by decide, by decide, by decide, ok0, FunD.bindsN F fun _ _ _ _ _ _ us hl => match us, hl with | [_], _ => rfl⟩
theorem d1 : DefOk nm K mg Tb 1 := by
  obtain ⟨fd, F⟩ := c.def_ 1 rfl
  exact ⟨_, _, _, _, _, fd, N1, ["value"], f1, rfl, F, He.glo_ok X G (c.fact 1 rfl), sc1, rfl, rfl, by decide, by decide, by decide, ok1, FunD.bindsN F fun _ _ _ _ _ _ us hl => match us, hl with | [_], _ => rfl⟩
theorem d2 : DefOk nm K mg Tb 2 := by
  obtain ⟨fd, F⟩ := c.def_ 2 rfl
  exact ⟨_, _, _, _, _, fd, N2, ["row"], f2, rfl, F, He.glo_ok X G (c.fact 2 rfl), sc2, rfl, rfl, by decide, by decide, by decide, ok2, FunD.bindsN F fun _ _ _ _ _ _ us hl => match us, hl with | [_], _ => rfl⟩
theorem d3 : DefOk nm K mg Tb 3 := by
  obtain ⟨fd, F⟩ := c.def_ 3 rfl
  exact ⟨_, _, _, _, _, fd, N3, ["row"], f3, rfl, F, He.glo_ok X G (c.fact 3 rfl), sc3, rfl, rfl, by decide, by decide, by decide, ok3, FunD.bindsN F fun _ _ _ _ _ _ us hl => match us, hl with | [_], _ => rfl⟩
theorem d4 : DefOk nm K mg Tb 4 := by
  obtain ⟨fd, F⟩ := c.def_ 4 rfl
  exact ⟨_, _, _, _, _, fd, N4, ["row"], f4, rfl, F, He.glo_ok X G (c.fact 4 rfl), sc4, rfl, rfl, by decide, by decide, by decide, ok4, FunD.bindsN F fun _ _ _ _ _ _ us hl => match us, hl with | [_], _ => rfl⟩
theorem d5 : DefOk nm K mg Tb 5 := by
  obtain ⟨fd, F⟩ := c.def_ 5 rfl
  exact ⟨_, _, _, _, _, fd, N5, ["row"], f5, rfl, F, He.glo_ok X G (c.fact 5 rfl), sc5, rfl, rfl, by decide, by decide, by decide, ok5, FunD.bindsN F fun _ _ _ _ _ _ us hl => match us, hl with | [_], _ => rfl⟩
theorem d6 : DefOk nm K mg Tb 6 := by
  obtain ⟨fd, F⟩ := c.def_ 6 rfl
  exact ⟨_, _, _, _, _, fd, N6, ["one", "other"], f6, rfl, F, He.glo_ok X G (c.fact 6 rfl), sc6, rfl, rfl, by decide, by decide, by decide, ok6, FunD.bindsN F fun _ _ _ _ _ _ us hl => match us, hl with | [_, _], _ => rfl⟩
theorem d7 : DefOk nm K mg Tb 7 := by
  obtain ⟨fd, F⟩ := c.def_ 7 rfl
  exact ⟨_, _, _, _, _, fd, N7, ["one", "other"], f7, rfl, F, He.glo_ok X G (c.fact 7 rfl), sc7, rfl, rfl, by decide, by decide, by decide, ok7, FunD.bindsN F fun _ _ _ _ _ _ us hl => match us, hl with | [_, _], _ => rfl⟩
theorem d8 : DefOk nm K mg Tb 8 := by
  obtain ⟨fd, F⟩ := c.def_ 8 rfl
  exact ⟨_, _, _, _, _, fd, N8, ["many"], f8, rfl, F, He.glo_ok X G (c.fact 8 rfl), sc8, rfl, rfl, by decide, by decide, by decide, ok8, FunD.bindsN F fun _ _ _ _ _ _ us hl => match us, hl with | [_], _ => rfl⟩
theorem d9 : DefOk nm K mg Tb 9 := by
  obtain ⟨fd, F⟩ := c.def_ 9 rfl
  exact ⟨_, _, _, _, _, fd, N9, ["one", "other"], f9, rfl, F, He.glo_ok X G (c.fact 9 rfl), sc9, rfl, rfl, by decide, by decide, by decide, ok9, FunD.bindsN F fun _ _ _ _ _ _ us hl => match us, hl with | [_, _], _ => rfl⟩
theorem d10 : DefOk nm K mg Tb 10 := by
  obtain ⟨fd, F⟩ := c.def_ 10 rfl
  exact ⟨_, _, _, _, _, fd, N10, ["one", "other"], f10, rfl, F, He.glo_ok X G (c.fact 10 rfl), sc10, rfl, rfl, by decide, by decide, by decide, ok10, FunD.bindsN F fun _ _ _ _ _ _ us hl => match us, hl with | [_, _], _ => rfl⟩
theorem d11 : DefOk nm K mg Tb 11 := by
  obtain ⟨fd, F⟩ := c.def_ 11 rfl
  exact ⟨_, _, _, _, _, fd, N11, ["row", "entry"], f11, rfl, F, He.glo_ok X G (c.fact 11 rfl), sc11, rfl, rfl, by decide, by decide, by decide, ok11, FunD.bindsN F fun _ _ _ _ _ _ us hl => match us, hl with | [_, _], _ => rfl⟩
theorem d12 : DefOk nm K mg Tb 12 := by
  obtain ⟨fd, F⟩ := c.def_ 12 rfl
  exact ⟨_, _, _, _, _, fd, N12, ["place", "first", "last"], f12, rfl, F, He.glo_ok X G (c.fact 12 rfl), sc12, rfl, rfl, by decide, by decide, by decide, ok12, FunD.bindsN F fun _ _ _ _ _ _ us hl => match us, hl with | [_, _, _], _ => rfl⟩
theorem d13 : DefOk nm K mg Tb 13 := by
  obtain ⟨fd, F⟩ := c.def_ 13 rfl
  exact ⟨_, _, _, _, _, fd, N13, ["row", "entry", "place"], f13, rfl, F, He.glo_ok X G (c.fact 13 rfl), sc13, rfl, rfl, by decide, by decide, by decide, ok13, FunD.bindsN F fun _ _ _ _ _ _ us hl => match us, hl with | [_, _, _], _ => rfl⟩
theorem d14 : DefOk nm K mg Tb 14 := by
  obtain ⟨fd, F⟩ := c.def_ 14 rfl
  exact ⟨_, _, _, _, _, fd, N14, ["row"], f14, rfl, F, He.glo_ok X G (c.fact 14 rfl), sc14, rfl, rfl, by decide, by decide, by decide, ok14, FunD.bindsN F fun _ _ _ _ _ _ us hl => match us, hl with | [_], _ => rfl⟩
theorem d15 : DefOk nm K mg Tb 15 := by
  obtain ⟨fd, F⟩ := c.def_ 15 rfl
  exact ⟨_, _, _, _, _, fd, N15, ["row"], f15, rfl, F, He.glo_ok X G (c.fact 15 rfl), sc15, rfl, rfl, by decide, by decide, by decide, ok15, FunD.bindsN F fun _ _ _ _ _ _ us hl => match us, hl with | [_], _ => rfl⟩
theorem d16 : DefOk nm K mg Tb 16 := by
  obtain ⟨fd, F⟩ := c.def_ 16 rfl
  exact ⟨_, _, _, _, _, fd, N16, ["row"], f16, rfl, F, He.glo_ok X G (c.fact 16 rfl), sc16, rfl, rfl, by decide, by decide, by decide, ok16, FunD.bindsN F fun _ _ _ _ _ _ us hl => match us, hl with | [_], _ => rfl⟩
theorem d17 : DefOk nm K mg Tb 17 := by
  obtain ⟨fd, F⟩ := c.def_ 17 rfl
  exact ⟨_, _, _, _, _, fd, N17, ["slots", "kind"], f17, rfl, F, He.glo_ok X G (c.fact 17 rfl), sc17, rfl, rfl, by decide, by decide, by decide, ok17, FunD.bindsN F fun _ _ _ _ _ _ us hl => match us, hl with | [_, _], _ => rfl⟩
theorem d18 : DefOk nm K mg Tb 18 := by
  obtain ⟨fd, F⟩ := c.def_ 18 rfl
  exact ⟨_, _, _, _, _, fd, N18, ["value"], f18, rfl, F, He.glo_ok X G (c.fact 18 rfl), sc18, rfl, rfl, by decide, by decide, by decide, ok18, FunD.bindsN F fun _ _ _ _ _ _ us hl => match us, hl with | [_], _ => rfl⟩
theorem d19 : DefOk nm K mg Tb 19 := by
  obtain ⟨fd, F⟩ := c.def_ 19 rfl
  exact ⟨_, _, _, _, _, fd, N19, ["value"], f19, rfl, F, He.glo_ok X G (c.fact 19 rfl), sc19, rfl, rfl, by decide, by decide, by decide, ok19, FunD.bindsN F fun _ _ _ _ _ _ us hl => match us, hl with | [_], _ => rfl⟩
theorem d20 : DefOk nm K mg Tb 20 := by
  obtain ⟨fd, F⟩ := c.def_ 20 rfl
  exact ⟨_, _, _, _, _, fd, N20, ["parts", "entry", "letter"], f20, rfl, F, He.glo_ok X G (c.fact 20 rfl), sc20, rfl, rfl, by decide, by decide, by decide, ok20, FunD.bindsN F fun _ _ _ _ _ _ us hl => match us, hl with | [_, _, _], _ => rfl⟩
theorem d21 : DefOk nm K mg Tb 21 := by
  obtain ⟨fd, F⟩ := c.def_ 21 rfl
  exact ⟨_, _, _, _, _, fd, N21, ["word"], f21, rfl, F, He.glo_ok X G (c.fact 21 rfl), sc21, rfl, rfl, by decide, by decide, by decide, ok21, FunD.bindsN F fun _ _ _ _ _ _ us hl => match us, hl with | [_], _ => rfl⟩
theorem d22 : DefOk nm K mg Tb 22 := by
  obtain ⟨fd, F⟩ := c.def_ 22 rfl
  exact ⟨_, _, _, _, _, fd, N22, ["word"], f22, rfl, F, He.glo_ok X G (c.fact 22 rfl), sc22, rfl, rfl, by decide, by decide, by decide, ok22, FunD.bindsN F fun _ _ _ _ _ _ us hl => match us, hl with | [_], _ => rfl⟩
theorem d23 : DefOk nm K mg Tb 23 := by
  obtain ⟨fd, F⟩ := c.def_ 23 rfl
  exact ⟨_, _, _, _, _, fd, N23, ["script"], f23, rfl, F, He.glo_ok X G (c.fact 23 rfl), sc23, rfl, rfl, by decide, by decide, by decide, ok23, FunD.bindsN F fun _ _ _ _ _ _ us hl => match us, hl with | [_], _ => rfl⟩
theorem d24 : DefOk nm K mg Tb 24 := by
  obtain ⟨fd, F⟩ := c.def_ 24 rfl
  exact ⟨_, _, _, _, _, fd, N24, ["state"], f24, rfl, F, He.glo_ok X G (c.fact 24 rfl), sc24, rfl, rfl, by decide, by decide, by decide, ok24, FunD.bindsN F fun _ _ _ _ _ _ us hl => match us, hl with | [_], _ => rfl⟩
theorem d25 : DefOk nm K mg Tb 25 := by
  obtain ⟨fd, F⟩ := c.def_ 25 rfl
  exact ⟨_, _, _, _, _, fd, N25, ["state", "room"], f25, rfl, F, He.glo_ok X G (c.fact 25 rfl), sc25, rfl, rfl, by decide, by decide, by decide, ok25, FunD.bindsN F fun _ _ _ _ _ _ us hl => match us, hl with | [_, _], _ => rfl⟩
theorem d26 : DefOk nm K mg Tb 26 := by
  obtain ⟨fd, F⟩ := c.def_ 26 rfl
  exact ⟨_, _, _, _, _, fd, N26, ["state", "some"], f26, rfl, F, He.glo_ok X G (c.fact 26 rfl), sc26, rfl, rfl, by decide, by decide, by decide, ok26, FunD.bindsN F fun _ _ _ _ _ _ us hl => match us, hl with | [_, _], _ => rfl⟩
theorem d27 : DefOk nm K mg Tb 27 := by
  obtain ⟨fd, F⟩ := c.def_ 27 rfl
  exact ⟨_, _, _, _, _, fd, N27, ["state", "some"], f27, rfl, F, He.glo_ok X G (c.fact 27 rfl), sc27, rfl, rfl, by decide, by decide, by decide, ok27, FunD.bindsN F fun _ _ _ _ _ _ us hl => match us, hl with | [_, _], _ => rfl⟩
theorem d28 : DefOk nm K mg Tb 28 := by
  obtain ⟨fd, F⟩ := c.def_ 28 rfl
  exact ⟨_, _, _, _, _, fd, N28, ["found", "due"], f28, rfl, F, He.glo_ok X G (c.fact 28 rfl), sc28, rfl, rfl, by decide, by decide, by decide, ok28, FunD.bindsN F fun _ _ _ _ _ _ us hl => match us, hl with | [_, _], _ => rfl⟩
theorem d29 : DefOk nm K mg Tb 29 := by
  obtain ⟨fd, F⟩ := c.def_ 29 rfl
  exact ⟨_, _, _, _, _, fd, N29, ["found", "due"], f29, rfl, F, He.glo_ok X G (c.fact 29 rfl), sc29, rfl, rfl, by decide, by decide, by decide, ok29, FunD.bindsN F fun _ _ _ _ _ _ us hl => match us, hl with | [_, _], _ => rfl⟩
theorem d30 : DefOk nm K mg Tb 30 := by
  obtain ⟨fd, F⟩ := c.def_ 30 rfl
  exact ⟨_, _, _, _, _, fd, N30, ["row"], f30, rfl, F, He.glo_ok X G (c.fact 30 rfl), sc30, rfl, rfl, by decide, by decide, by decide, ok30, FunD.bindsN F fun _ _ _ _ _ _ us hl => match us, hl with | [_], _ => rfl⟩
theorem d31 : DefOk nm K mg Tb 31 := by
  obtain ⟨fd, F⟩ := c.def_ 31 rfl
  exact ⟨_, _, _, _, _, fd, N31, ["one", "other"], f31, rfl, F, He.glo_ok X G (c.fact 31 rfl), sc31, rfl, rfl, by decide, by decide, by decide, ok31, FunD.bindsN F fun _ _ _ _ _ _ us hl => match us, hl with | [_, _], _ => rfl⟩
theorem d32 : DefOk nm K mg Tb 32 := by
  obtain ⟨fd, F⟩ := c.def_ 32 rfl
  exact ⟨_, _, _, _, _, fd, N32, ["one", "other"], f32, rfl, F, He.glo_ok X G (c.fact 32 rfl), sc32, rfl, rfl, by decide, by decide, by decide, ok32, FunD.bindsN F fun _ _ _ _ _ _ us hl => match us, hl with | [_, _], _ => rfl⟩
theorem d33 : DefOk nm K mg Tb 33 := by
  obtain ⟨fd, F⟩ := c.def_ 33 rfl
  exact ⟨_, _, _, _, _, fd, N33, ["draws", "n"], f33, rfl, F, He.glo_ok X G (c.fact 33 rfl), sc33, rfl, rfl, by decide, by decide, by decide, ok33, FunD.bindsN F fun _ _ _ _ _ _ us hl => match us, hl with | [_, _], _ => rfl⟩
theorem d34 : DefOk nm K mg Tb 34 := by
  obtain ⟨fd, F⟩ := c.def_ 34 rfl
  exact ⟨_, _, _, _, _, fd, N34, [], f34, rfl, F, He.glo_ok X G (c.fact 34 rfl), sc34, rfl, rfl, by decide, by decide, by decide, ok34, FunD.bindsN F fun _ _ _ _ _ _ us hl => match us, hl with | [], _ => rfl⟩
theorem d35 : DefOk nm K mg Tb 35 := by
  obtain ⟨fd, F⟩ := c.def_ 35 rfl
  exact ⟨_, _, _, _, _, fd, N35, ["family", "k"], f35, rfl, F, He.glo_ok X G (c.fact 35 rfl), sc35, rfl, rfl, by decide, by decide, by decide, ok35, FunD.bindsN F fun _ _ _ _ _ _ us hl => match us, hl with | [_, _], _ => rfl⟩
theorem d36 : DefOk nm K mg Tb 36 := by
  obtain ⟨fd, F⟩ := c.def_ 36 rfl
  exact ⟨_, _, _, _, _, fd, N36, ["one", "other"], f36, rfl, F, He.glo_ok X G (c.fact 36 rfl), sc36, rfl, rfl, by decide, by decide, by decide, ok36, FunD.bindsN F fun _ _ _ _ _ _ us hl => match us, hl with | [_, _], _ => rfl⟩
theorem d37 : DefOk nm K mg Tb 37 := by
  obtain ⟨fd, F⟩ := c.def_ 37 rfl
  exact ⟨_, _, _, _, _, fd, N37, ["one", "other"], f37, rfl, F, He.glo_ok X G (c.fact 37 rfl), sc37, rfl, rfl, by decide, by decide, by decide, ok37, FunD.bindsN F fun _ _ _ _ _ _ us hl => match us, hl with | [_, _], _ => rfl⟩
theorem d38 : DefOk nm K mg Tb 38 := by
  obtain ⟨fd, F⟩ := c.def_ 38 rfl
  exact ⟨_, _, _, _, _, fd, N38, ["row"], f38, rfl, F, He.glo_ok X G (c.fact 38 rfl), sc38, rfl, rfl, by decide, by decide, by decide, ok38, FunD.bindsN F fun _ _ _ _ _ _ us hl => match us, hl with | [_], _ => rfl⟩
theorem d39 : DefOk nm K mg Tb 39 := by
  obtain ⟨fd, F⟩ := c.def_ 39 rfl
  exact ⟨_, _, _, _, _, fd, N39, ["draws", "row"], f39, rfl, F, He.glo_ok X G (c.fact 39 rfl), sc39, rfl, rfl, by decide, by decide, by decide, ok39, FunD.bindsN F fun _ _ _ _ _ _ us hl => match us, hl with | [_, _], _ => rfl⟩
theorem d40 : DefOk nm K mg Tb 40 := by
  obtain ⟨fd, F⟩ := c.def_ 40 rfl
  exact ⟨_, _, _, _, _, fd, N40, ["script"], f40, rfl, F, He.glo_ok X G (c.fact 40 rfl), sc40, rfl, rfl, by decide, by decide, by decide, ok40, FunD.bindsN F fun _ _ _ _ _ _ us hl => match us, hl with | [_], _ => rfl⟩
theorem defs_ok (f : Nat) (hf : fnB nm f = true) : DefOk nm K mg Tb f := by
  match f, hf with
  | 0, _ => exact d0 X G c
  | 1, _ => exact d1 X G c
  | 2, _ => exact d2 X G c
  | 3, _ => exact d3 X G c
  | 4, _ => exact d4 X G c
  | 5, _ => exact d5 X G c
  | 6, _ => exact d6 X G c
  | 7, _ => exact d7 X G c
  | 8, _ => exact d8 X G c
  | 9, _ => exact d9 X G c
  | 10, _ => exact d10 X G c
  | 11, _ => exact d11 X G c
  | 12, _ => exact d12 X G c
  | 13, _ => exact d13 X G c
  | 14, _ => exact d14 X G c
  | 15, _ => exact d15 X G c
  | 16, _ => exact d16 X G c
  | 17, _ => exact d17 X G c
  | 18, _ => exact d18 X G c
  | 19, _ => exact d19 X G c
  | 20, _ => exact d20 X G c
  | 21, _ => exact d21 X G c
  | 22, _ => exact d22 X G c
  | 23, _ => exact d23 X G c
  | 24, _ => exact d24 X G c
  | 25, _ => exact d25 X G c
  | 26, _ => exact d26 X G c
  | 27, _ => exact d27 X G c
  | 28, _ => exact d28 X G c
  | 29, _ => exact d29 X G c
  | 30, _ => exact d30 X G c
  | 31, _ => exact d31 X G c
  | 32, _ => exact d32 X G c
  | 33, _ => exact d33 X G c
  | 34, _ => exact d34 X G c
  | 35, _ => exact d35 X G c
  | 36, _ => exact d36 X G c
  | 37, _ => exact d37 X G c
  | 38, _ => exact d38 X G c
  | 39, _ => exact d39 X G c
  | 40, _ => exact d40 X G c
  | n + 41, hf =>
    exfalso
    unfold fnB at hf
    rw [Bool.and_eq_true] at hf
    have h1 : n + 41 < 1000 := of_decide_eq_true hf.1
    have h2 : nm (n + 41) = "" := by
      unfold nm
      rw [if_pos h1, List.getD_eq_getElem?_getD, List.getElem?_eq_none (by show names.length ≤ _; have : names.length = 41 := rfl; omega)]
      rfl
    rw [h2] at hf
    exact absurd hf.2 (by decide)
theorem blts_ok (x : Str) (hx : x ∈ bltNames) : mg x = none := by
  have h9 : ∀ y ∈ bltNames, He.Fa.ok K (.free y) = true := by
    intro y hy
    have hm : He.Fa.free y ∈ fcs := by
      have : ∀ z ∈ bltNames, (fcs.any fun f => match f with | .free w => decide (w = z) | _ => false) = true := by decide +kernel
      obtain ⟨f, h1, h2⟩ := List.any_eq_true.mp (this y hy)
      cases f <;> first | (cases h2; done) | skip
      have := of_decide_eq_true h2
      subst this
      exact h1
    exact List.all_eq_true.mp c.all.1.1 _ hm
  exact He.free_ok X G (h9 x hx)
theorem glob_ok (g : Nat) (d : D) (h9 : Γ g = some d) : ∃ v u, mg (nm g) = some u ∧ RelV v u ∧ ∀ F, Rp K (fun _ => none) F d v := by
  unfold Γ at h9
  split at h9
  · cases h9
    obtain ⟨t, e⟩ := He.int_ok X G (c.fact 58 rfl)
    exact ⟨.int 40, _, e, ⟨t, rfl⟩, fun F => by unfold Rp; rfl⟩
  · cases h9
    have t := fun F => He.tupB_ok (c.tup 0 rfl) F
    exact ⟨.ref _, _, He.glo_ok X G (c.fact 59 rfl), rfl, fun F => by unfold Rp; exact ⟨_, _, rfl, t F, Rps.strs_dv ["fill", "left", "right", "split"]⟩⟩
  · cases h9
end
def loose : List Str := (["RowError", "BadRow", "TooMany", "BadWord", "MOST_ENTRIES", "is_whole", "is_row", "need_row", "back", "turned", "inverse", "sum_of", "skew_of", "need_room", "beside", "under", "KINDS", "slots_from", "kind_at", "letter_of", "word_in", "word_of", "open_slots", "slots_behind"] : List Str) ++ (["is_letter", "is_word", "put_by", "row_by", "row_of_word", "_law_begun", "_law_blended", "_law_draw", "_law_pick", "_law_shuffled", "_law_is_truth", "_law_same", "_law_swapped", "_law_beside", "_law_under", "_law_dealt", "_law_ten_families", "_law_family_row", "_law_beside_word", "_law_under_word", "_law_back_word", "_law_exchange_right"] : List Str)
abbrev R : PySem.W.OpenRow := PySem.W.OpenLaw.row PySem.Challenge.rw_withinrows_k67_whole_words_put_together
abbrev hk : PySem.W.Hook := hookX 4 fcs dfs tups
def ob (s : PySem.W.SharedT) : He.AlD := obsXG 4 fcs dfs tups (HandSHeadRun.getT s)
theorem ob_eq (s : PySem.W.SharedT) : ob s = hk.obs s.abs := obsXG_eq (HandSHeadRun.getT_eq s)
theorem hrun (w : World) : HandSHeadRun.RunEq R (PySem.W.view R.prog [50]) hk ob 6000 loose w := by
  intro os
  kernel_rfl
end T
open PySem PySem.W PySem.Calls PyProof.Rows
theorem T.holds (fuel k : Nat) (hk2 : k ≤ 40) (hr : ∀ ns : List Int, ns.length ≤ 63 → Mn.run T.Tb T.Γ fuel (k + 1) 40 [.val (.scr (ns.map Mn.D.int))] = .ok (.val (.bl true)) []) : PySem.Challenge.rw_withinrows_k67_whole_words_put_together.Holds := by
  w_on; o_law
  refine HandSHeadRun.head_any (r := OpenLaw.row PySem.Challenge.rw_withinrows_k67_whole_words_put_together) (q := view (OpenLaw.row PySem.Challenge.rw_withinrows_k67_whole_words_put_together).prog [50]) (H := T.hk) (ob := T.ob) (M := 6000) (loose := T.loose)
    (d := HandSHeadRun.topDef (OpenLaw.row PySem.Challenge.rw_withinrows_k67_whole_words_put_together).prog 50) (kwd := []) T.ob_eq
    (by kernel_rfl) (fun s => by kernel_rfl) T.hrun (by kernel_rfl) (by kernel_rfl) (by kernel_rfl) (by rfl) (by first | assumption | decide +kernel) (by decide +kernel) ⟨rfl, rfl, rfl, rfl, rfl, by decide +kernel⟩ ?hw ?hc
  case hw => w_witness2
  case hc =>
    refine L2.walk_ofE (l := PySem.Challenge.rw_withinrows_k67_whole_words_put_together) (n := 63) (k := k + 1) (x := "script") (CX := L2.CX0) rfl (by decide) (by kernel_rfl) ⟨rfl, ?_, ?_⟩ ?F (fun _ _ _ _ z => z)
    · show callerA.depth + 3 * (k + 1) + 5 < recursionLimit
      have : callerA.depth + 3 * 41 + 5 < recursionLimit := by decide
      omega
    · show callerA.units + 16 * (k + 1) + 200 < cLine
      have : callerA.units + 16 * 41 + 200 < cLine := by decide
      omega
    intro w mg fa h Y G hmg0
    obtain ⟨K, KX, c⟩ := Y
    have hmg : mg ("law" : PySem.Str) = some (.ref fa) := by
      have e : (HandSHeadRun.topDef (OpenLaw.row PySem.Challenge.rw_withinrows_k67_whole_words_put_together).prog 50).name = ("law" : PySem.Str) := by kernel_rfl
      rw [← e]
      exact hmg0
    obtain ⟨fd, F⟩ := c.def_ 40 rfl
    have e := hmg.symm.trans (He.glo_ok KX G (c.fact 40 rfl))
    cases e
    have b := L2.FunD.bindsA (ps := ["script"]) F fun _ _ _ _ _ _ us hl => match us, hl with | [_], _ => rfl
    obtain ⟨fd2, sp, g1, g2, g3⟩ := Mn.law_end (P := (PySem.Challenge.rw_withinrows_k67_whole_words_put_together).prog) (w := w) (x := "script") (f := 40) (nm := T.nm) (h := h) (T.blts_ok KX G c) (T.glob_ok KX G c) (T.defs_ok KX G c) (by decide +kernel) hmg (fun _ _ _ => trivial)
      ⟨_, _, _, fd, T.N40, T.f40, rfl, rfl, rfl, F, T.sc40, rfl, by decide, T.ok40, fun s v => b s [v] rfl⟩ hr
    exact ⟨K, fd2, sp, KX, g1, g2, g3⟩
theorem PySem.Challenge.cw_withinrows_k67_whole_words_put_together_holds : PySem.Challenge.rw_withinrows_k67_whole_words_put_together.Holds := by
  exact T.holds 200000 5 (by decide) fun ns hn => Mn.t_law hn (by decide)
