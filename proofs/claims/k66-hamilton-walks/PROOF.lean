import PyProof.Rows.All
import Wide.All
import OpenK.AllK
import Wide.FinOn
import HandS.ForMost
import HandS.ForExc
import HandS.Flow
import HandS.IsInst
import HandS.Deep
import HandS.SortInts
import HandS.Wide
import HandS.WideBits
import HandS.CallSlots
import HandS.ExcInit
import HandS.TryMany
import HandS.TupAny
import HandS.Style
import HandS.Gcd
import HandS.Walk
import HandS.Keys
import HandS.Zip
import HandS.JoinGen
import HandS.Rev
import HandS.TupSets
import HandS.Conv
import HandS.ExcField
import HandS.Defaults
import HandS.Strs
import HandS.SetFor
import HandS.Head0
import HandS.Head1
import HandS.Head2
import HandS.HeadEnd
import HandS.HeadHook1
import HandS.HeadHook2
import PySem.Challenge.RW_groupbench_k66_hamilton_walks
section
set_option Elab.async false
set_option linter.all false
/-! GD: a small interpreter of a fragment of Python over plain data. No machine here. -/
namespace G
open PySem

/-- plain data -/
inductive D where
  | non
  | bl (b : Bool)
  | int (i : Int)
  | str (x : Str)
  | tup (xs : List D)
  | lst (xs : List D)
  | dct (tk : Bool) (ks vs : List D)
  | ref (k : Nat)
  | ins (c : Nat) (fs : List D)
  | scr (ns : List Int)
  deriving Inhabited

/-- the most items that a list is let have here -/
def big : Nat := 1000000

/-- Python's == on data without dicts and instances -/
def b2z (b : Bool) : Int := if b then 1 else 0
mutual
def eqb : D → D → Bool
  | .non, .non => true
  | .bl a, .bl b => a == b
  | .bl a, .int j => b2z a == j
  | .int i, .bl b => i == b2z b
  | .int i, .int j => i == j
  | .str x, .str y => x == y
  | .tup xs, .tup ys => eqbs xs ys
  | .lst xs, .lst ys => eqbs xs ys
  | _, _ => false
def eqbs : List D → List D → Bool
  | [], [] => true
  | x :: xs, y :: ys => eqb x y && eqbs xs ys
  | _, _ => false
end
mutual
/-- depth at most n, no dict, instance, ref within -/
def flat : Nat → D → Bool
  | _, .non => true
  | _, .bl _ => true
  | _, .int _ => true
  | _, .str _ => true
  | n + 1, .tup xs => flats n xs
  | n + 1, .lst xs => flats n xs
  | _, _ => false
def flats : Nat → List D → Bool
  | _, [] => true
  | n, x :: xs => flat n x && flats n xs
end

inductive Slot where
  | no
  | val (d : D)
  | own (d : D)
  | lock (d : D)
  deriving Inhabited

structure Z where
  env : List Slot
  hp : List D

inductive R (α : Type) where
  | ok (a : α) (z : Z)
  | exn (c : Nat) (ds : List D) (z : Z)
  | bad
def R.bind {α β : Type} (r : R α) (f : α → Z → R β) : R β :=
  match r with
  | .ok a z => f a z
  | .exn c ds z => .exn c ds z
  | .bad => .bad

/-- what a def answers -/
inductive RF where
  | ok (d : D) (hp : List D)
  | exn (c : Nat) (ds : List D) (hp : List D)
  | bad
abbrev Fn := List D → List D → RF
abbrev Pr := List D → List D → Option D

inductive Tg where
  | one (i : Nat)
  | tup (is : List Nat)

inductive E where
  | bad
  | lit (d : D)
  | var (i : Nat)
  | nil
  | cons (a r : E)
  | tupE (es : E)
  | lstE (es : E)
  | prim (f : Pr) (es : E)
  | call (f : Fn) (es : E)
  | chain (f g : Pr) (a b c : E)
  | and (a b : E)
  | or (a b : E)
  | not (a : E)
  | ite (c a b : E)
  | pop (i : Nat)
  | popAt (i : Nat) (e : E)
  | share (e : E)
  | keepD (i : Nat)
  | dctE (tk : Bool) (es : E)
  | wk (f : Pr) (es : E)
  | comp (tg : Tg) (it c e : E)
  | comp2 (tg : Tg) (it : E) (tg2 : Tg) (it2 c e : E)

/-- no own object of the frame is written -/
def E.np : E → Bool
  | .cons a r => a.np && r.np
  | .tupE es => es.np
  | .lstE es => es.np
  | .prim _ es => es.np
  | .call _ es => es.np
  | .chain _ _ a b c => a.np && b.np && c.np
  | .and a b => a.np && b.np
  | .or a b => a.np && b.np
  | .not a => a.np
  | .ite c a b => c.np && a.np && b.np
  | .pop _ => false
  | .popAt _ _ => false
  | .share e => e.np
  | .keepD _ => false
  | .dctE _ es => es.np
  | .wk _ es => es.np
  | .comp _ it _ _ => it.np
  | .comp2 _ it _ _ _ _ => it.np
  | _ => true

def view (hp : List D) : D → D
  | .ref k => hp.getD k .non
  | d => d
def truth (hp : List D) (d : D) : Option Bool :=
  match view hp d with
  | .non => some false
  | .bl b => some b
  | .int i => some (i != 0)
  | .str x => some ((x.length : Int) != 0)
  | .tup xs => some (!xs.isEmpty)
  | .lst xs => some (!xs.isEmpty)
  | _ => none
/-- what a walk over data meets -/
def items (dk : Bool) : D → Option (List D)
  | .tup xs => if xs.length ≤ big then some xs else none
  | .lst xs => if xs.length ≤ big then some xs else none
  | .dct _ ks _ => if dk && decide (ks.length ≤ big) then some ks else none
  | _ => none
/-- a name that may be a dict -/
def E.dk : E → Bool
  | .keepD _ => true
  | _ => false
/-- what may be a key -/
def keyOf : D → Option (Sum Int Str)
  | .int i => some (.inl i)
  | .str x => some (.inr x)
  | _ => none
def keysOf : List D → Option (List (Sum Int Str))
  | [] => some []
  | d :: ds => match keyOf d, keysOf ds with
    | some k, some r => some (k :: r)
    | _, _ => none
def isKey (tk : Bool) (d : D) : Bool :=
  match tk, d with
  | true, .tup xs => (keysOf xs).isSome
  | false, d => (keyOf d).isSome
  | _, _ => false
def dGet : List D → List D → D → Option D
  | k :: ks, v :: vs, x => if eqb k x then some v else dGet ks vs x
  | _, _, _ => none
def dPut (ks vs : List D) (x y : D) : List D × List D :=
  if ks.any (fun k => eqb k x) then (ks, (ks.zip vs).map fun p => if eqb p.1 x then y else p.2) else (ks ++ [x], vs ++ [y])
def dMany (tk : Bool) : List D → List D → List D → Option (List D × List D)
  | [], ks, vs => some (ks, vs)
  | [_], _, _ => none
  | k :: v :: r, ks, vs => if isKey tk k then dMany tk r (dPut ks vs k v).1 (dPut ks vs k v).2 else none
def setMany : List Nat → List D → List Slot → List Slot
  | i :: is, d :: ds, env => setMany is ds (env.set i (.val d))
  | _, _, env => env
def setTg (t : Tg) (d : D) (env : List Slot) : Option (List Slot) :=
  match t with
  | .one i => some (env.set i (.val d))
  | .tup is => match d with
    | .tup xs => if xs.length = is.length then some (setMany is xs env) else none
    | _ => none
def Slot.locked : Slot → Slot
  | .own d => .lock d
  | s => s
def lockE (env : List Slot) : List Slot := env.map Slot.locked
def compL (f : D → List D → Option (List D × List D)) : List D → List D → Option (List D × List D)
  | [], hp => some ([], hp)
  | x :: xs, hp => match f x hp with
    | none => none
    | some (o, hp1) => match compL f xs hp1 with
      | none => none
      | some (ys, hp2) => some (o ++ ys, hp2)

def Tg.ix : Tg → List Nat
  | .one i => [i]
  | .tup is => is
/-- no slot of these is an own object -/
def freeTg (is : List Nat) (env : List Slot) : Bool := is.all fun i => match env.getD i .no with
  | .own _ => false
  | .lock _ => false
  | _ => true
def wipeE (env : List Slot) : List Nat → List Slot
  | [] => env
  | i :: is => (wipeE env is).set i .no
/-- a turn of a comprehension: target, test, element -/
def body1 (tg : Tg) (ec ee : Z → R (List D)) (env : List Slot) (x : D) (hp : List D) : Option (List D × List D) :=
  match setTg tg x env with
  | none => none
  | some env2 => match ec ⟨env2, hp⟩ with
    | .ok b z2 => match truth z2.hp (b.headD .non) with
      | some true => match ee z2 with
        | .ok y z3 => some (y, z3.hp)
        | _ => none
      | some false => some ([], z2.hp)
      | none => none
    | _ => none
def body2 (dk : Bool) (tg : Tg) (ei : Z → R (List D)) (f : List Slot → D → List D → Option (List D × List D)) (env : List Slot) (x : D) (hp : List D) : Option (List D × List D) :=
  match setTg tg x env with
  | none => none
  | some env2 => match ei ⟨env2, hp⟩ with
    | .ok d z2 => match items dk (d.headD .non) with
      | none => none
      | some xs => compL (f env2) xs z2.hp
    | _ => none

/-- an int index into a list of so many -/
def ixOf (n : Nat) (i : Int) : Option Nat := if 0 ≤ i then (if i < n then some i.toNat else none) else if -(n : Int) ≤ i then some (i + n).toNat else none

def evE : Bool → E → Z → R (List D)
  | _, .bad, _ => .bad
  | _, .lit d, z => .ok [d] z
  | pk, .var i, z => match z.env.getD i .no with
    | .no => .bad
    | .val d => .ok [d] z
    | .own d => if pk then (match d with
      | .ins _ _ => .bad
      | d => .ok [d] z) else (match d with
      | .lst _ => .ok [d] { z with env := z.env.set i (.val d) }
      | _ => .bad)
    | .lock d => if pk then (match d with
      | .ins _ _ => .bad
      | d => .ok [d] z) else .bad
  | _, .nil, z => .ok [] z
  | pk, .cons a r, z => (evE (pk && r.np) a z).bind fun x z1 => (evE pk r z1).bind fun xs z2 => .ok (x ++ xs) z2
  | _, .tupE es, z => (evE false es z).bind fun xs z1 => if xs.length ≤ big then .ok [.tup xs] z1 else .bad
  | _, .lstE es, z => (evE false es z).bind fun xs z1 => if xs.length ≤ big then .ok [.lst xs] z1 else .bad
  | _, .prim f es, z => (evE true es z).bind fun xs z1 => match f z1.hp xs with
    | some d => .ok [d] z1
    | none => .bad
  | pk, .wk f es, z => (evE pk es z).bind fun xs z1 => match f z1.hp xs with
    | some d => .ok [d] z1
    | none => .bad
  | _, .call f es, z => (evE false es z).bind fun xs z1 => match f xs z1.hp with
    | .ok d hp => .ok [d] { z1 with hp := hp }
    | .exn c ds hp => .exn c ds { z1 with hp := hp }
    | .bad => .bad
  | _, .chain f g a b c, z => (evE (b.np && c.np) a z).bind fun x z1 => (evE c.np b z1).bind fun y z2 => match f z2.hp (x ++ y) with
    | some (.bl true) => (evE true c z2).bind fun w z3 => match g z3.hp (y ++ w) with
      | some (.bl r) => .ok [.bl r] z3
      | _ => .bad
    | some (.bl false) => .ok [.bl false] z2
    | _ => .bad
  | pk, .and a b, z => (evE (pk && b.np) a z).bind fun x z1 => match truth z1.hp (x.headD .non) with
    | some true => evE pk b z1
    | some false => .ok x z1
    | none => .bad
  | pk, .or a b, z => (evE (pk && b.np) a z).bind fun x z1 => match truth z1.hp (x.headD .non) with
    | some true => .ok x z1
    | some false => evE pk b z1
    | none => .bad
  | _, .not a, z => (evE true a z).bind fun x z1 => match truth z1.hp (x.headD .non) with
    | some b => .ok [.bl (!b)] z1
    | none => .bad
  | pk, .ite c a b, z => (evE true c z).bind fun x z1 => match truth z1.hp (x.headD .non) with
    | some true => evE pk a z1
    | some false => evE pk b z1
    | none => .bad
  | _, .pop i, z => match z.env.getD i .no with
    | .own (.lst xs) => match xs.getLast? with
      | some d => .ok [d] { z with env := z.env.set i (.own (.lst xs.dropLast)) }
      | none => .bad
    | _ => .bad
  | _, .popAt i e, z => match z.env.getD i .no with
    | .own (.lst _) => (evE true e z).bind fun k z1 => match z1.env.getD i .no, k with
      | .own (.lst xs), [.int j] => if xs.length ≤ big then (match ixOf xs.length j with
        | some n => .ok [xs.getD n .non] { z1 with env := z1.env.set i (.own (.lst (xs.eraseIdx n))) }
        | none => .bad) else .bad
      | _, _ => .bad
    | _ => .bad
  | _, .keepD i, z => match z.env.getD i .no with
    | .val d => .ok [d] z
    | .own d => (match d with
      | .dct _ _ _ => .ok [d] { z with env := z.env.set i (.val d) }
      | _ => .bad)
    | _ => .bad
  | _, .dctE tk es, z => (evE false es z).bind fun xs z1 => if xs.length ≤ 30 then (match dMany tk xs [] [] with
    | some p => .ok [.dct tk p.1 p.2] z1
    | none => .bad) else .bad
  | _, .share e, z => (evE false e z).bind fun xs z1 => match xs with
    | [d] => .ok [.ref z1.hp.length] { z1 with hp := z1.hp ++ [d] }
    | _ => .bad
  | _, .comp tg it c e, z => (evE true it z).bind fun d z1 => match items it.dk (d.headD .non) with
    | none => .bad
    | some xs => if freeTg tg.ix z1.env then (match compL (body1 tg (evE true c) (evE false e) (wipeE (lockE z1.env) tg.ix)) xs z1.hp with
      | some (ys, hp) => .ok [.lst ys] { z1 with hp := hp }
      | none => .bad) else .bad
  | _, .comp2 tg it tg2 it2 c e, z => (evE true it z).bind fun d z1 => match items it.dk (d.headD .non) with
    | none => .bad
    | some xs => if freeTg (tg.ix ++ tg2.ix) z1.env then (match compL (body2 it2.dk tg (evE true it2) (body1 tg2 (evE true c) (evE false e)) (wipeE (lockE z1.env) (tg.ix ++ tg2.ix))) xs z1.hp with
      | some (ys, hp) => if ys.length ≤ big then .ok [.lst ys] { z1 with hp := hp } else .bad
      | none => .bad) else .bad

/-- what a handler may hand back -/
inductive HI where
  | lit (d : D)
  | fld (k : Nat)
/-- handlers of a try: the classes that are caught (by number), what is returned: none | a list -/
inductive Hd where
  | nil
  | cons (cs : Nat → Option Bool) (r : Option (List HI)) (rest : Hd)

inductive S where
  | bad
  | skip
  | seq (a b : S)
  | set (t : Tg) (e : E)
  | own (i : Nat) (e : E)
  | par (l : List (Nat × Bool × E))
  | expr (e : E)
  | ret (e : E)
  | retN
  | ite (c : E) (a b : S)
  | for (t : Tg) (it : E) (b : S)
  | while (c : E) (b : S)
  | app (i : Nat) (e : E)
  | ext (i : Nat) (e : E)
  | setIx (i : Nat) (k e : E)
  | putD (i : Nat) (k e : E)
  | refIx (o k e : E)
  | fld (i c k : Nat) (e : E)
  | aug (i : Nat) (f : List D → List D → Option D) (e : E)
  | augIx (i : Nat) (k : E) (f : List D → List D → Option D) (e : E)
  | raise (c n : Nat) (es : E)
  | brk
  | cont
  | tryS (b : S) (h : Hd)

inductive O where
  | next (z : Z)
  | ret (d : D) (z : Z)
  | brk (z : Z)
  | cont (z : Z)
  | exn (c : Nat) (ds : List D) (z : Z)
  | bad

def R.to (r : R (List D)) (f : D → Z → O) : O :=
  match r with
  | .ok a z => f (a.headD .non) z
  | .exn c ds z => .exn c ds z
  | .bad => .bad
/-- a new top-level object that may be owned -/
def ownable : D → Bool
  | .lst _ => true
  | .dct _ _ _ => true
  | _ => false
def noLock (env : List Slot) : Bool := env.all fun s => match s with
  | .lock _ => false
  | _ => true
/-- the values from the left, then stored (slots apart) -/
def parL (ev : Bool → E → Z → R (List D)) : List (Nat × Bool × E) → Z → O
  | [], z => .next z
  | (i, b, e) :: r, z => (ev false e z).to fun d z1 => match parL ev r z1 with
    | .next z2 => (match !b || (ownable d && noLock z2.env) with
      | true => .next { z2 with env := z2.env.set i (if b then .own d else .val d) }
      | false => .bad)
    | .exn c ds z2 => .exn c ds z2
    | _ => .bad
def forL (f : D → Z → O) : List D → Z → O
  | [], z => .next z
  | x :: xs, z => match f x z with
    | .next z1 => forL f xs z1
    | .cont z1 => forL f xs z1
    | .brk z1 => .next z1
    | .ret d z1 => .ret d z1
    | .exn c ds z1 => .exn c ds z1
    | .bad => .bad
def whileL (c : Z → R Bool) (b : Z → O) : Nat → Z → O
  | 0, _ => .bad
  | n + 1, z => match c z with
    | .bad => .bad
    | .exn k ds z1 => .exn k ds z1
    | .ok false z1 => .next z1
    | .ok true z1 => match b z1 with
      | .next z2 => whileL c b n z2
      | .cont z2 => whileL c b n z2
      | .brk z2 => .next z2
      | .ret d z2 => .ret d z2
      | .exn k ds z2 => .exn k ds z2
      | .bad => .bad
def fuel : Nat := 1000000000000
def evT (c : E) (z : Z) : R Bool := (evE true c z).bind fun x z1 => match truth z1.hp (x.headD .non) with
  | some b => .ok b z1
  | none => .bad
def HI.ev (ds : List D) : HI → D
  | .lit d => d
  | .fld k => ds.getD k .non
def Hd.ev (c : Nat) (ds : List D) (z : Z) : Hd → O
  | .nil => .exn c ds z
  | .cons cs r rest => match cs c with
    | none => .bad
    | some true => (match r with
      | none => .ret .non z
      | some is => .ret (.lst (is.map (HI.ev ds))) z)
    | some false => rest.ev c ds z
def cellSet (c : D) (k : D) (v : D) : Option D :=
  match c, k with
  | .lst xs, .int j => match ixOf xs.length j with
    | some n => some (.lst (xs.set n v))
    | none => none
  | _, _ => none

def evS : S → Z → O
  | .bad, _ => .bad
  | .skip, z => .next z
  | .seq a b, z => match evS a z with
    | .next z1 => evS b z1
    | .ret d z1 => .ret d z1
    | .brk z1 => .brk z1
    | .cont z1 => .cont z1
    | .exn c ds z1 => .exn c ds z1
    | .bad => .bad
  | .set t e, z => (evE false e z).to fun d z1 => match setTg t d z1.env with
    | some env => .next { z1 with env := env }
    | none => .bad
  | .own i e, z => (evE false e z).to fun d z1 => if ownable d then .next { z1 with env := z1.env.set i (.own d) } else .bad
  | .par l, z => parL evE l z
  | .expr e, z => (evE false e z).to fun _ z1 => .next z1
  | .ret e, z => (evE false e z).to fun d z1 => .ret d z1
  | .retN, z => .ret .non z
  | .ite c a b, z => match evT c z with
    | .ok true z1 => evS a z1
    | .ok false z1 => evS b z1
    | .exn k ds z1 => .exn k ds z1
    | .bad => .bad
  | .for t it b, z => (evE false it z).to fun d z1 => match items it.dk d with
    | none => .bad
    | some xs => forL (fun x z2 => match setTg t x z2.env with
      | some env => evS b { z2 with env := env }
      | none => .bad) xs z1
  | .while c b, z => whileL (evT c) (evS b) fuel z
  | .app i e, z => match z.env.getD i .no with
    | .own (.lst _) => (evE false e z).to fun d z1 => match z1.env.getD i .no with
      | .own (.lst xs) => if xs.length < big then .next { z1 with env := z1.env.set i (.own (.lst (xs ++ [d]))) } else .bad
      | _ => .bad
    | _ => .bad
  | .ext i e, z => match z.env.getD i .no with
    | .own (.lst _) => (evE false e z).to fun d z1 => match z1.env.getD i .no, d with
      | .own (.lst xs), .lst ys => if xs.length + ys.length ≤ big then .next { z1 with env := z1.env.set i (.own (.lst (xs ++ ys))) } else .bad
      | _, _ => .bad
    | _ => .bad
  | .setIx i k e, z => (evE false e z).to fun d z1 => match z1.env.getD i .no with
    | .own _ => (evE true k z1).to fun j z2 => match z2.env.getD i .no with
      | .own c => match cellSet c j d with
        | some c2 => .next { z2 with env := z2.env.set i (.own c2) }
        | none => .bad
      | _ => .bad
    | _ => .bad
  | .putD i k e, z => (evE false e z).to fun d z1 => match z1.env.getD i .no with
    | .own _ => (evE true k z1).to fun j z2 => match z2.env.getD i .no with
      | .own (.dct tk ks vs) => (match isKey tk j && decide (ks.length < big) with
        | true => .next { z2 with env := z2.env.set i (.own (.dct tk (dPut ks vs j d).1 (dPut ks vs j d).2)) }
        | false => .bad)
      | _ => .bad
    | _ => .bad
  | .fld i c k e, z => (evE false e z).to fun d z1 => match z1.env.getD i .no with
    | .val (.ref j) => (match z1.hp[j]? with
      | some (.ins c' fs) => (match fs.length == k && c' == c with
        | true => .next { z1 with hp := z1.hp.set j (.ins c' (fs ++ [d])) }
        | false => .bad)
      | _ => .bad)
    | _ => .bad
  | .refIx o k e, z => (evE false e z).to fun d z1 => (evE false o z1).to fun r z2 => (evE true k z2).to fun j z3 => match r with
    | .ref n => match z3.hp[n]? with
      | some c => match cellSet c j d with
        | some c2 => .next { z3 with hp := z3.hp.set n c2 }
        | none => .bad
      | none => .bad
    | _ => .bad
  | .aug i f e, z => match z.env.getD i .no with
    | .val x => (evE false e z).to fun y z1 => match f z1.hp [x, y] with
      | some d => .next { z1 with env := z1.env.set i (.val d) }
      | none => .bad
    | _ => .bad
  | .augIx i k f e, z => match z.env.getD i .no with
    | .own (.lst xs) => (evE true k z).to fun j z1 => match j with
      | .int n => match ixOf xs.length n with
        | some n' => (evE false e z1).to fun y z2 => match f z2.hp [xs.getD n' .non, y] with
          | some d => match z2.env.getD i .no with
            | .own (.lst ys) => match ixOf ys.length n with
              | some n'' => .next { z2 with env := z2.env.set i (.own (.lst (ys.set n'' d))) }
              | none => .bad
            | _ => .bad
          | none => .bad
        | none => .bad
      | _ => .bad
    | _ => .bad
  | .raise c n es, z => match evE false es z with
    | .ok ds z1 => (match ds.length == n with
      | true => .exn c ds z1
      | false => .bad)
    | .exn k ds z1 => .exn k ds z1
    | .bad => .bad
  | .brk, z => .brk z
  | .cont, z => .cont z
  | .tryS b h, z => match evS b z with
    | .exn c ds z1 => h.ev c ds z1
    | o => o

/-- a def: so many slots in all, its body -/
def evF (n : Nat) (b : S) : Fn := fun ds hp => match evS b ⟨(ds.map Slot.val) ++ List.replicate (n - ds.length) Slot.no, hp⟩ with
  | .ret d z => .ok d z.hp
  | .next z => .ok .non z.hp
  | .exn c ds z => .exn c ds z.hp
  | _ => .bad

mutual
/-- no cell beyond the first n is named -/
def noRef (n : Nat) : D → Bool
  | .ref k => decide (k < n)
  | .tup xs => noRefs n xs
  | .lst xs => noRefs n xs
  | .dct _ _ ws => noRefs n ws
  | .ins _ fs => noRefs n fs
  | _ => true
def noRefs (n : Nat) : List D → Bool
  | [] => true
  | d :: ds => noRef n d && noRefs n ds
end
mutual
/-- the cells beyond the first n become plain data -/
def unsh (n : Nat) (hp : List D) : D → Option D
  | .ref k => if k < n then some (.ref k) else (match hp[k]? with
    | some (.lst xs) => if noRefs n xs then some (.lst xs) else none
    | some (.ins c fs) => if noRefs n fs then some (.ins c fs) else none
    | _ => none)
  | .tup xs => (unshs n hp xs).map D.tup
  | .lst xs => (unshs n hp xs).map D.lst
  | .dct tk ks ws => if noRefs n ws then some (.dct tk ks ws) else none
  | .ins c fs => if noRefs n fs then some (.ins c fs) else none
  | d => some d
def unshs (n : Nat) (hp : List D) : List D → Option (List D)
  | [] => some []
  | d :: ds => match unsh n hp d, unshs n hp ds with
    | some x, some r => some (x :: r)
    | _, _ => none
end
/-- the end of a def whose own cells are let go -/
def endU (n : Nat) (f : RF) : RF := match f with
  | .ok d hp => if noRefs n (hp.take n) then (match unsh n hp d with
    | some d' => .ok d' (hp.take n)
    | none => .bad) else .bad
  | .exn c ds hp => if noRefs n (hp.take n) && noRefs n ds then .exn c ds (hp.take n) else .bad
  | .bad => .bad
/-- a def that makes cells of its own and lets them go -/
def evU (m : Nat) (b : S) : Fn := fun ds hp => endU hp.length (evF m b ds hp)
/-- an __init__ of class c with n fields: the new instance is a cell while it runs -/
def evI (c n m : Nat) (b : S) : Fn := fun ds hp => match endU hp.length (match evS b ⟨(.val (.ref hp.length)) :: (ds.map Slot.val ++ List.replicate (m - ds.length) Slot.no), hp ++ [.ins c []]⟩ with
    | .next z => .ok (.ref hp.length) z.hp
    | .exn c ds z => .exn c ds z.hp
    | _ => .bad) with
  | .ok (.ins c' fs) hp' => if c' = c ∧ fs.length = n then .ok (.ins c fs) hp' else .bad
  | .exn c ds hp => .exn c ds hp
  | _ => .bad

end G
end
section
set_option Elab.async false
set_option linter.all false
/-! GP: the primitives of the interpreter. -/
namespace G
open PySem

def mulOk (i j : Int) : Bool := decide (i.natAbs.log2 + j.natAbs.log2 < 1000000)
def divOk (j : Int) : Bool := decide (j.natAbs.log2 < 9000)
def powOk (i j : Int) : Bool := decide (0 ≤ j) && decide (j ≤ 1000000) && decide (i.natAbs < 2 ^ 64)

def pAdd : Pr
  | _, [.int i, .int j] => some (.int (i + j))
  | _, [.lst xs, .lst ys] => if xs.length + ys.length ≤ big then some (.lst (xs ++ ys)) else none
  | _, [.tup xs, .tup ys] => if xs.length + ys.length ≤ big then some (.tup (xs ++ ys)) else none
  | _, [.str x, .str y] => if x.length + y.length ≤ big then some (.str (x ++ y)) else none
  | _, _ => none
def pSub : Pr
  | _, [.int i, .int j] => some (.int (i - j))
  | _, _ => none
def pMul : Pr
  | _, [.int i, .int j] => if mulOk i j then some (.int (i * j)) else none
  | _, [.lst xs, .int k] => if decide (-(2 ^ 62) ≤ k) && decide (k < 2 ^ 62) && decide (xs.length * k.toNat ≤ big) then some (.lst (List.replicate k.toNat xs).flatten) else none
  | _, _ => none
/-- a list so many times -/
def pRep : Pr
  | _, [.lst xs, .int k] => if decide (-(2 ^ 62) ≤ k) && decide (k < 2 ^ 62) && decide (xs.length * k.toNat ≤ big) then some (.lst (List.replicate k.toNat xs).flatten) else none
  | _, _ => none
def pDiv : Pr
  | _, [.int i, .int j] => if 0 < j then (if divOk j then some (.int (i / j)) else none) else none
  | _, _ => none
def pMod : Pr
  | _, [.int i, .int j] => if 0 < j then some (.int (i % j)) else none
  | _, _ => none
def pPow : Pr
  | _, [.int i, .int j] => if powOk i j then some (.int (i ^ j.toNat)) else none
  | _, _ => none
def pShl : Pr
  | _, [.int i, .int j] => if powOk i j then some (.int (i * 2 ^ j.toNat)) else none
  | _, _ => none
def pShr : Pr
  | _, [.int i, .int j] => if 0 ≤ j then some (.int (i / 2 ^ j.toNat)) else none
  | _, _ => none
def pAnd : Pr
  | _, [.int i, .int j] => some (.int (Builtin.bitAnd i j))
  | _, _ => none
def pOr : Pr
  | _, [.int i, .int j] => some (.int (Builtin.bitOr i j))
  | _, _ => none
def pNeg : Pr
  | _, [.int i] => some (.int (-i))
  | _, _ => none
/-- ==: scalars of any kind, else data of a bounded depth -/
def isSc : D → Bool
  | .non => true
  | .bl _ => true
  | .int _ => true
  | .str _ => true
  | _ => false
def pEq : Pr
  | _, [x, y] => if flat 50 x && flat 50 y then some (.bl (eqb x y)) else none
  | _, _ => none
def pNe : Pr
  | _, [x, y] => if flat 50 x && flat 50 y then some (.bl (!eqb x y)) else none
  | _, _ => none
def pLt : Pr
  | _, [.int i, .int j] => some (.bl (decide (i < j)))
  | _, _ => none
def pLe : Pr
  | _, [.int i, .int j] => some (.bl (decide (i ≤ j)))
  | _, _ => none
def pGt : Pr
  | _, [.int i, .int j] => some (.bl (decide (j < i)))
  | _, _ => none
def pGe : Pr
  | _, [.int i, .int j] => some (.bl (decide (j ≤ i)))
  | _, _ => none
def isN : D → Bool
  | .non => true
  | _ => false
def pIs : Pr
  | _, [x, .non] => some (.bl (isN x))
  | _, [.bl a, .bl b] => some (.bl (decide (a = b)))
  | _, _ => none
def pIsNot : Pr
  | _, [x, .non] => some (.bl (!isN x))
  | _, [.bl a, .bl b] => some (.bl (!decide (a = b)))
  | _, _ => none
def pIn : Pr
  | _, [x, .lst ys] => if flat 50 x && flats 50 ys then some (.bl (ys.any fun y => eqb y x)) else none
  | _, [x, .tup ys] => if isSc x && ys.all isSc then some (.bl (ys.any fun y => eqb y x)) else none
  | _, _ => none
def pNotIn : Pr
  | _, [x, .lst ys] => if flat 50 x && flats 50 ys then some (.bl (!ys.any fun y => eqb y x)) else none
  | _, [x, .tup ys] => if isSc x && ys.all isSc then some (.bl (!ys.any fun y => eqb y x)) else none
  | _, _ => none
def ixD (x : D) (i : Int) : Option D :=
  match x with
  | .lst xs => match ixOf xs.length i with
    | some n => xs[n]?
    | none => none
  | .tup xs => match ixOf xs.length i with
    | some n => xs[n]?
    | none => none
  | .scr ns => match ixOf ns.length i with
    | some n => (ns[n]?).map D.int
    | none => none
  | .str x => match ixOf x.cps.toList.length i with
    | some n => (x.cps.toList[n]?).map fun c => D.str ⟨#[c]⟩
    | none => none
  | _ => none
def pIx : Pr
  | hp, [x, .int i] => ixD (view hp x) i
  | _, _ => none
/-- a slice; b, c: are the bounds there -/
def partD : Bool → D → Option (Option Int)
  | false, .non => some none
  | true, .int i => some (some i)
  | _, _ => none
def cutL {α : Type} (xs : List α) (lo hi : Option Int) : List α := (xs.drop (HT.sIx xs.length 0 lo)).take (HT.sIx xs.length xs.length hi - HT.sIx xs.length 0 lo)
def pCut (b c : Bool) : Pr
  | _, [x, l, h] => match partD b l, partD c h with
    | some lo, some hi => (match x with
      | .lst xs => some (.lst (cutL xs lo hi))
      | .tup xs => some (.tup (cutL xs lo hi))
      | .scr ns => some (.lst ((cutL ns lo hi).map D.int))
      | .str x => if x.length ≤ big then some (.str (L2.cutS x lo hi)) else none
      | _ => none)
    | _, _ => none
  | _, _ => none
/-- of dicts -/
def pDIx : Pr
  | _, [.dct tk ks vs, x] => if isKey tk x then dGet ks vs x else none
  | _, _ => none
def pDIn : Pr
  | _, [x, .dct tk ks vs] => if isKey tk x then some (.bl (dGet ks vs x).isSome) else none
  | _, _ => none
def pDNotIn : Pr
  | _, [x, .dct tk ks vs] => if isKey tk x then some (.bl (!(dGet ks vs x).isSome)) else none
  | _, _ => none
def lenD : D → Option Nat
  | .lst xs => some xs.length
  | .tup xs => some xs.length
  | .str x => some x.length
  | .scr ns => some ns.length
  | _ => none
/-- an int, else nothing -/
def pI : Pr
  | _, [.int i] => some (.int i)
  | _, _ => none
def pLen : Pr
  | hp, [x] => (lenD (view hp x)).map fun (n : Nat) => D.int (n : Int)
  | _, _ => none
def pAbs : Pr
  | _, [.int i] => some (.int (if i < 0 then -i else i))
  | _, _ => none
def pInt : Pr
  | _, [.int i] => some (.int i)
  | _, [.bl b] => some (.int (b2z b))
  | _, _ => none
def pList : Pr
  | _, [.lst xs] => some (.lst xs)
  | _, [.tup xs] => some (.lst xs)
  | _, _ => none
def pTuple : Pr
  | _, [.lst xs] => some (.tup xs)
  | _, [.tup xs] => some (.tup xs)
  | _, _ => none
def intsD : List D → Option (List Int)
  | [] => some []
  | .int i :: r => (intsD r).map fun l => i :: l
  | _ :: _ => none
def boolsD : List D → Option (List Bool)
  | [] => some []
  | .bl i :: r => (boolsD r).map fun l => i :: l
  | _ :: _ => none
def pSum : Pr
  | _, [.lst xs] => (intsD xs).map fun l => .int l.sum
  | _, _ => none
def pAll : Pr
  | _, [.lst xs] => (boolsD xs).map fun l => .bl (l.all id)
  | _, _ => none
def pAny : Pr
  | _, [.lst xs] => (boolsD xs).map fun l => .bl (l.any id)
  | _, _ => none
def pMin2 : Pr
  | _, [.int i, .int j] => some (.int (if j < i then j else i))
  | _, _ => none
def pMax2 : Pr
  | _, [.int i, .int j] => some (.int (if j > i then j else i))
  | _, _ => none
/-- the classes that isinstance asks for -/
inductive Kd where
  | int | bool | tuple | list | str | dict | ins (c : Nat)
  deriving DecidableEq
def isKd (d : D) : Kd → Bool
  | .int => match d with
    | .int _ => true
    | .bl _ => true
    | _ => false
  | .bool => match d with
    | .bl _ => true
    | _ => false
  | .tuple => match d with
    | .tup _ => true
    | _ => false
  | .list => match d with
    | .lst _ => true
    | .scr _ => true
    | _ => false
  | .str => match d with
    | .str _ => true
    | _ => false
  | .dict => match d with
    | .dct _ _ _ => true
    | _ => false
  | .ins c => match d with
    | .ins e _ => c == e
    | _ => false
def pIsi (nc : Nat) (ks : List Kd) : Pr
  | _, [x] => match x with
    | .ref _ => none
    | .scr _ => none
    | .dct true _ _ => none
    | .ins c _ => if c < nc then some (.bl (ks.any (isKd x))) else none
    | x => some (.bl (ks.any (isKd x)))
  | _, _ => none
def pAttr (c k : Nat) : Pr
  | _, [.ins e fs] => if c = e then fs[k]? else none
  | _, _ => none
/-- an instance of that class, else nothing -/
def pInst (c : Nat) : Pr
  | _, [.ins e fs] => if c = e then some (.ins e fs) else none
  | _, _ => none
/-- the items from behind -/
def pRev : Pr
  | _, [.lst xs] => some (.lst xs.reverse)
  | _, _ => none
/-- ascending by a key -/
def insK {α : Type} (key : α → Int) (a : α) : List α → List α
  | [] => [a]
  | b :: r => if key a ≤ key b then a :: b :: r else b :: insK key a r
def sortK {α : Type} (key : α → Int) : List α → List α
  | [] => []
  | a :: r => insK key a (sortK key r)
def pSortI : Pr
  | _, [.lst xs] => (intsD xs).map fun l => .lst ((sortK id l).map D.int)
  | _, _ => none
/-- tuples of ints, by the number that they are to the base 64 -/
def tupIs (d : Nat) : D → Option (List Int)
  | .tup xs => match intsD xs with
    | some l => if l.length = d ∧ l.all (fun i => decide (0 ≤ i) && decide (i < 64)) then some l else none
    | none => none
  | _ => none
def tupsD (d : Nat) : List D → Option (List (List Int))
  | [] => some []
  | x :: r => match tupIs d x, tupsD d r with
    | some l, some ls => some (l :: ls)
    | _, _ => none
def pSortT (d : Nat) : Pr
  | _, [.lst xs] => if 1 ≤ d ∧ xs.length < 64 then (tupsD d xs).map fun ls => .lst ((sortK (TS.code 64) ls).map fun l => .tup (l.map D.int)) else none
  | _, _ => none
/-- a list, else nothing -/
def pLst : Pr
  | _, [.lst xs] => some (.lst xs)
  | _, _ => none
/-- where it stands first -/
def pIndex : Pr
  | _, [.lst ys, x] => if flat 50 x && flats 49 ys then (ys.findIdx? fun y => eqb y x).map fun (n : Nat) => D.int (n : Int) else none
  | _, _ => none
/-- what only a walk takes -/
def pRange1 : Pr
  | _, [.int j] => if decide (-(2 ^ 62) ≤ j) && decide (j ≤ (big : Int)) then some (.lst ((List.range j.toNat).map fun (k : Nat) => D.int k)) else none
  | _, _ => none
def pRange2 : Pr
  | _, [.int i, .int j] => if decide (-(2 ^ 62) ≤ i) && decide (i < 2 ^ 62) && decide (-(2 ^ 62) ≤ j) && decide (j < 2 ^ 62) && decide (j - i ≤ (big : Int)) then some (.lst ((List.range (j - i).toNat).map fun (k : Nat) => D.int (i + k))) else none
  | _, _ => none
def seqOf : D → Option (List D)
  | .lst xs => some xs
  | .tup xs => some xs
  | _ => none
def pEnum : Pr
  | _, [.lst xs] => some <| .lst ((List.range xs.length).zipWith (fun (i : Nat) d => D.tup [.int i, d]) xs)
  | _, _ => none
def pZip : Pr
  | _, [.lst xs, .lst ys] => some (.lst (xs.zipWith (fun a b => .tup [a, b]) ys))
  | _, [.tup xs, .tup ys] => some (.lst (xs.zipWith (fun a b => .tup [a, b]) ys))
  | _, _ => none

end G
end
section
set_option Elab.async false
set_option linter.all false
/-! GR: what plain data stands for in the machine's abstract heap. -/
namespace G
open PySem PySem.Spec PyProof.Rows L2

/-- a class of own instances: where it stands, its attributes in order -/
structure CI where
  C : Addr
  fs : List Str

def kD : L2.Key → D
  | .inl i => .int i
  | .inr x => .str x
def KeyFine : L2.Key → Prop
  | .inl _ => True
  | .inr x => PyData.strOk x = true ∧ x.length ≤ big
/-- a dict's keys and values stand in u -/
def DctAt (tk : Bool) (u : HO) (ks : List D) (vl : List V) : Prop :=
  match tk with
  | true => ∃ kl : List (List L2.Key), u = .dT (kl.zip vl) ∧ kl.length = vl.length ∧ (ks = kl.map fun k => .tup (k.map kD)) ∧ ∀ k ∈ kl, ∀ c ∈ k, KeyFine c
  | false => ∃ kl : List L2.Key, u = .dK (kl.zip vl) ∧ kl.length = vl.length ∧ ks = kl.map kD ∧ ∀ k ∈ kl, KeyFine k
theorem DctAt.mut {tk : Bool} {u : HO} {ks : List D} {vl : List V} (h : DctAt tk u ks vl) : Mut (some u) := by
  cases tk with
  | true =>
    obtain ⟨kl, rfl, _⟩ := h
    exact True.intro
  | false =>
    obtain ⟨kl, rfl, _⟩ := h
    exact True.intro
/-- the script: a locked list, or one of the written part -/
def ScrAt (K : PySem.W.Frag) (H : Hp) (a : Addr) (xs : List V) : Prop := (∃ o, H a = some (.frz o (.lst xs))) ∨
  ∃ (o : Obj) (its : Array Value) (n : Nat), K.lookup a = some o ∧ o.cls = .type "list" ∧ o.dict = none ∧ o.data = .seq its n ∧ its.size ≤ sizeLine ∧ Vals xs its.toList
theorem ScrAt.seq {K : PySem.W.Frag} {H : Hp} {a : Addr} {xs : List V} (h : ScrAt K H a xs) : SqL K H a xs := by
  rcases h with ⟨o, h⟩ | h
  · exact .inl (.inr ⟨o, h⟩)
  · exact .inr h
theorem ScrAt.mono {K : PySem.W.Frag} {H H' : Hp} {a : Addr} {xs : List V} (f : ∀ a o u, H a = some (.frz o u) → H' a = some (.frz o u)) (h : ScrAt K H a xs) : ScrAt K H' a xs := by
  rcases h with ⟨o, h⟩ | h
  · exact .inl ⟨o, f _ _ _ h⟩
  · exact .inr h
mutual
def Rep (K : PySem.W.Frag) (cl : Nat → CI) (Av : Addr → Prop) (m : List Addr) (H : Hp) : D → V → Prop
  | .non, v => v = .non
  | .bl b, v => v = .bl b
  | .int i, v => v = .int i
  | .str x, v => v = .str x ∧ PyData.strOk x = true ∧ x.length ≤ big
  | .tup xs, v => ∃ a vs, v = .ref a ∧ H a = some (.tup vs) ∧ Reps K cl Av m H xs vs
  | .lst xs, v => ∃ a vs, v = .ref a ∧ H a = some (.lst vs) ∧ ¬ Av a ∧ Reps K cl Av m H xs vs
  | .dct tk ks ws, v => ∃ a o u vl, v = .ref a ∧ H a = some (.frz o u) ∧ DctAt tk u ks vl ∧ Reps K cl Av m H ws vl
  | .ref k, v => ∃ a, m[k]? = some a ∧ v = .ref a
  | .ins c fs, v => ∃ a dx vs, v = .ref a ∧ H a = some (.ins (cl c).C dx ((cl c).fs.zip vs)) ∧ ¬ Av a ∧ Reps K cl Av m H fs vs
  | .scr ns, v => ∃ a, v = .ref a ∧ ScrAt K H a (ns.map V.int)
def Reps (K : PySem.W.Frag) (cl : Nat → CI) (Av : Addr → Prop) (m : List Addr) (H : Hp) : List D → List V → Prop
  | [], vs => vs = []
  | d :: ds, vs => ∃ v r, vs = v :: r ∧ Rep K cl Av m H d v ∧ Reps K cl Av m H ds r
end

/-- what is kept from one heap to the next -/
structure Gt (Av Av' : Addr → Prop) (m m' : List Addr) (H H' : Hp) : Prop where
  keep : ∀ a o, H a = some o → ¬ Av a → H' a = some o
  tup : ∀ a xs, H a = some (.tup xs) → H' a = some (.tup xs)
  frz : ∀ a o u, H a = some (.frz o u) → H' a = some (.frz o u)
  av : ∀ a o, H a = some o → Av' a → Av a
  pre : m <+: m'
  there : ∀ a o, H a = some o → ∃ o', H' a = some o'

section
variable {K : PySem.W.Frag} {cl : Nat → CI} {Av Av' Av2 : Addr → Prop} {m m' m2 : List Addr} {H H' H2 : Hp}
theorem Gt.refl : Gt Av Av m m H H := ⟨fun _ _ h _ => h, fun _ _ h => h, fun _ _ _ h => h, fun _ _ _ h => h, List.prefix_refl m, fun _ o h => ⟨o, h⟩⟩
theorem Gt.trans (a : Gt Av Av' m m' H H') (b : Gt Av' Av2 m' m2 H' H2) : Gt Av Av2 m m2 H H2 :=
  ⟨fun x o h n => b.keep x o (a.keep x o h n) (fun q => n (a.av x o h q)), fun x xs h => b.tup x xs (a.tup x xs h), fun x o u h => b.frz x o u (a.frz x o u h),
   fun x o h q => by
     by_cases n : Av x
     · exact n
     · exact absurd (a.av x o h (b.av x o (a.keep x o h n) q)) n, a.pre.trans b.pre, fun x o h => by
     obtain ⟨o1, h1⟩ := a.there x o h
     exact b.there x o1 h1⟩
theorem sqT_mono (tup : ∀ a xs, H a = some (.tup xs) → H' a = some (.tup xs)) (frz : ∀ a o u, H a = some (.frz o u) → H' a = some (.frz o u)) {a : Addr} {vs : List V} (h : SqT K H a vs) : SqT K H' a vs := by
  rcases h with (h | ⟨o, h⟩) | h
  · exact .inl (.inl (tup _ _ h))
  · exact .inl (.inr ⟨o, frz _ _ _ h⟩)
  · exact .inr h
theorem pre_get {a : Addr} {k : Nat} (p : m <+: m') (h : m[k]? = some a) : m'[k]? = some a := by
  obtain ⟨r, rfl⟩ := p
  have hl := (List.getElem?_eq_some_iff.mp h).1
  rw [List.getElem?_append_left hl]
  exact h
mutual
theorem Rep.mono (g : Gt Av Av' m m' H H') : ∀ (d : D) (v : V), Rep K cl Av m H d v → Rep K cl Av' m' H' d v
  | .non, _, h => h
  | .bl _, _, h => h
  | .int _, _, h => h
  | .str _, _, h => h
  | .tup xs, _, h => by
    obtain ⟨a, vs, e, q, r⟩ := h
    exact ⟨a, vs, e, g.tup _ _ q, Reps.mono g xs vs r⟩
  | .lst xs, _, h => by
    obtain ⟨a, vs, e, q, n, r⟩ := h
    exact ⟨a, vs, e, g.keep _ _ q n, fun z => n (g.av _ _ q z), Reps.mono g xs vs r⟩
  | .dct tk ks ws, _, h => by
    obtain ⟨a, o, u, vl, e, q, t, r⟩ := h
    exact ⟨a, o, u, vl, e, g.frz _ _ _ q, t, Reps.mono g ws vl r⟩
  | .ref k, _, h => by
    obtain ⟨a, q, e⟩ := h
    exact ⟨a, pre_get g.pre q, e⟩
  | .ins c fs, _, h => by
    obtain ⟨a, dx, vs, e, q, n, r⟩ := h
    exact ⟨a, dx, vs, e, g.keep _ _ q n, fun z => n (g.av _ _ q z), Reps.mono g fs vs r⟩
  | .scr ns, _, h => by
    obtain ⟨a, e, q⟩ := h
    exact ⟨a, e, q.mono g.frz⟩
theorem Reps.mono (g : Gt Av Av' m m' H H') : ∀ (ds : List D) (vs : List V), Reps K cl Av m H ds vs → Reps K cl Av' m' H' ds vs
  | [], _, h => h
  | d :: ds, _, h => by
    obtain ⟨v, r, e, q, t⟩ := h
    exact ⟨v, r, e, Rep.mono g d v q, Reps.mono g ds r t⟩
end
theorem Reps.length : ∀ {ds : List D} {vs : List V}, Reps K cl Av m H ds vs → vs.length = ds.length
  | [], _, h => by
    have e : _ = [] := h
    rw [e]; rfl
  | d :: ds, _, h => by
    obtain ⟨v, r, e, _, t⟩ := h
    rw [e, List.length_cons, List.length_cons, Reps.length t]
theorem Reps.append : ∀ {ds es : List D} {vs ws : List V}, Reps K cl Av m H ds vs → Reps K cl Av m H es ws → Reps K cl Av m H (ds ++ es) (vs ++ ws)
  | [], _, _, _, h, k => by
    have e : _ = [] := h
    rw [e]; exact k
  | d :: ds, _, _, _, h, k => by
    obtain ⟨v, r, e, q, t⟩ := h
    rw [e]
    exact ⟨v, _, rfl, q, Reps.append t k⟩
theorem Reps.get : ∀ {ds : List D} {vs : List V} {i : Nat} {d : D}, Reps K cl Av m H ds vs → ds[i]? = some d → ∃ v, vs[i]? = some v ∧ Rep K cl Av m H d v
  | [], _, _, _, _, e => by simp at e
  | d :: ds, _, 0, _, h, e => by
    obtain ⟨v, r, rfl, q, t⟩ := h
    simp at e
    subst e
    exact ⟨v, rfl, q⟩
  | d :: ds, _, i + 1, _, h, e => by
    obtain ⟨v, r, rfl, q, t⟩ := h
    exact Reps.get (i := i) t (by simpa using e)
theorem Reps.set {x : D} {v : V} (hx : Rep K cl Av m H x v) : ∀ {ds : List D} {vs : List V} (i : Nat), Reps K cl Av m H ds vs → Reps K cl Av m H (ds.set i x) (vs.set i v)
  | [], _, _, h => by
    have e : _ = [] := h
    rw [e]; exact rfl
  | d :: ds, _, 0, h => by
    obtain ⟨w, r, rfl, q, t⟩ := h
    exact ⟨v, r, rfl, hx, t⟩
  | d :: ds, _, i + 1, h => by
    obtain ⟨w, r, rfl, q, t⟩ := h
    exact ⟨w, r.set i v, rfl, q, Reps.set hx i t⟩
theorem Reps.erase : ∀ {ds : List D} {vs : List V} (i : Nat), Reps K cl Av m H ds vs → Reps K cl Av m H (ds.eraseIdx i) (vs.eraseIdx i)
  | [], _, _, h => by
    have e : _ = [] := h
    rw [e]; exact rfl
  | d :: ds, _, 0, h => by
    obtain ⟨w, r, rfl, q, t⟩ := h
    exact t
  | d :: ds, _, i + 1, h => by
    obtain ⟨w, r, rfl, q, t⟩ := h
    exact ⟨w, r.eraseIdx i, rfl, q, Reps.erase i t⟩
theorem Reps.drop : ∀ {ds : List D} {vs : List V} (i : Nat), Reps K cl Av m H ds vs → Reps K cl Av m H (ds.drop i) (vs.drop i)
  | _, _, 0, h => h
  | [], _, i + 1, h => by
    have e : _ = [] := h
    rw [e]; exact rfl
  | d :: ds, _, i + 1, h => by
    obtain ⟨w, r, rfl, q, t⟩ := h
    exact Reps.drop i t
theorem Reps.take : ∀ {ds : List D} {vs : List V} (i : Nat), Reps K cl Av m H ds vs → Reps K cl Av m H (ds.take i) (vs.take i)
  | _, _, 0, h => rfl
  | [], _, i + 1, h => by
    have e : _ = [] := h
    rw [e]; exact rfl
  | d :: ds, _, i + 1, h => by
    obtain ⟨w, r, rfl, q, t⟩ := h
    exact ⟨w, r.take i, rfl, q, Reps.take i t⟩
theorem Reps.rep (n : Nat) {ds : List D} {vs : List V} (h : Reps K cl Av m H ds vs) : Reps K cl Av m H (List.replicate n ds).flatten (List.replicate n vs).flatten := by
  induction n with
  | zero => exact rfl
  | succ n ih =>
    rw [List.replicate_succ, List.replicate_succ, List.flatten_cons, List.flatten_cons]
    exact Reps.append h ih
theorem Reps.one {d : D} {vs : List V} (h : Reps K cl Av m H [d] vs) : ∃ v, vs = [v] ∧ Rep K cl Av m H d v := by
  obtain ⟨v, r, rfl, q, t⟩ := h
  have e : r = [] := t
  subst e
  exact ⟨v, rfl, q⟩
theorem Reps.two {d e : D} {vs : List V} (h : Reps K cl Av m H [d, e] vs) : ∃ v w, vs = [v, w] ∧ Rep K cl Av m H d v ∧ Rep K cl Av m H e w := by
  obtain ⟨v, r, rfl, q, t⟩ := h
  obtain ⟨w, rfl, q2⟩ := Reps.one t
  exact ⟨v, w, rfl, q, q2⟩

/-- an object that may be written: what stands at a -/
def Top (K : PySem.W.Frag) (cl : Nat → CI) (Av : Addr → Prop) (m : List Addr) (H : Hp) (a : Addr) : D → Prop
  | .lst xs => ∃ vs, H a = some (.lst vs) ∧ Reps K cl Av m H xs vs
  | .dct tk ks ws => ∃ u vl, H a = some u ∧ DctAt tk u ks vl ∧ Reps K cl Av m H ws vl
  | .ins c fs => ∃ dx vs, H a = some (.ins (cl c).C dx ((cl c).fs.zip vs)) ∧ Reps K cl Av m H fs vs
  | _ => False
end

structure Gx where
  K : PySem.W.Frag
  cl : Nat → CI
  ec : Nat → CI
structure Fx where
  g : Gx
  N0 : Addr → Prop
  m0 : List Addr
  H0 : Hp

def OwnAt (z : Z) (σ : L2.St) (i : Nat) (a : Addr) : Prop := (∃ d, z.env[i]? = some (.own d) ∨ z.env[i]? = some (.lock d)) ∧ σ[i]? = some (some (.ref a))
def AvP (_ : Fx) (m : List Addr) (a : Addr) : Prop := a ∈ m
def Avs (F : Fx) (m : List Addr) (z : Z) (σ : L2.St) (a : Addr) : Prop := (F.N0 a ∨ a ∈ m) ∨ ∃ i, OwnAt z σ i a

structure Ok (F : Fx) (m : List Addr) (z : Z) (σ : L2.St) (H : Hp) : Prop where
  len : σ.length = z.env.length
  ml : m.length = z.hp.length
  nd : m.Nodup
  cells : ∀ (k : Nat) (a : Addr) (d : D), m[k]? = some a → z.hp[k]? = some d → Top F.g.K F.g.cl (Avs F m z σ) m H a d
  val : ∀ (i : Nat) (d : D), z.env[i]? = some (.val d) → ∃ v, σ[i]? = some (some v) ∧ Rep F.g.K F.g.cl (Avs F m z σ) m H d v
  own : ∀ (i : Nat) (d : D), (z.env[i]? = some (.own d) ∨ z.env[i]? = some (.lock d)) → ∃ a, σ[i]? = some (some (.ref a)) ∧ Top F.g.K F.g.cl (Avs F m z σ) m H a d
  inj : ∀ (i j : Nat) (a : Addr), OwnAt z σ i a → OwnAt z σ j a → i = j
  new : ∀ (i : Nat) (a : Addr), OwnAt z σ i a → a ∉ m
  newO : ∀ (i : Nat) (d : D) (a : Addr), z.env[i]? = some (.own d) → σ[i]? = some (some (.ref a)) → ¬ F.N0 a ∧ F.H0 a = none
  pre : F.m0 <+: m
  mnew : ∀ a, a ∈ m → a ∈ F.m0 ∨ F.H0 a = none
  fr : ∀ a o, F.H0 a = some o → a ∉ F.m0 → H a = some o
  n0 : ∀ a, F.N0 a → ∃ o, H a = some o
  m0n : ∀ a, a ∈ F.m0 → F.N0 a

end G
end
section
set_option Elab.async false
set_option linter.all false
set_option maxHeartbeats 1000000
/-! GS: soundness, the frame of it: what an expression's value is in the machine. -/
namespace G
open PySem PySem.Spec PyProof.Rows L2

section
variable {K : PySem.W.Frag} {cl : Nat → CI} {Ap Ap' Av Av' : Addr → Prop} {m m' : List Addr} {H H' : Hp}
/-- a value that is looked at, not kept: its top may be an own object -/
def RepP (K : PySem.W.Frag) (cl : Nat → CI) (Ap Av : Addr → Prop) (m : List Addr) (H : Hp) (d : D) (v : V) : Prop :=
  match d with
  | .lst xs => ∃ a vs, v = .ref a ∧ H a = some (.lst vs) ∧ ¬ Ap a ∧ Reps K cl Av m H xs vs
  | .dct tk ks ws => ∃ a u vl, v = .ref a ∧ ((H a = some u ∧ ¬ Ap a) ∨ ∃ o, H a = some (.frz o u)) ∧ DctAt tk u ks vl ∧ Reps K cl Av m H ws vl
  | d => Rep K cl Av m H d v
def RepsP (K : PySem.W.Frag) (cl : Nat → CI) (Ap Av : Addr → Prop) (m : List Addr) (H : Hp) : List D → List V → Prop
  | [], vs => vs = []
  | d :: ds, vs => ∃ v r, vs = v :: r ∧ RepP K cl Ap Av m H d v ∧ RepsP K cl Ap Av m H ds r
theorem RepP.mono (gp : Gt Ap Ap' m m' H H') (g : Gt Av Av' m m' H H') : ∀ (d : D) (v : V), RepP K cl Ap Av m H d v → RepP K cl Ap' Av' m' H' d v
  | .lst xs, v, h => by
    obtain ⟨a, vs, e, q, n, r⟩ := h
    exact ⟨a, vs, e, gp.keep _ _ q n, fun z => n (gp.av _ _ q z), Reps.mono g xs vs r⟩
  | .non, v, h => Rep.mono (K := K) (cl := cl) g .non v h
  | .bl b, v, h => Rep.mono (K := K) (cl := cl) g (.bl b) v h
  | .int i, v, h => Rep.mono (K := K) (cl := cl) g (.int i) v h
  | .str x, v, h => Rep.mono (K := K) (cl := cl) g (.str x) v h
  | .tup x, v, h => Rep.mono (K := K) (cl := cl) g (.tup x) v h
  | .dct tk ks ws, v, h => by
    obtain ⟨a, u, vl, e, q, t, r⟩ := h
    refine ⟨a, u, vl, e, ?_, t, Reps.mono g ws vl r⟩
    rcases q with ⟨q, n⟩ | ⟨o, q⟩
    · exact .inl ⟨gp.keep _ _ q n, fun z => n (gp.av _ _ q z)⟩
    · exact .inr ⟨o, g.frz _ _ _ q⟩
  | .ref x, v, h => Rep.mono (K := K) (cl := cl) g (.ref x) v h
  | .ins x y, v, h => Rep.mono (K := K) (cl := cl) g (.ins x y) v h
  | .scr x, v, h => Rep.mono (K := K) (cl := cl) g (.scr x) v h
theorem RepsP.mono (gp : Gt Ap Ap' m m' H H') (g : Gt Av Av' m m' H H') : ∀ (ds : List D) (vs : List V), RepsP K cl Ap Av m H ds vs → RepsP K cl Ap' Av' m' H' ds vs
  | [], _, h => h
  | d :: ds, _, h => by
    obtain ⟨v, r, e, q, t⟩ := h
    exact ⟨v, r, e, RepP.mono gp g d v q, RepsP.mono gp g ds r t⟩
theorem Rep.peek (hs : ∀ a, Ap a → Av a) : ∀ {d : D} {v : V}, Rep K cl Av m H d v → RepP K cl Ap Av m H d v
  | .lst xs, v, h => by
    obtain ⟨a, vs, e, q, n, r⟩ := h
    exact ⟨a, vs, e, q, fun z => n (hs a z), r⟩
  | .non, v, h => h
  | .bl b, v, h => h
  | .int i, v, h => h
  | .str x, v, h => h
  | .tup x, v, h => h
  | .dct tk ks ws, v, h => by
    obtain ⟨a, o, u, vl, e, q, t, r⟩ := h
    exact ⟨a, u, vl, e, .inr ⟨o, q⟩, t, r⟩
  | .ref x, v, h => h
  | .ins x y, v, h => h
  | .scr x, v, h => h
theorem Reps.peek (hs : ∀ a, Ap a → Av a) : ∀ {ds : List D} {vs : List V}, Reps K cl Av m H ds vs → RepsP K cl Ap Av m H ds vs
  | [], _, h => h
  | d :: ds, _, h => by
    obtain ⟨v, r, e, q, t⟩ := h
    exact ⟨v, r, e, Rep.peek hs q, Reps.peek hs t⟩
theorem RepsP.append : ∀ {ds es : List D} {vs ws : List V}, RepsP K cl Ap Av m H ds vs → RepsP K cl Ap Av m H es ws → RepsP K cl Ap Av m H (ds ++ es) (vs ++ ws)
  | [], _, _, _, h, k => by
    have e : _ = [] := h
    rw [e]; exact k
  | d :: ds, _, _, _, h, k => by
    obtain ⟨v, r, e, q, t⟩ := h
    rw [e]
    exact ⟨v, _, rfl, q, RepsP.append t k⟩
theorem RepsP.one {d : D} {vs : List V} (h : RepsP K cl Ap Av m H [d] vs) : ∃ v, vs = [v] ∧ RepP K cl Ap Av m H d v := by
  obtain ⟨v, r, rfl, q, t⟩ := h
  have e : r = [] := t
  subst e
  exact ⟨v, rfl, q⟩
theorem RepsP.two {d e : D} {vs : List V} (h : RepsP K cl Ap Av m H [d, e] vs) : ∃ v w, vs = [v, w] ∧ RepP K cl Ap Av m H d v ∧ RepP K cl Ap Av m H e w := by
  obtain ⟨v, r, rfl, q, t⟩ := h
  obtain ⟨w, rfl, q2⟩ := RepsP.one t
  exact ⟨v, w, rfl, q, q2⟩
theorem RepsP.length : ∀ {ds : List D} {vs : List V}, RepsP K cl Ap Av m H ds vs → vs.length = ds.length
  | [], _, h => by
    have e : _ = [] := h
    rw [e]; rfl
  | d :: ds, _, h => by
    obtain ⟨v, r, e, _, t⟩ := h
    rw [e, List.length_cons, List.length_cons, RepsP.length t]
end

/-! ### the state -/
section
variable {F : Fx} {m m' m1 m2 : List Addr} {z z' z1 z2 : Z} {σ : L2.St} {H H' H1 H2 : Hp}
theorem avP_avs : ∀ a, AvP F m a → Avs F m z σ a := fun _ h => .inl (.inr h)
theorem Top.there {K : PySem.W.Frag} {cl : Nat → CI} {Av : Addr → Prop} {a : Addr} {d : D} (h : Top K cl Av m H a d) : ∃ u, H a = some u ∧ Mut (some u) := by
  cases d with
  | lst xs =>
    obtain ⟨vs, e, _⟩ := h
    exact ⟨_, e, True.intro⟩
  | dct tk ks ws =>
    obtain ⟨u, vl, e, t, _⟩ := h
    exact ⟨u, e, t.mut⟩
  | ins c fs =>
    obtain ⟨dx, vs, e, _⟩ := h
    exact ⟨_, e, True.intro⟩
  | _ => exact h.elim
theorem Ok.cell (o : Ok F m z σ H) {a : Addr} (h : a ∈ m) : ∃ u, H a = some u ∧ Mut (some u) := by
  obtain ⟨k, hk, e⟩ := List.getElem_of_mem h
  have hk' : k < z.hp.length := by rw [← o.ml]; exact hk
  exact (o.cells k a (z.hp[k]) (by rw [List.getElem?_eq_getElem hk, e]) (List.getElem?_eq_getElem hk')).there
theorem Ok.ownd (o : Ok F m z σ H) {i : Nat} {a : Addr} (h : OwnAt z σ i a) : ∃ d, Top F.g.K F.g.cl (Avs F m z σ) m H a d := by
  obtain ⟨⟨d, hd⟩, hs⟩ := h
  obtain ⟨b, e, t⟩ := o.own i d hd
  rw [hs] at e
  cases e
  exact ⟨d, t⟩
/-- what is to be avoided stands -/
theorem Ok.stands (o : Ok F m z σ H) {a : Addr} (h : Avs F m z σ a) : ∃ u, H a = some u := by
  rcases h with (h | h) | ⟨i, h⟩
  · exact o.n0 a h
  · obtain ⟨u, q, _⟩ := o.cell h
    exact ⟨_, q⟩
  · obtain ⟨d, t⟩ := o.ownd h
    obtain ⟨u, q, _⟩ := t.there
    exact ⟨_, q⟩
/-- all that was tracked is as it was -/
theorem same_gt {Av : Addr → Prop} (s : Same H H') : Gt Av Av m m H H' := ⟨fun a o h _ => s a o h, fun a xs h => s a _ h, fun a o u h => s a _ h, fun _ _ _ h => h, List.prefix_refl m, fun a o h => ⟨o, s a o h⟩⟩
theorem Top.mono {K : PySem.W.Frag} {cl : Nat → CI} {Av Av' : Addr → Prop} {a : Addr} {d : D} (g : Gt Av Av' m m' H H') (e : ∀ o, H a = some o → H' a = some o) (h : Top K cl Av m H a d) : Top K cl Av' m' H' a d := by
  cases d with
  | lst xs =>
    obtain ⟨vs, q, r⟩ := h
    exact ⟨vs, e _ q, Reps.mono g xs vs r⟩
  | dct tk ks ws =>
    obtain ⟨u, vl, q, t, r⟩ := h
    exact ⟨u, vl, e _ q, t, Reps.mono g ws vl r⟩
  | ins c fs =>
    obtain ⟨dx, vs, q, r⟩ := h
    exact ⟨dx, vs, e _ q, Reps.mono g fs vs r⟩
  | _ => exact h.elim
theorem Ok.same (o : Ok F m z σ H) (s : Same H H') : Ok F m z σ H' :=
  ⟨o.len, o.ml, o.nd, fun k a d h1 h2 => (o.cells k a d h1 h2).mono (same_gt s) (s a),
   fun i d h => by
     obtain ⟨v, e, r⟩ := o.val i d h
     exact ⟨v, e, Rep.mono (same_gt s) d v r⟩,
   fun i d h => by
     obtain ⟨a, e, t⟩ := o.own i d h
     exact ⟨a, e, t.mono (same_gt s) (s a)⟩,
   o.inj, o.new, o.newO, o.pre, o.mnew, fun a u h n => s a u (o.fr a u h n), fun a h => by
     obtain ⟨u, q⟩ := o.n0 a h
     exact ⟨u, s a u q⟩, o.m0n⟩

/-! ### what an expression leaves -/
def RF_ (F : Fx) (pk : Bool) (m : List Addr) (z : Z) (σ : L2.St) (H : Hp) (ds : List D) (vs : List V) : Prop :=
  match pk with
  | true => RepsP F.g.K F.g.cl (AvP F m) (Avs F m z σ) m H ds vs
  | false => Reps F.g.K F.g.cl (Avs F m z σ) m H ds vs
structure PP (F : Fx) (m : List Addr) (z : Z) (σ : L2.St) (H : Hp) (np pk : Bool) (ds : List D) (z' : Z) (vs : List V) (H' : Hp) (m' : List Addr) : Prop where
  ok : Ok F m' z' σ H'
  gt : Gt (Avs F m z σ) (Avs F m' z' σ) m m' H H'
  np : np = true → Gt (AvP F m) (AvP F m') m m' H H'
  rp : RF_ F pk m' z' σ H' ds vs
/-- an exception's class, its dict -/
def ExcAt (F : Fx) (Av : Addr → Prop) (m : List Addr) (H : Hp) (c : Nat) (ds : List D) (cls : Value) (d : Option Addr) : Prop :=
  cls = .ref (F.g.ec c).C ∧ ds.length = (F.g.ec c).fs.length ∧ ((ds = [] ∧ d = none) ∨ ∃ dd vs, d = some dd ∧ H dd = some (.xd ((F.g.ec c).fs.zip vs)) ∧ Reps F.g.K F.g.cl Av m H ds vs)
structure PX (F : Fx) (m : List Addr) (z : Z) (σ : L2.St) (H : Hp) (c : Nat) (ds : List D) (z' : Z) (cls : Value) (d : Option Addr) (H' : Hp) (m' : List Addr) : Prop where
  ok : Ok F m' z' σ H'
  gt : Gt (Avs F m z σ) (Avs F m' z' σ) m m' H H'
  ex : ExcAt F (Avs F m' z' σ) m' H' c ds cls d
theorem PP.refl (o : Ok F m z σ H) {np pk : Bool} {ds : List D} {vs : List V} (h : RF_ F pk m z σ H ds vs) : PP F m z σ H np pk ds z vs H m := ⟨o, Gt.refl, fun _ => Gt.refl, h⟩
theorem RF_.up {pk : Bool} {ds : List D} {vs : List V} (h : RF_ F false m z σ H ds vs) : RF_ F pk m z σ H ds vs := by
  cases pk with
  | false => exact h
  | true => exact Reps.peek avP_avs h
theorem RF_.append {pk : Bool} {ds es : List D} {vs ws : List V} (h : RF_ F pk m z σ H ds vs) (k : RF_ F pk m z σ H es ws) : RF_ F pk m z σ H (ds ++ es) (vs ++ ws) := by
  cases pk with
  | false => exact Reps.append h k
  | true => exact RepsP.append h k
/-- values of before stand behind a further step -/
theorem PP.carry {np pk pk' : Bool} {ds es : List D} {vs ws : List V} (h : RF_ F pk m z σ H ds vs) (b : PP F m z σ H np pk' es z1 ws H1 m1) (hp : pk = true → np = true) : RF_ F pk m1 z1 σ H1 ds vs := by
  cases pk with
  | false => exact Reps.mono b.gt ds vs h
  | true => exact RepsP.mono (b.np (hp rfl)) b.gt ds vs h
theorem PP.trans {npa npb pka pk : Bool} {xs ys : List D} {vs ws : List V} (a : PP F m z σ H npa pka xs z1 vs H1 m1) (b : PP F m1 z1 σ H1 npb pk ys z2 ws H2 m2) : PP F m z σ H (npa && npb) pk ys z2 ws H2 m2 :=
  ⟨b.ok, a.gt.trans b.gt, fun h => by
    rw [Bool.and_eq_true] at h
    exact (a.np h.1).trans (b.np h.2), b.rp⟩
theorem PP.cons {npa npb pk : Bool} {xs ys : List D} {vs ws : List V} (a : PP F m z σ H npa (pk && npb) xs z1 vs H1 m1) (b : PP F m1 z1 σ H1 npb pk ys z2 ws H2 m2) : PP F m z σ H (npa && npb) pk (xs ++ ys) z2 (vs ++ ws) H2 m2 := by
  refine ⟨b.ok, a.gt.trans b.gt, (a.trans b).np, ?_⟩
  have ra := PP.carry a.rp b fun h => by
    rw [Bool.and_eq_true] at h
    exact h.2
  have ra' : RF_ F pk m2 z2 σ H2 xs vs := by
    cases pk with
    | false => exact ra
    | true =>
      cases npb with
      | true => exact ra
      | false => exact RF_.up ra
  exact RF_.append ra' b.rp
theorem PP.exn {npa pka : Bool} {xs ds : List D} {vs : List V} {c : Nat} {cls : Value} {d : Option Addr} (a : PP F m z σ H npa pka xs z1 vs H1 m1) (b : PX F m1 z1 σ H1 c ds z2 cls d H2 m2) : PX F m z σ H c ds z2 cls d H2 m2 := ⟨b.ok, a.gt.trans b.gt, b.ex⟩
/-- a further value is made, all else stands -/
theorem PP.more {np pk pk' : Bool} {ds es : List D} {vs ws : List V} (a : PP F m z σ H np pk ds z1 vs H1 m1) (s : Same H1 H2) (h : Reps F.g.K F.g.cl (Avs F m1 z1 σ) m1 H2 es ws) : PP F m z σ H np pk' es z1 ws H2 m1 :=
  ⟨a.ok.same s, a.gt.trans (same_gt s), fun q => (a.np q).trans (same_gt s), RF_.up h⟩
end

/-! ### readings -/
section
variable (F : Fx) (g : Gx) (W : WX)
def aft (m : List Addr) (z : Z) (σ : L2.St) (H : Hp) (np pk : Bool) (r : R (List D)) (Q : List V → Hp → Prop) : Prop :=
  match r with
  | .ok ds z' => ∀ vs H' m', PP F m z σ H np pk ds z' vs H' m' → Q vs H'
  | .exn c ds z' => ∀ cls d H' m', PX F m z σ H c ds z' cls d H' m' → W cls d σ H'
  | .bad => False
def tDs (pk : Bool) (e : E) : TA := fun σ H Q => ∃ F m z, F.g = g ∧ Ok F m z σ H ∧ aft F W m z σ H e.np pk (evE pk e z) Q
def tD (pk : Bool) (e : E) : TE := fun σ H Q => ∃ F m z, F.g = g ∧ Ok F m z σ H ∧ aft F W m z σ H e.np pk (evE pk e z) fun vs H' => ∀ v, vs = [v] → Q v H'
end
/-- one value, by form -/
def E.sg : E → Bool
  | .nil => false
  | .cons _ _ => false
  | .bad => false
  | _ => true
def SE (g : Gx) (W : WX) (X : Cx) (e : Expr) (E : E) : Prop := ∀ pk, PE X e (tD g W pk E)
def SA (g : Gx) (W : WX) (X : Cx) (es : List Expr) (E : E) : Prop := ∀ pk, PA X es (tDs g W pk E)
theorem PE.weak {X : Cx} {e : Expr} {t u : TE} (h : PE X e t) (w : ∀ σ H Q, u σ H Q → t σ H Q) : PE X e u := ⟨fun pins s σ H Q I q => h.run pins s σ H Q I (w σ H Q q)⟩
theorem PA.weak {X : Cx} {e : List Expr} {t u : TA} (h : PA X e t) (w : ∀ σ H Q, u σ H Q → t σ H Q) : PA X e u := ⟨fun pos pins s σ H Q I q => h.run pos pins s σ H Q I (w σ H Q q)⟩
theorem PT.weak {X : Cx} {e : Expr} {t u : TT} (h : PT X e t) (w : ∀ σ H Q, u σ H Q → t σ H Q) : PT X e u := ⟨fun pins s σ H Q I q => h.run pins s σ H Q I (w σ H Q q)⟩
theorem PS.weak {X : Cx} {e : Stmt} {t u : TS} (h : PS X e t) (w : ∀ D σ H, u D σ H → t D σ H) : PS X e u := ⟨fun pins s σ H Q I q => h.run pins s σ H Q I (w Q σ H q)⟩
theorem PSs.weak {X : Cx} {e : List Stmt} {t u : TS} (h : PSs X e t) (w : ∀ D σ H, u D σ H → t D σ H) : PSs X e u := ⟨fun pins s σ H Q I q => h.run pins s σ H Q I (w Q σ H q)⟩

end G
end
section
set_option Elab.async false
set_option linter.all false
set_option maxHeartbeats 1000000
/-! GE: soundness of names, displays, primitives. -/
namespace G
open PySem PySem.Spec PyProof.Rows L2

section
variable {F : Fx} {m m' m1 m2 : List Addr} {z z' z1 z2 : Z} {σ : L2.St} {H H' H1 H2 : Hp}
theorem getD_some {env : List Slot} {i : Nat} {s : Slot} (h : env.getD i .no = s) (hs : s ≠ .no) : env[i]? = some s := by
  rw [List.getD_eq_getElem?_getD] at h
  cases e : env[i]? with
  | none =>
    rw [e] at h
    exact absurd h.symm hs
  | some t =>
    rw [e] at h
    have h' : t = s := h
    rw [h']
theorem own_put {i j : Nat} {a : Addr} {s : Slot} {w : Option V} (hs : (∀ d, s ≠ .own d) ∧ ∀ d, s ≠ .lock d)
    (h : OwnAt { z with env := z.env.set i s } (σ.set i w) j a) : j ≠ i ∧ OwnAt z σ j a := by
  obtain ⟨⟨d, hd⟩, e⟩ := h
  by_cases hj : j = i
  · subst hj
    exfalso
    have hd' : (z.env.set j s)[j]? = some (.own d) ∨ (z.env.set j s)[j]? = some (.lock d) := hd
    by_cases hl : j < z.env.length
    · rw [List.getElem?_set_self hl] at hd'
      rcases hd' with hd' | hd'
      · exact hs.1 d (Option.some.inj hd')
      · exact hs.2 d (Option.some.inj hd')
    · rw [List.getElem?_eq_none (by simpa using hl)] at hd'
      rcases hd' with hd' | hd' <;> cases hd'
  · have hd' : (z.env.set i s)[j]? = some (.own d) ∨ (z.env.set i s)[j]? = some (.lock d) := hd
    rw [List.getElem?_set_ne (Ne.symm hj)] at hd'
    rw [List.getElem?_set_ne (Ne.symm hj)] at e
    exact ⟨hj, ⟨d, hd'⟩, e⟩
/-- less is to be avoided -/
theorem less_gt {Av Av' : Addr → Prop} (h : ∀ a, Av' a → Av a) : Gt Av Av' m m H H := ⟨fun _ _ h _ => h, fun _ _ h => h, fun _ _ _ h => h, fun a _ _ q => h a q, List.prefix_refl m, fun _ o h => ⟨o, h⟩⟩
theorem put_less {i : Nat} {s : Slot} {w : Option V} (hs : (∀ d, s ≠ .own d) ∧ ∀ d, s ≠ .lock d) : ∀ a, Avs F m { z with env := z.env.set i s } (σ.set i w) a → Avs F m z σ a := fun a h => by
  rcases h with h | ⟨j, h⟩
  · exact .inl h
  · exact .inr ⟨j, (own_put hs h).2⟩
/-- a slot is given a value -/
theorem Ok.put (o : Ok F m z σ H) {i : Nat} {s : Slot} {w : Option V} (hs : (∀ d, s ≠ .own d) ∧ ∀ d, s ≠ .lock d)
    (hv : ∀ d, s = .val d → ∃ v, w = some v ∧ Rep F.g.K F.g.cl (Avs F m { z with env := z.env.set i s } (σ.set i w)) m H d v) : Ok F m { z with env := z.env.set i s } (σ.set i w) H := by
  have g : Gt (Avs F m z σ) (Avs F m { z with env := z.env.set i s } (σ.set i w)) m m H H := less_gt (put_less hs)
  refine ⟨by simp [o.len], o.ml, o.nd, fun k a d h1 h2 => (o.cells k a d h1 h2).mono g fun _ q => q, fun j d h => ?_, fun j d h => ?_, fun j k a h1 h2 => ?_, fun j a h => ?_, fun j d a h1 h2 => ?_, o.pre, o.mnew, o.fr, o.n0, o.m0n⟩
  · have h : (z.env.set i s)[j]? = some (.val d) := h
    by_cases hj : j = i
    · subst hj
      have hl : j < z.env.length := by
        by_cases hl : j < z.env.length
        · exact hl
        · rw [List.getElem?_eq_none (by simpa using hl)] at h; cases h
      rw [List.getElem?_set_self hl] at h
      obtain ⟨v, e, r⟩ := hv d (Option.some.inj h)
      refine ⟨v, ?_, r⟩
      rw [List.getElem?_set_self (by rw [o.len]; exact hl), e]
    · rw [List.getElem?_set_ne (Ne.symm hj)] at h
      obtain ⟨v, e, r⟩ := o.val j d h
      refine ⟨v, ?_, Rep.mono g d v r⟩
      rw [List.getElem?_set_ne (Ne.symm hj)]
      exact e
  · have h : (z.env.set i s)[j]? = some (.own d) ∨ (z.env.set i s)[j]? = some (.lock d) := h
    by_cases hj : j = i
    · subst hj
      exfalso
      by_cases hl : j < z.env.length
      · rw [List.getElem?_set_self hl] at h
        rcases h with h | h
        · exact hs.1 d (Option.some.inj h)
        · exact hs.2 d (Option.some.inj h)
      · rw [List.getElem?_eq_none (by simpa using hl)] at h
        rcases h with h | h <;> cases h
    · rw [List.getElem?_set_ne (Ne.symm hj)] at h
      obtain ⟨a, e, t⟩ := o.own j d h
      refine ⟨a, ?_, t.mono g fun _ q => q⟩
      rw [List.getElem?_set_ne (Ne.symm hj)]
      exact e
  · exact o.inj j k a (own_put hs h1).2 (own_put hs h2).2
  · exact o.new j a (own_put hs h).2
  · have q : OwnAt { z with env := z.env.set i s } (σ.set i w) j a := ⟨⟨d, .inl h1⟩, h2⟩
    obtain ⟨hj, _⟩ := own_put hs q
    have h1 : (z.env.set i s)[j]? = some (.own d) := h1
    rw [List.getElem?_set_ne (Ne.symm hj)] at h1 h2
    exact o.newO j d a h1 h2
theorem set_self {σ : L2.St} {i : Nat} {w : Option V} (h : σ[i]? = some w) : σ.set i w = σ := by
  apply List.ext_getElem?
  intro j
  by_cases hj : j = i
  · subst hj
    rw [List.getElem?_set_self (List.getElem?_eq_some_iff.mp h).1, h]
  · rw [List.getElem?_set_ne (Ne.symm hj)]
theorem not_own_val (d : D) : (∀ d', Slot.val d ≠ .own d') ∧ ∀ d', Slot.val d ≠ .lock d' := ⟨fun _ h => (nomatch h), fun _ h => (nomatch h)⟩
/-- an own object is looked at -/
theorem Top.peek {K : PySem.W.Frag} {cl : Nat → CI} {Ap Av : Addr → Prop} {a : Addr} {d : D} (t : Top K cl Av m H a d) (n : ¬ Ap a) (hi : ∀ c fs, d ≠ .ins c fs) : RepP K cl Ap Av m H d (.ref a) := by
  cases d with
  | ins c fs => exact absurd rfl (hi c fs)
  | lst xs =>
    obtain ⟨vs, q, r⟩ := t
    exact ⟨a, vs, rfl, q, n, r⟩
  | dct tk ks ws =>
    obtain ⟨u, vl, q, t, r⟩ := t
    exact ⟨a, u, vl, rfl, .inl ⟨q, n⟩, t, r⟩
  | _ => exact t.elim
/-- an own object is let go as a value -/
theorem Ok.freeze (o : Ok F m z σ H) {i : Nat} {d : D} (hd : ∃ xs, d = .lst xs) (h : z.env[i]? = some (.own d)) :
    ∃ v, σ[i]? = some (some v) ∧ PP F m z σ H true false [d] { z with env := z.env.set i (.val d) } [v] H m := by
  obtain ⟨a, e, t⟩ := o.own i d (.inl h)
  have es : σ.set i (some (.ref a)) = σ := set_self e
  have less : ∀ b, Avs F m { z with env := z.env.set i (.val d) } σ b → Avs F m z σ b := by
    have q := @put_less F m z σ i (.val d) (some (.ref a)) (not_own_val d)
    rw [es] at q
    exact q
  have g : Gt (Avs F m z σ) (Avs F m { z with env := z.env.set i (.val d) } σ) m m H H := less_gt less
  have na : ¬ Avs F m { z with env := z.env.set i (.val d) } σ a := by
    rintro ((q | q) | ⟨j, q⟩)
    · exact (o.newO i d a h e).1 q
    · exact o.new i a ⟨⟨d, .inl h⟩, e⟩ q
    · rw [← es] at q
      obtain ⟨hj, q⟩ := own_put (not_own_val d) q
      exact hj (o.inj j i a q ⟨⟨d, .inl h⟩, e⟩)
  have r : Rep F.g.K F.g.cl (Avs F m { z with env := z.env.set i (.val d) } σ) m H d (.ref a) := by
    obtain ⟨xs, rfl⟩ := hd
    obtain ⟨vs, q, r⟩ := t
    exact ⟨a, vs, rfl, q, na, Reps.mono g xs vs r⟩
  have o' := @Ok.put F m z σ H o i (.val d) (some (.ref a)) (not_own_val d) (fun d' ed => by
    cases ed
    refine ⟨_, rfl, ?_⟩
    rw [es]
    exact r)
  rw [es] at o'
  exact ⟨_, e, o', g, fun _ => Gt.refl, ⟨_, _, rfl, r, rfl⟩⟩

theorem evE_var {pk : Bool} {i : Nat} {Q : List V → Hp → Prop} {W : WX} (o : Ok F m z σ H) (h : aft F W m z σ H true pk (evE pk (.var i) z) Q) : ∃ v, σ[i]? = some (some v) ∧ Q [v] H := by
  unfold evE at h
  cases e : z.env.getD i .no with
  | no =>
    rw [e] at h
    exact h.elim
  | val d =>
    rw [e] at h
    obtain ⟨v, q, r⟩ := o.val i d (getD_some e (by intro q; cases q))
    exact ⟨v, q, h [v] H m (PP.refl o (RF_.up ⟨_, _, rfl, r, rfl⟩))⟩
  | own d =>
    rw [e] at h
    have hd := getD_some e (by intro q; cases q)
    cases pk with
    | true =>
      obtain ⟨a, q, t⟩ := o.own i d (.inl hd)
      cases d with
      | ins c fs => exact h.elim
      | _ => exact ⟨_, q, h _ H m (PP.refl o ⟨_, _, rfl, t.peek (o.new i a ⟨⟨_, .inl hd⟩, q⟩) (fun _ _ e => nomatch e), rfl⟩)⟩
    | false =>
      cases d with
      | lst xs =>
        obtain ⟨v, q, p⟩ := o.freeze ⟨xs, rfl⟩ hd
        exact ⟨v, q, h [v] H m p⟩
      | _ => exact h.elim
  | lock d =>
    rw [e] at h
    have hd := getD_some e (by intro q; cases q)
    cases pk with
    | true =>
      obtain ⟨a, q, t⟩ := o.own i d (.inr hd)
      cases d with
      | ins c fs => exact h.elim
      | _ => exact ⟨_, q, h _ H m (PP.refl o ⟨_, _, rfl, t.peek (o.new i a ⟨⟨_, .inr hd⟩, q⟩) (fun _ _ e => nomatch e), rfl⟩)⟩
    | false => exact h.elim
end

section
variable {F : Fx} {g : Gx} {W : WX} {X : Cx} {pos : Pos}
theorem se_var {i : Nat} {x : Str} (hN : X.N[i]? = some x) (hv : Vis X.env.scope x) (hd : (x == ("__debug__" : Str)) = false) (hcd : (x == ("__classdict__" : Str)) = false) : SE g W X (.Name x pos) (.var i) := fun pk =>
  PE.weak (pe_var hN hv hd hcd) fun σ H Q ⟨F, m, z, eg, o, h⟩ => by
    obtain ⟨v, e, q⟩ := evE_var o h
    exact ⟨v, e, q v rfl⟩
theorem se_lit {e : Expr} {d : D} {v : V} (h : PE X e (tC v)) (r : ∀ K cl Av m H, Rep K cl Av m H d v) : SE g W X e (.lit d) := fun pk =>
  PE.weak h fun σ H Q ⟨F, m, z, eg, o, h⟩ => h [v] H m (PP.refl o (RF_.up ⟨_, _, rfl, r _ _ _ _ _, rfl⟩)) v rfl
theorem sa_nil : SA g W X [] .nil := fun pk => PA.weak pa_nil fun σ H Q ⟨F, m, z, eg, o, h⟩ => h [] H m (PP.refl o (RF_.up rfl))

/-- the first part, then the rest -/
theorem aft_cons {m : List Addr} {z : Z} {σ : L2.St} {H : Hp} {pk : Bool} {a r : E} {Q : List V → Hp → Prop} (o : Ok F m z σ H) (h : aft F W m z σ H (a.np && r.np) pk (evE pk (.cons a r) z) Q) :
    aft F W m z σ H a.np (pk && r.np) (evE (pk && r.np) a z) fun vs H1 => ∃ m1 z1, Ok F m1 z1 σ H1 ∧ aft F W m1 z1 σ H1 r.np pk (evE pk r z1) fun ws H2 => Q (vs ++ ws) H2 := by
  unfold evE at h
  cases e : evE (pk && r.np) a z with
  | bad => rw [e] at h; exact h.elim
  | exn c ds z1 => rw [e] at h; exact h
  | ok xs z1 =>
    rw [e] at h
    intro vs H1 m1 p
    refine ⟨m1, z1, p.ok, ?_⟩
    have h : aft F W m z σ H (a.np && r.np) pk ((evE pk r z1).bind fun ys z2 => .ok (xs ++ ys) z2) Q := h
    cases e2 : evE pk r z1 with
    | bad => rw [e2] at h; exact h.elim
    | exn c ds z2 =>
      rw [e2] at h
      exact fun cls d H2 m2 q => h cls d H2 m2 (p.exn q)
    | ok ys z2 =>
      rw [e2] at h
      exact fun ws H2 m2 q => h _ H2 m2 (p.cons q)
theorem starEach_cons {e : Expr} {es : List Expr} {env : Env} (h : ∀ x p, e ≠ .Starred x p) : starEach (e :: es) env = (false, eval e env) :: starEach es env := by
  cases e <;> first | rfl | exact absurd rfl (h _ _)
theorem sa_cons {e : Expr} {es : List Expr} {a r : E} (ha : SE g W X e a) (hr : SA g W X es r) (hs : ∀ x p, e ≠ .Starred x p) : SA g W X (e :: es) (.cons a r) := fun pk =>
  PA.weak (pa_cons (ha (pk && r.np)) (hr pk) (starEach_cons hs)) fun σ H Q ⟨F, m, z, eg, o, h⟩ => by
    refine ⟨F, m, z, eg, o, ?_⟩
    have q := aft_cons o h
    cases e1 : evE (pk && r.np) a z with
    | bad => rw [e1] at q; exact q
    | exn c ds z1 => rw [e1] at q; exact q
    | ok ds z1 =>
      rw [e1] at q
      intro vs H1 m1 p v ev
      subst ev
      obtain ⟨m2, z2, o2, q2⟩ := q _ H1 m1 p
      exact ⟨F, m2, z2, eg, o2, q2⟩
end

end G
end
section
set_option Elab.async false
set_option linter.all false
set_option maxHeartbeats 1000000
/-! GE2: displays, primitives, tests, calls. -/
namespace G
open PySem PySem.Spec PyProof.Rows L2
theorem big_line {n : Nat} (h : n ≤ big) : n ≤ sizeLine := Nat.le_trans h (by rw [sizeLine_eq]; decide)
theorem same_new {H : Hp} {p : Addr} {o : HO} (h : H p = none) : Same H (upd H p o) := fun a u e => by
  rw [upd_ne (ne_of_none e h)]
  exact e
/-- one address more that is not to be touched -/
def Fx.plus (F : Fx) (p : Addr) : Fx := { F with N0 := fun a => F.N0 a ∨ a = p }
section
variable {F : Fx} {m : List Addr} {z : Z} {σ : L2.St} {H H' : Hp} {p : Addr}
theorem plus_av {a : Addr} (h : Avs (F.plus p) m z σ a) : Avs F m z σ a ∨ a = p := by
  rcases h with ((h | h) | h) | h
  · exact .inl (.inl (.inl h))
  · exact .inr h
  · exact .inl (.inl (.inr h))
  · exact .inl (.inr h)
theorem av_plus {a : Addr} (h : Avs F m z σ a) : Avs (F.plus p) m z σ a := by
  rcases h with (h | h) | h
  · exact .inl (.inl (.inl h))
  · exact .inl (.inr h)
  · exact .inr h
theorem Ok.free0 (o : Ok F m z σ H) (hp : H p = none) : F.H0 p = none := by
  cases e : F.H0 p with
  | none => rfl
  | some u =>
    exfalso
    by_cases hm : p ∈ F.m0
    · obtain ⟨w, q⟩ := o.n0 p (o.m0n p hm)
      rw [hp] at q; cases q
    · have q := o.fr p u e hm
      rw [hp] at q; cases q
theorem plus_gt (hp : H p = none) (s : Same H H') : Gt (Avs F m z σ) (Avs (F.plus p) m z σ) m m H H' := by
  refine ⟨fun a u h _ => s a u h, fun a xs h => s a _ h, fun a u w h => s a _ h, fun a u h q => ?_, List.prefix_refl m, fun a u h => ⟨u, s a u h⟩⟩
  rcases plus_av q with q | q
  · exact q
  · rw [q, hp] at h
    cases h
theorem Ok.plus (o : Ok F m z σ H) (hp : H p = none) (s : Same H H') (hq : ∃ u, H' p = some u) : Ok (F.plus p) m z σ H' := by
  have g := plus_gt (F := F) (m := m) (z := z) (σ := σ) hp s
  refine ⟨o.len, o.ml, o.nd, fun k a d h1 h2 => (o.cells k a d h1 h2).mono g (s a), fun i d h => ?_, fun i d h => ?_, o.inj, o.new, fun i d a h1 h2 => ?_, o.pre, o.mnew, fun a u h n => s a u (o.fr a u h n), fun a h => ?_, fun a h => .inl (o.m0n a h)⟩
  · obtain ⟨v, e, r⟩ := o.val i d h
    exact ⟨v, e, Rep.mono g d v r⟩
  · obtain ⟨a, e, t⟩ := o.own i d h
    exact ⟨a, e, t.mono g (s a)⟩
  · obtain ⟨n1, n2⟩ := o.newO i d a h1 h2
    refine ⟨?_, n2⟩
    rintro (q | q)
    · exact n1 q
    · obtain ⟨w, e⟩ := o.stands (a := a) (.inr ⟨i, ⟨d, .inl h1⟩, h2⟩)
      rw [q, hp] at e; cases e
  · rcases h with h | h
    · obtain ⟨u, q⟩ := o.n0 a h
      exact ⟨u, s a u q⟩
    · rw [h]; exact hq
end
/-- a new object, let alone by all else -/
def Fresh (F : Fx) (H : Hp) (m' : List Addr) (z' : Z) (σ : L2.St) (H' : Hp) (d : D) (v : V) : Prop :=
  ∃ p, v = .ref p ∧ H p = none ∧ ¬ Avs F m' z' σ p ∧ F.H0 p = none ∧ Ok (F.plus p) m' z' σ H' ∧ Top F.g.K F.g.cl (Avs (F.plus p) m' z' σ) m' H' p d
/-- .. where the value is a new object -/
def aftF (F : Fx) (W : WX) (m : List Addr) (z : Z) (σ : L2.St) (H : Hp) (np : Bool) (r : R (List D)) (Q : V → Hp → Prop) : Prop :=
  match r with
  | .ok ds z' => ∀ v H' m', PP F m z σ H np true [] z' [] H' m' → Fresh F H m' z' σ H' (ds.headD .non) v → Q v H'
  | .exn c ds z' => ∀ cls d H' m', PX F m z σ H c ds z' cls d H' m' → W cls d σ H'
  | .bad => False
def tDf (g : Gx) (W : WX) (e : E) : TE := fun σ H Q => ∃ F m z, F.g = g ∧ Ok F m z σ H ∧ aftF F W m z σ H e.np (evE false e z) Q
/-- an expression that makes a new list -/
def SF (g : Gx) (W : WX) (X : Cx) (e : Expr) (E : E) : Prop := PE X e (tDf g W E)
/-- where peeking makes no difference -/
def E.still : E → Bool
  | .keepD _ => true
  | .dctE _ _ => true
  | .lstE _ => true
  | .tupE _ => true
  | .prim _ _ => true
  | .comp _ _ _ _ => true
  | .comp2 _ _ _ _ _ _ => true
  | .chain _ _ _ _ _ => true
  | .call _ _ => true
  | _ => false
theorem still_ev {e : E} (h : e.still = true) (pk : Bool) (z : Z) : evE pk e z = evE false e z := by
  cases e <;> first | (cases h; done) | (unfold evE; rfl)
/-- what makes a new list, by form -/
def E.isL : E → Bool
  | .lstE _ => true
  | .comp _ _ _ _ => true
  | .comp2 _ _ _ _ _ _ => true
  | _ => false
theorem isL_still {e : E} (h : e.isL = true) : e.still = true := by
  cases e <;> first | (cases h; done) | rfl
theorem isL_ev {e : E} (h : e.isL = true) {z : Z} {ds : List D} {z1 : Z} (e1 : evE false e z = .ok ds z1) : ∃ xs, ds = [.lst xs] := by
  cases e <;> first | (cases h; done) | skip
  · rename_i es
    rw [evE] at e1
    cases e2 : evE false es z with
    | bad => rw [e2] at e1; cases e1
    | exn c ds z1 => rw [e2] at e1; cases e1
    | ok xs z2 =>
      rw [e2] at e1
      have e1 : (if xs.length ≤ big then R.ok [D.lst xs] z2 else .bad) = .ok ds z1 := e1
      by_cases hl : xs.length ≤ big
      · rw [if_pos hl] at e1
        cases e1
        exact ⟨xs, rfl⟩
      · rw [if_neg hl] at e1
        cases e1
  · rename_i tg it c e
    rw [evE] at e1
    cases e2 : evE true it z with
    | bad => rw [e2] at e1; cases e1
    | exn c ds z1 => rw [e2] at e1; cases e1
    | ok xs z2 =>
      rw [e2] at e1
      simp only [R.bind] at e1
      repeat' split at e1
      all_goals first | (cases e1; done) | (cases e1; exact ⟨_, rfl⟩)
  · rename_i tg it tg2 it2 c e
    rw [evE] at e1
    cases e2 : evE true it z with
    | bad => rw [e2] at e1; cases e1
    | exn c ds z1 => rw [e2] at e1; cases e1
    | ok xs z2 =>
      rw [e2] at e1
      simp only [R.bind] at e1
      repeat' split at e1
      all_goals first | (cases e1; done) | (cases e1; exact ⟨_, rfl⟩)
theorem Fresh.rep {F : Fx} {H H' : Hp} {m' : List Addr} {z' : Z} {σ : L2.St} {xs : List D} {v : V} (f : Fresh F H m' z' σ H' (.lst xs) v) : Rep F.g.K F.g.cl (Avs F m' z' σ) m' H' (.lst xs) v := by
  obtain ⟨p, rfl, h, na, h0, o, vs, hv, r⟩ := f
  exact ⟨p, vs, rfl, hv, na, Reps.mono (less_gt fun a q => av_plus q) xs vs r⟩
theorem aft_F {F : Fx} {W : WX} {m : List Addr} {z : Z} {σ : L2.St} {H : Hp} {np pk : Bool} {r : R (List D)} {Q : VK} (hl : ∀ ds z', r = .ok ds z' → ∃ xs, ds = [.lst xs]) (h : aft F W m z σ H np pk r fun vs H' => ∀ v, vs = [v] → Q v H') : aftF F W m z σ H np r Q := by
  cases r with
  | bad => exact h
  | exn c ds z1 => exact h
  | ok ds z1 =>
    obtain ⟨xs, rfl⟩ := hl ds z1 rfl
    intro v H' m' p f
    exact h [v] H' m' ⟨p.ok, p.gt, p.np, RF_.up ⟨_, _, rfl, f.rep, rfl⟩⟩ v rfl
section
variable {g : Gx} {W : WX} {X : Cx} {pos : Pos}
theorem SF.se {e : Expr} {E : E} (h : SF g W X e E) (hs : E.isL = true) : SE g W X e E := fun pk => PE.weak h fun σ H Q ⟨F, m, z, eg, o, h⟩ => by
  rw [still_ev (isL_still hs) pk] at h
  exact ⟨F, m, z, eg, o, aft_F (fun _ _ q => isL_ev hs q) h⟩
theorem se_tup {es : List Expr} {e : E} {x1} (h : SA g W X es e) : SE g W X (.Tuple es x1 pos) (.tupE e) := fun pk =>
  PE.weak (pe_tup (h false)) fun σ H Q ⟨F, m, z, eg, o, h⟩ => by
    refine ⟨F, m, z, eg, o, ?_⟩
    unfold evE at h
    cases e1 : evE false e z with
    | bad => rw [e1] at h; exact h.elim
    | exn c ds z1 => rw [e1] at h; exact h
    | ok xs z1 =>
      rw [e1] at h
      have h : aft F W m z σ H (E.np (.tupE e)) pk (if xs.length ≤ big then .ok [.tup xs] z1 else .bad) _ := h
      intro vs H1 m1 p
      by_cases hl : xs.length ≤ big
      · rw [if_pos hl] at h
        have r : Reps F.g.K F.g.cl (Avs F m1 z1 σ) m1 H1 xs vs := p.rp
        refine ⟨by rw [r.length]; exact big_line hl, fun q hq => ?_⟩
        refine h _ _ m1 (p.more (same_new hq) ⟨_, _, rfl, ⟨q, vs, rfl, upd_same, Reps.mono (same_gt (same_new hq)) xs vs r⟩, rfl⟩) _ rfl
      · rw [if_neg hl] at h
        exact h.elim
theorem PP.dropT {F : Fx} {m m1 : List Addr} {z z1 : Z} {σ : L2.St} {H H1 : Hp} {np pk : Bool} {ds : List D} {vs : List V} (p : PP F m z σ H np pk ds z1 vs H1 m1) : PP F m z σ H np true [] z1 [] H1 m1 := ⟨p.ok, p.gt, p.np, rfl⟩
/-- a list of values is laid at q -/
theorem fresh_lst {F : Fx} {m m1 : List Addr} {z z1 : Z} {σ : L2.St} {H H1 : Hp} {np pk : Bool} {ds xs : List D} {vs ws : List V} {q : Addr} (p : PP F m z σ H np pk ds z1 ws H1 m1) (hq : H1 q = none) (r : Reps F.g.K F.g.cl (Avs F m1 z1 σ) m1 H1 xs vs) :
    PP F m z σ H np false [.lst xs] z1 [.ref q] (upd H1 q (.lst vs)) m1 ∧ Fresh F H m1 z1 σ (upd H1 q (.lst vs)) (.lst xs) (.ref q) := by
  have na : ¬ Avs F m1 z1 σ q := fun w => by
    obtain ⟨u, w⟩ := p.ok.stands w
    rw [hq] at w
    cases w
  have s := same_new (o := .lst vs) hq
  have hq0 : H q = none := by
    cases e : H q with
    | none => rfl
    | some u =>
      obtain ⟨u', e'⟩ := p.gt.there q u e
      rw [hq] at e'
      cases e'
  refine ⟨p.more s ⟨_, _, rfl, ⟨q, vs, rfl, upd_same, na, Reps.mono (same_gt s) xs vs r⟩, rfl⟩, q, rfl, hq0, na, p.ok.free0 hq, p.ok.plus hq s ⟨_, upd_same⟩, vs, upd_same, Reps.mono (plus_gt hq s) xs vs r⟩
theorem sf_lst {es : List Expr} {e : E} (h : SA g W X es e) : SF g W X (.List es pos) (.lstE e) :=
  PE.weak (pe_lst (h false)) fun σ H Q ⟨F, m, z, eg, o, h⟩ => by
    refine ⟨F, m, z, eg, o, ?_⟩
    unfold evE at h
    cases e1 : evE false e z with
    | bad => rw [e1] at h; exact h.elim
    | exn c ds z1 => rw [e1] at h; exact h
    | ok xs z1 =>
      rw [e1] at h
      have h : aftF F W m z σ H (E.np (.lstE e)) (if xs.length ≤ big then .ok [.lst xs] z1 else .bad) _ := h
      intro vs H1 m1 p
      by_cases hl : xs.length ≤ big
      · rw [if_pos hl] at h
        have r : Reps F.g.K F.g.cl (Avs F m1 z1 σ) m1 H1 xs vs := p.rp
        refine ⟨by rw [r.length]; exact big_line hl, fun q hq => ?_⟩
        obtain ⟨p1, f1⟩ := fresh_lst p hq r
        exact h _ _ m1 p1.dropT f1
      · rw [if_neg hl] at h
        exact h.elim

/-! ### primitives -/
/-- a primitive's rule: it looks at the values, makes at most new objects -/
def PrR (g : Gx) (f : Pr) (r : List V → Hp → VK → Prop) : Prop :=
  ∀ (Ap Av : Addr → Prop) (m : List Addr) (H : Hp) (hp ds : List D) (vs : List V) (d : D) (Q : VK), (∀ a, Av a → ∃ u, H a = some u) → (∀ a, Ap a → Av a) → m.length = hp.length →
    (∀ (k : Nat) (a : Addr) (c : D), m[k]? = some a → hp[k]? = some c → Top g.K g.cl Av m H a c) → RepsP g.K g.cl Ap Av m H ds vs → f hp ds = some d →
    (∀ v H', Same H H' → Rep g.K g.cl Av m H' d v → Q v H') → r vs H Q
theorem se_prim {e : Expr} {f : Pr} {es : E} {r : List V → Hp → VK → Prop} {te : TE} (hr : PrR g f r) (h : PE X e te) (w : ∀ σ H Q, tDs g W true es σ H (fun vs H1 => r vs H1 Q) → te σ H Q) : SE g W X e (.prim f es) := fun pk =>
  PE.weak h fun σ H Q ⟨F, m, z, eg, o, h⟩ => by
    refine w σ H Q ⟨F, m, z, eg, o, ?_⟩
    unfold evE at h
    cases e1 : evE true es z with
    | bad => rw [e1] at h; exact h.elim
    | exn c ds z1 => rw [e1] at h; exact h
    | ok xs z1 =>
      rw [e1] at h
      have h : aft F W m z σ H (E.np (.prim f es)) pk (match f z1.hp xs with | some d => .ok [d] z1 | none => .bad) _ := h
      intro vs H1 m1 p
      cases e2 : f z1.hp xs with
      | none => rw [e2] at h; exact h.elim
      | some d =>
        rw [e2] at h
        subst eg
        exact hr (AvP F m1) (Avs F m1 z1 σ) m1 H1 z1.hp xs vs d Q (fun a => p.ok.stands) avP_avs p.ok.ml p.ok.cells p.rp e2 fun v H2 s rp => h [v] H2 m1 (p.more s ⟨v, [], rfl, rp, rfl⟩) v rfl
/-- one argument, two, three -/
theorem t_one {F : Fx} {m : List Addr} {z : Z} {σ : L2.St} {H : Hp} {pk : Bool} {a : E} {Q : List V → Hp → Prop} (o : Ok F m z σ H) (h : aft F W m z σ H (E.np (.cons a .nil)) pk (evE pk (.cons a .nil) z) Q) :
    aft F W m z σ H a.np (pk && true) (evE (pk && true) a z) fun vs H1 => Q vs H1 := by
  have q := aft_cons (r := .nil) o h
  have e0 : (pk && E.np .nil) = (pk && true) := rfl
  rw [e0] at q
  cases e1 : evE (pk && true) a z with
  | bad => rw [e1] at q; exact q
  | exn c ds z1 => rw [e1] at q; exact q
  | ok ds z1 =>
    rw [e1] at q
    intro vs H1 m1 p
    obtain ⟨m2, z2, o2, q2⟩ := q vs H1 m1 p
    have q3 : Q (vs ++ []) H1 := q2 [] H1 m2 (PP.refl o2 (RF_.up rfl))
    rw [List.append_nil] at q3
    exact q3
theorem tds_one {pk : Bool} {a : E} {σ : L2.St} {H : Hp} {R : List V → Hp → Prop} (h : tDs g W pk (.cons a .nil) σ H R) : tD g W (pk && true) a σ H fun x H1 => R [x] H1 := by
  obtain ⟨F, m, z, eg, o, h⟩ := h
  refine ⟨F, m, z, eg, o, ?_⟩
  have q := t_one o h
  cases e1 : evE (pk && true) a z with
  | bad => rw [e1] at q; exact q
  | exn c ds z1 => rw [e1] at q; exact q
  | ok ds z1 =>
    rw [e1] at q
    intro vs H1 m1 p v ev
    subst ev
    exact q _ H1 m1 p
theorem tds_cons {pk : Bool} {a r : E} {σ : L2.St} {H : Hp} {R : List V → Hp → Prop} (h : tDs g W pk (.cons a r) σ H R) : tD g W (pk && r.np) a σ H fun x H1 => tDs g W pk r σ H1 fun ys H2 => R (x :: ys) H2 := by
  obtain ⟨F, m, z, eg, o, h⟩ := h
  refine ⟨F, m, z, eg, o, ?_⟩
  have q := aft_cons o h
  cases e1 : evE (pk && r.np) a z with
  | bad => rw [e1] at q; exact q
  | exn c ds z1 => rw [e1] at q; exact q
  | ok ds z1 =>
    rw [e1] at q
    intro vs H1 m1 p v ev
    subst ev
    obtain ⟨m2, z2, o2, q2⟩ := q _ H1 m1 p
    exact ⟨F, m2, z2, eg, o2, q2⟩
theorem tD_mono {pk : Bool} {a : E} {σ : L2.St} {H : Hp} {Q Q' : VK} (h : tD g W pk a σ H Q) (w : ∀ v H', Q v H' → Q' v H') : tD g W pk a σ H Q' := by
  obtain ⟨F, m, z, eg, o, h⟩ := h
  refine ⟨F, m, z, eg, o, ?_⟩
  cases e1 : evE pk a z with
  | bad => rw [e1] at h; exact h
  | exn c ds z1 => rw [e1] at h; exact h
  | ok ds z1 =>
    rw [e1] at h
    exact fun vs H1 m1 p v ev => w _ _ (h vs H1 m1 p v ev)
/-- by the value of two parts -/
theorem se_p2 {e : Expr} {f : Pr} {a b : Expr} {A B : E} {r : R2} (hr : PrR g f fun vs H Q => ∃ x y, vs = [x, y] ∧ r x y H Q) (ha : SE g W X a A) (hb : SE g W X b B) (h : ∀ ta tb, PE X a ta → PE X b tb → PE X e (tOp r ta tb)) : SE g W X e (.prim f (.cons A (.cons B .nil))) :=
  se_prim hr (h _ _ (ha (true && E.np (.cons B .nil))) (hb (true && true))) fun σ H Q q => by
    refine tD_mono (tds_cons q) fun x H1 q1 => tD_mono (tds_one q1) fun y H2 q2 => ?_
    obtain ⟨x', y', e, q2⟩ := q2
    injection e with e1 e2
    injection e2 with e2 _
    subst e1 e2
    exact q2
theorem se_p1 {e : Expr} {f : Pr} {a : Expr} {A : E} {r : V → Hp → VK → Prop} (hr : PrR g f fun vs H Q => ∃ x, vs = [x] ∧ r x H Q) (ha : SE g W X a A) (h : ∀ ta, PE X a ta → PE X e (tUn r ta)) : SE g W X e (.prim f (.cons A .nil)) :=
  se_prim hr (h _ (ha (true && true))) fun σ H Q q => by
    refine tD_mono (tds_one q) fun x H1 q1 => ?_
    obtain ⟨x', e, q2⟩ := q1
    injection e with e1 e2
    subst e1
    exact q2
theorem se_bin {op : Operator} {f : Pr} {a b : Expr} {A B : E} {r : R2} (ho : OpR X (binaryOp op) r) (hr : PrR g f fun vs H Q => ∃ x y, vs = [x, y] ∧ r x y H Q) (ha : SE g W X a A) (hb : SE g W X b B) : SE g W X (.BinOp a op b pos) (.prim f (.cons A (.cons B .nil))) :=
  se_p2 hr ha hb fun _ _ h1 h2 => pe_op ho h1 h2
theorem se_cmp {op : CmpOp} {f : Pr} {a b : Expr} {A B : E} {r : R2} (ho : OpR X (compareOp op) r) (hr : PrR g f fun vs H Q => ∃ x y, vs = [x, y] ∧ r x y H Q) (ha : SE g W X a A) (hb : SE g W X b B) (hm : behindInMarks op b = false) : SE g W X (.Compare a [op] [b] pos) (.prim f (.cons A (.cons B .nil))) :=
  se_p2 hr ha hb fun _ _ h1 h2 => pe_cmpR ho h1 h2 hm
theorem se_un {op : UnaryOp} {f : Pr} {a : Expr} {A : E} {r : V → Hp → VK → Prop} (ho : UnR X (unaryOp op) r) (hr : PrR g f fun vs H Q => ∃ x, vs = [x] ∧ r x H Q) (ha : SE g W X a A) : SE g W X (.UnaryOp op a pos) (.prim f (.cons A .nil)) :=
  se_p1 hr ha fun _ h1 => pe_un ho h1
theorem se_ix {f : Pr} {a b : Expr} {A B : E} {r : R2} (ho : IxR X r) (hr : PrR g f fun vs H Q => ∃ x y, vs = [x, y] ∧ r x y H Q) (ha : SE g W X a A) (hb : SE g W X b B) (hp : PlainIx b) : SE g W X (.Subscript a b pos) (.prim f (.cons A (.cons B .nil))) :=
  se_p2 hr ha hb fun _ _ h1 h2 => pe_ix ho h1 h2 hp
end
end G
end
section
set_option Elab.async false
set_option linter.all false
set_option maxHeartbeats 1000000
/-! GT: tests, and, or, not, if-else, chains, calls of built-in functions. -/
namespace G
open PySem PySem.Spec PyProof.Rows L2

def evTp (pk : Bool) (c : E) (z : Z) : R Bool := (evE pk c z).bind fun x z1 => match truth z1.hp (x.headD .non) with
  | some b => .ok b z1
  | none => .bad
theorem evT_p (c : E) (z : Z) : evT c z = evTp true c z := rfl
def aftT (F : Fx) (W : WX) (m : List Addr) (z : Z) (σ : L2.St) (H : Hp) (np : Bool) (r : R Bool) (Q : Bool → Hp → Prop) : Prop :=
  match r with
  | .ok b z' => ∀ H' m', PP F m z σ H np true [] z' [] H' m' → Q b H'
  | .exn c ds z' => ∀ cls d H' m', PX F m z σ H c ds z' cls d H' m' → W cls d σ H'
  | .bad => False
def tT (g : Gx) (W : WX) (pk : Bool) (e : E) : TT := fun σ H Q => ∃ F m z, F.g = g ∧ Ok F m z σ H ∧ aftT F W m z σ H e.np (evTp pk e z) Q
def ST (g : Gx) (W : WX) (X : Cx) (e : Expr) (E : E) : Prop := ∀ pk, PT X e (tT g W pk E)
def SW (g : Gx) (W : WX) (X : Cx) (e : Expr) (E : E) : Prop := ∀ pk, PW X e (tT g W pk E)
theorem SW.st {g : Gx} {W : WX} {X : Cx} {e : Expr} {E : E} (h : SW g W X e E) : ST g W X e E := fun pk => (h pk).pt
theorem PW.weak {X : Cx} {e : Expr} {t u : TT} (h : PW X e t) (w : ∀ σ H Q, u σ H Q → t σ H Q) : PW X e u := ⟨fun wh pins s σ H Q I q => h.run wh pins s σ H Q I (w σ H Q q)⟩

section
variable {F : Fx} {g : Gx} {W : WX} {X : Cx} {pos : Pos} {m m1 m2 : List Addr} {z z1 z2 : Z} {σ : L2.St} {H H1 H2 : Hp}
theorem empty_len {vs : List V} {xs : List D} (h : vs.length = xs.length) : (!vs.isEmpty) = !xs.isEmpty := by
  cases vs <;> cases xs <;> first | rfl | (simp at h)
theorem truV {K : PySem.W.Frag} {cl : Nat → CI} {Ap Av : Addr → Prop} {hp : List D} {d : D} {v : V} {b : Bool} (hc : ∀ (k : Nat) (a : Addr) (c : D), m[k]? = some a → hp[k]? = some c → Top K cl Av m H a c) (hl : m.length = hp.length)
    (h : RepP K cl Ap Av m H d v) (e : truth hp d = some b) : TruV K v H b := by
  cases d with
  | non => cases h; cases e; rfl
  | bl c => cases h; cases e; rfl
  | int i => cases h; cases e; rfl
  | str x =>
    obtain ⟨rfl, _, h2⟩ := h
    cases e
    exact ⟨big_line h2, rfl⟩
  | tup xs =>
    obtain ⟨a, vs, rfl, q, r⟩ := h
    cases e
    exact .inr (.inl ⟨vs, SqT.of q, (empty_len r.length).symm⟩)
  | lst xs =>
    obtain ⟨a, vs, rfl, q, _, r⟩ := h
    cases e
    exact .inl ⟨vs, SqL.of q, (empty_len r.length).symm⟩
  | dct _ _ _ => cases e
  | ref k =>
    obtain ⟨a, q, rfl⟩ := h
    have hk : k < hp.length := by rw [← hl]; exact (List.getElem?_eq_some_iff.mp q).1
    have q2 : hp[k]? = some (hp.getD k .non) := by rw [List.getD_eq_getElem?_getD, List.getElem?_eq_getElem hk]; rfl
    have t := hc k a _ q q2
    unfold truth view at e
    cases e3 : hp.getD k .non with
    | lst xs =>
      rw [e3] at t
      obtain ⟨vs, w, r⟩ := t
      simp only [e3] at e
      cases e
      exact .inl ⟨vs, SqL.of w, (empty_len r.length).symm⟩
    | dct tk ks ws =>
      simp only [e3] at e
      cases e
    | ins c fs =>
      simp only [e3] at e
      cases e
    | _ =>
      rw [e3] at t
      exact t.elim
  | ins c fs => cases e
  | scr ns => cases e
theorem rf_head {pk : Bool} {ds : List D} {v : V} (h : RF_ F pk m z σ H ds [v]) : ∃ d, ds = [d] ∧ RepP F.g.K F.g.cl (AvP F m) (Avs F m z σ) m H d v := by
  have h : RepsP F.g.K F.g.cl (AvP F m) (Avs F m z σ) m H ds [v] := by
    cases pk with
    | true => exact h
    | false => exact Reps.peek avP_avs h
  cases ds with
  | nil => cases h
  | cons d ds =>
    obtain ⟨w, r, e, q, t⟩ := h
    cases e
    have e2 := t.length
    cases ds with
    | nil => exact ⟨d, rfl, q⟩
    | cons _ _ => simp at e2
theorem PP.drop {np pk : Bool} {ds : List D} {vs : List V} (p : PP F m z σ H np pk ds z1 vs H1 m1) : PP F m z σ H np true [] z1 [] H1 m1 := ⟨p.ok, p.gt, p.np, rfl⟩
/-- a test by its value's truth -/
theorem st_truth {e : Expr} {E : E} (h : SE g W X e E) (he : ∀ whole, isTrue e X.env whole = (do let v ← whole; standAt e.pos; holding [v] (truthy v))) (hK : X.K = g.K) : ST g W X e E := fun pk =>
  PT.weak (pt_truth (h pk) he) fun σ H Q ⟨F, m, z, eg, o, h⟩ => by
    refine ⟨F, m, z, eg, o, ?_⟩
    unfold evTp at h
    cases e1 : evE pk E z with
    | bad => rw [e1] at h; exact h.elim
    | exn c ds z1 => rw [e1] at h; exact h
    | ok ds z1 =>
      rw [e1] at h
      have h : aftT F W m z σ H E.np (match truth z1.hp (ds.headD .non) with | some b => .ok b z1 | none => .bad) Q := h
      intro vs H1 m1 p v ev
      subst ev
      obtain ⟨d, rfl, r⟩ := rf_head p.rp
      cases e2 : truth z1.hp (([d] : List D).headD .non) with
      | none => rw [e2] at h; exact h.elim
      | some b =>
        rw [e2] at h
        refine ⟨b, ?_, h H1 m1 p.drop⟩
        rw [hK, ← eg]
        exact truV p.ok.cells p.ok.ml r e2
/-- a test whose value is a bool by form -/
theorem st_bool {e : Expr} {E : E} {te : TE} (hs : E.still = true) (hb : ∀ z ds z1, evE true E z = .ok ds z1 → ∃ b, ds = [.bl b]) (h : PT X e (tTest te)) (w : ∀ σ H Q, tD g W true E σ H Q → te σ H Q) : ST g W X e E := fun pk =>
  PT.weak h fun σ H Q ⟨F, m, z, eg, o, h⟩ => by
    refine w σ H _ ⟨F, m, z, eg, o, ?_⟩
    unfold evTp at h
    rw [still_ev hs pk, ← still_ev hs true] at h
    cases e1 : evE true E z with
    | bad => rw [e1] at h; exact h.elim
    | exn c ds z1 => rw [e1] at h; exact h
    | ok ds z1 =>
      obtain ⟨b, rfl⟩ := hb z ds z1 e1
      rw [e1] at h
      intro vs H1 m1 p v ev
      subst ev
      obtain ⟨d, e, r⟩ := rf_head p.rp
      cases e
      exact ⟨b, r, h H1 m1 p.drop⟩
theorem prim_bool {f : Pr} {es : E} (hf : ∀ hp ds d, f hp ds = some d → ∃ b, d = .bl b) (z : Z) (ds : List D) (z1 : Z) (e1 : evE true (.prim f es) z = .ok ds z1) : ∃ b, ds = [.bl b] := by
  unfold evE at e1
  cases e2 : evE true es z with
  | bad => rw [e2] at e1; cases e1
  | exn c ds z1 => rw [e2] at e1; cases e1
  | ok xs z2 =>
    rw [e2] at e1
    have e1 : (match f z2.hp xs with | some d => R.ok [d] z2 | none => .bad) = R.ok ds z1 := e1
    cases e3 : f z2.hp xs with
    | none => rw [e3] at e1; cases e1
    | some d =>
      rw [e3] at e1
      cases e1
      obtain ⟨b, rfl⟩ := hf _ _ _ e3
      exact ⟨b, rfl⟩

/-! ### and, or, not -/
theorem tT_bind {pk pk' : Bool} {a : E} {np : Bool} {Q : Bool → Hp → Prop} {k : List D → Z → R Bool} (o : Ok F m z σ H) (h : aftT F W m z σ H (a.np && np) ((evE pk a z).bind k) Q)
    {Q' : Bool → Hp → Prop} (w : ∀ b x z1 H1 m1, evE pk a z = .ok x z1 → truth z1.hp (x.headD .non) = some b → PP F m z σ H a.np true [] z1 [] H1 m1 → aftT F W m z σ H (a.np && np) (k x z1) Q → Q' b H1)
    (wb : ∀ x z1, truth z1.hp (x.headD .non) = none → k x z1 = .bad) : aftT F W m z σ H a.np (evTp pk a z) Q' := by
  unfold evTp
  cases e1 : evE pk a z with
  | bad => rw [e1] at h; exact h.elim
  | exn c ds z1 => rw [e1] at h; exact h
  | ok x z1 =>
    rw [e1] at h
    have h : aftT F W m z σ H (a.np && np) (k x z1) Q := h
    show aftT F W m z σ H a.np (match truth z1.hp (x.headD .non) with | some b => .ok b z1 | none => .bad) Q'
    cases e2 : truth z1.hp (x.headD .non) with
    | none => rw [wb x z1 e2] at h; exact h.elim
    | some b => exact fun H1 m1 p => w b x z1 H1 m1 e1 e2 p h
theorem PP.transT {npa npb : Bool} (a : PP F m z σ H npa true [] z1 [] H1 m1) (b : PP F m1 z1 σ H1 npb true [] z2 [] H2 m2) : PP F m z σ H (npa && npb) true [] z2 [] H2 m2 := a.trans b
theorem aftT_after {npa npb : Bool} {r : R Bool} {Q : Bool → Hp → Prop} (p : PP F m z σ H npa true [] z1 [] H1 m1) (h : aftT F W m z σ H (npa && npb) r Q) : aftT F W m1 z1 σ H1 npb r Q := by
  cases r with
  | bad => exact h
  | exn c ds z2 => exact fun cls d H2 m2 q => h cls d H2 m2 (p.exn q)
  | ok b z2 => exact fun H2 m2 q => h H2 m2 (p.transT q)
theorem PP.npw {np np' : Bool} {pk : Bool} {ds : List D} {vs : List V} (p : PP F m z σ H np pk ds z1 vs H1 m1) (h : np' = true → np = true) : PP F m z σ H np' pk ds z1 vs H1 m1 := ⟨p.ok, p.gt, fun q => p.np (h q), p.rp⟩
theorem and_left {a b : Bool} (h : (a && b) = true) : a = true := by
  rw [Bool.and_eq_true] at h
  exact h.1
theorem evTp_and (pk : Bool) (a b : E) (z : Z) : evTp pk (.and a b) z = (evE (pk && b.np) a z).bind fun x z1 => match truth z1.hp (x.headD .non) with
    | some true => evTp pk b z1
    | some false => .ok false z1
    | none => .bad := by
  unfold evTp
  rw [evE]
  cases e1 : evE (pk && b.np) a z with
  | bad => rfl
  | exn c ds z1 => rfl
  | ok x z1 =>
    simp only [R.bind]
    cases e2 : truth z1.hp (x.headD .non) with
    | none => rfl
    | some t =>
      cases t with
      | true => rfl
      | false => simp only [e2]
theorem evTp_or (pk : Bool) (a b : E) (z : Z) : evTp pk (.or a b) z = (evE (pk && b.np) a z).bind fun x z1 => match truth z1.hp (x.headD .non) with
    | some true => .ok true z1
    | some false => evTp pk b z1
    | none => .bad := by
  unfold evTp
  rw [evE]
  cases e1 : evE (pk && b.np) a z with
  | bad => rfl
  | exn c ds z1 => rfl
  | ok x z1 =>
    simp only [R.bind]
    cases e2 : truth z1.hp (x.headD .non) with
    | none => rfl
    | some t =>
      cases t with
      | true => simp only [e2]
      | false => rfl
theorem evTp_not (pk : Bool) (a : E) (z : Z) : evTp pk (.not a) z = (evE true a z).bind fun x z1 => match truth z1.hp (x.headD .non) with
    | some b => .ok (!b) z1
    | none => .bad := by
  unfold evTp
  rw [evE]
  cases e1 : evE true a z with
  | bad => rfl
  | exn c ds z1 => rfl
  | ok x z1 =>
    simp only [R.bind]
    cases e2 : truth z1.hp (x.headD .non) with
    | none => rfl
    | some t => rfl
theorem sw_and1 {a : Expr} {A : E} (h : ST g W X a A) : SW g W X (.BoolOp .And [a] pos) A := fun pk => pw_and1 (h pk)
theorem sw_or1 {a : Expr} {A : E} (h : ST g W X a A) : SW g W X (.BoolOp .Or [a] pos) A := fun pk => pw_or1 (h pk)
theorem sw_and {a b : Expr} {rest : List Expr} {A B : E} (ha : ST g W X a A) (hb : SW g W X (.BoolOp .And (b :: rest) pos) B) : SW g W X (.BoolOp .And (a :: b :: rest) pos) (.and A B) := fun pk =>
  PW.weak (pw_and (ha (pk && B.np)) (hb pk)) fun σ H Q ⟨F, m, z, eg, o, h⟩ => by
    rw [evTp_and] at h
    refine ⟨F, m, z, eg, o, tT_bind (pk' := pk) o h (fun b x z1 H1 m1 _ e2 p q => ?_) fun x z1 e => by simp only [e]⟩
    simp only [e2] at q
    cases b with
    | true => exact ⟨F, m1, z1, eg, p.ok, aftT_after p q⟩
    | false => exact q H1 m1 (p.npw and_left)
theorem sw_or {a b : Expr} {rest : List Expr} {A B : E} (ha : ST g W X a A) (hb : SW g W X (.BoolOp .Or (b :: rest) pos) B) : SW g W X (.BoolOp .Or (a :: b :: rest) pos) (.or A B) := fun pk =>
  PW.weak (pw_or (ha (pk && B.np)) (hb pk)) fun σ H Q ⟨F, m, z, eg, o, h⟩ => by
    rw [evTp_or] at h
    refine ⟨F, m, z, eg, o, tT_bind (pk' := pk) o h (fun b x z1 H1 m1 _ e2 p q => ?_) fun x z1 e => by simp only [e]⟩
    simp only [e2] at q
    cases b with
    | true => exact q H1 m1 (p.npw and_left)
    | false => exact ⟨F, m1, z1, eg, p.ok, aftT_after p q⟩
theorem st_not {a : Expr} {A : E} (ha : ST g W X a A) : ST g W X (.UnaryOp .Not a pos) (.not A) := fun pk =>
  PT.weak (pt_not (ha true)) fun σ H Q ⟨F, m, z, eg, o, h⟩ => by
    rw [evTp_not] at h
    have hn : (E.not A).np = (A.np && true) := by rw [Bool.and_true]; rfl
    rw [hn] at h
    refine ⟨F, m, z, eg, o, tT_bind (pk' := pk) o h (fun b x z1 H1 m1 _ e2 p q => ?_) fun x z1 e => by simp only [e]⟩
    simp only [e2] at q
    exact q H1 m1 (p.npw and_left)

/-- as values -/
theorem aft_bind {pk : Bool} {a : E} {np pk2 : Bool} {Q : List V → Hp → Prop} {k : List D → Z → R (List D)} (o : Ok F m z σ H) (h : aft F W m z σ H (a.np && np) pk2 ((evE pk a z).bind k) Q)
    {Q' : List V → Hp → Prop} (w : ∀ x z1 vs H1 m1, evE pk a z = .ok x z1 → PP F m z σ H a.np pk x z1 vs H1 m1 → aft F W m z σ H (a.np && np) pk2 (k x z1) Q → Q' vs H1) : aft F W m z σ H a.np pk (evE pk a z) Q' := by
  cases e1 : evE pk a z with
  | bad => rw [e1] at h; exact h.elim
  | exn c ds z1 => rw [e1] at h; exact h
  | ok x z1 =>
    rw [e1] at h
    exact fun vs H1 m1 p => w x z1 vs H1 m1 e1 p h
theorem aft_after {npa npb pka pk : Bool} {ds : List D} {vs : List V} {r : R (List D)} {Q : List V → Hp → Prop} (p : PP F m z σ H npa pka ds z1 vs H1 m1) (h : aft F W m z σ H (npa && npb) pk r Q) : aft F W m1 z1 σ H1 npb pk r Q := by
  cases r with
  | bad => exact h
  | exn c ds z2 => exact fun cls d H2 m2 q => h cls d H2 m2 (p.exn q)
  | ok b z2 => exact fun ws H2 m2 q => h ws H2 m2 (p.trans q)
theorem se_and1 {op : BoolOp} {a : Expr} {A : E} (h : SE g W X a A) : SE g W X (.BoolOp op [a] pos) A := fun pk => pe_one (h pk)
/-- the flag of a first operand may be less than what is asked -/
theorem PP.pkw {np pk pk' : Bool} {ds : List D} {vs : List V} (p : PP F m z σ H np pk' ds z1 vs H1 m1) (h : pk' = true → pk = true) : PP F m z σ H np pk ds z1 vs H1 m1 := by
  refine ⟨p.ok, p.gt, p.np, ?_⟩
  cases pk' with
  | false => exact RF_.up p.rp
  | true =>
    rw [h rfl]
    exact p.rp
theorem se_and {a b : Expr} {rest : List Expr} {A B : E} (hK : X.K = g.K) (ha : SE g W X a A) (hb : SE g W X (.BoolOp .And (b :: rest) pos) B) : SE g W X (.BoolOp .And (a :: b :: rest) pos) (.and A B) := fun pk =>
  PE.weak (pe_andT (ha (pk && B.np)) (hb pk)) fun σ H Q ⟨F, m, z, eg, o, h⟩ => by
    rw [evE] at h
    refine ⟨F, m, z, eg, o, aft_bind o h fun x z1 vs H1 m1 _ p q v ev => ?_⟩
    subst ev
    obtain ⟨d, rfl, r⟩ := rf_head p.rp
    cases e2 : truth z1.hp (([d] : List D).headD .non) with
    | none => simp only [e2] at q; exact q.elim
    | some b =>
      simp only [e2] at q
      refine ⟨b, by rw [hK, ← eg]; exact truV p.ok.cells p.ok.ml r e2, ?_⟩
      cases b with
      | true => exact ⟨F, m1, z1, eg, p.ok, aft_after p q⟩
      | false => exact q _ H1 m1 ((p.pkw and_left).npw and_left) v rfl
theorem se_or {a b : Expr} {rest : List Expr} {A B : E} (hK : X.K = g.K) (ha : SE g W X a A) (hb : SE g W X (.BoolOp .Or (b :: rest) pos) B) : SE g W X (.BoolOp .Or (a :: b :: rest) pos) (.or A B) := fun pk =>
  PE.weak (pe_orT (ha (pk && B.np)) (hb pk)) fun σ H Q ⟨F, m, z, eg, o, h⟩ => by
    rw [evE] at h
    refine ⟨F, m, z, eg, o, aft_bind o h fun x z1 vs H1 m1 _ p q v ev => ?_⟩
    subst ev
    obtain ⟨d, rfl, r⟩ := rf_head p.rp
    cases e2 : truth z1.hp (([d] : List D).headD .non) with
    | none => simp only [e2] at q; exact q.elim
    | some b =>
      simp only [e2] at q
      refine ⟨b, by rw [hK, ← eg]; exact truV p.ok.cells p.ok.ml r e2, ?_⟩
      cases b with
      | false => exact ⟨F, m1, z1, eg, p.ok, aft_after p q⟩
      | true => exact q _ H1 m1 ((p.pkw and_left).npw and_left) v rfl
theorem se_not {a : Expr} {A : E} (hK : X.K = g.K) (ha : SE g W X a A) : SE g W X (.UnaryOp .Not a pos) (.not A) := fun pk =>
  PE.weak (pe_notT (ha true)) fun σ H Q ⟨F, m, z, eg, o, h⟩ => by
    rw [evE] at h
    have hn : (E.not A).np = (A.np && true) := by rw [Bool.and_true]; rfl
    rw [hn] at h
    refine ⟨F, m, z, eg, o, aft_bind o h fun x z1 vs H1 m1 _ p q v ev => ?_⟩
    subst ev
    obtain ⟨d, rfl, r⟩ := rf_head p.rp
    cases e2 : truth z1.hp (([d] : List D).headD .non) with
    | none => simp only [e2] at q; exact q.elim
    | some b =>
      simp only [e2] at q
      refine ⟨b, by rw [hK, ← eg]; exact truV p.ok.cells p.ok.ml r e2, ?_⟩
      have p2 : PP F m z σ H A.np pk [.bl (!b)] z1 [.bl (!b)] H1 m1 := ⟨p.ok, p.gt, p.np, RF_.up ⟨_, _, rfl, rfl, rfl⟩⟩
      exact q _ H1 m1 (p2.npw and_left) _ rfl
theorem evE_ite (pk : Bool) (c a b : E) (z : Z) : evE pk (.ite c a b) z = match evTp true c z with
    | .ok true z1 => evE pk a z1
    | .ok false z1 => evE pk b z1
    | .exn k ds z1 => .exn k ds z1
    | .bad => .bad := by
  rw [evE]
  unfold evTp
  cases e1 : evE true c z with
  | bad => rfl
  | exn k ds z1 => rfl
  | ok x z1 =>
    simp only [R.bind]
    cases e2 : truth z1.hp (x.headD .non) with
    | none => rfl
    | some t => cases t <;> rfl
theorem and3_l {a b c : Bool} (h : (a && b && c) = true) : (a && b) = true := and_left h
theorem se_ite {c a b : Expr} {C A B : E} (hc : ST g W X c C) (ha : SE g W X a A) (hb : SE g W X b B) : SE g W X (.IfExp c a b pos) (.ite C A B) := fun pk =>
  PE.weak (pe_ifExp (hc true) (ha pk) (hb pk)) fun σ H Q ⟨F, m, z, eg, o, h⟩ => by
    rw [evE_ite] at h
    refine ⟨F, m, z, eg, o, ?_⟩
    cases e1 : evTp true C z with
    | bad => rw [e1] at h; exact h.elim
    | exn k ds z1 => rw [e1] at h; exact h
    | ok t z1 =>
      rw [e1] at h
      intro H1 m1 p
      have hn : (E.ite C A B).np = (C.np && A.np && B.np) := rfl
      rw [hn] at h
      cases t with
      | true =>
        have h : aft F W m z σ H (C.np && A.np && B.np) pk (evE pk A z1) _ := h
        refine ⟨F, m1, z1, eg, p.ok, ?_⟩
        have h2 : aft F W m z σ H (C.np && A.np) pk (evE pk A z1) (fun vs H' => ∀ v, vs = [v] → Q v H') := by
          cases e2 : evE pk A z1 with
          | bad => rw [e2] at h; exact h.elim
          | exn k ds z2 => rw [e2] at h; exact h
          | ok ds z2 => rw [e2] at h; exact fun vs H2 m2 q => h vs H2 m2 (q.npw and3_l)
        exact aft_after p h2
      | false =>
        have h : aft F W m z σ H (C.np && A.np && B.np) pk (evE pk B z1) _ := h
        refine ⟨F, m1, z1, eg, p.ok, ?_⟩
        have h2 : aft F W m z σ H (C.np && B.np) pk (evE pk B z1) (fun vs H' => ∀ v, vs = [v] → Q v H') := by
          cases e2 : evE pk B z1 with
          | bad => rw [e2] at h; exact h.elim
          | exn k ds z2 => rw [e2] at h; exact h
          | ok ds z2 =>
            rw [e2] at h
            refine fun vs H2 m2 q => h vs H2 m2 (q.npw fun w => ?_)
            rw [Bool.and_eq_true, Bool.and_eq_true] at w
            rw [Bool.and_eq_true]
            exact ⟨w.1.1, w.2⟩
        exact aft_after p h2
end
end G
end
section
set_option Elab.async false
set_option linter.all false
set_option maxHeartbeats 1000000
/-! GC: chains of comparisons, calls. -/
namespace G
open PySem PySem.Spec PyProof.Rows L2
section
variable {F : Fx} {g : Gx} {W : WX} {X : Cx} {pos : Pos} {m m1 m2 : List Addr} {z z1 z2 : Z} {σ : L2.St} {H H1 H2 : Hp}
/-- a primitive's rule, used -/
theorem pr_use {f : Pr} {r : List V → Hp → VK → Prop} (hr : PrR F.g f r) (o : Ok F m z σ H) {ds : List D} {vs : List V} {d : D} {Q : VK} (h : RF_ F true m z σ H ds vs) (e : f z.hp ds = some d)
    (q : ∀ v H', Same H H' → Rep F.g.K F.g.cl (Avs F m z σ) m H' d v → Q v H') : r vs H Q := hr (AvP F m) (Avs F m z σ) m H z.hp ds vs d Q (fun a => o.stands) avP_avs o.ml o.cells h e q
theorem PP.same {np pk : Bool} {ds : List D} {vs : List V} (p : PP F m z σ H np pk ds z1 vs H1 m1) (s : Same H1 H2) : PP F m z σ H np pk ds z1 vs H2 m1 := by
  refine ⟨p.ok.same s, p.gt.trans (same_gt s), fun q => (p.np q).trans (same_gt s), ?_⟩
  cases pk with
  | false => exact Reps.mono (same_gt s) ds vs p.rp
  | true => exact RepsP.mono (same_gt s) (same_gt s) ds vs p.rp
theorem evE_chain (pk : Bool) (f f' : Pr) (a b c : E) (z : Z) : evE pk (.chain f f' a b c) z = (evE (b.np && c.np) a z).bind fun x z1 => (evE c.np b z1).bind fun y z2 => match f z2.hp (x ++ y) with
    | some (.bl true) => (evE true c z2).bind fun w z3 => match f' z3.hp (y ++ w) with
      | some (.bl r) => .ok [.bl r] z3
      | _ => .bad
    | some (.bl false) => .ok [.bl false] z2
    | _ => .bad := by rw [evE] <;> rfl
theorem tt_of {b : Bool} {A B : Prop} (hb : b = true) (h : A) : if b = true then A else B := by rw [if_pos hb]; exact h
theorem ff_of {b : Bool} {A B : Prop} (hb : b = false) (h : B) : if b = true then A else B := by rw [hb, if_neg Bool.false_ne_true]; exact h
theorem chain_w {f f' : Pr} {A B C : E} {r r' : R2} (hr : PrR g f fun vs H Q => ∃ x y, vs = [x, y] ∧ r x y H Q) (hr' : PrR g f' fun vs H Q => ∃ x y, vs = [x, y] ∧ r' x y H Q) (pk : Bool) (σ : L2.St) (H : Hp) (Q : VK)
    (h : tD g W pk (.chain f f' A B C) σ H Q) : tChain r r' (tD g W (B.np && C.np) A) (tD g W C.np B) (tD g W true C) σ H Q := by
  obtain ⟨F, m, z, eg, o, h⟩ := h
  subst eg
  rw [evE_chain] at h
  have hn : (E.chain f f' A B C).np = (A.np && (B.np && C.np)) := by rw [← Bool.and_assoc]; rfl
  rw [hn] at h
  refine ⟨F, m, z, rfl, o, aft_bind o h fun x z1 vs H1 m1 _ p q v ev => ?_⟩
  subst ev
  have q := aft_after p q
  refine ⟨F, m1, z1, rfl, p.ok, aft_bind p.ok q fun y z2 ws H2 m2 _ p2 q2 w ew => ?_⟩
  subst ew
  have q2 := aft_after p2 q2
  obtain ⟨dx, rfl, rx⟩ := rf_head p.rp
  obtain ⟨dy, rfl, ry⟩ := rf_head p2.rp
  have rx2 : RF_ F true m2 z2 σ H2 [dx] [v] := by
    have t := PP.carry p.rp p2 and_left
    cases e : (B.np && C.np) with
    | true => rw [e] at t; exact t
    | false => rw [e] at t; exact RF_.up t
  have ry2 : RF_ F true m2 z2 σ H2 [dy] [w] := ⟨w, [], rfl, ry, rfl⟩
  have q2 : aft F W m2 z2 σ H2 C.np pk (match f z2.hp [dx, dy] with
    | some (.bl true) => (evE true C z2).bind fun w z3 => match f' z3.hp ([dy] ++ w) with
      | some (.bl r) => .ok [.bl r] z3
      | _ => .bad
    | some (.bl false) => .ok [.bl false] z2
    | _ => .bad) (fun vs H' => ∀ v, vs = [v] → Q v H') := q2
  cases e1 : f z2.hp [dx, dy] with
  | none => rw [e1] at q2; exact q2.elim
  | some d =>
    rw [e1] at q2
    have main : ∀ v3 H3, Same H2 H3 → Rep F.g.K F.g.cl (Avs F m2 z2 σ) m2 H3 d v3 → ∃ k, v3 = .bl k ∧ (if k = true then tD F.g W true C σ H3 fun w' H4 => r' w w' H4 Q else Q (.bl false) H3) := by
      intro v3 H3 s r3
      have p3 : PP F m2 z2 σ H2 true true [] z2 [] H3 m2 := (PP.refl p2.ok (show RF_ F true m2 z2 σ H2 [] [] from rfl)).same s
      cases d with
      | bl k =>
        cases r3
        refine ⟨k, rfl, ?_⟩
        cases k with
        | false => exact ff_of rfl (q2 _ H3 m2 ⟨p3.ok, p3.gt, fun _ => p3.np rfl, RF_.up ⟨_, _, rfl, rfl, rfl⟩⟩ _ rfl)
        | true =>
          refine tt_of rfl ⟨F, m2, z2, rfl, p3.ok, ?_⟩
          have q3 : aft F W m2 z2 σ H2 (C.np && true) pk ((evE true C z2).bind fun w z3 => match f' z3.hp ([dy] ++ w) with
            | some (.bl r) => .ok [.bl r] z3
            | _ => .bad) (fun vs H' => ∀ v, vs = [v] → Q v H') := by rw [Bool.and_true]; exact q2
          have q4 : aft F W m2 z2 σ H3 (C.np && true) pk ((evE true C z2).bind fun w z3 => match f' z3.hp ([dy] ++ w) with
            | some (.bl r) => .ok [.bl r] z3
            | _ => .bad) (fun vs H' => ∀ v, vs = [v] → Q v H') := by
            have q5 := aft_after (npa := true) (npb := C.np && true) p3 (by rw [Bool.true_and]; exact q3)
            exact q5
          refine aft_bind p3.ok q4 fun u z3 us H4 m3 _ p4 q6 w' ew' => ?_
          subst ew'
          obtain ⟨dw, rfl, rw_⟩ := rf_head p4.rp
          have ry3 : RF_ F (C.np && true) m2 z2 σ H3 [dy] [w] := by
            rw [Bool.and_true]
            have p2' := p2.same s
            exact p2'.rp
          have ry4 : RF_ F true m3 z3 σ H4 [dy] [w] := by
            have t := PP.carry ry3 p4 and_left
            cases e : (C.np && true) with
            | true => rw [e] at t; exact t
            | false => rw [e] at t; exact RF_.up t
          have q6 : aft F W m2 z2 σ H3 (C.np && true) pk (match f' z3.hp [dy, dw] with
            | some (.bl r) => .ok [.bl r] z3
            | _ => .bad) (fun vs H' => ∀ v, vs = [v] → Q v H') := q6
          cases e2 : f' z3.hp [dy, dw] with
          | none => rw [e2] at q6; exact q6.elim
          | some d2 =>
            rw [e2] at q6
            obtain ⟨x', y', exy, hh⟩ := pr_use (m := m3) (z := z3) (σ := σ) (Q := Q) (ds := [dy, dw]) (vs := [w, w']) hr' p4.ok (RF_.append (es := [dw]) (ws := [w']) ry4 ⟨w', [], rfl, rw_, rfl⟩) e2 fun v5 H5 s5 r5 => by
              cases d2 with
              | bl k2 => exact q6 _ H5 m3 ((p4.more (pk' := pk) (es := [D.bl k2]) (ws := [v5]) s5 ⟨v5, [], rfl, r5, rfl⟩).npw and_left) v5 rfl
              | _ => exact q6.elim
            cases exy
            exact hh
      | _ => exact q2.elim
    obtain ⟨x', y', exy, hh⟩ := pr_use (m := m2) (z := z2) (σ := σ) hr p2.ok (RF_.append rx2 ry2) e1 main
    cases exy
    exact hh
theorem chain_bool {f f' : Pr} {a b c : E} (z : Z) (ds : List D) (z1 : Z) (e1 : evE true (.chain f f' a b c) z = .ok ds z1) : ∃ b, ds = [.bl b] := by
  rw [evE_chain] at e1
  cases e2 : evE (b.np && c.np) a z with
  | bad => rw [e2] at e1; cases e1
  | exn c ds z1 => rw [e2] at e1; cases e1
  | ok x z2 =>
    rw [e2] at e1
    simp only [R.bind] at e1
    cases e3 : evE c.np b z2 with
    | bad => rw [e3] at e1; cases e1
    | exn c ds z1 => rw [e3] at e1; cases e1
    | ok y z3 =>
      rw [e3] at e1
      simp only at e1
      split at e1
      · cases e4 : evE true c z3 with
        | bad => rw [e4] at e1; cases e1
        | exn c ds z1 => rw [e4] at e1; cases e1
        | ok w z4 =>
          rw [e4] at e1
          simp only at e1
          split at e1
          · cases e1; exact ⟨_, rfl⟩
          · cases e1
      · cases e1; exact ⟨_, rfl⟩
      · cases e1
theorem se_chain {op op' : CmpOp} {a b c : Expr} {f f' : Pr} {A B C : E} {r r' : R2} (ho : OpR X (compareOp op) r) (ho' : OpR X (compareOp op') r') (hr : PrR g f fun vs H Q => ∃ x y, vs = [x, y] ∧ r x y H Q) (hr' : PrR g f' fun vs H Q => ∃ x y, vs = [x, y] ∧ r' x y H Q)
    (ha : SE g W X a A) (hb : SE g W X b B) (hc : SE g W X c C) (hm : lastMarks [op, op'] [b, c] = false) : SE g W X (.Compare a [op, op'] [b, c] pos) (.chain f f' A B C) := fun pk =>
  PE.weak (pe_chain ho ho' (ha _) (hb _) (hc _) hm) (chain_w hr hr' pk)
theorem st_chain {op op' : CmpOp} {a b c : Expr} {f f' : Pr} {A B C : E} {r r' : R2} (ho : OpR X (compareOp op) r) (ho' : OpR X (compareOp op') r') (hr : PrR g f fun vs H Q => ∃ x y, vs = [x, y] ∧ r x y H Q) (hr' : PrR g f' fun vs H Q => ∃ x y, vs = [x, y] ∧ r' x y H Q)
    (ha : SE g W X a A) (hb : SE g W X b B) (hc : SE g W X c C) (hm : lastMarks [op, op'] [b, c] = false) : ST g W X (.Compare a [op, op'] [b, c] pos) (.chain f f' A B C) :=
  st_bool rfl chain_bool (pt_chain ho ho' (ha _) (hb _) (hc _) hm) (chain_w hr hr' true)
theorem st_cmp {op : CmpOp} {f : Pr} {a b : Expr} {A B : E} {r : R2} (ho : OpR X (compareOp op) r) (hr : PrR g f fun vs H Q => ∃ x y, vs = [x, y] ∧ r x y H Q) (hf : ∀ hp ds d, f hp ds = some d → ∃ b, d = .bl b) (ha : SE g W X a A) (hb : SE g W X b B) (hm : behindInMarks op b = false) : ST g W X (.Compare a [op] [b] pos) (.prim f (.cons A (.cons B .nil))) :=
  st_bool rfl (prim_bool hf) (pt_cmpR ho (ha (true && E.np (.cons B .nil))) (hb (true && true)) hm) fun σ H Q q => by
    obtain ⟨F, m, z, eg, o, h⟩ := q
    have key : tDs g W true (.cons A (.cons B .nil)) σ H fun vs H1 => ∃ x y, vs = [x, y] ∧ r x y H1 Q := by
      refine ⟨F, m, z, eg, o, ?_⟩
      unfold evE at h
      cases e1 : evE true (.cons A (.cons B .nil)) z with
      | bad => rw [e1] at h; exact h.elim
      | exn c ds z1 => rw [e1] at h; exact h
      | ok xs z1 =>
        rw [e1] at h
        have h : aft F W m z σ H (E.np (.cons A (.cons B .nil))) true (match f z1.hp xs with | some d => .ok [d] z1 | none => .bad) _ := h
        intro vs H1 m1 p
        cases e2 : f z1.hp xs with
        | none => rw [e2] at h; exact h.elim
        | some d =>
          rw [e2] at h
          subst eg
          exact pr_use hr p.ok p.rp e2 fun v H2 s rp => h [v] H2 m1 (p.more s ⟨v, [], rfl, rp, rfl⟩) v rfl
    refine tD_mono (tds_cons key) fun x H1 q1 => tD_mono (tds_one q1) fun y H2 q2 => ?_
    obtain ⟨x', y', e, q2⟩ := q2
    cases e
    exact q2

/-! ### built-in functions -/
def noStar : List Expr → Bool
  | [] => true
  | .Starred _ _ :: _ => false
  | _ :: r => noStar r
theorem noStar_cons {e : Expr} {es : List Expr} (h : noStar (e :: es) = true) : (∀ x p, e ≠ .Starred x p) ∧ noStar es = true := by
  cases e <;> first | (cases h; done) | exact ⟨fun _ _ q => (nomatch q), h⟩
theorem noStar_any {env : Env} {pos : Pos} : ∀ {es : List Expr}, noStar es = true → (backTo pos (starEach es env)).any (·.1) = false := by
  intro es
  have key : ∀ es : List Expr, noStar es = true → (starEach es env).any (·.1) = false := by
    intro es
    induction es with
    | nil => intro _; rfl
    | cons e es ih =>
      intro h
      obtain ⟨h1, h2⟩ := noStar_cons h
      rw [starEach_cons h1, List.any_cons, ih h2]
      rfl
  intro h
  have k := key es h
  unfold backTo
  rw [List.any_map]
  exact k
end
end G
end
section
set_option Elab.async false
set_option linter.all false
set_option maxHeartbeats 1000000
/-! GF: calls of built-in functions, of defs. -/
namespace G
open PySem PySem.Spec PyProof.Rows L2
section
variable {F : Fx} {g : Gx} {W : WX} {X : Cx} {pos p : Pos} {m m1 m2 : List Addr} {z z1 z2 : Z} {σ : L2.St} {H H1 H2 : Hp} {x : Str}
theorem se_callB {e : Expr} {es : List Expr} {f : Pr} {E : E} {id : String} {r : List V → Hp → VK → Prop} (hc : CallR X (.builtin id) r) (hr : PrR g f r) (hg : Gl X x) (hm : X.mg x = none) (hv : bootBuiltins x = some (.builtin id)) (ha : SA g W X (e :: es) E) (hs : noStar (e :: es) = true)
    (hn : x ≠ "__name__") (hd : (x == ("__debug__" : Str)) = false) : SE g W X (.Call (.Name x p) (e :: es) [] pos) (.prim f E) :=
  se_prim hr (pe_callB hc hg hm hv (ha true) hn hd (starEach_cons (noStar_cons hs).1) (noStar_any (noStar_cons hs).2)) fun _ _ _ q => q
theorem se_callTy {e : Expr} {es : List Expr} {f : Pr} {E : E} {T : String} {r : List V → Hp → VK → Prop} (hc : CallR X (.type T) r) (hr : PrR g f r) (hg : Gl X x) (hm : X.mg x = none) (hv : bootBuiltins x = some (.type T)) (ha : SA g W X (e :: es) E) (hs : noStar (e :: es) = true)
    (hn : x ≠ "__name__") (hd : (x == ("__debug__" : Str)) = false) : SE g W X (.Call (.Name x p) (e :: es) [] pos) (.prim f E) :=
  se_prim hr (pe_callTy hc hg hm hv (ha true) hn hd (starEach_cons (noStar_cons hs).1) (noStar_any (noStar_cons hs).2)) fun _ _ _ q => q

/-! ### defs -/
/-- what stands behind a call -/
structure CallEnd (g : Gx) (N : Addr → Prop) (m : List Addr) (H : Hp) (hp' : List D) (H' : Hp) (m' : List Addr) : Prop where
  pre : m <+: m'
  new : ∀ a, a ∈ m' → a ∈ m ∨ H a = none
  nd : m'.Nodup
  ml : m'.length = hp'.length
  cells : ∀ (k : Nat) (a : Addr) (c : D), m'[k]? = some a → hp'[k]? = some c → Top g.K g.cl (fun b => N b ∨ b ∈ m') m' H' a c
  keep : ∀ a u, H a = some u → a ∉ m → H' a = some u
def spD (g : Gx) (n : Nat) (f : Fn) : Sp := fun vs H Q E => vs.length = n ∧ ∃ (N : Addr → Prop) (m : List Addr) (hp ds : List D), (∀ a, N a → ∃ u, H a = some u) ∧ (∀ a, a ∈ m → N a) ∧ m.Nodup ∧ m.length = hp.length ∧
  (∀ (k : Nat) (a : Addr) (c : D), m[k]? = some a → hp[k]? = some c → Top g.K g.cl N m H a c) ∧ Reps g.K g.cl N m H ds vs ∧
  match f ds hp with
  | .ok d hp' => ∀ v H' m', CallEnd g N m H hp' H' m' → Rep g.K g.cl (fun b => N b ∨ b ∈ m') m' H' d v → Q v H'
  | .exn c es hp' => ∀ cls d H' m' (F : Fx), F.g = g → CallEnd g N m H hp' H' m' → ExcAt F (fun b => N b ∨ b ∈ m') m' H' c es cls d → E cls d H'
  | .bad => False
theorem Ok.call {hp' : List D} {m' : List Addr} {H' : Hp} (o : Ok F m z σ H) (c : CallEnd F.g (Avs F m z σ) m H hp' H' m') : Ok F m' { z with hp := hp' } σ H' ∧ Gt (Avs F m z σ) (Avs F m' { z with hp := hp' } σ) m m' H H' ∧ Gt (AvP F m) (AvP F m') m m' H H' ∧
    ∀ a, (Avs F m z σ a ∨ a ∈ m') ↔ Avs F m' { z with hp := hp' } σ a := by
  have own_iff : ∀ i a, OwnAt { z with hp := hp' } σ i a ↔ OwnAt z σ i a := fun _ _ => Iff.rfl
  have iff : ∀ a, (Avs F m z σ a ∨ a ∈ m') ↔ Avs F m' { z with hp := hp' } σ a := by
    intro a
    constructor
    · rintro (((h | h) | h) | h)
      · exact .inl (.inl h)
      · obtain ⟨r, rfl⟩ := c.pre
        exact .inl (.inr (List.mem_append_left _ h))
      · exact .inr h
      · exact .inl (.inr h)
    · rintro ((h | h) | h)
      · exact .inl (.inl (.inl h))
      · exact .inr h
      · exact .inl (.inr h)
  have nl : ∀ {a : Addr}, a ∈ m → ∃ u, H a = some u ∧ Mut (some u) := fun h => o.cell h
  have thr : ∀ a u, H a = some u → ∃ u', H' a = some u' := fun a u h => by
    by_cases hm : a ∈ m
    · obtain ⟨k, hk, e⟩ := List.getElem_of_mem hm
      have hk2 : m'[k]? = some a := pre_get c.pre (by rw [List.getElem?_eq_getElem hk, e])
      have hk3 : k < hp'.length := by rw [← c.ml]; exact (List.getElem?_eq_some_iff.mp hk2).1
      obtain ⟨vs, w, _⟩ := (c.cells k a _ hk2 (List.getElem?_eq_getElem hk3)).there
      exact ⟨_, w⟩
    · exact ⟨u, c.keep a u h hm⟩
  have gt : Gt (Avs F m z σ) (Avs F m' { z with hp := hp' } σ) m m' H H' := by
    refine ⟨fun a u h n => c.keep a u h fun q => n (.inl (.inr q)), fun a xs h => c.keep a _ h fun q => ?_, fun a u w h => c.keep a _ h fun q => ?_, fun a u h q => ?_, c.pre, thr⟩
    · obtain ⟨u, e, mu⟩ := nl q
      rw [h] at e; cases e; exact mu.elim
    · obtain ⟨u, e, mu⟩ := nl q
      rw [h] at e; cases e; exact mu.elim
    · rcases (iff a).mpr q with q | q
      · exact q
      · rcases c.new a q with q | q
        · exact .inl (.inr q)
        · rw [h] at q; cases q
  have gp : Gt (AvP F m) (AvP F m') m m' H H' := by
    refine ⟨fun a u h n => c.keep a u h fun q => n q, gt.tup, gt.frz, fun a u h q => ?_, c.pre, thr⟩
    rcases c.new a q with q | q
    · exact q
    · rw [h] at q; cases q
  have gsw : ∀ {H2 : Hp}, Gt (fun b => Avs F m z σ b ∨ b ∈ m') (Avs F m' { z with hp := hp' } σ) m' m' H2 H2 := less_gt fun a h => (iff a).mpr h
  refine ⟨⟨o.len, c.ml, c.nd, fun k a d h1 h2 => (c.cells k a d h1 h2).mono gsw fun _ q => q, fun i d h => ?_, fun i d h => ?_, fun i j a h1 h2 => o.inj i j a h1 h2, fun i a h => ?_, o.newO, o.pre.trans c.pre, fun a h => ?_, fun a u h n => ?_, fun a h => ?_, o.m0n⟩, gt, gp, iff⟩
  · obtain ⟨v, e, r⟩ := o.val i d h
    exact ⟨v, e, Rep.mono gt d v r⟩
  · obtain ⟨a, e, t⟩ := o.own i d h
    exact ⟨a, e, t.mono gt fun u q => c.keep a u q (o.new i a ⟨⟨d, h⟩, e⟩)⟩
  · have n2 := o.new i a h
    intro q
    rcases c.new a q with q | q
    · exact n2 q
    · obtain ⟨d, t⟩ := o.ownd (i := i) h
      obtain ⟨vs, e, _⟩ := t.there
      rw [q] at e; cases e
  · rcases c.new a h with h | h
    · exact o.mnew a h
    · exact .inr (o.free0 h)
  · have q := o.fr a u h n
    by_cases hm : a ∈ m
    · rcases o.mnew a hm with w | w
      · exact absurd w n
      · rw [h] at w; cases w
    · exact c.keep a u q hm
  · obtain ⟨u, q⟩ := o.n0 a h
    by_cases hm : a ∈ m
    · obtain ⟨k, hk, e⟩ := List.getElem_of_mem hm
      have hk2 : m'[k]? = some a := pre_get c.pre (by rw [List.getElem?_eq_getElem hk, e])
      have hk3 : k < hp'.length := by rw [← c.ml]; exact (List.getElem?_eq_some_iff.mp hk2).1
      obtain ⟨vs, w, _⟩ := (c.cells k a _ hk2 (List.getElem?_eq_getElem hk3)).there
      exact ⟨_, w⟩
    · exact ⟨u, c.keep a u q hm⟩
theorem ExcAt.to {Av Av' : Addr → Prop} {m m' : List Addr} {H H' : Hp} {c : Nat} {ds : List D} {cls : Value} {d : Option Addr} {F' : Fx} (e : F'.g = F.g) (gt : ∀ vs, Reps F.g.K F.g.cl Av m H ds vs → Reps F.g.K F.g.cl Av' m' H' ds vs) (hx : ∀ dd fs, H dd = some (.xd fs) → H' dd = some (.xd fs)) (h : ExcAt F Av m H c ds cls d) : ExcAt F' Av' m' H' c ds cls d := by
  obtain ⟨h1, h0, h2⟩ := h
  unfold ExcAt
  rw [e]
  refine ⟨h1, h0, ?_⟩
  rcases h2 with h2 | ⟨dd, vs, e1, e2, r⟩
  · exact .inl h2
  · exact .inr ⟨dd, vs, e1, hx _ _ e2, gt vs r⟩
/-- the promise, used at a call -/
theorem sp_use {n : Nat} {f : Fn} {pk : Bool} {ds : List D} {vs : List V} {Q : VK} {np : Bool} {m0 : List Addr} {z0 : Z} {H0 : Hp} (p : PP F m0 z0 σ H0 np false ds z vs H m) (hn : vs.length = n)
    (h : aft F W m0 z0 σ H0 np pk (match f ds z.hp with | .ok d hp => .ok [d] { z with hp := hp } | .exn c ds hp => .exn c ds { z with hp := hp } | .bad => .bad) fun us H' => ∀ v, us = [v] → Q v H') :
    spD F.g n f vs H Q fun cls d H' => W cls d σ H' := by
  have o := p.ok
  refine ⟨hn, Avs F m z σ, m, z.hp, ds, fun a => o.stands, fun a q => .inl (.inr q), o.nd, o.ml, o.cells, p.rp, ?_⟩
  cases e : f ds z.hp with
  | bad => rw [e] at h; exact h
  | ok d hp =>
    rw [e] at h
    intro v H' m' c r
    obtain ⟨o', gt, gp, iff⟩ := o.call c
    have r' : Rep F.g.K F.g.cl (Avs F m' { z with hp := hp } σ) m' H' d v := Rep.mono (less_gt fun a q => (iff a).mpr q) d v r
    exact h [v] H' m' ⟨o', p.gt.trans gt, fun q => (p.np q).trans gp, RF_.up ⟨v, [], rfl, r', rfl⟩⟩ v rfl
  | exn c es hp =>
    rw [e] at h
    intro cls d H' m' F' eF ce x
    obtain ⟨o', gt, gp, iff⟩ := o.call ce
    refine h cls d H' m' ⟨o', p.gt.trans gt, ?_⟩
    exact x.to eF.symm (fun vs r => Reps.mono (less_gt fun a q => (iff a).mpr q) es vs (by rw [eF]; rw [eF] at r; exact r)) fun _ _ q => q
/-- a def that may be called: where it stands, its promise -/
structure FnD (g : Gx) (X : Cx) (k : Nat) (x : Str) (n : Nat) (f : Fn) : Prop where
  ex : ∃ (fa : Addr) (fd : FuncData) (ps : List Str), FnOk X.prog X.w X.K X.mg X.base (L2.CX X.prog X.w) k fa fd ps (spD g n f) ∧ X.mg x = some (.ref fa) ∧ PySem.W.keepIn X.K (.ref fa) = true ∧ Binds X.K fd ps []
def Tk (X : Cx) (W : WX) : Prop := ∀ σ, PassesAt (L2.CX X.prog X.w) X σ (WE W σ)
theorem np_call {f : Fn} {es : E} : (E.call f es).np = es.np := rfl
theorem evE_call (pk : Bool) (f : Fn) (es : E) (z : Z) : evE pk (.call f es) z = (evE false es z).bind fun xs z1 => match f xs z1.hp with
    | .ok d hp => .ok [d] { z1 with hp := hp }
    | .exn c ds hp => .exn c ds { z1 with hp := hp }
    | .bad => .bad := by rw [evE] <;> rfl
theorem se_call {k n : Nat} {e : Expr} {es : List Expr} {f : Fn} {E : E} (D : FnD g X k x n f) (hr : Room k X.A) (tk : Tk X W) (hg : Gl X x) (ha : SA g W X (e :: es) E) (hl : (e :: es).length = n) (hs : noStar (e :: es) = true) (hd : (x == ("__debug__" : Str)) = false) (hE : ∀ z ds z1, evE false E z = .ok ds z1 → ds.length = n) :
    SE g W X (.Call (.Name x p) (e :: es) [] pos) (.call f E) := fun pk => by
  obtain ⟨fa, fd, ps, F0, hm, hk, hb⟩ := D.ex
  refine PE.weak (pe_callSD (dvs := []) (ds := []) (E := WE W) F0 hr hg hm hk hb .nil (fun σ => tk σ) (ha false) hd (starEach_cons (noStar_cons hs).1) (noStar_any (noStar_cons hs).2)) fun σ H Q ⟨F, m, z, eg, o, h⟩ => ?_
  subst eg
  rw [evE_call] at h
  refine ⟨F, m, z, rfl, o, ?_⟩
  cases e1 : evE false E z with
  | bad => rw [e1] at h; exact h.elim
  | exn c ds z1 => rw [e1] at h; exact h
  | ok xs z1 =>
    rw [e1] at h
    intro vs H1 m1 p
    rw [List.append_nil]
    have r : Reps F.g.K F.g.cl (Avs F m1 z1 σ) m1 H1 xs vs := p.rp
    exact sp_use (pk := pk) p (by rw [r.length]; exact hE z xs z1 e1) h
end
end G
end
section
set_option Elab.async false
set_option linter.all false
set_option maxHeartbeats 1000000
/-! GL: targets, walks, list comprehensions. -/
namespace G
open PySem PySem.Spec PyProof.Rows L2
def gTs : List Nat → TGs
  | [] => gNil
  | i :: is => gCons (gName i) (gTs is)
def gT (K : PySem.W.Frag) : Tg → TG
  | .one i => gName i
  | .tup is => gTup K is.length (gTs is)
section
variable {F : Fx} {g : Gx} {W : WX} {X : Cx} {pos p : Pos} {m m1 m2 : List Addr} {z z1 z2 : Z} {σ : L2.St} {H H1 H2 : Hp}
/-- what a target's store leaves -/
structure Put (F : Fx) (m : List Addr) (z : Z) (σ : L2.St) (H : Hp) (is : List Nat) (z2 : Z) (σ2 : L2.St) : Prop where
  ok : Ok F m z2 σ2 H
  less : ∀ a, Avs F m z2 σ2 a → Avs F m z σ a
  wipe : ∀ vs : List Nat, (∀ i ∈ is, i ∈ vs) → wipe σ2 vs = wipe σ vs
theorem wipe_set_in {i : Nat} {w : Option V} : ∀ {vs : List Nat} {σ : L2.St}, i ∈ vs → wipe (σ.set i w) vs = wipe σ vs
  | [], _, h => nomatch h
  | v :: vs, σ, h => by
    unfold wipe
    by_cases hv : i ∈ vs
    · rw [wipe_set_in hv]
    · have e : i = v := (List.mem_cons.mp h).resolve_right hv
      subst e
      have key : ∀ {vs : List Nat}, i ∉ vs → wipe (σ.set i w) vs = (wipe σ vs).set i w := by
        intro vs
        induction vs with
        | nil => intro _; rfl
        | cons u us ih =>
          intro hu
          have h1 : u ≠ i := fun e => hu (by rw [e]; exact List.mem_cons_self)
          have h2 : i ∉ us := fun e => hu (List.mem_cons_of_mem _ e)
          unfold wipe
          rw [ih h2, List.set_comm _ _ (Ne.symm h1)]
      rw [key hv, List.set_set]
theorem Put.refl (o : Ok F m z σ H) : Put F m z σ H [] z σ := ⟨o, fun _ h => h, fun _ _ => rfl⟩
theorem put_one (o : Ok F m z σ H) {i : Nat} {d : D} {v : V} (r : Rep F.g.K F.g.cl (Avs F m z σ) m H d v) : Put F m z σ H [i] { z with env := z.env.set i (.val d) } (σ.set i (some v)) := by
  have less := @put_less F m z σ i (.val d) (some v) (not_own_val d)
  exact ⟨o.put (not_own_val d) fun d' e => by
    cases e
    exact ⟨v, rfl, Rep.mono (less_gt less) d v r⟩, less, fun vs h => wipe_set_in (h i (List.mem_singleton_self i))⟩
theorem Put.trans {is js : List Nat} {σ1 σ2 : L2.St} (a : Put F m z σ H is z1 σ1) (b : Put F m z1 σ1 H js z2 σ2) : Put F m z σ H (is ++ js) z2 σ2 :=
  ⟨b.ok, fun x h => a.less x (b.less x h), fun vs h => (b.wipe vs fun i hi => h i (List.mem_append_right _ hi)).trans (a.wipe vs fun i hi => h i (List.mem_append_left _ hi))⟩
theorem puts (Q : L2.St → Hp → Prop) : ∀ (is : List Nat) (ds : List D) (vs : List V) (z : Z) (σ : L2.St), Ok F m z σ H → Reps F.g.K F.g.cl (Avs F m z σ) m H ds vs → ds.length = is.length →
    (∀ σ2, Put F m z σ H is { z with env := setMany is ds z.env } σ2 → Q σ2 H) → gTs is vs σ H Q
  | [], [], vs, z, σ, o, r, _, q => by
    have e : vs = [] := r
    exact ⟨e, q σ (Put.refl o)⟩
  | i :: is, d :: ds, vs, z, σ, o, r, hl, q => by
    obtain ⟨v, t, rfl, rv, rt⟩ := r
    have p1 := put_one (i := i) o rv
    refine ⟨v, t, rfl, ?_⟩
    refine puts Q is ds t _ _ p1.ok (Reps.mono (less_gt p1.less) ds t rt) (by simpa using hl) fun σ2 p2 => q σ2 ?_
    exact p1.trans p2
  | [], _ :: _, _, _, _, _, _, hl, _ => by simp at hl
  | _ :: _, [], _, _, _, _, _, hl, _ => by simp at hl
theorem tg_put {t : Tg} {d : D} {v : V} {env : List Slot} {Q : L2.St → Hp → Prop} (o : Ok F m z σ H) (r : Rep F.g.K F.g.cl (Avs F m z σ) m H d v) (h : setTg t d z.env = some env)
    (q : ∀ σ2, Put F m z σ H t.ix { z with env := env } σ2 → Q σ2 H) : gT F.g.K t v σ H Q := by
  cases t with
  | one i =>
    cases h
    exact q _ (put_one o r)
  | tup is =>
    cases d with
    | tup xs =>
      obtain ⟨a, vs, rfl, s, rs⟩ := r
      unfold setTg at h
      by_cases hl : xs.length = is.length
      · simp only [hl, if_true] at h
        cases h
        exact ⟨a, vs, rfl, SqT.of s, by rw [rs.length, hl], puts Q is xs vs z σ o rs hl q⟩
      · simp only [hl, if_false] at h
        cases h
    | _ => cases h

/-! ### walks -/
/-- an iterator that meets just these items, whatever is written elsewhere -/
structure Src (g : Gx) (Ap Av : Addr → Prop) (m : List Addr) (J : It) (H1 : Hp) (xs : List D) : Prop where
  go : ∀ (Ap' Av' : Addr → Prop) (m' : List Addr) (H2 : Hp), Gt Ap Ap' m m' H1 H2 → Gt Av Av' m m' H1 H2 → (∀ a, Av' a → ∃ u, H2 a = some u) → ∀ (i : Nat) (d : D), xs[i]? = some d → J.go i H2 ∧ ∀ x H3, J.yld i H2 x H3 → Same H2 H3 ∧ Rep g.K g.cl Av' m' H3 d x
  stop : ∀ (Ap' Av' : Addr → Prop) (m' : List Addr) (H2 : Hp), Gt Ap Ap' m m' H1 H2 → Gt Av Av' m m' H1 H2 → ∀ i : Nat, xs.length ≤ i → J.stop i H2
def ApF (F : Fx) (pk : Bool) (m : List Addr) (z : Z) (σ : L2.St) : Addr → Prop := if pk then AvP F m else Avs F m z σ
def aftI (F : Fx) (W : WX) (m : List Addr) (z : Z) (σ : L2.St) (H : Hp) (np pk dk : Bool) (r : R (List D)) (R' : It → Hp → Prop) : Prop :=
  match r with
  | .ok ds z' => match items dk (ds.headD .non) with
    | none => False
    | some xs => ∀ J H' m', PP F m z σ H np pk [] z' [] H' m' → Src F.g (ApF F pk m' z' σ) (Avs F m' z' σ) m' J H' xs → R' J H'
  | .exn c ds z' => ∀ cls d H' m', PX F m z σ H c ds z' cls d H' m' → W cls d σ H'
  | .bad => False
def tI (g : Gx) (W : WX) (pk : Bool) (e : E) : TI := fun σ H R => ∃ F m z, F.g = g ∧ Ok F m z σ H ∧ aftI F W m z σ H e.np pk e.dk (evE pk e z) R
def SI (g : Gx) (W : WX) (X : Cx) (tg iter : Expr) (E : E) : Prop := ∀ pk, PI X tg iter (tI g W pk E)
theorem PI.weak {tg iter : Expr} {t u : TI} (h : PI X tg iter t) (w : ∀ σ H R, u σ H R → t σ H R) : PI X tg iter u := ⟨fun pins s σ H R I q => h.run pins s σ H R I (w σ H R q)⟩

/-! ### comprehensions -/
abbrev W0 : WX := fun _ _ _ _ => False
/-- the tests of a clause -/
def STs (g : Gx) (X : Cx) (ifs : List Expr) (E : E) : Prop := PTs X ifs (tT g W0 true E)
theorem sts_nil : STs g X [] (.lit (.bl true)) := ⟨fun pins s σ H Q I ⟨F, m, z, eg, o, h⟩ => pts_nil.run pins s σ H Q I (h H m (PP.refl o rfl))⟩
theorem sts_one {c : Expr} {C : E} (h : ST g W0 X c C) : STs g X [c] C := pts_one (h true)
theorem lock_get {env : List Slot} {i : Nat} : (lockE env)[i]? = (env[i]?).map Slot.locked := by
  unfold lockE
  rw [List.getElem?_map]
theorem wipeE_len {env : List Slot} : ∀ is : List Nat, (wipeE env is).length = env.length
  | [] => rfl
  | i :: is => by unfold wipeE; rw [List.length_set, wipeE_len is]
theorem wipeE_get {env : List Slot} {i : Nat} {s : Slot} (hs : s ≠ .no) : ∀ {is : List Nat}, (wipeE env is)[i]? = some s → env[i]? = some s ∧ i ∉ is
  | [], h => ⟨h, by simp⟩
  | v :: vs, h => by
    unfold wipeE at h
    by_cases hi : v = i
    · subst hi
      by_cases hv : v < (wipeE env vs).length
      · rw [List.getElem?_set_self hv] at h
        exact absurd (Option.some.inj h).symm hs
      · rw [List.getElem?_eq_none (by simpa using hv)] at h; cases h
    · rw [List.getElem?_set_ne hi] at h
      obtain ⟨h1, h2⟩ := wipeE_get hs h
      exact ⟨h1, by simp only [List.mem_cons, not_or]; exact ⟨fun e => hi e.symm, h2⟩⟩
theorem freeTg_out {is : List Nat} {env : List Slot} {i : Nat} {d : D} (h : freeTg is env = true) (e : env[i]? = some (.own d) ∨ env[i]? = some (.lock d)) : i ∉ is := fun hi => by
  have q := List.all_eq_true.mp h i hi
  rcases e with e | e
  · rw [List.getD_eq_getElem?_getD, e] at q
    simp at q
  · rw [List.getD_eq_getElem?_getD, e] at q
    simp at q
/-- the frame of a comprehension's block, at a turn: all that stands is not to be touched -/
def Fx.inner (F : Fx) (m : List Addr) (z : Z) (σ : L2.St) (H : Hp) : Fx := ⟨F.g, Avs F m z σ, m, H⟩
theorem Ok.inner (o : Ok F m z σ H) {is : List Nat} (hf : freeTg is z.env = true) : Ok (F.inner m z σ H) m ⟨wipeE (lockE z.env) is, z.hp⟩ (wipe σ is) H := by
  have slot : ∀ {i : Nat} {s : Slot}, s ≠ .no → (wipeE (lockE z.env) is)[i]? = some s → i ∉ is ∧ ∃ t, z.env[i]? = some t ∧ t.locked = s := by
    intro i s hs h
    obtain ⟨h1, h2⟩ := wipeE_get hs h
    rw [lock_get] at h1
    obtain ⟨t, e1, e2⟩ := Option.map_eq_some_iff.mp h1
    exact ⟨h2, t, e1, e2⟩
  have own : ∀ {i : Nat} {a : Addr}, OwnAt ⟨wipeE (lockE z.env) is, z.hp⟩ (wipe σ is) i a → OwnAt z σ i a := by
    intro i a ⟨⟨d, hd⟩, hs⟩
    obtain ⟨hs1, _⟩ := wipe_some hs
    refine ⟨?_, hs1⟩
    rcases hd with hd | hd
    · obtain ⟨_, t, e1, e2⟩ := slot (s := .own d) (fun q => nomatch q) hd
      cases t <;> cases e2
    · obtain ⟨_, t, e1, e2⟩ := slot (s := .lock d) (fun q => nomatch q) hd
      cases t with
      | own d' => exact ⟨d', .inl e1⟩
      | lock d' => exact ⟨d', .inr e1⟩
      | no => cases e2
      | val d' => cases e2
  have avs : ∀ a, Avs (F.inner m z σ H) m ⟨wipeE (lockE z.env) is, z.hp⟩ (wipe σ is) a → Avs F m z σ a := by
    rintro a ((h | h) | ⟨i, h⟩)
    · exact h
    · exact .inl (.inr h)
    · exact .inr ⟨i, own h⟩
  have gt : Gt (Avs F m z σ) (Avs (F.inner m z σ H) m ⟨wipeE (lockE z.env) is, z.hp⟩ (wipe σ is)) m m H H := less_gt avs
  refine ⟨by rw [wipe_length, o.len]; show _ = (wipeE (lockE z.env) is).length; rw [wipeE_len]; unfold lockE; rw [List.length_map], o.ml, o.nd, fun k a d h1 h2 => (o.cells k a d h1 h2).mono gt fun _ q => q, fun i d h => ?_, fun i d h => ?_, fun i j a h1 h2 => o.inj i j a (own h1) (own h2), fun i a h => o.new i a (own h), fun i d a h1 h2 => ?_, List.prefix_refl m, fun a h => .inl h, fun a u h _ => h, fun a h => o.stands h, fun a h => .inl (.inr h)⟩
  · obtain ⟨hn, t, e1, e2⟩ := slot (s := .val d) (fun q => nomatch q) h
    cases t with
    | val d' =>
      cases e2
      obtain ⟨v, e, r⟩ := o.val i d e1
      exact ⟨v, by rw [wipe_out hn]; exact e, Rep.mono gt d v r⟩
    | _ => cases e2
  · rcases h with h | h
    · obtain ⟨_, t, e1, e2⟩ := slot (s := .own d) (fun q => nomatch q) h
      cases t <;> cases e2
    · obtain ⟨hn, t, e1, e2⟩ := slot (s := .lock d) (fun q => nomatch q) h
      have e1' : z.env[i]? = some (.own d) ∨ z.env[i]? = some (.lock d) := by
        cases t with
        | own d' => cases e2; exact .inl e1
        | lock d' => cases e2; exact .inr e1
        | no => cases e2
        | val d' => cases e2
      obtain ⟨a, e, r⟩ := o.own i d e1'
      exact ⟨a, by rw [wipe_out hn]; exact e, r.mono gt fun _ q => q⟩
  · obtain ⟨_, t, e1, e2⟩ := slot (s := .own d) (fun q => nomatch q) h1
    cases t <;> cases e2
/-- out of the block -/
theorem Ok.outer {m2 : List Addr} {z2 : Z} {σ2 : L2.St} (o : Ok F m z σ H) (q : Ok (F.inner m z σ H) m2 z2 σ2 H2) : CallEnd F.g (Avs F m z σ) m H z2.hp H2 m2 :=
  ⟨q.pre, q.mnew, q.nd, q.ml, fun k a c h1 h2 => (q.cells k a c h1 h2).mono (less_gt fun b h => .inl h) fun _ q => q, q.fr⟩

theorem compL_cons {f : D → List D → Option (List D × List D)} {x : D} {xs : List D} {hp hp2 : List D} {ys : List D} (h : compL f (x :: xs) hp = some (ys, hp2)) : ∃ o hp1 ys1, f x hp = some (o, hp1) ∧ compL f xs hp1 = some (ys1, hp2) ∧ ys = o ++ ys1 := by
  unfold compL at h
  cases e1 : f x hp with
  | none => rw [e1] at h; cases h
  | some p =>
    obtain ⟨o, hp1⟩ := p
    rw [e1] at h
    simp only at h
    cases e2 : compL f xs hp1 with
    | none => rw [e2] at h; cases h
    | some q =>
      obtain ⟨ys1, hp3⟩ := q
      rw [e2] at h
      cases h
      exact ⟨o, hp1, ys1, rfl, e2, rfl⟩
theorem items_big {dk : Bool} {d : D} {xs : List D} (h : items dk d = some xs) : xs.length ≤ big := by
  have key : ∀ ys : List D, (if ys.length ≤ big then some ys else none) = some xs → xs.length ≤ big := fun ys q => by
    by_cases hl : ys.length ≤ big
    · rw [if_pos hl] at q
      rw [← Option.some.inj q]
      exact hl
    · rw [if_neg hl] at q
      cases q
  cases d with
  | tup ys => exact key ys h
  | lst ys => exact key ys h
  | dct tk ks vs =>
    have h : (if (dk && decide (ks.length ≤ big)) = true then some ks else none) = some xs := h
    by_cases hl : (dk && decide (ks.length ≤ big)) = true
    · rw [if_pos hl] at h
      rw [← Option.some.inj h]
      rw [Bool.and_eq_true, decide_eq_true_eq] at hl
      exact hl.2
    · rw [if_neg hl] at h
      cases h
  | _ => cases h
/-- where the new list stands: what has been made so far, all else as it was -/
structure Mid (F : Fx) (L : Addr) (m1 : List Addr) (z1 : Z) (σ : L2.St) (H1 : Hp) (mi : List Addr) (hp : List D) (Hi : Hp) (ys : List D) (acc : List V) : Prop where
  ok : Ok (F.plus L) mi { z1 with hp := hp } σ Hi
  at_ : Hi L = some (.lst acc)
  rp : Reps F.g.K F.g.cl (Avs (F.plus L) mi { z1 with hp := hp } σ) mi Hi ys acc
  gt : Gt (Avs F m1 z1 σ) (Avs (F.plus L) mi { z1 with hp := hp } σ) m1 mi H1 Hi
  gp : Gt (AvP F m1) (AvP (F.plus L) mi) m1 mi H1 Hi
  dm : L ∉ mi
  h0 : F.H0 L = none
  h1 : H1 L = none
  no : ∀ i a, OwnAt z1 σ i a → a ≠ L
theorem Mid.start (o : Ok F m1 z1 σ H1) {L : Addr} (hL : H1 L = none) : Mid F L m1 z1 σ H1 m1 z1.hp (upd H1 L (.lst [])) [] [] := by
  refine ⟨o.plus hL (same_new hL) ⟨_, upd_same⟩, upd_same, rfl, plus_gt hL (same_new hL), same_gt (same_new hL), fun h => ?_, o.free0 hL, hL, fun i a h e => ?_⟩
  · obtain ⟨vs, e, _⟩ := o.cell h
    rw [hL] at e
    cases e
  · obtain ⟨d, t⟩ := o.ownd h
    obtain ⟨vs, w, _⟩ := t.there
    rw [e, hL] at w
    cases w
/-- a turn's block has run -/
theorem Mid.ran {L : Addr} {mi : List Addr} {hp : List D} {Hi : Hp} {ys : List D} {acc : List V} (M : Mid F L m1 z1 σ H1 mi hp Hi ys acc) {m2 : List Addr} {z2 : Z} {σ2 : L2.St} (q : Ok ((F.plus L).inner mi { z1 with hp := hp } σ Hi) m2 z2 σ2 H2) :
    Mid F L m1 z1 σ H1 m2 z2.hp H2 ys acc := by
  obtain ⟨o', gt, gp, _⟩ := M.ok.call (M.ok.outer q)
  refine ⟨o', q.fr L _ M.at_ M.dm, Reps.mono gt ys acc M.rp, M.gt.trans gt, M.gp.trans gp, fun h => ?_, M.h0, M.h1, M.no⟩
  rcases q.mnew L h with h1 | h1
  · exact M.dm h1
  · have e : Hi L = none := h1
    rw [M.at_] at e
    cases e
/-- one element more -/
theorem Mid.more {L : Addr} {mi : List Addr} {hp : List D} {Hi : Hp} {ys : List D} {acc : List V} (M : Mid F L m1 z1 σ H1 mi hp Hi ys acc) {d : D} {v : V} (r : Rep F.g.K F.g.cl (Avs (F.plus L) mi { z1 with hp := hp } σ) mi Hi d v) :
    Mid F L m1 z1 σ H1 mi hp (upd Hi L (.lst (acc ++ [v]))) (ys ++ [d]) (acc ++ [v]) := by
  have aL : Avs (F.plus L) mi { z1 with hp := hp } σ L := .inl (.inl (.inr rfl))
  have ne : ∀ {a : Addr}, ¬ Avs (F.plus L) mi { z1 with hp := hp } σ a → a ≠ L := fun h e => h (by rw [e]; exact aL)
  have lstL : ∀ {a : Addr} {u : HO}, Hi a = some u → (∀ xs, u ≠ .lst xs) → a ≠ L := fun h n e => by
    rw [e, M.at_] at h
    cases h
    exact n _ rfl
  have gt : ∀ {Ap : Addr → Prop}, Ap L → Gt Ap Ap mi mi Hi (upd Hi L (.lst (acc ++ [v]))) := fun {Ap} hA =>
    ⟨fun a u h n => by rw [upd_ne (fun e => n (by rw [e]; exact hA))]; exact h, fun a xs h => by rw [upd_ne (lstL h fun _ e => nomatch e)]; exact h, fun a o u h => by rw [upd_ne (lstL h fun _ e => nomatch e)]; exact h, fun _ _ _ h => h, List.prefix_refl mi, fun a u h => by
      by_cases e : a = L
      · exact ⟨_, by rw [e]; exact upd_same⟩
      · exact ⟨u, by rw [upd_ne e]; exact h⟩⟩
  have g := gt aL
  have o := M.ok
  have nec : ∀ {a : Addr}, a ∈ mi → a ≠ L := fun h e => M.dm (by rw [← e]; exact h)
  have key : Ok (F.plus L) mi { z1 with hp := hp } σ (upd Hi L (.lst (acc ++ [v]))) := by
    refine ⟨o.len, o.ml, o.nd, fun k a d h1 h2 => (o.cells k a d h1 h2).mono g fun u q => by rw [upd_ne (nec (List.mem_of_getElem? h1))]; exact q, fun i d h => ?_, fun i d h => ?_, o.inj, o.new, o.newO, o.pre, o.mnew, fun a u h n => ?_, fun a h => ?_, o.m0n⟩
    · obtain ⟨w, e, r⟩ := o.val i d h
      exact ⟨w, e, Rep.mono g d w r⟩
    · obtain ⟨a, e, t⟩ := o.own i d h
      refine ⟨a, e, t.mono g fun u q => ?_⟩
      rw [upd_ne ?_]
      · exact q
      · exact M.no i a ⟨⟨d, h⟩, e⟩
    · rw [upd_ne ?_]
      · exact o.fr a u h n
      · intro e
        have h' : F.H0 a = some u := h
        rw [e, M.h0] at h'
        cases h'
    · by_cases e : a = L
      · exact ⟨_, by rw [e]; exact upd_same⟩
      · rw [upd_ne e]
        exact o.n0 a h
  have gA : Gt (Avs F m1 z1 σ) (Avs (F.plus L) mi { z1 with hp := hp } σ) m1 mi H1 (upd Hi L (.lst (acc ++ [v]))) := M.gt.trans g
  have gP : Gt (AvP F m1) (AvP (F.plus L) mi) m1 mi H1 (upd Hi L (.lst (acc ++ [v]))) := by
    refine ⟨fun a u h n => ?_, gA.tup, gA.frz, fun a u h q => M.gp.av a u h q, M.gp.pre, gA.there⟩
    rw [upd_ne (ne_of_none h M.h1)]
    exact M.gp.keep a u h n
  exact ⟨key, upd_same, Reps.append (Reps.mono g ys acc M.rp) ⟨v, [], rfl, Rep.mono g d v r, rfl⟩, gA, gP, M.dm, M.h0, M.h1, M.no⟩
end
end G
end
section
set_option Elab.async false
set_option linter.all false
set_option maxHeartbeats 2000000
/-! GM: list comprehensions of one clause and of two. -/
namespace G
open PySem PySem.Spec PyProof.Rows L2
section
variable {F : Fx} {g : Gx} {W : WX} {X : Cx} {pos p : Pos} {m m1 m2 : List Addr} {z z1 z2 : Z} {σ : L2.St} {H H1 H2 : Hp}
theorem wipe_idem : ∀ (us : List Nat) {vs : List Nat}, (∀ i ∈ us, i ∈ vs) → wipe (wipe σ us) vs = wipe σ vs
  | [], _, _ => rfl
  | u :: us, vs, h => by
    show wipe ((wipe σ us).set u none) vs = _
    rw [wipe_set_in (h u List.mem_cons_self)]
    exact wipe_idem us fun i hi => h i (List.mem_cons_of_mem _ hi)
theorem Ok.unplus {L : Addr} (o : Ok (F.plus L) m z σ H) (hm : ∀ a, a ∈ F.m0 → F.N0 a) : Ok F m z σ H ∧ (∀ a, Avs F m z σ a → Avs (F.plus L) m z σ a) := by
  have less : ∀ a, Avs F m z σ a → Avs (F.plus L) m z σ a := fun a h => av_plus h
  have gt : Gt (Avs (F.plus L) m z σ) (Avs F m z σ) m m H H := less_gt less
  exact ⟨⟨o.len, o.ml, o.nd, fun k a d h1 h2 => (o.cells k a d h1 h2).mono gt fun _ q => q, fun i d h => by
      obtain ⟨v, e, r⟩ := o.val i d h
      exact ⟨v, e, Rep.mono gt d v r⟩, fun i d h => by
      obtain ⟨a, e, t⟩ := o.own i d h
      exact ⟨a, e, t.mono gt fun _ q => q⟩, o.inj, o.new, fun i d a h1 h2 => by
      obtain ⟨n, e⟩ := o.newO i d a h1 h2
      exact ⟨fun q => n (.inl q), e⟩, o.pre, o.mnew, o.fr, fun a h => o.n0 a (.inl h), hm⟩, less⟩
theorem Mid.same {L : Addr} {mi : List Addr} {hp : List D} {Hi H3 : Hp} {ys : List D} {acc : List V} (M : Mid F L m1 z1 σ H1 mi hp Hi ys acc) (s : Same Hi H3) : Mid F L m1 z1 σ H1 mi hp H3 ys acc :=
  ⟨M.ok.same s, s _ _ M.at_, Reps.mono (same_gt s) ys acc M.rp, M.gt.trans (same_gt s), M.gp.trans (same_gt s), M.dm, M.h0, M.h1, M.no⟩
/-- inside a turn: what is to be avoided is more than outside -/
theorem inner_avs {L : Addr} {mi m4 : List Addr} {hp hp4 : List D} {Hi : Hp} {z4 : Z} {σ4 : L2.St} {a : Addr} (h : Avs (F.plus L) m4 { z1 with hp := hp4 } σ a) : Avs ((F.plus L).inner mi { z1 with hp := hp } σ Hi) m4 z4 σ4 a := by
  rcases h with (h | h) | h
  · exact .inl (.inl (.inl (.inl h)))
  · exact .inl (.inr h)
  · exact .inl (.inl (.inr h))
/-- a target, a test, an element: one turn over data that stands -/
theorem turn1 {L : Addr} {mi : List Addr} {hp hp' : List D} {Hi : Hp} {ys o : List D} {acc : List V} {t : Tg} {C EL : E} {is : List Nat} {d : D} {x : V} {z0 : Z} {σ0 : L2.St} {N : Hp → Prop} (M : Mid F L m1 z1 σ H1 mi hp Hi ys acc)
    (o0 : Ok ((F.plus L).inner mi { z1 with hp := hp } σ Hi) mi z0 σ0 Hi) (r : Rep F.g.K F.g.cl (Avs (F.plus L) mi { z1 with hp := hp } σ) mi Hi d x) (hz : z0.hp = hp) (less : ∀ a, Avs ((F.plus L).inner mi { z1 with hp := hp } σ Hi) mi z0 σ0 a → Avs (F.plus L) mi { z1 with hp := hp } σ a)
    (e : body1 t (evE true C) (evE false EL) z0.env d hp = some (o, hp')) (hacc : acc.length < sizeLine) (ht : ∀ i ∈ t.ix, i ∈ is)
    (nx : ∀ (m' : List Addr) (H' : Hp) (acc' : List V), Mid F L m1 z1 σ H1 m' hp' H' (ys ++ o) acc' → acc'.length ≤ acc.length + 1 → N H') :
    gT F.g.K t x σ0 Hi fun σ2 H2 => wipe σ2 is = wipe σ0 is ∧ tT F.g W0 true C σ2 H2 fun b H3 => if b = true then tD F.g W0 false EL σ2 H3 (fun y H4 => ∃ acc, H4 L = some (.lst acc) ∧ acc.length < sizeLine ∧ N (upd H4 L (.lst (acc ++ [y])))) else N H3 := by
  unfold body1 at e
  cases e1 : setTg t d z0.env with
  | none => rw [e1] at e; cases e
  | some env2 =>
    rw [e1] at e
    simp only at e
    refine tg_put (F := (F.plus L).inner mi { z1 with hp := hp } σ Hi) o0 (Rep.mono (less_gt less) d x r) e1 fun σ2 P => ⟨P.wipe is ht, ?_⟩
    rw [hz] at P
    refine ⟨(F.plus L).inner mi { z1 with hp := hp } σ Hi, mi, ⟨env2, hp⟩, rfl, P.ok, ?_⟩
    unfold evTp
    cases e2 : evE true C ⟨env2, hp⟩ with
    | bad => rw [e2] at e; cases e
    | exn c ds z2 => rw [e2] at e; cases e
    | ok b z2 =>
      rw [e2] at e
      simp only at e
      show aftT _ _ _ _ _ _ _ (match truth z2.hp (b.headD .non) with | some b => R.ok b z2 | none => R.bad) _
      cases e3 : truth z2.hp (b.headD .non) with
      | none => rw [e3] at e; cases e
      | some tv =>
        rw [e3] at e
        intro H3 m3 p3
        cases tv with
        | false =>
          simp only at e
          cases e
          refine ff_of rfl (nx m3 H3 acc ?_ (Nat.le_succ _))
          rw [List.append_nil]
          exact M.ran p3.ok
        | true =>
          simp only at e
          refine tt_of rfl ⟨(F.plus L).inner mi { z1 with hp := hp } σ Hi, m3, z2, rfl, p3.ok, ?_⟩
          cases e4 : evE false EL z2 with
          | bad => rw [e4] at e; cases e
          | exn c ds z3 => rw [e4] at e; cases e
          | ok y z3 =>
            rw [e4] at e
            cases e
            intro vs H4 m4 p4 v ev
            subst ev
            have M4 := M.ran p4.ok
            refine ⟨acc, M4.at_, hacc, ?_⟩
            obtain ⟨d', rfl, r4⟩ : ∃ d', o = [d'] ∧ Rep F.g.K F.g.cl (Avs ((F.plus L).inner mi { z1 with hp := hp } σ Hi) m4 z3 σ2) m4 H4 d' v := by
              have q : Reps F.g.K F.g.cl (Avs ((F.plus L).inner mi { z1 with hp := hp } σ Hi) m4 z3 σ2) m4 H4 o [v] := p4.rp
              cases o with
              | nil => cases q
              | cons d' t' =>
                obtain ⟨w, r', e, q1, q2⟩ := q
                cases e
                have q3 := q2.length
                cases t' with
                | nil => exact ⟨d', rfl, q1⟩
                | cons _ _ => simp at q3
            exact nx m4 _ _ (M4.more (Rep.mono (less_gt fun a h => inner_avs h) d' v r4)) (by simp)

theorem evE_comp (pk : Bool) (t : Tg) (it c e : E) (z : Z) : evE pk (.comp t it c e) z = (evE true it z).bind fun d z1 => match items it.dk (d.headD .non) with
    | none => .bad
    | some xs => if freeTg t.ix z1.env then (match compL (body1 t (evE true c) (evE false e) (wipeE (lockE z1.env) t.ix)) xs z1.hp with
      | some (ys, hp) => .ok [.lst ys] { z1 with hp := hp }
      | none => .bad) else .bad := by rw [evE] <;> rfl
/-- the end: the list made is a new one -/
theorem Mid.fin {np npq : Bool} {L : Addr} {mi : List Addr} {hp : List D} {Hi : Hp} {ys : List D} {acc : List V} (o : Ok F m z σ H) (p : PP F m z σ H np true [] z1 [] H1 m1) (M : Mid F L m1 z1 σ H1 mi hp Hi ys acc) (hn : npq = true → np = true) :
    PP F m z σ H npq false [.lst ys] { z1 with hp := hp } [.ref L] Hi mi ∧ Fresh F H mi { z1 with hp := hp } σ Hi (.lst ys) (.ref L) := by
  obtain ⟨o1, less⟩ := M.ok.unplus p.ok.m0n
  have gl : Gt (Avs (F.plus L) mi { z1 with hp := hp } σ) (Avs F mi { z1 with hp := hp } σ) mi mi Hi Hi := less_gt less
  have na : ¬ Avs F mi { z1 with hp := hp } σ L := by
    rintro ((h | h) | ⟨i, h⟩)
    · obtain ⟨u, e⟩ := p.ok.n0 L h
      rw [M.h1] at e
      cases e
    · exact M.dm h
    · exact M.no i L h rfl
  have hq0 : H L = none := by
    cases e : H L with
    | none => rfl
    | some u =>
      obtain ⟨u', e'⟩ := p.gt.there L u e
      rw [M.h1] at e'
      cases e'
  exact ⟨⟨o1, (p.gt.trans M.gt).trans gl, fun h => (p.np (hn h)).trans M.gp, ⟨_, _, rfl, ⟨L, acc, rfl, M.at_, na, Reps.mono gl ys acc M.rp⟩, rfl⟩⟩, L, rfl, hq0, na, M.h0, M.ok, acc, M.at_, M.rp⟩
theorem comp_w {t : Tg} {IT C EL : E} (σ : L2.St) (H : Hp) (Q : VK) (h : tDf g W (.comp t IT C EL) σ H Q) : tLc (tI g W true IT) (gT g.K t) (tT g W0 true C) (tD g W0 false EL) t.ix σ H Q := by
  obtain ⟨F, m, z, eg, o, h⟩ := h
  subst eg
  rw [evE_comp] at h
  refine ⟨F, m, z, rfl, o, ?_⟩
  cases e1 : evE true IT z with
  | bad => rw [e1] at h; exact h.elim
  | exn c ds z1 => rw [e1] at h; exact h
  | ok ds z1 =>
    rw [e1] at h
    have h : aftF F W m z σ H (E.np (.comp t IT C EL)) (match items IT.dk (ds.headD .non) with
      | none => .bad
      | some xs => if freeTg t.ix z1.env then (match compL (body1 t (evE true C) (evE false EL) (wipeE (lockE z1.env) t.ix)) xs z1.hp with
        | some (ys, hp) => .ok [.lst ys] { z1 with hp := hp }
        | none => .bad) else .bad) Q := h
    show match items IT.dk (ds.headD .non) with | none => False | some xs => _
    cases e2 : items IT.dk (ds.headD .non) with
    | none => rw [e2] at h; exact h
    | some xs =>
      rw [e2] at h
      simp only at h
      have hxs := items_big e2
      by_cases hf : freeTg t.ix z1.env = true
      · rw [if_pos hf] at h
        cases e3 : compL (body1 t (evE true C) (evE false EL) (wipeE (lockE z1.env) t.ix)) xs z1.hp with
        | none => rw [e3] at h; exact h.elim
        | some q =>
          obtain ⟨ysE, hpE⟩ := q
          rw [e3] at h
          intro J H1 m1 p src L hL
          refine ⟨fun i k Hc => k = xs.length - i ∧ i ≤ xs.length ∧ ∃ mi hp ys acc rest, Mid F L m1 z1 σ H1 mi hp Hc ys acc ∧ compL (body1 t (evE true C) (evE false EL) (wipeE (lockE z1.env) t.ix)) (xs.drop i) hp = some (rest, hpE) ∧ ys ++ rest = ysE ∧ acc.length ≤ i,
            ⟨_, rfl, Nat.zero_le _, m1, z1.hp, [], [], ysE, Mid.start p.ok hL, e3, rfl, Nat.le_refl _⟩, ?_⟩
          rintro i k Hc ⟨rfl, hi, mi, hp, ys, acc, rest, M, ec, ey, hacc⟩
          by_cases hlt : i < xs.length
          · refine .inr ?_
            have ed : xs.drop i = xs[i] :: xs.drop (i + 1) := List.drop_eq_getElem_cons hlt
            rw [ed] at ec
            obtain ⟨ob, hp1, rest1, eb, ec1, er⟩ := compL_cons ec
            obtain ⟨hgo, hy⟩ := src.go _ _ mi Hc M.gp M.gt (fun a => M.ok.stands) i xs[i] (List.getElem?_eq_getElem hlt)
            refine ⟨hgo, fun H' => ∃ m', m' < xs.length - i ∧ (m' = xs.length - (i + 1) ∧ i + 1 ≤ xs.length ∧ ∃ mi hp ys acc rest, Mid F L m1 z1 σ H1 mi hp H' ys acc ∧ compL (body1 t (evE true C) (evE false EL) (wipeE (lockE z1.env) t.ix)) (xs.drop (i + 1)) hp = some (rest, hpE) ∧ ys ++ rest = ysE ∧ acc.length ≤ i + 1), fun H' q => q, ?_⟩
            intro x H3 hx
            obtain ⟨s, r⟩ := hy x H3 hx
            have M3 := M.same s
            have o3 : Ok ((F.plus L).inner mi { z1 with hp := hp } σ H3) mi ⟨wipeE (lockE z1.env) t.ix, hp⟩ (wipe σ t.ix) H3 := M3.ok.inner hf
            have less : ∀ a, Avs ((F.plus L).inner mi { z1 with hp := hp } σ H3) mi ⟨wipeE (lockE z1.env) t.ix, hp⟩ (wipe σ t.ix) a → Avs (F.plus L) mi { z1 with hp := hp } σ a := by
              rintro a ((h | h) | ⟨j, h⟩)
              · exact h
              · exact .inl (.inr h)
              · refine .inr ⟨j, ?_⟩
                obtain ⟨⟨dd, hd⟩, hs⟩ := h
                refine ⟨?_, (wipe_some hs).1⟩
                have get : ∀ s : Slot, s ≠ .no → (wipeE (lockE z1.env) t.ix)[j]? = some s → ∃ t', z1.env[j]? = some t' ∧ t'.locked = s := fun s hs' hh => by
                  obtain ⟨h1, _⟩ := wipeE_get hs' hh
                  rw [lock_get] at h1
                  exact Option.map_eq_some_iff.mp h1
                rcases hd with hd | hd
                · obtain ⟨t', e1, e2⟩ := get (.own dd) (fun q => nomatch q) hd
                  cases t' <;> cases e2
                · obtain ⟨t', e1, e2⟩ := get (.lock dd) (fun q => nomatch q) hd
                  cases t' with
                  | own d' => exact ⟨d', .inl e1⟩
                  | lock d' => exact ⟨d', .inr e1⟩
                  | no => cases e2
                  | val d' => cases e2
            have T := turn1 (t := t) (is := t.ix) (hp' := hp1) (o := ob) (N := fun H' => ∃ m', m' < xs.length - i ∧ (m' = xs.length - (i + 1) ∧ i + 1 ≤ xs.length ∧ ∃ mi hp ys acc rest, Mid F L m1 z1 σ H1 mi hp H' ys acc ∧ compL (body1 t (evE true C) (evE false EL) (wipeE (lockE z1.env) t.ix)) (xs.drop (i + 1)) hp = some (rest, hpE) ∧ ys ++ rest = ysE ∧ acc.length ≤ i + 1))
              M3 o3 r rfl less eb (Nat.lt_of_le_of_lt hacc (Nat.lt_of_lt_of_le hlt (big_line hxs))) (fun _ h => h)
              (fun m' H' acc' M' hl => ⟨_, by omega, rfl, hlt, m', hp1, ys ++ ob, acc', rest1, M', ec1, by rw [List.append_assoc, ← er, ey], by omega⟩)
            rw [wipe_idem t.ix fun _ h => h] at T
            exact T
          · refine .inl ⟨src.stop _ _ mi Hc M.gp M.gt i (by omega), ?_⟩
            have ed : xs.drop i = [] := List.drop_eq_nil_of_le (by omega)
            rw [ed] at ec
            have ec : some (([] : List D), hp) = some (rest, hpE) := ec
            injection ec with ec
            injection ec with ec1 ec2
            subst ec1 ec2
            rw [List.append_nil] at ey
            subst ey
            obtain ⟨p1, f1⟩ := M.fin (npq := (E.comp t IT C EL).np) o p fun h => h
            exact h _ Hc mi p1.dropT f1
      · rw [if_neg hf] at h
        exact h.elim
theorem sf_comp {elt tg iter : Expr} {ifs : List Expr} {scope : Scope} {own : List (Str × Nat)} {t : Tg} {IT C EL : E} (hc : X.calm = true) (hN : X.N.Nodup) (hi : SI g W X tg iter IT) (ok : BlkOk X.N X.env.scope scope own) (ho : own.map (·.2) = t.ix)
    (hg : ∀ (s : Shared) (H : Hp) (C : Addr) (cl : List (Str × Addr)) (fp : List Addr), PG (X.blk s H scope (compEnvC scope cl C X.env) fp) tg (gT g.K t))
    (ht : ∀ (s : Shared) (H : Hp) (C' : Addr) (cl : List (Str × Addr)) (fp : List Addr), STs g (X.blk s H scope (compEnvC scope cl C' X.env) fp) ifs C)
    (he : ∀ (s : Shared) (H : Hp) (C : Addr) (cl : List (Str × Addr)) (fp : List Addr), SE g W0 (X.blk s H scope (compEnvC scope cl C X.env) fp) elt EL) (hs : ∀ x, foldedSetIterable iter X.env x = pure x) :
    SF g W X (.ListComp elt [⟨tg, iter, ifs, 0⟩] scope pos) (.comp t IT C EL) :=
  PE.weak (pe_lc hc hN (hi true) ok hg ht (fun s H C cl fp => he s H C cl fp false) hs) fun σ H Q h => by
    rw [ho]
    exact comp_w σ H Q h
end
end G
end
section
set_option Elab.async false
set_option linter.all false
set_option maxHeartbeats 2000000
/-! GN: statements. -/
namespace G
open PySem PySem.Spec PyProof.Rows L2
structure PS_ (F : Fx) (m : List Addr) (z : Z) (σ : L2.St) (H : Hp) (z' : Z) (σ' : L2.St) (H' : Hp) (m' : List Addr) : Prop where
  ok : Ok F m' z' σ' H'
  gt : Gt (Avs F m z σ) (Avs F m' z' σ') m m' H H'
def aftS (F : Fx) (W : WX) (m : List Addr) (z : Z) (σ : L2.St) (H : Hp) (o : O) (D : Ends) : Prop :=
  match o with
  | .next z' => ∀ σ' H' m', PS_ F m z σ H z' σ' H' m' → D.nx σ' H'
  | .ret d z' => ∀ v σ' H' m', PS_ F m z σ H z' σ' H' m' → Rep F.g.K F.g.cl (Avs F m' z' σ') m' H' d v → D.rt v H'
  | .brk z' => ∀ σ' H' m', PS_ F m z σ H z' σ' H' m' → D.bk σ' H'
  | .cont z' => ∀ σ' H' m', PS_ F m z σ H z' σ' H' m' → D.ct σ' H'
  | .exn c ds z' => ∀ cls d σ' H' m', PS_ F m z σ H z' σ' H' m' → ExcAt F (Avs F m' z' σ') m' H' c ds cls d → W cls d σ' H'
  | .bad => False
def tS (g : Gx) (W : WX) (s : S) : TS := fun D σ H => ∃ F m z, F.g = g ∧ Ok F m z σ H ∧ aftS F W m z σ H (evS s z) D
def S1 (g : Gx) (W : WX) (X : Cx) (st : Stmt) (s : S) : Prop := PS X st (tS g W s)
def SS (g : Gx) (W : WX) (X : Cx) (sts : List Stmt) (s : S) : Prop := PSs X sts (tS g W s)
section
variable {F : Fx} {g : Gx} {W : WX} {X : Cx} {pos p : Pos} {m m1 m2 : List Addr} {z z1 z2 : Z} {σ σ1 σ2 : L2.St} {H H1 H2 : Hp} {D : Ends}
theorem PS_.refl (o : Ok F m z σ H) : PS_ F m z σ H z σ H m := ⟨o, Gt.refl⟩
theorem PS_.trans (a : PS_ F m z σ H z1 σ1 H1 m1) (b : PS_ F m1 z1 σ1 H1 z2 σ2 H2 m2) : PS_ F m z σ H z2 σ2 H2 m2 := ⟨b.ok, a.gt.trans b.gt⟩
theorem PP.ps {np pk : Bool} {ds : List G.D} {vs : List V} (a : PP F m z σ H np pk ds z1 vs H1 m1) : PS_ F m z σ H z1 σ H1 m1 := ⟨a.ok, a.gt⟩
theorem aftS_after {o : O} (p : PS_ F m z σ H z1 σ1 H1 m1) (h : aftS F W m z σ H o D) : aftS F W m1 z1 σ1 H1 o D := by
  cases o with
  | bad => exact h
  | next z2 => exact fun σ' H' m' q => h σ' H' m' (p.trans q)
  | ret d z2 => exact fun v σ' H' m' q => h v σ' H' m' (p.trans q)
  | brk z2 => exact fun σ' H' m' q => h σ' H' m' (p.trans q)
  | cont z2 => exact fun σ' H' m' q => h σ' H' m' (p.trans q)
  | exn c ds z2 => exact fun cls d σ' H' m' q => h cls d σ' H' m' (p.trans q)
theorem ss_nil : SS g W X [] .skip := PSs.weak pss_nil fun D σ H ⟨F, m, z, eg, o, h⟩ => h σ H m (PS_.refl o)
theorem s1_pass : S1 g W X (.Pass pos) .skip := PS.weak ps_pass fun D σ H ⟨F, m, z, eg, o, h⟩ => h σ H m (PS_.refl o)
theorem s1_brk : S1 g W X (.Break pos) .brk := PS.weak ps_break fun D σ H ⟨F, m, z, eg, o, h⟩ => h σ H m (PS_.refl o)
theorem s1_cont : S1 g W X (.Continue pos) .cont := PS.weak ps_continue fun D σ H ⟨F, m, z, eg, o, h⟩ => h σ H m (PS_.refl o)
theorem s1_bad {st : Stmt} : S1 g W X st .bad := PS.weak ps_never fun D σ H ⟨F, m, z, eg, o, h⟩ => h
theorem ss_bad {st : List Stmt} : SS g W X st .bad := PSs.weak pss_never fun D σ H ⟨F, m, z, eg, o, h⟩ => h
theorem ss_cons {st : Stmt} {sts : List Stmt} {a b : S} (h1 : S1 g W X st a) (h2 : SS g W X sts b) : SS g W X (st :: sts) (.seq a b) :=
  PSs.weak (pss_cons h1 h2) fun D σ H ⟨F, m, z, eg, o, h⟩ => by
    refine ⟨F, m, z, eg, o, ?_⟩
    unfold evS at h
    cases e1 : evS a z with
    | bad => rw [e1] at h; exact h
    | ret d z1 => rw [e1] at h; exact h
    | brk z1 => rw [e1] at h; exact h
    | cont z1 => rw [e1] at h; exact h
    | exn c ds z1 => rw [e1] at h; exact h
    | next z1 =>
      rw [e1] at h
      exact fun σ1 H1 m1 q => ⟨F, m1, z1, eg, q.ok, aftS_after q h⟩
theorem ss_one {st : Stmt} {a : S} (h1 : S1 g W X st a) : SS g W X [st] a := pss_one h1
/-- an expression, then something with its value -/
theorem to_aft {pk : Bool} {e : E} {f : G.D → Z → O} (o : Ok F m z σ H) (h : aftS F W m z σ H ((evE pk e z).to f) D) {Q : List V → Hp → Prop}
    (w : ∀ x z1 vs H1 m1, evE pk e z = .ok x z1 → PP F m z σ H e.np pk x z1 vs H1 m1 → aftS F W m z σ H (f (x.headD .non) z1) D → Q vs H1) : aft F W m z σ H e.np pk (evE pk e z) Q := by
  cases e1 : evE pk e z with
  | bad => rw [e1] at h; exact h.elim
  | exn c ds z1 =>
    rw [e1] at h
    exact fun cls d H1 m1 q => h cls d σ H1 m1 ⟨q.ok, q.gt⟩ q.ex
  | ok x z1 =>
    rw [e1] at h
    exact fun vs H1 m1 q => w x z1 vs H1 m1 e1 q h
theorem rf_one {ds : List G.D} {v : V} (h : RF_ F false m z σ H ds [v]) : ∃ d, ds = [d] ∧ Rep F.g.K F.g.cl (Avs F m z σ) m H d v := by
  have h : Reps F.g.K F.g.cl (Avs F m z σ) m H ds [v] := h
  cases ds with
  | nil => cases h
  | cons d t =>
    obtain ⟨w, r, e, q, t'⟩ := h
    cases e
    have l := t'.length
    cases t with
    | nil => exact ⟨d, rfl, q⟩
    | cons _ _ => simp at l
/-- target = value -/
theorem asg_w {t : Tg} {e : E} (D : Ends) (σ : L2.St) (H : Hp) (h : tS g W (.set t e) D σ H) : tAsg (tD g W false e) (gT g.K t) D σ H := by
  obtain ⟨F, m, z, eg, o, h⟩ := h
  subst eg
  unfold evS at h
  refine ⟨F, m, z, rfl, o, to_aft o h fun x z1 vs H1 m1 _ p q v ev => ?_⟩
  subst ev
  obtain ⟨d, rfl, r⟩ := rf_one p.rp
  cases e1 : setTg t d z1.env with
  | none => simp only [List.headD, e1] at q; exact q.elim
  | some env =>
    simp only [List.headD, e1] at q
    refine tg_put p.ok r e1 fun σ2 P => ?_
    exact q σ2 H1 m1 (p.ps.trans ⟨P.ok, less_gt P.less⟩)
theorem s1_asg {tg : Expr} {e : Expr} {t : Tg} {E : E} (he : SE g W X e E) (hg : PG X tg (gT g.K t)) (hs : swapsWithSole [tg] e pos.line X.env = pure false) (hw : swappedStores [tg] e X.env = pure none) (h1 : (assignEach [tg] X.env).map (·.2) = [assign tg X.env]) : S1 g W X (.Assign [tg] e pos) (.set t E) :=
  PS.weak (ps_asg (he false) hg hs hw h1) asg_w
theorem s1_set {i : Nat} {x : Str} {e : Expr} {E : E} {pos' : Pos} (hN : X.N.Nodup) (hi : X.N[i]? = some x) (hx : Loc X.env.scope x) (he : SE g W X e E) (hs : swapsWith e (some (.Name x pos')) pos.line X.env = pure false) (hf : X.fn x = true ∨ X.env.scope.names.lookup x = some .local) : S1 g W X (.Assign [.Name x pos'] e pos) (.set (.one i) E) :=
  PS.weak (ps_set hN hi hx (he false) hs hf) asg_w
/-- name = a new list, the name its owner -/
theorem put_own {L : Addr} {i : Nat} {d : G.D} (o : Ok (F.plus L) m z σ H) (h0 : F.H0 L = none) (hn : ¬ F.N0 L) (hm : L ∉ m) (hl : i < z.env.length) (m0n : ∀ a, a ∈ F.m0 → F.N0 a) (t : Top F.g.K F.g.cl (Avs (F.plus L) m z σ) m H L d) (hno : ∀ j, ¬ OwnAt z σ j L) :
    Ok F m { z with env := z.env.set i (.own d) } (σ.set i (some (.ref L))) H ∧ ∀ a, Avs F m { z with env := z.env.set i (.own d) } (σ.set i (some (.ref L))) a → Avs F m z σ a ∨ a = L := by
  have hlσ : i < σ.length := by rw [o.len]; exact hl
  have own : ∀ {j : Nat} {a : Addr}, OwnAt { z with env := z.env.set i (.own d) } (σ.set i (some (.ref L))) j a → (j = i ∧ a = L) ∨ (j ≠ i ∧ OwnAt z σ j a) := by
    intro j a ⟨⟨d', hd⟩, hs⟩
    by_cases hj : j = i
    · subst hj
      rw [List.getElem?_set_self hlσ] at hs
      exact .inl ⟨rfl, by cases hs; rfl⟩
    · have hd : (z.env.set i (.own d))[j]? = some (.own d') ∨ (z.env.set i (.own d))[j]? = some (.lock d') := hd
      rw [List.getElem?_set_ne (Ne.symm hj)] at hd hs
      exact .inr ⟨hj, ⟨d', hd⟩, hs⟩
  have less : ∀ a, Avs F m { z with env := z.env.set i (.own d) } (σ.set i (some (.ref L))) a → Avs F m z σ a ∨ a = L := by
    rintro a ((h | h) | ⟨j, h⟩)
    · exact .inl (.inl (.inl h))
    · exact .inl (.inl (.inr h))
    · rcases own h with ⟨_, e⟩ | ⟨_, h⟩
      · exact .inr e
      · exact .inl (.inr ⟨j, h⟩)
  have gt : Gt (Avs (F.plus L) m z σ) (Avs F m { z with env := z.env.set i (.own d) } (σ.set i (some (.ref L)))) m m H H := less_gt fun a h => by
    rcases less a h with h | h
    · exact av_plus h
    · exact .inl (.inl (.inr h))
  refine ⟨⟨by simp [o.len], o.ml, o.nd, fun k a c h1 h2 => (o.cells k a c h1 h2).mono gt fun _ q => q, fun j c h => ?_, fun j c h => ?_, fun j k a h1 h2 => ?_, fun j a h => ?_, fun j c a h1 h2 => ?_, o.pre, o.mnew, o.fr, fun a h => o.n0 a (.inl h), m0n⟩, less⟩
  · have h : (z.env.set i (.own d))[j]? = some (.val c) := h
    by_cases hj : j = i
    · subst hj
      rw [List.getElem?_set_self hl] at h
      cases h
    · rw [List.getElem?_set_ne (Ne.symm hj)] at h
      obtain ⟨v, e, r⟩ := o.val j c h
      exact ⟨v, by rw [List.getElem?_set_ne (Ne.symm hj)]; exact e, Rep.mono gt c v r⟩
  · have h : (z.env.set i (.own d))[j]? = some (.own c) ∨ (z.env.set i (.own d))[j]? = some (.lock c) := h
    by_cases hj : j = i
    · subst hj
      rw [List.getElem?_set_self hl] at h
      rcases h with h | h
      · cases h
        exact ⟨L, by rw [List.getElem?_set_self hlσ], t.mono gt fun _ q => q⟩
      · cases h
    · rw [List.getElem?_set_ne (Ne.symm hj)] at h
      obtain ⟨a, e, r⟩ := o.own j c h
      exact ⟨a, by rw [List.getElem?_set_ne (Ne.symm hj)]; exact e, r.mono gt fun _ q => q⟩
  · rcases own h1 with ⟨e1, e2⟩ | ⟨n1, h1⟩
    · rcases own h2 with ⟨e3, _⟩ | ⟨_, h2⟩
      · rw [e1, e3]
      · rw [e2] at h2
        exact absurd h2 (hno k)
    · rcases own h2 with ⟨_, e2⟩ | ⟨_, h2⟩
      · rw [e2] at h1
        exact absurd h1 (hno j)
      · exact o.inj j k a h1 h2
  · rcases own h with ⟨_, e⟩ | ⟨_, h⟩
    · rw [e]; exact hm
    · exact o.new j a h
  · have h1 : (z.env.set i (.own d))[j]? = some (.own c) := h1
    by_cases hj : j = i
    · subst hj
      rw [List.getElem?_set_self hlσ] at h2
      cases h2
      exact ⟨hn, h0⟩
    · rw [List.getElem?_set_ne (Ne.symm hj)] at h1 h2
      obtain ⟨n, e⟩ := o.newO j c a h1 h2
      exact ⟨fun q => n (.inl q), e⟩
/-- of a fresh object: it is none of what there is -/
theorem Fresh.facts {d : G.D} {v : V} (f : Fresh F H m1 z1 σ H1 d v) :
    ∃ L, v = .ref L ∧ H L = none ∧ F.H0 L = none ∧ Ok (F.plus L) m1 z1 σ H1 ∧ Top F.g.K F.g.cl (Avs (F.plus L) m1 z1 σ) m1 H1 L d ∧ ¬ F.N0 L ∧ L ∉ m1 ∧ ∀ j, ¬ OwnAt z1 σ j L := by
  obtain ⟨L, e, h, key, h0, o1, t⟩ := f
  exact ⟨L, e, h, h0, o1, t, fun q => key (.inl (.inl q)), fun q => key (.inl (.inr q)), fun j q => key (.inr ⟨j, q⟩)⟩
theorem own_ps {i : Nat} {d : G.D} {v : V} {np : Bool} (o : Ok F m z σ H) (p : PP F m z σ H np true [] z1 [] H1 m1) (f : Fresh F H m1 z1 σ H1 d v) (hl : i < z1.env.length) : PS_ F m z σ H { z1 with env := z1.env.set i (.own d) } (σ.set i (some v)) H1 m1 := by
  obtain ⟨L, rfl, h, h0, o1, t, n1, n2, n3⟩ := f.facts
  obtain ⟨o2, less⟩ := put_own o1 h0 n1 n2 hl o.m0n t n3
  refine ⟨o2, fun a u q n => p.gt.keep a u q n, p.gt.tup, p.gt.frz, fun a u q w => ?_, p.gt.pre, p.gt.there⟩
  rcases less a w with w | w
  · exact p.gt.av a u q w
  · rw [w, h] at q
    cases q
theorem own_w {i : Nat} {e : E} (D : Ends) (σ : L2.St) (H : Hp) (hi : i < σ.length) (h : tS g W (.own i e) D σ H) : tAsg (tDf g W e) (gName i) D σ H := by
  obtain ⟨F, m, z, eg, o, h⟩ := h
  subst eg
  unfold evS at h
  refine ⟨F, m, z, rfl, o, ?_⟩
  cases e1 : evE false e z with
  | bad => rw [e1] at h; exact h.elim
  | exn c ds z1 =>
    rw [e1] at h
    exact fun cls d H1 m1 q => h cls d σ H1 m1 ⟨q.ok, q.gt⟩ q.ex
  | ok x z1 =>
    rw [e1] at h
    intro v H1 m1 p f
    have h : aftS F W m z σ H (if ownable (x.headD .non) then .next { z1 with env := z1.env.set i (.own (x.headD .non)) } else .bad) D := h
    by_cases ho : ownable (x.headD .non) = true
    · rw [if_pos ho] at h
      exact h _ H1 m1 (own_ps o p f (by rw [← p.ok.len]; exact hi))
    · rw [if_neg ho] at h
      exact h.elim
theorem tAsg_len {te : TE} {i : Nat} {D : Ends} {σ : L2.St} {H : Hp} : tAsg te (gName i) D σ H = te σ H fun x H1 => D.nx (σ.set i (some x)) H1 := rfl
/-- every statement may know how many slots there are -/
theorem PS.len {st : Stmt} {t u : TS} (h : PS X st t) (w : ∀ D σ H, σ.length = X.N.length → u D σ H → t D σ H) : PS X st u := ⟨fun pins s σ H Q I q => h.run pins s σ H Q I (w Q σ H I.len q)⟩
theorem s1_own {i : Nat} {x : Str} {e : Expr} {E : E} {pos' : Pos} (hN : X.N.Nodup) (hi : X.N[i]? = some x) (hx : Loc X.env.scope x) (he : SF g W X e E) (hs : swapsWith e (some (.Name x pos')) pos.line X.env = pure false) (hf : X.fn x = true ∨ X.env.scope.names.lookup x = some .local) : S1 g W X (.Assign [.Name x pos'] e pos) (.own i E) :=
  PS.len (ps_set hN hi hx he hs hf) fun D σ H hl => own_w D σ H (by rw [hl]; exact (List.getElem?_eq_some_iff.mp hi).1)
/-- .. a comprehension whose end is stored at once -/
theorem s1_setLc {i : Nat} {y : Str} {py : Pos} {elt tg iter : Expr} {ifs : List Expr} {scope : Scope} {own : List (Str × Nat)} {pos' : Pos} {t : Tg} {IT C EL : E} (hc : X.calm = true) (hN : X.N.Nodup) (hy : X.N[i]? = some y) (hyl : X.env.scope.names.lookup y = some .local)
    (hsw : swapsWith (.ListComp elt [⟨tg, iter, ifs, 0⟩] scope pos') (some (.Name y py)) pos.line X.env = pure true) (hi : SI g W X tg iter IT) (ok : BlkOk X.N X.env.scope scope own) (ho : own.map (·.2) = t.ix)
    (hg : ∀ (s : Shared) (H : Hp) (C : Addr) (cl : List (Str × Addr)) (fp : List Addr), PG (X.blk s H scope (compEnvC scope cl C X.env) fp) tg (gT g.K t))
    (ht : ∀ (s : Shared) (H : Hp) (C' : Addr) (cl : List (Str × Addr)) (fp : List Addr), STs g (X.blk s H scope (compEnvC scope cl C' X.env) fp) ifs C)
    (he : ∀ (s : Shared) (H : Hp) (C : Addr) (cl : List (Str × Addr)) (fp : List Addr), SE g W0 (X.blk s H scope (compEnvC scope cl C X.env) fp) elt EL) (hs : ∀ x, foldedSetIterable iter X.env x = pure x) (b : Bool) :
    S1 g W X (.Assign [.Name y py] (.ListComp elt [⟨tg, iter, ifs, 0⟩] scope pos') pos) (if b then .own i (.comp t IT C EL) else .set (.one i) (.comp t IT C EL)) := by
  refine PS.len (ps_setLc hc hN hy hyl hsw (hi true) ok hg ht (fun s H C cl fp => he s H C cl fp false) hs) fun D σ H hl h => ?_
  show tLc _ _ _ _ _ σ H _
  rw [ho]
  refine comp_w σ H _ ?_
  cases b with
  | true => exact own_w D σ H (by rw [hl]; exact (List.getElem?_eq_some_iff.mp hy).1) h
  | false =>
    have q := asg_w (t := .one i) D σ H h
    obtain ⟨F, m, z, eg, o, q⟩ := q
    exact ⟨F, m, z, eg, o, aft_F (fun _ _ q => isL_ev rfl q) q⟩
theorem s1_expr {e : Expr} {E : E} (he : SE g W X e E) (hs : swapsWith e none pos.line X.env = pure false) : S1 g W X (.Expr e pos) (.expr E) :=
  PS.weak (ps_expr (he false) hs) fun D σ H ⟨F, m, z, eg, o, h⟩ => by
    subst eg
    unfold evS at h
    exact ⟨F, m, z, rfl, o, to_aft o h fun x z1 vs H1 m1 _ p q v ev => q σ H1 m1 p.ps⟩
theorem s1_ret {e : Expr} {E : E} (he : SE g W X e E) : S1 g W X (.Return (some e) pos) (.ret E) :=
  PS.weak (ps_ret (he false)) fun D σ H ⟨F, m, z, eg, o, h⟩ => by
    subst eg
    unfold evS at h
    refine ⟨F, m, z, rfl, o, to_aft o h fun x z1 vs H1 m1 _ p q v ev => ?_⟩
    subst ev
    obtain ⟨d, rfl, r⟩ := rf_one p.rp
    exact q v σ H1 m1 p.ps r
theorem s1_retN : S1 g W X (.Return none pos) .retN := PS.weak ps_retN fun D σ H ⟨F, m, z, eg, o, h⟩ => h .non σ H m (PS_.refl o) rfl
theorem s1_if {c : Expr} {a b : List Stmt} {C : E} {A B : S} (hc : ST g W X c C) (ha : SS g W X a A) (hb : SS g W X b B) : S1 g W X (.If c a b pos) (.ite C A B) :=
  PS.weak (ps_if (hc true) ha hb) fun D σ H ⟨F, m, z, eg, o, h⟩ => by
    unfold evS at h
    rw [evT_p] at h
    refine ⟨F, m, z, eg, o, ?_⟩
    cases e1 : evTp true C z with
    | bad => rw [e1] at h; exact h.elim
    | exn c ds z1 =>
      rw [e1] at h
      exact fun cls d H1 m1 q => h cls d σ H1 m1 ⟨q.ok, q.gt⟩ q.ex
    | ok t z1 =>
      rw [e1] at h
      intro H1 m1 p
      cases t with
      | true => exact tt_of rfl ⟨F, m1, z1, eg, p.ok, aftS_after p.ps h⟩
      | false => exact ff_of rfl ⟨F, m1, z1, eg, p.ok, aftS_after p.ps h⟩
/-- for -/
theorem s1_for {tg iter : Expr} {body : List Stmt} {t : Tg} {IT : E} {B : S} (hp : PassesOwn (model X.prog X.w) X.A X.env X.xe) (hc : X.calm = true) (hi : SI g W X tg iter IT) (hg : PG X tg (gT g.K t)) (hb : SS g W X body B) (hs : ∀ x, foldedSetIterable iter X.env x = pure x) : S1 g W X (.For tg iter body [] pos) (.for t IT B) :=
  PS.weak (ps_for hp hc (hi false) hg hb hs) fun D σ H ⟨F, m, z, eg, o, h⟩ => by
    subst eg
    unfold evS at h
    refine ⟨F, m, z, rfl, o, ?_⟩
    cases e1 : evE false IT z with
    | bad => rw [e1] at h; exact h.elim
    | exn c ds z1 =>
      rw [e1] at h
      exact fun cls d H1 m1 q => h cls d σ H1 m1 ⟨q.ok, q.gt⟩ q.ex
    | ok ds z1 =>
      rw [e1] at h
      have h : aftS F W m z σ H (match items IT.dk (ds.headD .non) with | none => .bad | some xs => forL (fun x z2 => match setTg t x z2.env with | some env => evS B { z2 with env := env } | none => .bad) xs z1) D := h
      show match items IT.dk (ds.headD .non) with | none => False | some xs => _
      cases e2 : items IT.dk (ds.headD .non) with
      | none => rw [e2] at h; exact h
      | some xs =>
        rw [e2] at h
        intro J H1 m1 p src
        refine ⟨fun i k σi Hi => k = xs.length - i ∧ i ≤ xs.length ∧ ∃ mi zi, PS_ F m1 z1 σ H1 zi σi Hi mi ∧ aftS F W mi zi σi Hi (forL (fun x z2 => match setTg t x z2.env with | some env => evS B { z2 with env := env } | none => .bad) (xs.drop i) zi) D, ⟨_, rfl, Nat.zero_le _, m1, z1, PS_.refl p.ok, ?_⟩, ?_⟩
        · have h1 := aftS_after (z1 := z1) (H1 := H1) (m1 := m1) (σ1 := σ) ⟨p.ok, p.gt⟩ h
          exact h1
        · rintro i k σi Hi ⟨rfl, hi', mi, zi, P, hh⟩
          by_cases hlt : i < xs.length
          · refine .inr ?_
            have ed : xs.drop i = xs[i] :: xs.drop (i + 1) := List.drop_eq_getElem_cons hlt
            rw [ed] at hh
            unfold forL at hh
            obtain ⟨hgo, hy⟩ := src.go _ _ mi Hi P.gt P.gt (fun a => P.ok.stands) i xs[i] (List.getElem?_eq_getElem hlt)
            refine ⟨hgo, fun σ' H' => ∃ m', m' < xs.length - i ∧ (m' = xs.length - (i + 1) ∧ i + 1 ≤ xs.length ∧ ∃ mi zi, PS_ F m1 z1 σ H1 zi σ' H' mi ∧ aftS F W mi zi σ' H' (forL (fun x z2 => match setTg t x z2.env with | some env => evS B { z2 with env := env } | none => .bad) (xs.drop (i + 1)) zi) D), fun σ' H' q => q, ?_⟩
            intro x H3 hx
            obtain ⟨s, r⟩ := hy x H3 hx
            have o3 := P.ok.same s
            have P3 : PS_ F mi zi σi Hi zi σi H3 mi := ⟨o3, same_gt s⟩
            cases e3 : setTg t xs[i] zi.env with
            | none => simp only [e3] at hh; exact hh.elim
            | some env =>
              simp only [e3] at hh
              refine tg_put o3 r e3 fun σ4 T => ?_
              have P4 : PS_ F mi zi σi Hi { zi with env := env } σ4 H3 mi := P3.trans ⟨T.ok, less_gt T.less⟩
              refine ⟨F, mi, { zi with env := env }, rfl, T.ok, ?_⟩
              cases e4 : evS B { zi with env := env } with
              | bad => rw [e4] at hh; exact hh
              | ret d z5 =>
                rw [e4] at hh
                exact fun v σ5 H5 m5 q => hh v σ5 H5 m5 (P4.trans q)
              | exn c ds z5 =>
                rw [e4] at hh
                exact fun cls d σ5 H5 m5 q => hh cls d σ5 H5 m5 (P4.trans q)
              | brk z5 =>
                rw [e4] at hh
                exact fun σ5 H5 m5 q => hh σ5 H5 m5 (P4.trans q)
              | next z5 =>
                rw [e4] at hh
                exact fun σ5 H5 m5 q => ⟨_, by omega, rfl, hlt, m5, z5, (P.trans P4).trans q, aftS_after (P4.trans q) hh⟩
              | cont z5 =>
                rw [e4] at hh
                exact fun σ5 H5 m5 q => ⟨_, by omega, rfl, hlt, m5, z5, (P.trans P4).trans q, aftS_after (P4.trans q) hh⟩
          · refine .inl ⟨src.stop _ _ mi Hi P.gt P.gt i (by omega), ?_⟩
            have ed : xs.drop i = [] := List.drop_eq_nil_of_le (by omega)
            rw [ed] at hh
            exact hh σi Hi mi (PS_.refl P.ok)
/-- while -/
theorem s1_while {c : Expr} {body : List Stmt} {C : E} {B : S} (hp : PassesOwn (model X.prog X.w) X.A X.env X.xe) (hc : ST g W X c C) (hb : SS g W X body B) : S1 g W X (.While c body [] pos) (.while C B) :=
  PS.weak (ps_while hp (hc true) hb) fun D σ H ⟨F, m, z, eg, o, h⟩ => by
    subst eg
    unfold evS at h
    refine ⟨fun k σ' H' => ∃ m' z', Ok F m' z' σ' H' ∧ aftS F W m' z' σ' H' (whileL (evT C) (evS B) k z') D, ⟨fuel, m, z, o, h⟩, ?_⟩
    rintro k σ1 H1 ⟨m1, z1, o1, h1⟩
    cases k with
    | zero => exact h1.elim
    | succ k =>
      unfold whileL at h1
      refine ⟨F, m1, z1, rfl, o1, ?_⟩
      rw [← evT_p]
      cases e1 : evT C z1 with
      | bad => rw [e1] at h1; exact h1.elim
      | exn c ds z2 =>
        rw [e1] at h1
        exact fun cls d H2 m2 q => h1 cls d σ1 H2 m2 ⟨q.ok, q.gt⟩ q.ex
      | ok t z2 =>
        rw [e1] at h1
        intro H2 m2 p
        cases t with
        | false => exact ff_of rfl (h1 σ1 H2 m2 p.ps)
        | true =>
          refine tt_of rfl ⟨fun σ' H' => ∃ m' z', Ok F m' z' σ' H' ∧ aftS F W m' z' σ' H' (whileL (evT C) (evS B) k z') D, fun σ' H' q => ⟨k, Nat.lt_succ_self k, q⟩, F, m2, z2, rfl, p.ok, ?_⟩
          simp only at h1
          cases e2 : evS B z2 with
          | bad => rw [e2] at h1; exact h1
          | ret d z3 =>
            rw [e2] at h1
            exact fun v σ3 H3 m3 q => h1 v σ3 H3 m3 (p.ps.trans q)
          | exn c ds z3 =>
            rw [e2] at h1
            exact fun cls d σ3 H3 m3 q => h1 cls d σ3 H3 m3 (p.ps.trans q)
          | brk z3 =>
            rw [e2] at h1
            exact fun σ3 H3 m3 q => h1 σ3 H3 m3 (p.ps.trans q)
          | next z3 =>
            rw [e2] at h1
            exact fun σ3 H3 m3 q => ⟨m3, z3, q.ok, aftS_after (p.ps.trans q) h1⟩
          | cont z3 =>
            rw [e2] at h1
            exact fun σ3 H3 m3 q => ⟨m3, z3, q.ok, aftS_after (p.ps.trans q) h1⟩
end
end G
end
section
set_option Elab.async false
set_option linter.all false
set_option maxHeartbeats 2000000
/-! GO: own objects and shared cells written. -/
namespace G
open PySem PySem.Spec PyProof.Rows L2
section
variable {F : Fx} {g : Gx} {W : WX} {X : Cx} {pos p : Pos} {m m1 m2 : List Addr} {z z1 z2 : Z} {σ σ1 σ2 : L2.St} {H H1 H2 : Hp}
/-- an own object is changed -/
theorem own_writeG {i : Nat} {a : Addr} {d0 d1 : D} {u0 u1 : HO} (o : Ok F m z σ H) (hz : z.env[i]? = some (.own d0)) (hs : σ[i]? = some (some (.ref a))) (ha : H a = some u0) (mu : Mut (some u0))
    (t : Gt (Avs F m z σ) (Avs F m { z with env := z.env.set i (.own d1) } σ) m m H (upd H a u1) → Top F.g.K F.g.cl (Avs F m { z with env := z.env.set i (.own d1) } σ) m (upd H a u1) a d1) :
    PS_ F m z σ H { z with env := z.env.set i (.own d1) } σ (upd H a u1) m := by
  have hl : i < z.env.length := (List.getElem?_eq_some_iff.mp hz).1
  have own : ∀ {j : Nat} {b : Addr}, OwnAt { z with env := z.env.set i (.own d1) } σ j b → OwnAt z σ j b := by
    intro j b ⟨⟨d, hd⟩, h2⟩
    refine ⟨?_, h2⟩
    have hd : (z.env.set i (.own d1))[j]? = some (.own d) ∨ (z.env.set i (.own d1))[j]? = some (.lock d) := hd
    by_cases hj : j = i
    · subst hj
      exact ⟨_, .inl hz⟩
    · rw [List.getElem?_set_ne (Ne.symm hj)] at hd
      exact ⟨d, hd⟩
  have oa : OwnAt z σ i a := ⟨⟨_, .inl hz⟩, hs⟩
  have aA : Avs F m z σ a := .inr ⟨i, oa⟩
  have lst : ∀ {b : Addr} {u : HO}, H b = some u → ¬ Mut (some u) → b ≠ a := fun h n e => by
    rw [e, ha] at h
    cases h
    exact n mu
  have g : Gt (Avs F m z σ) (Avs F m { z with env := z.env.set i (.own d1) } σ) m m H (upd H a u1) := by
    refine ⟨fun b u h n => ?_, fun b xs h => ?_, fun b o u h => ?_, fun b u h q => ?_, List.prefix_refl m, fun b u h => ?_⟩
    · rw [upd_ne (fun e => n (by rw [e]; exact aA))]; exact h
    · rw [upd_ne (lst h fun q => q)]; exact h
    · rw [upd_ne (lst h fun q => q)]; exact h
    · rcases q with (q | q) | ⟨j, q⟩
      · exact .inl (.inl q)
      · exact .inl (.inr q)
      · exact .inr ⟨j, own q⟩
    · by_cases e : b = a
      · exact ⟨_, by rw [e]; exact upd_same⟩
      · exact ⟨u, by rw [upd_ne e]; exact h⟩
  refine ⟨⟨by simp [o.len], o.ml, o.nd, fun k b d h1 h2 => (o.cells k b d h1 h2).mono g fun u q => ?_, fun j d h => ?_, fun j d h => ?_, fun j k b h1 h2 => o.inj j k b (own h1) (own h2), fun j b h => o.new j b (own h), fun j d b h1 h2 => ?_, o.pre, o.mnew, fun b u h n => ?_, fun b h => ?_, o.m0n⟩, g⟩
  · rw [upd_ne (fun e => o.new i a oa (by rw [← e]; exact List.mem_of_getElem? h1))]; exact q
  · have h : (z.env.set i (.own d1))[j]? = some (.val d) := h
    by_cases hj : j = i
    · subst hj
      rw [List.getElem?_set_self hl] at h
      cases h
    · rw [List.getElem?_set_ne (Ne.symm hj)] at h
      obtain ⟨v, e, r⟩ := o.val j d h
      exact ⟨v, e, Rep.mono g d v r⟩
  · have h : (z.env.set i (.own d1))[j]? = some (.own d) ∨ (z.env.set i (.own d1))[j]? = some (.lock d) := h
    by_cases hj : j = i
    · subst hj
      rw [List.getElem?_set_self hl] at h
      rcases h with h | h
      · cases h
        exact ⟨a, hs, t g⟩
      · cases h
    · rw [List.getElem?_set_ne (Ne.symm hj)] at h
      obtain ⟨b, e, t⟩ := o.own j d h
      refine ⟨b, e, t.mono g fun u q => ?_⟩
      rw [upd_ne (fun e2 => hj (o.inj j i b ⟨⟨d, h⟩, e⟩ (by rw [e2]; exact oa)))]
      exact q
  · obtain ⟨⟨d', _⟩, _⟩ := own (j := j) (b := b) ⟨⟨d, .inl h1⟩, h2⟩
    have h1 : (z.env.set i (.own d1))[j]? = some (.own d) := h1
    by_cases hj : j = i
    · subst hj
      exact o.newO j _ b hz h2
    · rw [List.getElem?_set_ne (Ne.symm hj)] at h1
      exact o.newO j d b h1 h2
  · rw [upd_ne (fun e => ?_)]
    · exact o.fr b u h n
    · rw [e, (o.newO i _ a hz hs).2] at h
      cases h
  · by_cases e : b = a
    · exact ⟨_, by rw [e]; exact upd_same⟩
    · rw [upd_ne e]
      exact o.n0 b h
/-- an own list gets other items -/
theorem own_write {i : Nat} {a : Addr} {xs ys : List D} {vs ws : List V} (o : Ok F m z σ H) (hz : z.env[i]? = some (.own (.lst xs))) (hs : σ[i]? = some (some (.ref a))) (ha : H a = some (.lst vs)) (r : Reps F.g.K F.g.cl (Avs F m z σ) m H ys ws) :
    PS_ F m z σ H { z with env := z.env.set i (.own (.lst ys)) } σ (upd H a (.lst ws)) m := own_writeG o hz hs ha True.intro fun g => ⟨ws, upd_same, Reps.mono g ys ws r⟩
/-- a shared cell gets other items -/
theorem cell_writeG {k : Nat} {a : Addr} {d0 d1 : D} {u0 u1 : HO} (o : Ok F m z σ H) (hk : m[k]? = some a) (hz : z.hp[k]? = some d0) (ha : H a = some u0) (mu : Mut (some u0))
    (t : Gt (Avs F m z σ) (Avs F m { z with hp := z.hp.set k d1 } σ) m m H (upd H a u1) → Top F.g.K F.g.cl (Avs F m { z with hp := z.hp.set k d1 } σ) m (upd H a u1) a d1) :
    PS_ F m z σ H { z with hp := z.hp.set k d1 } σ (upd H a u1) m := by
  have hl : k < z.hp.length := (List.getElem?_eq_some_iff.mp hz).1
  have am : a ∈ m := List.mem_of_getElem? hk
  have aA : Avs F m z σ a := .inl (.inr am)
  have lst : ∀ {b : Addr} {u : HO}, H b = some u → ¬ Mut (some u) → b ≠ a := fun h n e => by
    rw [e, ha] at h
    cases h
    exact n mu
  have g : Gt (Avs F m z σ) (Avs F m { z with hp := z.hp.set k d1 } σ) m m H (upd H a u1) := by
    refine ⟨fun b u h n => ?_, fun b xs h => ?_, fun b o u h => ?_, fun b u h q => q, List.prefix_refl m, fun b u h => ?_⟩
    · rw [upd_ne (fun e => n (by rw [e]; exact aA))]; exact h
    · rw [upd_ne (lst h fun q => q)]; exact h
    · rw [upd_ne (lst h fun q => q)]; exact h
    · by_cases e : b = a
      · exact ⟨_, by rw [e]; exact upd_same⟩
      · exact ⟨u, by rw [upd_ne e]; exact h⟩
  refine ⟨⟨o.len, by simp [o.ml], o.nd, fun j b d h1 h2 => ?_, fun j d h => ?_, fun j d h => ?_, o.inj, o.new, o.newO, o.pre, o.mnew, fun b u h n => ?_, fun b h => ?_, o.m0n⟩, g⟩
  · have h2 : (z.hp.set k d1)[j]? = some d := h2
    by_cases hj : j = k
    · subst hj
      rw [List.getElem?_set_self hl] at h2
      rw [hk] at h1
      cases h2
      cases h1
      exact t g
    · rw [List.getElem?_set_ne (Ne.symm hj)] at h2
      refine (o.cells j b d h1 h2).mono g fun u q => ?_
      rw [upd_ne (fun e => hj (L2.nd_ix o.nd h1 (by rw [e]; exact hk)))]
      exact q
  · obtain ⟨v, e, r⟩ := o.val j d h
    exact ⟨v, e, Rep.mono g d v r⟩
  · obtain ⟨b, e, t⟩ := o.own j d h
    refine ⟨b, e, t.mono g fun u q => ?_⟩
    rw [upd_ne (fun e2 => o.new j b ⟨⟨d, h⟩, e⟩ (by rw [e2]; exact am))]
    exact q
  · rw [upd_ne (fun e => ?_)]
    · exact o.fr b u h n
    · rcases o.mnew a am with w | w
      · rw [e] at n; exact n w
      · rw [e, w] at h; cases h
  · by_cases e : b = a
    · exact ⟨_, by rw [e]; exact upd_same⟩
    · rw [upd_ne e]
      exact o.n0 b h
theorem cell_write {k : Nat} {a : Addr} {xs ys : List D} {vs ws : List V} (o : Ok F m z σ H) (hk : m[k]? = some a) (hz : z.hp[k]? = some (.lst xs)) (ha : H a = some (.lst vs)) (r : Reps F.g.K F.g.cl (Avs F m z σ) m H ys ws) :
    PS_ F m z σ H { z with hp := z.hp.set k (.lst ys) } σ (upd H a (.lst ws)) m := cell_writeG o hk hz ha True.intro fun g => ⟨ws, upd_same, Reps.mono g ys ws r⟩
theorem own_there {i : Nat} {xs : List D} (o : Ok F m z σ H) (hz : z.env[i]? = some (.own (.lst xs))) : ∃ a vs, σ[i]? = some (some (.ref a)) ∧ H a = some (.lst vs) ∧ Reps F.g.K F.g.cl (Avs F m z σ) m H xs vs := by
  obtain ⟨a, e, vs, h, r⟩ := o.own i _ (.inl hz)
  exact ⟨a, vs, e, h, r⟩
theorem base_plain {o : Expr} {name : Str} {env : Env} {wh : Sem Value} (h : ∀ x p q, o ≠ .Call (.Name x p) [] [] q) : attributeBase o name env wh = wh := by
  unfold attributeBase
  split
  · rename_i id p q
    exact absurd rfl (h id p q)
  · rfl
theorem name_plain {x : Str} {p : Pos} : ∀ (y : Str) (q r : Pos), Expr.Name x p ≠ .Call (.Name y q) [] [] r := fun _ _ _ h => nomatch h
theorem few_one {e : Expr} {env : Env} {cpos : Pos} (h : ∀ x p, e ≠ .Starred x p) : ((backTo cpos (starEach [e] env)).all (fun x => !x.1) && (backToKw cpos (keywordEach [] env)).all (fun x => x.1.isSome)
      && decide (([e] : List Expr).length + ([] : List Keyword).length + (if ([] : List Keyword).isEmpty then 0 else 1) < 30)) = true := by
  rw [starEach_cons h]
  rfl
/-- x.append(e) of an own list -/
theorem s1_app {i : Nat} {x : Str} {e : Expr} {E : E} {p0 apos cpos : Pos} (hN : X.N[i]? = some x) (hv : Vis X.env.scope x) (hd : (x == ("__debug__" : Str)) = false) (hcd : (x == ("__classdict__" : Str)) = false) (he : SE g W X e E) (hs : ∀ x p, e ≠ .Starred x p)
    (hline : (apos.endLine == cpos.line) = true) : S1 g W X (.Expr (.Call (.Attribute (.Name x p0) "append" apos) [e] [] cpos) pos) (.app i E) := by
  refine PS.weak (ps_expr (pe_bm PySem.F.plainAttrs_list PySem.F.slot_list_append PySem.F.type_list_append mt_append (pe_var hN hv hd hcd) (pa_cons (he false) pa_nil (starEach_cons hs)) (base_plain name_plain) (few_one hs) hline (starEach_cons hs)) (by rfl)) fun D σ H ⟨F, m, z, eg, o, h⟩ => ?_
  subst eg
  unfold evS at h
  split at h
  · rename_i xs0 ez
    obtain ⟨a, vs0, hσ, hH, _⟩ := own_there o (getD_some ez (by intro q; cases q))
    refine ⟨_, hσ, .inl ⟨rfl, vs0, SqL.of hH⟩, F, m, z, rfl, o, to_aft o h fun x z1 vs H1 m1 _ p q v ev => ?_⟩
    subst ev
    obtain ⟨d, rfl, r⟩ := rf_one p.rp
    simp only [List.headD] at q
    split at q
    · rename_i xs ez1
      have hz1 := getD_some ez1 (by intro q; cases q)
      by_cases hl : xs.length < big
      · rw [if_pos hl] at q
        obtain ⟨a1, vs1, hσ1, hH1, r1⟩ := own_there p.ok hz1
        rw [hσ] at hσ1
        cases hσ1
        refine ⟨a, vs1, v, rfl, rfl, hH1, by rw [r1.length]; exact Nat.lt_of_lt_of_le hl (big_line (Nat.le_refl _)), ?_⟩
        exact q σ _ m1 (p.ps.trans (own_write p.ok hz1 hσ hH1 (Reps.append r1 ⟨v, [], rfl, r, rfl⟩)))
      · rw [if_neg hl] at q
        exact q.elim
    · exact q.elim
  · exact h.elim
/-- x.extend(e): e a new list -/
theorem s1_ext {i : Nat} {x : Str} {e : Expr} {E : E} {p0 apos cpos : Pos} (hN : X.N[i]? = some x) (hv : Vis X.env.scope x) (hd : (x == ("__debug__" : Str)) = false) (hcd : (x == ("__classdict__" : Str)) = false) (he : SE g W X e E) (hs : ∀ x p, e ≠ .Starred x p)
    (hline : (apos.endLine == cpos.line) = true) : S1 g W X (.Expr (.Call (.Attribute (.Name x p0) "extend" apos) [e] [] cpos) pos) (.ext i E) := by
  refine PS.weak (ps_expr (pe_bm PySem.F.plainAttrs_list PySem.F.slot_list_extend PySem.F.type_list_extend mt_extend (pe_var hN hv hd hcd) (pa_cons (he false) pa_nil (starEach_cons hs)) (base_plain name_plain) (few_one hs) hline (starEach_cons hs)) (by rfl)) fun D σ H ⟨F, m, z, eg, o, h⟩ => ?_
  subst eg
  unfold evS at h
  split at h
  · rename_i xs0 ez
    obtain ⟨a, vs0, hσ, hH, _⟩ := own_there o (getD_some ez (by intro q; cases q))
    refine ⟨_, hσ, .inl ⟨rfl, vs0, SqL.of hH⟩, F, m, z, rfl, o, to_aft o h fun x z1 vs H1 m1 e0 p q v ev => ?_⟩
    clear e0
    subst ev
    obtain ⟨d, rfl, r⟩ := rf_one p.rp
    simp only [List.headD] at q
    split at q
    · rename_i xs ys ez1
      have hz1 := getD_some ez1 (by intro q; cases q)
      by_cases hl : xs.length + ys.length ≤ big
      · rw [if_pos hl] at q
        obtain ⟨a1, vs1, hσ1, hH1, r1⟩ := own_there p.ok hz1
        rw [hσ] at hσ1
        cases hσ1
        obtain ⟨b, ws, rfl, hb, _, rb⟩ := r
        refine ⟨a, b, vs1, ws, rfl, rfl, hH1, hb, by rw [r1.length, rb.length]; exact big_line hl, ?_⟩
        exact q σ _ m1 (p.ps.trans (own_write p.ok hz1 hσ hH1 (Reps.append r1 rb)))
      · rw [if_neg hl] at q
        exact q.elim
    · exact q.elim
  · exact h.elim
theorem ps_pp {np pk : Bool} {ds : List D} {vs : List V} (a : PS_ F m z σ H z1 σ H1 m1) (hn : np = false) (r : RF_ F pk m1 z1 σ H1 ds vs) : PP F m z σ H np pk ds z1 vs H1 m1 := by
  refine ⟨a.ok, a.gt, fun h => ?_, r⟩
  rw [hn] at h
  cases h
/-- x.pop() of an own list -/
theorem se_pop {i : Nat} {x : Str} {p0 apos cpos : Pos} (hN : X.N[i]? = some x) (hv : Vis X.env.scope x) (hd : (x == ("__debug__" : Str)) = false) (hcd : (x == ("__classdict__" : Str)) = false) (hline : (apos.endLine == cpos.line) = true) :
    SE g W X (.Call (.Attribute (.Name x p0) "pop" apos) [] [] cpos) (.pop i) := fun pk => by
  refine PE.weak (pe_bm0 PySem.F.plainAttrs_list PySem.F.slot_list_pop PySem.F.type_list_pop mt_pop (pe_var hN hv hd hcd) (base_plain name_plain) hline) fun σ H Q ⟨F, m, z, eg, o, h⟩ => ?_
  subst eg
  rw [evE] at h
  split at h
  · rename_i xs ez
    have hz := getD_some ez (by intro q; cases q)
    obtain ⟨a, vs, hσ, hH, r⟩ := own_there o hz
    refine ⟨_, hσ, .inl ⟨rfl, vs, SqL.of hH⟩, ?_⟩
    split at h
    · rename_i d el
      have ed : xs[xs.length - 1]? = some d := by rw [← List.getLast?_eq_getElem?]; exact el
      obtain ⟨v, ev, rv⟩ := r.get ed
      refine ⟨a, vs, v, rfl, rfl, hH, by rw [r.length]; exact ev, ?_⟩
      have rd : Reps F.g.K F.g.cl (Avs F m z σ) m H xs.dropLast vs.dropLast := by
        rw [List.dropLast_eq_take, List.dropLast_eq_take, r.length]
        exact Reps.take _ r
      have P := own_write o hz hσ hH rd
      refine h [v] _ m (ps_pp P rfl (RF_.up ⟨v, [], rfl, Rep.mono P.gt d v rv, rfl⟩)) v rfl
    · exact h.elim
  · exact h.elim
theorem ixOf_lt {n k : Nat} {j : Int} (h : ixOf n j = some k) : seqIndex? j n = some k ∧ k < n ∧ -(n : Int) ≤ j ∧ j < n := L2.ixN_seq h
/-- x.pop(e) of an own list -/
theorem se_popAt {i : Nat} {x : Str} {e : Expr} {E : E} {p0 apos cpos : Pos} (hN : X.N[i]? = some x) (hv : Vis X.env.scope x) (hd : (x == ("__debug__" : Str)) = false) (hcd : (x == ("__classdict__" : Str)) = false) (he : SE g W X e E) (hs : ∀ x p, e ≠ .Starred x p) (hline : (apos.endLine == cpos.line) = true) :
    SE g W X (.Call (.Attribute (.Name x p0) "pop" apos) [e] [] cpos) (.popAt i E) := fun pk => by
  refine PE.weak (pe_bm PySem.F.plainAttrs_list PySem.F.slot_list_pop PySem.F.type_list_pop mt_popAt (pe_var hN hv hd hcd) (pa_cons (he true) pa_nil (starEach_cons hs)) (base_plain name_plain) (few_one hs) hline (starEach_cons hs)) fun σ H Q ⟨F, m, z, eg, o, h⟩ => ?_
  subst eg
  rw [evE] at h
  split at h
  · rename_i xs0 ez
    have hz := getD_some ez (by intro q; cases q)
    obtain ⟨a, vs0, hσ, hH, _⟩ := own_there o hz
    refine ⟨_, hσ, .inl ⟨rfl, vs0, SqL.of hH⟩, F, m, z, rfl, o, ?_⟩
    cases e1 : evE true E z with
    | bad => rw [e1] at h; exact h.elim
    | exn c ds z1 => rw [e1] at h; exact h
    | ok ds z1 =>
      rw [e1] at h
      intro vs H1 m1 p v ev
      subst ev
      obtain ⟨d, rfl, r⟩ := rf_head p.rp
      simp only [R.bind] at h
      split at h
      · rename_i xs j ez1 ej
        cases ej
        have hz1 := getD_some ez1 (by intro q; cases q)
        obtain ⟨a1, vs1, hσ1, hH1, r1⟩ := own_there p.ok hz1
        rw [hσ] at hσ1
        cases hσ1
        cases r
        by_cases hl : xs.length ≤ big
        · rw [if_pos hl] at h
          split at h
          · rename_i k ek
            obtain ⟨s1, s2, s3, s4⟩ := ixOf_lt ek
            have hb : (big : Int) < 2 ^ 62 := by decide
            have hl' : (xs.length : Int) ≤ big := by exact_mod_cast hl
            obtain ⟨w, ew, rw_⟩ := r1.get (List.getElem?_eq_getElem s2)
            refine ⟨a, vs1, j, k, w, rfl, rfl, hH1, by omega, by omega, by rw [r1.length]; exact s1, ew, ?_⟩
            have P := own_write p.ok hz1 hσ hH1 (Reps.erase k r1)
            have eg : xs.getD k .non = xs[k] := by rw [List.getD_eq_getElem?_getD, List.getElem?_eq_getElem s2]; rfl
            rw [eg] at h
            exact h [w] _ m1 (ps_pp (p.ps.trans P) rfl (RF_.up ⟨w, [], rfl, Rep.mono P.gt _ w rw_, rfl⟩)) w rfl
          · exact h.elim
        · rw [if_neg hl] at h
          exact h.elim
      · exact h.elim
  · exact h.elim
end
end G
end
section
set_option Elab.async false
set_option linter.all false
set_option maxHeartbeats 2000000
/-! GO2: stores by index, op=, new shared cells, pairs of names. -/
namespace G
open PySem PySem.Spec PyProof.Rows L2
section
variable {F : Fx} {g : Gx} {W : WX} {X : Cx} {pos p : Pos} {m m1 m2 : List Addr} {z z1 z2 : Z} {σ σ1 σ2 : L2.St} {H H1 H2 : Hp}
/-- a new list becomes a shared cell -/
theorem Ok.cell_new {L : Addr} {d : D} (o : Ok (F.plus L) m z σ H) (h0 : F.H0 L = none) (hm : L ∉ m) (m0n : ∀ a, a ∈ F.m0 → F.N0 a) (t : Top F.g.K F.g.cl (Avs (F.plus L) m z σ) m H L d) (hno : ∀ j, ¬ OwnAt z σ j L) :
    Ok F (m ++ [L]) { z with hp := z.hp ++ [d] } σ H ∧ ∀ a, Avs F (m ++ [L]) { z with hp := z.hp ++ [d] } σ a → Avs F m z σ a ∨ a = L := by
  have less : ∀ a, Avs F (m ++ [L]) { z with hp := z.hp ++ [d] } σ a → Avs F m z σ a ∨ a = L := by
    rintro a ((h | h) | h)
    · exact .inl (.inl (.inl h))
    · rcases List.mem_append.mp h with h | h
      · exact .inl (.inl (.inr h))
      · exact .inr (List.mem_singleton.mp h)
    · exact .inl (.inr h)
  have gt : Gt (Avs (F.plus L) m z σ) (Avs F (m ++ [L]) { z with hp := z.hp ++ [d] } σ) m (m ++ [L]) H H := by
    refine ⟨fun _ _ h _ => h, fun _ _ h => h, fun _ _ _ h => h, fun a _ _ q => ?_, List.prefix_append m [L], fun _ u h => ⟨u, h⟩⟩
    rcases less a q with q | q
    · exact av_plus q
    · exact .inl (.inl (.inr q))
  refine ⟨⟨o.len, by simp [o.ml], ?_, fun k a c h1 h2 => ?_, fun i c h => ?_, fun i c h => ?_, o.inj, fun i a h => ?_, fun i c a h1 h2 => ?_, o.pre.trans (List.prefix_append m [L]), fun a h => ?_, o.fr, fun a h => o.n0 a (.inl h), m0n⟩, less⟩
  · rw [List.nodup_append]
    refine ⟨o.nd, by simp, fun a ha b hb => ?_⟩
    rw [List.mem_singleton.mp hb]
    exact fun e => hm (by rw [← e]; exact ha)
  · have h2 : (z.hp ++ [d])[k]? = some c := h2
    by_cases hk : k < m.length
    · rw [List.getElem?_append_left hk] at h1
      rw [List.getElem?_append_left (by rw [← o.ml]; exact hk)] at h2
      exact (o.cells k a c h1 h2).mono gt fun _ q => q
    · have hk2 : k = m.length := by
        have := (List.getElem?_eq_some_iff.mp h1).1
        simp at this
        omega
      subst hk2
      rw [List.getElem?_append_right (Nat.le_refl _)] at h1
      rw [List.getElem?_append_right (by rw [o.ml]; exact Nat.le_refl _)] at h2
      simp [o.ml] at h1 h2
      rw [← h1, ← h2]
      exact t.mono gt fun _ q => q
  · obtain ⟨v, e, r⟩ := o.val i c h
    exact ⟨v, e, Rep.mono gt c v r⟩
  · obtain ⟨a, e, r⟩ := o.own i c h
    exact ⟨a, e, r.mono gt fun _ q => q⟩
  · intro q
    rcases List.mem_append.mp q with q | q
    · exact o.new i a h q
    · rw [List.mem_singleton.mp q] at h
      exact hno i h
  · obtain ⟨n, e⟩ := o.newO i c a h1 h2
    exact ⟨fun q => n (.inl q), e⟩
  · rcases List.mem_append.mp h with h | h
    · exact o.mnew a h
    · rw [List.mem_singleton.mp h]
      exact .inr h0
theorem se_share {e : Expr} {E : E} (h : SF g W X e E) : SE g W X e (.share E) := fun pk =>
  PE.weak h fun σ H Q ⟨F, m, z, eg, o, h⟩ => by
    refine ⟨F, m, z, eg, o, ?_⟩
    rw [evE] at h
    cases e1 : evE false E z with
    | bad => rw [e1] at h; exact h.elim
    | exn c ds z1 => rw [e1] at h; exact h
    | ok xs z1 =>
      rw [e1] at h
      intro v H1 m1 p f
      obtain ⟨d, rfl⟩ : ∃ d, xs = [d] := by
        cases xs with
        | nil => exact h.elim
        | cons d r =>
          cases r with
          | nil => exact ⟨d, rfl⟩
          | cons _ _ => exact h.elim
      obtain ⟨L, rfl, hL, h0, o1, t, n1, n2, n3⟩ := f.facts
      have h : aft F W m z σ H E.np pk (.ok [.ref z1.hp.length] { z1 with hp := z1.hp ++ [d] }) _ := h
      obtain ⟨o2, less⟩ := o1.cell_new h0 n2 o.m0n t n3
      refine h [.ref L] H1 (m1 ++ [L]) ⟨o2, ⟨fun a u q n => p.gt.keep a u q n, p.gt.tup, p.gt.frz, fun a u q w => ?_, p.gt.pre.trans (List.prefix_append m1 [L]), p.gt.there⟩, fun q => ?_, RF_.up ⟨_, [], rfl, ⟨L, ?_, rfl⟩, rfl⟩⟩ _ rfl
      · rcases less a w with w | w
        · exact p.gt.av a u q w
        · rw [w, hL] at q; cases q
      · have gp := p.np q
        refine ⟨gp.keep, gp.tup, gp.frz, fun a u q w => ?_, gp.pre.trans (List.prefix_append m1 [L]), gp.there⟩
        rcases List.mem_append.mp w with w | w
        · exact gp.av a u q w
        · rw [List.mem_singleton.mp w, hL] at q; cases q
      · rw [List.getElem?_append_right (by rw [p.ok.ml]; exact Nat.le_refl _)]
        simp [p.ok.ml]
theorem cellSet_lst {c k v c2 : D} (h : cellSet c k v = some c2) : ∃ xs j n, c = .lst xs ∧ k = .int j ∧ ixOf xs.length j = some n ∧ c2 = .lst (xs.set n v) := by
  unfold cellSet at h
  split at h
  · rename_i xs j
    split at h
    · rename_i n en
      cases h
      exact ⟨xs, j, n, rfl, rfl, en, rfl⟩
    · cases h
  · cases h
theorem noSlice_assign {o i : Expr} {pos : Pos} {env : Env} (hi : ∀ a b c q, i ≠ .Slice a b c q) : ∀ v, assign (.Subscript o i pos) env v = (do
      let ov ← holding [v] (eval o env)
      let iv ← holding [v, ov] (eval i env)
      standAt pos
      holding [v, ov, iv] (setItem ov iv v)
      release [v, ov, iv] []) := by
  intro v
  cases i <;> first | rfl | exact absurd rfl (hi _ _ _ _)
/-- x[k] = e, x an own list -/
theorem s1_setIx {i : Nat} {x : Str} {e k : Expr} {E K : G.E} {p0 ps_ : Pos} (hN : X.N[i]? = some x) (hv : Vis X.env.scope x) (hd : (x == ("__debug__" : Str)) = false) (hcd : (x == ("__classdict__" : Str)) = false) (he : SE g W X e E) (hk : SE g W X k K) (hi : ∀ a b c q, k ≠ .Slice a b c q)
    (hs : swapsWithSole [.Subscript (.Name x p0) k ps_] e pos.line X.env = pure false) (hw : swappedStores [.Subscript (.Name x p0) k ps_] e X.env = pure none) : S1 g W X (.Assign [.Subscript (.Name x p0) k ps_] e pos) (.setIx i K E) :=
  PS.weak (ps_asg (he false) (pg_sub (pe_var hN hv hd hcd) (hk true) set_list (noSlice_assign hi)) hs hw (by rfl)) fun D σ H ⟨F, m, z, eg, o, h⟩ => by
    subst eg
    unfold evS at h
    refine ⟨F, m, z, rfl, o, to_aft o h fun x z1 vs H1 m1 _ p q v ev => ?_⟩
    subst ev
    obtain ⟨d, rfl, r⟩ := rf_one p.rp
    simp only [List.headD] at q
    split at q
    · rename_i c1 ez1
      have q1 := aftS_after p.ps q
      have hz1 := getD_some ez1 (by intro q; cases q)
      obtain ⟨a, hσ, t⟩ := p.ok.own i _ (.inl hz1)
      refine ⟨_, hσ, F, m1, z1, rfl, p.ok, to_aft p.ok q1 fun y z2 ws H2 m2 _ p2 q2 w ew => ?_⟩
      subst ew
      obtain ⟨dk, rfl, rk⟩ := rf_head p2.rp
      simp only [List.headD] at q2
      split at q2
      · rename_i c ez2
        have hz2 := getD_some ez2 (by intro q; cases q)
        split at q2
        · rename_i c2 ec
          obtain ⟨xs, j, n, rfl, rfl, en, rfl⟩ := cellSet_lst ec
          obtain ⟨a2, vs2, hσ2, hH2, r2⟩ := own_there p2.ok hz2
          rw [hσ] at hσ2
          cases hσ2
          cases rk
          have rv : RF_ F false m2 z2 σ H2 [d] [v] := PP.carry p.rp p2 (fun h => nomatch h)
          obtain ⟨_, ed, rv'⟩ := rf_one rv
          cases ed
          refine ⟨a, vs2, j, n, rfl, rfl, hH2, by rw [r2.length]; exact en, ?_⟩
          exact q2 σ _ m2 (p2.ps.trans (own_write p2.ok hz2 hσ hH2 (Reps.set rv' n r2)))
        · exact q2.elim
      · exact q2.elim
    · exact q.elim
/-- o[k] = e, o a shared cell -/
theorem s1_refIx {o e k : Expr} {O E K : G.E} {ps_ : Pos} (ho : SE g W X o O) (he : SE g W X e E) (hk : SE g W X k K) (hi : ∀ a b c q, k ≠ .Slice a b c q)
    (hs : swapsWithSole [.Subscript o k ps_] e pos.line X.env = pure false) (hw : swappedStores [.Subscript o k ps_] e X.env = pure none) : S1 g W X (.Assign [.Subscript o k ps_] e pos) (.refIx O K E) :=
  PS.weak (ps_asg (he false) (pg_sub (ho false) (hk true) set_list (noSlice_assign hi)) hs hw (by rfl)) fun D σ H ⟨F, m, z, eg, o, h⟩ => by
    subst eg
    unfold evS at h
    refine ⟨F, m, z, rfl, o, to_aft o h fun x z1 vs H1 m1 _ p q v ev => ?_⟩
    subst ev
    obtain ⟨d, rfl, r⟩ := rf_one p.rp
    simp only [List.headD] at q
    have q1 := aftS_after p.ps q
    refine ⟨F, m1, z1, rfl, p.ok, to_aft p.ok q1 fun y z2 ws H2 m2 e0 p2 q2 w ew => ?_⟩
    clear e0
    subst ew
    obtain ⟨dr, rfl, rr⟩ := rf_one p2.rp
    simp only [List.headD] at q2
    have q3 := aftS_after p2.ps q2
    refine ⟨F, m2, z2, rfl, p2.ok, to_aft p2.ok q3 fun y3 z3 us H3 m3 e0 p3 q4 u eu => ?_⟩
    clear e0
    subst eu
    obtain ⟨dk, rfl, rk⟩ := rf_head p3.rp
    simp only [List.headD] at q4
    split at q4
    · rename_i n
      split at q4
      · rename_i c ec0
        split at q4
        · rename_i c2 ec
          obtain ⟨xs, j, i, rfl, rfl, en, rfl⟩ := cellSet_lst ec
          have rv : RF_ F false m3 z3 σ H3 [d] [v] := PP.carry (PP.carry p.rp p2 (fun h => nomatch h)) p3 (fun h => nomatch h)
          obtain ⟨_, ed, rv'⟩ := rf_one rv
          cases ed
          have rr3 : RF_ F false m3 z3 σ H3 [.ref n] [w] := PP.carry p2.rp p3 (fun h => nomatch h)
          obtain ⟨_, ed, rr'⟩ := rf_one rr3
          cases ed
          obtain ⟨a, hm, rfl⟩ := rr'
          obtain ⟨vs3, hH3, r3⟩ := p3.ok.cells n a _ hm ec0
          cases rk
          refine ⟨a, vs3, j, i, rfl, rfl, hH3, by rw [r3.length]; exact en, ?_⟩
          exact q4 σ _ m3 (p3.ps.trans (cell_write p3.ok hm ec0 hH3 (Reps.set rv' i r3)))
        · exact q4.elim
      · exact q4.elim
    · exact q4.elim
/-- name op= e of values -/
theorem s1_aug {i : Nat} {x : Str} {e : Expr} {E : E} {f : Pr} {op : Operator} {r : R2} {pos' : Pos} (hN : X.N.Nodup) (hi : X.N[i]? = some x) (hx : Loc X.env.scope x) (he : SE g W X e E) (ho : PIp X op r) (hr : PrR g f fun vs H Q => ∃ x y, vs = [x, y] ∧ r x y H Q) (hf : X.fn x = true ∨ X.env.scope.names.lookup x = some .local) :
    S1 g W X (.AugAssign (.Name x pos') op e pos) (.aug i f E) :=
  PS.weak (ps_aug hN hi hx (he false) ho hf) fun D σ H ⟨F, m, z, eg, o, h⟩ => by
    subst eg
    unfold evS at h
    split at h
    · rename_i dx ez
      have hz := getD_some ez (by intro q; cases q)
      obtain ⟨v, hσ, rv⟩ := o.val i _ hz
      refine ⟨v, hσ, F, m, z, rfl, o, to_aft o h fun y z1 ws H1 m1 e0 p q w ew => ?_⟩
      clear e0
      subst ew
      obtain ⟨dy, rfl, ry⟩ := rf_one p.rp
      simp only [List.headD] at q
      split at q
      · rename_i d ef
        have rv1 : RF_ F false m1 z1 σ H1 [dx] [v] := PP.carry (ds := [dx]) (vs := [v]) (pk := false) ⟨v, [], rfl, rv, rfl⟩ p (fun h => nomatch h)
        obtain ⟨x', y', exy, hh⟩ := pr_use (m := m1) (z := z1) (σ := σ) (ds := [dx, dy]) (vs := [v, w]) hr p.ok (RF_.up (RF_.append rv1 ⟨w, [], rfl, ry, rfl⟩)) ef fun v3 H3 s r3 => by
          have P1 := put_one (i := i) (p.ok.same s) r3
          exact q _ H3 m1 ((p.same s).ps.trans ⟨P1.ok, less_gt P1.less⟩)
        cases exy
        exact hh
      · exact q.elim
    · exact h.elim
end
end G
end
section
set_option Elab.async false
set_option linter.all false
set_option maxHeartbeats 2000000
/-! GQ: dicts. -/
namespace G
open PySem PySem.Spec PyProof.Rows L2
section
variable {F : Fx} {g : Gx} {W : WX} {X : Cx} {pos p : Pos} {m m1 m2 : List Addr} {z z1 z2 : Z} {σ σ1 σ2 : L2.St} {H H1 H2 : Hp}
/-- an own dict is let go as a value: from here on it is locked -/
theorem Ok.freezeD (o : Ok F m z σ H) {i : Nat} {tk : Bool} {ks ws : List D} (h : z.env[i]? = some (.own (.dct tk ks ws))) :
    ∃ a u, σ[i]? = some (some (.ref a)) ∧ H a = some u ∧ Mut (some u) ∧ ∀ od, PP F m z σ H false false [.dct tk ks ws] { z with env := z.env.set i (.val (.dct tk ks ws)) } [.ref a] (upd H a (.frz od u)) m := by
  obtain ⟨a, e, t⟩ := o.own i _ (.inl h)
  obtain ⟨u, vl, hu, td, r⟩ := t
  refine ⟨a, u, e, hu, td.mut, fun od => ?_⟩
  have hl : i < z.env.length := (List.getElem?_eq_some_iff.mp h).1
  have es : σ.set i (some (.ref a)) = σ := set_self e
  have own : ∀ {j : Nat} {b : Addr}, OwnAt { z with env := z.env.set i (.val (.dct tk ks ws)) } σ j b → j ≠ i ∧ OwnAt z σ j b := fun {j b} q => own_put (w := some (.ref a)) (not_own_val _) (by rw [es]; exact q)
  have less : ∀ b, Avs F m { z with env := z.env.set i (.val (.dct tk ks ws)) } σ b → Avs F m z σ b := by
    rintro b (q | ⟨j, q⟩)
    · exact .inl q
    · exact .inr ⟨j, (own q).2⟩
  have oa : OwnAt z σ i a := ⟨⟨_, .inl h⟩, e⟩
  have aA : Avs F m z σ a := .inr ⟨i, oa⟩
  have lst : ∀ {b : Addr} {u' : HO}, H b = some u' → ¬ Mut (some u') → b ≠ a := fun h n e => by
    rw [e, hu] at h
    cases h
    exact n td.mut
  have g : Gt (Avs F m z σ) (Avs F m { z with env := z.env.set i (.val (.dct tk ks ws)) } σ) m m H (upd H a (.frz od u)) := by
    refine ⟨fun b u h n => ?_, fun b xs h => ?_, fun b o u h => ?_, fun b u h q => less b q, List.prefix_refl m, fun b u h => ?_⟩
    · rw [upd_ne (fun e => n (by rw [e]; exact aA))]; exact h
    · rw [upd_ne (lst h fun q => q)]; exact h
    · rw [upd_ne (lst h fun q => q)]; exact h
    · by_cases e : b = a
      · exact ⟨_, by rw [e]; exact upd_same⟩
      · exact ⟨u, by rw [upd_ne e]; exact h⟩
  have key : Ok F m { z with env := z.env.set i (.val (.dct tk ks ws)) } σ (upd H a (.frz od u)) := by
    refine ⟨by simp [o.len], o.ml, o.nd, fun k b d h1 h2 => (o.cells k b d h1 h2).mono g fun u q => ?_, fun j d h' => ?_, fun j d h' => ?_, fun j k b h1 h2 => o.inj j k b (own h1).2 (own h2).2, fun j b h' => o.new j b (own h').2, fun j d b h1 h2 => ?_, o.pre, o.mnew, fun b u h n => ?_, fun b h => ?_, o.m0n⟩
    · rw [upd_ne (fun e => o.new i a oa (by rw [← e]; exact List.mem_of_getElem? h1))]; exact q
    · have h' : (z.env.set i (.val (.dct tk ks ws)))[j]? = some (.val d) := h'
      by_cases hj : j = i
      · subst hj
        rw [List.getElem?_set_self hl] at h'
        cases h'
        exact ⟨_, e, a, od, u, vl, rfl, upd_same, td, Reps.mono g ws vl r⟩
      · rw [List.getElem?_set_ne (Ne.symm hj)] at h'
        obtain ⟨v, e, r⟩ := o.val j d h'
        exact ⟨v, e, Rep.mono g d v r⟩
    · have h' : (z.env.set i (.val (.dct tk ks ws)))[j]? = some (.own d) ∨ (z.env.set i (.val (.dct tk ks ws)))[j]? = some (.lock d) := h'
      by_cases hj : j = i
      · subst hj
        rw [List.getElem?_set_self hl] at h'
        rcases h' with h' | h' <;> cases h'
      · rw [List.getElem?_set_ne (Ne.symm hj)] at h'
        obtain ⟨b, e, t⟩ := o.own j d h'
        refine ⟨b, e, t.mono g fun u q => ?_⟩
        rw [upd_ne (fun e2 => hj (o.inj j i b ⟨⟨d, h'⟩, e⟩ (by rw [e2]; exact oa)))]
        exact q
    · obtain ⟨hj, _⟩ := own (j := j) (b := b) ⟨⟨d, .inl h1⟩, h2⟩
      have h1 : (z.env.set i (.val (.dct tk ks ws)))[j]? = some (.own d) := h1
      rw [List.getElem?_set_ne (Ne.symm hj)] at h1
      exact o.newO j d b h1 h2
    · rw [upd_ne (fun e2 => ?_)]
      · exact o.fr b u h n
      · rw [e2, (o.newO i _ a ‹_› e).2] at h
        cases h
    · by_cases e2 : b = a
      · exact ⟨_, by rw [e2]; exact upd_same⟩
      · rw [upd_ne e2]
        exact o.n0 b h
  exact ⟨key, g, (fun h => nomatch h), ⟨_, _, rfl, ⟨a, od, u, vl, rfl, upd_same, td, Reps.mono g ws vl r⟩, rfl⟩⟩
/-- a thing may be locked ahead of an expression -/
def tGh (t : TE) : TE := fun σ H Q => t σ H Q ∨ ∃ d u, H d = some u ∧ Mut (some u) ∧ ∀ od, t σ (upd H d (.frz od u)) Q
theorem pe_gh {e : Expr} {t : TE} (h : PE X e t) : PE X e (tGh t) := ⟨fun pins s σ H Q I q => by
  rcases q with q | ⟨d, u, hd, mu, q⟩
  · exact h.run pins s σ H Q I q
  · obtain ⟨od, I1⟩ := I.lock hd mu
    exact h.run pins s σ _ Q I1 (q od)⟩
def tGhI (t : TI) : TI := fun σ H Q => t σ H Q ∨ ∃ d u, H d = some u ∧ Mut (some u) ∧ ∀ od, t σ (upd H d (.frz od u)) Q
theorem pi_gh {tg iter : Expr} {t : TI} (h : PI X tg iter t) : PI X tg iter (tGhI t) := ⟨fun pins s σ H Q I q => by
  rcases q with q | ⟨d, u, hd, mu, q⟩
  · exact h.run pins s σ H Q I q
  · obtain ⟨od, I1⟩ := I.lock hd mu
    exact h.run pins s σ _ Q I1 (q od)⟩
theorem evE_keepD (pk : Bool) (i : Nat) (z : Z) : evE pk (.keepD i) z = (match z.env.getD i .no with
    | .val d => .ok [d] z
    | .own d => (match d with
      | .dct _ _ _ => .ok [d] { z with env := z.env.set i (.val d) }
      | _ => .bad)
    | _ => .bad) := by rw [evE] <;> rfl
/-- the value of a name that may be an own dict -/
theorem keepD_w {i : Nat} {pk : Bool} {Q : List V → Hp → Prop} (o : Ok F m z σ H) (h : aft F W m z σ H false pk (evE pk (.keepD i) z) Q) :
    (∃ v, σ[i]? = some (some v) ∧ Q [v] H) ∨ ∃ a u, σ[i]? = some (some (.ref a)) ∧ H a = some u ∧ Mut (some u) ∧ ∀ od, Q [.ref a] (upd H a (.frz od u)) := by
  rw [evE_keepD] at h
  cases e : z.env.getD i .no with
  | no => rw [e] at h; exact h.elim
  | lock d => rw [e] at h; exact h.elim
  | val d =>
    rw [e] at h
    obtain ⟨v, q, r⟩ := o.val i d (getD_some e (by intro q; cases q))
    exact .inl ⟨v, q, h [v] H m (PP.refl o (RF_.up ⟨_, _, rfl, r, rfl⟩))⟩
  | own d =>
    rw [e] at h
    have hd := getD_some e (by intro q; cases q)
    cases d with
    | dct tk ks ws =>
      obtain ⟨a, u, e1, e2, e3, q⟩ := o.freezeD hd
      refine .inr ⟨a, u, e1, e2, e3, fun od => ?_⟩
      have p := q od
      exact h [.ref a] _ m (p.pkw fun h => nomatch h)
    | _ => exact h.elim
theorem se_keepD {i : Nat} {x : Str} (hN : X.N[i]? = some x) (hv : Vis X.env.scope x) (hd : (x == ("__debug__" : Str)) = false) (hcd : (x == ("__classdict__" : Str)) = false) : SE g W X (.Name x pos) (.keepD i) := fun pk =>
  PE.weak (pe_gh (pe_var hN hv hd hcd)) fun σ H Q ⟨F, m, z, eg, o, h⟩ => by
    rcases keepD_w o h with ⟨v, e, q⟩ | ⟨a, u, e, e2, e3, q⟩
    · exact .inl ⟨v, e, q v rfl⟩
    · exact .inr ⟨a, u, e2, e3, fun od => ⟨_, e, q od _ rfl⟩⟩

/-! ### walks -/
theorem kD_rep {K : PySem.W.Frag} {cl : Nat → CI} {Av : Addr → Prop} {k : L2.Key} (h : KeyFine k) : Rep K cl Av m H (kD k) (kV k) := by
  cases k with
  | inl i => exact rfl
  | inr x => exact ⟨rfl, h.1, h.2⟩
theorem kDs_rep {K : PySem.W.Frag} {cl : Nat → CI} {Av : Addr → Prop} : ∀ {k : List L2.Key}, (∀ c ∈ k, KeyFine c) → Reps K cl Av m H (k.map kD) (k.map kV)
  | [], _ => rfl
  | c :: k, h => ⟨kV c, k.map kV, rfl, kD_rep (h c List.mem_cons_self), kDs_rep fun d hd => h d (List.mem_cons_of_mem _ hd)⟩
def anyIt (K : PySem.W.Frag) (v : V) (H : Hp) (R : It → Hp → Prop) : Prop :=
  (∃ a, v = .ref a ∧ (∃ xs, SqL K H a xs) ∧ R (Itl K a) H) ∨ (∃ a, v = .ref a ∧ (∃ xs, SqT K H a xs) ∧ R (Itt K a) H) ∨
  (∃ d o kvs, v = .ref d ∧ H d = some (.frz o (.dK kvs)) ∧ R (Itk d o kvs) H) ∨ ∃ d o kvs, v = .ref d ∧ H d = some (.frz o (.dT kvs)) ∧ R (Itkt d o kvs) H
def iAny (K : PySem.W.Frag) (td : TE) : TI := fun σ H R => td σ H fun v H1 => anyIt K v H1 R
theorem pi_any {tg e : Expr} {td : TE} (he : PE X e td) : PI X tg e (iAny X.K td) := by
  refine ⟨fun pins s σ H R I h => ?_⟩
  refine thn (he.run pins s σ H _ I h) fun u s1 ⟨x, H1, I1, r1, q1⟩ => ?_
  rcases q1 with ⟨a, e, ⟨xs, hq⟩, q⟩ | ⟨a, e, ⟨xs, hq⟩, q⟩ | ⟨d, o, kvs, ex, hd, q⟩ | ⟨d, o, kvs, ex, hd, q⟩
  · subst e
    cases r1
    obtain ⟨its, rv, p, hz⟩ := I1.list hq
    refine wpAny_pyIter_list p.isList ?_
    refine ⟨s1.heap.objs.size, [s1.heap.objs.size], _, _, H1, rfl, I1.kept (t' := s1.toks) fun b o e => Heap.get?_push_of_some _ e, turn_list a _, ⟨_, Heap.get?_push_size _ rfl, rfl, rfl⟩, fun b hb => ?_, q⟩
    have e : b = s1.heap.objs.size := by simpa using hb
    subst e
    exact I1.fpOk (Nat.le_refl _) (I1.hok.fresh (Nat.le_refl _))
  · subst e
    cases r1
    obtain ⟨its, rv, p, hz⟩ := I1.tuple hq
    refine wpAny_pyIter_tuple (show s1.heap.IsTuple a its.toArray from p) ?_
    refine ⟨s1.heap.objs.size, [s1.heap.objs.size], _, _, H1, rfl, I1.kept (t' := s1.toks) fun b o e => Heap.get?_push_of_some _ e, turn_tuple a _, ⟨_, Heap.get?_push_size _ rfl, rfl, rfl⟩, fun b hb => ?_, q⟩
    have e : b = s1.heap.objs.size := by simpa using hb
    subst e
    exact I1.fpOk (Nat.le_refl _) (I1.hok.fresh (Nat.le_refl _))
  · subst ex
    obtain rfl : u = Value.ref d := r1
    obtain ⟨hs, hgd, hx, es, ep, vs, hdt, hsz, kv, hm⟩ := I1.frzK hd
    refine iter_keys hs hgd hx hdt (pi_one (tk := s1.toks) I1 _ (turn_keys _ hdt) ⟨_, Heap.get?_push_size _ rfl, rfl, ?_⟩ q)
    rw [hsz] <;> rfl
  · subst ex
    obtain rfl : u = Value.ref d := r1
    obtain ⟨hs, hgd, hx, es, ep, hdt, hsz, ent⟩ := I1.frzT hd
    refine iter_keys hs hgd hx hdt (pi_one (tk := s1.toks) I1 _ (turn_keysT _ hdt) ⟨_, Heap.get?_push_size _ rfl, rfl, ?_⟩ q)
    rw [hsz] <;> rfl
theorem if_some {α : Type} {c : Prop} [Decidable c] {x y : α} (h : (if c then some x else none) = some y) : x = y := by
  by_cases hc : c
  · rw [if_pos hc] at h; exact Option.some.inj h
  · rw [if_neg hc] at h; cases h
/-- what meets the items of a value -/
theorem src_it {Ap Av : Addr → Prop} {dk : Bool} {d : D} {v : V} {xs : List D} {R : It → Hp → Prop} (r : RepP g.K g.cl Ap Av m H d v)
    (hf : ∀ tk ks ws, d = .dct tk ks ws → dk = true → ∃ a o u vl, v = .ref a ∧ H a = some (.frz o u) ∧ DctAt tk u ks vl) (e : items dk d = some xs) (q : ∀ J, Src g Ap Av m J H xs → R J H) : anyIt g.K v H R := by
  cases d with
  | lst ys =>
    have e := if_some e
    subst e
    obtain ⟨a, vs, rfl, ha, n, rs⟩ := r
    refine .inl ⟨a, rfl, ⟨vs, SqL.of ha⟩, q _ ⟨fun Ap' Av' m' H2 gp g hst i d hi => ?_, fun Ap' Av' m' H2 gp g i hi => ?_⟩⟩
    · have h2 := gp.keep _ _ ha n
      obtain ⟨w, hw, rw_⟩ := (Reps.mono g ys vs rs).get hi
      refine ⟨⟨vs, w, SqL.of h2, hw⟩, fun x H3 hy => ?_⟩
      obtain ⟨rfl, hx⟩ := hy
      have hx := hx vs (SqL.of h2)
      rw [hw] at hx
      cases hx
      exact ⟨fun _ _ h => h, rw_⟩
    · exact ⟨vs, SqL.of (gp.keep _ _ ha n), by rw [rs.length]; exact hi⟩
  | tup ys =>
    have e := if_some e
    subst e
    obtain ⟨a, vs, rfl, ha, rs⟩ := r
    refine .inr (.inl ⟨a, rfl, ⟨vs, SqT.of ha⟩, q _ ⟨fun Ap' Av' m' H2 gp g hst i d hi => ?_, fun Ap' Av' m' H2 gp g i hi => ?_⟩⟩)
    · have h2 := g.tup _ _ ha
      obtain ⟨w, hw, rw_⟩ := (Reps.mono g ys vs rs).get hi
      refine ⟨⟨vs, w, SqT.of h2, hw⟩, fun x H3 hy => ?_⟩
      obtain ⟨rfl, hx⟩ := hy
      have hx := hx vs (SqT.of h2)
      rw [hw] at hx
      cases hx
      exact ⟨fun _ _ h => h, rw_⟩
    · exact ⟨vs, SqT.of (g.tup _ _ ha), by rw [rs.length]; exact hi⟩
  | dct tk ks ws =>
    have hdk : dk = true := by
      cases dk with
      | true => rfl
      | false => cases e
    have e : (if (dk && decide (ks.length ≤ big)) = true then some ks else none) = some xs := e
    have e := if_some e
    subst e
    obtain ⟨a, o, u, vl, rfl, ha, t⟩ := hf tk ks ws rfl hdk
    cases tk with
    | false =>
      obtain ⟨kl, rfl, hl, rfl, fine⟩ := t
      refine .inr (.inr (.inl ⟨a, o, _, rfl, ha, q _ ⟨fun Ap' Av' m' H2 gp g hst i d hi => ?_, fun Ap' Av' m' H2 gp g i hi => ?_⟩⟩))
      · have h2 := g.frz _ _ _ ha
        rw [List.getElem?_map] at hi
        obtain ⟨k, hk, rfl⟩ := Option.map_eq_some_iff.mp hi
        have il := (List.getElem?_eq_some_iff.mp hk).1
        refine ⟨⟨h2, by rw [List.length_zip]; omega⟩, fun x H3 hy => ?_⟩
        obtain ⟨rfl, k', w, hkw, rfl⟩ := hy
        have e1 := (List.getElem?_zip_eq_some.mp hkw).1
        simp only at e1
        rw [hk] at e1
        cases e1
        exact ⟨fun _ _ h => h, kD_rep (fine _ (List.mem_of_getElem? hk))⟩
      · exact ⟨g.frz _ _ _ ha, by rw [List.length_zip]; rw [List.length_map] at hi; omega⟩
    | true =>
      obtain ⟨kl, rfl, hl, rfl, fine⟩ := t
      refine .inr (.inr (.inr ⟨a, o, _, rfl, ha, q _ ⟨fun Ap' Av' m' H2 gp g hst i d hi => ?_, fun Ap' Av' m' H2 gp g i hi => ?_⟩⟩))
      · have h2 := g.frz _ _ _ ha
        rw [List.getElem?_map] at hi
        obtain ⟨k, hk, rfl⟩ := Option.map_eq_some_iff.mp hi
        have il := (List.getElem?_eq_some_iff.mp hk).1
        refine ⟨⟨h2, by rw [List.length_zip]; omega⟩, fun x H3 hy => ?_⟩
        obtain ⟨rfl, k', w, b, hkw, rfl, hb⟩ := hy
        have e1 := (List.getElem?_zip_eq_some.mp hkw).1
        simp only at e1
        rw [hk] at e1
        cases e1
        exact ⟨fun _ _ h => h, b, _, rfl, hb, kDs_rep (fine _ (List.mem_of_getElem? hk))⟩
      · exact ⟨g.frz _ _ _ ha, by rw [List.length_zip]; rw [List.length_map] at hi; omega⟩
  | _ => cases e
theorem rf_ap {pk : Bool} {ds : List D} {v : V} (h : RF_ F pk m z σ H ds [v]) : ∃ d, ds = [d] ∧ RepP F.g.K F.g.cl (ApF F pk m z σ) (Avs F m z σ) m H d v := by
  cases pk with
  | true => exact rf_head h
  | false =>
    obtain ⟨d, e, r⟩ := rf_one h
    exact ⟨d, e, Rep.peek (fun a h => h) r⟩
theorem si_any {tg e : Expr} {E : E} (hK : X.K = g.K) (he : SE g W X e E) (hd : E.dk = false) : SI g W X tg e E := fun pk =>
  PI.weak (pi_any (he pk)) fun σ H R ⟨F, m, z, eg, o, h⟩ => by
    subst eg
    refine ⟨F, m, z, rfl, o, ?_⟩
    cases e1 : evE pk E z with
    | bad => rw [e1] at h; exact h.elim
    | exn c ds z1 => rw [e1] at h; exact h
    | ok ds z1 =>
      rw [e1] at h
      intro vs H1 m1 p v ev
      subst ev
      obtain ⟨d, rfl, r⟩ := rf_ap p.rp
      have h : (match items E.dk d with | none => False | some xs => ∀ J H' m', PP F m z σ H E.np pk [] z1 [] H' m' → Src F.g (ApF F pk m' z1 σ) (Avs F m' z1 σ) m' J H' xs → R J H') := h
      rw [hd] at h
      cases e2 : items false d with
      | none => rw [e2] at h; exact h.elim
      | some xs =>
        rw [e2] at h
        rw [hK]
        exact src_it (dk := false) r (fun _ _ _ _ q => by cases q) e2 fun J s => h J H1 m1 ⟨p.ok, p.gt, p.np, by cases pk <;> exact rfl⟩ s
theorem si_keepD {tg e : Expr} {i : Nat} (hK : X.K = g.K) (he : SE g W X e (.keepD i)) : SI g W X tg e (.keepD i) := fun pk =>
  PI.weak (pi_any (he false)) fun σ H R ⟨F, m, z, eg, o, h⟩ => by
    subst eg
    refine ⟨F, m, z, rfl, o, ?_⟩
    rw [still_ev (e := .keepD i) rfl pk] at h
    cases e1 : evE false (.keepD i) z with
    | bad => rw [e1] at h; exact h.elim
    | exn c ds z1 => rw [e1] at h; exact h
    | ok ds z1 =>
      rw [e1] at h
      intro vs H1 m1 p v ev
      subst ev
      obtain ⟨d, rfl, r⟩ := rf_one p.rp
      have h : (match items true d with | none => False | some xs => ∀ J H' m', PP F m z σ H false pk [] z1 [] H' m' → Src F.g (ApF F pk m' z1 σ) (Avs F m' z1 σ) m' J H' xs → R J H') := h
      cases e2 : items true d with
      | none => rw [e2] at h; exact h.elim
      | some xs =>
        rw [e2] at h
        rw [hK]
        refine src_it (Rep.peek (Ap := ApF F pk m1 z1 σ) (fun a q => ?_) r) (fun tk ks ws ed _ => ?_) e2 fun J s => h J H1 m1 ⟨p.ok, p.gt, (fun q => nomatch q), by cases pk <;> exact rfl⟩ s
        · cases pk with
          | true => exact avP_avs a q
          | false => exact q
        · subst ed
          obtain ⟨a, o, u, vl, e, q, t, _⟩ := r
          exact ⟨a, o, u, vl, e, q, t⟩
end
end G
end
section
set_option Elab.async false
set_option linter.all false
set_option maxHeartbeats 2000000
/-! GQ2: dicts: reading, membership, stores, displays. -/
namespace G
open PySem PySem.Spec PyProof.Rows L2
theorem eqb_kD (a b : L2.Key) : eqb (kD a) (kD b) = decide (a = b) := by
  cases a with
  | inl i =>
    cases b with
    | inl j =>
      show (i == j) = _
      by_cases h : i = j
      · subst h; simp
      · simp [h]
    | inr y => simp [kD, eqb]
  | inr x =>
    cases b with
    | inl j => simp [kD, eqb]
    | inr y =>
      show (x == y) = _
      by_cases h : x = y
      · subst h; simp
      · simp [h]
theorem eqb_kDs (a b : List L2.Key) : eqb (.tup (a.map kD)) (.tup (b.map kD)) = decide (a = b) := by
  have key : ∀ a b : List L2.Key, eqbs (a.map kD) (b.map kD) = decide (a = b) := by
    intro a
    induction a with
    | nil => intro b; cases b <;> simp [eqbs]
    | cons x a ih =>
      intro b
      cases b with
      | nil => simp [eqbs]
      | cons y b =>
        show (eqb (kD x) (kD y) && eqbs (a.map kD) (b.map kD)) = _
        rw [eqb_kD, ih b]
        by_cases h1 : x = y <;> by_cases h2 : a = b <;> simp [h1, h2]
  exact key a b
theorem keyOf_some {d : D} {k : L2.Key} (h : keyOf d = some k) : d = kD k := by
  cases d <;> first | (cases h; done) | (cases h; rfl)
theorem keysOf_some : ∀ {ds : List D} {k : List L2.Key}, keysOf ds = some k → ds = k.map kD
  | [], k, h => by cases h; rfl
  | d :: ds, k, h => by
    unfold keysOf at h
    cases e1 : keyOf d with
    | none => rw [e1] at h; cases h
    | some c =>
      cases e2 : keysOf ds with
      | none => rw [e1, e2] at h; cases h
      | some r =>
        rw [e1, e2] at h
        cases h
        rw [keyOf_some e1, keysOf_some e2]
        rfl
section
variable {K : PySem.W.Frag} {cl : Nat → CI} {Ap Av : Addr → Prop} {m : List Addr} {H : Hp}
theorem rep_kD {k : L2.Key} {v : V} (h : Rep K cl Av m H (kD k) v) : v = kV k ∧ KeyFine k := by
  cases k with
  | inl i => exact ⟨h, True.intro⟩
  | inr x => exact ⟨h.1, h.2⟩
theorem reps_kD : ∀ {k : List L2.Key} {vs : List V}, Reps K cl Av m H (k.map kD) vs → vs = k.map kV ∧ ∀ c ∈ k, KeyFine c
  | [], vs, h => ⟨h, fun _ q => nomatch q⟩
  | c :: k, vs, h => by
    obtain ⟨v, r, rfl, q, t⟩ := h
    obtain ⟨e1, f1⟩ := rep_kD q
    obtain ⟨e2, f2⟩ := reps_kD t
    refine ⟨by rw [e1, e2]; rfl, fun d hd => ?_⟩
    rcases List.mem_cons.mp hd with e | hd
    · rw [e]; exact f1
    · exact f2 d hd
/-- keys of either kind, as data and as what the machine compares -/
structure KeyIn (tk : Bool) (x : D) (y : V) (H : Hp) : Prop where
  go : (tk = false ∧ ∃ k, x = kD k ∧ y = kV k ∧ KeyFine k) ∨ (tk = true ∧ ∃ (k : List L2.Key) (b : Addr), x = .tup (k.map kD) ∧ y = .ref b ∧ H b = some (.tup (k.map kV)) ∧ ∀ c ∈ k, KeyFine c)
theorem keyIn {tk : Bool} {x : D} {y : V} (h : isKey tk x = true) (r : Rep K cl Av m H x y) : KeyIn tk x y H := by
  cases tk with
  | false =>
    have h : (keyOf x).isSome = true := by
      cases x <;> first | exact h | cases h
    obtain ⟨k, hk⟩ := Option.isSome_iff_exists.mp h
    have e := keyOf_some hk
    subst e
    obtain ⟨e1, f⟩ := rep_kD r
    exact ⟨.inl ⟨rfl, k, rfl, e1, f⟩⟩
  | true =>
    cases x with
    | tup xs =>
      have h : (keysOf xs).isSome = true := h
      obtain ⟨k, hk⟩ := Option.isSome_iff_exists.mp h
      have e := keysOf_some hk
      subst e
      obtain ⟨b, vs, rfl, hb, rs⟩ := r
      obtain ⟨e1, f⟩ := reps_kD rs
      subst e1
      exact ⟨.inr ⟨rfl, k, b, rfl, rfl, hb, f⟩⟩
    | _ => cases h
theorem repP_key {tk : Bool} {x : D} {y : V} (h : isKey tk x = true) (r : RepP K cl Ap Av m H x y) : Rep K cl Av m H x y := by
  cases x with
  | lst xs => cases tk <;> cases h
  | dct a b c => cases tk <;> cases h
  | _ => exact r
section
variable {κ : Type} [DecidableEq κ] {enc : κ → D} (henc : ∀ a b, eqb (enc a) (enc b) = decide (a = b))
include henc
theorem dGet_val : ∀ (kl : List κ) (ws : List D) (vl : List V) (k : κ), kl.length = vl.length → Reps K cl Av m H ws vl →
    match dGet (kl.map enc) ws (enc k) with
    | some d => ∃ v, valV (kl.zip vl) k = some v ∧ Rep K cl Av m H d v
    | none => valV (kl.zip vl) k = none
  | [], ws, vl, k, _, _ => rfl
  | c :: kl, [], vl, k, hl, r => by
    have e : vl = [] := r
    subst e
    simp at hl
  | c :: kl, w :: ws, vl, k, hl, r => by
    obtain ⟨v, t, rfl, rv, rt⟩ := r
    show match (if eqb (enc c) (enc k) then some w else dGet (kl.map enc) ws (enc k)) with | some d => _ | none => _
    rw [henc]
    by_cases h : c = k
    · subst h
      simp only [decide_true, if_true]
      exact ⟨v, valV_pos rfl, rv⟩
    · simp only [h, decide_false, Bool.false_eq_true, if_false]
      have q := dGet_val kl ws t k (by simpa using hl) rt
      have e : valV ((c :: kl).zip (v :: t)) k = valV (kl.zip t) k := valV_neg (p := (c, v)) h
      rw [e]
      exact q
theorem dPut_put (kl : List κ) (ws : List D) (vl : List V) (k : κ) {d : D} {v : V} (hl : kl.length = vl.length) (r : Reps K cl Av m H ws vl) (rd : Rep K cl Av m H d v) :
    ∃ (kl' : List κ) (vl' : List V), putK (kl.zip vl) k v = kl'.zip vl' ∧ kl'.length = vl'.length ∧ (dPut (kl.map enc) ws (enc k) d).1 = kl'.map enc ∧ Reps K cl Av m H (dPut (kl.map enc) ws (enc k) d).2 vl' ∧ ∀ c ∈ kl', c ∈ kl ∨ c = k := by
  have any : ∀ (kl : List κ) (vl : List V), kl.length = vl.length → ((kl.zip vl).any fun kv => decide (kv.1 = k)) = (kl.map enc).any fun c => eqb c (enc k) := by
    intro kl
    induction kl with
    | nil => intro vl _; rfl
    | cons c kl ih =>
      intro vl h
      cases vl with
      | nil => simp at h
      | cons w vl =>
        simp only [List.zip_cons_cons, List.any_cons, List.map_cons]
        rw [ih vl (by simpa using h), henc]
  have repl : ∀ (kl : List κ) (ws : List D) (vl : List V), kl.length = vl.length → Reps K cl Av m H ws vl →
      (kl.zip vl).map (fun kv => if kv.1 = k then (kv.1, v) else kv) = kl.zip ((kl.zip vl).map fun kv => if kv.1 = k then v else kv.2) ∧
      Reps K cl Av m H (((kl.map enc).zip ws).map fun p => if eqb p.1 (enc k) then d else p.2) ((kl.zip vl).map fun kv => if kv.1 = k then v else kv.2) ∧ ((kl.zip vl).map fun kv => if kv.1 = k then v else kv.2).length = kl.length := by
    intro kl
    induction kl with
    | nil => intro ws vl h r; exact ⟨rfl, rfl, rfl⟩
    | cons c kl ih =>
      intro ws vl h r
      cases vl with
      | nil => simp at h
      | cons w vl =>
        cases ws with
        | nil =>
          have e : (w :: vl) = [] := r
          cases e
        | cons x ws =>
          obtain ⟨w', t, e, rw_, rt⟩ := r
          cases e
          obtain ⟨h1, h2, h3⟩ := ih ws vl (by simpa using h) rt
          simp only [List.zip_cons_cons, List.map_cons]
          refine ⟨?_, ⟨_, _, rfl, ?_, h2⟩, by simp only [List.length_cons, h3]⟩
          · rw [h1]
            by_cases hc : c = k <;> simp [hc]
          · rw [henc]
            by_cases hc : c = k
            · simp only [hc, decide_true, if_true]; exact rd
            · simp only [hc, decide_false, Bool.false_eq_true, if_false]; exact rw_
  unfold putK dPut
  rw [any kl vl hl]
  cases hb : (kl.map enc).any fun c => eqb c (enc k) with
  | true =>
    simp only [if_true]
    obtain ⟨h1, h2, h3⟩ := repl kl ws vl hl r
    exact ⟨kl, _, h1, h3.symm, rfl, h2, fun c hc => .inl hc⟩
  | false =>
    simp only [Bool.false_eq_true, if_false]
    refine ⟨kl ++ [k], vl ++ [v], ?_, by simp [hl], by simp, Reps.append r ⟨v, [], rfl, rd, rfl⟩, fun c hc => ?_⟩
    · rw [List.zip_append hl]; rfl
    · rcases List.mem_append.mp hc with hc | hc
      · exact .inl hc
      · exact .inr (List.mem_singleton.mp hc)
end
/-- reading -/
theorem dct_get {tk : Bool} {u : HO} {ks ws : List D} {vl : List V} {a : Addr} {x : D} {y : V} (t : DctAt tk u ks vl) (r : Reps K cl Av m H ws vl) (hu : Rd H a u) (ky : KeyIn tk x y H) :
    ∃ o, DGet H a y o ∧ match dGet ks ws x with
    | some d => ∃ v, o = some v ∧ Rep K cl Av m H d v
    | none => o = none := by
  rcases ky.go with ⟨rfl, k, rfl, rfl, _⟩ | ⟨rfl, k, b, rfl, rfl, hb, _⟩
  · obtain ⟨kl, rfl, hl, rfl, _⟩ := t
    exact ⟨_, .inl ⟨_, k, hu, rfl, rfl⟩, dGet_val eqb_kD kl ws vl k hl r⟩
  · obtain ⟨kl, rfl, hl, rfl, _⟩ := t
    exact ⟨_, .inr ⟨_, k, b, hu, rfl, hb, rfl⟩, dGet_val (enc := fun k => .tup (k.map kD)) eqb_kDs kl ws vl k hl r⟩
/-- writing -/
theorem dct_put {Hr : Hp} {tk : Bool} {u : HO} {ks ws : List D} {vl : List V} {a : Addr} {x d : D} {y v : V} (t : DctAt tk u ks vl) (r : Reps K cl Av m Hr ws vl) (hu : H a = some u) (ky : KeyIn tk x y H) (rd : Rep K cl Av m Hr d v) (hz : ks.length < sizeLine) :
    ∃ u' vl', DPut H a y v (upd H a u') ∧ DctAt tk u' (dPut ks ws x d).1 vl' ∧ Reps K cl Av m Hr (dPut ks ws x d).2 vl' := by
  rcases ky.go with ⟨rfl, k, rfl, rfl, f⟩ | ⟨rfl, k, b, rfl, rfl, hb, f⟩
  · obtain ⟨kl, rfl, hl, rfl, fine⟩ := t
    obtain ⟨kl', vl', h1, h2, h3, h4, h5⟩ := dPut_put eqb_kD kl ws vl k hl r rd
    refine ⟨.dK (kl'.zip vl'), vl', .inl ⟨_, k, hu, rfl, by rw [List.length_zip]; rw [List.length_map] at hz; omega, by rw [h1]⟩, ⟨kl', rfl, h2, h3, fun c hc => ?_⟩, h4⟩
    rcases h5 c hc with q | q
    · exact fine c q
    · rw [q]; exact f
  · obtain ⟨kl, rfl, hl, rfl, fine⟩ := t
    obtain ⟨kl', vl', h1, h2, h3, h4, h5⟩ := dPut_put (enc := fun k => .tup (k.map kD)) eqb_kDs kl ws vl k hl r rd
    refine ⟨.dT (kl'.zip vl'), vl', .inr ⟨_, k, b, hu, rfl, hb, by rw [List.length_zip]; rw [List.length_map] at hz; omega, by rw [h1]⟩, ⟨kl', rfl, h2, h3, fun c hc => ?_⟩, h4⟩
    rcases h5 c hc with q | q
    · exact fine c q
    · rw [q]; exact f
theorem repP_dct {tk : Bool} {ks ws : List D} {v : V} (r : RepP K cl Ap Av m H (.dct tk ks ws) v) : ∃ a u vl, v = .ref a ∧ Rd H a u ∧ DctAt tk u ks vl ∧ Reps K cl Av m H ws vl := by
  obtain ⟨a, u, vl, e, q, t, r⟩ := r
  exact ⟨a, u, vl, e, q.elim (fun q => .inl q.1) .inr, t, r⟩
end
theorem pr_dix {g : Gx} : PrR g pDIx fun vs H Q => ∃ x y, vs = [x, y] ∧ ∃ a v, x = .ref a ∧ DGet H a y (some v) ∧ Q v H := by
  intro Ap Av m H hp ds vs d Q hst hsub hl hc r e q
  unfold pDIx at e
  split at e
  · rename_i tk ks ws x
    obtain ⟨v1, v2, rfl, r1, r2⟩ := RepsP.two r
    split at e
    · rename_i hk
      obtain ⟨a, u, vl, rfl, hu, t, rw_⟩ := repP_dct r1
      obtain ⟨o, hg, hm⟩ := dct_get t rw_ hu (keyIn hk (repP_key hk r2))
      rw [e] at hm
      obtain ⟨v, rfl, rv⟩ := hm
      exact ⟨_, _, rfl, a, v, rfl, hg, q v H (fun _ _ h => h) rv⟩
    · cases e
  · cases e
theorem pr_din {g : Gx} : PrR g pDIn fun vs H Q => ∃ y x, vs = [y, x] ∧ ∃ a o, x = .ref a ∧ DGet H a y o ∧ Q (.bl o.isSome) H := by
  intro Ap Av m H hp ds vs d Q hst hsub hl hc r e q
  unfold pDIn at e
  split at e
  · rename_i x tk ks ws
    obtain ⟨v1, v2, rfl, r1, r2⟩ := RepsP.two r
    split at e
    · rename_i hk
      cases e
      obtain ⟨a, u, vl, rfl, hu, t, rw_⟩ := repP_dct r2
      obtain ⟨o, hg, hm⟩ := dct_get t rw_ hu (keyIn hk (repP_key hk r1))
      refine ⟨_, _, rfl, a, o, rfl, hg, q _ H (fun _ _ h => h) ?_⟩
      cases e1 : dGet ks ws x with
      | none => rw [e1] at hm; rw [hm]; exact rfl
      | some d' =>
        rw [e1] at hm
        obtain ⟨v, rfl, _⟩ := hm
        exact rfl
    · cases e
  · cases e
theorem pr_dnotin {g : Gx} : PrR g pDNotIn fun vs H Q => ∃ y x, vs = [y, x] ∧ ∃ a o, x = .ref a ∧ DGet H a y o ∧ Q (.bl (!o.isSome)) H := by
  intro Ap Av m H hp ds vs d Q hst hsub hl hc r e q
  unfold pDNotIn at e
  split at e
  · rename_i x tk ks ws
    obtain ⟨v1, v2, rfl, r1, r2⟩ := RepsP.two r
    split at e
    · rename_i hk
      cases e
      obtain ⟨a, u, vl, rfl, hu, t, rw_⟩ := repP_dct r2
      obtain ⟨o, hg, hm⟩ := dct_get t rw_ hu (keyIn hk (repP_key hk r1))
      refine ⟨_, _, rfl, a, o, rfl, hg, q _ H (fun _ _ h => h) ?_⟩
      cases e1 : dGet ks ws x with
      | none => rw [e1] at hm; rw [hm]; exact rfl
      | some d' =>
        rw [e1] at hm
        obtain ⟨v, rfl, _⟩ := hm
        exact rfl
    · cases e
  · cases e
section
variable {F : Fx} {g : Gx} {W : WX} {X : Cx} {pos p : Pos} {m m1 m2 : List Addr} {z z1 z2 : Z} {σ σ1 σ2 : L2.St} {H H1 H2 : Hp}
theorem se_dix {a b : Expr} {A B : E} (hu : X.A.units + 1 < cLine) (ha : SE g W X a A) (hb : SE g W X b B) (hs : NoSl b) : SE g W X (.Subscript a b pos) (.prim pDIx (.cons A (.cons B .nil))) :=
  se_p2 (r := fun x y H Q => ∃ a v, x = .ref a ∧ DGet H a y (some v) ∧ Q v H) pr_dix ha hb fun _ _ h1 h2 => PE.weak (pe_dget hu h1 h2 hs) fun σ H Q q => q
theorem se_din {a b : Expr} {A B : E} (hu : X.A.units + 1 < cLine) (ha : SE g W X a A) (hb : SE g W X b B) (hm : behindInMarks .In b = false) : SE g W X (.Compare a [.In] [b] pos) (.prim pDIn (.cons A (.cons B .nil))) :=
  se_p2 (r := fun y x H Q => ∃ a o, x = .ref a ∧ DGet H a y o ∧ Q (.bl o.isSome) H) pr_din ha hb fun _ _ h1 h2 => PE.weak (pe_cmp (pc_din hu h1 h2) hm) fun σ H Q q => q
theorem se_dnotin {a b : Expr} {A B : E} (hu : X.A.units + 1 < cLine) (ha : SE g W X a A) (hb : SE g W X b B) (hm : behindInMarks .NotIn b = false) : SE g W X (.Compare a [.NotIn] [b] pos) (.prim pDNotIn (.cons A (.cons B .nil))) :=
  se_p2 (r := fun y x H Q => ∃ a o, x = .ref a ∧ DGet H a y o ∧ Q (.bl (!o.isSome)) H) pr_dnotin ha hb fun _ _ h1 h2 => PE.weak (pe_cmp (pc_dnotin hu h1 h2) hm) fun σ H Q q => q
/-- x[k] = e, x an own dict -/
theorem s1_putD {i : Nat} {x : Str} {e k : Expr} {E K : G.E} {p0 ps_ : Pos} (hu : X.A.units + 1 < cLine) (hN : X.N[i]? = some x) (hv : Vis X.env.scope x) (hd : (x == ("__debug__" : Str)) = false) (hcd : (x == ("__classdict__" : Str)) = false) (he : SE g W X e E) (hk : SE g W X k K)
    (hs : swapsWith e (some (.Subscript (.Name x p0) k ps_)) pos.line X.env = pure false) : S1 g W X (.Assign [.Subscript (.Name x p0) k ps_] e pos) (.putD i K E) :=
  PS.weak (ps_dput hu (pe_var hN hv hd hcd) (hk true) (he false) hs) fun D σ H ⟨F, m, z, eg, o, h⟩ => by
    subst eg
    unfold evS at h
    refine ⟨F, m, z, rfl, o, to_aft o h fun x z1 vs H1 m1 _ p q v ev => ?_⟩
    subst ev
    obtain ⟨d, rfl, r⟩ := rf_one p.rp
    simp only [List.headD] at q
    split at q
    · rename_i c1 ez1
      have q1 := aftS_after p.ps q
      have hz1 := getD_some ez1 (by intro q; cases q)
      obtain ⟨a, hσ, t⟩ := p.ok.own i _ (.inl hz1)
      refine ⟨_, hσ, F, m1, z1, rfl, p.ok, to_aft p.ok q1 fun y z2 ws H2 m2 _ p2 q2 w ew => ?_⟩
      subst ew
      obtain ⟨dk, rfl, rk⟩ := rf_head p2.rp
      simp only [List.headD] at q2
      split at q2
      · rename_i tk ks ws ez2
        have hz2 := getD_some ez2 (by intro q; cases q)
        split at q2
        · rename_i hc
          rw [Bool.and_eq_true, decide_eq_true_eq] at hc
          obtain ⟨a2, hσ2, u2, vl2, hu2, t2, r2⟩ := p2.ok.own i _ (.inl hz2)
          rw [hσ] at hσ2
          cases hσ2
          have rv : RF_ F false m2 z2 σ H2 [d] [v] := PP.carry p.rp p2 (fun h => nomatch h)
          obtain ⟨_, ed, rv'⟩ := rf_one rv
          cases ed
          obtain ⟨u', vl', hput, t', r'⟩ := dct_put t2 r2 hu2 (keyIn hc.1 (repP_key hc.1 rk)) rv' (Nat.lt_of_lt_of_le hc.2 (big_line (Nat.le_refl _)))
          refine ⟨a, _, rfl, hput, ?_⟩
          exact q2 σ _ m2 (p2.ps.trans (own_writeG p2.ok hz2 hσ hu2 t2.mut fun g => ⟨u', vl', upd_same, t', Reps.mono g _ vl' r'⟩))
        · exact q2.elim
      · exact q2.elim
    · exact q.elim
end
end G
end
section
set_option Elab.async false
set_option linter.all false
set_option maxHeartbeats 2000000
/-! GQ3: dict displays. -/
namespace G
open PySem PySem.Spec PyProof.Rows L2
def dChain (p : Addr) : List (V × V) → Hp → (Hp → Prop) → Prop
  | [], H, Q => Q H
  | (y, v) :: r, H, Q => ∃ H1, DPut H p y v H1 ∧ dChain p r H1 Q
def dEmpty : Bool → HO
  | true => .dT []
  | false => .dK []
def tDispG (tk : Bool) (trs : List (TE × TE)) : TE := fun σ H Q => tPairs trs σ H fun ps H2 => ∀ p, H2 p = none → dChain p ps (upd H2 p (dEmpty tk)) (Q (.ref p))
section
variable {X : Cx} {pins : List (Addr × Obj)} {σ : L2.St} {A : Around} {E : Value → Shared → Prop}
theorem d_dictSet {a : Addr} {y v : V} {u r : Value} {s : Shared} {H H' : Hp} {Q : Unit → Shared → Prop} (hu : A.units < cLine) (I : Inv X pins σ H s) (g : DPut H a y v H') (ry : RelV y u) (rv : RelV v r) (h : ∀ s', Inv X pins σ H' s' → Q () s') :
    wpAny (model X.prog X.w) A (dictSet a u r) Q E s := by
  rcases g with ⟨kvs, k, e, ey, l, eH⟩ | ⟨kvs, k, b, e, ey, eb, l, eH⟩
  · subst ey eH
    obtain ⟨z, hd, vs, rel, dd⟩ := dk_of I.hok e
    have hz : vs.length ≤ sizeLine := by rw [← rel.length]; exact z
    have hl : (putK kvs k v).length ≤ sizeLine := by have := length_putK kvs k v; omega
    refine wpAny_dictSet_pairs (hsz := hz) (kV_is ry) dd fun h' dd' hs => h _ ?_
    have he : ∃ q, h'.get? a = some q := let ⟨q, _, _, hq, _⟩ := dd'; ⟨q, hq⟩
    exact d_write I (by rw [e]; exact True.intro) hs he (dk_new hl hd (rel.put k rv) dd')
  · subst ey eH
    cases (show u = Value.ref b from ry)
    obtain ⟨z, hd, xs, rel, dd⟩ := dt_of I.hok e
    have hz : xs.length ≤ sizeLine := by rw [← Paired.length rel]; exact z
    have hl : (putK kvs k v).length ≤ sizeLine := by have := length_putK kvs k v; omega
    refine wpAny_dictSet_heap (hsz := hz) (knd := tupleKind (mixKind X.prog X.w)) hu (key_of I.hok eb) dd fun h' dd' hs => h _ ?_
    obtain ⟨q, es, ep, hq, h2, h3, h4, _, h5⟩ := dd'
    refine d_write I (by rw [e]; exact True.intro) hs ⟨q, hq⟩ ⟨hl, hd, _, (rel.put k eb rv).keeps fun c ys ec => ?_, q, es, ep, hq, h2, h3, h4, h5⟩
    rw [upd_ne (ne_of ec e (fun z => nomatch z))]
    exact ec
theorem storeAll_chain {p : Addr} {Q : Hp → Prop} (hu : A.units < cLine) : ∀ (ps : List (V × V)) (ws : List (Value × Value)) (H : Hp) (s : Shared), Inv X pins σ H s → VV ps ws → dChain p ps H Q →
    wpAny (model X.prog X.w) A (storeAll p ws) (fun _ s' => ∃ H', Inv X pins σ H' s' ∧ Q H') E s := by
  intro ps
  induction ps with
  | nil =>
    intro ws H s I rel q
    cases rel
    unfold storeAll
    rw [List.forIn_nil]
    exact wpAny_pure ⟨H, I, q⟩
  | cons c ps ih =>
    intro ws H s I rel q
    cases rel with
    | @cons _ w _ ws h t =>
      obtain ⟨y, v⟩ := c
      obtain ⟨H1, g, q⟩ := q
      unfold storeAll
      rw [List.forIn_cons]
      exact wpAny_bind (wpAny_bind (d_dictSet hu I g h.1 h.2 fun s' I' => wpAny_pure (ih ws H1 s' I' t q)))
theorem pe_dispG {pos : Pos} {keys : List (Option Expr)} {values : List Expr} {trs : List (TE × TE)} {tk : Bool} (hu : X.A.units + 1 < cLine) (h : PPs X pos keys values trs) (hall : keys.all (·.isSome) = true) (hl : keys.length = values.length) (h0 : keys ≠ [])
    (h15 : keys.length ≤ 15) : PE X (.Dict keys values pos) (tDispG tk trs) := by
  refine ⟨fun pins s σ H Q I q => ?_⟩
  have hn : H s.heap.objs.size = none := I.hok.fresh (Nat.le_refl s.heap.objs.size)
  have hget : (s.heap.push { cls := .type "dict", data := .dict #[] }).get? s.heap.objs.size = some { cls := .type "dict", data := .dict #[] } := Heap.get?_push_size _ rfl
  have I1 : Inv X pins σ H { s with heap := s.heap.push { cls := .type "dict", data := .dict #[] } } := I.kept (t' := s.toks) fun b u e => Heap.get?_push_of_some _ e
  obtain ⟨f0, f1, f2, f3, f4, f5⟩ := I.fpOk (Nat.le_refl _) hn
  have I2 : Inv X (pins ++ [(s.heap.objs.size, { cls := .type "dict", data := .dict #[] })]) σ H { s with heap := s.heap.push { cls := .type "dict", data := .dict #[] } } :=
    I1.pins_of fun p hp => (List.mem_append.mp hp).elim (fun z => I1.pin p (List.mem_append_right _ z)) fun z => by
      rw [List.mem_singleton.mp z]
      exact ⟨hget, f0, f1, f2, fun v e => nomatch e⟩
  refine wpAny_Dict_any hall hl h0 h15 (thn (h.run _ _ σ H _ I2 q) fun ws s2 ⟨ps, H2, I3, rel, q2⟩ => ?_)
  have pin := I3.pin (s.heap.objs.size, { cls := .type "dict", data := .dict #[] }) (List.mem_append_right _ (List.mem_append_right _ (List.mem_singleton_self _)))
  obtain ⟨p1, p2, _⟩ := pin
  have p1 : s2.heap.get? s.heap.objs.size = some { cls := .type "dict", data := .dict #[] } := p1
  have p2 : H2 s.heap.objs.size = none := p2
  have big : (s.heap.objs.size == sysModules) = false := beq_eq_false_iff_ne.mpr (Ne.symm (Nat.ne_of_lt I.big))
  have ok : ObjOk X.prog X.w (upd H2 s.heap.objs.size (dEmpty tk)) s2.heap s.heap.objs.size (dEmpty tk) := by
    cases tk with
    | true => exact ⟨Nat.zero_le _, big, [], .nil, _, #[], 0, p1, ⟨rfl, rfl, rfl⟩, rfl, rfl, List.nodup_nil⟩
    | false => exact ⟨Nat.zero_le _, big, [], .nil, _, #[], 0, p1, ⟨rfl, rfl, rfl⟩, rfl, fun _ he => by simp at he, Pairs.nil, List.nodup_nil⟩
  have I4 : Inv X pins σ (upd H2 s.heap.objs.size (dEmpty tk)) s2 := I3.unpinned.take (h' := s2.heap) (t' := s2.toks) (fun b ob _ e => e) (I.fpOk (Nat.le_refl _) p2) ok
  refine thn (storeAll_chain (Nat.lt_of_succ_lt hu) ps ws _ s2 I4 rel (q2 _ p2)) fun _ s3 ⟨H3, I5, q3⟩ => ⟨.ref s.heap.objs.size, H3, I5, rfl, q3⟩
end
def flatV : List (V × V) → List V
  | [] => []
  | (y, v) :: r => y :: v :: flatV r
theorem flatV_inj : ∀ {a b : List (V × V)}, flatV a = flatV b → a = b
  | [], [], _ => rfl
  | [], (y, v) :: r, h => nomatch h
  | (y, v) :: r, [], h => nomatch h
  | (y, v) :: r, (y', v') :: r', h => by
    injection h with h1 h2
    injection h2 with h2 h3
    rw [h1, h2, flatV_inj h3]
section
variable {g : Gx} {W : WX} {X : Cx} {pos : Pos}
structure SPs (g : Gx) (W : WX) (X : Cx) (pos : Pos) (keys : List (Option Expr)) (values : List Expr) (es : E) : Prop where
  go : ∃ trs, PPs X pos keys values trs ∧ ∀ σ H (R : List (V × V) → Hp → Prop), (tDs g W false es σ H fun vs H' => ∀ ps, flatV ps = vs → R ps H') → tPairs trs σ H R
theorem sps_nil : SPs g W X pos [] [] .nil := ⟨[], pps_nil, fun σ H R ⟨F, m, z, eg, o, h⟩ => h [] H m (PP.refl o rfl) [] rfl⟩
theorem tDs_mono {pk : Bool} {es : E} {σ : L2.St} {H : Hp} {R R' : List V → Hp → Prop} (h : tDs g W pk es σ H R) (w : ∀ vs H', R vs H' → R' vs H') : tDs g W pk es σ H R' := by
  obtain ⟨F, m, z, eg, o, h⟩ := h
  refine ⟨F, m, z, eg, o, ?_⟩
  cases e1 : evE pk es z with
  | bad => rw [e1] at h; exact h
  | exn c ds z1 => rw [e1] at h; exact h
  | ok ds z1 =>
    rw [e1] at h
    exact fun vs H1 m1 p => w _ _ (h vs H1 m1 p)
theorem sps_cons {k v : Expr} {keys : List (Option Expr)} {values : List Expr} {K V es : E} (hk : SE g W X k K) (hv : SE g W X v V) (hr : SPs g W X pos keys values es) : SPs g W X pos (some k :: keys) (v :: values) (.cons K (.cons V es)) := by
  obtain ⟨trs, h1, h2⟩ := hr.go
  refine ⟨(tD g W false K, tD g W false V) :: trs, pps_cons (hk false) (hv false) h1, fun σ H R q => ?_⟩
  refine tD_mono (tds_cons q) fun x H1 q1 => tD_mono (tds_cons q1) fun y H2 q2 => ?_
  exact h2 σ H2 _ (tDs_mono q2 fun vs H' q ps e => q ((x, y) :: ps) (by rw [← e]; rfl))
theorem dPut_len (ks vs : List D) (x y : D) : (dPut ks vs x y).1.length ≤ ks.length + 1 := by
  unfold dPut
  split
  · exact Nat.le_succ _
  · simp
theorem dchain {K : PySem.W.Frag} {cl : Nat → CI} {Av : Addr → Prop} {m : List Addr} {H1 : Hp} {p : Addr} {tk : Bool} {Q : Hp → Prop} (hp : H1 p = none) : ∀ (ps : List (V × V)) (xs ks ws : List D) (vl : List V) (u : HO) (r : List D × List D), DctAt tk u ks vl → Reps K cl Av m H1 ws vl →
    Reps K cl Av m H1 xs (flatV ps) → dMany tk xs ks ws = some r → ks.length + ps.length ≤ 1000 → (∀ u' vl', DctAt tk u' r.1 vl' → Reps K cl Av m H1 r.2 vl' → Q (upd H1 p u')) → dChain p ps (upd H1 p u) Q
  | [], xs, ks, ws, vl, u, r, t, rw_, rx, e, _, q => by
    have hx : xs = [] := by
      have l := rx.length
      cases xs with
      | nil => rfl
      | cons _ _ => simp [flatV] at l
    subst hx
    cases e
    exact q u vl t rw_
  | (y, v) :: ps, xs, ks, ws, vl, u, r, t, rw_, rx, e, hz, q => by
    cases xs with
    | nil =>
      have e : (y :: v :: flatV ps) = [] := rx
      cases e
    | cons x xs =>
      obtain ⟨y', t1, e1, ry, rx⟩ := rx
      cases xs with
      | nil =>
        have e2 : t1 = [] := rx
        rw [e2] at e1
        cases e1
      | cons d xs =>
        obtain ⟨v', t2, e2, rv, rx⟩ := rx
        subst e2
        have e1 : y :: v :: flatV ps = y' :: v' :: t2 := e1
        injection e1 with a1 a2
        injection a2 with a2 a3
        subst a1 a2 a3
        unfold dMany at e
        by_cases hk : isKey tk x = true
        · rw [if_pos hk] at e
          have ky := keyIn hk ry
          have ky2 : KeyIn tk x y (upd H1 p u) := by
            rcases ky.go with h | ⟨h1, k, b, h2, h3, h4, h5⟩
            · exact ⟨.inl h⟩
            · exact ⟨.inr ⟨h1, k, b, h2, h3, by rw [upd_ne (ne_of_none h4 hp)]; exact h4, h5⟩⟩
          have hz' : ks.length + (ps.length + 1) ≤ 1000 := by simpa using hz
          have hln : ks.length < sizeLine := by
            have : (1000 : Nat) ≤ sizeLine := by rw [sizeLine_eq]; decide
            omega
          obtain ⟨u', vl', hput, t', r'⟩ := dct_put (H := upd H1 p u) t rw_ upd_same ky2 rv hln
          rw [upd_upd] at hput
          have hl := dPut_len ks ws x d
          exact ⟨_, hput, dchain hp ps xs _ _ vl' u' r t' r' rx e (by omega) q⟩
        · rw [if_neg hk] at e
          cases e
theorem fresh_any {F : Fx} {m m1 : List Addr} {z z1 : Z} {σ : L2.St} {H H1 : Hp} {np pk : Bool} {ds : List D} {ws : List V} {q : Addr} {u : HO} {d : D} (p : PP F m z σ H np pk ds z1 ws H1 m1) (hq : H1 q = none) (t : Gt (Avs F m1 z1 σ) (Avs (F.plus q) m1 z1 σ) m1 m1 H1 (upd H1 q u) → Top F.g.K F.g.cl (Avs (F.plus q) m1 z1 σ) m1 (upd H1 q u) q d) :
    PP F m z σ H np true [] z1 [] (upd H1 q u) m1 ∧ Fresh F H m1 z1 σ (upd H1 q u) d (.ref q) := by
  have na : ¬ Avs F m1 z1 σ q := fun w => by
    obtain ⟨u, w⟩ := p.ok.stands w
    rw [hq] at w
    cases w
  have s := same_new (o := u) hq
  have hq0 : H q = none := by
    cases e : H q with
    | none => rfl
    | some u =>
      obtain ⟨u', e'⟩ := p.gt.there q u e
      rw [hq] at e'
      cases e'
  exact ⟨p.more s rfl, q, rfl, hq0, na, p.ok.free0 hq, p.ok.plus hq s ⟨_, upd_same⟩, t (plus_gt hq s)⟩
theorem flatV_len (ps : List (V × V)) : (flatV ps).length = 2 * ps.length := by
  induction ps with
  | nil => rfl
  | cons c ps ih =>
    obtain ⟨y, v⟩ := c
    simp only [flatV, List.length_cons, ih]
    omega
theorem dctAt_empty (tk : Bool) : DctAt tk (dEmpty tk) [] [] := by
  cases tk with
  | true => exact ⟨[], rfl, rfl, rfl, fun _ h => nomatch h⟩
  | false => exact ⟨[], rfl, rfl, rfl, fun _ h => nomatch h⟩
theorem evE_dct (pk tk : Bool) (es : E) (z : Z) : evE pk (.dctE tk es) z = (evE false es z).bind fun xs z1 => if xs.length ≤ 30 then (match dMany tk xs [] [] with
    | some p => .ok [.dct tk p.1 p.2] z1
    | none => .bad) else .bad := by rw [evE] <;> rfl
theorem sf_dct {keys : List (Option Expr)} {values : List Expr} {es : E} {tk : Bool} (hu : X.A.units + 1 < cLine) (hp : SPs g W X pos keys values es) (hall : keys.all (·.isSome) = true) (hl : keys.length = values.length) (h0 : keys ≠ []) (h15 : keys.length ≤ 15) :
    SF g W X (.Dict keys values pos) (.dctE tk es) := by
  obtain ⟨trs, h1, h2⟩ := hp.go
  refine PE.weak (pe_dispG (tk := tk) hu h1 hall hl h0 h15) fun σ H Q ⟨F, m, z, eg, o, h⟩ => ?_
  subst eg
  rw [evE_dct] at h
  have key : tDs F.g W false es σ H fun vs H2 => ∀ ps, flatV ps = vs → ∀ p, H2 p = none → dChain p ps (upd H2 p (dEmpty tk)) (Q (.ref p)) := by
    refine ⟨F, m, z, rfl, o, ?_⟩
    cases e1 : evE false es z with
    | bad => rw [e1] at h; exact h.elim
    | exn c ds z1 => rw [e1] at h; exact h
    | ok xs z1 =>
      rw [e1] at h
      have h : aftF F W m z σ H (E.dctE tk es).np (if xs.length ≤ 30 then (match dMany tk xs [] [] with
        | some p => .ok [.dct tk p.1 p.2] z1
        | none => .bad) else .bad) Q := h
      intro vs H1 m1 p ps ev q hq
      subst ev
      by_cases hx : xs.length ≤ 30
      · rw [if_pos hx] at h
        cases e2 : dMany tk xs [] [] with
        | none => rw [e2] at h; exact h.elim
        | some r =>
          rw [e2] at h
          have rx : Reps F.g.K F.g.cl (Avs F m1 z1 σ) m1 H1 xs (flatV ps) := p.rp
          have hlp : ps.length ≤ 1000 := by
            have := rx.length
            rw [flatV_len] at this
            omega
          refine dchain (K := F.g.K) (cl := F.g.cl) (Av := Avs F m1 z1 σ) (m := m1) hq ps xs [] [] [] (dEmpty tk) r (dctAt_empty tk) rfl rx e2 (by simpa using hlp) fun u' vl' t r' => ?_
          obtain ⟨p1, f1⟩ := fresh_any (u := u') (d := .dct tk r.1 r.2) p hq fun g => ⟨u', vl', upd_same, t, Reps.mono g _ vl' r'⟩
          exact h _ _ m1 p1 f1
      · rw [if_neg hx] at h
        exact h.elim
  exact h2 σ H _ key
end
end G
end
section
set_option Elab.async false
set_option linter.all false
set_option maxHeartbeats 2000000
/-! GQ4: {} as a new dict; several names at once. -/
namespace G
open PySem PySem.Spec PyProof.Rows L2
section
variable {F : Fx} {g : Gx} {W : WX} {X : Cx} {pos p : Pos} {m m1 m2 : List Addr} {z z1 z2 : Z} {σ σ1 σ2 : L2.St} {H H1 H2 : Hp}
theorem sf_new {tk : Bool} : SF g W X (.Dict [] [] pos) (.dctE tk .nil) := by
  have key : ∀ {te : TE}, PE X (.Dict [] [] pos) te → (∀ σ H Q, (∀ p, H p = none → Q (.ref p) (upd H p (dEmpty tk))) → te σ H Q) → SF g W X (.Dict [] [] pos) (.dctE tk .nil) := fun {te} hp hw => by
    refine PE.weak hp fun σ H Q ⟨F, m, z, eg, o, h⟩ => hw σ H Q fun p hq => ?_
    rw [evE_dct] at h
    have h : aftF F W m z σ H (E.dctE tk .nil).np (.ok [.dct tk [] []] z) Q := h
    obtain ⟨p1, f1⟩ := fresh_any (u := dEmpty tk) (d := .dct tk [] []) (PP.refl (np := true) (pk := true) (ds := []) (vs := []) o rfl) hq fun g => ⟨dEmpty tk, [], upd_same, dctAt_empty tk, rfl⟩
    exact h _ _ m p1 f1
  cases tk with
  | true => exact key pe_dnewT fun σ H Q q => q
  | false => exact key pe_dnewK fun σ H Q q => q
/-- one more thing that stands as it is -/
def Fx.keep (F : Fx) (L : Addr) (u : HO) : Fx := { F with N0 := fun a => F.N0 a ∨ a = L, H0 := upd F.H0 L u }
theorem Ok.to_keep {L : Addr} {u : HO} (o : Ok (F.plus L) m z σ H) (hu : H L = some u) (hm : L ∉ m) (hno : ∀ j, ¬ OwnAt z σ j L) : Ok (F.keep L u) m z σ H := by
  refine ⟨o.len, o.ml, o.nd, o.cells, o.val, o.own, o.inj, o.new, fun i d a h1 h2 => ?_, o.pre, fun a h => ?_, fun a v h n => ?_, o.n0, o.m0n⟩
  · obtain ⟨n1, n2⟩ := o.newO i d a h1 h2
    refine ⟨n1, ?_⟩
    show upd F.H0 L u a = none
    rw [upd_ne (fun e => n1 (.inr e))]
    exact n2
  · rcases o.mnew a h with q | q
    · exact .inl q
    · refine .inr ?_
      show upd F.H0 L u a = none
      rw [upd_ne (fun e => hm (by rw [← e]; exact h))]
      exact q
  · have h : upd F.H0 L u a = some v := h
    by_cases e : a = L
    · rw [e, upd_same] at h
      cases h
      rw [e]; exact hu
    · rw [upd_ne e] at h
      exact o.fr a v h n
theorem Ok.of_keep {L : Addr} {u : HO} (o : Ok (F.keep L u) m z σ H) (h0 : F.H0 L = none) (hm0 : L ∉ F.m0) : Ok (F.plus L) m z σ H ∧ H L = some u ∧ L ∉ m := by
  have hL : H L = some u := o.fr L u upd_same hm0
  have hm : L ∉ m := fun h => by
    rcases o.mnew L h with q | q
    · exact hm0 q
    · have q : upd F.H0 L u L = none := q
      rw [upd_same] at q
      cases q
  refine ⟨⟨o.len, o.ml, o.nd, o.cells, o.val, o.own, o.inj, o.new, fun i d a h1 h2 => ?_, o.pre, fun a h => ?_, fun a v h n => ?_, o.n0, o.m0n⟩, hL, hm⟩
  · obtain ⟨n1, n2⟩ := o.newO i d a h1 h2
    refine ⟨n1, ?_⟩
    have n2 : upd F.H0 L u a = none := n2
    rw [upd_ne (fun e => n1 (.inr e))] at n2
    exact n2
  · rcases o.mnew a h with q | q
    · exact .inl q
    · have q : upd F.H0 L u a = none := q
      refine .inr ?_
      rw [upd_ne (fun e => hm (by rw [← e]; exact h))] at q
      exact q
  · refine o.fr a v ?_ n
    show upd F.H0 L u a = some v
    have h : F.H0 a = some v := h
    rw [upd_ne (fun e => by rw [e, h0] at h; cases h)]
    exact h
theorem noLock_not {env : List Slot} {i : Nat} {d : G.D} (h : noLock env = true) : env[i]? ≠ some (.lock d) := fun e => by
  have q := List.all_eq_true.mp h _ (List.mem_of_getElem? e)
  cases q
def setsB : List (Nat × Bool × E) → List V → L2.St → L2.St
  | (i, _, _) :: r, v :: vs, σ => (setsB r vs σ).set i (some v)
  | _, _, σ => σ
def tParT (g : Gx) (W : WX) : List (Nat × Bool × E) → TA
  | [] => fun σ H Q => Q [] H
  | (i, b, e) :: r => fun σ H Q => (if b then tDf g W e else tD g W false e) σ H fun x H1 => tParT g W r σ H1 fun xs H2 => Q (x :: xs) H2
theorem tDf_mono {a : E} {σ : L2.St} {H : Hp} {Q Q' : VK} (h : tDf g W a σ H Q) (w : ∀ v H', Q v H' → Q' v H') : tDf g W a σ H Q' := by
  obtain ⟨F, m, z, eg, o, h⟩ := h
  refine ⟨F, m, z, eg, o, ?_⟩
  cases e1 : evE false a z with
  | bad => rw [e1] at h; exact h
  | exn c ds z1 => rw [e1] at h; exact h
  | ok ds z1 =>
    rw [e1] at h
    exact fun v H1 m1 p f => w _ _ (h v H1 m1 p f)
theorem tParT_mono : ∀ {l : List (Nat × Bool × E)} {σ : L2.St} {H : Hp} {Q Q' : List V → Hp → Prop}, (∀ vs H', Q vs H' → Q' vs H') → tParT g W l σ H Q → tParT g W l σ H Q'
  | [], _, _, _, _, w, h => w _ _ h
  | (i, false, e) :: r, _, _, _, _, w, h => tD_mono (g := g) (W := W) (pk := false) (a := e) h fun v H1 q => tParT_mono (fun vs H2 q2 => w _ _ q2) q
  | (i, true, e) :: r, _, _, _, _, w, h => tDf_mono (g := g) (W := W) (a := e) h fun v H1 q => tParT_mono (fun vs H2 q2 => w _ _ q2) q
theorem setsB_len : ∀ (l : List (Nat × Bool × E)) (vs : List V) (σ : L2.St), (setsB l vs σ).length = σ.length
  | [], _, _ => by cases ‹List V› <;> rfl
  | (i, b, e) :: r, [], σ => rfl
  | (i, b, e) :: r, v :: vs, σ => by
    show ((setsB r vs σ).set i (some v)).length = _
    rw [List.length_set, setsB_len r vs σ]
theorem parL_w : ∀ (l : List (Nat × Bool × E)) (F : Fx) (m : List Addr) (z : Z) (σ : L2.St) (H : Hp) (D : Ends), F.g = g → Ok F m z σ H → (∀ i b e, (i, b, e) ∈ l → i < σ.length) → aftS F W m z σ H (parL evE l z) D →
    tParT g W l σ H fun vs H1 => vs.length = l.length ∧ D.nx (setsB l vs σ) H1
  | [], F, m, z, σ, H, D, eg, o, hl, h => ⟨rfl, h σ H m (PS_.refl o)⟩
  | (i, b, e) :: r, F, m, z, σ, H, D, eg, o, hl, h => by
    have hi : i < σ.length := hl i b e List.mem_cons_self
    have hr : ∀ i b e, (i, b, e) ∈ r → i < σ.length := fun i b e q => hl i b e (List.mem_cons_of_mem _ q)
    have h : aftS F W m z σ H ((evE false e z).to fun d z1 => match parL evE r z1 with
      | .next z2 => (match !b || (ownable d && noLock z2.env) with
        | true => .next { z2 with env := z2.env.set i (if b then .own d else .val d) }
        | false => .bad)
      | .exn c ds z2 => .exn c ds z2
      | _ => .bad) D := h
    cases b with
    | false =>
      show tD g W false e σ H _
      refine ⟨F, m, z, eg, o, to_aft o h fun x z1 vs H1 m1 _ p q v ev => ?_⟩
      subst ev
      obtain ⟨d, rfl, rd⟩ := rf_one p.rp
      simp only [List.headD] at q
      have IH := parL_w r F m1 z1 σ H1 { D with nx := fun σ2 H2 => σ2.length = σ.length → D.nx (σ2.set i (some v)) H2 } eg p.ok hr
      have IH2 : tParT g W r σ H1 fun vs H2 => vs.length = r.length ∧ D.nx ((setsB r vs σ).set i (some v)) H2 := by
        refine tParT_mono (fun vs H2 hh => ⟨hh.1, hh.2 (setsB_len r vs σ)⟩) (IH ?_)
        cases e2 : parL evE r z1 with
        | next z2 =>
          rw [e2] at q
          have q : aftS F W m z σ H (.next { z2 with env := z2.env.set i (.val d) }) D := q
          intro σ2 H2 m2 P hlen
          have rd2 : Rep F.g.K F.g.cl (Avs F m2 z2 σ2) m2 H2 d v := Rep.mono P.gt d v rd
          have P1 := put_one (i := i) P.ok rd2
          exact q _ H2 m2 ((p.ps.trans P).trans ⟨P1.ok, less_gt P1.less⟩)
        | exn c ds z2 =>
          rw [e2] at q
          exact fun cls d' σ2 H2 m2 P => q cls d' σ2 H2 m2 (p.ps.trans P)
        | bad => rw [e2] at q; exact q.elim
        | ret d z2 => rw [e2] at q; exact q.elim
        | brk z2 => rw [e2] at q; exact q.elim
        | cont z2 => rw [e2] at q; exact q.elim
      exact tParT_mono (fun vs H2 hh => ⟨by rw [List.length_cons, List.length_cons, hh.1], hh.2⟩) IH2
    | true =>
      show tDf g W e σ H _
      refine ⟨F, m, z, eg, o, ?_⟩
      cases e1 : evE false e z with
      | bad => rw [e1] at h; exact h.elim
      | exn c ds z1 =>
        rw [e1] at h
        exact fun cls d' H1 m1 q => h cls d' σ H1 m1 ⟨q.ok, q.gt⟩ q.ex
      | ok ds z1 =>
        rw [e1] at h
        intro v H1 m1 p f
        have q : aftS F W m z σ H (match parL evE r z1 with
          | .next z2 => (match !true || (ownable (ds.headD .non) && noLock z2.env) with
            | true => .next { z2 with env := z2.env.set i (.own (ds.headD .non)) }
            | false => .bad)
          | .exn c ds z2 => .exn c ds z2
          | _ => .bad) D := h
        generalize ds.headD .non = d at q f
        obtain ⟨L, rfl, hL, h0, o1, t, n1, n2, n3⟩ := f.facts
        obtain ⟨u, hu, mu⟩ := t.there
        have ok1 := o1.to_keep hu n2 n3
        have hm0 : L ∉ F.m0 := fun hh => n1 (o.m0n L hh)
        have gA : Gt (Avs F m z σ) (Avs (F.keep L u) m1 z1 σ) m m1 H H1 := by
          refine ⟨p.gt.keep, p.gt.tup, p.gt.frz, fun a u' hh q => ?_, p.gt.pre, p.gt.there⟩
          rcases plus_av (F := F) (p := L) q with q | q
          · exact p.gt.av a u' hh q
          · rw [q, hL] at hh; cases hh
        have IH := parL_w r (F.keep L u) m1 z1 σ H1 { D with nx := fun σ2 H2 => σ2.length = σ.length → D.nx (σ2.set i (some (.ref L))) H2 } eg ok1 hr
        have IH2 : tParT g W r σ H1 fun vs H2 => vs.length = r.length ∧ D.nx ((setsB r vs σ).set i (some (.ref L))) H2 := by
          refine tParT_mono (fun vs H2 hh => ⟨hh.1, hh.2 (setsB_len r vs σ)⟩) (IH ?_)
          cases e2 : parL evE r z1 with
          | next z2 =>
            rw [e2] at q
            intro σ2 H2 m2 P hlen
            cases e3 : ownable d && noLock z2.env with
            | false =>
              simp only [e3, Bool.not_true, Bool.false_or] at q
              exact q.elim
            | true =>
              simp only [e3, Bool.not_true, Bool.false_or] at q
              rw [Bool.and_eq_true] at e3
              obtain ⟨o2, hL2, hm2⟩ := P.ok.of_keep h0 hm0
              have t2 : Top F.g.K F.g.cl (Avs (F.plus L) m2 z2 σ2) m2 H2 L d := t.mono (m' := m2) P.gt fun u' hh => by
                rw [hu] at hh
                cases hh
                exact hL2
              have hno : ∀ j, ¬ OwnAt z2 σ2 j L := fun j ⟨⟨d', hd⟩, hs⟩ => by
                rcases hd with hd | hd
                · exact (P.ok.newO j d' L hd hs).1 (.inr rfl)
                · exact noLock_not e3.2 hd
              have hl2 : i < z2.env.length := by rw [← P.ok.len, hlen]; exact hi
              obtain ⟨o3, less⟩ := put_own o2 h0 n1 hm2 hl2 o.m0n t2 hno
              have g3 : Gt (Avs (F.keep L u) m2 z2 σ2) (Avs F m2 { z2 with env := z2.env.set i (.own d) } (σ2.set i (some (.ref L)))) m2 m2 H2 H2 := less_gt fun a hh => by
                rcases less a hh with w | w
                · exact av_plus (p := L) w
                · exact .inl (.inl (.inr w))
              exact q _ H2 m2 ⟨o3, (gA.trans P.gt).trans g3⟩
          | exn c ds z2 =>
            rw [e2] at q
            intro cls d' σ2 H2 m2 P x
            obtain ⟨o2, hL2, hm2⟩ := P.ok.of_keep h0 hm0
            obtain ⟨o3, less⟩ := o2.unplus o.m0n
            have g3 : Gt (Avs (F.keep L u) m2 z2 σ2) (Avs F m2 z2 σ2) m2 m2 H2 H2 := less_gt less
            exact q cls d' σ2 H2 m2 ⟨o3, (gA.trans P.gt).trans g3⟩ (x.to rfl (fun vs r => Reps.mono g3 ds vs r) fun _ _ h => h)
          | bad => rw [e2] at q; exact q.elim
          | ret d z2 => rw [e2] at q; exact q.elim
          | brk z2 => rw [e2] at q; exact q.elim
          | cont z2 => rw [e2] at q; exact q.elim
        exact tParT_mono (fun vs H2 hh => ⟨by rw [List.length_cons, List.length_cons, hh.1], hh.2⟩) IH2
/-- a, b = x, y -/
theorem s1_par2 {i j : Nat} {x y : Str} {a b : Expr} {A B : E} {px py pt : Pos} {kt k2 pt2} {o1 o2 : Bool} (hc : X.calm = true) (hN : X.N.Nodup) (hi : X.N[i]? = some x) (hj : X.N[j]? = some y) (hij : i ≠ j)
    (hx : X.env.scope.names.lookup x = some .local) (hy : X.env.scope.names.lookup y = some .local) (ha : PE X a (if o1 then tDf g W A else tD g W false A)) (hb : PE X b (if o2 then tDf g W B else tD g W false B)) (na : ∀ x p, a ≠ .Starred x p) (nb : ∀ x p, b ≠ .Starred x p)
    (hw : swappedStores [.Tuple [.Name x px, .Name y py] kt pt] (.Tuple [a, b] k2 pt2) X.env = pure (some [x, y]))
    (hs : swapsWithSole [.Tuple [.Name x px, .Name y py] kt pt] (.Tuple [a, b] k2 pt2) pos.line X.env = pure false) :
    S1 g W X (.Assign [.Tuple [.Name x px, .Name y py] kt pt] (.Tuple [a, b] k2 pt2) pos) (.par [(i, o1, A), (j, o2, B)]) :=
  PS.len (ps_par hc hN hi hj hij hx hy (pa_cons ha (pa_cons hb pa_nil (starEach_cons nb)) (starEach_cons na)) hw hs) fun D σ H hl ⟨F, m, z, eg, o, h⟩ => by
    unfold evS at h
    have li := (List.getElem?_eq_some_iff.mp hi).1
    have lj := (List.getElem?_eq_some_iff.mp hj).1
    have q := parL_w [(i, o1, A), (j, o2, B)] F m z σ H D eg o (fun k b e hk => by
      rcases List.mem_cons.mp hk with e1 | hk
      · cases e1; rw [hl]; exact li
      · rcases List.mem_cons.mp hk with e1 | hk
        · cases e1; rw [hl]; exact lj
        · cases hk) h
    show tParT g W [(i, o1, A), (j, o2, B)] σ H fun vs H1 => ∃ v w, vs = [v, w] ∧ D.nx ((σ.set i (some v)).set j (some w)) H1
    refine tParT_mono (fun vs H1 hh => ?_) q
    obtain ⟨h1, h2⟩ := hh
    cases vs with
    | nil => simp at h1
    | cons v vs =>
      cases vs with
      | nil => simp at h1
      | cons w vs =>
        cases vs with
        | cons _ _ => simp at h1
        | nil =>
          refine ⟨v, w, rfl, ?_⟩
          have h2 : D.nx ((σ.set j (some w)).set i (some v)) H1 := h2
          rw [List.set_comm _ _ (Ne.symm hij)] at h2
          exact h2
theorem s1_par3 {i j l : Nat} {x y u : Str} {a b c : Expr} {A B C : E} {px py pu pt : Pos} {kt k2 pt2} {o1 o2 o3 : Bool} (hc : X.calm = true) (hN : X.N.Nodup) (hi : X.N[i]? = some x) (hj : X.N[j]? = some y) (hl' : X.N[l]? = some u) (hij : i ≠ j) (hil : i ≠ l) (hjl : j ≠ l)
    (hx : X.env.scope.names.lookup x = some .local) (hy : X.env.scope.names.lookup y = some .local) (hu : X.env.scope.names.lookup u = some .local) (ha : PE X a (if o1 then tDf g W A else tD g W false A)) (hb : PE X b (if o2 then tDf g W B else tD g W false B)) (hcc : PE X c (if o3 then tDf g W C else tD g W false C))
    (na : ∀ x p, a ≠ .Starred x p) (nb : ∀ x p, b ≠ .Starred x p) (nc : ∀ x p, c ≠ .Starred x p)
    (hw : swappedStores [.Tuple [.Name x px, .Name y py, .Name u pu] kt pt] (.Tuple [a, b, c] k2 pt2) X.env = pure (some [x, y, u]))
    (hs : swapsWithSole [.Tuple [.Name x px, .Name y py, .Name u pu] kt pt] (.Tuple [a, b, c] k2 pt2) pos.line X.env = pure false) :
    S1 g W X (.Assign [.Tuple [.Name x px, .Name y py, .Name u pu] kt pt] (.Tuple [a, b, c] k2 pt2) pos) (.par [(i, o1, A), (j, o2, B), (l, o3, C)]) :=
  PS.len (ps_par3 hc hN hi hj hl' hij hil hjl hx hy hu (pa_cons ha (pa_cons hb (pa_cons hcc pa_nil (starEach_cons nc)) (starEach_cons nb)) (starEach_cons na)) hw hs) fun D σ H hl ⟨F, m, z, eg, o, h⟩ => by
    unfold evS at h
    have li := (List.getElem?_eq_some_iff.mp hi).1
    have lj := (List.getElem?_eq_some_iff.mp hj).1
    have ll := (List.getElem?_eq_some_iff.mp hl').1
    have q := parL_w [(i, o1, A), (j, o2, B), (l, o3, C)] F m z σ H D eg o (fun k b e hk => by
      rcases List.mem_cons.mp hk with e1 | hk
      · cases e1; rw [hl]; exact li
      · rcases List.mem_cons.mp hk with e1 | hk
        · cases e1; rw [hl]; exact lj
        · rcases List.mem_cons.mp hk with e1 | hk
          · cases e1; rw [hl]; exact ll
          · cases hk) h
    show tParT g W [(i, o1, A), (j, o2, B), (l, o3, C)] σ H fun vs H1 => ∃ u v w, vs = [u, v, w] ∧ D.nx (((σ.set i (some u)).set j (some v)).set l (some w)) H1
    refine tParT_mono (fun vs H1 hh => ?_) q
    obtain ⟨h1, h2⟩ := hh
    cases vs with
    | nil => simp at h1
    | cons v vs =>
      cases vs with
      | nil => simp at h1
      | cons w vs =>
        cases vs with
        | nil => simp at h1
        | cons t vs =>
          cases vs with
          | cons _ _ => simp at h1
          | nil =>
            refine ⟨v, w, t, rfl, ?_⟩
            have h2 : D.nx (((σ.set l (some t)).set j (some w)).set i (some v)) H1 := h2
            rw [List.set_comm _ _ (Ne.symm hij), List.set_comm (l := σ) _ _ (Ne.symm hil), List.set_comm _ _ (Ne.symm hjl)] at h2
            exact h2
end
end G
end
section
set_option Elab.async false
set_option linter.all false
set_option maxHeartbeats 2000000
/-! GX1: the primitives' rules: ints, ==, in, is. -/
namespace G
open PySem PySem.Spec PyProof.Rows L2
section
variable {g : Gx} {X : Cx}
abbrev Pr2 (g : Gx) (f : Pr) (r : R2) : Prop := PrR g f fun vs H Q => ∃ x y, vs = [x, y] ∧ r x y H Q
abbrev Pr1 (g : Gx) (f : Pr) (r : V → Hp → VK → Prop) : Prop := PrR g f fun vs H Q => ∃ x, vs = [x] ∧ r x H Q
theorem pr_ii {f : Pr} {r : R2} (hf : ∀ hp ds d, f hp ds = some d → ∃ i j v, ds = [.int i, .int j] ∧ (∀ K cl Av m H, Rep K cl Av m H d v) ∧ ∀ H (Q : VK), Q v H → r (.int i) (.int j) H Q) : Pr2 g f r := by
  intro Ap Av m H hp ds vs d Q hst hsub hl hc r e q
  obtain ⟨i, j, v, rfl, rv, hh⟩ := hf hp ds d e
  obtain ⟨v1, v2, rfl, r1, r2⟩ := RepsP.two r
  cases r1
  cases r2
  exact ⟨_, _, rfl, hh H Q (q v H (fun _ _ h => h) (rv _ _ _ _ _))⟩
theorem two_int {α : Type} {f : Int → Int → Option α} {g' : List D → Option α} (ds : List D) (d : α) (e : (match ds with | [.int i, .int j] => f i j | _ => none) = some d) : ∃ i j, ds = [.int i, .int j] ∧ f i j = some d := by
  split at e
  · exact ⟨_, _, rfl, e⟩
  · cases e
theorem pr_sub : Pr2 g pSub (rI0 fun i j => .int (i - j)) := pr_ii fun hp ds d e => by
  unfold pSub at e
  split at e
  · cases e
    exact ⟨_, _, _, rfl, fun _ _ _ _ _ => rfl, fun H Q q => ⟨_, _, rfl, rfl, q⟩⟩
  · cases e
theorem pr_div : Pr2 g pDiv (rI CDivW fun i j => .int (i / j)) := pr_ii fun hp ds d e => by
  unfold pDiv at e
  split at e
  · split at e
    · rename_i h1
      split at e
      · rename_i h2
        cases e
        exact ⟨_, _, _, rfl, fun _ _ _ _ _ => rfl, fun H Q q => ⟨_, _, rfl, rfl, ⟨h1, of_decide_eq_true h2⟩, q⟩⟩
      · cases e
    · cases e
  · cases e
theorem pr_mod : Pr2 g pMod (rI (fun _ j => 0 < j) fun i j => .int (i % j)) := pr_ii fun hp ds d e => by
  unfold pMod at e
  split at e
  · split at e
    · rename_i h1
      cases e
      exact ⟨_, _, _, rfl, fun _ _ _ _ _ => rfl, fun H Q q => ⟨_, _, rfl, rfl, h1, q⟩⟩
    · cases e
  · cases e
theorem powOk_c {i j : Int} (h : powOk i j = true) : CPow i j := by
  unfold powOk at h
  simp only [Bool.and_eq_true, decide_eq_true_eq] at h
  exact ⟨h.1.1, h.1.2, h.2⟩
theorem pr_pow : Pr2 g pPow (rI CPow fun i j => .int (i ^ j.toNat)) := pr_ii fun hp ds d e => by
  unfold pPow at e
  split at e
  · split at e
    · rename_i h1
      cases e
      exact ⟨_, _, _, rfl, fun _ _ _ _ _ => rfl, fun H Q q => ⟨_, _, rfl, rfl, powOk_c h1, q⟩⟩
    · cases e
  · cases e
theorem pr_shl : Pr2 g pShl (rI CPow fun i j => .int (i * 2 ^ j.toNat)) := pr_ii fun hp ds d e => by
  unfold pShl at e
  split at e
  · split at e
    · rename_i h1
      cases e
      exact ⟨_, _, _, rfl, fun _ _ _ _ _ => rfl, fun H Q q => ⟨_, _, rfl, rfl, powOk_c h1, q⟩⟩
    · cases e
  · cases e
theorem pr_shr : Pr2 g pShr (rI (fun _ j => 0 ≤ j) fun i j => .int (i / 2 ^ j.toNat)) := pr_ii fun hp ds d e => by
  unfold pShr at e
  split at e
  · split at e
    · rename_i h1
      cases e
      exact ⟨_, _, _, rfl, fun _ _ _ _ _ => rfl, fun H Q q => ⟨_, _, rfl, rfl, h1, q⟩⟩
    · cases e
  · cases e
theorem pr_and : Pr2 g pAnd (rI0 fun i j => .int (Builtin.bitAnd i j)) := pr_ii fun hp ds d e => by
  unfold pAnd at e
  split at e
  · cases e
    exact ⟨_, _, _, rfl, fun _ _ _ _ _ => rfl, fun H Q q => ⟨_, _, rfl, rfl, q⟩⟩
  · cases e
theorem pr_or : Pr2 g pOr (rI0 fun i j => .int (Builtin.bitOr i j)) := pr_ii fun hp ds d e => by
  unfold pOr at e
  split at e
  · cases e
    exact ⟨_, _, _, rfl, fun _ _ _ _ _ => rfl, fun H Q q => ⟨_, _, rfl, rfl, q⟩⟩
  · cases e
theorem pr_lt : Pr2 g pLt (rI0 fun i j => .bl (decide (i < j))) := pr_ii fun hp ds d e => by
  unfold pLt at e
  split at e
  · cases e
    exact ⟨_, _, _, rfl, fun _ _ _ _ _ => rfl, fun H Q q => ⟨_, _, rfl, rfl, q⟩⟩
  · cases e
theorem pr_le : Pr2 g pLe (rI0 fun i j => .bl (decide (i ≤ j))) := pr_ii fun hp ds d e => by
  unfold pLe at e
  split at e
  · cases e
    exact ⟨_, _, _, rfl, fun _ _ _ _ _ => rfl, fun H Q q => ⟨_, _, rfl, rfl, q⟩⟩
  · cases e
theorem pr_gt : Pr2 g pGt (rI0 fun i j => .bl (decide (j < i))) := pr_ii fun hp ds d e => by
  unfold pGt at e
  split at e
  · cases e
    exact ⟨_, _, _, rfl, fun _ _ _ _ _ => rfl, fun H Q q => ⟨_, _, rfl, rfl, q⟩⟩
  · cases e
theorem pr_ge : Pr2 g pGe (rI0 fun i j => .bl (decide (j ≤ i))) := pr_ii fun hp ds d e => by
  unfold pGe at e
  split at e
  · cases e
    exact ⟨_, _, _, rfl, fun _ _ _ _ _ => rfl, fun H Q q => ⟨_, _, rfl, rfl, q⟩⟩
  · cases e
theorem pr_neg : Pr1 g pNeg (rU fun i => .int (-i)) := by
  intro Ap Av m H hp ds vs d Q hst hsub hl hc r e q
  unfold pNeg at e
  split at e
  · cases e
    obtain ⟨v1, rfl, r1⟩ := RepsP.one r
    cases r1
    exact ⟨_, rfl, _, rfl, q _ H (fun _ _ h => h) rfl⟩
  · cases e

/-! ### data -/
mutual
def pd : D → PyData
  | .non => .none
  | .bl b => .bool b
  | .int i => .int i
  | .str x => .str x
  | .tup xs => .tuple (pds xs)
  | .lst xs => .list (pds xs)
  | _ => .none
def pds : List D → List PyData
  | [] => []
  | d :: ds => pd d :: pds ds
end
mutual
theorem eqv_pd : ∀ (n k : Nat) (d e : D), flat n d = true → flat k e = true → PyData.eqv (pd d) (pd e) = eqb d e
  | n, k, .non, e, h1, h2 => by cases e <;> first | rfl | (cases h2; done)
  | n, k, .bl b, e, h1, h2 => by cases e <;> first | rfl | (cases h2; done)
  | n, k, .int i, e, h1, h2 => by cases e <;> first | rfl | (cases h2; done)
  | n, k, .str x, e, h1, h2 => by cases e <;> first | rfl | (cases h2; done)
  | n, k, .tup xs, e, h1, h2 => by
    cases n with
    | zero => cases h1
    | succ n =>
      cases e with
      | tup ys =>
        cases k with
        | zero => cases h2
        | succ k => exact eqv_pds n k xs ys h1 h2
      | lst ys => rfl
      | non => rfl
      | bl _ => rfl
      | int _ => rfl
      | str _ => rfl
      | dct a b c => cases k <;> cases h2
      | ref a => cases k <;> cases h2
      | ins a b => cases k <;> cases h2
      | scr a => cases k <;> cases h2
  | n, k, .lst xs, e, h1, h2 => by
    cases n with
    | zero => cases h1
    | succ n =>
      cases e with
      | lst ys =>
        cases k with
        | zero => cases h2
        | succ k => exact eqv_pds n k xs ys h1 h2
      | tup ys => rfl
      | non => rfl
      | bl _ => rfl
      | int _ => rfl
      | str _ => rfl
      | dct a b c => cases k <;> cases h2
      | ref a => cases k <;> cases h2
      | ins a b => cases k <;> cases h2
      | scr a => cases k <;> cases h2
  | n, k, .dct a b c, e, h1, h2 => by cases n <;> cases h1
  | n, k, .ref a, e, h1, h2 => by cases n <;> cases h1
  | n, k, .ins a b, e, h1, h2 => by cases n <;> cases h1
  | n, k, .scr a, e, h1, h2 => by cases n <;> cases h1
theorem eqv_pds : ∀ (n k : Nat) (ds es : List D), flats n ds = true → flats k es = true → PyData.eqvAll (pds ds) (pds es) = eqbs ds es
  | n, k, [], [], _, _ => rfl
  | n, k, [], _ :: _, _, _ => rfl
  | n, k, _ :: _, [], _, _ => rfl
  | n, k, d :: ds, e :: es, h1, h2 => by
    have h1 : (flat n d && flats n ds) = true := h1
    have h2 : (flat k e && flats k es) = true := h2
    rw [Bool.and_eq_true] at h1 h2
    show (PyData.eqv (pd d) (pd e) && PyData.eqvAll (pds ds) (pds es)) = (eqb d e && eqbs ds es)
    rw [eqv_pd n k d e h1.1 h2.1, eqv_pds n k ds es h1.2 h2.2]
end
section
variable {K : PySem.W.Frag} {cl : Nat → CI} {Ap Av : Addr → Prop} {m : List Addr} {H : Hp}
mutual
theorem dp_of : ∀ (n : Nat) (d : D) (v : V), flat n d = true → Rep K cl Av m H d v → Dp K H v (pd d) ∧ (pd d).canLay0 = true ∧ (pd d).depth ≤ n
  | n, .non, v, h, r => by cases r; exact ⟨.non, rfl, Nat.zero_le _⟩
  | n, .bl b, v, h, r => by cases r; exact ⟨.bl b, rfl, Nat.zero_le _⟩
  | n, .int b, v, h, r => by cases r; exact ⟨.int b, rfl, Nat.zero_le _⟩
  | n, .str x, v, h, r => by
    obtain ⟨rfl, h1, _⟩ := r
    exact ⟨.str x, h1, Nat.zero_le _⟩
  | 0, .tup xs, v, h, r => by cases h
  | 0, .lst xs, v, h, r => by cases h
  | n + 1, .tup xs, v, h, r => by
    obtain ⟨a, vs, rfl, q, rs⟩ := r
    obtain ⟨h1, h2, h3⟩ := dps_of n xs vs h rs
    exact ⟨.tup (SqT.of q) h1, h2, Nat.succ_le_succ h3⟩
  | n + 1, .lst xs, v, h, r => by
    obtain ⟨a, vs, rfl, q, _, rs⟩ := r
    obtain ⟨h1, h2, h3⟩ := dps_of n xs vs h rs
    exact ⟨.lst (SqL.of q) h1, h2, Nat.succ_le_succ h3⟩
  | n, .dct _ _ _, v, h, r => by cases n <;> cases h
  | n, .ref _, v, h, r => by cases n <;> cases h
  | n, .ins _ _, v, h, r => by cases n <;> cases h
  | n, .scr _, v, h, r => by cases n <;> cases h
theorem dps_of : ∀ (n : Nat) (ds : List D) (vs : List V), flats n ds = true → Reps K cl Av m H ds vs → DpAll K H vs (pds ds) ∧ PyData.canLayAll0 (pds ds) = true ∧ PyData.depthAll (pds ds) ≤ n
  | n, [], vs, h, r => by
    have e : vs = [] := r
    subst e
    exact ⟨.nil, rfl, Nat.zero_le _⟩
  | n, d :: ds, vs, h, r => by
    obtain ⟨v, t, rfl, rv, rt⟩ := r
    have h : (flat n d && flats n ds) = true := h
    rw [Bool.and_eq_true] at h
    obtain ⟨a1, a2, a3⟩ := dp_of n d v h.1 rv
    obtain ⟨b1, b2, b3⟩ := dps_of n ds t h.2 rt
    refine ⟨.cons a1 b1, ?_, Nat.max_le.mpr ⟨a3, b3⟩⟩
    show ((pd d).canLay0 && PyData.canLayAll0 (pds ds)) = true
    rw [a2, b2]
    rfl
end
theorem dpP_of {d : D} {v : V} (h : flat 50 d = true) (r : RepP K cl Ap Av m H d v) : Dp K H v (pd d) ∧ SeqAt.shaped (pd d) = true := by
  have key : Dp K H v (pd d) ∧ (pd d).canLay0 = true ∧ (pd d).depth ≤ 50 := by
    cases d with
    | lst xs =>
      obtain ⟨a, vs, rfl, q, _, rs⟩ := r
      obtain ⟨h1, h2, h3⟩ := dps_of 49 xs vs h rs
      exact ⟨.lst (SqL.of q) h1, h2, Nat.succ_le_succ h3⟩
    | dct _ _ _ => cases h
    | _ => exact dp_of (cl := cl) (Av := Av) (m := m) 50 _ v h r
  refine ⟨key.1, ?_⟩
  unfold SeqAt.shaped
  rw [key.2.1, Bool.true_and, decide_eq_true_eq]
  exact Nat.le_trans key.2.2 (by decide)
theorem any_pd {x : D} (hx : flat 50 x = true) : ∀ {ys : List D}, flats 50 ys = true → (pds ys).any (fun z => PyData.eqv z (pd x)) = ys.any fun y => eqb y x
  | [], _ => rfl
  | y :: ys, h => by
    have h : (flat 50 y && flats 50 ys) = true := h
    rw [Bool.and_eq_true] at h
    show (PyData.eqv (pd y) (pd x) || (pds ys).any fun z => PyData.eqv z (pd x)) = (eqb y x || ys.any fun y => eqb y x)
    rw [eqv_pd 50 50 y x h.1 hx, any_pd hx h.2]
end
theorem pr_eq (hK : X.K = g.K) : Pr2 g pEq (rEqD X.K) := by
  intro Ap Av m H hp ds vs d Q hst hsub hl hc r e q
  unfold pEq at e
  split at e
  · split at e
    · rename_i x y h
      cases e
      rw [Bool.and_eq_true] at h
      obtain ⟨v1, v2, rfl, r1, r2⟩ := RepsP.two r
      obtain ⟨a1, a2⟩ := dpP_of h.1 r1
      obtain ⟨b1, b2⟩ := dpP_of h.2 r2
      rw [hK]
      refine ⟨_, _, rfl, _, _, a1, b1, a2, b2, q _ H (fun _ _ h => h) ?_⟩
      rw [eqv_pd 50 50 x y h.1 h.2]
      exact rfl
    · cases e
  · cases e
theorem pr_ne (hK : X.K = g.K) : Pr2 g pNe (rNeD X.K) := by
  intro Ap Av m H hp ds vs d Q hst hsub hl hc r e q
  unfold pNe at e
  split at e
  · split at e
    · rename_i x y h
      cases e
      rw [Bool.and_eq_true] at h
      obtain ⟨v1, v2, rfl, r1, r2⟩ := RepsP.two r
      obtain ⟨a1, a2⟩ := dpP_of h.1 r1
      obtain ⟨b1, b2⟩ := dpP_of h.2 r2
      rw [hK]
      refine ⟨_, _, rfl, _, _, a1, b1, a2, b2, q _ H (fun _ _ h => h) ?_⟩
      rw [eqv_pd 50 50 x y h.1 h.2]
      exact rfl
    · cases e
  · cases e
end
end G
end
section
set_option Elab.async false
set_option linter.all false
set_option maxHeartbeats 2000000
/-! GX2: the primitives' rules: +, *, in, is, [], len and the like. -/
namespace G
open PySem PySem.Spec PyProof.Rows L2
section
variable {g : Gx} {X : Cx}
def rStr : R2 := fun x y H Q => ∃ i j, x = .str i ∧ y = .str j ∧ i.length + j.length ≤ sizeLine ∧ Q (.str (i ++ j)) H
def rAddD (K : PySem.W.Frag) : R2 := fun x y H Q => (rI0 fun i j => .int (i + j)) x y H Q ∨ rCat x y H Q ∨ rCatA K x y H Q ∨ rStr x y H Q
theorem op_addD : OpR X (binaryOp .Add) (rAddD X.K) := op_add.or (op_cat.or (op_catA.or op_add_str))
theorem strOk_app {x y : Str} (h1 : PyData.strOk x = true) (h2 : PyData.strOk y = true) : PyData.strOk (x ++ y) = true := by
  unfold PyData.strOk at *
  have e : (x ++ y).cps = x.cps ++ y.cps := rfl
  rw [e, Array.all_append, h1, h2]
  rfl
theorem str_app_len (x y : Str) : (x ++ y).length = x.length + y.length := by
  show (x.cps ++ y.cps).size = _
  rw [Array.size_append]
  rfl
theorem pr_add (hK : X.K = g.K) : Pr2 g pAdd (rAddD X.K) := by
  intro Ap Av m H hp ds vs d Q hst hsub hl hc r e q
  have navail : ∀ {p : Addr}, H p = none → ¬ Av p := fun h n => by
    obtain ⟨u, w⟩ := hst _ n
    rw [h] at w; cases w
  rw [hK]
  unfold pAdd at e
  split at e
  · cases e
    obtain ⟨v1, v2, rfl, r1, r2⟩ := RepsP.two r
    cases r1
    cases r2
    exact ⟨_, _, rfl, .inl ⟨_, _, rfl, rfl, q _ H (fun _ _ h => h) rfl⟩⟩
  · rename_i xs ys
    split at e
    · rename_i hz
      cases e
      obtain ⟨v1, v2, rfl, r1, r2⟩ := RepsP.two r
      obtain ⟨a, vs, rfl, ha, _, ra⟩ := r1
      obtain ⟨b, ws, rfl, hb, _, rb⟩ := r2
      refine ⟨_, _, rfl, .inr (.inl ⟨a, b, vs, ws, rfl, rfl, ha, hb, by rw [ra.length, rb.length]; exact big_line hz, fun p hp => q _ _ (same_new hp) ⟨p, _, rfl, upd_same, navail hp, ?_⟩⟩)⟩
      exact Reps.mono (same_gt (same_new hp)) _ _ (Reps.append ra rb)
    · cases e
  · rename_i xs ys
    split at e
    · rename_i hz
      cases e
      obtain ⟨v1, v2, rfl, r1, r2⟩ := RepsP.two r
      obtain ⟨a, vs, rfl, ha, ra⟩ := r1
      obtain ⟨b, ws, rfl, hb, rb⟩ := r2
      refine ⟨_, _, rfl, .inr (.inr (.inl ⟨a, b, vs, ws, rfl, rfl, SqT.of ha, SqT.of hb, by rw [ra.length, rb.length]; exact big_line hz, fun h0 => ?_, fun h0 h1 => ?_, fun h0 h1 p hp => q _ _ (same_new hp) ⟨p, _, rfl, upd_same, ?_⟩⟩))⟩
      · subst h0
        have ex : xs = [] := by
          have l := ra.length
          cases xs with
          | nil => rfl
          | cons _ _ => simp at l
        subst ex
        exact q _ H (fun _ _ h => h) ⟨b, ws, rfl, hb, rb⟩
      · subst h1
        have ey : ys = [] := by
          have l := rb.length
          cases ys with
          | nil => rfl
          | cons _ _ => simp at l
        subst ey
        rw [List.append_nil] at q
        exact q _ H (fun _ _ h => h) ⟨a, vs, rfl, ha, ra⟩
      · exact Reps.mono (same_gt (same_new hp)) _ _ (Reps.append ra rb)
    · cases e
  · rename_i x y
    split at e
    · rename_i hz
      cases e
      obtain ⟨v1, v2, rfl, r1, r2⟩ := RepsP.two r
      obtain ⟨rfl, a1, _⟩ := r1
      obtain ⟨rfl, b1, _⟩ := r2
      refine ⟨_, _, rfl, .inr (.inr (.inr ⟨x, y, rfl, rfl, big_line hz, q _ H (fun _ _ h => h) ⟨rfl, strOk_app a1 b1, ?_⟩⟩))⟩
      rw [str_app_len]
      exact hz
    · cases e
  · cases e
def rMulD : R2 := fun x y H Q => rI CMulW (fun i j => .int (i * j)) x y H Q ∨ rRep x y H Q
theorem op_mulD : OpR X (binaryOp .Mult) rMulD := op_mulW.or op_rep
theorem pr_mul : Pr2 g pMul rMulD := by
  intro Ap Av m H hp ds vs d Q hst hsub hl hc r e q
  have navail : ∀ {p : Addr}, H p = none → ¬ Av p := fun h n => by
    obtain ⟨u, w⟩ := hst _ n
    rw [h] at w; cases w
  unfold pMul at e
  split at e
  · split at e
    · rename_i hm
      cases e
      obtain ⟨v1, v2, rfl, r1, r2⟩ := RepsP.two r
      cases r1
      cases r2
      exact ⟨_, _, rfl, .inl ⟨_, _, rfl, rfl, (show CMulW _ _ from of_decide_eq_true (p := _ < _) hm), q _ H (fun _ _ h => h) rfl⟩⟩
    · cases e
  · rename_i xs k
    split at e
    · rename_i hz
      cases e
      simp only [Bool.and_eq_true, decide_eq_true_eq] at hz
      obtain ⟨v1, v2, rfl, r1, r2⟩ := RepsP.two r
      obtain ⟨a, vs, rfl, ha, _, ra⟩ := r1
      cases r2
      refine ⟨_, _, rfl, .inr ⟨a, k, vs, rfl, rfl, ha, by omega, by omega, by rw [ra.length]; exact big_line hz.2, fun p hp => q _ _ (same_new hp) ⟨p, _, rfl, upd_same, navail hp, ?_⟩⟩⟩
      exact Reps.mono (same_gt (same_new hp)) _ _ (Reps.rep _ ra)
    · cases e
  · cases e
theorem isN_v {K : PySem.W.Frag} {cl : Nat → CI} {Ap Av : Addr → Prop} {m : List Addr} {H : Hp} {x : D} {v : V} (r : RepP K cl Ap Av m H x v) : decide (v = .non) = isN x := by
  cases x with
  | non => cases r; rfl
  | bl b => cases r; rfl
  | int b => cases r; rfl
  | str x =>
    obtain ⟨rfl, _⟩ := r
    rfl
  | tup xs => obtain ⟨a, vs, rfl, _⟩ := r; rfl
  | lst xs => obtain ⟨a, vs, rfl, _⟩ := r; rfl
  | dct a b c => obtain ⟨a, vs, u, rfl, _⟩ := r; rfl
  | ref k => obtain ⟨a, _, rfl⟩ := r; rfl
  | ins c fs => obtain ⟨a, vs, u, rfl, _⟩ := r; rfl
  | scr ns => obtain ⟨a, rfl, _⟩ := r; rfl
def rIsD : R2 := fun x y H Q => (y = .non ∧ Q (.bl (decide (x = .non))) H) ∨ rIsB x y H Q
def rIsNotD : R2 := fun x y H Q => (y = .non ∧ Q (.bl (!decide (x = .non))) H) ∨ rNotB x y H Q
theorem op_isD : OpR X (compareOp .Is) rIsD := op_isN.or op_isBl
theorem op_isNotD : OpR X (compareOp .IsNot) rIsNotD := op_notN.or op_notBl
theorem pr_is : Pr2 g pIs rIsD := by
  intro Ap Av m H hp ds vs d Q hst hsub hl hc r e q
  unfold pIs at e
  split at e
  · cases e
    obtain ⟨v1, v2, rfl, r1, r2⟩ := RepsP.two r
    cases r2
    refine ⟨_, _, rfl, .inl ⟨rfl, q _ H (fun _ _ h => h) ?_⟩⟩
    rw [isN_v r1]
    exact rfl
  · cases e
    obtain ⟨v1, v2, rfl, r1, r2⟩ := RepsP.two r
    cases r1
    cases r2
    exact ⟨_, _, rfl, .inr ⟨_, _, rfl, rfl, q _ H (fun _ _ h => h) rfl⟩⟩
  · cases e
theorem pr_isnot : Pr2 g pIsNot rIsNotD := by
  intro Ap Av m H hp ds vs d Q hst hsub hl hc r e q
  unfold pIsNot at e
  split at e
  · cases e
    obtain ⟨v1, v2, rfl, r1, r2⟩ := RepsP.two r
    cases r2
    refine ⟨_, _, rfl, .inl ⟨rfl, q _ H (fun _ _ h => h) ?_⟩⟩
    rw [isN_v r1]
    exact rfl
  · cases e
    obtain ⟨v1, v2, rfl, r1, r2⟩ := RepsP.two r
    cases r1
    cases r2
    exact ⟨_, _, rfl, .inr ⟨_, _, rfl, rfl, q _ H (fun _ _ h => h) rfl⟩⟩
  · cases e
/-- in -/
theorem sc_flat {x : D} (h : isSc x = true) : flat 50 x = true := by
  cases x <;> first | rfl | (cases h; done)
section
variable {K : PySem.W.Frag} {cl : Nat → CI} {Ap Av : Addr → Prop} {m : List Addr} {H : Hp}
theorem sc_v {x : D} {v : V} (h : isSc x = true) (r : RepP K cl Ap Av m H x v) : L2.flatV v = true ∧ Rep K cl Av m H x v := by
  cases x with
  | non => cases r; exact ⟨rfl, rfl⟩
  | bl b => cases r; exact ⟨rfl, rfl⟩
  | int b => cases r; exact ⟨rfl, rfl⟩
  | str x =>
    obtain ⟨rfl, h1⟩ := r
    exact ⟨rfl, rfl, h1⟩
  | _ => cases h
theorem sc_eq {x y : D} {v w : V} (hx : isSc x = true) (hy : isSc y = true) (rx : Rep K cl Av m H x v) (ry : Rep K cl Av m H y w) : eqV w v = eqb y x := by
  cases x with
  | non => cases rx; cases y with
    | non => cases ry; rfl
    | bl b => cases ry; rfl
    | int b => cases ry; rfl
    | str x => obtain ⟨rfl, h1⟩ := ry; rfl
    | _ => cases hy
  | bl b => cases rx; cases y with
    | non => cases ry; rfl
    | bl b => cases ry; rfl
    | int b => cases ry; rfl
    | str x => obtain ⟨rfl, h1⟩ := ry; rfl
    | _ => cases hy
  | int b => cases rx; cases y with
    | non => cases ry; rfl
    | bl b => cases ry; rfl
    | int b => cases ry; rfl
    | str x => obtain ⟨rfl, h1⟩ := ry; rfl
    | _ => cases hy
  | str x => obtain ⟨rfl, h1⟩ := rx; cases y with
    | non => cases ry; rfl
    | bl b => cases ry; rfl
    | int b => cases ry; rfl
    | str x => obtain ⟨rfl, h1⟩ := ry; rfl
    | _ => cases hy
  | _ => cases hx
theorem sc_all {x : D} {v : V} (hx : isSc x = true) (rx : Rep K cl Av m H x v) : ∀ {ys : List D} {ws : List V}, ys.all isSc = true → Reps K cl Av m H ys ws → ws.all L2.flatV = true ∧ inV v ws = ys.any fun y => eqb y x
  | [], ws, _, r => by
    have e : ws = [] := r
    subst e
    exact ⟨rfl, rfl⟩
  | y :: ys, ws, h, r => by
    obtain ⟨w, t, rfl, rw_, rt⟩ := r
    rw [List.all_cons, Bool.and_eq_true] at h
    obtain ⟨h1, h2⟩ := sc_all hx rx h.2 rt
    have f := (sc_v (Ap := Av) h.1 (Rep.peek (fun a h => h) rw_)).1
    refine ⟨by rw [List.all_cons, f, h1]; rfl, ?_⟩
    show (eqV w v || inV v t) = _
    rw [sc_eq hx h.1 rx rw_, h2]
    rfl
end
def rInG (K : PySem.W.Frag) : R2 := fun x y H Q => rInD K x y H Q ∨ rIn K false x y H Q
def rNotInG (K : PySem.W.Frag) : R2 := fun x y H Q => rNotInD K x y H Q ∨ rIn K true x y H Q
theorem op_inG (hu : X.A.units + 65 < cLine) : OpR X (compareOp .In) (rInG X.K) := (op_inD hu).or op_in_seq
theorem op_notInG (hu : X.A.units + 65 < cLine) : OpR X (compareOp .NotIn) (rNotInG X.K) := (op_notInD hu).or op_notIn_seq
theorem in_lst {K : PySem.W.Frag} {cl : Nat → CI} {Ap Av : Addr → Prop} {m : List Addr} {H : Hp} {ys : List D} {v : V} (h : flats 50 ys = true) (r : RepP K cl Ap Av m H (.lst ys) v) : Dp K H v (.list (pds ys)) ∧ SeqAt.shaped (.list (pds ys)) = true := by
  obtain ⟨a, vs, rfl, q, _, rs⟩ := r
  obtain ⟨h1, h2, h3⟩ := dps_of 50 ys vs h rs
  refine ⟨.lst (SqL.of q) h1, ?_⟩
  unfold SeqAt.shaped
  have e1 : (PyData.list (pds ys)).canLay0 = true := h2
  have e2 : (PyData.list (pds ys)).depth ≤ 64 := Nat.le_trans (Nat.succ_le_succ h3) (by decide)
  rw [e1, Bool.true_and, decide_eq_true_eq]
  exact e2
theorem pr_in (hK : X.K = g.K) : Pr2 g pIn (rInG X.K) := by
  intro Ap Av m H hp ds vs d Q hst hsub hl hc r e q
  rw [hK]
  unfold pIn at e
  split at e
  · split at e
    · rename_i x ys h
      cases e
      rw [Bool.and_eq_true] at h
      obtain ⟨v1, v2, rfl, r1, r2⟩ := RepsP.two r
      obtain ⟨a1, a2⟩ := dpP_of h.1 r1
      obtain ⟨b1, b2⟩ := in_lst h.2 r2
      refine ⟨_, _, rfl, .inl ⟨_, _, a1, b1, a2, b2, q _ H (fun _ _ h => h) ?_⟩⟩
      rw [any_pd h.1 h.2]
      exact rfl
    · cases e
  · split at e
    · rename_i x ys h
      cases e
      rw [Bool.and_eq_true] at h
      obtain ⟨v1, v2, rfl, r1, r2⟩ := RepsP.two r
      obtain ⟨a1, a2⟩ := sc_v h.1 r1
      obtain ⟨b, ws, rfl, hb, rb⟩ := r2
      obtain ⟨c1, c2⟩ := sc_all h.1 a2 h.2 rb
      refine ⟨_, _, rfl, .inr ⟨b, ws, rfl, .inr (SqT.of hb), a1, c1, q _ H (fun _ _ h => h) ?_⟩⟩
      simp only [Bool.false_eq_true, if_false]
      rw [c2]
      exact rfl
    · cases e
  · cases e
theorem pr_notin (hK : X.K = g.K) : Pr2 g pNotIn (rNotInG X.K) := by
  intro Ap Av m H hp ds vs d Q hst hsub hl hc r e q
  rw [hK]
  unfold pNotIn at e
  split at e
  · split at e
    · rename_i x ys h
      cases e
      rw [Bool.and_eq_true] at h
      obtain ⟨v1, v2, rfl, r1, r2⟩ := RepsP.two r
      obtain ⟨a1, a2⟩ := dpP_of h.1 r1
      obtain ⟨b1, b2⟩ := in_lst h.2 r2
      refine ⟨_, _, rfl, .inl ⟨_, _, a1, b1, a2, b2, q _ H (fun _ _ h => h) ?_⟩⟩
      rw [any_pd h.1 h.2]
      exact rfl
    · cases e
  · split at e
    · rename_i x ys h
      cases e
      rw [Bool.and_eq_true] at h
      obtain ⟨v1, v2, rfl, r1, r2⟩ := RepsP.two r
      obtain ⟨a1, a2⟩ := sc_v h.1 r1
      obtain ⟨b, ws, rfl, hb, rb⟩ := r2
      obtain ⟨c1, c2⟩ := sc_all h.1 a2 h.2 rb
      refine ⟨_, _, rfl, .inr ⟨b, ws, rfl, .inr (SqT.of hb), a1, c1, q _ H (fun _ _ h => h) ?_⟩⟩
      simp only [if_true]
      rw [c2]
      exact rfl
    · cases e
  · cases e
end
end G
end
section
set_option Elab.async false
set_option linter.all false
set_option maxHeartbeats 2000000
/-! GX3: the primitives' rules: indices, slices, built-in functions. -/
namespace G
open PySem PySem.Spec PyProof.Rows L2
section
variable {K : PySem.W.Frag} {cl : Nat → CI} {Ap Av : Addr → Prop} {m : List Addr} {H : Hp}
/-- a list or tuple, as it is seen -/
theorem lst_at {xs : List D} {v : V} (r : RepP K cl Ap Av m H (.lst xs) v) : ∃ a vs, v = .ref a ∧ H a = some (.lst vs) ∧ Reps K cl Av m H xs vs := by
  obtain ⟨a, vs, e, q, _, r⟩ := r
  exact ⟨a, vs, e, q, r⟩
theorem view_at {hp : List D} {d : D} {v : V} (hc : ∀ (k : Nat) (a : Addr) (c : D), m[k]? = some a → hp[k]? = some c → Top K cl Av m H a c) (hl : m.length = hp.length) (r : RepP K cl Ap Av m H d v) : (view hp d = d ∧ ∀ k, d ≠ .ref k) ∨ ∃ a, v = .ref a ∧ Top K cl Av m H a (view hp d) := by
  cases d with
  | ref k =>
    obtain ⟨a, q, rfl⟩ := r
    have hk : k < hp.length := by rw [← hl]; exact (List.getElem?_eq_some_iff.mp q).1
    have q2 : hp[k]? = some (hp.getD k .non) := by rw [List.getD_eq_getElem?_getD, List.getElem?_eq_getElem hk]; rfl
    exact .inr ⟨a, rfl, hc k a _ q q2⟩
  | _ => exact .inl ⟨rfl, fun _ h => nomatch h⟩
/-- seen through a cell -/
theorem seen {hp : List D} {d : D} {v : V} (hc : ∀ (k : Nat) (a : Addr) (c : D), m[k]? = some a → hp[k]? = some c → Top K cl Av m H a c) (hl : m.length = hp.length) (r : RepP K cl Ap Av m H d v) : (∃ Ap', RepP K cl Ap' Av m H (view hp d) v ∧ ∀ k, view hp d ≠ .ref k) ∨ ∃ c fs, view hp d = .ins c fs := by
  rcases view_at hc hl r with ⟨e, n⟩ | ⟨a, rfl, t⟩
  · exact .inl ⟨Ap, by rw [e]; exact r, by rw [e]; exact n⟩
  · by_cases hi : ∃ c fs, view hp d = .ins c fs
    · exact .inr hi
    · refine .inl ⟨fun _ => False, t.peek (fun h => h) (fun c fs e => hi ⟨c, fs, e⟩), fun k e => ?_⟩
      rw [e] at t
      exact t
theorem ixOf_atI {α : Type} {xs : List α} {n : Nat} {i : Int} (h : ixOf xs.length i = some n) : atI xs i = xs[n]? := by
  have e : ixN xs.length i = some n := h
  unfold atI
  rw [e]
  rfl
theorem reps_ints : ∀ {ns : List Int} {vs : List V}, Reps K cl Av m H (ns.map D.int) vs → vs = ns.map V.int
  | [], vs, h => h
  | n :: ns, vs, h => by
    obtain ⟨v, t, rfl, q, r⟩ := h
    cases q
    rw [reps_ints r]
    rfl
theorem ints_reps : ∀ (ns : List Int), Reps K cl Av m H (ns.map D.int) (ns.map V.int)
  | [] => rfl
  | n :: ns => ⟨_, _, rfl, rfl, ints_reps ns⟩
end
section
variable {g : Gx} {X : Cx}
theorem strOk_one {x : Str} {n c : Nat} (h : PyData.strOk x = true) (e : x.cps.toList[n]? = some c) : PyData.strOk ⟨#[c]⟩ = true := by
  unfold PyData.strOk at *
  rw [Array.all_eq_true'] at h
  have hm : c ∈ x.cps := by
    have := List.mem_of_getElem? e
    simpa using this
  have := h c hm
  simpa using this
theorem pr_ix (hK : X.K = g.K) : Pr2 g pIx (rIx X.K) := by
  intro Ap Av m H hp ds vs d Q hst hsub hl hc r e q
  rw [hK]
  unfold pIx at e
  split at e
  · rename_i x i
    obtain ⟨v1, v2, rfl, r1, r2⟩ := RepsP.two r
    cases r2
    rcases seen hc hl r1 with ⟨Ap', r1, nr⟩ | ⟨c, fs, ei⟩
    case inr => rw [ei] at e; cases e
    generalize view hp x = y at e r1
    unfold ixD at e
    split at e
    · rename_i xs
      split at e
      · rename_i n en
        obtain ⟨a, vs, rfl, ha, rs⟩ := lst_at r1
        obtain ⟨w, hw, rw_⟩ := rs.get e
        have en' : ixOf vs.length i = some n := by rw [rs.length]; exact en
        exact ⟨_, _, rfl, .inl ⟨a, vs, i, w, rfl, rfl, SqL.of ha, by rw [ixOf_atI en']; exact hw, q w H (fun _ _ h => h) rw_⟩⟩
      · cases e
    · rename_i xs
      split at e
      · rename_i n en
        obtain ⟨a, vs, rfl, ha, rs⟩ := r1
        obtain ⟨w, hw, rw_⟩ := rs.get e
        have en' : ixOf vs.length i = some n := by rw [rs.length]; exact en
        exact ⟨_, _, rfl, .inr (.inl ⟨a, vs, i, w, rfl, rfl, SqT.of ha, by rw [ixOf_atI en']; exact hw, q w H (fun _ _ h => h) rw_⟩)⟩
      · cases e
    · rename_i ns
      split at e
      · rename_i n en
        obtain ⟨a, rfl, ha⟩ := r1
        obtain ⟨k, hk, rfl⟩ := Option.map_eq_some_iff.mp e
        have en' : ixOf (ns.map V.int).length i = some n := by rw [List.length_map]; exact en
        refine ⟨_, _, rfl, .inl ⟨a, ns.map V.int, i, .int k, rfl, rfl, ha.seq, ?_, q (.int k) H (fun _ _ h => h) rfl⟩⟩
        rw [ixOf_atI en', List.getElem?_map, hk]
        rfl
      · cases e
    · rename_i z
      split at e
      · rename_i n en
        obtain ⟨rfl, ok, hz⟩ := r1
        obtain ⟨c, hk, rfl⟩ := Option.map_eq_some_iff.mp e
        refine ⟨_, _, rfl, .inr (.inr ⟨z, i, c, rfl, rfl, big_line hz, by rw [ixOf_atI en]; exact hk, q _ H (fun _ _ h => h) ⟨rfl, strOk_one ok hk, ?_⟩⟩)⟩
        show 1 ≤ big
        decide
      · cases e
    · cases e
  · cases e
theorem pr_len (hK : X.K = g.K) : PrR g pLen (fun xs H Q => ∃ x n, xs = [x] ∧ LenV X.K x H n ∧ Q (.int n) H) := by
  intro Ap Av m H hp ds vs d Q hst hsub hl hc r e q
  rw [hK]
  unfold pLen at e
  split at e
  · rename_i x
    obtain ⟨v1, rfl, r1⟩ := RepsP.one r
    obtain ⟨n, en, rfl⟩ := Option.map_eq_some_iff.mp e
    rcases seen hc hl r1 with ⟨Ap', r1, nr⟩ | ⟨c, fs, ei⟩
    case inr => rw [ei] at en; cases en
    generalize view hp x = y at en r1
    have fin : LenV g.K v1 H n → ∃ x n', [v1] = [x] ∧ LenV g.K x H n' ∧ Q (.int n') H := fun h => ⟨_, _, rfl, h, q _ H (fun _ _ h => h) rfl⟩
    unfold lenD at en
    split at en
    · cases en
      obtain ⟨a, vs, rfl, ha, rs⟩ := lst_at r1
      exact fin (.inl ⟨vs, SqL.of ha, rs.length.symm⟩)
    · cases en
      obtain ⟨a, vs, rfl, ha, rs⟩ := r1
      exact fin (.inr ⟨vs, SqT.of ha, rs.length.symm⟩)
    · cases en
      obtain ⟨rfl, ok, hz⟩ := r1
      exact fin ⟨big_line hz, rfl⟩
    · cases en
      obtain ⟨a, rfl, ha⟩ := r1
      exact fin (.inl ⟨_, ha.seq, by rw [List.length_map]⟩)
    · cases en
  · cases e
theorem pr_abs : PrR g pAbs (fun xs H Q => ∃ i, xs = [.int i] ∧ Q (.int (if i < 0 then -i else i)) H) := by
  intro Ap Av m H hp ds vs d Q hst hsub hl hc r e q
  unfold pAbs at e
  split at e
  · cases e
    obtain ⟨v1, rfl, r1⟩ := RepsP.one r
    cases r1
    exact ⟨_, rfl, q _ H (fun _ _ h => h) rfl⟩
  · cases e
theorem pr_int : PrR g pInt (fun xs H Q => (∃ i, xs = [.int i] ∧ Q (.int i) H) ∨ ∃ k, xs = [.bl k] ∧ Q (.int (if k then 1 else 0)) H) := by
  intro Ap Av m H hp ds vs d Q hst hsub hl hc r e q
  unfold pInt at e
  split at e
  · cases e
    obtain ⟨v1, rfl, r1⟩ := RepsP.one r
    cases r1
    exact .inl ⟨_, rfl, q _ H (fun _ _ h => h) rfl⟩
  · cases e
    obtain ⟨v1, rfl, r1⟩ := RepsP.one r
    cases r1
    exact .inr ⟨_, rfl, q _ H (fun _ _ h => h) rfl⟩
  · cases e
theorem pr_min2 : PrR g pMin2 (fun xs H Q => ∃ i j, xs = [.int i, .int j] ∧ Q (.int (if j < i then j else i)) H) := by
  intro Ap Av m H hp ds vs d Q hst hsub hl hc r e q
  unfold pMin2 at e
  split at e
  · cases e
    obtain ⟨v1, v2, rfl, r1, r2⟩ := RepsP.two r
    cases r1
    cases r2
    exact ⟨_, _, rfl, q _ H (fun _ _ h => h) rfl⟩
  · cases e
theorem pr_max2 : PrR g pMax2 (fun xs H Q => ∃ i j, xs = [.int i, .int j] ∧ Q (.int (if j > i then j else i)) H) := by
  intro Ap Av m H hp ds vs d Q hst hsub hl hc r e q
  unfold pMax2 at e
  split at e
  · cases e
    obtain ⟨v1, v2, rfl, r1, r2⟩ := RepsP.two r
    cases r1
    cases r2
    exact ⟨_, _, rfl, q _ H (fun _ _ h => h) rfl⟩
  · cases e
theorem pr_list (hK : X.K = g.K) : PrR g pList (fun xs H Q => ∃ p ys, xs = [.ref p] ∧ (SqL X.K H p ys ∨ SqT X.K H p ys) ∧ ∀ l, H l = none → Q (.ref l) (upd H l (.lst ys))) := by
  intro Ap Av m H hp ds vs d Q hst hsub hl hc r e q
  have navail : ∀ {p : Addr}, H p = none → ¬ Av p := fun h n => by
    obtain ⟨u, w⟩ := hst _ n
    rw [h] at w; cases w
  rw [hK]
  unfold pList at e
  split at e
  · cases e
    obtain ⟨v1, rfl, r1⟩ := RepsP.one r
    obtain ⟨a, vs, rfl, ha, rs⟩ := lst_at r1
    exact ⟨a, vs, rfl, .inl (SqL.of ha), fun l hl => q _ _ (same_new hl) ⟨l, vs, rfl, upd_same, navail hl, Reps.mono (same_gt (same_new hl)) _ _ rs⟩⟩
  · cases e
    obtain ⟨v1, rfl, r1⟩ := RepsP.one r
    obtain ⟨a, vs, rfl, ha, rs⟩ := r1
    exact ⟨a, vs, rfl, .inr (SqT.of ha), fun l hl => q _ _ (same_new hl) ⟨l, vs, rfl, upd_same, navail hl, Reps.mono (same_gt (same_new hl)) _ _ rs⟩⟩
  · cases e
theorem pr_tuple (hK : X.K = g.K) : PrR g pTuple (fun xs H Q => ∃ p ys, xs = [.ref p] ∧ ((SqL X.K H p ys ∧ ∀ l, H l = none → Q (.ref l) (upd H l (.tup ys))) ∨ (SqT X.K H p ys ∧ Q (.ref p) H))) := by
  intro Ap Av m H hp ds vs d Q hst hsub hl hc r e q
  rw [hK]
  unfold pTuple at e
  split at e
  · cases e
    obtain ⟨v1, rfl, r1⟩ := RepsP.one r
    obtain ⟨a, vs, rfl, ha, rs⟩ := lst_at r1
    exact ⟨a, vs, rfl, .inl ⟨SqL.of ha, fun l hl => q _ _ (same_new hl) ⟨l, vs, rfl, upd_same, Reps.mono (same_gt (same_new hl)) _ _ rs⟩⟩⟩
  · cases e
    obtain ⟨v1, rfl, r1⟩ := RepsP.one r
    obtain ⟨a, vs, rfl, ha, rs⟩ := r1
    exact ⟨a, vs, rfl, .inr ⟨SqT.of ha, q _ H (fun _ _ h => h) ⟨a, vs, rfl, ha, rs⟩⟩⟩
  · cases e
theorem intsD_some : ∀ {xs : List D} {ns : List Int}, intsD xs = some ns → xs = ns.map D.int
  | [], ns, h => by cases h; rfl
  | d :: xs, ns, h => by
    cases d with
    | int i =>
      obtain ⟨l, hl, rfl⟩ := Option.map_eq_some_iff.mp (show (intsD xs).map (fun l => i :: l) = some ns from h)
      rw [intsD_some hl]
      rfl
    | _ => cases h
theorem boolsD_some : ∀ {xs : List D} {ns : List Bool}, boolsD xs = some ns → xs = ns.map D.bl
  | [], ns, h => by cases h; rfl
  | d :: xs, ns, h => by
    cases d with
    | bl i =>
      obtain ⟨l, hl, rfl⟩ := Option.map_eq_some_iff.mp (show (boolsD xs).map (fun l => i :: l) = some ns from h)
      rw [boolsD_some hl]
      rfl
    | _ => cases h
theorem reps_bools {K : PySem.W.Frag} {cl : Nat → CI} {Av : Addr → Prop} {m : List Addr} {H : Hp} : ∀ {ns : List Bool} {vs : List V}, Reps K cl Av m H (ns.map D.bl) vs → vs = ns.map V.bl
  | [], vs, h => h
  | n :: ns, vs, h => by
    obtain ⟨v, t, rfl, q, r⟩ := h
    cases q
    rw [reps_bools r]
    rfl
theorem pr_sum (hK : X.K = g.K) : PrR g pSum (rSum X.K) := by
  intro Ap Av m H hp ds vs d Q hst hsub hl hc r e q
  rw [hK]
  unfold pSum at e
  split at e
  · obtain ⟨l, hl, rfl⟩ := Option.map_eq_some_iff.mp e
    obtain ⟨v1, rfl, r1⟩ := RepsP.one r
    obtain ⟨a, vs, rfl, ha, rs⟩ := lst_at r1
    rw [intsD_some hl] at rs
    rw [reps_ints rs] at ha
    exact ⟨a, l, rfl, SqL.of ha, q _ H (fun _ _ h => h) rfl⟩
  · cases e
theorem pr_all (hK : X.K = g.K) : PrR g pAll (rAll X.K) := by
  intro Ap Av m H hp ds vs d Q hst hsub hl hc r e q
  rw [hK]
  unfold pAll at e
  split at e
  · obtain ⟨l, hl, rfl⟩ := Option.map_eq_some_iff.mp e
    obtain ⟨v1, rfl, r1⟩ := RepsP.one r
    obtain ⟨a, vs, rfl, ha, rs⟩ := lst_at r1
    rw [boolsD_some hl] at rs
    rw [reps_bools rs] at ha
    exact ⟨a, l, rfl, SqL.of ha, q _ H (fun _ _ h => h) rfl⟩
  · cases e
theorem pr_any (hK : X.K = g.K) : PrR g pAny (rAny X.K) := by
  intro Ap Av m H hp ds vs d Q hst hsub hl hc r e q
  rw [hK]
  unfold pAny at e
  split at e
  · obtain ⟨l, hl, rfl⟩ := Option.map_eq_some_iff.mp e
    obtain ⟨v1, rfl, r1⟩ := RepsP.one r
    obtain ⟨a, vs, rfl, ha, rs⟩ := lst_at r1
    rw [boolsD_some hl] at rs
    rw [reps_bools rs] at ha
    exact ⟨a, l, rfl, SqL.of ha, q _ H (fun _ _ h => h) rfl⟩
  · cases e

/-! ### slices -/
def partV : Bool → V → Option (Option Int)
  | false, .non => some none
  | true, .int i => some (some i)
  | _, _ => none
def rSlD (K : PySem.W.Frag) : V → Option Int → Option Int → Hp → VK → Prop := fun x lo hi H Q => rSlL K x lo hi H Q ∨ rSlA K x lo hi H Q ∨ rSlS x lo hi H Q
theorem sl_D : SlR X (rSlD X.K) := sl_list.or (sl_tupA.or sl_str)
theorem part_rep {b : Bool} {l : D} {o : Option Int} {K : PySem.W.Frag} {cl : Nat → CI} {Ap Av : Addr → Prop} {m : List Addr} {H : Hp} {v : V} (h : partD b l = some o) (r : RepP K cl Ap Av m H l v) : partV b v = some o := by
  cases b <;> cases l <;> first | (cases h; done) | (cases r; exact h)
theorem cut_reps {K : PySem.W.Frag} {cl : Nat → CI} {Av : Addr → Prop} {m : List Addr} {H : Hp} {xs : List D} {vs : List V} (lo hi : Option Int) (r : Reps K cl Av m H xs vs) : Reps K cl Av m H (cutL xs lo hi) (cutV vs lo hi) := by
  unfold cutL cutV
  rw [r.length]
  exact Reps.take _ (Reps.drop _ r)
theorem strOk_cut {x : Str} {lo hi : Option Int} (h : PyData.strOk x = true) : PyData.strOk (cutS x lo hi) = true := by
  unfold PyData.strOk at *
  rw [Array.all_eq_true'] at *
  intro c hc
  refine h c ?_
  have hc : c ∈ ((x.cps.toList.drop (HT.sIx x.length 0 lo)).take (HT.sIx x.length x.length hi - HT.sIx x.length 0 lo)).toArray := hc
  simp only [List.mem_toArray] at hc
  have := List.mem_of_mem_drop (List.mem_of_mem_take hc)
  simpa using this
theorem cutL_len {α : Type} (xs : List α) (lo hi : Option Int) : (cutL xs lo hi).length ≤ xs.length := by
  unfold cutL
  rw [List.length_take, List.length_drop]
  omega
theorem pr_cut {b c : Bool} (hK : X.K = g.K) : PrR g (pCut b c) (fun vs H Q => ∃ x l u lo hi, vs = [x, l, u] ∧ partV b l = some lo ∧ partV c u = some hi ∧ rSlD X.K x lo hi H Q) := by
  intro Ap Av m H hp ds vs d Q hst hsub hl hc r e q
  have navail : ∀ {p : Addr}, H p = none → ¬ Av p := fun h n => by
    obtain ⟨u, w⟩ := hst _ n
    rw [h] at w; cases w
  rw [hK]
  unfold pCut at e
  split at e
  · rename_i x l h
    split at e
    · rename_i lo hi e1 e2
      obtain ⟨v1, t, rfl, r1, rt⟩ := r
      obtain ⟨v2, v3, rfl, r2, r3⟩ := RepsP.two rt
      refine ⟨v1, v2, v3, lo, hi, rfl, part_rep e1 r2, part_rep e2 r3, ?_⟩
      split at e
      · cases e
        obtain ⟨a, vs, rfl, ha, rs⟩ := lst_at r1
        exact .inl ⟨a, vs, rfl, SqL.of ha, fun p hp => q _ _ (same_new hp) ⟨p, _, rfl, upd_same, navail hp, Reps.mono (same_gt (same_new hp)) _ _ (cut_reps lo hi rs)⟩⟩
      · rename_i xs
        cases e
        obtain ⟨a, vs, rfl, ha, rs⟩ := r1
        refine .inr (.inl ⟨a, vs, rfl, SqT.of ha, fun hw => q _ H (fun _ _ h => h) ⟨a, vs, rfl, ha, ?_⟩, fun _ p hp => q _ _ (same_new hp) ⟨p, _, rfl, upd_same, Reps.mono (same_gt (same_new hp)) _ _ (cut_reps lo hi rs)⟩⟩)
        have e3 : cutL xs lo hi = xs := by
          unfold cutL
          rw [rs.length] at hw
          rw [hw.1, hw.2]
          simp
        rw [e3]
        exact rs
      · rename_i ns
        cases e
        obtain ⟨a, rfl, ha⟩ := r1
        refine .inl ⟨a, ns.map V.int, rfl, ha.seq, fun p hp => q _ _ (same_new hp) ⟨p, _, rfl, upd_same, navail hp, ?_⟩⟩
        have e3 : cutV (ns.map V.int) lo hi = (cutL ns lo hi).map V.int := by
          unfold cutL cutV
          rw [List.length_map, List.map_take, List.map_drop]
        rw [e3]
        exact ints_reps _
      · split at e
        · rename_i z hz
          cases e
          obtain ⟨rfl, ok, hz2⟩ := r1
          refine .inr (.inr ⟨z, rfl, big_line hz2, ?_⟩)
          refine q _ H (fun _ _ h => h) ⟨rfl, strOk_cut ok, ?_⟩
          refine Nat.le_trans ?_ hz2
          show (((z.cps.toList.drop (HT.sIx z.length 0 lo)).take (HT.sIx z.length z.length hi - HT.sIx z.length 0 lo)).toArray).size ≤ z.cps.size
          rw [List.size_toArray, List.length_take, List.length_drop, Array.length_toList]
          omega
        · cases e
      · cases e
    · cases e
  · cases e
end
/-- a bound of a slice -/
def SO (g : Gx) (W : WX) (X : Cx) (e : Option Expr) (b : Bool) (E : E) : Prop := (e = none ∧ b = false ∧ E = .lit .non) ∨ ∃ a A, e = some a ∧ b = true ∧ E = .prim pI (.cons A .nil) ∧ SE g W X a A
section
variable {g : Gx} {W : WX} {X : Cx} {pos p2 : Pos}
theorem evE_prim (pk : Bool) (f : Pr) (es : E) (z : Z) : evE pk (.prim f es) z = (evE true es z).bind fun xs z1 => match f z1.hp xs with
    | some d => .ok [d] z1
    | none => .bad := by rw [evE] <;> rfl
theorem pI_w {pk : Bool} {A : E} {σ : L2.St} {H : Hp} {Q : VK} (h : tD g W pk (.prim pI (.cons A .nil)) σ H Q) : tD g W (true && true) A σ H fun v H1 => ∃ i, v = .int i ∧ Q v H1 := by
  have key : tDs g W true (.cons A .nil) σ H fun vs H1 => ∃ i, vs = [.int i] ∧ Q (.int i) H1 := by
   obtain ⟨F, m, z, eg, o, h⟩ := h
   refine ⟨F, m, z, eg, o, ?_⟩
   rw [evE_prim] at h
   cases e1 : evE true (.cons A .nil) z with
   | bad => rw [e1] at h; exact h.elim
   | exn c ds z1 => rw [e1] at h; exact h
   | ok xs z1 =>
     rw [e1] at h
     have h : aft F W m z σ H (E.np (.prim pI (.cons A .nil))) pk (match pI z1.hp xs with
       | some d => .ok [d] z1
       | none => .bad) _ := h
     intro vs H1 m1 p
     cases e2 : pI z1.hp xs with
     | none => rw [e2] at h; exact h.elim
     | some d =>
       rw [e2] at h
       obtain ⟨i, rfl, rfl⟩ : ∃ i, xs = [.int i] ∧ d = .int i := by
         unfold pI at e2
         split at e2
         · cases e2
           exact ⟨_, rfl, rfl⟩
         · cases e2
       have r : RepsP F.g.K F.g.cl (AvP F m1) (Avs F m1 z1 σ) m1 H1 [.int i] vs := p.rp
       obtain ⟨v, rfl, rv⟩ := r.one
       cases rv
       exact ⟨i, rfl, h [.int i] H1 m1 ⟨p.ok, p.gt, p.np, RF_.up ⟨_, _, rfl, rfl, rfl⟩⟩ (.int i) rfl⟩
  exact tD_mono (tds_one key) fun v H1 ⟨i, e, q⟩ => by
    cases e
    exact ⟨i, rfl, q⟩
theorem so_po {e : Option Expr} {b : Bool} {E : E} (h : SO g W X e b E) (pk : Bool) : ∃ t, PO X e t ∧ ∀ σ H (Q : Option Int → Hp → Prop), tD g W pk E σ H (fun v H1 => ∀ o, partV b v = some o → Q o H1) → t σ H Q := by
  rcases h with ⟨rfl, rfl, rfl⟩ | ⟨a, A, rfl, rfl, rfl, h⟩
  · refine ⟨_, po_none, fun σ H Q ⟨F, m, z, eg, o, h⟩ => ?_⟩
    rw [evE] at h
    exact h [.non] H m (PP.refl o (RF_.up ⟨_, _, rfl, rfl, rfl⟩)) .non rfl none rfl
  · refine ⟨_, po_some (h (true && true)), fun σ H Q q => tD_mono (pI_w q) fun v H1 hq => ?_⟩
    obtain ⟨i, rfl, q⟩ := hq
    exact ⟨i, rfl, q (some i) rfl⟩
theorem se_cut {a : Expr} {lo hi : Option Expr} {b c : Bool} {A L U : E} (hK : X.K = g.K) (ha : SE g W X a A) (hl : SO g W X lo b L) (hu : SO g W X hi c U) : SE g W X (.Subscript a (.Slice lo hi none p2) pos) (.prim (pCut b c) (.cons A (.cons L (.cons U .nil)))) := by
  obtain ⟨tl, pl, wl⟩ := so_po hl (true && E.np (.cons U .nil))
  obtain ⟨tu, pu, wu⟩ := so_po hu (true && true)
  refine se_prim (pr_cut hK) (pe_slice sl_D (ha (true && E.np (.cons L (.cons U .nil)))) pl pu) fun σ H Q q => ?_
  refine tD_mono (tds_cons q) fun x H1 q1 => wl _ _ _ (tD_mono (tds_cons q1) fun l H2 q2 lo' e1 => wu _ _ _ (tD_mono (tds_one q2) fun u H3 q3 hi' e2 => ?_))
  obtain ⟨x', l', u', lo2, hi2, e, f1, f2, q4⟩ := q3
  cases e
  rw [e1] at f1
  rw [e2] at f2
  cases f1
  cases f2
  exact q4
end
end G
end
section
set_option Elab.async false
set_option linter.all false
set_option maxHeartbeats 2000000
/-! GX4: walks over range, enumerate, zip, reversed. -/
namespace G
open PySem PySem.Spec PyProof.Rows L2 RZ
/-- a walk's rule: what it meets, by the values it is made of -/
def IR (g : Gx) (f : Pr) (r : List V → Hp → (It → Hp → Prop) → Prop) : Prop :=
  ∀ (Ap Av : Addr → Prop) (m : List Addr) (H : Hp) (hp ds : List D) (vs : List V) (d : D) (xs : List D) (R : It → Hp → Prop), (∀ a, Ap a → Av a) → RepsP g.K g.cl Ap Av m H ds vs → f hp ds = some d → items false d = some xs →
    (∀ J, Src g Ap Av m J H xs → R J H) → r vs H R
section
variable {g : Gx} {W : WX} {X : Cx} {pos p tpos : Pos} {tg : Expr}
theorem evE_wk (pk : Bool) (f : Pr) (es : E) (z : Z) : evE pk (.wk f es) z = (evE pk es z).bind fun xs z1 => match f z1.hp xs with
    | some d => .ok [d] z1
    | none => .bad := by rw [evE] <;> rfl
theorem rfs_ap {F : Fx} {m : List Addr} {z : Z} {σ : L2.St} {H : Hp} {pk : Bool} {ds : List D} {vs : List V} (h : RF_ F pk m z σ H ds vs) : RepsP F.g.K F.g.cl (ApF F pk m z σ) (Avs F m z σ) m H ds vs := by
  cases pk with
  | true => exact h
  | false => exact Reps.peek (fun a h => h) h
theorem si_it {e : Expr} {es : List Expr} {f : Pr} {E : E} {r : List V → Hp → (It → Hp → Prop) → Prop} (hr : IR g f r) (ha : SA g W X es E) (h : ∀ t, PA X es t → PI X tg e (fun σ H R => t σ H fun vs H1 => r vs H1 R)) : SI g W X tg e (.wk f E) := fun pk =>
  PI.weak (h _ (ha pk)) fun σ H R ⟨F, m, z, eg, o, h⟩ => by
    subst eg
    refine ⟨F, m, z, rfl, o, ?_⟩
    rw [evE_wk] at h
    cases e1 : evE pk E z with
    | bad => rw [e1] at h; exact h.elim
    | exn c ds z1 => rw [e1] at h; exact h
    | ok ds z1 =>
      rw [e1] at h
      have h : aftI F W m z σ H E.np pk false (match f z1.hp ds with
        | some d => .ok [d] z1
        | none => .bad) R := h
      intro vs H1 m1 p
      cases e2 : f z1.hp ds with
      | none => rw [e2] at h; exact h.elim
      | some d =>
        rw [e2] at h
        have h : (match items false d with | none => False | some xs => ∀ J H' m', PP F m z σ H E.np pk [] z1 [] H' m' → Src F.g (ApF F pk m' z1 σ) (Avs F m' z1 σ) m' J H' xs → R J H') := h
        cases e3 : items false d with
        | none => rw [e3] at h; exact h.elim
        | some xs =>
          rw [e3] at h
          refine hr (ApF F pk m1 z1 σ) (Avs F m1 z1 σ) m1 H1 z1.hp ds vs d xs R (fun a q => ?_) (rfs_ap p.rp) e2 e3 fun J s => h J H1 m1 ⟨p.ok, p.gt, p.np, by cases pk <;> exact rfl⟩ s
          cases pk with
          | true => exact avP_avs a q
          | false => exact q
theorem src_range {Ap Av : Addr → Prop} {m : List Addr} {H : Hp} (lo : Int) (n : Nat) : Src g Ap Av m (Itr lo n) H ((List.range n).map fun (k : Nat) => D.int (lo + k)) := by
  refine ⟨fun Ap' Av' m' H2 gp gv hst i d hi => ?_, fun Ap' Av' m' H2 gp gv i hi => ?_⟩
  · rw [List.getElem?_map] at hi
    obtain ⟨k, hk, rfl⟩ := Option.map_eq_some_iff.mp hi
    obtain ⟨hl, ek⟩ := List.getElem?_eq_some_iff.mp hk
    rw [List.length_range] at hl
    rw [List.getElem_range] at ek
    subst ek
    refine ⟨hl, fun x H3 hy => ?_⟩
    obtain ⟨rfl, rfl⟩ := hy
    exact ⟨fun _ _ h => h, rfl⟩
  · rw [List.length_map, List.length_range] at hi
    exact hi
theorem ir_range1 : IR g pRange1 fun vs H R => ∃ j : Int, vs = [.int j] ∧ -(2 ^ 62) ≤ j ∧ j < 2 ^ 62 ∧ R (Itr 0 j.toNat) H := by
  intro Ap Av m H hp ds vs d xs R hsub r e ei q
  unfold pRange1 at e
  split at e
  · split at e
    · rename_i j hj
      cases e
      simp only [Bool.and_eq_true, decide_eq_true_eq] at hj
      obtain ⟨v1, rfl, r1⟩ := RepsP.one r
      cases r1
      have ei := if_some ei
      subst ei
      have hb : (big : Int) < 2 ^ 62 := by decide
      refine ⟨j, rfl, hj.1, by omega, q _ ?_⟩
      have s := src_range (g := g) (Ap := Ap) (Av := Av) (m := m) (H := H) 0 j.toNat
      simp only [Int.zero_add] at s
      exact s
    · cases e
  · cases e
theorem ir_range2 : IR g pRange2 fun vs H R => ∃ i j : Int, vs = [.int i, .int j] ∧ (-(2 ^ 62) ≤ i ∧ i < 2 ^ 62 ∧ -(2 ^ 62) ≤ j ∧ j < 2 ^ 62) ∧ R (Itr i (j - i).toNat) H := by
  intro Ap Av m H hp ds vs d xs R hsub r e ei q
  unfold pRange2 at e
  split at e
  · split at e
    · rename_i i j hj
      cases e
      simp only [Bool.and_eq_true, decide_eq_true_eq] at hj
      obtain ⟨v1, v2, rfl, r1, r2⟩ := RepsP.two r
      cases r1
      cases r2
      have ei := if_some ei
      subst ei
      exact ⟨i, j, rfl, ⟨hj.1.1.1.1, hj.1.1.1.2, hj.1.1.2, hj.1.2⟩, q _ (src_range i (j - i).toNat)⟩
    · cases e
  · cases e
theorem si_range1 {a : Expr} {A : E} (hg : Gl X "range") (hm : X.mg "range" = none) (ha : SE g W X a A) (hs : ∀ x p, a ≠ .Starred x p) : SI g W X tg (.Call (.Name "range" p) [a] [] pos) (.wk pRange1 (.cons A .nil)) :=
  si_it ir_range1 (sa_cons ha sa_nil hs) fun t ht => pi_range1 hg hm ht (by rw [starEach_cons hs]; rfl)
theorem si_range2 {a b : Expr} {A B : E} (hg : Gl X "range") (hm : X.mg "range" = none) (ha : SE g W X a A) (hb : SE g W X b B) (hs : ∀ x p, a ≠ .Starred x p) (hs2 : ∀ x p, b ≠ .Starred x p) : SI g W X tg (.Call (.Name "range" p) [a, b] [] pos) (.wk pRange2 (.cons A (.cons B .nil))) :=
  si_it ir_range2 (sa_cons ha (sa_cons hb sa_nil hs2) hs) fun t ht => pi_range2 hg hm ht (by rw [starEach_cons hs, starEach_cons hs2]; rfl) (by rw [starEach_cons hs2]; rfl)
theorem zipWith_get {α β γ : Type} {f : α → β → γ} : ∀ {as : List α} {bs : List β} {i : Nat} {c : γ}, (as.zipWith f bs)[i]? = some c → ∃ a b, as[i]? = some a ∧ bs[i]? = some b ∧ c = f a b
  | [], _, i, c, h => by simp at h
  | _ :: _, [], i, c, h => by simp at h
  | a :: as, b :: bs, 0, c, h => by
    simp at h
    exact ⟨a, b, rfl, rfl, h.symm⟩
  | a :: as, b :: bs, i + 1, c, h => by
    simp at h
    obtain ⟨x, y, h1, h2, h3⟩ := zipWith_get (i := i) (as := as) (bs := bs) (f := f) (c := c) (by simpa [List.getElem?_zipWith] using h)
    exact ⟨x, y, by simpa using h1, by simpa using h2, h3⟩
theorem ir_enum (hK : X.K = g.K) : IR g pEnum fun vs H R => ∃ a xs, vs = [.ref a] ∧ SqL X.K H a xs ∧ R (Ite X.K a) H := by
  intro Ap Av m H hp ds vs d xs R hsub r e ei q
  unfold pEnum at e
  split at e
  · rename_i ys
    cases e
    obtain ⟨v1, rfl, r1⟩ := RepsP.one r
    obtain ⟨a, ws, rfl, ha, n, rs⟩ := r1
    have ei := if_some ei
    subst ei
    refine ⟨a, ws, rfl, SqL.of ha, q _ ⟨fun Ap' Av' m' H2 gp gv hst i d hi => ?_, fun Ap' Av' m' H2 gp gv i hi => ?_⟩⟩
    · obtain ⟨k, y, hk, hy, rfl⟩ := zipWith_get hi
      obtain ⟨hl, ek⟩ := List.getElem?_eq_some_iff.mp hk
      rw [List.getElem_range] at ek
      subst ek
      have h2 := gp.keep _ _ ha n
      obtain ⟨w, hw, rw_⟩ := (Reps.mono gv ys ws rs).get hy
      refine ⟨⟨ws, w, SqL.of h2, hw⟩, fun x H3 hx => ?_⟩
      obtain ⟨T, x', rfl, hT, rfl, hx⟩ := hx
      have hx := hx ws (SqL.of h2)
      rw [hw] at hx
      cases hx
      exact ⟨same_new hT, T, _, rfl, upd_same, _, _, rfl, rfl, w, [], rfl, Rep.mono (same_gt (same_new hT)) y w rw_, rfl⟩
    · refine ⟨ws, SqL.of (gp.keep _ _ ha n), ?_⟩
      rw [List.length_zipWith, List.length_range] at hi
      rw [rs.length]
      omega
  · cases e
theorem si_enum {a : Expr} {A : E} {elts : List Expr} {kk : Nat} (hK : X.K = g.K) (hg : Gl X "enumerate") (hm : X.mg "enumerate" = none) (ha : SE g W X a A) (hs : ∀ x p, a ≠ .Starred x p) : SI g W X (.Tuple elts kk tpos) (.Call (.Name "enumerate" p) [a] [] pos) (.wk pEnum (.cons A .nil)) :=
  si_it (ir_enum hK) (sa_cons ha sa_nil hs) fun t ht => pi_enum hg hm ht (by rw [starEach_cons hs]; rfl)
theorem ir_zip (hK : X.K = g.K) : IR g pZip fun vs H R => ∃ a b xs ys, vs = [.ref a, .ref b] ∧ ((SqL X.K H a xs ∧ SqL X.K H b ys ∧ R (Itz X.K a b) H) ∨ (SqT X.K H a xs ∧ SqT X.K H b ys ∧ R (ItzT X.K a b) H)) := by
  intro Ap Av m H hp ds vs d xs R hsub r e ei q
  unfold pZip at e
  split at e
  · rename_i ys us
    cases e
    obtain ⟨v1, v2, rfl, r1, r2⟩ := RepsP.two r
    obtain ⟨a, ws, rfl, ha, n, rs⟩ := r1
    obtain ⟨b, ts, rfl, hb, n', rt⟩ := r2
    have ei := if_some ei
    subst ei
    refine ⟨a, b, ws, ts, rfl, .inl ⟨SqL.of ha, SqL.of hb, q _ ⟨fun Ap' Av' m' H2 gp gv hst i d hi => ?_, fun Ap' Av' m' H2 gp gv i hi => ?_⟩⟩⟩
    · obtain ⟨y, u, hy, hu, rfl⟩ := zipWith_get hi
      have h2 := gp.keep _ _ ha n
      have h3 := gp.keep _ _ hb n'
      obtain ⟨w, hw, rw_⟩ := (Reps.mono gv ys ws rs).get hy
      obtain ⟨t, ht, rt_⟩ := (Reps.mono gv us ts rt).get hu
      refine ⟨⟨ws, ts, w, t, SqL.of h2, SqL.of h3, hw, ht⟩, fun x H3 hx => ?_⟩
      obtain ⟨T, x', y', rfl, hT, rfl, hx, hy'⟩ := hx
      have hx := hx ws (SqL.of h2)
      have hy' := hy' ts (SqL.of h3)
      rw [hw] at hx
      rw [ht] at hy'
      cases hx
      cases hy'
      exact ⟨same_new hT, T, _, rfl, upd_same, w, _, rfl, Rep.mono (same_gt (same_new hT)) y w rw_, t, [], rfl, Rep.mono (same_gt (same_new hT)) u t rt_, rfl⟩
    · refine ⟨ws, ts, SqL.of (gp.keep _ _ ha n), SqL.of (gp.keep _ _ hb n'), ?_⟩
      rw [List.length_zipWith] at hi
      rw [rs.length, rt.length]
      omega
  · rename_i ys us
    cases e
    obtain ⟨v1, v2, rfl, r1, r2⟩ := RepsP.two r
    obtain ⟨a, ws, rfl, ha, rs⟩ := r1
    obtain ⟨b, ts, rfl, hb, rt⟩ := r2
    have ei := if_some ei
    subst ei
    refine ⟨a, b, ws, ts, rfl, .inr ⟨SqT.of ha, SqT.of hb, q _ ⟨fun Ap' Av' m' H2 gp gv hst i d hi => ?_, fun Ap' Av' m' H2 gp gv i hi => ?_⟩⟩⟩
    · obtain ⟨y, u, hy, hu, rfl⟩ := zipWith_get hi
      have h2 := gv.tup _ _ ha
      have h3 := gv.tup _ _ hb
      obtain ⟨w, hw, rw_⟩ := (Reps.mono gv ys ws rs).get hy
      obtain ⟨t, ht, rt_⟩ := (Reps.mono gv us ts rt).get hu
      refine ⟨⟨ws, ts, w, t, SqT.of h2, SqT.of h3, hw, ht⟩, fun x H3 hx => ?_⟩
      obtain ⟨T, x', y', rfl, hT, rfl, hx, hy'⟩ := hx
      have hx := hx ws (SqT.of h2)
      have hy' := hy' ts (SqT.of h3)
      rw [hw] at hx
      rw [ht] at hy'
      cases hx
      cases hy'
      exact ⟨same_new hT, T, _, rfl, upd_same, w, _, rfl, Rep.mono (same_gt (same_new hT)) y w rw_, t, [], rfl, Rep.mono (same_gt (same_new hT)) u t rt_, rfl⟩
    · refine ⟨ws, ts, SqT.of (gv.tup _ _ ha), SqT.of (gv.tup _ _ hb), ?_⟩
      rw [List.length_zipWith] at hi
      rw [rs.length, rt.length]
      omega
  · cases e
theorem any_one {b : Expr} (hs : ∀ x p, b ≠ .Starred x p) : (backTo pos (starEach [b] X.env)).any (·.1) = false := by
  rw [starEach_cons hs]
  rfl
theorem si_zip {a b : Expr} {A B : E} {elts : List Expr} {kk : Nat} (hK : X.K = g.K) (hg : Gl X "zip") (hm : X.mg "zip" = none) (ha : SE g W X a A) (hb : SE g W X b B) (hs : ∀ x p, a ≠ .Starred x p) (hs2 : ∀ x p, b ≠ .Starred x p) :
    SI g W X (.Tuple elts kk tpos) (.Call (.Name "zip" p) [a, b] [] pos) (.wk pZip (.cons A (.cons B .nil))) :=
  si_it (ir_zip hK) (sa_cons ha (sa_cons hb sa_nil hs2) hs) fun t ht => pi_zipA hg hm ht (starEach_cons hs) (any_one hs2)
end
end G
end
section
set_option Elab.async false
set_option linter.all false
set_option maxHeartbeats 2000000
/-! GX5: instances: attributes, methods; isinstance; sorted, index, reversed. -/
namespace G
open PySem PySem.Spec PyProof.Rows L2
section
variable {g : Gx} {W : WX} {X : Cx} {pos p apos : Pos}
theorem zip_lookup : ∀ {fs : List Str} {vs : List V} {k : Nat} {f : Str} {v : V}, (fs.take k).contains f = false → fs[k]? = some f → vs[k]? = some v → (fs.zip vs).lookup f = some v
  | [], _, _, _, _, _, h, _ => by simp at h
  | _ :: _, [], _, _, _, _, _, h => by simp at h
  | a :: fs, b :: vs, 0, f, v, _, h1, h2 => by
    simp at h1 h2
    subst h1 h2
    simp [List.lookup]
  | a :: fs, b :: vs, k + 1, f, v, h, h1, h2 => by
    rw [List.take_succ_cons, List.contains_cons, Bool.or_eq_false_iff] at h
    have hne : (f == a) = false := h.1
    show (match f == a with | true => some b | false => (fs.zip vs).lookup f) = some v
    rw [hne]
    exact zip_lookup h.2 (by simpa using h1) (by simpa using h2)
theorem zip_lookup_none : ∀ {fs : List Str} {vs : List V} {f : Str}, fs.contains f = false → (fs.zip vs).lookup f = none
  | [], _, _, _ => rfl
  | _ :: _, [], _, _ => rfl
  | a :: fs, b :: vs, f, h => by
    rw [List.contains_cons, Bool.or_eq_false_iff] at h
    have hne : (f == a) = false := h.1
    show (match f == a with | true => some b | false => (fs.zip vs).lookup f) = none
    rw [hne]
    exact zip_lookup_none h.2
/-- e.f of an instance -/
theorem se_attr {e : Expr} {A : E} {c k : Nat} {f : Str} (hK : X.K = g.K) (c1 : Cls X.K (g.cl c).C) (n1 : NoAttr X.K (g.cl c).C f) (h1 : ((g.cl c).fs.take k).contains f = false) (h2 : (g.cl c).fs[k]? = some f) (ha : SE g W X e A)
    (hb : attributeBase e f X.env (eval e X.env) = eval e X.env) : SE g W X (.Attribute e f pos) (.prim (pAttr c k) (.cons A .nil)) :=
  se_p1 (r := fun x H Q => ∃ a C dx fs v, x = .ref a ∧ H a = some (.ins C dx fs) ∧ Cls X.K C ∧ NoAttr X.K C f ∧ fs.lookup f = some v ∧ Q v H)
    (by
      intro Ap Av m H hp ds vs d Q hst hsub hl hc r e q
      unfold pAttr at e
      split at e
      · split at e
        · rename_i c' fs' hce
          subst hce
          obtain ⟨v1, rfl, r1⟩ := RepsP.one r
          obtain ⟨a, dx, ws, rfl, ha, n, rs⟩ := r1
          obtain ⟨w, hw, rw_⟩ := rs.get e
          exact ⟨_, rfl, a, _, dx, _, w, rfl, ha, c1, n1, zip_lookup h1 h2 hw, q w H (fun _ _ h => h) rw_⟩
        · cases e
      · cases e) ha fun ta h => pe_fld h hb

/-! ### methods, constructors, keywords: exceptions by the names' values -/
section
variable {CX : CXT} {k : Nat} {f C : Addr} {fd : FuncData} {ps ks : List Str} {sp : Sp} {E : L2.St → XK} {x m : Str} {e o : Expr} {es : List Expr} {kws : List Keyword} {ta : TE} {t tk : TA}
def tMethS (C : Addr) (m : Str) (sp : Sp) (E : L2.St → XK) (ta : TE) (t : TA) : TE := fun σ H Q => ta σ H fun x H1 => ∃ a dx fs, x = .ref a ∧ H1 a = some (.ins C dx fs) ∧ fs.lookup m = none ∧
  t σ H1 fun vs H2 => sp (x :: vs) H2 Q (E σ)
theorem pe_methS {pl : Sem Bool} (he : PE X o ta) (c : Cls X.K C) (hm : Meth X.K C m f) (F : FnOk X.prog X.w X.K X.mg X.base CX k f fd ps sp) (hr : Room k X.A) (hb : Binds X.K fd ps []) (hx : ∀ σ, PassesAt CX X σ (E σ)) (ha : PA X (e :: es) t)
    (hst : starEach (e :: es) X.env = (false, eval e X.env) :: starEach es X.env) (hpl : (backTo pos (starEach es X.env)).any (·.1) = false)
    (ht : eval (.Call (.Attribute o m apos) (e :: es) [] pos) X.env = (do
      let ov ← eval o X.env
      standAt apos.atName
      let (f, first) ← holding [ov] (getMethod ov m pl)
      callWith pos f first (backTo pos (starEach (e :: es) X.env)) (backToKw pos (keywordEach [] X.env)))) :
    PE X (.Call (.Attribute o m apos) (e :: es) [] pos) (tMethS C m sp E ta t) := by
  refine ⟨fun pins s σ H Q I h => ?_⟩
  refine PySem.W.methodCall_KW (pl := pl) (thn (he.run pins s σ H _ I h) fun u s1 ⟨x, H1, I1, rx, a, dx, fs, ex, ea, l, q⟩ => ?_) ht
  subst ex
  obtain rfl : u = Value.ref a := rx
  refine getmeth_ok I1 ea c hm l ?_
  refine PySem.W.callWith_K (first := [.ref a]) (h₀ := X.base) I.ok.mod.kin hm.kp (thn (ha.run pos pins s1 σ H1 _ I1 q) fun us s2 ⟨vs, H2, I2, r, q2⟩ => ⟨I2.kIn, ?_⟩) hst hpl
  exact run_fnS (us := .ref a :: us) (vs := .ref a :: vs) F hr hb (hx σ) I2 (.cons rfl r) q2
theorem pe_meth0S {pl : Sem Bool} (he : PE X o ta) (c : Cls X.K C) (hm : Meth X.K C m f) (F : FnOk X.prog X.w X.K X.mg X.base CX k f fd ps sp) (hr : Room k X.A) (hb : Binds X.K fd ps []) (hx : ∀ σ, PassesAt CX X σ (E σ))
    (ht : eval (.Call (.Attribute o m apos) [] [] pos) X.env = (do
      let ov ← eval o X.env
      standAt apos.atName
      let (f, first) ← holding [ov] (getMethod ov m pl)
      callWith pos f first (backTo pos (starEach [] X.env)) (backToKw pos (keywordEach [] X.env)))) :
    PE X (.Call (.Attribute o m apos) [] [] pos) (tMethS C m sp E ta tNil) := by
  refine ⟨fun pins s σ H Q I h => ?_⟩
  refine PySem.W.methodCall_KW (pl := pl) (thn (he.run pins s σ H _ I h) fun u s1 ⟨x, H1, I1, rx, a, dx, fs, ex, ea, l, q⟩ => ?_) ht
  subst ex
  obtain rfl : u = Value.ref a := rx
  refine getmeth_ok I1 ea c hm l ?_
  exact PySem.W.callWith_K0 (first := [.ref a]) I1.kIn hm.kp (run_fnS (us := [.ref a]) (vs := [.ref a]) F hr hb (hx σ) I1 (.cons rfl .nil) q)
/-- C(..) -/
def tMakeS (C : Addr) (sp : Sp) (E : L2.St → XK) (t : TA) : TE := fun σ H Q => t σ H fun vs H1 => ∀ x dx, H1 x = none → H1 dx = none → dx ≠ x →
  sp (.ref x :: vs) (upd (upd H1 dx (.own x)) x (.ins C dx [])) (fun v H2 => v = .non ∧ Q (.ref x) H2) (E σ)
theorem run_makeS {pins : List (Addr × Obj)} {σ : L2.St} {H : Hp} {s : Shared} {Q : VK} {us : List Value} {vs : List V} (M : Mk X.K C f) (F : FnOk X.prog X.w X.K X.mg X.base CX k f fd ps sp) (hr : Room (k + 1) X.A) (hb : Binds X.K fd ps [])
    (hx : PassesAt CX X σ (E σ)) (I : Inv X pins σ H s) (r : Vals vs us)
    (h : ∀ x dx, H x = none → H dx = none → dx ≠ x → sp (.ref x :: vs) (upd (upd H dx (.own x)) x (.ins C dx [])) (fun v H2 => v = .non ∧ Q (.ref x) H2) (E σ)) :
    wpAny (model X.prog X.w) X.A (call (.ref C) us) (EP X pins σ Q) X.xe s := by
  have hq := h (s.heap.objs.size + 1) s.heap.objs.size (I.hok.fresh (Nat.le_succ _)) (I.hok.fresh (Nat.le_refl _)) (Nat.ne_of_lt (Nat.lt_succ_self _))
  have I2 := Inv.made (C := C) I
  have r2 : Vals (V.ref (s.heap.objs.size + 1) :: vs) (Value.ref (s.heap.objs.size + 1) :: us) := .cons rfl r
  have hl : (Value.ref (s.heap.objs.size + 1) :: us).length = ps.length := by
    have e := r2.length
    rw [F.len _ _ _ _ hq] at e
    exact e.symm
  have b := hb { s with heap := _ } (Value.ref (s.heap.objs.size + 1) :: us) I2.kIn (by rw [List.append_nil]; exact hl)
  rw [List.append_nil] at b
  refine wpAny_call (make_map (f := f) I.kIn M.makes M.init (beq_iff_eq.mp M.fn) (codeAny_mono (F.run _ X.stack _ _ ⟨Value.ref (s.heap.objs.size + 1) :: us, []⟩ (Value.ref (s.heap.objs.size + 1) :: us) _ _ (E σ) (hr.make C us [])
    (I2.env0.make C us []) b r2 hq) fun r s' hq' => ?_))
  cases r with
  | error e => exact hx pins _ _ e s' I2 hq'
  | ok fl =>
    cases fl with
    | ret u =>
      obtain ⟨v, H', I3, rv, ev, q3⟩ := I2.after hq'
      subst ev
      exact ⟨rv, ⟨V.ref (s.heap.objs.size + 1), H', I3, rfl, q3⟩⟩
    | next => exact False.elim hq'
    | brk => exact False.elim hq'
    | cont => exact False.elim hq'
theorem pe_makeS (M : Mk X.K C f) (F : FnOk X.prog X.w X.K X.mg X.base CX k f fd ps sp) (hr : Room (k + 1) X.A) (hg : Gl X x) (hm : X.mg x = some (.ref C)) (hb : Binds X.K fd ps []) (hx : ∀ σ, PassesAt CX X σ (E σ))
    (ha : PA X (e :: es) t) (hdb : (x == ("__debug__" : Str)) = false) (he : starEach (e :: es) X.env = (false, eval e X.env) :: starEach es X.env) (hpl : (backTo pos (starEach es X.env)).any (·.1) = false) :
    PE X (.Call (.Name x p) (e :: es) [] pos) (tMakeS C sp E t) := by
  refine ⟨fun pins s σ H Q I h => ?_⟩
  refine wpAny_Call_Name_kw (ld_glob I hg hm ?_ hdb)
  refine PySem.W.callWith_K (h₀ := X.base) I.ok.mod.kin M.kp (thn (ha.run pos pins s σ H _ I h) fun us s1 ⟨vs, H1, I1, r, q⟩ => ⟨I1.kIn, ?_⟩) he hpl
  exact run_makeS M F hr hb (hx σ) I1 r q
/-! f(k = v, ..) -/
variable {gg : List Value → List Value → List Value} {gV : List V → List V → List V}
theorem run_fnkS {pins : List (Addr × Obj)} {σ : L2.St} {H : Hp} {s : Shared} {Q : VK} {us ws : List Value} {vs zs : List V} (F : FnOk X.prog X.w X.K X.mg X.base CX k f fd ps sp) (hr : Room k X.A) (hb : KBinds X.K fd ps ks gg gV) (hx : PassesAt CX X σ (E σ))
    (I : Inv X pins σ H s) (r : Vals vs us) (rz : Vals zs ws) (h : sp (gV vs zs) H Q (E σ)) : wpAny (model X.prog X.w) X.A (call (.ref f) us (ks.zip ws)) (EP X pins σ Q) X.xe s := by
  have r2 := hb.rel r rz
  have hl : (gg us ws).length = ps.length := by rw [← r2.length]; exact F.len _ _ _ _ h
  refine wpAny_call (codeAny_mono (F.run X.A X.stack s H ⟨us, ks.zip ws⟩ (gg us ws) (gV vs zs) Q (E σ) hr I.env0 (hb.to s us ws I.kIn hl) r2 h) fun r s' hq => ?_)
  cases r with
  | error e => exact hx pins H s e s' I hq
  | ok fl =>
    cases fl with
    | ret u => exact I.after hq
    | next => exact False.elim hq
    | brk => exact False.elim hq
    | cont => exact False.elim hq
end
end
end G
end
section
set_option Elab.async false
set_option linter.all false
set_option maxHeartbeats 4000000
/-! GY1: try with several clauses, each with a name. -/
namespace G
open PySem PySem.Spec PyProof.Rows L2
/-- the ends of a clause's suite: its name is gone -/
def unb (i : Nat) (D : Ends) : Ends := { nx := fun σ' H' => D.nx (σ'.set i none) H', rt := D.rt, bk := fun σ' H' => D.bk (σ'.set i none) H', ct := fun σ' H' => D.ct (σ'.set i none) H' }
abbrev Clause := Value × (Addr → Value → Option Addr → TS)
/-- what the clauses wish of an exception -/
def wAll (K : PySem.W.Frag) (L : Nat) (Wout : WX) (i : Nat) (D : Ends) : List Clause → WX
  | [] => Wout
  | (c, ts) :: r => fun cls d σ H => ∃ b, PySem.W.exmOne K cls c = some b ∧ (b = true → ∀ a, H a = none → σ.length = L → ts a cls d (unb i D) (σ.set i (some (.ref a))) H) ∧ (b = false → wAll K L Wout i D r cls d σ H)
inductive Clauses (X : Cx) (n : Str) : List ExceptHandler → List Clause → Prop
  | nil : Clauses X n [] []
  | cons {x : Str} {c : Value} {ts : Addr → Value → Option Addr → TS} {st : Stmt} {sts : List Stmt} {q1 q2 : Pos} {hs : List ExceptHandler} {l : List Clause} (named : Names X x c)
      (suite : ∀ (a : Addr) (oe : Obj) (cls : Value) (d : Option Addr) (pn : List (Addr × Obj)), Zc cls d oe → (∃ vs, oe.data = .fields vs) → PSs (X.suite a ((a, oe) :: pn)) (st :: sts) (ts a cls d)) (rest : Clauses X n hs l) :
      Clauses X n (.ExceptHandler (some (.Name x q1)) (some n) (st :: sts) q2 :: hs) ((c, ts) :: l)
section
variable {X : Cx} {n : Str} {i : Nat} {body : List Stmt} {hnd : ExceptHandler} {hds : List ExceptHandler} {l : List Clause} {pos : Pos} {tb : WX → TS} {Wout : WX}
theorem ps_tryAs (hs : X.stack = X.env :: X.outer) (hf : X.env.frame = some X.env.locals) (hN : X.N.Nodup) (hi : X.N[i]? = some n) (hln : X.env.kindOf n = some .local) (tk : Takes X Wout)
    (hb : ∀ (W : WX) (pn : List (Addr × Obj)) (xe : Value → Shared → Prop), Takes (X.tr pn xe) W → PassesOwn (model X.prog X.w) X.A X.env xe → PSs (X.tr pn xe) body (tb W))
    (hh : Clauses X n (hnd :: hds) l) : PS X (.Try body (hnd :: hds) [] [] pos) (fun D σ H => tb (wAll X.K X.N.length Wout i D l) D σ H) := ⟨fun pins s σ H D I h => by
  have okX := I.ok
  have frm : X.A.frames = some (X.env :: X.outer) := by rw [okX.frames, hs]
  have isL : Loc X.env.scope n := .inl hln
  refine wpAny_Try_except (wpAny_mono ((hb (wAll X.K X.N.length Wout i D l) (X.pn ++ pins) _ (fun u t xx => ?_) PassesOwn.looking).run [] s σ H D (I.toTry _) h) (fun f s1 en => ?_) (fun e s1 he => he))
  · obtain ⟨a, B, sI, pI, σE, HE, cls, d, rfl, J0, nb, up0, sk, na, os, ag, w⟩ := xx
    have J : Inv X pins σE HE sI := J0.ofTry okX
    rw [hs] at sk
    refine Sky.land Zc.steady frm hf sk fun hA flA upA => ?_
    have JA : Inv X pins σE HE { t with heap := hA } := J.landed nb flA.1 (up0.trans upA) os ag
    obtain ⟨oA, vA, gA, zA, dA⟩ := flA.there
    have notIn : a ∉ frs (X.env :: X.outer) := fun hm => by
      obtain ⟨_, o', e', hnf⟩ := flA.2.2.1.mem hm
      rw [gA] at e'
      cases e'
      exact hnf _ dA
    have nL : a ≠ X.env.locals := fun z => notIn (List.mem_filterMap.mpr ⟨X.env, List.mem_cons_self, by rw [hf, z]⟩)
    have nF : a ∉ X.fs := fun hm => by
      obtain ⟨e, he, q⟩ := List.mem_filterMap.mp hm
      exact notIn (List.mem_filterMap.mpr ⟨e, List.mem_cons_of_mem _ he, q⟩)
    have SA := JA.suite gA dA na nL nF
    have look : PySem.W.Looks (model X.prog X.w) hA (typeOf (.ref a)) cls := fun A Q E s k q => wpAny_typeOf_ref (k _ _ gA) (by rw [zA.1]; exact q)
    have go : ∀ {hs' : List ExceptHandler} {l' : List Clause}, Clauses X n hs' l' → wAll X.K X.N.length Wout i D l' cls d σE HE → wpAny (model X.prog X.w) X.A (handleBy (.ref a) X.env hs') (SP X pins D) X.xe { t with heap := hA } := by
      intro hs' l' hk
      induction hk with
      | nil =>
        intro w
        obtain ⟨k1, k2, k3, oe, vs, T, oT, ts', he, hz, hd, h1, hr⟩ := id flA
        have fin : wpAny (model X.prog X.w) X.A (setFlight (.ref a) X.env.frame) (fun _ s4 => wpAny (model X.prog X.w) X.A (throw (.ref a) : Sem Flow) (SP X pins D) X.xe s4) X.xe { t with heap := hA } := by
          rw [hf]
          exact HandSPX.setFlight_upZ flA fun hC fC upC => wpAny_throw (tk _ _ ⟨a, B, sI, pins, σE, HE, cls, d, rfl, J, nb, (up0.trans upA).trans upC, .inr (.inr (by rw [hs]; exact fC)), na, os, ag, w⟩)
        refine wpAny_handleBy_nil ?_
        unfold PySem.passOn
        refine wpAny_bind (wpAny_field he hd h1 ?_)
        rw [if_neg (show ¬ ((Value.ref T == Value.none) = true) by simp)]
        first
          | exact wpAny_bind (wpAny_pure (wpAny_bind fin))
          | exact wpAny_bind fin
      | @cons x c ts st sts q1 q2 hs2 l2 named suite rest ih =>
        rintro ⟨b, hb1, hyes, hno⟩
        have is := PySem.W.exm_one (M := model X.prog X.w) (JA.kIn) look hb1
        have test : ∀ {Q : Value → Shared → Prop} {E : Value → Shared → Prop}, Q c { t with heap := hA } → wpAny (model X.prog X.w) (X.A.mark (some (.ref a))) (eval (.Name x q1) X.env) Q E { t with heap := hA } := fun {Q E} q => by
          obtain ⟨hg, hdb, hm | ⟨hm, hv, hnn⟩⟩ := named
          · exact ld_glob (X := X.suite a ((a, oA) :: (X.pn ++ pins))) SA hg hm q hdb
          · exact ld_blt (X := X.suite a ((a, oA) :: (X.pn ++ pins))) SA hg hm hv q hnn hdb
        refine wpAny_handleBy_cons (codeAny_handlers_test (test (is.here ?_))) (fun q => by cases q)
        cases b with
        | false => exact ih (hno rfl)
        | true =>
          refine codeAny_handlers_suite_as (HandSPX.lands_againZ flA fun hB flB upB => ?_)
          have JB : Inv X pins σE HE { t with heap := hB } := J.landed nb flB.1 ((up0.trans upA).trans upB) os ag
          obtain ⟨oB, vB, gB, zB, dB⟩ := flB.there
          have SB := JB.suite gB dB na nL nF
          refine store_ok (X := X.suite a ((a, oB) :: (X.pn ++ pins))) (v := .ref a) SB hN hi isL rfl (fun s5 S5 => ?_) (.inr hln)
          refine wpAny_mono ((suite a oB cls d (X.pn ++ pins) zB ⟨_, dB⟩).run [] s5 _ HE _ S5 (hyes rfl a na J.len)) (fun f s6 en => ?_) (fun _ _ z => z.elim)
          have out : ∀ {σ6 : L2.St} {H6 : Hp} {Q : Shared → Prop}, Inv (X.suite a ((a, oB) :: (X.pn ++ pins))) [] σ6 H6 s6 → (∀ s7, Inv X pins (σ6.set i none) H6 s7 → Q s7) →
              wpAny (model X.prog X.w) X.A (do bindName X.env n .none; unbindBehindTheSuite X.env n q2) (fun _ s7 => Q s7) X.xe s6 := fun {σ6 H6 Q} S6 hq => gone_ok (S6.unsuite okX) hN hi hln hq
          cases f with
          | ret u =>
            obtain ⟨v6, σ6, H6, S6, r6, q6⟩ := en
            exact out S6 fun s7 J7 => ⟨_, _, _, J7, r6, q6⟩
          | next => obtain ⟨σ6, H6, S6, q6⟩ := en; exact out S6 fun s7 J7 => ⟨_, _, J7, q6⟩
          | brk => obtain ⟨σ6, H6, S6, q6⟩ := en; exact out S6 fun s7 J7 => ⟨_, _, J7, q6⟩
          | cont => obtain ⟨σ6, H6, S6, q6⟩ := en; exact out S6 fun s7 J7 => ⟨_, _, J7, q6⟩
    exact go hh w
  · cases f with
    | next => obtain ⟨σ', H', J', q⟩ := en; exact wpAny_execs_nil ⟨σ', H', J'.ofTry okX, q⟩
    | brk => obtain ⟨σ', H', J', q⟩ := en; exact ⟨σ', H', J'.ofTry okX, q⟩
    | cont => obtain ⟨σ', H', J', q⟩ := en; exact ⟨σ', H', J'.ofTry okX, q⟩
    | ret u => obtain ⟨v, σ', H', J', r, q⟩ := en; exact ⟨v, σ', H', J'.ofTry okX, r, q⟩⟩
end
end G
end
section
set_option Elab.async false
set_option linter.all false
set_option maxHeartbeats 4000000
/-! GY2: clauses that hand something back. -/
namespace G
open PySem PySem.Spec PyProof.Rows L2
structure Cau (g : Gx) (cs : Nat → Option Bool) (i : Nat) (a : Addr) (cls : Value) (d : Option Addr) (σ : L2.St) (H : Hp) (F : Fx) (m : List Addr) (z : Z) (c : Nat) (ds : List D) (σ0 : L2.St) : Prop where
  eg : F.g = g
  ok : Ok F m z σ0 H
  es : σ = σ0.set i (some (.ref a))
  il : i < σ0.length
  cc : cs c = some true
  ex : ExcAt F (Avs F m z σ0) m H c ds cls d
section
variable {g : Gx} {X : Cx} {n : Str} {i : Nat} {cs : Nat → Option Bool} {a : Addr} {cls : Value} {d : Option Addr}
def tEl (g : Gx) (cs : Nat → Option Bool) (i : Nat) (a : Addr) (cls : Value) (d : Option Addr) (h : HI) : TE := fun σ H Q => ∃ F m z c ds σ0, Cau g cs i a cls d σ H F m z c ds σ0 ∧ ∀ v, Rep F.g.K F.g.cl (Avs F m z σ0) m H (h.ev ds) v → Q v H
def tEls (g : Gx) (cs : Nat → Option Bool) (i : Nat) (a : Addr) (cls : Value) (d : Option Addr) (l : List HI) : TA := fun σ H Q => ∃ F m z c ds σ0, Cau g cs i a cls d σ H F m z c ds σ0 ∧ ∀ vs, Reps F.g.K F.g.cl (Avs F m z σ0) m H (l.map (HI.ev ds)) vs → Q vs H
def tHd (g : Gx) (cs : Nat → Option Bool) (i : Nat) (a : Addr) (cls : Value) (d : Option Addr) (r : Option (List HI)) : TS := fun D σ H => ∃ F m z c ds σ0, Cau g cs i a cls d σ H F m z c ds σ0 ∧ match r with
  | none => D.rt .non H
  | some l => ∀ v H', Same H H' → Rep F.g.K F.g.cl (Avs F m z σ0) m H' (.lst (l.map (HI.ev ds))) v → D.rt v H'
/-- the elements, as they may be read in a clause -/
inductive ElF (g : Gx) (K : PySem.W.Frag) (n : Str) (cs : Nat → Option Bool) : List Expr → List HI → Prop
  | nil : ElF g K n cs [] []
  | lit {e : Expr} {v : V} {dl : D} {es : List Expr} {l : List HI} (h : ∀ X, PE X e (tC v)) (r : ∀ K cl Av m H, Rep K cl Av m H dl v) (hs : ∀ x p, e ≠ .Starred x p) (t : ElF g K n cs es l) : ElF g K n cs (e :: es) (.lit dl :: l)
  | fld {p q : Pos} {f : Str} {k : Nat} {es : List Expr} {l : List HI} (h : ∀ c, cs c = some true → XfC K (g.ec c).C ∧ PySem.W.findIn K (.ref (g.ec c).C) f = some none ∧ ((g.ec c).fs.take k).contains f = false ∧ (g.ec c).fs[k]? = some f) (t : ElF g K n cs es l) :
      ElF g K n cs (.Attribute (.Name n p) f q :: es) (.fld k :: l)
theorem pe_never {e : Expr} {X : Cx} {t : TE} (h : ∀ σ H Q, ¬ t σ H Q) : PE X e t := ⟨fun pins s σ H Q I q => absurd q (h σ H Q)⟩
theorem el_pa {oe : Obj} {pn : List (Addr × Obj)} (hi : X.N[i]? = some n) (hv : Vis X.env.scope n) (hd : (n == ("__debug__" : Str)) = false) (hcd : (n == ("__classdict__" : Str)) = false) (hz : Zc cls d oe) (hf : ∃ vs, oe.data = .fields vs) :
    ∀ {es : List Expr} {l : List HI}, ElF g X.K n cs es l → PA (X.suite a ((a, oe) :: pn)) es (tEls g cs i a cls d l) := by
  intro es l h
  induction h with
  | nil => exact PA.weak pa_nil fun σ H Q ⟨F, m, z, c, ds, σ0, C, q⟩ => q [] rfl
  | @lit e v dl es l h r hs t ih =>
    refine PA.weak (pa_cons (h _) ih (starEach_cons hs)) fun σ H Q ⟨F, m, z, c, ds, σ0, C, q⟩ => ?_
    show tEls g cs i a cls d l σ H fun xs H2 => Q (v :: xs) H2
    exact ⟨F, m, z, c, ds, σ0, C, fun vs rs => q (v :: vs) ⟨v, vs, rfl, r _ _ _ _ _, rs⟩⟩
  | @fld p q f k es l h t ih =>
    have el : PE (X.suite a ((a, oe) :: pn)) (.Attribute (.Name n p) f q) (tEl g cs i a cls d (.fld k)) := by
      by_cases hc : ∃ c, cs c = some true ∧ cls = .ref (g.ec c).C
      · obtain ⟨c0, h1, h2⟩ := hc
        obtain ⟨x1, x2, _, _⟩ := h c0 h1
        refine PE.weak (pe_xf (X := X) (a := a) (pn := pn) (C := (g.ec c0).C) x1 x2 hz hf (pe_var (X := X.suite a ((a, oe) :: pn)) (i := i) hi hv hd hcd) (base_plain name_plain)) fun σ H Q ⟨F, m, z, c, ds, σ0, C, w⟩ => ?_
        refine ⟨.ref a, by rw [C.es, List.getElem?_set_self C.il], rfl, h2, ?_⟩
        obtain ⟨_, _, y1, y2⟩ := h c C.cc
        obtain ⟨e1, e0, e2⟩ := C.ex
        rw [C.eg] at e2 e0
        have kl : k < ds.length := by rw [e0]; exact (List.getElem?_eq_some_iff.mp y2).1
        rcases e2 with ⟨e2, e3⟩ | ⟨dd, vs, e2, e3, r⟩
        · rw [e2] at kl
          cases kl
        · obtain ⟨x, hx⟩ : ∃ x, ds[k]? = some x := ⟨_, List.getElem?_eq_getElem kl⟩
          obtain ⟨v, hv, rv⟩ := r.get hx
          refine ⟨dd, _, v, e2, e3, zip_lookup y1 y2 hv, w v ?_⟩
          have e4 : HI.ev ds (.fld k) = x := by
            show ds.getD k .non = x
            rw [List.getD_eq_getElem?_getD, hx]
            rfl
          rw [e4, C.eg]
          exact rv
      · exact pe_never fun σ H Q ⟨F, m, z, c, ds, σ0, C, w⟩ => hc ⟨c, C.cc, by rw [← C.eg]; exact C.ex.1⟩
    refine PA.weak (pa_cons el ih (starEach_cons fun _ _ q => nomatch q)) fun σ H Q ⟨F, m, z, c, ds, σ0, C, w⟩ => ?_
    show tEl g cs i a cls d (.fld k) σ H fun x H1 => tEls g cs i a cls d l σ H1 fun xs H2 => Q (x :: xs) H2
    exact ⟨F, m, z, c, ds, σ0, C, fun v rv => ⟨F, m, z, c, ds, σ0, C, fun vs rs => w (v :: vs) ⟨v, vs, rfl, rv, rs⟩⟩⟩
end
end G
end
section
set_option Elab.async false
set_option linter.all false
set_option maxHeartbeats 4000000
/-! GY3: try, soundness. -/
namespace G
open PySem PySem.Spec PyProof.Rows L2
section
variable {g : Gx} {X : Cx} {n : Str} {i : Nat}
/-- a clause's suite: a list of texts and fields is handed back, or None -/
inductive SuF (g : Gx) (K : PySem.W.Frag) (n : Str) (cs : Nat → Option Bool) : List Stmt → Option (List HI) → Prop
  | lst {es : List Expr} {l : List HI} {p1 p2 : Pos} (h : ElF g K n cs es l) (hl : l.length ≤ 100) : SuF g K n cs [.Return (some (.List es p1)) p2] (some l)
  | non {st : Stmt} (h : ∀ X, PS X st fun D σ H => D.rt .non H) : SuF g K n cs [st] none
theorem su_ps {cs : Nat → Option Bool} {a : Addr} {cls : Value} {d : Option Addr} {oe : Obj} {pn : List (Addr × Obj)} (hi : X.N[i]? = some n) (hv : Vis X.env.scope n) (hd : (n == ("__debug__" : Str)) = false) (hcd : (n == ("__classdict__" : Str)) = false) (hz : Zc cls d oe) (hf : ∃ vs, oe.data = .fields vs)
    {sts : List Stmt} {r : Option (List HI)} (h : SuF g X.K n cs sts r) : PSs (X.suite a ((a, oe) :: pn)) sts (tHd g cs i a cls d r) := by
  cases h with
  | @lst es l p1 p2 h hl =>
    refine PSs.weak (pss_one (ps_ret (pe_lst (el_pa hi hv hd hcd hz hf h)))) fun D σ H ⟨F, m, z, c, ds, σ0, C, w⟩ => ?_
    show tEls g cs i a cls d l σ H fun vs H1 => vs.length ≤ sizeLine ∧ ∀ q, H1 q = none → D.rt (.ref q) (upd H1 q (.lst vs))
    refine ⟨F, m, z, c, ds, σ0, C, fun vs rs => ⟨?_, fun q hq => w _ _ (same_new hq) ⟨q, vs, rfl, upd_same, fun hA => ?_, Reps.mono (same_gt (same_new hq)) _ vs rs⟩⟩⟩
    · rw [rs.length, List.length_map]
      exact Nat.le_trans hl (by rw [sizeLine_eq]; decide)
    · obtain ⟨u, hu⟩ := C.ok.stands hA
      rw [hq] at hu
      cases hu
  | non h => exact PSs.weak (pss_one (h _)) fun D σ H ⟨F, m, z, c, ds, σ0, C, w⟩ => w
/-- the clauses, as data -/
inductive HdF (g : Gx) (X : Cx) (n : Str) (i : Nat) : List ExceptHandler → Hd → Prop
  | nil : HdF g X n i [] .nil
  | cons {x : Str} {cv : Value} {cs : Nat → Option Bool} {r : Option (List HI)} {st : Stmt} {sts : List Stmt} {q1 q2 : Pos} {hs : List ExceptHandler} {h : Hd} (named : Names X x cv)
      (tell : ∀ c b, cs c = some b → PySem.W.exmOne X.K (.ref (g.ec c).C) cv = some b) (su : SuF g X.K n cs (st :: sts) r) (t : HdF g X n i hs h) : HdF g X n i (.ExceptHandler (some (.Name x q1)) (some n) (st :: sts) q2 :: hs) (.cons cs r h)
theorem hd_clauses (hi : X.N[i]? = some n) (hv : Vis X.env.scope n) (hd : (n == ("__debug__" : Str)) = false) (hcd : (n == ("__classdict__" : Str)) = false) {hs : List ExceptHandler} {h : Hd} (f : HdF g X n i hs h) :
    ∃ l, Clauses X n hs l ∧ ∀ (Wout : WX) (D : Ends) (F : Fx) (m : List Addr) (z : Z) (σ : L2.St) (H : Hp) (c : Nat) (ds : List G.D) (cls : Value) (d : Option Addr), F.g = g → Ok F m z σ H → ExcAt F (Avs F m z σ) m H c ds cls d →
      aftS F Wout m z σ H (h.ev c ds z) D → wAll X.K X.N.length Wout i D l cls d σ H := by
  induction f with
  | nil => exact ⟨[], .nil, fun Wout D F m z σ H c ds cls d eg o x q => q cls d σ H m (PS_.refl o) x⟩
  | @cons x cv cs r st sts q1 q2 hs h named tell su t ih =>
    obtain ⟨l, k, w⟩ := ih
    refine ⟨(cv, fun a cls d => tHd g cs i a cls d r) :: l, .cons named (fun a oe cls d pn hz hf => su_ps hi hv hd hcd hz hf su) k, fun Wout D F m z σ H c ds cls d eg o x q => ?_⟩
    unfold Hd.ev at q
    have ec : cls = .ref (g.ec c).C := by rw [← eg]; exact x.1
    cases e : cs c with
    | none => simp only [e] at q; exact q.elim
    | some b =>
      simp only [e] at q
      refine ⟨b, by rw [ec]; exact tell c b e, fun hb a ha hlen => ?_, fun hb => ?_⟩
      · subst hb
        refine ⟨F, m, z, c, ds, σ, ⟨eg, o, rfl, by rw [hlen]; exact (List.getElem?_eq_some_iff.mp hi).1, e, x⟩, ?_⟩
        cases r with
        | none =>
          have q : aftS F Wout m z σ H (.ret .non z) D := q
          exact q .non σ H m (PS_.refl o) rfl
        | some is =>
          have q : aftS F Wout m z σ H (.ret (.lst (is.map (HI.ev ds))) z) D := q
          exact fun v H' s rv => q v σ H' m ⟨o.same s, same_gt s⟩ rv
      · subst hb
        exact w Wout D F m z σ H c ds cls d eg o x q
theorem s1_try {W : WX} {body : List Stmt} {h0 : ExceptHandler} {hs : List ExceptHandler} {B : S} {h : Hd} {pos : Pos} (hst : X.stack = X.env :: X.outer) (hf : X.env.frame = some X.env.locals) (hN : X.N.Nodup) (hi : X.N[i]? = some n) (hln : X.env.kindOf n = some .local) (hv : Vis X.env.scope n)
    (hd : (n == ("__debug__" : Str)) = false) (hcd : (n == ("__classdict__" : Str)) = false) (tk : Takes X W)
    (hb : ∀ (W : WX) (pn : List (Addr × Obj)) (xe : Value → Shared → Prop), Takes (X.tr pn xe) W → PassesOwn (model X.prog X.w) X.A X.env xe → SS g W (X.tr pn xe) body B) (hh : HdF g X n i (h0 :: hs) h) : S1 g W X (.Try body (h0 :: hs) [] [] pos) (.tryS B h) := by
  obtain ⟨l, k, w⟩ := hd_clauses hi hv hd hcd hh
  refine PS.len (ps_tryAs (tb := fun W => tS g W B) hst hf hN hi hln tk hb k) fun D σ H hl ⟨F, m, z, eg, o, q⟩ => ?_
  refine ⟨F, m, z, eg, o, ?_⟩
  have q : aftS F W m z σ H (match evS B z with
    | .exn c ds z1 => h.ev c ds z1
    | o => o) D := q
  cases e : evS B z with
  | bad => rw [e] at q; exact q
  | next z1 => rw [e] at q; exact q
  | ret d z1 => rw [e] at q; exact q
  | brk z1 => rw [e] at q; exact q
  | cont z1 => rw [e] at q; exact q
  | exn c ds z1 =>
    rw [e] at q
    intro cls d σ1 H1 m1 p x
    exact w W D F m1 z1 σ1 H1 c ds cls d eg p.ok x (aftS_after p q)
end
end G
end
section
set_option Elab.async false
set_option linter.all false
set_option maxHeartbeats 4000000
/-! GY4: raise of an own exception with one field. -/
namespace G
open PySem PySem.Spec PyProof.Rows L2
/-- what __init__(self, y): self.f = y does -/
def spX (K : PySem.W.Frag) (f : Str) : Sp := fun vs H Q E => vs.length = 2 ∧ ∃ (a C : Addr) (y : V), vs = [.ref a, y] ∧ OexC K C ∧ PySem.W.findIn K (.ref C) f = some none ∧ H a = some (exo a C none) ∧
  ∀ dx, H dx = none → dx ≠ a → Q .non (upd (upd H dx (exd dx [(f, y)])) a (exo a C (some dx)))
section
variable {g : Gx} {W : WX} {X : Cx} {pos p pos' : Pos}
/-- an exception class with one field, as it stands -/
structure ExF (g : Gx) (X : Cx) (k : Nat) (x : Str) (c : Nat) (f : Str) : Prop where
  oex : OexC X.K (g.ec c).C
  fs : (g.ec c).fs = [f]
  no : PySem.W.findIn X.K (.ref (g.ec c).C) f = some none
  mg : X.mg x = some (.ref (g.ec c).C)
  ex : ∃ (fI : Addr) (fd : FuncData) (ps : List Str), PySem.W.findIn X.K (.ref (g.ec c).C) "__init__" = some (some (.ref fI)) ∧ PySem.W.typeIn X.K (.ref fI) = some (.type "function") ∧
    FnOk X.prog X.w X.K X.mg X.base (L2.CX X.prog X.w) k fI fd ps (spX X.K f) ∧ Binds X.K fd ps []
theorem exc_heap {H1 : Hp} {a dx : Addr} {u v : HO} {w : HO} (ha : H1 a = none) (hne : dx ≠ a) : upd (del (upd (upd (upd H1 a u) dx v) a w) a) dx v = upd H1 dx v := by
  funext b
  by_cases h1 : b = dx
  · rw [h1, upd_same, upd_same]
  · rw [upd_ne h1, upd_ne h1]
    by_cases h2 : b = a
    · rw [h2, del_same, ha]
    · rw [del_ne h2, upd_ne h2, upd_ne h1, upd_ne h2]
theorem exc_heap2 {H1 : Hp} {a dx : Addr} {u v w x : HO} (ha : H1 a = none) (hne : dx ≠ a) : upd (del (upd (upd (upd H1 a u) dx v) a w) a) dx x = upd H1 dx x := by
  funext b
  by_cases h1 : b = dx
  · rw [h1, upd_same, upd_same]
  · rw [upd_ne h1, upd_ne h1]
    by_cases h2 : b = a
    · rw [h2, del_same, ha]
    · rw [del_ne h2, upd_ne h2, upd_ne h1, upd_ne h2]
theorem s1_raise {k c : Nat} {x f : Str} {e : Expr} {A : E} (E1 : ExF g X k x c f) (hc : X.calm = true) (tk : Takes X W) (hr : Room (k + 1) X.A) (hg : Gl X x) (ha : SE g W X e A) (hs : ∀ x p, e ≠ .Starred x p) (hdb : (x == ("__debug__" : Str)) = false) :
    S1 g W X (.Raise (some (.Call (.Name x p) [e] [] pos)) none pos') (.raise c 1 (.cons A .nil)) := by
  obtain ⟨fI, fd, ps, iC, tI, F1, hb⟩ := E1.ex
  have hx : Passes (L2.CX X.prog X.w) X (fun _ _ _ => False) := passes_call tk fun _ _ _ _ h => h.elim
  refine PS.weak (ps_raise hc tk (pmk_oex (ds := []) (dvs := []) E1.oex iC tI F1 hr hb .nil hx hg E1.mg (sa_cons ha sa_nil hs false) hdb (starEach_cons hs) rfl)) fun D σ H ⟨F, m, z, eg, o, h⟩ => ?_
  subst eg
  show tDs F.g W false (.cons A .nil) σ H fun vs H1 => vs.length ≤ 1000 ∧ ∀ a, H1 a = none → spX X.K f (.ref a :: (vs ++ [])) (upd H1 a (exo a (F.g.ec c).C none)) (fun v H2 => v = .non ∧ ∃ (d : Addr) (fs : List (Str × V)), H2 a = some (exo a (F.g.ec c).C (some d)) ∧ H2 d = some (exd d fs) ∧ H1 d = none ∧
    W (.ref (F.g.ec c).C) (some d) σ (upd (del H2 a) d (.xd fs))) (fun _ _ _ => False)
  refine ⟨F, m, z, rfl, o, ?_⟩
  have h : aftS F W m z σ H (match evE false (.cons A .nil) z with
    | .ok ds z1 => (match ds.length == 1 with
      | true => .exn c ds z1
      | false => .bad)
    | .exn k ds z1 => .exn k ds z1
    | .bad => .bad) D := h
  cases e1 : evE false (.cons A .nil) z with
  | bad => rw [e1] at h; exact h.elim
  | exn k ds z1 =>
    rw [e1] at h
    exact fun cls d H1 m1 q => h cls d σ H1 m1 ⟨q.ok, q.gt⟩ q.ex
  | ok ds z1 =>
    rw [e1] at h
    intro vs H1 m1 q
    have rs : Reps F.g.K F.g.cl (Avs F m1 z1 σ) m1 H1 ds vs := q.rp
    cases hl : ds.length == 1 with
    | false => simp only [hl] at h; exact h.elim
    | true =>
      simp only [hl] at h
      obtain ⟨d0, rfl⟩ : ∃ d0, ds = [d0] := by
        cases ds with
        | nil => cases hl
        | cons d0 r =>
          cases r with
          | nil => exact ⟨d0, rfl⟩
          | cons _ _ => cases hl
      obtain ⟨y, rfl, ry⟩ := Reps.one rs
      refine ⟨Nat.le_of_ble_eq_true rfl, fun a hn => ⟨rfl, a, _, y, rfl, E1.oex, E1.no, upd_same, fun dx hdx hne => ⟨rfl, dx, [(f, y)], upd_same, ?_, ?_, ?_⟩⟩⟩
      · rw [upd_ne hne, upd_same]
      · rw [upd_ne hne] at hdx
        exact hdx
      · rw [upd_ne hne] at hdx
        rw [exc_heap2 hn hne]
        have s := same_new (o := .xd [(f, y)]) hdx
        refine h _ _ σ _ m1 (q.ps.trans ⟨q.ok.same s, same_gt s⟩) ⟨rfl, ?_, .inr ⟨dx, [y], rfl, ?_, y, [], rfl, Rep.mono (same_gt s) d0 y ry, rfl⟩⟩
        · rw [E1.fs]
          rfl
        · rw [E1.fs, upd_same]
          rfl
end
end G
end
section
set_option Elab.async false
set_option linter.all false
set_option maxHeartbeats 4000000
/-! GY5: fields of a new instance; constructors; defs and methods from their bodies. -/
namespace G
open PySem PySem.Spec PyProof.Rows L2
theorem putF_zip : ∀ {names : List Str} {vs : List V} {f : Str} {y : V}, (names.take vs.length).contains f = false → names[vs.length]? = some f → putF f y (names.zip vs) = names.zip (vs ++ [y])
  | [], vs, f, y, _, h => by simp at h
  | a :: names, [], f, y, _, h => by
    simp at h
    subst h
    cases names <;> rfl
  | a :: names, v :: vs, f, y, h1, h2 => by
    rw [List.length_cons, List.take_succ_cons, List.contains_cons, Bool.or_eq_false_iff] at h1
    have hne : ¬ a = f := fun e => by
      have := h1.1
      rw [e] at this
      simp at this
    show (if a = f then (a, y) :: names.zip vs else (a, v) :: putF f y (names.zip vs)) = (a, v) :: names.zip (vs ++ [y])
    rw [if_neg hne, putF_zip h1.2 (by simpa using h2)]
section
variable {g : Gx} {W : WX} {X : Cx} {pos p pos' : Pos}
/-- self.f = e in an __init__ -/
theorem s1_fld {i c k : Nat} {x f : Str} {e : Expr} {E : E} {p0 p1 : Pos} (hK : X.K = g.K) (c1 : Cls X.K (g.cl c).C) (n1 : NoAttr X.K (g.cl c).C f) (h1 : ((g.cl c).fs.take k).contains f = false) (h2 : (g.cl c).fs[k]? = some f) (hk : k < 1000)
    (hN : X.N[i]? = some x) (hv : Vis X.env.scope x) (hd : (x == ("__debug__" : Str)) = false) (hcd : (x == ("__classdict__" : Str)) = false) (he : SE g W X e E)
    (hs : swapsWith e (some (.Attribute (.Name x p0) f p1)) pos.line X.env = pure false) : S1 g W X (.Assign [.Attribute (.Name x p0) f p1] e pos) (.fld i c k E) :=
  PS.weak (ps_fld (pe_var hN hv hd hcd) (he false) hs) fun D σ H ⟨F, m, z, eg, o, h⟩ => by
    subst eg
    unfold evS at h
    refine ⟨F, m, z, rfl, o, to_aft o h fun x z1 vs H1 m1 _ p q v ev => ?_⟩
    subst ev
    obtain ⟨d, rfl, r⟩ := rf_one p.rp
    simp only [List.headD] at q
    split at q
    · rename_i j ez1
      have hz1 := getD_some ez1 (by intro q; cases q)
      obtain ⟨v0, hσ, a, hm, e0⟩ := p.ok.val i _ hz1
      subst e0
      split at q
      · rename_i c' fs ec
        obtain ⟨dx, ws, hH, rs⟩ := p.ok.cells j a _ hm ec
        split at q
        · rename_i hc
          rw [Bool.and_eq_true, beq_iff_eq, beq_iff_eq] at hc
          obtain ⟨e1, e2⟩ := hc
          subst e2
          have hl : ws.length = k := by rw [rs.length]; exact e1
          refine ⟨_, hσ, a, _, dx, _, rfl, hH, c1, n1, ?_, ?_⟩
          · rw [List.length_zip]
            omega
          · rw [putF_zip (by rw [hl]; exact h1) (by rw [hl]; exact h2)]
            exact q σ _ m1 (p.ps.trans (cell_writeG p.ok hm ec hH True.intro fun g => ⟨dx, ws ++ [v], upd_same, Reps.mono g _ _ (Reps.append rs ⟨v, [], rfl, r, rfl⟩)⟩))
        · exact q.elim
      · exact q.elim
    · exact q.elim

/-! ### the promise of an __init__ -/
def spI (g : Gx) (c n : Nat) (f : Fn) : Sp := fun vs H Q E => vs.length = n + 1 ∧ ∃ (x dx : Addr) (ws : List V) (Hb : Hp) (N : Addr → Prop) (m : List Addr) (hp ds : List D), vs = .ref x :: ws ∧ Same Hb H ∧ Hb x = none ∧ H x = some (.ins (g.cl c).C dx []) ∧
  (∀ a, N a → ∃ u, Hb a = some u) ∧ (∀ a, a ∈ m → N a) ∧ m.Nodup ∧ m.length = hp.length ∧ (∀ (k : Nat) (a : Addr) (c : D), m[k]? = some a → hp[k]? = some c → Top g.K g.cl N m Hb a c) ∧ Reps g.K g.cl N m Hb ds ws ∧
  match f ds hp with
  | .ok d hp' => ∀ H' m', CallEnd g N m Hb hp' H' m' → Rep g.K g.cl (fun b => N b ∨ b ∈ m') m' H' d (.ref x) → Q .non H'
  | .exn c es hp' => ∀ cls d H' m' (F : Fx), F.g = g → CallEnd g N m Hb hp' H' m' → ExcAt F (fun b => N b ∨ b ∈ m') m' H' c es cls d → E cls d H'
  | .bad => False
structure FnI (g : Gx) (X : Cx) (k : Nat) (x : Str) (c n : Nat) (f : Fn) : Prop where
  mg : X.mg x = some (.ref (g.cl c).C)
  ex : ∃ (fI : Addr) (fd : FuncData) (ps : List Str), FnOk X.prog X.w X.K X.mg X.base (L2.CX X.prog X.w) k fI fd ps (spI g c n f) ∧ Mk X.K (g.cl c).C fI ∧ Binds X.K fd ps []
theorem se_new {k c n : Nat} {x : Str} {e : Expr} {es : List Expr} {f : Fn} {E : E} (D : FnI g X k x c n f) (hr : Room (k + 1) X.A) (tk : Tk X W) (hg : Gl X x) (ha : SA g W X (e :: es) E) (hs : noStar (e :: es) = true) (hd : (x == ("__debug__" : Str)) = false)
    (hE : ∀ z ds z1, evE false E z = .ok ds z1 → ds.length = n) : SE g W X (.Call (.Name x p) (e :: es) [] pos) (.call f E) := fun pk => by
  obtain ⟨fI, fd, ps, F0, M, hb⟩ := D.ex
  refine PE.weak (pe_makeS (E := WE W) M F0 hr hg D.mg hb (fun σ => tk σ) (ha false) hd (starEach_cons (noStar_cons hs).1) (noStar_any (noStar_cons hs).2)) fun σ H Q ⟨F, m, z, eg, o, h⟩ => ?_
  subst eg
  rw [evE_call] at h
  refine ⟨F, m, z, rfl, o, ?_⟩
  cases e1 : evE false E z with
  | bad => rw [e1] at h; exact h.elim
  | exn c ds z1 => rw [e1] at h; exact h
  | ok xs z1 =>
    rw [e1] at h
    intro vs H1 m1 p y dx hy hdx hne
    have r : Reps F.g.K F.g.cl (Avs F m1 z1 σ) m1 H1 xs vs := p.rp
    have o1 := p.ok
    have hne2 : ∀ {a : Addr} {u : HO}, H1 a = some u → a ≠ y ∧ a ≠ dx := fun h => ⟨ne_of_none h hy, ne_of_none h hdx⟩
    refine ⟨by rw [List.length_cons, r.length, hE z xs z1 e1], y, dx, vs, H1, Avs F m1 z1 σ, m1, z1.hp, xs, rfl, fun a u h => ?_, hy, upd_same, fun a => o1.stands, fun a q => .inl (.inr q), o1.nd, o1.ml, o1.cells, r, ?_⟩
    · rw [upd_ne (hne2 h).1, upd_ne (hne2 h).2]
      exact h
    · have h : aft F W m z σ H (G.E.call f E).np pk (match f xs z1.hp with
        | .ok d hp => .ok [d] { z1 with hp := hp }
        | .exn c ds hp => .exn c ds { z1 with hp := hp }
        | .bad => .bad) _ := h
      cases e2 : f xs z1.hp with
      | bad => rw [e2] at h; exact h
      | ok d hp =>
        rw [e2] at h
        intro H' m' ce rd
        obtain ⟨o', gt, gp, iff⟩ := o1.call ce
        have r' : Rep F.g.K F.g.cl (Avs F m' { z1 with hp := hp } σ) m' H' d (.ref y) := Rep.mono (less_gt fun a q => (iff a).mpr q) d _ rd
        exact ⟨rfl, h [.ref y] H' m' ⟨o', p.gt.trans gt, fun q => (p.np q).trans gp, RF_.up ⟨_, [], rfl, r', rfl⟩⟩ _ rfl⟩
      | exn c es hp =>
        rw [e2] at h
        intro cls d H' m' F' eF ce x
        obtain ⟨o', gt, gp, iff⟩ := o1.call ce
        refine h cls d H' m' ⟨o', p.gt.trans gt, ?_⟩
        exact x.to eF.symm (fun vs r => Reps.mono (less_gt fun a q => (iff a).mpr q) es vs (by rw [eF]; rw [eF] at r; exact r)) fun _ _ q => q

/-! ### methods -/
structure FnM (g : Gx) (X : Cx) (k c : Nat) (mth : Str) (n : Nat) (f : Fn) : Prop where
  cls : Cls X.K (g.cl c).C
  no : (g.cl c).fs.contains mth = false
  ex : ∃ (fa : Addr) (fd : FuncData) (ps : List Str), FnOk X.prog X.w X.K X.mg X.base (L2.CX X.prog X.w) k fa fd ps (spD g n f) ∧ Meth X.K (g.cl c).C mth fa ∧ Binds X.K fd ps []
theorem inst_w {c : Nat} {pk : Bool} {A : E} {σ : L2.St} {H : Hp} {Q : VK} (h : tD g W pk (.prim (pInst c) (.cons A .nil)) σ H Q) : tD g W (true && true) A σ H fun v H1 => (∃ a dx vs, v = .ref a ∧ H1 a = some (.ins (g.cl c).C dx ((g.cl c).fs.zip vs))) ∧ Q v H1 := by
  have key : tDs g W true (.cons A .nil) σ H fun vs H1 => ∃ v, vs = [v] ∧ (∃ a dx us, v = .ref a ∧ H1 a = some (.ins (g.cl c).C dx ((g.cl c).fs.zip us))) ∧ Q v H1 := by
    obtain ⟨F, m, z, eg, o, h⟩ := h
    refine ⟨F, m, z, eg, o, ?_⟩
    rw [evE_prim] at h
    cases e1 : evE true (.cons A .nil) z with
    | bad => rw [e1] at h; exact h.elim
    | exn c ds z1 => rw [e1] at h; exact h
    | ok xs z1 =>
      rw [e1] at h
      have h : aft F W m z σ H (E.np (.prim (pInst c) (.cons A .nil))) pk (match pInst c z1.hp xs with
        | some d => .ok [d] z1
        | none => .bad) _ := h
      intro vs H1 m1 p
      cases e2 : pInst c z1.hp xs with
      | none => rw [e2] at h; exact h.elim
      | some d =>
        rw [e2] at h
        obtain ⟨fs, rfl, rfl⟩ : ∃ fs, xs = [.ins c fs] ∧ d = .ins c fs := by
          unfold pInst at e2
          split at e2
          · split at e2
            · rename_i hce
              subst hce
              cases e2
              exact ⟨_, rfl, rfl⟩
            · cases e2
          · cases e2
        have r : RepsP F.g.K F.g.cl (AvP F m1) (Avs F m1 z1 σ) m1 H1 [.ins c fs] vs := p.rp
        obtain ⟨v, rfl, rv⟩ := r.one
        refine ⟨v, rfl, ?_, h [v] H1 m1 ⟨p.ok, p.gt, p.np, RF_.up ⟨v, [], rfl, rv, rfl⟩⟩ v rfl⟩
        obtain ⟨a, dx, us, e, ha, _⟩ := rv
        rw [eg] at ha
        exact ⟨a, dx, us, e, ha⟩
  exact tD_mono (tds_one key) fun v H1 ⟨v', e, q1, q2⟩ => by
    cases e
    exact ⟨q1, q2⟩
theorem call_w {n : Nat} {f : Fn} {pk : Bool} {ES : E} {σ : L2.St} {H : Hp} {Q : VK} (hE : ∀ z ds z1, evE false ES z = .ok ds z1 → ds.length = n) (h : tD g W pk (.call f ES) σ H Q) : tDs g W false ES σ H fun vs H1 => spD g n f vs H1 Q (WE W σ) := by
  obtain ⟨F, m, z, eg, o, h⟩ := h
  subst eg
  rw [evE_call] at h
  refine ⟨F, m, z, rfl, o, ?_⟩
  cases e1 : evE false ES z with
  | bad => rw [e1] at h; exact h.elim
  | exn c ds z1 => rw [e1] at h; exact h
  | ok xs z1 =>
    rw [e1] at h
    intro vs H1 m1 p
    have r : Reps F.g.K F.g.cl (Avs F m1 z1 σ) m1 H1 xs vs := p.rp
    exact sp_use (pk := pk) p (by rw [r.length]; exact hE z xs z1 e1) h
/-- o.m(e, ..) -/
theorem se_meth {k c n : Nat} {mth : Str} {o e : Expr} {es : List Expr} {f : Fn} {A E : E} {pl : Sem Bool} {apos : Pos} (D : FnM g X k c mth n f) (hr : Room k X.A) (tk : Tk X W) (ho : SE g W X o A) (ha : SA g W X (e :: es) E) (hs : noStar (e :: es) = true)
    (hE : ∀ z ds z1, evE false (.cons (.prim (pInst c) (.cons A .nil)) E) z = .ok ds z1 → ds.length = n)
    (ht : eval (.Call (.Attribute o mth apos) (e :: es) [] pos) X.env = (do
      let v ← eval o X.env
      standAt apos.atName
      let (fn, first) ← holding [v] (getMethod v mth pl)
      callWith pos fn first (backTo pos (starEach (e :: es) X.env)) (backToKw pos (keywordEach [] X.env)))) :
    SE g W X (.Call (.Attribute o mth apos) (e :: es) [] pos) (.call f (.cons (.prim (pInst c) (.cons A .nil)) E)) := fun pk => by
  obtain ⟨fa, fd, ps, F0, hm, hb⟩ := D.ex
  refine PE.weak (pe_methS (E := WE W) (ho (true && true)) D.cls hm F0 hr hb (fun σ => tk σ) (ha false) (starEach_cons (noStar_cons hs).1) (noStar_any (noStar_cons hs).2) ht) fun σ H Q q => ?_
  refine tD_mono (inst_w (tds_cons (call_w hE q))) fun v H1 ⟨⟨a, dx, us, e, ha'⟩, q2⟩ => ?_
  subst e
  exact ⟨a, dx, _, rfl, ha', zip_lookup_none D.no, q2⟩
end
end G
end
section
set_option Elab.async false
set_option linter.all false
set_option maxHeartbeats 4000000
/-! GY6: the promise of a def, by its body. -/
namespace G
open PySem PySem.Spec PyProof.Rows L2
abbrev WOf (E : XK) : WX := fun cls d _ H' => E cls d H'
section
variable {g : Gx} {F : Fx} {m m' : List Addr} {z z' : Z} {σ σ' : L2.St} {H H' : Hp}
theorem Ok.end_ (o : Ok F m' z' σ' H') (hm : F.m0 = m) : CallEnd F.g F.N0 m F.H0 z'.hp H' m' := by
  subst hm
  exact ⟨o.pre, o.mnew, o.nd, o.ml, fun k a c h1 h2 => (o.cells k a c h1 h2).mono (less_gt fun b h => .inl h) fun _ q => q, o.fr⟩
theorem end_less {b : Addr} (h : F.N0 b ∨ b ∈ m') : Avs F m' z' σ' b := .inl h
theorem val_env {ds : List D} {n : Nat} {i : Nat} {s : Slot} (h : (ds.map Slot.val ++ List.replicate n Slot.no)[i]? = some s) (hs : s ≠ .no) : ∃ d, ds[i]? = some d ∧ s = .val d := by
  by_cases hi : i < ds.length
  · rw [List.getElem?_append_left (by simpa using hi), List.getElem?_map] at h
    obtain ⟨d, h1, h2⟩ := Option.map_eq_some_iff.mp h
    exact ⟨d, h1, h2.symm⟩
  · rw [List.getElem?_append_right (by simpa using hi)] at h
    have hm := List.mem_of_getElem? h
    exact absurd (List.eq_of_mem_replicate hm) hs
theorem start_get {N : List Str} {vs : List V} {i : Nat} {v : V} (h : vs[i]? = some v) : (L2.start N vs)[i]? = some (some v) := by
  have hl := (List.getElem?_eq_some_iff.mp h).1
  unfold L2.start
  rw [List.getElem?_append_left (by simpa using hl), List.getElem?_map, h]
  rfl
theorem ok_start {N : List Str} {vs : List V} {ds hp : List D} {N0 : Addr → Prop} (hl : vs.length ≤ N.length) (n0 : ∀ a, N0 a → ∃ u, H a = some u) (m0 : ∀ a, a ∈ m → N0 a) (nd : m.Nodup) (ml : m.length = hp.length) (cells : ∀ (k : Nat) (a : Addr) (c : D), m[k]? = some a → hp[k]? = some c → Top g.K g.cl N0 m H a c)
    (r : Reps g.K g.cl N0 m H ds vs) : Ok ⟨g, N0, m, H⟩ m ⟨ds.map Slot.val ++ List.replicate (N.length - ds.length) Slot.no, hp⟩ (L2.start N vs) H := by
  have none : ∀ {i : Nat} {d : D}, ¬ ((ds.map Slot.val ++ List.replicate (N.length - ds.length) Slot.no)[i]? = some (.own d) ∨ (ds.map Slot.val ++ List.replicate (N.length - ds.length) Slot.no)[i]? = some (.lock d)) := fun {i d} h => by
    rcases h with h | h <;> obtain ⟨d', _, e⟩ := val_env h (by intro q; cases q) <;> cases e
  have av : ∀ a, Avs ⟨g, N0, m, H⟩ m ⟨ds.map Slot.val ++ List.replicate (N.length - ds.length) Slot.no, hp⟩ (L2.start N vs) a → N0 a := by
    rintro a ((h | h) | ⟨i, ⟨d, hd⟩, _⟩)
    · exact h
    · exact m0 a h
    · exact absurd hd none
  have gt := less_gt (m := m) (H := H) av
  refine ⟨?_, ml, nd, fun k a d h1 h2 => (cells k a d h1 h2).mono gt fun _ q => q, fun i d h => ?_, fun i d h => absurd h none, fun i j a h => ?_, fun i a h => ?_, fun i d a h => absurd (.inl h) none, List.prefix_refl m, fun a h => .inl h, fun a o h _ => h, n0, m0⟩
  · unfold L2.start
    simp only [List.length_append, List.length_map, List.length_replicate]
    rw [r.length]
  · obtain ⟨d', h1, e⟩ := val_env h (by intro q; cases q)
    cases e
    obtain ⟨v, hv, rv⟩ := r.get h1
    exact ⟨v, start_get hv, Rep.mono gt d v rv⟩
  · obtain ⟨⟨d, hd⟩, _⟩ := h
    exact absurd hd none
  · obtain ⟨⟨d, hd⟩, _⟩ := h
    exact absurd hd none
/-- what a def's promise asks of its answer -/
def spEnd (g : Gx) (N0 : Addr → Prop) (m : List Addr) (H : Hp) (Q : VK) (E : XK) (f : RF) : Prop :=
  match f with
  | .ok d hp' => ∀ v H' m', CallEnd g N0 m H hp' H' m' → Rep g.K g.cl (fun b => N0 b ∨ b ∈ m') m' H' d v → Q v H'
  | .exn c es hp' => ∀ cls d H' m' (F : Fx), F.g = g → CallEnd g N0 m H hp' H' m' → ExcAt F (fun b => N0 b ∨ b ∈ m') m' H' c es cls d → E cls d H'
  | .bad => False
/-- behind the body -/
theorem body_end {B : S} {n : Nat} {E : XK} {Q : VK} {ds hp : List D} {N0 : Addr → Prop} {f : RF} (o : Ok ⟨g, N0, m, H⟩ m z σ H)
    (hf : (match evS B z with
      | .ret d z => .ok d z.hp
      | .next z => .ok .non z.hp
      | .exn c ds z => .exn c ds z.hp
      | _ => .bad) = f)
    (h : spEnd g N0 m H Q E f) : tS g (WOf E) B { nx := fun _ H' => Q .non H', rt := Q } σ H := by
  refine ⟨⟨g, N0, m, H⟩, m, z, rfl, o, ?_⟩
  subst hf
  cases e : evS B z with
  | bad => rw [e] at h; exact h
  | brk z1 => rw [e] at h; exact h.elim
  | cont z1 => rw [e] at h; exact h.elim
  | ret d z1 =>
    rw [e] at h
    exact fun v σ' H' m' p r => h v H' m' (p.ok.end_ rfl) (Rep.mono (less_gt fun b q => end_less q) d v r)
  | next z1 =>
    rw [e] at h
    exact fun σ' H' m' p => h .non H' m' (p.ok.end_ rfl) rfl
  | exn c es z1 =>
    rw [e] at h
    exact fun cls d σ' H' m' p x => h cls d H' m' ⟨g, N0, m, H⟩ rfl (p.ok.end_ rfl) (x.to rfl (fun vs r => Reps.mono (less_gt fun b q => end_less q) es vs r) fun _ _ q => q)
end
section
variable {P : Program} {w : World} {K : PySem.W.Frag} {mg : Str → Option Value} {base : Heap} {g : Gx} {k n : Nat} {f : Addr} {name qual : Str} {params : Arguments} {body : List Stmt} {scope : Scope} {dV kV doc pm cdv ct oc : Value} {an od : Option Addr} {osl : Array (Option Value)} {N ps : List Str} {B : S}
/-- a def -/
theorem fn_spD (lk : K.lookup f = some ⟨oc, od, .func (PySem.W.fnOf name qual params body scope dV kV doc pm an cdv ct), osl⟩) (hcd : PySem.W.codeIn K cdv qual = true) (S : FnScope N ps scope) (hn : ps.length = n)
    (hss : ∀ (A : Around) (outer : List Env) (s : Shared) (H : Hp) (E : XK), Room k (A.deeper (envOfC qual scope s.heap.objs.size f cdv)) → SS g (WOf E) (cxOf (L2.CX P w) P w K mg base N qual scope f cdv A outer s H E) body B) :
    FnOk P w K mg base (L2.CX P w) (k + 1) f (PySem.W.fnOf name qual params body scope dV kV doc pm an cdv ct) ps (spD g n (evF N.length B)) := by
  refine fn_of lk hcd S (fun vs H Q E h => h.1.trans hn.symm) fun A outer s H vs Q E hr hsp => ⟨_, hss A outer s H E hr, ?_⟩
  obtain ⟨hl, N0, m, hp, ds, n0, m0, nd, ml, cells, r, h⟩ := hsp
  have hpl : ps.length ≤ N.length := by
    have := congrArg List.length S.pre
    rw [List.length_take] at this
    omega
  exact body_end (n := n) (ds := ds) (hp := hp) (ok_start (N := N) (by omega) n0 m0 nd ml cells r) rfl h
end
end G
end
section
set_option Elab.async false
set_option linter.all false
set_option maxHeartbeats 4000000
/-! GY7: own cells let go at a def's end; __init__. -/
namespace G
open PySem PySem.Spec PyProof.Rows L2
section
variable {K : PySem.W.Frag} {cl : Nat → CI} {Av Av' : Addr → Prop} {m m' : List Addr} {H : Hp} {n : Nat}
theorem pre_back {k : Nat} {a : Addr} (p : m <+: m') (hk : k < m.length) (h : m'[k]? = some a) : m[k]? = some a := by
  obtain ⟨r, rfl⟩ := p
  rw [List.getElem?_append_left hk] at h
  exact h
mutual
theorem noRef_rep (p : m <+: m') (hn : n = m.length) (hA : ∀ a, Av a → Av' a) : ∀ (d : D) (v : V), noRef n d = true → Rep K cl Av' m' H d v → Rep K cl Av m H d v
  | .non, _, _, h => h
  | .bl _, _, _, h => h
  | .int _, _, _, h => h
  | .str _, _, _, h => h
  | .scr _, _, _, h => h
  | .tup xs, _, e, h => by
    obtain ⟨a, vs, e1, q, r⟩ := h
    exact ⟨a, vs, e1, q, noRefs_reps p hn hA xs vs e r⟩
  | .lst xs, _, e, h => by
    obtain ⟨a, vs, e1, q, na, r⟩ := h
    exact ⟨a, vs, e1, q, fun z => na (hA a z), noRefs_reps p hn hA xs vs e r⟩
  | .dct tk ks ws, _, e, h => by
    obtain ⟨a, o, u, vl, e1, q, t, r⟩ := h
    exact ⟨a, o, u, vl, e1, q, t, noRefs_reps p hn hA ws vl e r⟩
  | .ref k, _, e, h => by
    obtain ⟨a, q, e1⟩ := h
    have hk : k < n := of_decide_eq_true e
    exact ⟨a, pre_back p (by rw [← hn]; exact hk) q, e1⟩
  | .ins c fs, _, e, h => by
    obtain ⟨a, dx, vs, e1, q, na, r⟩ := h
    exact ⟨a, dx, vs, e1, q, fun z => na (hA a z), noRefs_reps p hn hA fs vs e r⟩
theorem noRefs_reps (p : m <+: m') (hn : n = m.length) (hA : ∀ a, Av a → Av' a) : ∀ (ds : List D) (vs : List V), noRefs n ds = true → Reps K cl Av' m' H ds vs → Reps K cl Av m H ds vs
  | [], _, _, h => h
  | d :: ds, _, e, h => by
    obtain ⟨v, r, e1, q, t⟩ := h
    have e : (noRef n d && noRefs n ds) = true := e
    rw [Bool.and_eq_true] at e
    exact ⟨v, r, e1, noRef_rep p hn hA d v e.1 q, noRefs_reps p hn hA ds r e.2 t⟩
end
theorem noRef_top (p : m <+: m') (hn : n = m.length) (hA : ∀ a, Av a → Av' a) {a : Addr} {d : D} (e : noRef n d = true) (h : Top K cl Av' m' H a d) : Top K cl Av m H a d := by
  cases d with
  | lst xs =>
    obtain ⟨vs, q, r⟩ := h
    exact ⟨vs, q, noRefs_reps p hn hA xs vs e r⟩
  | dct tk ks ws =>
    obtain ⟨u, vl, q, t, r⟩ := h
    exact ⟨u, vl, q, t, noRefs_reps p hn hA ws vl e r⟩
  | ins c fs =>
    obtain ⟨dx, vs, q, r⟩ := h
    exact ⟨dx, vs, q, noRefs_reps p hn hA fs vs e r⟩
  | _ => exact h.elim
mutual
theorem unsh_rep {hp : List D} (p : m <+: m') (hn : n = m.length) (hA : ∀ a, Av a → Av' a) (cells : ∀ (k : Nat) (a : Addr) (c : D), m'[k]? = some a → hp[k]? = some c → Top K cl Av' m' H a c) (new : ∀ (k : Nat) (a : Addr), n ≤ k → m'[k]? = some a → ¬ Av a) :
    ∀ (d d' : D) (v : V), unsh n hp d = some d' → Rep K cl Av' m' H d v → Rep K cl Av m H d' v
  | .non, _, _, e, h => by cases e; exact h
  | .bl _, _, _, e, h => by cases e; exact h
  | .int _, _, _, e, h => by cases e; exact h
  | .str _, _, _, e, h => by cases e; exact h
  | .scr _, _, _, e, h => by cases e; exact h
  | .tup xs, d', _, e, h => by
    obtain ⟨a, vs, e1, q, r⟩ := h
    obtain ⟨ys, hy, rfl⟩ := Option.map_eq_some_iff.mp (show (unshs n hp xs).map D.tup = some d' from e)
    exact ⟨a, vs, e1, q, unshs_reps p hn hA cells new xs ys vs hy r⟩
  | .lst xs, d', _, e, h => by
    obtain ⟨a, vs, e1, q, na, r⟩ := h
    obtain ⟨ys, hy, rfl⟩ := Option.map_eq_some_iff.mp (show (unshs n hp xs).map D.lst = some d' from e)
    exact ⟨a, vs, e1, q, fun z => na (hA a z), unshs_reps p hn hA cells new xs ys vs hy r⟩
  | .dct tk ks ws, d', _, e, h => by
    have e : (if noRefs n ws = true then some (D.dct tk ks ws) else none) = some d' := e
    by_cases hw : noRefs n ws = true
    · rw [if_pos hw] at e
      cases e
      exact noRef_rep p hn hA _ _ hw h
    · rw [if_neg hw] at e
      cases e
  | .ins c fs, d', _, e, h => by
    have e : (if noRefs n fs = true then some (D.ins c fs) else none) = some d' := e
    by_cases hw : noRefs n fs = true
    · rw [if_pos hw] at e
      cases e
      exact noRef_rep p hn hA _ _ hw h
    · rw [if_neg hw] at e
      cases e
  | .ref k, d', _, e, h => by
    obtain ⟨a, q, e1⟩ := h
    have e : (if k < n then some (D.ref k) else (match hp[k]? with
      | some (.lst xs) => if noRefs n xs = true then some (D.lst xs) else none
      | some (.ins c fs) => if noRefs n fs = true then some (D.ins c fs) else none
      | _ => none)) = some d' := e
    by_cases hk : k < n
    · rw [if_pos hk] at e
      cases e
      exact ⟨a, pre_back p (by rw [← hn]; exact hk) q, e1⟩
    · rw [if_neg hk] at e
      split at e
      · rename_i xs hx
        split at e
        · rename_i hw
          cases e
          obtain ⟨vs, q2, r⟩ := cells k a _ q hx
          exact ⟨a, vs, e1, q2, new k a (Nat.le_of_not_lt hk) q, noRefs_reps p hn hA xs vs hw r⟩
        · cases e
      · rename_i c fs hx
        split at e
        · rename_i hw
          cases e
          obtain ⟨dx, vs, q2, r⟩ := cells k a _ q hx
          exact ⟨a, dx, vs, e1, q2, new k a (Nat.le_of_not_lt hk) q, noRefs_reps p hn hA fs vs hw r⟩
        · cases e
      · cases e
theorem unshs_reps {hp : List D} (p : m <+: m') (hn : n = m.length) (hA : ∀ a, Av a → Av' a) (cells : ∀ (k : Nat) (a : Addr) (c : D), m'[k]? = some a → hp[k]? = some c → Top K cl Av' m' H a c) (new : ∀ (k : Nat) (a : Addr), n ≤ k → m'[k]? = some a → ¬ Av a) :
    ∀ (ds ds' : List D) (vs : List V), unshs n hp ds = some ds' → Reps K cl Av' m' H ds vs → Reps K cl Av m H ds' vs
  | [], _, _, e, h => by cases e; exact h
  | d :: ds, ds', _, e, h => by
    obtain ⟨v, r, e1, q, t⟩ := h
    have e : (match unsh n hp d, unshs n hp ds with
      | some x, some r => some (x :: r)
      | _, _ => none) = some ds' := e
    cases h1 : unsh n hp d with
    | none => rw [h1] at e; cases e
    | some x =>
      cases h2 : unshs n hp ds with
      | none => rw [h1, h2] at e; cases e
      | some y =>
        rw [h1, h2] at e
        cases e
        exact ⟨v, r, e1, unsh_rep p hn hA cells new d x v h1 q, unshs_reps p hn hA cells new ds y r h2 t⟩
end
end
theorem noRefs_get {n : Nat} : ∀ {ds : List D} {k : Nat} {d : D}, noRefs n ds = true → ds[k]? = some d → noRef n d = true
  | [], _, _, _, h => by simp at h
  | d :: ds, 0, x, e, h => by
    have e : (noRef n d && noRefs n ds) = true := e
    rw [Bool.and_eq_true] at e
    simp at h
    rw [← h]
    exact e.1
  | d :: ds, k + 1, x, e, h => by
    have e : (noRef n d && noRefs n ds) = true := e
    rw [Bool.and_eq_true] at e
    exact noRefs_get e.2 (by simpa using h)
section
variable {g : Gx} {F : Fx} {m m' : List Addr} {N0 : Addr → Prop} {z' : Z} {σ' : L2.St} {H' : Hp}
/-- how a frame's own part lies over what was given -/
structure Over (F : Fx) (N0 : Addr → Prop) (m : List Addr) : Prop where
  pre : m <+: F.m0
  m1 : ∀ a, a ∈ F.m0 → a ∈ m ∨ F.H0 a = none
  N : ∀ a, N0 a → F.N0 a
  n0 : ∀ a, N0 a → ∃ u, F.H0 a = some u
  nd : m.Nodup
  mN : ∀ a, a ∈ m → N0 a
theorem Over.less (v : Over F N0 m) (o : Ok F m' z' σ' H') {a : Addr} (h : N0 a ∨ a ∈ m) : Avs F m' z' σ' a := by
  rcases h with h | h
  · exact .inl (.inl (v.N a h))
  · exact .inl (.inl (v.N a (v.mN a h)))
theorem Over.new (v : Over F N0 m) (o : Ok F m' z' σ' H') {k : Nat} {a : Addr} (hk : m.length ≤ k) (h : m'[k]? = some a) : ¬ (N0 a ∨ a ∈ m) := by
  have out : ¬ a ∈ m := fun hm => by
    obtain ⟨j, hj, e⟩ := List.getElem_of_mem hm
    have e2 : m'[j]? = some a := pre_get o.pre (pre_get v.pre (by rw [List.getElem?_eq_getElem hj, e]))
    have := L2.nd_ix o.nd h e2
    omega
  rintro (q | q)
  · obtain ⟨u, hu⟩ := v.n0 a q
    rcases o.mnew a (List.mem_of_getElem? h) with w | w
    · rcases v.m1 a w with w | w
      · exact out w
      · rw [hu] at w; cases w
    · rw [hu] at w; cases w
  · exact out q
theorem Over.callEnd (v : Over F N0 m) (o : Ok F m' z' σ' H') (hr : noRefs m.length (z'.hp.take m.length) = true) : CallEnd F.g N0 m F.H0 (z'.hp.take m.length) H' m := by
  have p : m <+: m' := v.pre.trans o.pre
  have hl : m.length ≤ m'.length := by
    obtain ⟨r, rfl⟩ := p
    simp
  refine ⟨List.prefix_refl m, fun a h => .inl h, v.nd, by rw [List.length_take, ← o.ml]; omega, fun k a c h1 h2 => ?_, fun a u h n => o.fr a u h fun hm => ?_⟩
  · have hk := (List.getElem?_eq_some_iff.mp h1).1
    have h3 : z'.hp[k]? = some c := by
      rw [List.getElem?_take, if_pos hk] at h2
      exact h2
    exact noRef_top p rfl (fun a q => v.less o q) (noRefs_get hr h2) (o.cells k a c (pre_get p h1) h3)
  · rcases v.m1 a hm with w | w
    · exact n w
    · rw [h] at w; cases w
theorem endU_ok {E : XK} {Q : VK} {o : O} {z : Z} {m : List Addr} {σ : L2.St} {H : Hp} (v : Over F N0 m) (P : ∀ z' σ' H' m', PS_ F F.m0 z σ H z' σ' H' m' → Ok F m' z' σ' H') {f : RF} (hf : spEnd F.g N0 m F.H0 Q E (endU m.length f)) :
    (∀ d z', f = .ok d z'.hp → ∀ v' σ' H' m', PS_ F F.m0 z σ H z' σ' H' m' → Rep F.g.K F.g.cl (Avs F m' z' σ') m' H' d v' → Q v' H') ∧
    (∀ c es z', f = .exn c es z'.hp → ∀ cls d σ' H' m', PS_ F F.m0 z σ H z' σ' H' m' → ExcAt F (Avs F m' z' σ') m' H' c es cls d → E cls d H') ∧ f ≠ .bad := by
  refine ⟨fun d z' e v' σ' H' m' p r => ?_, fun c es z' e cls d σ' H' m' p x => ?_, fun e => ?_⟩
  · subst e
    have hf : spEnd F.g N0 m F.H0 Q E (if noRefs m.length (z'.hp.take m.length) then (match unsh m.length z'.hp d with
      | some d' => .ok d' (z'.hp.take m.length)
      | none => .bad) else .bad) := hf
    by_cases hr : noRefs m.length (z'.hp.take m.length) = true
    · rw [if_pos hr] at hf
      cases hu : unsh m.length z'.hp d with
      | none => rw [hu] at hf; exact hf.elim
      | some d' =>
        rw [hu] at hf
        exact hf v' H' m (v.callEnd p.ok hr) (unsh_rep (v.pre.trans p.ok.pre) rfl (fun a q => v.less p.ok q) p.ok.cells (fun k a hk h => v.new p.ok hk h) d d' v' hu r)
    · rw [if_neg hr] at hf
      exact hf.elim
  · subst e
    have hf : spEnd F.g N0 m F.H0 Q E (if noRefs m.length (z'.hp.take m.length) && noRefs m.length es then .exn c es (z'.hp.take m.length) else .bad) := hf
    by_cases hr : (noRefs m.length (z'.hp.take m.length) && noRefs m.length es) = true
    · rw [if_pos hr] at hf
      rw [Bool.and_eq_true] at hr
      exact hf cls d H' m F rfl (v.callEnd p.ok hr.1) (x.to rfl (fun vs r => noRefs_reps (v.pre.trans p.ok.pre) rfl (fun a q => v.less p.ok q) es vs hr.2 r) fun _ _ q => q)
    · rw [if_neg hr] at hf
      exact hf.elim
  · subst e
    exact hf
end
end G
end
section
set_option Elab.async false
set_option linter.all false
set_option maxHeartbeats 4000000
/-! GY8: defs with own cells; __init__. -/
namespace G
open PySem PySem.Spec PyProof.Rows L2
section
variable {P : Program} {w : World} {K : PySem.W.Frag} {mg : Str → Option Value} {base : Heap} {g : Gx} {k n c : Nat} {f : Addr} {name qual : Str} {params : Arguments} {body : List Stmt} {scope : Scope} {dV kV doc pm cdv ct oc : Value} {an od : Option Addr} {osl : Array (Option Value)} {N ps : List Str} {B : S}
theorem pre_len (S : FnScope N ps scope) : ps.length ≤ N.length := by
  have := congrArg List.length S.pre
  rw [List.length_take] at this
  omega
/-- a def that makes cells and lets them go -/
theorem fn_spU (lk : K.lookup f = some ⟨oc, od, .func (PySem.W.fnOf name qual params body scope dV kV doc pm an cdv ct), osl⟩) (hcd : PySem.W.codeIn K cdv qual = true) (S : FnScope N ps scope) (hn : ps.length = n)
    (hss : ∀ (A : Around) (outer : List Env) (s : Shared) (H : Hp) (E : XK), Room k (A.deeper (envOfC qual scope s.heap.objs.size f cdv)) → SS g (WOf E) (cxOf (L2.CX P w) P w K mg base N qual scope f cdv A outer s H E) body B) :
    FnOk P w K mg base (L2.CX P w) (k + 1) f (PySem.W.fnOf name qual params body scope dV kV doc pm an cdv ct) ps (spD g n (evU N.length B)) := by
  refine fn_of lk hcd S (fun vs H Q E h => h.1.trans hn.symm) fun A outer s H vs Q E hr hsp => ⟨_, hss A outer s H E hr, ?_⟩
  obtain ⟨hl, N0, m, hp, ds, n0, m0, nd, ml, cells, r, h⟩ := hsp
  have hpl := pre_len S
  have o := ok_start (N := N) (by omega) n0 m0 nd ml cells r
  have v : Over ⟨g, N0, m, H⟩ N0 m := ⟨List.prefix_refl m, fun a h => .inl h, fun a h => h, n0, nd, m0⟩
  refine ⟨⟨g, N0, m, H⟩, m, ⟨ds.map Slot.val ++ List.replicate (N.length - ds.length) Slot.no, hp⟩, rfl, o, ?_⟩
  have h : spEnd g N0 m H Q E (endU m.length (match evS B ⟨ds.map Slot.val ++ List.replicate (N.length - ds.length) Slot.no, hp⟩ with
    | .ret d z => .ok d z.hp
    | .next z => .ok .non z.hp
    | .exn c ds z => .exn c ds z.hp
    | _ => .bad)) := by
    rw [ml]
    exact h
  obtain ⟨h1, h2, h3⟩ := endU_ok (F := ⟨g, N0, m, H⟩) (z := ⟨ds.map Slot.val ++ List.replicate (N.length - ds.length) Slot.no, hp⟩) (σ := L2.start N vs) (H := H) (o := .bad) v (fun z' σ' H' m' p => p.ok) h
  cases e : evS B ⟨ds.map Slot.val ++ List.replicate (N.length - ds.length) Slot.no, hp⟩ with
  | bad => rw [e] at h3; exact (h3 rfl).elim
  | brk z1 => rw [e] at h3; exact (h3 rfl).elim
  | cont z1 => rw [e] at h3; exact (h3 rfl).elim
  | ret d z1 => exact fun v' σ' H' m' p r => h1 d z1 (by rw [e]) v' σ' H' m' p r
  | next z1 => exact fun σ' H' m' p => h1 .non z1 (by rw [e]) .non σ' H' m' p rfl
  | exn c es z1 => exact fun cls d σ' H' m' p x => h2 c es z1 (by rw [e]) cls d σ' H' m' p x
theorem ok_startI {N : List Str} {x dx : Addr} {ws : List V} {ds hp : List D} {m : List Addr} {N0 : Addr → Prop} {H Hb : Hp} (hl : ws.length + 1 ≤ N.length) (sm : Same Hb H) (hx : Hb x = none) (hi : H x = some (.ins (g.cl c).C dx [])) (n0 : ∀ a, N0 a → ∃ u, Hb a = some u) (m0 : ∀ a, a ∈ m → N0 a) (nd : m.Nodup)
    (ml : m.length = hp.length) (cells : ∀ (k : Nat) (a : Addr) (c : D), m[k]? = some a → hp[k]? = some c → Top g.K g.cl N0 m Hb a c) (r : Reps g.K g.cl N0 m Hb ds ws) :
    Ok ⟨g, fun a => N0 a ∨ a = x, m ++ [x], Hb⟩ (m ++ [x]) ⟨.val (.ref hp.length) :: (ds.map Slot.val ++ List.replicate (N.length - 1 - ds.length) Slot.no), hp ++ [.ins c []]⟩ (L2.start N (.ref x :: ws)) H := by
  have nx : ¬ N0 x := fun h => by
    obtain ⟨u, e⟩ := n0 x h
    rw [hx] at e
    cases e
  have none : ∀ {i : Nat} {d : D}, ¬ ((Slot.val (.ref hp.length) :: (ds.map Slot.val ++ List.replicate (N.length - 1 - ds.length) Slot.no))[i]? = some (.own d) ∨ (Slot.val (.ref hp.length) :: (ds.map Slot.val ++ List.replicate (N.length - 1 - ds.length) Slot.no))[i]? = some (.lock d)) := fun {i d} h => by
    cases i with
    | zero => rcases h with h | h <;> cases h
    | succ i =>
      simp only [List.getElem?_cons_succ] at h
      rcases h with h | h <;> obtain ⟨d', _, e⟩ := val_env h (by intro q; cases q) <;> cases e
  have av : ∀ a, Avs ⟨g, fun a => N0 a ∨ a = x, m ++ [x], Hb⟩ (m ++ [x]) ⟨.val (.ref hp.length) :: (ds.map Slot.val ++ List.replicate (N.length - 1 - ds.length) Slot.no), hp ++ [.ins c []]⟩ (L2.start N (.ref x :: ws)) a → N0 a ∨ a = x := by
    rintro a ((h | h) | ⟨i, ⟨d, hd⟩, _⟩)
    · exact h
    · rcases List.mem_append.mp h with q | q
      · exact .inl (m0 a q)
      · exact .inr (List.mem_singleton.mp q)
    · exact absurd hd none
  have gt : Gt N0 (Avs ⟨g, fun a => N0 a ∨ a = x, m ++ [x], Hb⟩ (m ++ [x]) ⟨.val (.ref hp.length) :: (ds.map Slot.val ++ List.replicate (N.length - 1 - ds.length) Slot.no), hp ++ [.ins c []]⟩ (L2.start N (.ref x :: ws))) m (m ++ [x]) Hb H :=
    ⟨fun a o h _ => sm a o h, fun a xs h => sm a _ h, fun a o u h => sm a _ h, fun a o h q => (av a q).resolve_right (fun e => by rw [e, hx] at h; cases h), List.prefix_append m [x], fun a o h => ⟨o, sm a o h⟩⟩
  have xm : x ∉ m := fun h => nx (m0 x h)
  refine ⟨?_, by simp [ml], ?_, fun k a d h1 h2 => ?_, fun i d h => ?_, fun i d h => absurd h none, fun i j a h => ?_, fun i a h => ?_, fun i d a h => absurd (.inl h) none, List.prefix_refl _, fun a h => .inl h, fun a o h _ => sm a o h, fun a h => ?_, fun a h => ?_⟩
  · unfold L2.start
    have := r.length
    simp only [List.length_append, List.length_map, List.length_replicate, List.length_cons]
    omega
  · rw [List.nodup_append]
    refine ⟨nd, by simp, fun a ha b hb e => ?_⟩
    rw [List.mem_singleton.mp hb] at e
    rw [e] at ha
    exact xm ha
  · by_cases hk : k < m.length
    · rw [List.getElem?_append_left hk] at h1
      rw [List.getElem?_append_left (by rw [← ml]; exact hk)] at h2
      have t := cells k a d h1 h2
      obtain ⟨u, hu, _⟩ := t.there
      exact t.mono gt fun u q => sm a u q
    · rw [List.getElem?_append_right (Nat.le_of_not_lt hk)] at h1
      rw [List.getElem?_append_right (by rw [← ml]; exact Nat.le_of_not_lt hk)] at h2
      have ek : k - m.length = 0 := by
        have := (List.getElem?_eq_some_iff.mp h1).1
        simp at this
        exact this
      rw [ek] at h1
      rw [← ml, ek] at h2
      simp at h1 h2
      subst h1 h2
      refine ⟨dx, [], ?_, rfl⟩
      rw [List.zip_nil_right]
      exact hi
  · cases i with
    | zero =>
      have h : some (Slot.val (.ref hp.length)) = some (Slot.val d) := h
      cases h
      refine ⟨.ref x, start_get rfl, x, ?_, rfl⟩
      rw [← ml, List.getElem?_append_right (Nat.le_refl _)]
      simp
    | succ i =>
      have h : (ds.map Slot.val ++ List.replicate (N.length - 1 - ds.length) Slot.no)[i]? = some (.val d) := h
      obtain ⟨d', h1, e⟩ := val_env h (by intro q; cases q)
      cases e
      obtain ⟨v, hv, rv⟩ := r.get h1
      exact ⟨v, start_get (by simpa using hv), Rep.mono gt d v rv⟩
  · obtain ⟨⟨d, hd⟩, _⟩ := h
    exact absurd hd none
  · obtain ⟨⟨d, hd⟩, _⟩ := h
    exact absurd hd none
  · rcases h with h | h
    · obtain ⟨u, q⟩ := n0 a h
      exact ⟨u, sm a u q⟩
    · rw [h]
      exact ⟨_, hi⟩
  · rcases List.mem_append.mp h with q | q
    · exact .inl (m0 a q)
    · exact .inr (List.mem_singleton.mp q)
/-- an __init__ -/
theorem fn_spI {nf : Nat} (lk : K.lookup f = some ⟨oc, od, .func (PySem.W.fnOf name qual params body scope dV kV doc pm an cdv ct), osl⟩) (hcd : PySem.W.codeIn K cdv qual = true) (S : FnScope N ps scope) (hn : ps.length = n + 1)
    (hss : ∀ (A : Around) (outer : List Env) (s : Shared) (H : Hp) (E : XK), Room k (A.deeper (envOfC qual scope s.heap.objs.size f cdv)) → SS g (WOf E) (cxOf (L2.CX P w) P w K mg base N qual scope f cdv A outer s H E) body B) :
    FnOk P w K mg base (L2.CX P w) (k + 1) f (PySem.W.fnOf name qual params body scope dV kV doc pm an cdv ct) ps (spI g c n (evI c nf (N.length - 1) B)) := by
  refine fn_of lk hcd S (fun vs H Q E h => h.1.trans hn.symm) fun A outer s H vs Q E hr hsp => ⟨_, hss A outer s H E hr, ?_⟩
  obtain ⟨hl, x, dx, ws, Hb, N0, m, hp, ds, rfl, sm, hx, hi, n0, m0, nd, ml, cells, r, h⟩ := hsp
  have hpl := pre_len S
  rw [List.length_cons] at hl
  have o := ok_startI (c := c) (N := N) (by omega) sm hx hi n0 m0 nd ml cells r
  have v : Over ⟨g, fun a => N0 a ∨ a = x, m ++ [x], Hb⟩ N0 m := ⟨List.prefix_append m [x], fun a h => by
    rcases List.mem_append.mp h with q | q
    · exact .inl q
    · exact .inr (by rw [List.mem_singleton.mp q]; exact hx), fun a h => .inl h, n0, nd, m0⟩
  refine ⟨_, _, _, rfl, o, ?_⟩
  generalize hz : (⟨.val (.ref hp.length) :: (ds.map Slot.val ++ List.replicate (N.length - 1 - ds.length) Slot.no), hp ++ [.ins c []]⟩ : Z) = z at o ⊢
  have h : match (match endU hp.length (match evS B z with
      | .next z => RF.ok (.ref hp.length) z.hp
      | .exn c ds z => .exn c ds z.hp
      | _ => .bad) with
    | .ok (.ins c' fs) hp' => if c' = c ∧ fs.length = nf then RF.ok (.ins c fs) hp' else .bad
    | .exn c ds hp => .exn c ds hp
    | _ => .bad) with
    | .ok d hp' => ∀ H' m', CallEnd g N0 m Hb hp' H' m' → Rep g.K g.cl (fun b => N0 b ∨ b ∈ m') m' H' d (.ref x) → Q .non H'
    | .exn c es hp' => ∀ cls d H' m' (F : Fx), F.g = g → CallEnd g N0 m Hb hp' H' m' → ExcAt F (fun b => N0 b ∨ b ∈ m') m' H' c es cls d → E cls d H'
    | .bad => False := by
    rw [← hz]
    exact h
  rw [← ml] at h
  have key : spEnd g N0 m Hb (fun v H' => v = .ref x → Q .non H') E (endU m.length (match evS B z with
      | .next z => RF.ok (.ref m.length) z.hp
      | .exn c ds z => .exn c ds z.hp
      | _ => .bad)) := by
    generalize endU m.length (match evS B z with
      | .next z => RF.ok (.ref m.length) z.hp
      | .exn c ds z => .exn c ds z.hp
      | _ => .bad) = G at h ⊢
    cases G with
    | bad => exact h
    | exn c' es hp' => exact h
    | ok d hp' =>
      cases d with
      | ins c' fs =>
        by_cases hc : c' = c ∧ fs.length = nf
        · simp only [hc, and_self, if_true] at h
          intro v' H' m' ce rd e
          subst e
          rw [hc.1] at rd
          exact h H' m' ce rd
        · simp only [hc, if_false] at h
      | _ => exact h.elim
  obtain ⟨h1, h2, h3⟩ := endU_ok (F := ⟨g, fun a => N0 a ∨ a = x, m ++ [x], Hb⟩) (z := z) (σ := L2.start N (.ref x :: ws)) (H := H) (o := .bad) v (fun z' σ' H' m' p => p.ok) key
  cases e : evS B z with
  | bad => rw [e] at h3; exact (h3 rfl).elim
  | brk z1 => rw [e] at h3; exact (h3 rfl).elim
  | cont z1 => rw [e] at h3; exact (h3 rfl).elim
  | ret d z1 => rw [e] at h3; exact (h3 rfl).elim
  | next z1 =>
    intro σ' H' m' p
    refine h1 (.ref m.length) z1 (by rw [e]) (.ref x) σ' H' m' p ⟨x, ?_, rfl⟩ rfl
    refine pre_get p.ok.pre ?_
    show (m ++ [x])[m.length]? = some x
    rw [List.getElem?_append_right (Nat.le_refl _)]
    simp
  | exn c es z1 => exact fun cls d σ' H' m' p x => h2 c es z1 (by rw [e]) cls d σ' H' m' p x
end
end G
end
section
set_option Elab.async false
set_option linter.all false
set_option maxHeartbeats 4000000
/-! GX6: isinstance, sorted ints, index, reversed slices, list(range). -/
namespace G
open PySem PySem.Spec PyProof.Rows L2
section
variable {g : Gx} {W : WX} {X : Cx} {pos p apos : Pos}
/-! ### isinstance -/
def tyD (cl : Nat → CI) : D → Value
  | .non => .type "NoneType"
  | .bl _ => .type "bool"
  | .int _ => .type "int"
  | .str _ => .type "str"
  | .tup _ => .type "tuple"
  | .lst _ => .type "list"
  | .dct _ _ _ => .type "dict"
  | .ins c _ => .ref (cl c).C
  | .ref _ => .type "list"
  | .scr _ => .type "list"
/-- what is asked of a class value u for isinstance to tell kd -/
structure KdF (K : PySem.W.Frag) (cl : Nat → CI) (nc : Nat) (kd : Kd) (u : Value) : Prop where
  non : PySem.W.kitOne K (.type "NoneType") u = some (isKd .non kd)
  bl : PySem.W.kitOne K (.type "bool") u = some (isKd (.bl true) kd)
  int : PySem.W.kitOne K (.type "int") u = some (isKd (.int 0) kd)
  str : PySem.W.kitOne K (.type "str") u = some (isKd (.str "") kd)
  tup : PySem.W.kitOne K (.type "tuple") u = some (isKd (.tup []) kd)
  lst : PySem.W.kitOne K (.type "list") u = some (isKd (.lst []) kd)
  dct : PySem.W.kitOne K (.type "dict") u = some (isKd (.dct false [] []) kd)
  ins : ∀ c, c < nc → PySem.W.kitOne K (.ref (cl c).C) u = some (isKd (.ins c []) kd)
/-- what is asked of a class for its instances to be told -/
structure TyF (K : PySem.W.Frag) (C : Addr) : Prop where
  c : Cls K C
  ha : PySem.W.findIn K (.ref C) "__class__" = some (some (.builtin "object.__class__"))
  hn : PySem.W.specialIn K (.builtin "object.__class__") "__get__" = some (some (.builtin "getset_descriptor.__get__"))
  htk : PySem.W.takesIn K (.builtin "object.__class__") = some true
  hm : PySem.W.mroIn K C (.type "object") = some true
def okK (nc : Nat) : D → Prop
  | .ins c _ => c < nc
  | .ref _ => False
  | _ => True
def okK2 (nc : Nat) : D → Prop
  | .ins c _ => c < nc
  | .ref _ => False
  | .scr _ => False
  | .dct true _ _ => False
  | _ => True
theorem kd_one {K : PySem.W.Frag} {cl : Nat → CI} {nc : Nat} {kd : Kd} {u : Value} (f : KdF K cl nc kd u) {d : D} (h : okK nc d) : PySem.W.kitOne K (tyD cl d) u = some (isKd d kd) := by
  cases d with
  | non => exact f.non
  | bl b => rw [show isKd (.bl b) kd = isKd (.bl true) kd by cases kd <;> rfl]; exact f.bl
  | int i => rw [show isKd (.int i) kd = isKd (.int 0) kd by cases kd <;> rfl]; exact f.int
  | str i => rw [show isKd (.str i) kd = isKd (.str "") kd by cases kd <;> rfl]; exact f.str
  | tup i => rw [show isKd (.tup i) kd = isKd (.tup []) kd by cases kd <;> rfl]; exact f.tup
  | lst i => rw [show isKd (.lst i) kd = isKd (.lst []) kd by cases kd <;> rfl]; exact f.lst
  | scr i => rw [show isKd (.scr i) kd = isKd (.lst []) kd by cases kd <;> rfl]; exact f.lst
  | dct a b c => rw [show isKd (.dct a b c) kd = isKd (.dct false [] []) kd by cases kd <;> rfl]; exact f.dct
  | ins c fs => rw [show isKd (.ins c fs) kd = isKd (.ins c []) kd by cases kd <;> rfl]; exact f.ins c h
  | ref k => exact h.elim
theorem kd_any {K : PySem.W.Frag} {cl : Nat → CI} {nc : Nat} {d : D} (h : okK nc d) : ∀ {kds : List Kd} {us : List Value}, Paired (KdF K cl nc) kds us → PySem.W.kitAny K (tyD cl d) us = some (kds.any (isKd d))
  | _, _, .nil => rfl
  | _, _, .cons (a := kd) (b := u) (l₁ := kds) (l₂ := us) f t => by
    have e := kd_one f h
    have r := kd_any h t
    show (match PySem.W.kitOne K (tyD cl d) u with | some true => some true | some false => PySem.W.kitAny K (tyD cl d) us | none => none) = some (isKd d kd || kds.any (isKd d))
    rw [e]
    cases isKd d kd with
    | true => rfl
    | false => exact r
theorem ty_rep {cl : Nat → CI} {K : PySem.W.Frag} {Ap Av : Addr → Prop} {m : List Addr} {H : Hp} {nc : Nat} {d : D} {v : V} (hty : ∀ c, c < nc → TyF K (cl c).C) (h : okK2 nc d) (r : RepP K cl Ap Av m H d v) : TyX K H v (tyD cl d) := by
  cases d with
  | non => cases r; exact .base .non
  | bl b => cases r; exact .base (.bl b)
  | int b => cases r; exact .base (.int b)
  | str b => obtain ⟨rfl, _⟩ := r; exact .base (.str b)
  | tup xs => obtain ⟨a, vs, rfl, q, _⟩ := r; exact .base (.tup q)
  | lst xs => obtain ⟨a, vs, rfl, q, _⟩ := r; exact .base (.lst q)
  | scr ns => exact h.elim
  | ref k => exact h.elim
  | ins c fs =>
    obtain ⟨a, dx, vs, rfl, q, _⟩ := r
    have t := hty c h
    exact .base (.ins q t.c t.ha t.hn t.htk t.hm)
  | dct tk ks ws =>
    cases tk with
    | true => exact h.elim
    | false =>
      obtain ⟨a, u, vl, rfl, q, ⟨kl, rfl, _⟩, _⟩ := r
      rcases q with ⟨q, _⟩ | ⟨o, q⟩
      · exact .base (.dK q)
      · exact .fDict q
theorem isi_ok {nc : Nat} {ks : List Kd} {hp : List D} {x d : D} (e : pIsi nc ks hp [x] = some d) : okK2 nc x ∧ d = .bl (ks.any (isKd x)) := by
  cases x with
  | ref k => cases e
  | scr k => cases e
  | dct tk a b =>
    cases tk with
    | true => cases e
    | false => cases e; exact ⟨True.intro, rfl⟩
  | ins c fs =>
    have e : (if c < nc then some (D.bl (ks.any (isKd (.ins c fs)))) else none) = some d := e
    by_cases hc : c < nc
    · rw [if_pos hc] at e
      cases e
      exact ⟨hc, rfl⟩
    · rw [if_neg hc] at e
      cases e
  | _ => cases e; exact ⟨True.intro, rfl⟩
theorem isi_weak {x : D} {nc : Nat} (h : okK2 nc x) : okK nc x := by
  cases x with
  | ref k => exact h
  | ins c fs => exact h
  | _ => exact True.intro
theorem pr_isi {nc : Nat} {ks : List Kd} {us : List Value} (hK : X.K = g.K) (hty : ∀ c, c < nc → TyF g.K (g.cl c).C) (pk : Paired (KdF g.K g.cl nc) ks us) : PrR g (pIsi nc ks) fun vs H Q => ∃ x t b, vs = [x] ∧ (∀ H', Same H H' → TyX X.K H' x t) ∧ PySem.W.kitAny X.K t us = some b ∧ ∀ H', Same H H' → Q (.bl b) H' := by
  intro Ap Av m H hp ds vs d Q hst hsub hl hc r e q
  obtain ⟨x, rfl⟩ : ∃ x, ds = [x] := by
    unfold pIsi at e
    split at e
    · exact ⟨_, rfl⟩
    · cases e
  obtain ⟨h, rfl⟩ := isi_ok e
  obtain ⟨v, rfl, rv⟩ := RepsP.one r
  rw [hK]
  exact ⟨v, tyD g.cl x, _, rfl, fun H' s => ty_rep hty h (RepP.mono (same_gt s) (same_gt s) x v rv), kd_any (isi_weak h) pk, fun H' s => q _ H' s rfl⟩
theorem kitAny_one {K : PySem.W.Frag} {t u : Value} {b : Bool} (h : PySem.W.kitAny K t [u] = some b) : PySem.W.kitOne K t u = some b := by
  have h : (match PySem.W.kitOne K t u with | some true => some true | some false => some false | none => none) = some b := h
  cases e : PySem.W.kitOne K t u with
  | none => rw [e] at h; cases h
  | some c => rw [e] at h; cases c <;> exact h
/-- isinstance(x, c) -/
theorem se_isi {nc : Nat} {kd : Kd} {a c : Expr} {A : E} {cv : V} {u : Value} (hK : X.K = g.K) (hty : ∀ c, c < nc → TyF g.K (g.cl c).C) (pk : KdF g.K g.cl nc kd u) (hcv : ClsV cv u) (hg : Gl X "isinstance") (hm : X.mg "isinstance" = none) (ha : SE g W X a A) (hc : PE X c (tC cv)) (na : ∀ x p, a ≠ .Starred x p) (nc' : ∀ x p, c ≠ .Starred x p) :
    SE g W X (.Call (.Name "isinstance" p) [a, c] [] pos) (.prim (pIsi nc [kd]) (.cons A .nil)) :=
  se_prim (pr_isi (X := X) hK hty (.cons pk .nil)) (pe_callB call_isi hg hm (by rfl) (pa_cons (ha (true && true)) (pa_cons hc pa_nil (starEach_cons nc')) (starEach_cons na)) (by decide) (by decide) (starEach_cons na) (any_one nc')) fun σ H Q q => by
    refine tD_mono (tds_one q) fun x H1 h => ?_
    obtain ⟨x', t, b, e, hT, hk, q⟩ := h
    cases e
    exact ⟨_, cv, t, u, b, rfl, hcv, hT _ (fun _ _ h => h), kitAny_one hk, q _ (fun _ _ h => h)⟩
/-- isinstance(x, (c1, c2)) -/
theorem se_isi2 {nc : Nat} {k1 k2 : Kd} {a c1 c2 : Expr} {A : E} {v1 v2 : V} {u1 u2 : Value} {kk : Nat} {pt : Pos} (hK : X.K = g.K) (hty : ∀ c, c < nc → TyF g.K (g.cl c).C) (f1 : KdF g.K g.cl nc k1 u1) (f2 : KdF g.K g.cl nc k2 u2) (h1 : ClsV v1 u1) (h2 : ClsV v2 u2) (hg : Gl X "isinstance") (hm : X.mg "isinstance" = none) (ha : SE g W X a A)
    (hc1 : PE X c1 (tC v1)) (hc2 : PE X c2 (tC v2)) (na : ∀ x p, a ≠ .Starred x p) (n1 : ∀ x p, c1 ≠ .Starred x p) (n2 : ∀ x p, c2 ≠ .Starred x p) : SE g W X (.Call (.Name "isinstance" p) [a, .Tuple [c1, c2] kk pt] [] pos) (.prim (pIsi nc [k1, k2]) (.cons A .nil)) := by
  have nt : ∀ x p, Expr.Tuple [c1, c2] kk pt ≠ .Starred x p := fun _ _ h => nomatch h
  refine se_prim (pr_isi (X := X) hK hty (.cons f1 (.cons f2 .nil))) (pe_callB call_isiT hg hm (by rfl) (pa_cons (ha (true && true)) (pa_cons (pe_tup (pa_cons hc1 (pa_cons hc2 pa_nil (starEach_cons n2)) (starEach_cons n1))) pa_nil (starEach_cons nt)) (starEach_cons na)) (by decide) (by decide) (starEach_cons na) (any_one nt)) fun σ H Q q => ?_
  refine tD_mono (tds_one q) fun x H1 h => ?_
  obtain ⟨x', t, b, e, hT, hk, q⟩ := h
  cases e
  refine ⟨Nat.le_of_ble_eq_true rfl, fun tp htp => ⟨_, tp, [v1, v2], t, [u1, u2], b, rfl, upd_same, .cons h1 (.cons h2 .nil), hT _ (same_new htp), hk, q _ (same_new htp)⟩⟩
end
end G
end
section
set_option Elab.async false
set_option linter.all false
set_option maxHeartbeats 4000000
/-! GX7: sorted, index, reversed, list(range). -/
namespace G
open PySem PySem.Spec PyProof.Rows L2
theorem sort_uniq {α : Type} (key : α → Int) : ∀ (l1 l2 : List α), l1.Perm l2 → l1.Pairwise (fun a b => key a ≤ key b) → l2.Pairwise (fun a b => key a ≤ key b) → (∀ a ∈ l1, ∀ b ∈ l1, key a = key b → a = b) → l1 = l2
  | [], l2, p, _, _, _ => (List.nil_perm.mp p).symm
  | a :: t, [], p, _, _, _ => absurd p.length_eq (by simp)
  | a :: t, b :: t2, p, s1, s2, inj => by
    rw [List.pairwise_cons] at s1 s2
    have hb : b ∈ a :: t := p.mem_iff.mpr List.mem_cons_self
    have ha : a ∈ b :: t2 := p.mem_iff.mp List.mem_cons_self
    have h1 : key a ≤ key b := by
      rcases List.mem_cons.mp hb with e | h
      · rw [e]; exact Int.le_refl _
      · exact s1.1 b h
    have h2 : key b ≤ key a := by
      rcases List.mem_cons.mp ha with e | h
      · rw [e]; exact Int.le_refl _
      · exact s2.1 a h
    have e : a = b := inj a List.mem_cons_self b hb (Int.le_antisymm h1 h2)
    subst e
    rw [sort_uniq key t t2 p.cons_inv s1.2 s2.2 fun x hx y hy => inj x (List.mem_cons_of_mem _ hx) y (List.mem_cons_of_mem _ hy)]
theorem insK_perm {α : Type} (key : α → Int) (a : α) : ∀ l : List α, (insK key a l).Perm (a :: l)
  | [] => .refl _
  | b :: r => by
    unfold insK
    by_cases h : key a ≤ key b
    · rw [if_pos h]
    · rw [if_neg h]
      exact ((insK_perm key a r).cons b).trans (List.Perm.swap a b r)
theorem insK_sort {α : Type} (key : α → Int) (a : α) : ∀ l : List α, l.Pairwise (fun a b => key a ≤ key b) → (insK key a l).Pairwise (fun a b => key a ≤ key b)
  | [], _ => by simp [insK]
  | b :: r, h => by
    unfold insK
    rw [List.pairwise_cons] at h
    by_cases hk : key a ≤ key b
    · rw [if_pos hk, List.pairwise_cons, List.pairwise_cons]
      refine ⟨fun c hc => ?_, h⟩
      rcases List.mem_cons.mp hc with e | hc
      · rw [e]; exact hk
      · exact Int.le_trans hk (h.1 c hc)
    · rw [if_neg hk, List.pairwise_cons]
      refine ⟨fun c hc => ?_, insK_sort key a r h.2⟩
      rcases List.mem_cons.mp ((insK_perm key a r).mem_iff.mp hc) with e | hc
      · rw [e]; omega
      · exact h.1 c hc
theorem sortK_perm {α : Type} (key : α → Int) : ∀ l : List α, (sortK key l).Perm l
  | [] => .refl _
  | a :: r => (insK_perm key a _).trans ((sortK_perm key r).cons a)
theorem sortK_sort {α : Type} (key : α → Int) : ∀ l : List α, (sortK key l).Pairwise (fun a b => key a ≤ key b)
  | [] => .nil
  | a :: r => insK_sort key a _ (sortK_sort key r)
theorem sortK_of {α : Type} {key : α → Int} {l l' : List α} (p : l'.Perm l) (s : l'.Pairwise (fun a b => key a ≤ key b)) (inj : ∀ a ∈ l, ∀ b ∈ l, key a = key b → a = b) : l' = sortK key l :=
  sort_uniq key l' _ (p.trans (sortK_perm key l).symm) s (sortK_sort key l) fun a ha b hb => inj a (p.mem_iff.mp ha) b (p.mem_iff.mp hb)
theorem nav {Av : Addr → Prop} {H : Hp} (hst : ∀ a, Av a → ∃ u, H a = some u) {p : Addr} (h : H p = none) : ¬ Av p := fun n => by
  obtain ⟨u, w⟩ := hst _ n
  rw [h] at w
  cases w
section
variable {g : Gx} {W : WX} {X : Cx} {pos p p2 apos cpos : Pos}
theorem pr_sortI (hK : X.K = g.K) : PrR g pSortI (rSortedI X.K) := by
  intro Ap Av m H hp ds vs d Q hst hsub hl hc r e q
  rw [hK]
  unfold pSortI at e
  split at e
  · obtain ⟨l, hl, rfl⟩ := Option.map_eq_some_iff.mp e
    obtain ⟨v1, rfl, r1⟩ := RepsP.one r
    obtain ⟨a, ws, rfl, ha, rs⟩ := lst_at r1
    rw [intsD_some hl] at rs
    rw [reps_ints rs] at ha
    refine ⟨a, l, rfl, SqL.of ha, fun ns' q' hp hs hq => ?_⟩
    have e1 : ns' = sortK id l := sortK_of (key := id) hp hs fun a _ b _ h => h
    subst e1
    exact q _ _ (same_new hq) ⟨q', _, rfl, upd_same, nav hst hq, ints_reps _⟩
  · cases e
/-- xs[::-1] -/
theorem pr_rev (hK : X.K = g.K) : Pr1 g pRev fun x H Q => ∃ (a : Addr) (xs : List V), x = .ref a ∧ SqL X.K H a xs ∧ ∀ p, H p = none → Q (.ref p) (upd H p (.lst xs.reverse)) := by
  intro Ap Av m H hp ds vs d Q hst hsub hl hc r e q
  rw [hK]
  unfold pRev at e
  split at e
  · cases e
    obtain ⟨v1, rfl, r1⟩ := RepsP.one r
    obtain ⟨a, ws, rfl, ha, rs⟩ := lst_at r1
    refine ⟨_, rfl, a, ws, rfl, SqL.of ha, fun p hp => q _ _ (same_new hp) ⟨p, _, rfl, upd_same, nav hst hp, Reps.mono (same_gt (same_new hp)) _ _ (reps_rev rs)⟩⟩
  · cases e
where
  reps_rev {K : PySem.W.Frag} {cl : Nat → CI} {Av : Addr → Prop} {m : List Addr} {H : Hp} : ∀ {xs : List D} {ws : List V}, Reps K cl Av m H xs ws → Reps K cl Av m H xs.reverse ws.reverse
    | [], ws, h => by
      have e : ws = [] := h
      subst e
      exact rfl
    | x :: xs, ws, h => by
      obtain ⟨v, t, rfl, rv, rt⟩ := h
      rw [List.reverse_cons, List.reverse_cons]
      exact Reps.append (reps_rev rt) ⟨v, [], rfl, rv, rfl⟩
theorem se_rev {a : Expr} {A : E} {k : Nat} {p1 p2 p3 : Pos} (hK : X.K = g.K) (ha : SE g W X a A) : SE g W X (.Subscript a (.Slice none none (some (.UnaryOp .USub (.Constant (.int 1) k p1) p2)) p3) pos) (.prim pRev (.cons A .nil)) :=
  se_p1 (pr_rev hK) ha fun _ h => pe_revL h
/-- list(range(e)) -/
theorem se_listRange {a : Expr} {A : E} {p3 p4 : Pos} (hc : X.calm = true) (hg : Gl X "list") (hm : X.mg "list" = none) (hg2 : Gl X "range") (hm2 : X.mg "range" = none) (ha : SE g W X a A) (na : ∀ x p, a ≠ .Starred x p) :
    SE g W X (.Call (.Name "list" p) [.Call (.Name "range" p3) [a] [] p4] [] pos) (.prim pRange1 (.cons A .nil)) :=
  se_p1 (r := fun x H Q => ∃ n, x = .int n ∧ RgOk 0 n ∧ ∀ q, H q = none → Q (.ref q) (upd H q (.lst (rgV 0 n))))
    (by
      intro Ap Av m H hp ds vs d Q hst hsub hl hcc r e q
      unfold pRange1 at e
      split at e
      · split at e
        · rename_i j hj
          cases e
          simp only [Bool.and_eq_true, decide_eq_true_eq] at hj
          obtain ⟨v1, rfl, r1⟩ := RepsP.one r
          cases r1
          have hb : (big : Int) = 1000000 := by decide
          refine ⟨_, rfl, j, rfl, ⟨by omega, by omega, hj.1, by omega, by omega⟩, fun p hp => q _ _ (same_new hp) ⟨p, _, rfl, upd_same, nav hst hp, ?_⟩⟩
          have e1 : (List.range j.toNat).map (fun (k : Nat) => D.int k) = ((List.range j.toNat).map fun (k : Nat) => (k : Int)).map D.int := by rw [List.map_map]; rfl
          have e2 : rgV 0 j = ((List.range j.toNat).map fun (k : Nat) => (k : Int)).map V.int := by
            unfold rgV
            rw [List.map_map]
            simp
          rw [e1, e2]
          exact ints_reps _
        · cases e
      · cases e) ha fun ta h => PE.weak (pe_listRg hc hg hm (prg_1 hg2 hm2 h (starEach_cons na)) (starEach_cons fun _ _ q => nomatch q)) fun σ H Q q => tD_id q
where
  tD_id {α : Prop} (h : α) : α := h
end
end G
end
section
set_option Elab.async false
set_option linter.all false
set_option maxHeartbeats 4000000
/-! GX8: list.index; sorted lists of tuples. -/
namespace G
open PySem PySem.Spec PyProof.Rows L2
section
variable {g : Gx} {W : WX} {X : Cx} {pos p p2 apos cpos : Pos}
theorem pds_get : ∀ {ds : List D} {k : Nat}, (pds ds)[k]? = (ds[k]?).map pd
  | [], k => by simp [pds]
  | d :: ds, 0 => rfl
  | d :: ds, k + 1 => by
    show (pds ds)[k]? = _
    rw [pds_get, List.getElem?_cons_succ]
theorem flats_get {n : Nat} : ∀ {ds : List D} {k : Nat} {d : D}, flats n ds = true → ds[k]? = some d → flat n d = true
  | [], _, _, _, h => by simp at h
  | d :: ds, 0, x, e, h => by
    have e : (flat n d && flats n ds) = true := e
    rw [Bool.and_eq_true] at e
    simp at h
    rw [← h]
    exact e.1
  | d :: ds, k + 1, x, e, h => by
    have e : (flat n d && flats n ds) = true := e
    rw [Bool.and_eq_true] at e
    exact flats_get e.2 (by simpa using h)
theorem lst_flat {ys : List D} (h : flats 49 ys = true) : flat 50 (.lst ys) = true := h
theorem pr_index (hK : X.K = g.K) : PrR g pIndex fun vs H Q => ∃ x y, vs = [x, y] ∧ rIndexD X.K x [y] H Q := by
  intro Ap Av m H hp ds vs d Q hst hsub hl hc r e q
  rw [hK]
  unfold pIndex at e
  split at e
  · rename_i ys x
    split at e
    · rename_i hf
      rw [Bool.and_eq_true] at hf
      obtain ⟨j, hj, rfl⟩ := Option.map_eq_some_iff.mp e
      obtain ⟨v1, v2, rfl, r1, r2⟩ := RepsP.two r
      obtain ⟨a1, a2⟩ := dpP_of (lst_flat hf.2) r1
      obtain ⟨b1, b2⟩ := dpP_of hf.1 r2
      obtain ⟨a, ws, rfl, ha, rs⟩ := lst_at r1
      obtain ⟨hlt, h1, h2⟩ := List.findIdx?_eq_some_iff_getElem.mp hj
      have hy : ys[j]? = some ys[j] := List.getElem?_eq_getElem hlt
      refine ⟨_, _, rfl, a, v2, pd x, pds ys, j, pd ys[j], rfl, rfl, a1, b1, a2, b2, by rw [pds_get, hy]; rfl, ?_, fun k z hk hz => ?_, q _ H (fun _ _ h => h) rfl⟩
      · rw [eqv_pd 49 50 ys[j] x (flats_get hf.2 hy) hf.1]
        exact h1
      · rw [pds_get] at hz
        obtain ⟨y, hy2, rfl⟩ := Option.map_eq_some_iff.mp hz
        rw [eqv_pd 49 50 y x (flats_get hf.2 hy2) hf.1]
        have h3 := h2 k hk
        obtain ⟨hl2, e2⟩ := List.getElem?_eq_some_iff.mp hy2
        rw [e2] at h3
        simpa using h3
    · cases e
  · cases e
theorem lst_w {pk : Bool} {A : E} {σ : L2.St} {H : Hp} {Q : VK} (h : tD g W pk (.wk pLst (.cons A .nil)) σ H Q) : tD g W (pk && true) A σ H fun v H1 => (∃ a ys, v = .ref a ∧ H1 a = some (.lst ys)) ∧ Q v H1 := by
  have key : tDs g W pk (.cons A .nil) σ H fun vs H1 => ∃ v, vs = [v] ∧ (∃ a ys, v = .ref a ∧ H1 a = some (.lst ys)) ∧ Q v H1 := by
    obtain ⟨F, m, z, eg, o, h⟩ := h
    refine ⟨F, m, z, eg, o, ?_⟩
    rw [evE_wk] at h
    cases e1 : evE pk (.cons A .nil) z with
    | bad => rw [e1] at h; exact h.elim
    | exn c ds z1 => rw [e1] at h; exact h
    | ok xs z1 =>
      rw [e1] at h
      have h : aft F W m z σ H (E.np (.wk pLst (.cons A .nil))) pk (match pLst z1.hp xs with
        | some d => .ok [d] z1
        | none => .bad) _ := h
      intro vs H1 m1 p
      cases e2 : pLst z1.hp xs with
      | none => rw [e2] at h; exact h.elim
      | some d =>
        rw [e2] at h
        obtain ⟨ys, rfl, rfl⟩ : ∃ ys, xs = [.lst ys] ∧ d = .lst ys := by
          unfold pLst at e2
          split at e2
          · cases e2
            exact ⟨_, rfl, rfl⟩
          · cases e2
        obtain ⟨v, rfl, rv⟩ := (rfs_ap p.rp).one
        obtain ⟨a, ws, e, ha, _⟩ := lst_at rv
        exact ⟨v, rfl, ⟨a, ws, e, ha⟩, h [v] H1 m1 ⟨p.ok, p.gt, p.np, p.rp⟩ v rfl⟩
  exact tD_mono (tds_one key) fun v H1 ⟨v', e, q1, q2⟩ => by
    cases e
    exact ⟨q1, q2⟩
/-- o.index(e) -/
theorem se_index {o e : Expr} {A E : E} (hK : X.K = g.K) (hu : X.A.units + 65 < cLine) (ho : SE g W X o A) (he : SE g W X e E) (hs : ∀ x p, e ≠ .Starred x p) (hb : attributeBase o "index" X.env (eval o X.env) = eval o X.env) (hline : (apos.endLine == cpos.line) = true) :
    SE g W X (.Call (.Attribute o "index" apos) [e] [] cpos) (.prim pIndex (.cons (.wk pLst (.cons A .nil)) (.cons E .nil))) :=
  se_prim (pr_index hK) (pe_bm PySem.F.plainAttrs_list PySem.F.slot_list_index PySem.F.type_list_index (mt_indexD hu) (ho ((true && G.E.np (.cons E .nil)) && true)) (pa_cons (he (true && true)) pa_nil (starEach_cons hs)) hb (few_one hs) hline (starEach_cons hs) rfl) fun σ H Q q => by
    refine tD_mono (lst_w (tds_cons q)) fun x H1 ⟨⟨a, ys, ex, ha⟩, q1⟩ => ?_
    refine ⟨?_, tD_mono (tds_one q1) fun y H2 q2 => ?_⟩
    · subst ex
      exact .inl ⟨rfl, ys, SqL.of ha⟩
    · obtain ⟨x', y', e, q2⟩ := q2
      cases e
      exact q2
end
end G
end
section
set_option Elab.async false
set_option linter.all false
set_option maxHeartbeats 4000000
/-! GX9: sorted lists of tuples of ints. -/
namespace G
open PySem PySem.Spec PyProof.Rows L2
theorem perm_map {α β : Type} (f : α → β) {a b : List β} (h : a.Perm b) : ∀ l : List α, b = l.map f → ∃ l1 : List α, l1.Perm l ∧ a = l1.map f := by
  induction h with
  | nil => intro l e; exact ⟨l, .refl _, e⟩
  | @cons x a b h ih =>
    intro l e
    cases l with
    | nil => cases e
    | cons y l =>
      injection e with e1 e2
      obtain ⟨l1, p, e3⟩ := ih l e2
      exact ⟨y :: l1, p.cons y, by rw [List.map_cons, ← e1, ← e3]⟩
  | @swap x y r =>
    intro l e
    cases l with
    | nil => cases e
    | cons u l =>
      cases l with
      | nil => cases e
      | cons w l =>
        injection e with e1 e2
        injection e2 with e2 e3
        exact ⟨w :: u :: l, List.Perm.swap u w l, by rw [List.map_cons, List.map_cons, ← e1, ← e2, ← e3]⟩
  | trans h1 h2 ih1 ih2 =>
    intro l e
    obtain ⟨l2, p2, e2⟩ := ih2 l e
    obtain ⟨l1, p1, e1⟩ := ih1 l2 e2
    exact ⟨l1, p1.trans p2, e1⟩
def rSortTL (K : PySem.W.Frag) : List V → Hp → VK → Prop := fun vs H Q => ∃ (a : Addr) (ks : List (Addr × List Int)) (d : Nat), vs = [V.ref a] ∧ SqL K H a (ks.map fun p => V.ref p.1) ∧ (∀ p ∈ ks, SqT K H p.1 (p.2.map V.int)) ∧ 1 ≤ d ∧ (∀ p ∈ ks, p.2.length = d ∧ TS.Bd 64 p.2) ∧ ks.length < 64 ∧
  ∀ (ks' : List (Addr × List Int)) (p : Addr), ks'.Perm ks → ks'.Pairwise (fun q r => TS.code 64 q.2 ≤ TS.code 64 r.2) → H p = none → Q (.ref p) (upd H p (.lst (ks'.map fun q => V.ref q.1)))
section
variable {prog : Program} {w : World} {A : Around} {E : Value → Shared → Prop} {s : Shared}
theorem sorted_tupL {l : Addr} {vs : List Value} {d : Nat} {Q : Value → Shared → Prop} (hl : s.heap.IsList l vs.toArray) (h64 : vs.length < 64) (hd : 1 ≤ d) (x : TS.TupsOk s.heap d 64 vs)
    (h : ∀ out : Array Value, out.toList.Perm vs → (∀ f : Value → List Int, (∀ v ∈ vs, TS.TupInts s.heap v (f v)) → out.toList.Pairwise (fun u v => TS.code 64 (f u) ≤ TS.code 64 (f v))) → Q (.ref (s.heap.objs.size + 1)) { s with heap := sortedAll s.heap vs out }) :
    wpAny (model prog w) A (call (.builtin "sorted") [.ref l]) Q E s := by
  refine Calls.call_function_entry kind_sorted plain_sorted entry_sorted (args_sorted1 _) ?_
  unfold Builtin.«sorted»
  refine wpAny_bind (m := checkCount "sorted" 1 1 _) (wpAny_pure (wpAny_bind (collect_list hl (wpAny_bind (wpAny_newList ?_ (by rw [sizeLine_eq]; omega))) (by rw [sizeLine_eq]; omega))))
  have sz : ((s.heap.push (seqObj "list" #[] 0)).update s.heap.objs.size (Obj.mapSeq (· ++ vs.toArray))).objs.size = s.heap.objs.size + 1 := by rw [Heap.size_update, size_push']
  have at_ : (((s.heap.push (seqObj "list" #[] 0)).update s.heap.objs.size (Obj.mapSeq (· ++ vs.toArray))).push (seqObj "list" vs.toArray 0)).get? (s.heap.objs.size + 1) = some (seqObj "list" vs.toArray 0) := by
    have q := Heap.get?_push_size ((s.heap.push (seqObj "list" #[] 0)).update s.heap.objs.size (Obj.mapSeq (· ++ vs.toArray))) (o := seqObj "list" vs.toArray 0) rfl
    rw [sz] at q
    exact q
  have keep : ∀ b o, s.heap.get? b = some o → (((s.heap.push (seqObj "list" #[] 0)).update s.heap.objs.size (Obj.mapSeq (· ++ vs.toArray))).push (seqObj "list" vs.toArray 0)).get? b = some o := fun b o e => by
    refine Heap.get?_push_of_some _ ?_
    rw [Heap.get?_update_ne _ _ _ _ (Nat.ne_of_lt (Heap.lt_size e))]
    exact Heap.get?_push_of_some _ e
  show wpAny _ _ _ _ _ { s with heap := ((s.heap.push (seqObj "list" #[] 0)).update s.heap.objs.size (Obj.mapSeq (· ++ vs.toArray))).push (seqObj "list" vs.toArray 0) }
  rw [sz]
  refine wpAny_bind (wpAny_holding (TS.call_sort_tups (s := { s with heap := ((s.heap.push (seqObj "list" #[] 0)).update s.heap.objs.size (Obj.mapSeq (· ++ vs.toArray))).push (seqObj "list" vs.toArray 0) }) at_ h64 hd (x.keeps fun b o e _ => keep b o e) fun out a1 a2 => ?_))
  refine wpAny_pure ⟨_, rfl, h out a1 fun f hf => ?_⟩
  refine List.Pairwise.imp_of_mem (fun {u v} hu hv le => ?_) a2
  have e1 := ((hf u (a1.mem_iff.mp hu)).keeps fun b o e _ => keep b o e).ints
  have e2 := ((hf v (a1.mem_iff.mp hv)).keeps fun b o e _ => keep b o e).ints
  rw [← e1, ← e2]
  exact le
end
section
variable {X : Cx}
theorem refs_vals : ∀ {ks : List (Addr × List Int)} {us : List Value}, Vals (ks.map fun p => V.ref p.1) us → us = ks.map fun p => Value.ref p.1 := fun h => refs_of_vals h
theorem cr_sortTL : CallR X (.builtin "sorted") (rSortTL X.K) := by
  intro pins s σ H vs us Q I r h
  obtain ⟨a, ks, d, rfl, hs, ht, hd, hb, h64, q⟩ := h
  obtain ⟨its, rv, hl, hz⟩ := I.list hs
  have ei := refs_vals rv
  subst ei
  rw [Vals.ref1 r]
  have tup : ∀ p ∈ ks, TS.TupInts s.heap (.ref p.1) p.2 := fun p hp => tupInts_of (I.isT (ht p hp))
  refine sorted_tupL (d := d) hl.isList (by rw [List.length_map]; exact h64) hd (fun v hv => ?_) fun out h1 h2 => ?_
  · obtain ⟨p, hp, rfl⟩ := List.mem_map.mp hv
    exact ⟨p.2, tup p hp, hb p hp⟩
  · obtain ⟨ks', p1, e1⟩ := perm_map (fun p : Addr × List Int => Value.ref p.1) h1 ks rfl
    have h3 := h2 (TS.intsOf s.heap) fun v hv => by
      obtain ⟨p, hp, rfl⟩ := List.mem_map.mp hv
      rw [(tup p hp).ints]
      exact tup p hp
    have s1 : ks'.Pairwise fun q r => TS.code 64 q.2 ≤ TS.code 64 r.2 := by
      rw [e1, List.pairwise_map] at h3
      refine List.Pairwise.imp_of_mem (fun {u v} hu hv le => ?_) h3
      rw [← (tup u (p1.mem_iff.mp hu)).ints, ← (tup v (p1.mem_iff.mp hv)).ints]
      exact le
    obtain ⟨ep, he'⟩ := sortedAll_at s.heap (ks.map fun p => Value.ref p.1) out
    have hv : Vals (ks'.map fun p => V.ref p.1) out.toList := by rw [e1]; exact vals_of_refs ks'
    have hlen : (ks'.map fun p => V.ref p.1).length ≤ sizeLine := by
      rw [List.length_map, p1.length_eq, sizeLine_eq]
      omega
    exact ⟨.ref (s.heap.objs.size + 1), upd H (s.heap.objs.size + 1) (.lst (ks'.map fun p => V.ref p.1)), I.laid (t' := s.toks) (fun _ _ => sortedAll_old) (Nat.le_succ _) ⟨hlen, out.toList, ep, hv, he'⟩, rfl, q ks' _ p1 s1 (I.hok.fresh (Nat.le_succ _))⟩
theorem code_inj : ∀ (a b : List Int), a.length = b.length → TS.Bd 64 a → TS.Bd 64 b → TS.code 64 a = TS.code 64 b → a = b
  | [], [], _, _, _, _ => rfl
  | [], _ :: _, h, _, _, _ => by simp at h
  | _ :: _, [], h, _, _, _ => by simp at h
  | x :: a, y :: b, h, h1, h2, e => by
    have hl : a.length = b.length := by simpa using h
    rcases Int.lt_trichotomy x y with c | c | c
    · have := TS.code_lt hl h1.tail h2.tail c
      omega
    · subst c
      have e' : x * 64 ^ a.length + TS.code 64 a = x * 64 ^ b.length + TS.code 64 b := e
      rw [hl] at e'
      rw [code_inj a b hl h1.tail h2.tail (Int.add_left_cancel e')]
    · have := TS.code_lt hl.symm h2.tail h1.tail c
      omega
end
section
variable {g : Gx} {X : Cx}
theorem tupIs_ok {d : Nat} {x : D} {l : List Int} (h : tupIs d x = some l) : x = .tup (l.map D.int) ∧ l.length = d ∧ TS.Bd 64 l := by
  unfold tupIs at h
  split at h
  · split at h
    · rename_i xs l' e
      split at h
      · rename_i hc
        cases h
        refine ⟨by rw [intsD_some e], hc.1, fun i hi => ?_⟩
        have := List.all_eq_true.mp hc.2 i hi
        simpa using this
      · cases h
    · cases h
  · cases h
theorem tupsD_ok {K : PySem.W.Frag} {cl : Nat → CI} {Av : Addr → Prop} {m : List Addr} {H : Hp} {d : Nat} : ∀ {xs : List D} {ls : List (List Int)} {vs : List V}, tupsD d xs = some ls → Reps K cl Av m H xs vs →
    ∃ ks : List (Addr × List Int), vs = ks.map (fun p => V.ref p.1) ∧ ks.map (·.2) = ls ∧ (∀ p ∈ ks, H p.1 = some (.tup (p.2.map V.int)) ∧ p.2.length = d ∧ TS.Bd 64 p.2)
  | [], ls, vs, h, r => by
    have e : vs = [] := r
    cases h
    exact ⟨[], e, rfl, fun _ h => nomatch h⟩
  | x :: xs, ls, vs, h, r => by
    obtain ⟨v, t, rfl, rv, rt⟩ := r
    have h : (match tupIs d x, tupsD d xs with
      | some l, some ls => some (l :: ls)
      | _, _ => none) = some ls := h
    cases h1 : tupIs d x with
    | none => rw [h1] at h; cases h
    | some l =>
      cases h2 : tupsD d xs with
      | none => rw [h1, h2] at h; cases h
      | some l2 =>
        rw [h1, h2] at h
        cases h
        obtain ⟨ks, e1, e2, e3⟩ := tupsD_ok h2 rt
        obtain ⟨rfl, f1, f2⟩ := tupIs_ok h1
        obtain ⟨a, ws, rfl, ha, rs⟩ := rv
        rw [reps_ints rs] at ha
        refine ⟨(a, l) :: ks, by rw [e1]; rfl, by rw [← e2]; rfl, fun p hp => ?_⟩
        rcases List.mem_cons.mp hp with e | hp
        · subst e
          exact ⟨ha, f1, f2⟩
        · exact e3 p hp
theorem tups_reps {K : PySem.W.Frag} {cl : Nat → CI} {Av : Addr → Prop} {m : List Addr} {H : Hp} : ∀ {ks : List (Addr × List Int)}, (∀ p ∈ ks, H p.1 = some (.tup (p.2.map V.int))) → Reps K cl Av m H ((ks.map (·.2)).map fun l => .tup (l.map D.int)) (ks.map fun p => V.ref p.1)
  | [], _ => rfl
  | p :: ks, h => ⟨_, _, rfl, ⟨p.1, _, rfl, h p List.mem_cons_self, ints_reps p.2⟩, tups_reps fun q hq => h q (List.mem_cons_of_mem _ hq)⟩
theorem pr_sortT {d : Nat} (hK : X.K = g.K) : PrR g (pSortT d) (rSortTL X.K) := by
  intro Ap Av m H hp ds vs d' Q hst hsub hl hc r e q
  rw [hK]
  unfold pSortT at e
  split at e
  · split at e
    · rename_i xs hd
      obtain ⟨ls, hls, rfl⟩ := Option.map_eq_some_iff.mp e
      obtain ⟨v1, rfl, r1⟩ := RepsP.one r
      obtain ⟨a, ws, rfl, ha, rs⟩ := lst_at r1
      obtain ⟨ks, e1, e2, e3⟩ := tupsD_ok hls rs
      subst e1 e2
      have hlen : ks.length < 64 := by
        have := rs.length
        rw [List.length_map] at this
        omega
      refine ⟨a, ks, d, rfl, SqL.of ha, fun p hp => SqT.of (e3 p hp).1, hd.1, fun p hp => (e3 p hp).2, hlen, fun ks' p' hp hs hn => ?_⟩
      have es : ks'.map (·.2) = sortK (TS.code 64) (ks.map (·.2)) := sortK_of (hp.map _) (List.pairwise_map.mpr hs) fun x hx y hy exy => by
        obtain ⟨p, hp1, rfl⟩ := List.mem_map.mp hx
        obtain ⟨p2, hp2, rfl⟩ := List.mem_map.mp hy
        exact code_inj _ _ ((e3 p hp1).2.1.trans (e3 p2 hp2).2.1.symm) (e3 p hp1).2.2 (e3 p2 hp2).2.2 exy
      refine q _ _ (same_new hn) ⟨p', _, rfl, upd_same, nav hst hn, ?_⟩
      rw [← es]
      exact tups_reps fun p hp3 => same_new hn _ _ (e3 p (hp.mem_iff.mp hp3)).1
    · cases e
  · cases e
end
end G
end
section
set_option Elab.async false
set_option linter.all false
set_option maxHeartbeats 4000000
/-! GX10: targets. -/
namespace G
open PySem PySem.Spec PyProof.Rows L2
section
variable {g : Gx} {X : Cx}
/-- a name that may be stored, with its slot -/
structure NmF (X : Cx) (e : Expr) (i : Nat) : Prop where
  ex : ∃ x pos, e = .Name x pos ∧ X.N[i]? = some x ∧ Loc X.env.scope x ∧ (X.fn x = true ∨ X.env.scope.names.lookup x = some .local)
inductive NmsF (X : Cx) : List Expr → List Nat → Prop
  | nil : NmsF X [] []
  | cons {e : Expr} {es : List Expr} {i : Nat} {is : List Nat} (h : NmF X e i) (t : NmsF X es is) : NmsF X (e :: es) (i :: is)
theorem nm_pg {e : Expr} {i : Nat} (hN : X.N.Nodup) (h : NmF X e i) : PG X e (gName i) := by
  obtain ⟨x, pos, rfl, h1, h2, h3⟩ := h.ex
  exact pg_name hN h1 h2 h3
theorem nm_each {e : Expr} {es : List Expr} {i : Nat} (h : NmF X e i) : assignEach (e :: es) X.env = (false, assign e X.env) :: assignEach es X.env := by
  obtain ⟨x, pos, rfl, _⟩ := h.ex
  rfl
theorem nms_pgs (hN : X.N.Nodup) : ∀ {es : List Expr} {is : List Nat}, NmsF X es is → PGs X es (gTs is)
  | _, _, .nil => pgs_nil
  | _, _, .cons h t => pgs_cons (nm_pg hN h) (nms_pgs hN t) (by rw [nm_each h]; rfl)
theorem nms_len : ∀ {es : List Expr} {is : List Nat}, NmsF X es is → (assignEach es X.env).length = is.length ∧ (assignEach es X.env).findIdx? (·.1) = none
  | _, _, .nil => ⟨rfl, rfl⟩
  | _, _, .cons h t => by
    obtain ⟨h1, h2⟩ := nms_len t
    rw [nm_each h]
    refine ⟨by rw [List.length_cons, List.length_cons, h1], ?_⟩
    rw [List.findIdx?_cons, h2]
    rfl
/-- a target: a name, or a tuple of names -/
inductive TgF (X : Cx) : Expr → Tg → Prop
  | one {e : Expr} {i : Nat} (h : NmF X e i) : TgF X e (.one i)
  | tup {es : List Expr} {is : List Nat} {k : Nat} {pos : Pos} (h : NmsF X es is) : TgF X (.Tuple es k pos) (.tup is)
theorem tg_pg {e : Expr} {t : Tg} (hK : X.K = g.K) (hN : X.N.Nodup) (hc : X.calm = true) (h : TgF X e t) : PG X e (gT g.K t) := by
  cases h with
  | one h => exact nm_pg hN h
  | tup h =>
    obtain ⟨h1, h2⟩ := nms_len h
    rw [← hK]
    exact pg_tup hc (nms_pgs hN h) h1 h2
end
end G
end
section
set_option Elab.async false
set_option linter.all false
set_option maxHeartbeats 4000000
/-! GY9: the promise of an exception's __init__(self, y): self.f = y. -/
namespace G
open PySem PySem.Spec PyProof.Rows L2
section
variable {P : Program} {w : World} {K : PySem.W.Frag} {mg : Str → Option Value} {base : Heap} {f : Addr} {name qual : Str} {params : Arguments} {scope : Scope} {dV kV doc pm cdv ct oc : Value} {an od : Option Addr} {osl : Array (Option Value)}
theorem fn_spX {s y fl : Str} {p1 p2 p3 p4 : Pos} (lk : K.lookup f = some ⟨oc, od, .func (PySem.W.fnOf name qual params [.Assign [.Attribute (.Name s p1) fl p2] (.Name y p3) p4] scope dV kV doc pm an cdv ct), osl⟩) (hcd : PySem.W.codeIn K cdv qual = true) (S : FnScope [s, y] [s, y] scope)
    (h1 : scope.names.lookup s = some .local) (h2 : scope.names.lookup y = some .local) (d1 : (s == ("__debug__" : Str)) = false) (c1 : (s == ("__classdict__" : Str)) = false) (d2 : (y == ("__debug__" : Str)) = false) (c2 : (y == ("__classdict__" : Str)) = false) :
    FnOk P w K mg base (L2.CX P w) 1 f (PySem.W.fnOf name qual params [.Assign [.Attribute (.Name s p1) fl p2] (.Name y p3) p4] scope dV kV doc pm an cdv ct) [s, y] (spX K fl) := by
  refine fn_of lk hcd S (fun vs H Q E h => h.1) fun A outer s0 H vs Q E hr hsp => ⟨_, pss_one (ps_ost (pe_var (i := 0) rfl (.inl h1) d1 c1) (pe_var (i := 1) rfl (.inl h2) d2 c2) rfl), ?_⟩
  obtain ⟨_, a, C, v, rfl, T, no, ha, q⟩ := hsp
  exact ⟨v, rfl, .ref a, rfl, a, C, rfl, T, no, .inl ⟨ha, q⟩⟩
end
end G
end
section
set_option Elab.async false
set_option linter.all false
set_option maxHeartbeats 4000000
/-! GZ1: primitives that make a new list. -/
namespace G
open PySem PySem.Spec PyProof.Rows L2
/-- a primitive that makes a new list, said so -/
def PrN (g : Gx) (f : Pr) (r : List V → Hp → VK → Prop) : Prop :=
  ∀ (Ap Av : Addr → Prop) (m : List Addr) (H : Hp) (hp ds : List D) (vs : List V) (d : D) (Q : VK), RepsP g.K g.cl Ap Av m H ds vs → f hp ds = some d →
    (∀ p us xs, d = .lst xs → H p = none → Reps g.K g.cl Av m H xs us → Q (.ref p) (upd H p (.lst us))) → r vs H Q
section
variable {g : Gx} {W : WX} {X : Cx} {pos p p2 p3 p4 : Pos}
theorem sf_prim {e : Expr} {f : Pr} {es : E} {r : List V → Hp → VK → Prop} {te : TE} (hr : PrN g f r) (h : PE X e te) (w : ∀ σ H Q, tDs g W true es σ H (fun vs H1 => r vs H1 Q) → te σ H Q) : SF g W X e (.prim f es) :=
  PE.weak h fun σ H Q ⟨F, m, z, eg, o, h⟩ => by
    refine w σ H Q ⟨F, m, z, eg, o, ?_⟩
    rw [evE_prim] at h
    cases e1 : evE true es z with
    | bad => rw [e1] at h; exact h.elim
    | exn c ds z1 => rw [e1] at h; exact h
    | ok xs z1 =>
      rw [e1] at h
      have h : aftF F W m z σ H (E.np (.prim f es)) (match f z1.hp xs with | some d => .ok [d] z1 | none => .bad) _ := h
      intro vs H1 m1 p
      cases e2 : f z1.hp xs with
      | none => rw [e2] at h; exact h.elim
      | some d =>
        rw [e2] at h
        subst eg
        refine hr (AvP F m1) (Avs F m1 z1 σ) m1 H1 z1.hp xs vs d Q p.rp e2 fun q us ys ed hq rs => ?_
        subst ed
        obtain ⟨p1, f1⟩ := fresh_lst p hq rs
        exact h _ _ m1 p1.dropT f1
/-- list(range(e)), new -/
theorem sf_listRange {a : Expr} {A : E} (hc : X.calm = true) (hg : Gl X "list") (hm : X.mg "list" = none) (hg2 : Gl X "range") (hm2 : X.mg "range" = none) (ha : SE g W X a A) (na : ∀ x p, a ≠ .Starred x p) :
    SF g W X (.Call (.Name "list" p) [.Call (.Name "range" p3) [a] [] p4] [] pos) (.prim pRange1 (.cons A .nil)) :=
  sf_prim (r := fun vs H Q => ∃ x, vs = [x] ∧ ∃ n, x = .int n ∧ RgOk 0 n ∧ ∀ q, H q = none → Q (.ref q) (upd H q (.lst (rgV 0 n))))
    (by
      intro Ap Av m H hp ds vs d Q r e q
      unfold pRange1 at e
      split at e
      · split at e
        · rename_i j hj
          cases e
          simp only [Bool.and_eq_true, decide_eq_true_eq] at hj
          obtain ⟨v1, rfl, r1⟩ := RepsP.one r
          cases r1
          have hb : (big : Int) = 1000000 := by decide
          refine ⟨_, rfl, j, rfl, ⟨by omega, by omega, hj.1, by omega, by omega⟩, fun p hp => q p _ _ rfl hp ?_⟩
          have e1 : (List.range j.toNat).map (fun (k : Nat) => D.int k) = ((List.range j.toNat).map fun (k : Nat) => (k : Int)).map D.int := by rw [List.map_map]; rfl
          have e2 : rgV 0 j = ((List.range j.toNat).map fun (k : Nat) => (k : Int)).map V.int := by
            unfold rgV
            rw [List.map_map]
            simp
          rw [e1, e2]
          exact ints_reps _
        · cases e
      · cases e) (pe_listRg hc hg hm (prg_1 hg2 hm2 (ha (true && true)) (starEach_cons na)) (starEach_cons fun _ _ q => nomatch q)) fun σ H Q q => tD_mono (tds_one q) fun x H1 ⟨x', e, h⟩ => by
        cases e
        exact h
/-- xs * k, new -/
theorem sf_mul {a b : Expr} {A B : E} (ha : SE g W X a A) (hb : SE g W X b B) : SF g W X (.BinOp a .Mult b pos) (.prim pRep (.cons A (.cons B .nil))) :=
  sf_prim (r := fun vs H Q => ∃ x y, vs = [x, y] ∧ rRep x y H Q)
    (by
      intro Ap Av m H hp ds vs d Q r e q
      unfold pRep at e
      split at e
      · rename_i xs k
        split at e
        · rename_i hz
          cases e
          simp only [Bool.and_eq_true, decide_eq_true_eq] at hz
          obtain ⟨v1, v2, rfl, r1, r2⟩ := RepsP.two r
          obtain ⟨a, vs, rfl, ha, ra⟩ := lst_at r1
          cases r2
          exact ⟨_, _, rfl, a, k, vs, rfl, rfl, ha, by omega, by omega, by rw [ra.length]; exact big_line hz.2, fun p hp => q p _ _ rfl hp (Reps.rep _ ra)⟩
        · cases e
      · cases e) (pe_op op_rep (ha (true && E.np (.cons B .nil))) (hb (true && true))) fun σ H Q q => by
        refine tD_mono (tds_cons q) fun x H1 q1 => tD_mono (tds_one q1) fun y H2 q2 => ?_
        obtain ⟨x', y', e, q2⟩ := q2
        cases e
        exact q2
end
end G
end
section
set_option Elab.async false
set_option linter.all false
set_option maxHeartbeats 1000000
/-! GG: short words for what gen.py prints. -/
namespace G
open PySem PySem.Spec PyProof.Rows L2
theorem bind_ok {α β : Type} {r : R α} {f : α → Z → R β} {b : β} {z : Z} (h : r.bind f = .ok b z) : ∃ a z1, r = .ok a z1 ∧ f a z1 = .ok b z := by
  cases r with
  | ok a z1 => exact ⟨a, z1, rfl, h⟩
  | exn c ds z1 => cases h
  | bad => cases h
/-- one value, by form -/
def E.one : E → Bool
  | .nil => false
  | .cons _ _ => false
  | .and a b => a.one && b.one
  | .or a b => a.one && b.one
  | .ite _ a b => a.one && b.one
  | _ => true
def E.many : E → Option Nat
  | .nil => some 0
  | .cons a r => if a.one then r.many.map (· + 1) else none
  | _ => none
theorem and_tt {a b : Bool} (h : (a && b) = true) : a = true ∧ b = true := Bool.and_eq_true_iff.mp h
theorem one_len : ∀ (e : E) (pk : Bool) (z : Z) (ds : List D) (z1 : Z), e.one = true → evE pk e z = .ok ds z1 → ds.length = 1 := by
  intro e
  induction e with
  | bad => intro pk z ds z1 h1 h; cases h
  | nil => intro pk z ds z1 h1 h; cases h1
  | cons a r => intro pk z ds z1 h1 h; cases h1
  | and a b iha ihb =>
    intro pk z ds z1 h1 h
    obtain ⟨o1, o2⟩ := and_tt h1
    obtain ⟨x, z2, e1, h⟩ := bind_ok h
    split at h
    · exact ihb _ _ _ _ o2 h
    · cases h; exact iha _ _ _ _ o1 e1
    · cases h
  | or a b iha ihb =>
    intro pk z ds z1 h1 h
    obtain ⟨o1, o2⟩ := and_tt h1
    obtain ⟨x, z2, e1, h⟩ := bind_ok h
    split at h
    · cases h; exact iha _ _ _ _ o1 e1
    · exact ihb _ _ _ _ o2 h
    · cases h
  | ite c a b ihc iha ihb =>
    intro pk z ds z1 h1 h
    obtain ⟨o1, o2⟩ := and_tt h1
    obtain ⟨x, z2, e1, h⟩ := bind_ok h
    split at h
    · exact iha _ _ _ _ o1 h
    · exact ihb _ _ _ _ o2 h
    · cases h
  | lit d => intro pk z ds z1 h1 h; cases h; rfl
  | var i =>
    intro pk z ds z1 h1 h
    unfold evE at h
    repeat' (split at h)
    all_goals first
      | (cases h; done)
      | (cases h; rfl)
  | pop i =>
    intro pk z ds z1 h1 h
    unfold evE at h
    repeat' (split at h)
    all_goals first
      | (cases h; done)
      | (cases h; rfl)
  | keepD i =>
    intro pk z ds z1 h1 h
    unfold evE at h
    repeat' (split at h)
    all_goals first
      | (cases h; done)
      | (cases h; rfl)
  | popAt i e ih =>
    intro pk z ds z1 h1 h
    unfold evE at h
    split at h
    · obtain ⟨x, z2, e1, h⟩ := bind_ok h
      repeat' (split at h)
      all_goals first
        | (cases h; done)
        | (cases h; rfl)
    · cases h
  | chain f g a b c iha ihb ihc =>
    intro pk z ds z1 h1 h
    unfold evE at h
    obtain ⟨x, z2, e1, h⟩ := bind_ok h
    obtain ⟨y, z3, e2, h⟩ := bind_ok h
    split at h
    · obtain ⟨y, z3, e2, h⟩ := bind_ok h
      split at h
      · cases h; rfl
      · cases h
    · cases h; rfl
    · cases h
  | _ =>
    intro pk z ds z1 h1 h
    unfold evE at h
    obtain ⟨x, z2, e1, h⟩ := bind_ok h
    repeat' (split at h)
    all_goals first
      | (cases h; done)
      | (cases h; rfl)
theorem many_len : ∀ (e : E) (n : Nat), e.many = some n → ∀ (pk : Bool) (z : Z) (ds : List D) (z1 : Z), evE pk e z = .ok ds z1 → ds.length = n := by
  intro e
  induction e with
  | nil => intro n hn pk z ds z1 h; cases hn; cases h; rfl
  | cons a r iha ihr =>
    intro n hn pk z ds z1 h
    unfold E.many at hn
    split at hn
    · rename_i ha
      obtain ⟨k, hk, rfl⟩ := Option.map_eq_some_iff.mp hn
      unfold evE at h
      obtain ⟨x, z2, e1, h⟩ := bind_ok h
      obtain ⟨y, z3, e2, h⟩ := bind_ok h
      cases h
      rw [List.length_append, one_len a _ _ _ _ ha e1, ihr k hk _ _ _ _ e2, Nat.add_comm]
    · cases hn
  | _ => intro n hn; cases hn
theorem manyE {e : E} {n : Nat} (h : e.many = some n) : ∀ z ds z1, evE false e z = .ok ds z1 → ds.length = n := fun z ds z1 q => many_len e n h false z ds z1 q

/-! ### defs -/
structure FnG (P : Program) (w : World) (K : PySem.W.Frag) (mg : Str → Option Value) (base : Heap) (g : Gx) (k : Nat) (x : Str) (n : Nat) (f : Fn) : Prop where
  ex : ∃ (fa : Addr) (fd : FuncData) (ps : List Str), FnOk P w K mg base (L2.CX P w) k fa fd ps (spD g n f) ∧ mg x = some (.ref fa) ∧ PySem.W.keepIn K (.ref fa) = true ∧ Binds K fd ps []
theorem FnG.d {g : Gx} {X : Cx} {k n : Nat} {x : Str} {f : Fn} (h : FnG X.prog X.w X.K X.mg X.base g k x n f) : FnD g X k x n f := ⟨h.ex⟩
/-- exceptions leave no comprehension -/
theorem tk_none {X : Cx} : Tk X W0 := fun σ pins H s e s' I ⟨_, _, _, _, _, _, _, _, _, _, _, _, w⟩ => w.elim
theorem tk_of {X : Cx} {W : WX} (t : Takes X W) : Tk X W := fun σ => passAt t σ
theorem hu65 {k : Nat} {A : Around} (hr : Room k A) : A.units + 65 < cLine := by
  have := hr.un
  omega

/-! ### bools by form -/
theorem b_eq (hp : List D) (ds : List D) (d : D) (h : pEq hp ds = some d) : ∃ b, d = .bl b := by
  unfold pEq at h
  split at h
  · exact ⟨_, (if_some h).symm⟩
  · cases h
theorem b_ne (hp : List D) (ds : List D) (d : D) (h : pNe hp ds = some d) : ∃ b, d = .bl b := by
  unfold pNe at h
  split at h
  · exact ⟨_, (if_some h).symm⟩
  · cases h
theorem b_lt (hp : List D) (ds : List D) (d : D) (h : pLt hp ds = some d) : ∃ b, d = .bl b := by
  unfold pLt at h
  split at h <;> cases h
  exact ⟨_, rfl⟩
theorem b_le (hp : List D) (ds : List D) (d : D) (h : pLe hp ds = some d) : ∃ b, d = .bl b := by
  unfold pLe at h
  split at h <;> cases h
  exact ⟨_, rfl⟩
theorem b_gt (hp : List D) (ds : List D) (d : D) (h : pGt hp ds = some d) : ∃ b, d = .bl b := by
  unfold pGt at h
  split at h <;> cases h
  exact ⟨_, rfl⟩
theorem b_ge (hp : List D) (ds : List D) (d : D) (h : pGe hp ds = some d) : ∃ b, d = .bl b := by
  unfold pGe at h
  split at h <;> cases h
  exact ⟨_, rfl⟩
theorem b_is (hp : List D) (ds : List D) (d : D) (h : pIs hp ds = some d) : ∃ b, d = .bl b := by
  unfold pIs at h
  split at h <;> cases h
  · exact ⟨_, rfl⟩
  · exact ⟨_, rfl⟩
theorem b_isnot (hp : List D) (ds : List D) (d : D) (h : pIsNot hp ds = some d) : ∃ b, d = .bl b := by
  unfold pIsNot at h
  split at h <;> cases h
  · exact ⟨_, rfl⟩
  · exact ⟨_, rfl⟩
theorem b_in (hp : List D) (ds : List D) (d : D) (h : pIn hp ds = some d) : ∃ b, d = .bl b := by
  unfold pIn at h
  split at h
  · exact ⟨_, (if_some h).symm⟩
  · exact ⟨_, (if_some h).symm⟩
  · cases h
theorem b_notin (hp : List D) (ds : List D) (d : D) (h : pNotIn hp ds = some d) : ∃ b, d = .bl b := by
  unfold pNotIn at h
  split at h
  · exact ⟨_, (if_some h).symm⟩
  · exact ⟨_, (if_some h).symm⟩
  · cases h
theorem b_din (hp : List D) (ds : List D) (d : D) (h : pDIn hp ds = some d) : ∃ b, d = .bl b := by
  unfold pDIn at h
  split at h
  · exact ⟨_, (if_some h).symm⟩
  · cases h
theorem b_dnotin (hp : List D) (ds : List D) (d : D) (h : pDNotIn hp ds = some d) : ∃ b, d = .bl b := by
  unfold pDNotIn at h
  split at h
  · exact ⟨_, (if_some h).symm⟩
  · cases h

/-! ### expressions -/
section
variable {g : Gx} {W : WX} {X : Cx} {pos p p2 : Pos} {a b c : Expr} {A B C : E} {x : Str}
theorem se_bad {e : Expr} : SE g W X e .bad := fun pk => pe_never fun σ H Q ⟨F, m, z, eg, o, h⟩ => h
theorem sv (i : Nat) (hv : Vis X.env.scope x) (hN : X.N[i]? = some x) (hd : (x == ("__debug__" : Str)) = false) (hcd : (x == ("__classdict__" : Str)) = false) : SE g W X (.Name x pos) (.var i) := se_var hN hv hd hcd
theorem svd (i : Nat) (hv : Vis X.env.scope x) (hN : X.N[i]? = some x) (hd : (x == ("__debug__" : Str)) = false) (hcd : (x == ("__classdict__" : Str)) = false) : SE g W X (.Name x pos) (.keepD i) := se_keepD hN hv hd hcd
theorem w_int {i : Int} {j : Nat} : SE g W X (.Constant (.int i) j pos) (.lit (.int i)) := se_lit pe_int fun _ _ _ _ _ => rfl
theorem w_bl {i : Bool} {j : Nat} : SE g W X (.Constant (.bool i) j pos) (.lit (.bl i)) := se_lit pe_bl fun _ _ _ _ _ => rfl
theorem w_non {j : Nat} : SE g W X (.Constant .none j pos) (.lit .non) := se_lit pe_non fun _ _ _ _ _ => rfl
theorem w_str {y : Str} {j : Nat} (h1 : PyData.strOk y = true) (h2 : y.length ≤ big) : SE g W X (.Constant (.str y) j pos) (.lit (.str y)) := se_lit pe_str fun _ _ _ _ _ => ⟨rfl, h1, h2⟩
theorem w_gint {i : Int} (hg : Gl X x) (h : ∃ t, X.mg x = some (.int i t)) (hd : (x == ("__debug__" : Str)) = false) : SE g W X (.Name x pos) (.lit (.int i)) := by
  obtain ⟨t, h⟩ := h
  exact se_lit (pe_glob hg h (show RelV (.int i) (.int i t) from ⟨t, rfl⟩) hd) fun _ _ _ _ _ => rfl
def stB : Expr → Bool
  | .Starred _ _ => true
  | _ => false
theorem stB_ne {e : Expr} (h : stB e = false) : ∀ x p, e ≠ .Starred x p := fun x p q => by
  subst q
  cases h
theorem nost1 (h : stB a = false) : noStar [a] = true := by
  cases a <;> first
    | rfl
    | cases h
theorem nost2 (h : stB a = false) (h2 : stB b = false) : noStar [a, b] = true := by
  have h3 := nost1 h2
  cases a <;> first
    | exact h3
    | cases h
theorem sac {es : List Expr} {r : E} (h : stB a = false) (ha : SE g W X a A) (hr : SA g W X es r) : SA g W X (a :: es) (.cons A r) := sa_cons ha hr (stB_ne h)
theorem w_add (hK : X.K = g.K) (ha : SE g W X a A) (hb : SE g W X b B) : SE g W X (.BinOp a .Add b pos) (.prim pAdd (.cons A (.cons B .nil))) := se_bin op_addD (pr_add hK) ha hb
theorem w_sub (ha : SE g W X a A) (hb : SE g W X b B) : SE g W X (.BinOp a .Sub b pos) (.prim pSub (.cons A (.cons B .nil))) := se_bin op_sub pr_sub ha hb
theorem w_mul (ha : SE g W X a A) (hb : SE g W X b B) : SE g W X (.BinOp a .Mult b pos) (.prim pMul (.cons A (.cons B .nil))) := se_bin op_mulD pr_mul ha hb
theorem w_div (ha : SE g W X a A) (hb : SE g W X b B) : SE g W X (.BinOp a .FloorDiv b pos) (.prim pDiv (.cons A (.cons B .nil))) := se_bin op_fdivW pr_div ha hb
theorem w_mod (ha : SE g W X a A) (hb : SE g W X b B) : SE g W X (.BinOp a .Mod b pos) (.prim pMod (.cons A (.cons B .nil))) := se_bin op_mod pr_mod ha hb
theorem w_pow (ha : SE g W X a A) (hb : SE g W X b B) : SE g W X (.BinOp a .Pow b pos) (.prim pPow (.cons A (.cons B .nil))) := se_bin op_pow pr_pow ha hb
theorem w_shl (ha : SE g W X a A) (hb : SE g W X b B) : SE g W X (.BinOp a .LShift b pos) (.prim pShl (.cons A (.cons B .nil))) := se_bin op_shl pr_shl ha hb
theorem w_shr (ha : SE g W X a A) (hb : SE g W X b B) : SE g W X (.BinOp a .RShift b pos) (.prim pShr (.cons A (.cons B .nil))) := se_bin op_shr pr_shr ha hb
theorem w_band (ha : SE g W X a A) (hb : SE g W X b B) : SE g W X (.BinOp a .BitAnd b pos) (.prim pAnd (.cons A (.cons B .nil))) := se_bin op_and pr_and ha hb
theorem w_bor (ha : SE g W X a A) (hb : SE g W X b B) : SE g W X (.BinOp a .BitOr b pos) (.prim pOr (.cons A (.cons B .nil))) := se_bin op_or pr_or ha hb
theorem w_neg (ha : SE g W X a A) : SE g W X (.UnaryOp .USub a pos) (.prim pNeg (.cons A .nil)) := se_un un_neg pr_neg ha
theorem w_ix (hK : X.K = g.K) (hp : PlainIx b) (ha : SE g W X a A) (hb : SE g W X b B) : SE g W X (.Subscript a b pos) (.prim pIx (.cons A (.cons B .nil))) := se_ix ix_seq (pr_ix hK) ha hb hp

theorem v_eq (hu : X.A.units + 65 < cLine) (hK : X.K = g.K) (ha : SE g W X a A) (hb : SE g W X b B) : SE g W X (.Compare a [.Eq] [b] pos) (.prim pEq (.cons A (.cons B .nil))) := se_cmp (op_eqD (by omega)) (pr_eq hK) ha hb (nomark _)
theorem v_ne (hu : X.A.units + 65 < cLine) (hK : X.K = g.K) (ha : SE g W X a A) (hb : SE g W X b B) : SE g W X (.Compare a [.NotEq] [b] pos) (.prim pNe (.cons A (.cons B .nil))) := se_cmp (op_neD (by omega)) (pr_ne hK) ha hb (nomark _)
theorem v_lt (ha : SE g W X a A) (hb : SE g W X b B) : SE g W X (.Compare a [.Lt] [b] pos) (.prim pLt (.cons A (.cons B .nil))) := se_cmp op_lt pr_lt ha hb (nomark _)
theorem v_le (ha : SE g W X a A) (hb : SE g W X b B) : SE g W X (.Compare a [.LtE] [b] pos) (.prim pLe (.cons A (.cons B .nil))) := se_cmp op_le pr_le ha hb (nomark _)
theorem v_gt (ha : SE g W X a A) (hb : SE g W X b B) : SE g W X (.Compare a [.Gt] [b] pos) (.prim pGt (.cons A (.cons B .nil))) := se_cmp op_gt pr_gt ha hb (nomark _)
theorem v_ge (ha : SE g W X a A) (hb : SE g W X b B) : SE g W X (.Compare a [.GtE] [b] pos) (.prim pGe (.cons A (.cons B .nil))) := se_cmp op_ge pr_ge ha hb (nomark _)
theorem v_is (ha : SE g W X a A) (hb : SE g W X b B) : SE g W X (.Compare a [.Is] [b] pos) (.prim pIs (.cons A (.cons B .nil))) := se_cmp op_isD pr_is ha hb (nomark _)
theorem v_isnot (ha : SE g W X a A) (hb : SE g W X b B) : SE g W X (.Compare a [.IsNot] [b] pos) (.prim pIsNot (.cons A (.cons B .nil))) := se_cmp op_isNotD pr_isnot ha hb (nomark _)
theorem v_in (hu : X.A.units + 65 < cLine) (hK : X.K = g.K) (hm : behindInMarks .In b = false) (ha : SE g W X a A) (hb : SE g W X b B) : SE g W X (.Compare a [.In] [b] pos) (.prim pIn (.cons A (.cons B .nil))) := se_cmp (op_inG hu) (pr_in hK) ha hb hm
theorem v_notin (hu : X.A.units + 65 < cLine) (hK : X.K = g.K) (hm : behindInMarks .NotIn b = false) (ha : SE g W X a A) (hb : SE g W X b B) : SE g W X (.Compare a [.NotIn] [b] pos) (.prim pNotIn (.cons A (.cons B .nil))) := se_cmp (op_notInG hu) (pr_notin hK) ha hb hm
theorem v_din (hu : X.A.units + 65 < cLine) (hm : behindInMarks .In b = false) (ha : SE g W X a A) (hb : SE g W X b B) : SE g W X (.Compare a [.In] [b] pos) (.prim pDIn (.cons A (.cons B .nil))) := se_din (by omega) ha hb hm
theorem v_dnotin (hu : X.A.units + 65 < cLine) (hm : behindInMarks .NotIn b = false) (ha : SE g W X a A) (hb : SE g W X b B) : SE g W X (.Compare a [.NotIn] [b] pos) (.prim pDNotIn (.cons A (.cons B .nil))) := se_dnotin (by omega) ha hb hm

theorem t_eq (hu : X.A.units + 65 < cLine) (hK : X.K = g.K) (ha : SE g W X a A) (hb : SE g W X b B) : ST g W X (.Compare a [.Eq] [b] pos) (.prim pEq (.cons A (.cons B .nil))) := st_cmp (op_eqD (by omega)) (pr_eq hK) b_eq ha hb (nomark _)
theorem t_ne (hu : X.A.units + 65 < cLine) (hK : X.K = g.K) (ha : SE g W X a A) (hb : SE g W X b B) : ST g W X (.Compare a [.NotEq] [b] pos) (.prim pNe (.cons A (.cons B .nil))) := st_cmp (op_neD (by omega)) (pr_ne hK) b_ne ha hb (nomark _)
theorem t_lt (ha : SE g W X a A) (hb : SE g W X b B) : ST g W X (.Compare a [.Lt] [b] pos) (.prim pLt (.cons A (.cons B .nil))) := st_cmp op_lt pr_lt b_lt ha hb (nomark _)
theorem t_le (ha : SE g W X a A) (hb : SE g W X b B) : ST g W X (.Compare a [.LtE] [b] pos) (.prim pLe (.cons A (.cons B .nil))) := st_cmp op_le pr_le b_le ha hb (nomark _)
theorem t_gt (ha : SE g W X a A) (hb : SE g W X b B) : ST g W X (.Compare a [.Gt] [b] pos) (.prim pGt (.cons A (.cons B .nil))) := st_cmp op_gt pr_gt b_gt ha hb (nomark _)
theorem t_ge (ha : SE g W X a A) (hb : SE g W X b B) : ST g W X (.Compare a [.GtE] [b] pos) (.prim pGe (.cons A (.cons B .nil))) := st_cmp op_ge pr_ge b_ge ha hb (nomark _)
theorem t_is (ha : SE g W X a A) (hb : SE g W X b B) : ST g W X (.Compare a [.Is] [b] pos) (.prim pIs (.cons A (.cons B .nil))) := st_cmp op_isD pr_is b_is ha hb (nomark _)
theorem t_isnot (ha : SE g W X a A) (hb : SE g W X b B) : ST g W X (.Compare a [.IsNot] [b] pos) (.prim pIsNot (.cons A (.cons B .nil))) := st_cmp op_isNotD pr_isnot b_isnot ha hb (nomark _)
theorem t_in (hu : X.A.units + 65 < cLine) (hK : X.K = g.K) (hm : behindInMarks .In b = false) (ha : SE g W X a A) (hb : SE g W X b B) : ST g W X (.Compare a [.In] [b] pos) (.prim pIn (.cons A (.cons B .nil))) := st_cmp (op_inG hu) (pr_in hK) b_in ha hb hm
theorem t_notin (hu : X.A.units + 65 < cLine) (hK : X.K = g.K) (hm : behindInMarks .NotIn b = false) (ha : SE g W X a A) (hb : SE g W X b B) : ST g W X (.Compare a [.NotIn] [b] pos) (.prim pNotIn (.cons A (.cons B .nil))) := st_cmp (op_notInG hu) (pr_notin hK) b_notin ha hb hm
/-- a dict's in, as a test -/
theorem t_dany {op : CmpOp} {f : Pr} (hf : ∀ hp ds d, f hp ds = some d → ∃ b, d = .bl b) (hs : SE g W X (.Compare a [op] [b] pos) (.prim f (.cons A (.cons B .nil))))
    (hp : ∀ te, PE X (.Compare a [op] [b] pos) te → PT X (.Compare a [op] [b] pos) (tTest te)) : ST g W X (.Compare a [op] [b] pos) (.prim f (.cons A (.cons B .nil))) :=
  st_bool rfl (prim_bool hf) (hp _ (hs true)) fun σ H Q q => q
theorem v_chain {op op' : CmpOp} {f f' : Pr} {r r' : R2} (ho : OpR X (compareOp op) r) (ho' : OpR X (compareOp op') r') (hr : Pr2 g f r) (hr' : Pr2 g f' r') (hm : lastMarks [op, op'] [b, c] = false)
    (ha : SE g W X a A) (hb : SE g W X b B) (hc : SE g W X c C) : SE g W X (.Compare a [op, op'] [b, c] pos) (.chain f f' A B C) := se_chain ho ho' hr hr' ha hb hc hm
theorem t_chain {op op' : CmpOp} {f f' : Pr} {r r' : R2} (ho : OpR X (compareOp op) r) (ho' : OpR X (compareOp op') r') (hr : Pr2 g f r) (hr' : Pr2 g f' r') (hm : lastMarks [op, op'] [b, c] = false)
    (ha : SE g W X a A) (hb : SE g W X b B) (hc : SE g W X c C) : ST g W X (.Compare a [op, op'] [b, c] pos) (.chain f f' A B C) := st_chain ho ho' hr hr' ha hb hc hm

/-! ### built-ins -/
theorem w_len (hm : X.mg "len" = none) (hg : Gl X "len") (hK : X.K = g.K) (h : stB a = false) (ha : SE g W X a A) : SE g W X (.Call (.Name "len" p) [a] [] pos) (.prim pLen (.cons A .nil)) :=
  se_callB call_len (pr_len hK) hg hm boot_len (sac h ha sa_nil) (nost1 h) (by decide) rfl
theorem w_abs (hm : X.mg "abs" = none) (hg : Gl X "abs") (h : stB a = false) (ha : SE g W X a A) : SE g W X (.Call (.Name "abs" p) [a] [] pos) (.prim pAbs (.cons A .nil)) :=
  se_callB call_abs pr_abs hg hm (by decide +kernel) (sac h ha sa_nil) (nost1 h) (by decide) rfl
theorem w_sum (hm : X.mg "sum" = none) (hg : Gl X "sum") (hK : X.K = g.K) (hc : X.calm = true) (h : stB a = false) (ha : SE g W X a A) : SE g W X (.Call (.Name "sum" p) [a] [] pos) (.prim pSum (.cons A .nil)) :=
  se_callB (cr_sum hc) (pr_sum hK) hg hm (by decide +kernel) (sac h ha sa_nil) (nost1 h) (by decide) rfl
theorem w_all (hm : X.mg "all" = none) (hg : Gl X "all") (hK : X.K = g.K) (hc : X.calm = true) (h : stB a = false) (ha : SE g W X a A) : SE g W X (.Call (.Name "all" p) [a] [] pos) (.prim pAll (.cons A .nil)) :=
  se_callB (cr_all hc) (pr_all hK) hg hm (by decide +kernel) (sac h ha sa_nil) (nost1 h) (by decide) rfl
theorem w_any (hm : X.mg "any" = none) (hg : Gl X "any") (hK : X.K = g.K) (hc : X.calm = true) (h : stB a = false) (ha : SE g W X a A) : SE g W X (.Call (.Name "any" p) [a] [] pos) (.prim pAny (.cons A .nil)) :=
  se_callB (cr_any hc) (pr_any hK) hg hm (by decide +kernel) (sac h ha sa_nil) (nost1 h) (by decide) rfl
theorem w_min2 (hm : X.mg "min" = none) (hg : Gl X "min") (hc : X.calm = true) (h : stB a = false) (h2 : stB b = false) (ha : SE g W X a A) (hb : SE g W X b B) : SE g W X (.Call (.Name "min" p) [a, b] [] pos) (.prim pMin2 (.cons A (.cons B .nil))) :=
  se_callB (call_min2 hc) pr_min2 hg hm (by decide +kernel) (sac h ha (sac h2 hb sa_nil)) (nost2 h h2) (by decide) rfl
theorem w_max2 (hm : X.mg "max" = none) (hg : Gl X "max") (hc : X.calm = true) (h : stB a = false) (h2 : stB b = false) (ha : SE g W X a A) (hb : SE g W X b B) : SE g W X (.Call (.Name "max" p) [a, b] [] pos) (.prim pMax2 (.cons A (.cons B .nil))) :=
  se_callB (call_max2 hc) pr_max2 hg hm (by decide +kernel) (sac h ha (sac h2 hb sa_nil)) (nost2 h h2) (by decide) rfl
theorem w_toint (hm : X.mg "int" = none) (hg : Gl X "int") (h : stB a = false) (ha : SE g W X a A) : SE g W X (.Call (.Name "int" p) [a] [] pos) (.prim pInt (.cons A .nil)) :=
  se_callTy call_int1 pr_int hg hm (by decide +kernel) (sac h ha sa_nil) (nost1 h) (by decide) rfl
theorem w_tolist (hm : X.mg "list" = none) (hg : Gl X "list") (hK : X.K = g.K) (h : stB a = false) (ha : SE g W X a A) : SE g W X (.Call (.Name "list" p) [a] [] pos) (.prim pList (.cons A .nil)) :=
  se_callTy call_list_of (pr_list hK) hg hm (by decide +kernel) (sac h ha sa_nil) (nost1 h) (by decide) rfl
theorem w_totuple (hm : X.mg "tuple" = none) (hg : Gl X "tuple") (hK : X.K = g.K) (h : stB a = false) (ha : SE g W X a A) : SE g W X (.Call (.Name "tuple" p) [a] [] pos) (.prim pTuple (.cons A .nil)) :=
  se_callTy call_tuple_of (pr_tuple hK) hg hm (by decide +kernel) (sac h ha sa_nil) (nost1 h) (by decide) rfl
theorem w_sortI (hm : X.mg "sorted" = none) (hg : Gl X "sorted") (hK : X.K = g.K) (h : stB a = false) (ha : SE g W X a A) : SE g W X (.Call (.Name "sorted" p) [a] [] pos) (.prim pSortI (.cons A .nil)) :=
  se_callB cr_sortedI (pr_sortI hK) hg hm (by decide +kernel) (sac h ha sa_nil) (nost1 h) (by decide) rfl
theorem w_sortT (d : Nat) (hm : X.mg "sorted" = none) (hg : Gl X "sorted") (hK : X.K = g.K) (h : stB a = false) (ha : SE g W X a A) : SE g W X (.Call (.Name "sorted" p) [a] [] pos) (.prim (pSortT d) (.cons A .nil)) :=
  se_callB cr_sortTL (pr_sortT hK) hg hm (by decide +kernel) (sac h ha sa_nil) (nost1 h) (by decide) rfl
end
end G
end
section
set_option Elab.async false
set_option linter.all false
set_option maxHeartbeats 1000000
/-! GG2: the head's facts, targets, a few more rules. -/
namespace G
open PySem PySem.Spec PyProof.Rows L2
/-- what the top has left, by places in lists -/
structure HD (frees glos : List Str) (nums : List (Str × Int)) (fns : List He.DefD) (fs : List (PySem.W.Frag → Bool)) (K : PySem.W.Frag) (mg : Str → Option Value) : Prop where
  free : ∀ (i : Nat) (x : Str), frees[i]? = some x → mg x = none
  glo : ∀ (i : Nat) (x : Str), glos[i]? = some x → mg x = some (.ref (He.ga K x))
  int : ∀ (i : Nat) (p : Str × Int), nums[i]? = some p → ∃ t, mg p.1 = some (.int p.2 t)
  fn : ∀ (i : Nat) (d : He.DefD), fns[i]? = some d → ∃ fd, FunD K d.name d.qual d.params d.body d.scope (d.dvs K) (d.kws K) (He.fAd K d.at_) fd
  fact : ∀ (i : Nat) (f : PySem.W.Frag → Bool), fs[i]? = some f → f K = true
/-! ### the Hook -/
def allB (frees glos : List Str) (nums : List (Str × Int)) (fs : List (PySem.W.Frag → Bool)) (K : PySem.W.Frag) : Bool :=
  (frees.all fun x => (He.Fa.free x).ok K) && ((glos.all fun x => (He.Fa.glo x).ok K) && ((nums.all fun p => (He.Fa.int p.1 p.2).ok K) && fs.all fun f => f K))
section
variable (frees glos : List Str) (nums : List (Str × Int)) (fns : List He.DefD) (fs : List (PySem.W.Frag → Bool))
def obsP (K : PySem.W.Frag) : He.AlD := (allB frees glos nums fs K && fns.all fun d => d.ok K, fns.map fun d => He.fnW K d.at_)
def obsPG (n : Nat) (g : Addr → Option Obj) : He.AlD := obsP frees glos nums fns fs (He.frG g (He.asD g n))
def hookP (n : Nat) : PySem.W.Hook where
  α := He.AlD
  obs := fun s => obsPG frees glos nums fns fs n s.heap.get?
  val := fun _ => He.valD fns
  says := fun _ h => ∃ K : PySem.W.Frag, K.In h ∧ obsP frees glos nums fns fs K = He.valD fns
  of := fun _ _ e => ⟨_, He.frG_in, e⟩
  keeps := fun _ _ _ ⟨K, hK, c⟩ k => ⟨K, PySem.W.Frag.In.keeps hK k, c⟩
end
section
variable {frees glos : List Str} {nums : List (Str × Int)} {fns : List He.DefD} {fs : List (PySem.W.Frag → Bool)} {K : PySem.W.Frag} {mg : Str → Option Value} {h : Heap}
theorem hd_of (X : K.In h) (G : h.Ns mainGlobals mg) (c : obsP frees glos nums fns fs K = He.valD fns) : HD frees glos nums fns fs K mg := by
  have c1 := congrArg (fun z : He.AlD => z.1) c
  have c2 := congrArg (fun z : He.AlD => z.2) c
  obtain ⟨ca, cd⟩ := and_tt (show (allB frees glos nums fs K && fns.all fun d => d.ok K) = true from c1)
  obtain ⟨f1, r⟩ := and_tt ca
  obtain ⟨f2, r⟩ := and_tt r
  obtain ⟨f3, f4⟩ := and_tt r
  refine ⟨fun i x e => He.free_ok X G (List.all_eq_true.mp f1 x (List.mem_of_getElem? e)), fun i x e => He.glo_ok X G (List.all_eq_true.mp f2 x (List.mem_of_getElem? e)), fun i p e => He.int_ok X G (List.all_eq_true.mp f3 p (List.mem_of_getElem? e)),
    fun i d e => ?_, fun i f e => List.all_eq_true.mp f4 f (List.mem_of_getElem? e)⟩
  have e2 : (fns.map fun d => He.fnW K d.at_)[i]? = (fns.map He.DefD.val)[i]? := congrArg (fun l => l[i]?) c2
  rw [List.getElem?_map, List.getElem?_map, e] at e2
  exact He.DefD.funD (Option.some.inj e2) (List.all_eq_true.mp cd d (List.mem_of_getElem? e))
end
/-! ### targets -/
section
variable {g : Gx} {W : WX} {X : Cx} {pos p p2 : Pos} {x : Str}
theorem nml (i : Nat) (hN : X.N[i]? = some x) (h : X.env.scope.names.lookup x = some .local) : NmF X (.Name x pos) i := ⟨x, pos, rfl, hN, .inl h, .inr h⟩
theorem nmc (i : Nat) (hN : X.N[i]? = some x) (h : X.env.scope.names.lookup x = some .cell) (hf : X.fn x = true) : NmF X (.Name x pos) i := ⟨x, pos, rfl, hN, .inr h, .inl hf⟩
theorem a_setl (i : Nat) {e : Expr} {E : E} {pos' : Pos} (nd : X.N.Nodup) (hi : X.N[i]? = some x) (h : X.env.scope.names.lookup x = some .local) (hs : swapsWith e (some (.Name x pos')) pos.line X.env = pure false) (he : SE g W X e E) : S1 g W X (.Assign [.Name x pos'] e pos) (.set (.one i) E) :=
  s1_set nd hi (.inl h) he hs (.inr h)
theorem a_setc (i : Nat) {e : Expr} {E : E} {pos' : Pos} (nd : X.N.Nodup) (hi : X.N[i]? = some x) (h : X.env.scope.names.lookup x = some .cell) (hf : X.fn x = true) (hs : swapsWith e (some (.Name x pos')) pos.line X.env = pure false) (he : SE g W X e E) : S1 g W X (.Assign [.Name x pos'] e pos) (.set (.one i) E) :=
  s1_set nd hi (.inr h) he hs (.inl hf)
theorem a_ownl (i : Nat) {e : Expr} {E : E} {pos' : Pos} (nd : X.N.Nodup) (hi : X.N[i]? = some x) (h : X.env.scope.names.lookup x = some .local) (hs : swapsWith e (some (.Name x pos')) pos.line X.env = pure false) (he : SF g W X e E) : S1 g W X (.Assign [.Name x pos'] e pos) (.own i E) :=
  s1_own nd hi (.inl h) he hs (.inr h)
theorem a_ownc (i : Nat) {e : Expr} {E : E} {pos' : Pos} (nd : X.N.Nodup) (hi : X.N[i]? = some x) (h : X.env.scope.names.lookup x = some .cell) (hf : X.fn x = true) (hs : swapsWith e (some (.Name x pos')) pos.line X.env = pure false) (he : SF g W X e E) : S1 g W X (.Assign [.Name x pos'] e pos) (.own i E) :=
  s1_own nd hi (.inr h) he hs (.inl hf)
/-- a, b, .. = a tuple -/
theorem a_asgT {es : List Expr} {is : List Nat} {e : Expr} {E : E} {k : Nat} {pt : Pos} (hK : X.K = g.K) (nd : X.N.Nodup) (hc : X.calm = true) (h : NmsF X es is) (hs : swapsWithSole [.Tuple es k pt] e pos.line X.env = pure false) (hw : swappedStores [.Tuple es k pt] e X.env = pure none)
    (he : SE g W X e E) : S1 g W X (.Assign [.Tuple es k pt] e pos) (.set (.tup is) E) := s1_asg he (tg_pg hK nd hc (.tup h)) hs hw rfl
theorem t_truth {e : Expr} {E : E} (hK : X.K = g.K) (he : ∀ whole, isTrue e X.env whole = (do let v ← whole; standAt e.pos; holding [v] (truthy v))) (h : SE g W X e E) : ST g W X e E := st_truth h he hK
end
/-! ### recursion: no depth left -/
def Fbad : Fn := fun _ _ => .bad
section
variable {P : Program} {w : World} {K : PySem.W.Frag} {mg : Str → Option Value} {base : Heap} {g : Gx} {k n : Nat} {x qual : Str} {params : Arguments} {body : List Stmt} {scope : Scope} {f : Addr} {fd : FuncData} {N ps : List Str}
theorem fnG_bad (F : FunD K x qual params body scope [] [] f fd) (mgx : mg x = some (.ref f)) (bd : Binds K fd ps []) (hn : ps.length = n) : FnG P w K mg base g k x n Fbad :=
  ⟨f, fd, ps, ⟨fun vs H Q E h => h.1.trans hn.symm, fun A outer s H args us vs Q E _ _ _ _ h => by
    obtain ⟨_, _, _, _, _, _, _, _, _, _, _, h⟩ := h
    exact h.elim⟩, mgx, F.kp, bd⟩
end
/-! ### keyword calls -/
section
variable {g : Gx} {W : WX} {X : Cx} {pos p k1 k2 : Pos} {x y1 y2 : Str} {P : Program}
/-- f(b = .., a = ..) of a def of two parameters a, b, in the other order -/
def flip2 (f : Fn) : Fn := fun ds hp => match ds with
  | [b, a] => f [a, b] hp
  | _ => .bad
end
/-! ### Bool facts -/
def oexB (K : PySem.W.Frag) (C : Addr) : Bool := (match K.lookup C with
  | some ⟨.type t, dd, .cls cd, sl⟩ => t == "type" && ((match cd.mro with
    | .ref C' :: bm => C' == C && PySem.HandSPX.refsVE bm
    | _ => false) && (cd.hasDict && (!cd.hasDel && (match sl.toList with
    | [_, _, _, _, some (.builtin n), _] => n == "ValueError.__new__"
    | _ => false))))
  | _ => false) && (decide (PySem.W.findIn K (.ref C) "__setattr__" = some (some (.builtin "object.__setattr__"))) && (decide (PySem.W.subIn K (.ref C) (.type "BaseException") = some true) && (decide (PySem.W.typeIn K (.ref C) = some (.type "type")) && PySem.W.keepIn K (.ref C))))
theorem oexB_ok {K : PySem.W.Frag} {C : Addr} (h : oexB K C = true) : OexC K C := by
  obtain ⟨h0, h⟩ := and_tt h
  obtain ⟨h1, h⟩ := and_tt h
  obtain ⟨h2, h⟩ := and_tt h
  obtain ⟨h3, h4⟩ := and_tt h
  refine ⟨?_, of_decide_eq_true h1, of_decide_eq_true h2, of_decide_eq_true h3, h4⟩
  cases q : K.lookup C with
  | none => rw [q] at h0; cases h0
  | some o =>
    rw [q] at h0
    obtain ⟨oc, dd, dt, sl⟩ := o
    cases oc with
    | type t =>
      cases dt with
      | cls cd =>
        obtain ⟨nm, bs, mro, ns, qn, hd, sn, sub, ab, col, del⟩ := cd
        obtain ⟨a1, a⟩ := and_tt (show (_ && _) = true from h0)
        obtain ⟨a2, a⟩ := and_tt (show (_ && _) = true from a)
        obtain ⟨a3, a⟩ := and_tt (show (_ && _) = true from a)
        obtain ⟨a4, a5⟩ := and_tt (show (_ && _) = true from a)
        have e1 : t = "type" := eq_of_beq a1
        have e3 : hd = true := a3
        have e4 : del = false := by
          cases del with
          | false => rfl
          | true => cases a4
        subst e1 e3 e4
        cases mro with
        | nil => cases a2
        | cons m0 bm =>
          cases m0 with
          | ref C' =>
            obtain ⟨b1, b2⟩ := and_tt (show (_ && _) = true from a2)
            have e5 : C' = C := eq_of_beq b1
            subst e5
            obtain ⟨l⟩ := sl
            split at a5
            · rename_i k0 k1 k2 k3 n k5 hl
              have e6 := eq_of_beq a5
              have e7 : l = [k0, k1, k2, k3, some (.builtin n), k5] := hl
              rw [e6] at e7
              rw [e7]
              exact ⟨nm, qn, ns, bs, bm, sn, sub, ab, col, dd, k0, k1, k2, k3, k5, rfl, b2⟩
            · cases a5
          | _ => cases a2
      | _ => cases h0
    | _ => cases dt <;> cases h0
def kdB (K : PySem.W.Frag) (cs : List Addr) (kd : Kd) (ins : Nat → Bool) (u : Value) : Bool :=
  decide (PySem.W.kitOne K (.type "NoneType") u = some (isKd .non kd)) && (decide (PySem.W.kitOne K (.type "bool") u = some (isKd (.bl true) kd)) && (decide (PySem.W.kitOne K (.type "int") u = some (isKd (.int 0) kd)) && (decide (PySem.W.kitOne K (.type "str") u = some (isKd (.str "") kd)) &&
    (decide (PySem.W.kitOne K (.type "tuple") u = some (isKd (.tup []) kd)) && (decide (PySem.W.kitOne K (.type "list") u = some (isKd (.lst []) kd)) && (decide (PySem.W.kitOne K (.type "dict") u = some (isKd (.dct false [] []) kd)) &&
      (List.range cs.length).all fun c => decide (PySem.W.kitOne K (.ref (cs.getD c 0)) u = some (isKd (.ins c []) kd))))))))
theorem kdB_ok {K : PySem.W.Frag} {cs : List Addr} {kd : Kd} {i : Nat → Bool} {u : Value} {cl : Nat → CI} (hc : ∀ c, c < cs.length → (cl c).C = cs.getD c 0) (h : kdB K cs kd i u = true) : KdF K cl cs.length kd u := by
  unfold kdB at h
  simp only [Bool.and_eq_true, decide_eq_true_eq, List.all_eq_true, List.mem_range] at h
  obtain ⟨h1, h2, h3, h4, h5, h6, h7, h8⟩ := h
  exact ⟨h1, h2, h3, h4, h5, h6, h7, fun c hcl => by rw [hc c hcl]; exact h8 c hcl⟩
def tyB (K : PySem.W.Frag) (C : Addr) : Bool := decide (PySem.W.findIn K (.ref C) "__class__" = some (some (.builtin "object.__class__"))) && (decide (PySem.W.specialIn K (.builtin "object.__class__") "__get__" = some (some (.builtin "getset_descriptor.__get__"))) &&
  (decide (PySem.W.takesIn K (.builtin "object.__class__") = some true) && decide (PySem.W.mroIn K C (.type "object") = some true)))
theorem tyB_ok {K : PySem.W.Frag} {C : Addr} (c : Cls K C) (h : tyB K C = true) : TyF K C := by
  unfold tyB at h
  simp only [Bool.and_eq_true, decide_eq_true_eq] at h
  exact ⟨c, h.1, h.2.1, h.2.2.1, h.2.2.2⟩
end G
end
section
set_option Elab.async false
set_option linter.all false
set_option maxRecDepth 100000
/-! GS1: set(a list of ints), and sorted(set(a list of ints)). -/
namespace G
open PySem PySem.Spec PyProof.Rows L2 L2
abbrev newSet (led : Bool) : Obj := { cls := .type "set", dict := none, data := .set #[] 0 (.fresh 0 0 led) }
section
variable {P : Program} {w : World} {A : Around} {E : Value → Shared → Prop} {s : Shared}
set_option maxHeartbeats 3200000 in
theorem set_ints {l : Addr} {items : Array Value} (ns : List Int) {Q : Value → Shared → Prop} (hh : A.handled = none) (hl : s.heap.IsList l items) (hit : IntsAre items.toList ns) (hb : ns.length + 1 < scanBound)
    (h : ∀ (h' : Heap) (tk c : Nat), SetR w h' s.heap.objs.size (fun j => decide (j ∈ ns)) c → c ≤ ns.length → (∀ b o, s.heap.get? b = some o → h'.get? b = some o) → Q (.ref s.heap.objs.size) { s with heap := h', toks := tk }) :
    wpAny (model P w) A (call (.type "set") [.ref l]) Q E s := by
  have sz : items.size = ns.length := by
    have q := IntsAre.length hit
    rwa [Array.length_toList] at q
  obtain ⟨c, tl, hmro⟩ := F.called_set.mro
  have hmade := F.called_set.made
  have hsub := F.called_set.sub
  have h1 := F.called_set.notType
  have h2 := F.called_set.canCreate
  have hct := F.typeCall_set_1 (.ref l)
  have hli := F.called_set.init.lookup
  refine wpAny_call (codeAny_of_tree ?_)
  show wpAny _ _ (callAny (.type "set") _) _ _ _
  refine wpAny_pure ⟨Code.quiet_builtin _ (by decide +kernel), codeAny_builtin F.entry_type_call ?_⟩
  rw [Around.under_plain (weight_type_call_type "set" [.ref l] []) rfl]
  repeat (any_goals (first | assumption | wp_step))
  generalize eled : (!w.params.followText "set-order") = led
  refine codeAny_mono (code_set_led1 (.ref l) (E := E) (Q₁ := fun obj s1 => obj = .ref s.heap.objs.size ∧ s1 = { s with heap := s.heap.push (newSet led) }) (by rw [eled]; exact ⟨rfl, rfl⟩)) fun r s1 hr => ?_
  cases r with
  | error e => exact hr
  | ok fl =>
    cases fl with
    | ret obj =>
      obtain ⟨rfl, rfl⟩ := hr
      have hS : (s.heap.push (newSet led)).get? s.heap.objs.size = some (newSet led) := Heap.get?_push_size _ rfl
      have hT : Shared.TypeIs { s with heap := s.heap.push (newSet led) } (.ref s.heap.objs.size) "set" := ⟨_, hS, rfl⟩
      have hbi := F.called_set.init.bind (.ref s.heap.objs.size)
      repeat (any_goals (first | assumption | wp_step))
      refine codeAny_mono (codeAny_call_builtin (R := wants (fun r s2 => r = .none ∧ ∃ h' tk c, s2 = { s with heap := h', toks := tk } ∧ SetR w h' s.heap.objs.size (fun j => decide (j ∈ ns)) c ∧ c ≤ ns.length ∧
          (∀ b o, s.heap.get? b = some o → h'.get? b = some o)) E) F.called_set.init.plain F.entry_set_init (check_set_init_1 hT ?_)) fun r2 s2 hr2 => ?_
      · obtain ⟨⟨ocls, odict, odata, oslots⟩, hol, hcl, nl, hdl⟩ := hl
        simp only at hcl hdl
        subst hcl hdl
        have hol' : (s.heap.push (newSet led)).get? l = some { cls := .type "list", dict := odict, data := .seq items nl, slots := oslots } := Heap.get?_push_of_some _ hol
        have hsls := F.sub_list_set
        have hslf := F.sub_list_frozenset
        have hne : (Value.type "list" == Value.type "dict") = false := by decide
        have hl1 : (s.heap.push (newSet led)).IsList l items := ⟨_, hol', rfl, nl, rfl⟩
        unfold Builtin.«set.__init__» noKeywords Builtin.Frozenset.updateFrom
        generalize hPI : pyIter = PI
        wp_walk
        subst hPI
        refine wpAny_pyIter_list hl1 ?_
        refine wpAny_bind (wpAny_runValue ?_)
        have hlS : l < s.heap.objs.size := Heap.lt_size hol
        have hh3 : A.in1.in1.in1.handled = none := by simp [hh]
        have sp : (s.heap.push (newSet led)).objs.size = s.heap.objs.size + 1 := Heap.size_push ..
        have hneI : l ≠ (s.heap.push (newSet led)).objs.size := by
          rw [sp]
          exact Nat.ne_of_lt (Nat.lt_succ_of_lt hlS)
        have hSf : s.heap.objs.size ∉ [(s.heap.push (newSet led)).objs.size, l] := by
          simp only [List.mem_cons, List.not_mem_nil, or_false, not_or]
          rw [sp]
          exact ⟨Nat.ne_of_lt (Nat.lt_succ_self _), Nat.ne_of_gt hlS⟩
        refine set_update_ints ((Walks.list hh3 _ l hneI items).toS) s.heap.objs.size hSf ns sz hb (fun i v hv => ?_) (items.size - 0) 0 _ (by omega) (Nat.zero_le _) ⟨⟨_, Heap.get?_push_size _ rfl, rfl, rfl⟩, (hl1.push _)⟩ ?hS0 ?hR
        · have hi : i < ns.length := by
            rw [← sz]
            exact (Array.getElem?_eq_some_iff.mp hv).1
          obtain ⟨t, e⟩ := PyProof.Rows.IntsAre.int_at hit i v (by rw [Array.getElem?_toList]; exact hv)
          refine ⟨ns[i], t, List.getElem?_eq_getElem hi, ?_⟩
          rw [e, List.getD_eq_getElem?_getD, List.getElem?_eq_getElem hi]
          rfl
        case hS0 =>
          subst eled
          exact ⟨0, Nat.le_refl 0, setR_new_at (Heap.get?_push_of_some _ hS)⟩
        case hR =>
          intro s' c' hm hc' hS'
          obtain ⟨h', g2, d', tk', os'⟩ := s'
          have eg : g2 = s.gens := hm.gens
          have ed : d' = s.drawn := hm.drawn
          have eo : os' = s.os := hm.os
          subst eg ed eo
          show wpAny _ _ _ _ _ _
          refine wpAny_pure ?_
          show wpAny _ _ (ret Value.none) _ _ _
          refine wpAny_pure ⟨rfl, h', tk', c', rfl, hS', by omega, fun b o e => ?_⟩
          have hb0 : b < s.heap.objs.size := Heap.lt_size e
          exact hm.heap b o (by
            simp only [List.mem_cons, List.not_mem_nil, or_false, not_or]
            rw [sp]
            exact ⟨Nat.ne_of_lt hb0, Nat.ne_of_lt (Nat.lt_succ_of_lt hb0)⟩) (Heap.get?_push_of_some _ (Heap.get?_push_of_some _ e))
      · cases r2 with
        | error e => exact hr2
        | ok fl2 =>
          cases fl2 with
          | ret r =>
            obtain ⟨rfl, h', tk, c', rfl, hS', hc', hk'⟩ := hr2
            repeat (any_goals (first | assumption | wp_step))
            exact h _ _ _ hS' hc' hk'
          | _ => exact hr2.elim
    | _ => exact hr.elim
end
/-! ### sorted(set(xs)) -/
/-- ascending, each once -/
def insU (a : Int) : List Int → List Int
  | [] => [a]
  | b :: r => if a < b then a :: b :: r else if a = b then b :: r else b :: insU a r
def sortSet : List Int → List Int
  | [] => []
  | a :: r => insU a (sortSet r)
theorem insU_mem (a x : Int) : ∀ l : List Int, x ∈ insU a l ↔ x = a ∨ x ∈ l
  | [] => by simp [insU]
  | b :: r => by
    unfold insU
    split
    · simp
    · split
      · rename_i h
        simp [h]
      · simp only [List.mem_cons, insU_mem a x r]
        constructor
        · rintro (h | h | h) <;> simp [h]
        · rintro (h | h | h) <;> simp [h]
theorem insU_asc (a : Int) : ∀ l : List Int, l.Pairwise (· < ·) → (insU a l).Pairwise (· < ·)
  | [], _ => by simp [insU]
  | b :: r, h => by
    obtain ⟨h1, h2⟩ := List.pairwise_cons.mp h
    unfold insU
    split
    · rename_i hab
      refine List.pairwise_cons.mpr ⟨fun c hc => ?_, h⟩
      rcases List.mem_cons.mp hc with e | hc
      · rw [e]; exact hab
      · exact Int.lt_trans hab (h1 c hc)
    · split
      · exact h
      · refine List.pairwise_cons.mpr ⟨fun c hc => ?_, insU_asc a r h2⟩
        rcases (insU_mem a c r).mp hc with e | hc
        · omega
        · exact h1 c hc
theorem sortSet_mem (x : Int) : ∀ l : List Int, x ∈ sortSet l ↔ x ∈ l
  | [] => by simp [sortSet]
  | a :: r => by rw [sortSet, insU_mem, sortSet_mem x r, List.mem_cons]
theorem sortSet_asc : ∀ l : List Int, (sortSet l).Pairwise (· < ·)
  | [] => List.Pairwise.nil
  | a :: r => insU_asc a _ (sortSet_asc r)
theorem asc_uniq : ∀ (a b : List Int), a.Pairwise (· < ·) → b.Pairwise (· < ·) → (∀ x, x ∈ a ↔ x ∈ b) → a = b
  | [], [], _, _, _ => rfl
  | [], y :: b, _, _, h => absurd ((h y).mpr List.mem_cons_self) (by simp)
  | x :: a, [], _, _, h => absurd ((h x).mp List.mem_cons_self) (by simp)
  | x :: a, y :: b, ha, hb, h => by
    obtain ⟨a1, a2⟩ := List.pairwise_cons.mp ha
    obtain ⟨b1, b2⟩ := List.pairwise_cons.mp hb
    have e : x = y := by
      have h1 := (h x).mp List.mem_cons_self
      have h2 := (h y).mpr List.mem_cons_self
      rcases List.mem_cons.mp h1 with e | h1
      · exact e
      · rcases List.mem_cons.mp h2 with e | h2
        · exact e.symm
        · have := a1 y h2
          have := b1 x h1
          omega
    subst e
    rw [asc_uniq a b a2 b2 fun z => ?_]
    constructor
    · intro hz
      rcases List.mem_cons.mp ((h z).mp (List.mem_cons_of_mem _ hz)) with e | q
      · have := a1 z hz
        omega
      · exact q
    · intro hz
      rcases List.mem_cons.mp ((h z).mpr (List.mem_cons_of_mem _ hz)) with e | q
      · have := b1 z hz
        omega
      · exact q
def pSortSet : Pr
  | _, [.lst xs] => if xs.length < 64 then (intsD xs).map fun l => .lst ((sortSet l).map D.int) else none
  | _, _ => none
def tSortSet (K : PySem.W.Frag) (ta : TE) : TE := fun σ H Q => ta σ H fun x H1 => ∃ (l : Addr) (ns : List Int), x = .ref l ∧ SqL K H1 l (ns.map V.int) ∧ ns.length < 64 ∧
  ∀ (ms : List Int) (p : Addr) (H2 : Hp), ms.Pairwise (· < ·) → (∀ k : Int, k ∈ ms ↔ k ∈ ns) → Same H1 H2 → H2 p = none → Q (.ref p) (upd H2 p (.lst (ms.map V.int)))
theorem intsAre_of : ∀ {ns : List Int} {us : List Value}, Vals (ns.map V.int) us → IntsAre us ns
  | [], _, .nil => .nil
  | n :: ns, _, .cons r t => by
    obtain ⟨k, rfl⟩ := r
    exact .cons n k (intsAre_of t)
theorem pe_sortSet {X : Cx} {a : Expr} {ta : TE} {p p2 q pos : Pos} (hc : X.calm = true) (hg : Gl X "sorted") (hm : X.mg "sorted" = none) (hg2 : Gl X "set") (hm2 : X.mg "set" = none) (ha : PE X a ta)
    (na : starEach [a] X.env = (false, eval a X.env) :: starEach [] X.env := by rfl) : PE X (.Call (.Name "sorted" p) [.Call (.Name "set" p2) [a] [] q] [] pos) (tSortSet X.K ta) := by
  refine ⟨fun pins s σ H Q I h => ?_⟩
  refine Call_ (ld_blt I hg hm (show bootBuiltins "sorted" = some (.builtin "sorted") by decide +kernel) ?_)
  refine PyProof.Rows.callWith_builtin1 (PyProof.Rows.args_cons ?_ rfl) rfl rfl
  refine Call_ (ld_blt I hg2 hm2 boot_set ?_)
  refine PyProof.Rows.callWith_type1 (PyProof.Rows.args_cons (thn (ha.run pins s σ H _ I h) fun v s1 ⟨x, H1, I1, r1, q1⟩ => PyProof.Rows.args_nil ?_) na) na rfl
  obtain ⟨l, ns, rfl, hq, hl, q1⟩ := q1
  cases r1
  obtain ⟨its, r, pl, hz⟩ := I1.list hq
  refine set_ints ns (I1.ok.hd hc) pl.isList (by simpa using intsAre_of r) (by unfold scanBound; omega) fun h' tk c hS hc' hk => ?_
  refine PyProof.Rows.args_nil ?_
  have hn : H1 s1.heap.objs.size = none := I1.hok.fresh (Nat.le_refl _)
  have I2 : Inv X pins σ (upd H1 s1.heap.objs.size (SetO X.w s1.heap.objs.size (fun j => decide (j ∈ ns)) c)) { s1 with heap := h', toks := tk } := I1.laid (t' := tk) hk (Nat.le_refl _) (setO_new hS)
  refine cr_sortedSet hc pins _ σ _ [.ref s1.heap.objs.size] [.ref s1.heap.objs.size] Q I2 (.cons rfl .nil) ⟨_, _, c, rfl, upd_same, by omega, fun ms p hs he _ hp => ?_⟩
  exact q1 ms p _ hs (fun k => (he k).trans decide_eq_true_iff) (same_new hn) hp
section
variable {g : Gx} {W : WX} {X : Cx} {pos p p2 q : Pos}
theorem pr_sortSet (hK : X.K = g.K) : Pr1 g pSortSet fun x H1 Q => ∃ (l : Addr) (ns : List Int), x = .ref l ∧ SqL X.K H1 l (ns.map V.int) ∧ ns.length < 64 ∧
    ∀ (ms : List Int) (p : Addr) (H2 : Hp), ms.Pairwise (· < ·) → (∀ k : Int, k ∈ ms ↔ k ∈ ns) → Same H1 H2 → H2 p = none → Q (.ref p) (upd H2 p (.lst (ms.map V.int))) := by
  intro Ap Av m H hp ds vs d Q hst hsub hl hc r e q
  rw [hK]
  unfold pSortSet at e
  split at e
  · rename_i xs
    by_cases h64 : xs.length < 64
    · rw [if_pos h64] at e
      obtain ⟨l, hl', rfl⟩ := Option.map_eq_some_iff.mp e
      obtain ⟨v1, rfl, r1⟩ := RepsP.one r
      obtain ⟨a, ws, rfl, ha, rs⟩ := lst_at r1
      have el := intsD_some hl'
      rw [el] at rs
      rw [reps_ints rs] at ha
      refine ⟨_, rfl, a, l, rfl, SqL.of ha, by rw [el, List.length_map] at h64; exact h64, fun ms p H2 hs hm sm hp' => ?_⟩
      have e1 : ms = sortSet l := asc_uniq _ _ hs (sortSet_asc l) fun x => (hm x).trans (sortSet_mem x l).symm
      subst e1
      exact q _ _ (fun b u hb => same_new hp' b u (sm b u hb)) ⟨p, _, rfl, upd_same, fun z => (by
        obtain ⟨u, hu⟩ := hst p z
        rw [sm p u hu] at hp'
        exact nomatch hp'), ints_reps _⟩
    · rw [if_neg h64] at e
      cases e
  · cases e
theorem se_sortSet {a : Expr} {A : E} (hc : X.calm = true) (hK : X.K = g.K) (hg : Gl X "sorted") (hm : X.mg "sorted" = none) (hg2 : Gl X "set") (hm2 : X.mg "set" = none) (ha : SE g W X a A) (na : ∀ x p, a ≠ .Starred x p) :
    SE g W X (.Call (.Name "sorted" p) [.Call (.Name "set" p2) [a] [] q] [] pos) (.prim pSortSet (.cons A .nil)) :=
  se_p1 (pr_sortSet hK) ha fun ta h => pe_sortSet hc hg hm hg2 hm2 h (starEach_cons na)
end
end G
end
section
set_option Elab.async false
set_option linter.all false
set_option maxHeartbeats 1000000
/-! GG3: tuple(range(n)), a call by keywords in the other order. -/
namespace G
open PySem PySem.Spec PyProof.Rows L2
theorem hu1 {k : Nat} {A : Around} (hr : Room k A) : A.units + 1 < cLine := hu_of hr
def pRangeT : Pr
  | _, [.int j] => if decide (-(2 ^ 62) ≤ j) && decide (j ≤ (big : Int)) then some (.tup ((List.range j.toNat).map fun (k : Nat) => D.int k)) else none
  | _, _ => none
section
variable {g : Gx} {W : WX} {X : Cx} {pos p p2 p3 p4 : Pos}
theorem se_tupleRange {a : Expr} {A : E} (hc : X.calm = true) (hg : Gl X "tuple") (hm : X.mg "tuple" = none) (hg2 : Gl X "range") (hm2 : X.mg "range" = none) (ha : SE g W X a A) (na : ∀ x p, a ≠ .Starred x p) :
    SE g W X (.Call (.Name "tuple" p) [.Call (.Name "range" p3) [a] [] p4] [] pos) (.prim pRangeT (.cons A .nil)) :=
  se_p1 (r := fun x H Q => ∃ n, x = .int n ∧ RgOk 0 n ∧ ∀ q, H q = none → Q (.ref q) (upd H q (.tup (rgV 0 n))))
    (by
      intro Ap Av m H hp ds vs d Q hst hsub hl hcc r e q
      unfold pRangeT at e
      split at e
      · split at e
        · rename_i j hj
          cases e
          simp only [Bool.and_eq_true, decide_eq_true_eq] at hj
          obtain ⟨v1, rfl, r1⟩ := RepsP.one r
          cases r1
          have hb : (big : Int) = 1000000 := by decide
          refine ⟨_, rfl, j, rfl, ⟨by omega, by omega, hj.1, by omega, by omega⟩, fun p hp => q _ _ (same_new hp) ⟨p, _, rfl, upd_same, ?_⟩⟩
          have e1 : (List.range j.toNat).map (fun (k : Nat) => D.int k) = ((List.range j.toNat).map fun (k : Nat) => (k : Int)).map D.int := by rw [List.map_map]; rfl
          have e2 : rgV 0 j = ((List.range j.toNat).map fun (k : Nat) => (k : Int)).map V.int := by
            unfold rgV
            rw [List.map_map]
            simp
          rw [e1, e2]
          exact ints_reps _
        · cases e
      · cases e) ha fun ta h => PE.weak (pe_tupRg hc hg hm (prg_1 hg2 hm2 h (starEach_cons na)) (starEach_cons fun _ _ q => nomatch q)) fun σ H Q q => q
/-- how f(b = .., a = ..) binds -/
def KB2 (K : PySem.W.Frag) (fd : FuncData) (a b : Str) : Prop := ∀ (s : Shared) (u v : Value), K.In s.heap → BindsTo s fd ⟨[], [(b, v), (a, u)]⟩ [(a, u), (b, v)]
/-- .. a def that may be called so -/
structure FnK (P : Program) (w : World) (K : PySem.W.Frag) (mg : Str → Option Value) (base : Heap) (g : Gx) (k : Nat) (x a b : Str) (f : Fn) : Prop where
  ex : ∃ (fa : Addr) (fd : FuncData), FnOk P w K mg base (L2.CX P w) k fa fd [a, b] (spD g 2 f) ∧ mg x = some (.ref fa) ∧ PySem.W.keepIn K (.ref fa) = true ∧ KB2 K fd a b
def gK2 {α : Type} : List α → List α → List α
  | [], [v, u] => [u, v]
  | _, _ => []
theorem kb_to {K : PySem.W.Frag} {fd : FuncData} {a b : Str} (h : KB2 K fd a b) : KBinds K fd [a, b] [b, a] gK2 gK2 := by
  refine ⟨fun s us ws X hl => ?_, fun {vs us zs ws} r1 r2 => ?_⟩
  · match us, ws, hl with
    | [], [v, u], _ => exact h s u v X
  · cases r1 with
    | cons _ _ =>
      cases r2 with
      | nil => exact .nil
      | cons _ _ => exact .nil
    | nil =>
      cases r2 with
      | nil => exact .nil
      | cons q1 r2 =>
        cases r2 with
        | nil => exact .nil
        | cons q2 r2 =>
          cases r2 with
          | nil => exact .cons q2 (.cons q1 .nil)
          | cons _ _ => exact .nil
theorem sp_flip {n : Nat} {f : Fn} {u v : V} {H : Hp} {Q : VK} {E : XK} (h : spD g 2 (flip2 f) [v, u] H Q E) : spD g 2 f [u, v] H Q E := by
  obtain ⟨hl, N, m, hp, ds, n0, m0, nd, ml, cells, r, h⟩ := h
  match ds, r with
  | [], r => cases r
  | [d], r =>
    obtain ⟨_, _, e, _, t⟩ := r
    cases e
    cases t
  | [d, e], r =>
    obtain ⟨_, _, q, rd, t⟩ := r
    cases q
    obtain ⟨_, _, q, re, t⟩ := t
    cases q
    exact ⟨rfl, N, m, hp, [e, d], n0, m0, nd, ml, cells, ⟨_, _, rfl, re, ⟨_, _, rfl, rd, rfl⟩⟩, h⟩
  | d :: e :: f :: r', r =>
    have := r.length
    simp at this
theorem se_kw2 {k : Nat} {x a b : Str} {e1 e2 : Expr} {A B : E} {f : Fn} {q1 q2 : Pos} (D : FnK X.prog X.w X.K X.mg X.base g k x a b f) (hr : Room k X.A) (tk : Tk X W) (hg : Gl X x) (ha : SE g W X e1 A) (hb : SE g W X e2 B) (hd : (x == ("__debug__" : Str)) = false) (h1 : A.one = true) (h2 : B.one = true) :
    SE g W X (.Call (.Name x p) [] [⟨some b, e1, q1⟩, ⟨some a, e2, q2⟩] pos) (.call (flip2 f) (.cons A (.cons B .nil))) := fun pk => by
  obtain ⟨fa, fd, F, hm, hk, kb⟩ := D.ex
  have hn : (E.cons A (.cons B .nil)).many = some 2 := by
    show (if A.one then (if B.one then some 1 else none : Option Nat).map (· + 1) else none) = some 2
    rw [h1, h2]
    rfl
  refine PE.weak (u := tD g W pk (.call (flip2 f) (.cons A (.cons B .nil)))) (t := fun σ H Q => (tCons (tD g W (false && E.np (.cons B .nil)) A) (tCons (tD g W (false && true) B) tNil)) σ H fun zs H2 => spD g 2 f (gK2 [] zs) H2 Q (WE W σ)) ⟨fun pins s σ H Q I h => ?_⟩ fun σ H Q q => ?_
  · refine wpAny_Call_Name_kw (ld_glob I hg hm ?_ hd)
    refine PySem.W.callWith_KW0 (h₀ := X.base) I.ok.mod.kin hk rfl (thn ((pk_cons (ha _) (pk_cons (hb _) pk_nil)).run pos pins s σ H _ I h) fun ws s2 ⟨zs, H2, I2, rz, q2⟩ => ⟨I2.kIn, ?_⟩) rfl
    exact run_fnkS (E := WE W) F hr (kb_to kb) (tk σ) I2 .nil rz q2
  · have q := call_w (manyE hn) q
    exact tD_mono (tds_cons q) fun x H1 h => tD_mono (tds_cons h) fun y H2 h2 => tds_nil' h2
where
  tds_nil' {x y : V} {H2 : Hp} {σ : L2.St} {Q : VK} {f : Fn} (h : tDs g W false .nil σ H2 fun ys H3 => spD g 2 (flip2 f) (x :: y :: ys) H3 Q (WE W σ)) : spD g 2 f (gK2 [] [x, y]) H2 Q (WE W σ) := by
    obtain ⟨F, m, z, eg, o, h⟩ := h
    exact sp_flip (n := 0) (h [] H2 m (PP.refl o rfl))
theorem prim_key {f : Pr} {es : E} {r : List V → Hp → VK → Prop} {σ : L2.St} {H : Hp} {Q : VK} (hr : PrR g f r) (h : tD g W true (.prim f es) σ H Q) : tDs g W true es σ H fun vs H1 => r vs H1 Q := by
  obtain ⟨F, m, z, eg, o, h⟩ := h
  refine ⟨F, m, z, eg, o, ?_⟩
  unfold evE at h
  cases e1 : evE true es z with
  | bad => rw [e1] at h; exact h.elim
  | exn c ds z1 => rw [e1] at h; exact h
  | ok xs z1 =>
    rw [e1] at h
    have h : aft F W m z σ H es.np true (match f z1.hp xs with | some d => .ok [d] z1 | none => .bad) _ := h
    intro vs H1 m1 p
    cases e2 : f z1.hp xs with
    | none => rw [e2] at h; exact h.elim
    | some d =>
      rw [e2] at h
      subst eg
      exact pr_use hr p.ok p.rp e2 fun v H2 s rp => h [v] H2 m1 (p.more s ⟨v, [], rfl, rp, rfl⟩) v rfl
theorem t_din {a b : Expr} {A B : E} (hu : X.A.units + 65 < cLine) (hm : behindInMarks .In b = false) (ha : SE g W X a A) (hb : SE g W X b B) : ST g W X (.Compare a [.In] [b] pos) (.prim pDIn (.cons A (.cons B .nil))) :=
  st_bool rfl (prim_bool b_din) (pt_cmp (pc_din (by omega) (ha (true && E.np (.cons B .nil))) (hb (true && true))) hm) fun σ H Q q => by
    refine tD_mono (tds_cons (prim_key pr_din q)) fun x H1 q1 => tD_mono (tds_one q1) fun y H2 q2 => ?_
    obtain ⟨x', y', e, q2⟩ := q2
    cases e
    exact q2
theorem t_dnotin {a b : Expr} {A B : E} (hu : X.A.units + 65 < cLine) (hm : behindInMarks .NotIn b = false) (ha : SE g W X a A) (hb : SE g W X b B) : ST g W X (.Compare a [.NotIn] [b] pos) (.prim pDNotIn (.cons A (.cons B .nil))) :=
  st_bool rfl (prim_bool b_dnotin) (pt_cmp (pc_dnotin (by omega) (ha (true && E.np (.cons B .nil))) (hb (true && true))) hm) fun σ H Q q => by
    refine tD_mono (tds_cons (prim_key pr_dnotin q)) fun x H1 q1 => tD_mono (tds_one q1) fun y H2 q2 => ?_
    obtain ⟨x', y', e, q2⟩ := q2
    cases e
    exact q2
theorem w_st {e : Expr} {E : E} (h : SW g W X e E) : ST g W X e E := h.st
/-- one side of a parallel store -/
def PArg (g : Gx) (W : WX) (X : Cx) (o : Bool) (e : Expr) (E : E) : Prop := match o with
  | true => SF g W X e E
  | false => SE g W X e E
theorem PArg.pe {o : Bool} {e : Expr} {E : E} (h : PArg g W X o e E) : PE X e (if o then tDf g W E else tD g W false E) := by
  cases o with
  | true => exact h
  | false => exact h false
theorem a_par2 (i j : Nat) (o1 o2 : Bool) {x y : Str} {a b : Expr} {A B : E} {px py pt : Pos} {kt k2 pt2} (nd : X.N.Nodup) (hc : X.calm = true) (hi : X.N[i]? = some x) (hj : X.N[j]? = some y) (hij : i ≠ j) (hx : X.env.scope.names.lookup x = some .local) (hy : X.env.scope.names.lookup y = some .local)
    (na : stB a = false) (nb : stB b = false) (hw : swappedStores [.Tuple [.Name x px, .Name y py] kt pt] (.Tuple [a, b] k2 pt2) X.env = pure (some [x, y])) (hs : swapsWithSole [.Tuple [.Name x px, .Name y py] kt pt] (.Tuple [a, b] k2 pt2) pos.line X.env = pure false)
    (ha : PArg g W X o1 a A) (hb : PArg g W X o2 b B) : S1 g W X (.Assign [.Tuple [.Name x px, .Name y py] kt pt] (.Tuple [a, b] k2 pt2) pos) (.par [(i, o1, A), (j, o2, B)]) :=
  s1_par2 hc nd hi hj hij hx hy ha.pe hb.pe (stB_ne na) (stB_ne nb) hw hs
theorem a_par3 (i j l : Nat) (o1 o2 o3 : Bool) {x y u : Str} {a b c : Expr} {A B C : E} {px py pu pt : Pos} {kt k2 pt2} (nd : X.N.Nodup) (hc : X.calm = true) (hi : X.N[i]? = some x) (hj : X.N[j]? = some y) (hl : X.N[l]? = some u) (hij : i ≠ j) (hil : i ≠ l) (hjl : j ≠ l)
    (hx : X.env.scope.names.lookup x = some .local) (hy : X.env.scope.names.lookup y = some .local) (hu : X.env.scope.names.lookup u = some .local)
    (na : stB a = false) (nb : stB b = false) (nc : stB c = false) (hw : swappedStores [.Tuple [.Name x px, .Name y py, .Name u pu] kt pt] (.Tuple [a, b, c] k2 pt2) X.env = pure (some [x, y, u])) (hs : swapsWithSole [.Tuple [.Name x px, .Name y py, .Name u pu] kt pt] (.Tuple [a, b, c] k2 pt2) pos.line X.env = pure false)
    (ha : PArg g W X o1 a A) (hb : PArg g W X o2 b B) (hcc : PArg g W X o3 c C) : S1 g W X (.Assign [.Tuple [.Name x px, .Name y py, .Name u pu] kt pt] (.Tuple [a, b, c] k2 pt2) pos) (.par [(i, o1, A), (j, o2, B), (l, o3, C)]) :=
  s1_par3 hc nd hi hj hl hij hil hjl hx hy hu ha.pe hb.pe hcc.pe (stB_ne na) (stB_ne nb) (stB_ne nc) hw hs
theorem a_lcSet {i : Nat} {y : Str} {py : Pos} {elt tg iter : Expr} {ifs : List Expr} {scope : Scope} {own : List (Str × Nat)} {pos' : Pos} {t : Tg} {IT C EL : E} (nd : X.N.Nodup) (hy : X.N[i]? = some y) (hc : X.calm = true) (hyl : X.env.scope.names.lookup y = some .local)
    (hsw : swapsWith (.ListComp elt [⟨tg, iter, ifs, 0⟩] scope pos') (some (.Name y py)) pos.line X.env = pure true) (hi : SI g W X tg iter IT) (ok : BlkOk X.N X.env.scope scope own) (ho : own.map (·.2) = t.ix)
    (hg : ∀ (s : Shared) (H : Hp) (C : Addr) (cl : List (Str × Addr)) (fp : List Addr), PG (X.blk s H scope (compEnvC scope cl C X.env) fp) tg (gT g.K t))
    (ht : ∀ (s : Shared) (H : Hp) (C' : Addr) (cl : List (Str × Addr)) (fp : List Addr), STs g (X.blk s H scope (compEnvC scope cl C' X.env) fp) ifs C)
    (he : ∀ (s : Shared) (H : Hp) (C : Addr) (cl : List (Str × Addr)) (fp : List Addr), SE g W0 (X.blk s H scope (compEnvC scope cl C X.env) fp) elt EL) (hs : ∀ x, foldedSetIterable iter X.env x = pure x) :
    S1 g W X (.Assign [.Name y py] (.ListComp elt [⟨tg, iter, ifs, 0⟩] scope pos') pos) (.set (.one i) (.comp t IT C EL)) := s1_setLc hc nd hy hyl hsw hi ok ho hg ht he hs false
theorem a_lcOwn {i : Nat} {y : Str} {py : Pos} {elt tg iter : Expr} {ifs : List Expr} {scope : Scope} {own : List (Str × Nat)} {pos' : Pos} {t : Tg} {IT C EL : E} (nd : X.N.Nodup) (hy : X.N[i]? = some y) (hc : X.calm = true) (hyl : X.env.scope.names.lookup y = some .local)
    (hsw : swapsWith (.ListComp elt [⟨tg, iter, ifs, 0⟩] scope pos') (some (.Name y py)) pos.line X.env = pure true) (hi : SI g W X tg iter IT) (ok : BlkOk X.N X.env.scope scope own) (ho : own.map (·.2) = t.ix)
    (hg : ∀ (s : Shared) (H : Hp) (C : Addr) (cl : List (Str × Addr)) (fp : List Addr), PG (X.blk s H scope (compEnvC scope cl C X.env) fp) tg (gT g.K t))
    (ht : ∀ (s : Shared) (H : Hp) (C' : Addr) (cl : List (Str × Addr)) (fp : List Addr), STs g (X.blk s H scope (compEnvC scope cl C' X.env) fp) ifs C)
    (he : ∀ (s : Shared) (H : Hp) (C : Addr) (cl : List (Str × Addr)) (fp : List Addr), SE g W0 (X.blk s H scope (compEnvC scope cl C X.env) fp) elt EL) (hs : ∀ x, foldedSetIterable iter X.env x = pure x) :
    S1 g W X (.Assign [.Name y py] (.ListComp elt [⟨tg, iter, ifs, 0⟩] scope pos') pos) (.own i (.comp t IT C EL)) := s1_setLc hc nd hy hyl hsw hi ok ho hg ht he hs true
/-- tuples of ints, as long as the first of them -/
def pSortTs : Pr
  | hp, [.lst (.tup t :: xs)] => pSortT t.length hp [.lst (.tup t :: xs)]
  | _, _ => none
theorem pr_sortTs (hK : X.K = g.K) : PrR g pSortTs (rSortTL X.K) := by
  intro Ap Av m H hp ds vs d Q hst hsub hl hc r e q
  unfold pSortTs at e
  split at e
  · exact pr_sortT hK Ap Av m H hp _ vs d Q hst hsub hl hc r e q
  · cases e
theorem w_sortTs {a : Expr} {A : E} (hm : X.mg "sorted" = none) (hg : Gl X "sorted") (hK : X.K = g.K) (h : stB a = false) (ha : SE g W X a A) : SE g W X (.Call (.Name "sorted" p) [a] [] pos) (.prim pSortTs (.cons A .nil)) :=
  se_callB cr_sortTL (pr_sortTs hK) hg hm (by decide +kernel) (sac h ha sa_nil) (nost1 h) (by decide) rfl
end
/-! ### defs once more -/
section
variable {P : Program} {w : World} {K : PySem.W.Frag} {mg : Str → Option Value} {base : Heap} {g : Gx} {k n c nf : Nat} {x qual : Str} {params : Arguments} {body : List Stmt} {scope : Scope} {f : Addr} {fd : FuncData} {N ps : List Str} {B : S} {kws : List (Str × V)}
theorem kb2_of {a b : Str} (F : FunD K x qual params body scope [] kws f fd) (h : ∀ (kV doc pm : Value) (an : Option Addr) (cdv ct u v : Value), bindArgs (PySem.W.fnOf x qual params body scope .none kV doc pm an cdv ct) ⟨[], [(b, v), (a, u)]⟩ = pure [(a, u), (b, v)]) : KB2 K fd a b := by
  obtain ⟨oc, od, dV, kV, doc, pm, an, cdv, ct, osl, rfl, lk, hcd, hD, hK⟩ := F.ex
  rcases hD with ⟨_, rfl⟩ | ⟨e, _⟩
  · exact fun s u v X => .of_eq (h kV doc pm an cdv ct u v)
  · exact absurd rfl e
/-- a def's body is walked -/
abbrev BodyOk (P : Program) (w : World) (K : PySem.W.Frag) (mg : Str → Option Value) (base : Heap) (g : Gx) (k : Nat) (qual : Str) (scope : Scope) (f : Addr) (N : List Str) (body : List Stmt) (B : S) : Prop :=
  ∀ (cdv : Value) (A : Around) (outer : List Env) (s : Shared) (H : Hp) (E : XK), Room k (A.deeper (envOfC qual scope s.heap.objs.size f cdv)) → Takes (cxOf (L2.CX P w) P w K mg base N qual scope f cdv A outer s H E) (WOf E) →
    PassesOwn (model P w) (cxOf (L2.CX P w) P w K mg base N qual scope f cdv A outer s H E).A (cxOf (L2.CX P w) P w K mg base N qual scope f cdv A outer s H E).env (cxOf (L2.CX P w) P w K mg base N qual scope f cdv A outer s H E).xe →
    SS g (WOf E) (cxOf (L2.CX P w) P w K mg base N qual scope f cdv A outer s H E) body B
theorem body_of (h : BodyOk P w K mg base g k qual scope f N body B) (cdv : Value) (A : Around) (outer : List Env) (s : Shared) (H : Hp) (E : XK) (hr : Room k (A.deeper (envOfC qual scope s.heap.objs.size f cdv))) :
    SS g (WOf E) (cxOf (L2.CX P w) P w K mg base N qual scope f cdv A outer s H E) body B := h cdv A outer s H E hr (takes_of rfl rfl rfl rfl) (passes_of rfl)
theorem fnO_D (F : FunD K x qual params body scope [] [] f fd) (S : FnScope N ps scope) (hn : ps.length = n) (h : BodyOk P w K mg base g k qual scope f N body B) : FnOk P w K mg base (L2.CX P w) (k + 1) f fd ps (spD g n (evF N.length B)) := by
  obtain ⟨oc, od, dV, kV, doc, pm, an, cdv, ct, osl, rfl, lk, hcd, _, _⟩ := F.ex
  exact fn_spD lk hcd S hn (body_of h cdv)
theorem fnO_U (F : FunD K x qual params body scope [] [] f fd) (S : FnScope N ps scope) (hn : ps.length = n) (h : BodyOk P w K mg base g k qual scope f N body B) : FnOk P w K mg base (L2.CX P w) (k + 1) f fd ps (spD g n (evU N.length B)) := by
  obtain ⟨oc, od, dV, kV, doc, pm, an, cdv, ct, osl, rfl, lk, hcd, _, _⟩ := F.ex
  exact fn_spU lk hcd S hn (body_of h cdv)
theorem fnO_I (F : FunD K x qual params body scope [] [] f fd) (S : FnScope N ps scope) (hn : ps.length = n + 1) (h : BodyOk P w K mg base g k qual scope f N body B) : FnOk P w K mg base (L2.CX P w) (k + 1) f fd ps (spI g c n (evI c nf (N.length - 1) B)) := by
  obtain ⟨oc, od, dV, kV, doc, pm, an, cdv, ct, osl, rfl, lk, hcd, _, _⟩ := F.ex
  exact fn_spI lk hcd S hn (body_of h cdv)
end
end G
end
section
set_option Elab.async false
set_option linter.all false
set_option maxHeartbeats 1000000
/-! GG4: a law's end, the exceptions' form by the world. -/
namespace G
open PySem PySem.Spec PyProof.Rows L2 PyProof
theorem walk_w {l : PySem.W.OpenLaw} {n k : Nat} {q : Program} {loose : List Str} {XP : (Str → Option Value) → Heap → Prop} {YP : World → Heap → Prop} {d : DefRec} {CX : World → CXT} {x : Str} (hn : l.most = some n) (hn2 : n ≤ sizeLine) (hdf : d.params.defaults = []) (hr : Room k callerA)
    (F : ∀ (w : World) (mg : Str → Option Value) (fa : Addr) (h : Heap), YP w h → h.Ns mainGlobals mg → mg d.name = some (.ref fa) → ∃ (K : PySem.W.Frag) (fd : FuncData) (sp : Sp), K.In h ∧ (∀ (s : Shared) (u : Value), BindsTo s fd ⟨[u], []⟩ [(x, u)]) ∧
      (∀ (H : Hp) (a : Addr) (ns : List Int), ns.length ≤ n → Only H → SqL K H a (ns.map V.int) → sp [.ref a] H (fun v _ => v = .bl true) fun _ _ _ => False) ∧ ∀ base : Heap, K.In base → base.Ns mainGlobals mg → FnOk l.prog w K mg base (CX w) k fa fd [x] sp)
    (hCX : ∀ (w : World) (H : Hp) (s : Shared) (e : Value) (s' : Shared), CX w [] H s (fun _ _ _ => False) e s' → False) : PySem.W.WalkO q loose XP YP l.row.toRowW d [] (fun f vs => PySem.call f vs) := by
  refine Att.attach_call hn hdf fun w s₀ s1 mg mb fa o pm cd doc a vs ns G Y ho hd hcd hmg hobj hints hlen hg => ?_
  obtain ⟨K, fd, sp, KX, hb, hsp, hF⟩ := F w mg fa _ Y G.T.g hmg
  exact law_call KX G.T.g G.T.b G.T.builtins G.T.nolimit hg hobj hints (Nat.le_trans hlen hn2) hr hF hb (fun H hO hS => hsp H a ns hlen hO hS) fun H e s' => hCX w H s1 e s'
end G
end
section
set_option Elab.async false
set_option linter.all false
/-! PL0: loops of the interpreter, in plain Lean. -/
namespace G
theorem getD_of {hp : List D} {k : Nat} {d : D} (h : hp[k]? = some d) : hp.getD k .non = d := by
  rw [List.getD_eq_getElem?_getD, h]; rfl
theorem getD_set {hp : List D} {k : Nat} {d e : D} (h : hp[k]? = some d) : (hp.set k e).getD k .non = e := by
  have := (List.getElem?_eq_some_iff.mp h).1
  rw [List.getD_eq_getElem?_getD, List.getElem?_set_self this]; rfl
theorem get_set {hp : List D} {k : Nat} {d e : D} (h : hp[k]? = some d) : (hp.set k e)[k]? = some e := by
  have := (List.getElem?_eq_some_iff.mp h).1
  rw [List.getElem?_set_self this]
/-- a for as a fold: R ties what has been made to the state -/
theorem forL_fold {α β : Type} (enc : α → D) (R : β → Z → Prop) (g : β → α → β) (f : D → Z → O) : ∀ (xs : List α) (b : β) (z : Z), R b z →
    (∀ (a : α) (b : β) (z : Z), a ∈ xs → R b z → ∃ z', (f (enc a) z = .next z' ∨ f (enc a) z = .cont z') ∧ R (g b a) z') → ∃ z', forL f (xs.map enc) z = .next z' ∧ R (xs.foldl g b) z'
  | [], b, z, h, _ => ⟨z, rfl, h⟩
  | x :: xs, b, z, h, st => by
    obtain ⟨z1, e, h1⟩ := st x b z List.mem_cons_self h
    obtain ⟨z2, e2, h2⟩ := forL_fold enc R g f xs (g b x) z1 h1 fun a b z ha => st a b z (List.mem_cons_of_mem _ ha)
    refine ⟨z2, ?_, h2⟩
    rcases e with e | e
    · show (match f (enc x) z with | .next z1 => forL f (xs.map enc) z1 | .cont z1 => forL f (xs.map enc) z1 | .brk z1 => .next z1 | .ret d z1 => .ret d z1 | .exn c ds z1 => .exn c ds z1 | .bad => .bad) = _
      rw [e]
      exact e2
    · show (match f (enc x) z with | .next z1 => forL f (xs.map enc) z1 | .cont z1 => forL f (xs.map enc) z1 | .brk z1 => .next z1 | .ret d z1 => .ret d z1 | .exn c ds z1 => .exn c ds z1 | .bad => .bad) = _
      rw [e]
      exact e2
/-- a for that may return at a turn -/
theorem forL_try {α β : Type} (enc : α → D) (R : β → Z → Prop) (g : β → α → β) (bad : β → α → Prop) (Rt : D → Z → Prop) (f : D → Z → O) : ∀ (xs : List α) (b : β) (z : Z), R b z →
    (∀ (a : α) (b : β) (z : Z), a ∈ xs → R b z → (∃ z', (f (enc a) z = .next z' ∨ f (enc a) z = .cont z') ∧ R (g b a) z') ∨ ∃ d z', f (enc a) z = .ret d z' ∧ Rt d z') →
    (∃ z', forL f (xs.map enc) z = .next z' ∧ R (xs.foldl g b) z') ∨ ∃ d z', forL f (xs.map enc) z = .ret d z' ∧ Rt d z'
  | [], b, z, h, _ => .inl ⟨z, rfl, h⟩
  | x :: xs, b, z, h, st => by
    rcases st x b z List.mem_cons_self h with ⟨z1, e, h1⟩ | ⟨d, z', e, hr⟩
    · have ih := forL_try enc R g bad Rt f xs (g b x) z1 h1 fun a b z ha => st a b z (List.mem_cons_of_mem _ ha)
      have e2 : forL f ((x :: xs).map enc) z = forL f (xs.map enc) z1 := by
        show (match f (enc x) z with | .next z1 => forL f (xs.map enc) z1 | .cont z1 => forL f (xs.map enc) z1 | .brk z1 => .next z1 | .ret d z1 => .ret d z1 | .exn c ds z1 => .exn c ds z1 | .bad => .bad) = _
        rcases e with e | e <;> rw [e]
      rw [e2]
      exact ih
    · refine .inr ⟨d, z', ?_, hr⟩
      show (match f (enc x) z with | .next z1 => forL f (xs.map enc) z1 | .cont z1 => forL f (xs.map enc) z1 | .brk z1 => .next z1 | .ret d z1 => .ret d z1 | .exn c ds z1 => .exn c ds z1 | .bad => .bad) = _
      rw [e]
/-- a comprehension whose turns leave the cells -/
theorem compL_flat {α : Type} (enc : α → D) (o : α → List D) (f : D → List D → Option (List D × List D)) (hp : List D) : ∀ (xs : List α), (∀ a ∈ xs, f (enc a) hp = some (o a, hp)) → compL f (xs.map enc) hp = some (xs.flatMap o, hp)
  | [], _ => rfl
  | x :: xs, h => by
    show (match f (enc x) hp with | none => none | some (o, hp1) => match compL f (xs.map enc) hp1 with | none => none | some (ys, hp2) => some (o ++ ys, hp2)) = _
    rw [h x List.mem_cons_self]
    show (match compL f (xs.map enc) hp with | none => none | some (ys, hp2) => some (o x ++ ys, hp2)) = _
    rw [compL_flat enc o f hp xs fun a ha => h a (List.mem_cons_of_mem _ ha)]
    rfl
theorem flatMap_one {α β : Type} (g : α → β) (xs : List α) : xs.flatMap (fun a => [g a]) = xs.map g := by
  induction xs with
  | nil => rfl
  | cons x xs ih => rw [List.flatMap_cons, ih]; rfl
theorem flatMap_if {α β : Type} (p : α → Bool) (g : α → β) (xs : List α) : xs.flatMap (fun a => if p a then [g a] else []) = (xs.filter p).map g := by
  induction xs with
  | nil => rfl
  | cons x xs ih =>
    rw [List.flatMap_cons, ih, List.filter_cons]
    cases p x <;> rfl
theorem compL_map {α : Type} (enc g : α → D) (f : D → List D → Option (List D × List D)) (hp : List D) (xs : List α) (h : ∀ a ∈ xs, f (enc a) hp = some ([g a], hp)) : compL f (xs.map enc) hp = some (xs.map g, hp) := by
  rw [compL_flat enc (fun a => [g a]) f hp xs h, flatMap_one]
theorem compL_filter {α : Type} (enc g : α → D) (p : α → Bool) (f : D → List D → Option (List D × List D)) (hp : List D) (xs : List α) (h : ∀ a ∈ xs, f (enc a) hp = some (if p a then [g a] else [], hp)) : compL f (xs.map enc) hp = some ((xs.filter p).map g, hp) := by
  rw [compL_flat enc _ f hp xs h, flatMap_if]
/-- a comprehension whose turns change the cells -/
theorem compL_inv {α : Type} (enc : α → D) (f : D → List D → Option (List D × List D)) (R : List D → List D → Prop) : ∀ (xs : List α) (acc hp : List D), R acc hp →
    (∀ (a : α) (acc hp : List D), a ∈ xs → R acc hp → ∃ o hp', f (enc a) hp = some (o, hp') ∧ R (acc ++ o) hp') → ∃ ys hp', compL f (xs.map enc) hp = some (ys, hp') ∧ R (acc ++ ys) hp'
  | [], acc, hp, h, _ => ⟨[], hp, rfl, by rw [List.append_nil]; exact h⟩
  | x :: xs, acc, hp, h, st => by
    obtain ⟨o, hp1, e1, h1⟩ := st x acc hp List.mem_cons_self h
    obtain ⟨ys, hp2, e2, h2⟩ := compL_inv enc f R xs (acc ++ o) hp1 h1 fun a acc hp ha => st a acc hp (List.mem_cons_of_mem _ ha)
    refine ⟨o ++ ys, hp2, ?_, by rw [← List.append_assoc]; exact h2⟩
    show (match f (enc x) hp with | none => none | some (o, hp1) => match compL f (xs.map enc) hp1 with | none => none | some (ys, hp2) => some (o ++ ys, hp2)) = _
    rw [e1]
    show (match compL f (xs.map enc) hp1 with | none => none | some (ys, hp2) => some (o ++ ys, hp2)) = _
    rw [e2]
/-- a while by a measure -/
theorem whileL_meas {c : Z → R Bool} {b : Z → O} (P : Z → Prop) (mu : Z → Nat) (E : Z → Prop)
    (hs : ∀ z, P z → (∃ z1, c z = .ok false z1 ∧ E z1) ∨ ∃ z1 z2, c z = .ok true z1 ∧ (b z1 = .next z2 ∨ b z1 = .cont z2) ∧ P z2 ∧ mu z2 < mu z) : ∀ (n : Nat) (z : Z), P z → mu z < n → ∃ z', whileL c b n z = .next z' ∧ E z'
  | 0, z, _, h => absurd h (Nat.not_lt_zero _)
  | n + 1, z, h, hm => by
    rcases hs z h with ⟨z1, e, h1⟩ | ⟨z1, z2, e1, e2, h2, hlt⟩
    · refine ⟨z1, ?_, h1⟩
      unfold whileL
      rw [e]
    · obtain ⟨z3, e3, h3⟩ := whileL_meas P mu E hs n z2 h2 (by omega)
      refine ⟨z3, ?_, h3⟩
      unfold whileL
      rw [e1]
      rcases e2 with e2 | e2 <;> (simp only [e2]; exact e3)
theorem fuel_big {n : Nat} (h : n ≤ 1000000) : n < fuel := Nat.lt_of_le_of_lt h (by decide)
/-! ### ints of naturals -/
abbrev dn (n : Nat) : D := .int (n : Int)
def dl (l : List Nat) : List D := l.map dn
theorem range_dn (n : Nat) : ((List.range n).map fun (k : Nat) => D.int k) = dl (List.range n) := rfl
theorem dl_len (l : List Nat) : (dl l).length = l.length := List.length_map ..
theorem dl_get (l : List Nat) (k : Nat) : (dl l)[k]? = (l[k]?).map dn := List.getElem?_map ..
theorem ixOf_nat {n k : Nat} (h : k < n) : ixOf n (k : Int) = some k := by
  unfold ixOf
  rw [if_pos (Int.natCast_nonneg k), if_pos (by omega)]
  rfl
theorem eqb_dn (a b : Nat) : eqb (dn a) (dn b) = decide (a = b) := by
  show (((a : Int)) == (b : Int)) = _
  by_cases h : a = b
  · subst h; simp
  · rw [decide_eq_false h]; simp; omega
end G
namespace G
/-! ### one step at a time -/
section
variable {pk : Bool} {z z1 : Z} {α β : Type}
theorem r_ok {a : α} {f : α → Z → R β} : (R.ok a z).bind f = f a z := rfl
theorem r_exn {c : Nat} {ds : List D} {f : α → Z → R β} : (R.exn c ds z).bind f = .exn c ds z := rfl
theorem r_to {a : D} {f : D → Z → O} : (R.ok [a] z).to f = f a z := rfl
theorem r_toX {c : Nat} {ds : List D} {f : D → Z → O} : (R.exn c ds z).to f = .exn c ds z := rfl
theorem e_lit {d : D} : evE pk (.lit d) z = .ok [d] z := rfl
theorem e_val {i : Nat} {d : D} (h : z.env.getD i .no = .val d) : evE pk (.var i) z = .ok [d] z := by
  unfold evE
  rw [h]
theorem e_lock {i : Nat} {d : D} (h : z.env.getD i .no = .lock d) (hd : ∀ c fs, d ≠ .ins c fs) : evE true (.var i) z = .ok [d] z := by
  unfold evE
  rw [h]
  cases d <;> first
    | rfl
    | exact absurd rfl (hd _ _)
theorem e_own {i : Nat} {d : D} (h : z.env.getD i .no = .own d) (hd : ∀ c fs, d ≠ .ins c fs) : evE true (.var i) z = .ok [d] z := by
  unfold evE
  rw [h]
  cases d <;> first
    | rfl
    | exact absurd rfl (hd _ _)
theorem e_frz {i : Nat} {xs : List D} (h : z.env.getD i .no = .own (.lst xs)) : evE false (.var i) z = .ok [.lst xs] { z with env := z.env.set i (.val (.lst xs)) } := by
  unfold evE
  rw [h]
  rfl
theorem e_nil : evE pk .nil z = .ok [] z := rfl
theorem e_cons {a r : E} : evE pk (.cons a r) z = (evE (pk && r.np) a z).bind fun x z1 => (evE pk r z1).bind fun xs z2 => .ok (x ++ xs) z2 := rfl
theorem e_tup {es : E} : evE pk (.tupE es) z = (evE false es z).bind fun xs z1 => if xs.length ≤ big then .ok [.tup xs] z1 else .bad := rfl
theorem e_lst {es : E} : evE pk (.lstE es) z = (evE false es z).bind fun xs z1 => if xs.length ≤ big then .ok [.lst xs] z1 else .bad := rfl
theorem e_prim {f : Pr} {es : E} : evE pk (.prim f es) z = (evE true es z).bind fun xs z1 => match f z1.hp xs with
    | some d => .ok [d] z1
    | none => .bad := rfl
theorem e_wk {f : Pr} {es : E} : evE pk (.wk f es) z = (evE pk es z).bind fun xs z1 => match f z1.hp xs with
    | some d => .ok [d] z1
    | none => .bad := rfl
theorem e_call {f : Fn} {es : E} : evE pk (.call f es) z = (evE false es z).bind fun xs z1 => match f xs z1.hp with
    | .ok d hp => .ok [d] { z1 with hp := hp }
    | .exn c ds hp => .exn c ds { z1 with hp := hp }
    | .bad => .bad := rfl
theorem e_chain {f g : Pr} {a b c : E} : evE pk (.chain f g a b c) z = (evE (b.np && c.np) a z).bind fun x z1 => (evE c.np b z1).bind fun y z2 => match f z2.hp (x ++ y) with
    | some (.bl true) => (evE true c z2).bind fun w z3 => match g z3.hp (y ++ w) with
      | some (.bl r) => .ok [.bl r] z3
      | _ => .bad
    | some (.bl false) => .ok [.bl false] z2
    | _ => .bad := rfl
theorem e_and {a b : E} : evE pk (.and a b) z = (evE (pk && b.np) a z).bind fun x z1 => match truth z1.hp (x.headD .non) with
    | some true => evE pk b z1
    | some false => .ok x z1
    | none => .bad := rfl
theorem e_or {a b : E} : evE pk (.or a b) z = (evE (pk && b.np) a z).bind fun x z1 => match truth z1.hp (x.headD .non) with
    | some true => .ok x z1
    | some false => evE pk b z1
    | none => .bad := rfl
theorem e_not {a : E} : evE pk (.not a) z = (evE true a z).bind fun x z1 => match truth z1.hp (x.headD .non) with
    | some b => .ok [.bl (!b)] z1
    | none => .bad := rfl
theorem e_ite {c a b : E} : evE pk (.ite c a b) z = (evE true c z).bind fun x z1 => match truth z1.hp (x.headD .non) with
    | some true => evE pk a z1
    | some false => evE pk b z1
    | none => .bad := rfl
theorem e_pop {i : Nat} {xs : List D} {d : D} (h : z.env.getD i .no = .own (.lst xs)) (hd : xs.getLast? = some d) : evE pk (.pop i) z = .ok [d] { z with env := z.env.set i (.own (.lst xs.dropLast)) } := by
  unfold evE
  rw [h]
  dsimp only
  rw [hd]
theorem e_keepV {i : Nat} {d : D} (h : z.env.getD i .no = .val d) : evE pk (.keepD i) z = .ok [d] z := by
  unfold evE
  rw [h]
theorem e_keepO {i : Nat} {tk : Bool} {ks vs : List D} (h : z.env.getD i .no = .own (.dct tk ks vs)) : evE pk (.keepD i) z = .ok [.dct tk ks vs] { z with env := z.env.set i (.val (.dct tk ks vs)) } := by
  unfold evE
  rw [h]
theorem e_dct {tk : Bool} {es : E} : evE pk (.dctE tk es) z = (evE false es z).bind fun xs z1 => if xs.length ≤ 30 then (match dMany tk xs [] [] with
    | some p => .ok [.dct tk p.1 p.2] z1
    | none => .bad) else .bad := rfl
theorem e_share {e : E} : evE pk (.share e) z = (evE false e z).bind fun xs z1 => match xs with
    | [d] => .ok [.ref z1.hp.length] { z1 with hp := z1.hp ++ [d] }
    | _ => .bad := rfl
/-- a comprehension over known items -/
theorem e_comp {tg : Tg} {it c e : E} {d : D} {xs ys : List D} {hp hp1 : List D} {env : List Slot} (h1 : evE true it z = .ok [d] ⟨env, hp1⟩) (h2 : items it.dk d = some xs) (h3 : freeTg tg.ix env = true)
    (h4 : compL (body1 tg (evE true c) (evE false e) (wipeE (lockE env) tg.ix)) xs hp1 = some (ys, hp)) : evE pk (.comp tg it c e) z = .ok [.lst ys] ⟨env, hp⟩ := by
  unfold evE
  rw [h1, r_ok]
  show (match items it.dk d with | none => _ | some xs => _) = _
  rw [h2]
  dsimp only
  rw [if_pos h3, h4]
theorem e_test {c : E} : evT c z = (evE true c z).bind fun x z1 => match truth z1.hp (x.headD .non) with
    | some b => .ok b z1
    | none => .bad := rfl
theorem s_skip : evS .skip z = .next z := rfl
theorem s_seq {a b : S} : evS (.seq a b) z = match evS a z with
    | .next z1 => evS b z1
    | .ret d z1 => .ret d z1
    | .brk z1 => .brk z1
    | .cont z1 => .cont z1
    | .exn c ds z1 => .exn c ds z1
    | .bad => .bad := rfl
theorem s_set {t : Tg} {e : E} : evS (.set t e) z = (evE false e z).to fun d z1 => match setTg t d z1.env with
    | some env => .next { z1 with env := env }
    | none => .bad := rfl
theorem s_own {i : Nat} {e : E} : evS (.own i e) z = (evE false e z).to fun d z1 => if ownable d then .next { z1 with env := z1.env.set i (.own d) } else .bad := rfl
theorem s_expr {e : E} : evS (.expr e) z = (evE false e z).to fun _ z1 => .next z1 := rfl
theorem s_ret {e : E} : evS (.ret e) z = (evE false e z).to fun d z1 => .ret d z1 := rfl
theorem s_retN : evS .retN z = .ret .non z := rfl
theorem s_ite {c : E} {a b : S} : evS (.ite c a b) z = match evT c z with
    | .ok true z1 => evS a z1
    | .ok false z1 => evS b z1
    | .exn k ds z1 => .exn k ds z1
    | .bad => .bad := rfl
theorem s_for {t : Tg} {it : E} {b : S} : evS (.for t it b) z = (evE false it z).to fun d z1 => match items it.dk d with
    | none => .bad
    | some xs => forL (fun x z2 => match setTg t x z2.env with
      | some env => evS b { z2 with env := env }
      | none => .bad) xs z1 := rfl
theorem s_while {c : E} {b : S} : evS (.while c b) z = whileL (evT c) (evS b) fuel z := rfl
theorem s_raise {c n : Nat} {es : E} {ds : List D} (h : evE false es z = .ok ds z1) (hn : (ds.length == n) = true) : evS (.raise c n es) z = .exn c ds z1 := by
  unfold evS
  rw [h]
  dsimp only
  rw [hn]
theorem s_try {b : S} {h : Hd} : evS (.tryS b h) z = match evS b z with
    | .exn c ds z1 => h.ev c ds z1
    | o => o := rfl
end
end G
namespace G
theorem for_fold {t : Tg} {it : E} {b : S} {z z1 : Z} {d : D} {α β : Type} (enc : α → D) (R : β → Z → Prop) (g : β → α → β) (xs : List α) (b0 : β) (h1 : evE false it z = .ok [d] z1) (h2 : items it.dk d = some (xs.map enc)) (h0 : R b0 z1)
    (hs : ∀ (a : α) (c : β) (z : Z), a ∈ xs → R c z → ∃ env z', setTg t (enc a) z.env = some env ∧ (evS b ⟨env, z.hp⟩ = .next z' ∨ evS b ⟨env, z.hp⟩ = .cont z') ∧ R (g c a) z') : ∃ z', evS (.for t it b) z = .next z' ∧ R (xs.foldl g b0) z' := by
  rw [s_for, h1, r_to, h2]
  exact forL_fold enc R g _ xs b0 z1 h0 fun a c z ha hr => by
    obtain ⟨env, z', e1, e2, h⟩ := hs a c z ha hr
    refine ⟨z', ?_, h⟩
    rw [e1]
    exact e2
theorem for_try {t : Tg} {it : E} {b : S} {z z1 : Z} {d : D} {α β : Type} (enc : α → D) (R : β → Z → Prop) (g : β → α → β) (Rt : D → Z → Prop) (xs : List α) (b0 : β) (h1 : evE false it z = .ok [d] z1) (h2 : items it.dk d = some (xs.map enc)) (h0 : R b0 z1)
    (hs : ∀ (a : α) (c : β) (z : Z), a ∈ xs → R c z → ∃ env, setTg t (enc a) z.env = some env ∧ ((∃ z', (evS b ⟨env, z.hp⟩ = .next z' ∨ evS b ⟨env, z.hp⟩ = .cont z') ∧ R (g c a) z') ∨ ∃ d z', evS b ⟨env, z.hp⟩ = .ret d z' ∧ Rt d z')) :
    (∃ z', evS (.for t it b) z = .next z' ∧ R (xs.foldl g b0) z') ∨ ∃ d z', evS (.for t it b) z = .ret d z' ∧ Rt d z' := by
  rw [s_for, h1, r_to, h2]
  exact forL_try enc R g (fun _ _ => True) Rt _ xs b0 z1 h0 fun a c z ha hr => by
    obtain ⟨env, e1, h⟩ := hs a c z ha hr
    rw [e1]
    exact h
theorem while_meas {c : E} {b : S} {z : Z} (P : Z → Prop) (mu : Z → Nat) (Q : Z → Prop) (h0 : P z) (hm : mu z ≤ 1000000)
    (hs : ∀ z, P z → (∃ z1, evT c z = .ok false z1 ∧ Q z1) ∨ ∃ z1 z2, evT c z = .ok true z1 ∧ (evS b z1 = .next z2 ∨ evS b z1 = .cont z2) ∧ P z2 ∧ mu z2 < mu z) : ∃ z', evS (.while c b) z = .next z' ∧ Q z' :=
  whileL_meas P mu Q hs fuel z h0 (fuel_big hm)
end G
namespace G
theorem items_lst {b : Bool} {xs : List D} (h : xs.length ≤ big) : items b (.lst xs) = some xs := if_pos h
theorem items_tup {b : Bool} {xs : List D} (h : xs.length ≤ big) : items b (.tup xs) = some xs := if_pos h
theorem items_dn {b : Bool} {l : List Nat} (h : l.length ≤ big) : items b (.lst (dl l)) = some (l.map dn) := if_pos (by rw [dl_len]; exact h)
theorem items_dnT {b : Bool} {l : List Nat} (h : l.length ≤ big) : items b (.tup (dl l)) = some (l.map dn) := if_pos (by rw [dl_len]; exact h)
theorem rng {n : Nat} {hp : List D} (h : n ≤ big) : pRange1 hp [.int (n : Int)] = some (.lst (dl (List.range n))) := by
  have hb : (big : Int) = 1000000 := by decide
  have h' : n ≤ 1000000 := h
  refine (if_pos ?_).trans rfl
  simp
  omega
theorem rng_len {n : Nat} (h : n ≤ big) : (List.range n).length ≤ big := by rw [List.length_range]; exact h
theorem big_of {n k : Nat} (h : n ≤ k) (hk : k ≤ 1000000 := by decide) : n ≤ big := Nat.le_trans h hk
end G
namespace G
theorem ix_dl {hp : List D} {l : List Nat} {k : Nat} (h : k < l.length) : pIx hp [.lst (dl l), .int (k : Int)] = some (dn (l.getD k 0)) := by
  have e : k < (dl l).length := by rw [dl_len]; exact h
  simp only [pIx, view, ixD]
  rw [ixOf_nat e]
  show (dl l)[k]? = _
  rw [dl_get, List.getD_eq_getElem?_getD, List.getElem?_eq_getElem h]
  rfl
theorem ix_dl0 {hp : List D} {l : List Nat} (h : 0 < l.length) : pIx hp [.lst (dl l), .int 0] = some (dn (l.getD 0 0)) := ix_dl h
theorem set_last {α : Type} (hp : List α) (x y : α) : (hp ++ [x]).set hp.length y = hp ++ [y] := by
  rw [List.set_append_right _ _ (Nat.le_refl _), Nat.sub_self]
  rfl
theorem get_last {α : Type} (hp : List α) (x : α) : (hp ++ [x])[hp.length]? = some x := by
  rw [List.getElem?_append_right (Nat.le_refl _), Nat.sub_self]
  rfl
theorem s_fld {i c k j : Nat} {e : E} {d : D} {fs : List D} {z z1 : Z} (he : evE false e z = .ok [d] z1) (hi : z1.env.getD i .no = .val (.ref j)) (hj : z1.hp[j]? = some (.ins c fs)) (hk : fs.length = k) : evS (.fld i c k e) z = .next { z1 with hp := z1.hp.set j (.ins c (fs ++ [d])) } := by
  subst hk
  unfold evS
  rw [he, r_to, hi]
  dsimp only
  rw [hj]
  simp
end G
namespace G
theorem s_putD {i : Nat} {tk : Bool} {ks vs : List D} {d j : D} {k e : E} {z z1 z2 : Z} (he : evE false e z = .ok [d] z1) (h1 : z1.env.getD i .no = .own (.dct tk ks vs)) (hk : evE true k z1 = .ok [j] z2) (h2 : z2.env.getD i .no = .own (.dct tk ks vs)) (hj : isKey tk j = true) (hl : ks.length < big) :
    evS (.putD i k e) z = .next { z2 with env := z2.env.set i (.own (.dct tk (dPut ks vs j d).1 (dPut ks vs j d).2)) } := by
  unfold evS
  rw [he, r_to, h1]
  dsimp only
  rw [hk, r_to, h2]
  simp [hj, hl]
theorem s_app {i : Nat} {xs xs0 : List D} {d : D} {e : E} {z z1 : Z} (h0 : z.env.getD i .no = .own (.lst xs0)) (he : evE false e z = .ok [d] z1) (h1 : z1.env.getD i .no = .own (.lst xs)) (hl : xs.length < big) :
    evS (.app i e) z = .next { z1 with env := z1.env.set i (.own (.lst (xs ++ [d]))) } := by
  unfold evS
  rw [h0]
  dsimp only
  rw [he, r_to, h1]
  dsimp only
  rw [if_pos hl]
/-- a while by a number that falls -/
theorem whileL_ix {c : Z → R Bool} {b : Z → O} (P : Nat → Z → Prop) (Q : Z → Prop) (hs : ∀ k z, P k z → (∃ z1, c z = .ok false z1 ∧ Q z1) ∨ ∃ z1 z2 k', c z = .ok true z1 ∧ (b z1 = .next z2 ∨ b z1 = .cont z2) ∧ P k' z2 ∧ k' < k) : ∀ (n k : Nat) (z : Z), P k z → k < n → ∃ z', whileL c b n z = .next z' ∧ Q z'
  | 0, k, z, _, h => absurd h (Nat.not_lt_zero _)
  | n + 1, k, z, h, hm => by
    rcases hs k z h with ⟨z1, e, h1⟩ | ⟨z1, z2, k', e1, e2, h2, hlt⟩
    · refine ⟨z1, ?_, h1⟩
      unfold whileL
      rw [e]
    · obtain ⟨z3, e3, h3⟩ := whileL_ix P Q hs n k' z2 h2 (by omega)
      refine ⟨z3, ?_, h3⟩
      unfold whileL
      rw [e1]
      rcases e2 with e2 | e2 <;> (simp only [e2]; exact e3)
theorem while_ix {c : E} {b : S} {z : Z} (P : Nat → Z → Prop) (Q : Z → Prop) (k : Nat) (h0 : P k z) (hm : k ≤ 1000000)
    (hs : ∀ k z, P k z → (∃ z1, evT c z = .ok false z1 ∧ Q z1) ∨ ∃ z1 z2 k', evT c z = .ok true z1 ∧ (evS b z1 = .next z2 ∨ evS b z1 = .cont z2) ∧ P k' z2 ∧ k' < k) : ∃ z', evS (.while c b) z = .next z' ∧ Q z' :=
  whileL_ix P Q hs fuel k z h0 (fuel_big hm)
/-! ### bits -/
theorem shl1 {hp : List D} {t : Nat} (h : t ≤ 1000000) : pShl hp [.int 1, .int (t : Int)] = some (.int ((2 ^ t : Nat) : Int)) := by
  have e : powOk 1 (t : Int) = true := by
    unfold powOk
    simp
    omega
  simp [pShl, e]
theorem orN {hp : List D} (a b : Nat) : pOr hp [.int (a : Int), .int (b : Int)] = some (.int ((a ||| b : Nat) : Int)) := by
  have e : PySem.Builtin.bitOr (a : Int) (b : Int) = ((a ||| b : Nat) : Int) := by
    unfold PySem.Builtin.bitOr PySem.Builtin.bitAnd PySem.Builtin.bitNot
    have h1 : decide (0 ≤ -(a : Int) - 1) = false := decide_eq_false (by omega)
    have h2 : decide (0 ≤ -(b : Int) - 1) = false := decide_eq_false (by omega)
    rw [h1, h2]
    dsimp only
    have h3 : (-(-(a : Int) - 1) - 1).toNat = a := by omega
    have h4 : (-(-(b : Int) - 1) - 1).toNat = b := by omega
    rw [h3, h4]
    omega
  simp [pOr, e]
theorem andN {hp : List D} (a b : Nat) : pAnd hp [.int (a : Int), .int (b : Int)] = some (.int ((a &&& b : Nat) : Int)) := by
  have e : PySem.Builtin.bitAnd (a : Int) (b : Int) = ((a &&& b : Nat) : Int) := by
    unfold PySem.Builtin.bitAnd
    have h1 : decide (0 ≤ (a : Int)) = true := decide_eq_true (by omega)
    have h2 : decide (0 ≤ (b : Int)) = true := decide_eq_true (by omega)
    rw [h1, h2]
    rfl
  simp [pAnd, e]
theorem shrN {hp : List D} (a t : Nat) : pShr hp [.int (a : Int), .int (t : Int)] = some (.int ((a / 2 ^ t : Nat) : Int)) := by
  simp [pShr]
theorem bit_and (a t : Nat) : (a / 2 ^ t &&& 1) = if a.testBit t then 1 else 0 := by
  have e : a.testBit t = (1 &&& (a >>> t) != 0) := rfl
  rw [e, Nat.shiftRight_eq_div_pow, Nat.and_comm 1]
  rw [Nat.and_one_is_mod]
  have := Nat.mod_two_eq_zero_or_one (a / 2 ^ t)
  rcases this with h | h <;> rw [h] <;> rfl
end G
namespace G
theorem e_ownL {i : Nat} {xs : List D} {z : Z} (h : z.env.getD i .no = .own (.lst xs)) : evE true (.var i) z = .ok [.lst xs] z := e_own h fun _ _ q => nomatch q
theorem s_par {l : List (Nat × Bool × E)} {z : Z} : evS (.par l) z = parL evE l z := rfl
theorem p_nil {ev : Bool → E → Z → R (List D)} {z : Z} : parL ev [] z = .next z := rfl
theorem p_cons {ev : Bool → E → Z → R (List D)} {i : Nat} {b : Bool} {e : E} {r : List (Nat × Bool × E)} {z : Z} : parL ev ((i, b, e) :: r) z = (ev false e z).to fun d z1 => match parL ev r z1 with
    | .next z2 => (match !b || (ownable d && noLock z2.env) with
      | true => .next { z2 with env := z2.env.set i (if b then .own d else .val d) }
      | false => .bad)
    | .exn c ds z2 => .exn c ds z2
    | _ => .bad := rfl
end G
namespace G
def notIns : D → Bool
  | .ins _ _ => false
  | _ => true
theorem e_ownN {i : Nat} {d : D} {z : Z} (h : z.env.getD i .no = .own d) (hd : notIns d = true) : evE true (.var i) z = .ok [d] z := e_own h fun c fs q => by
  subst q
  cases hd
theorem e_lockN {i : Nat} {d : D} {z : Z} (h : z.env.getD i .no = .lock d) (hd : notIns d = true) : evE true (.var i) z = .ok [d] z := e_lock h fun c fs q => by
  subst q
  cases hd
end G
namespace G
theorem dl_nil : dl [] = [] := rfl
theorem dl_one (x : Nat) : dl [x] = [.int (x : Int)] := rfl
end G
end
section
set_option Elab.async false
set_option linter.all false
set_option maxRecDepth 100000
set_option maxHeartbeats 4000000

/-! K66_H: the text, the head's facts. Printed by gen.py. -/
namespace K66
open PySem PySem.Spec PyProof.Rows L2 G
def top (i : Nat) : Stmt := PySem.Challenge.pw_groupbench_k66_hamilton_walks.main.body.getD i (.Pass ⟨0, 0, 0, 0⟩)
def clsBody (s : Stmt) (i : Nat) : Stmt := match s with
  | .ClassDef _ _ _ b _ _ _ _ _ _ _ => b.getD i (.Pass ⟨0, 0, 0, 0⟩)
  | s => s
abbrev s__law_take : Stmt := top 33
theorem sc__law_take : FnScope ["box", "many", "digit", "mixed"] ["box", "many"] (defScope s__law_take) := ⟨rfl, rfl, rfl, by decide +kernel, rfl, by decide +kernel, by decide +kernel⟩
def dd__law_take : He.DefD := ⟨("_law_take", none), "_law_take", "_law_take", defArgs s__law_take, defBody s__law_take, defScope s__law_take, [], []⟩
abbrev s__law_renamed : Stmt := top 41
theorem sc__law_renamed : FnScope ["table", "images", "n", "found", "a", "b"] ["table", "images"] (defScope s__law_renamed) := ⟨rfl, rfl, rfl, by decide +kernel, rfl, by decide +kernel, by decide +kernel⟩
def dd__law_renamed : He.DefD := ⟨("_law_renamed", none), "_law_renamed", "_law_renamed", defArgs s__law_renamed, defBody s__law_renamed, defScope s__law_renamed, [], []⟩
abbrev s__law_cyclic : Stmt := top 37
theorem sc__law_cyclic : FnScope ["order", "a", "b"] ["order"] (defScope s__law_cyclic) := ⟨rfl, rfl, rfl, by decide +kernel, rfl, by decide +kernel, by decide +kernel⟩
def dd__law_cyclic : He.DefD := ⟨("_law_cyclic", none), "_law_cyclic", "_law_cyclic", defArgs s__law_cyclic, defBody s__law_cyclic, defScope s__law_cyclic, [], []⟩
abbrev s__law_dihedral : Stmt := top 38
theorem sc__law_dihedral : FnScope ["half", "table", "a", "row", "b", "turn"] ["half"] (defScope s__law_dihedral) := ⟨rfl, rfl, rfl, by decide +kernel, rfl, by decide +kernel, by decide +kernel⟩
def dd__law_dihedral : He.DefD := ⟨("_law_dihedral", none), "_law_dihedral", "_law_dihedral", defArgs s__law_dihedral, defBody s__law_dihedral, defScope s__law_dihedral, [], []⟩
abbrev s__law_dicyclic : Stmt := top 39
theorem sc__law_dicyclic : FnScope ["half", "full", "table", "a", "row", "b", "i", "s", "j", "t", "k"] ["half"] (defScope s__law_dicyclic) := ⟨rfl, rfl, rfl, by decide +kernel, rfl, by decide +kernel, by decide +kernel⟩
def dd__law_dicyclic : He.DefD := ⟨("_law_dicyclic", none), "_law_dicyclic", "_law_dicyclic", defArgs s__law_dicyclic, defBody s__law_dicyclic, defScope s__law_dicyclic, [], []⟩
abbrev s__law_mixed : Stmt := top 42
theorem sc__law_mixed : FnScope ["box", "many", "left", "found"] ["box", "many"] (defScope s__law_mixed) := ⟨rfl, rfl, rfl, by decide +kernel, rfl, by decide +kernel, by decide +kernel⟩
def dd__law_mixed : He.DefD := ⟨("_law_mixed", none), "_law_mixed", "_law_mixed", defArgs s__law_mixed, defBody s__law_mixed, defScope s__law_mixed, [], []⟩
abbrev s__law_table : Stmt := top 36
theorem sc__law_table : FnScope ["permutations", "a", "b", "p"] ["permutations"] (defScope s__law_table) := ⟨rfl, rfl, rfl, by decide +kernel, rfl, by decide +kernel, by decide +kernel⟩
def dd__law_table : He.DefD := ⟨("_law_table", none), "_law_table", "_law_table", defArgs s__law_table, defBody s__law_table, defScope s__law_table, [], []⟩
abbrev s__law_direct : Stmt := top 40
theorem sc__law_direct : FnScope ["one", "other", "m", "n", "a", "b"] ["one", "other"] (defScope s__law_direct) := ⟨rfl, rfl, rfl, by decide +kernel, rfl, by decide +kernel, by decide +kernel⟩
def dd__law_direct : He.DefD := ⟨("_law_direct", none), "_law_direct", "_law_direct", defArgs s__law_direct, defBody s__law_direct, defScope s__law_direct, [], []⟩
abbrev s__law_by_permutations : Stmt := top 35
theorem sc__law_by_permutations : FnScope ["generators", "points", "found", "more", "one", "g", "new", "p"] ["generators"] (defScope s__law_by_permutations) := ⟨rfl, rfl, rfl, by decide +kernel, rfl, by decide +kernel, by decide +kernel⟩
def dd__law_by_permutations : He.DefD := ⟨("_law_by_permutations", none), "_law_by_permutations", "_law_by_permutations", defArgs s__law_by_permutations, defBody s__law_by_permutations, defScope s__law_by_permutations, [], []⟩
abbrev s__law_drawn : Stmt := top 43
theorem sc__law_drawn : FnScope ["box", "most", "way", "table", "one", "room", "menu", "images", "a"] ["box", "most"] (defScope s__law_drawn) := ⟨rfl, rfl, rfl, by decide +kernel, rfl, by decide +kernel, by decide +kernel⟩
def dd__law_drawn : He.DefD := ⟨("_law_drawn", none), "_law_drawn", "_law_drawn", defArgs s__law_drawn, defBody s__law_drawn, defScope s__law_drawn, [], []⟩
abbrev s_is_tuple_of : Stmt := top 10
theorem sc_is_tuple_of : FnScope ["value", "many"] ["value", "many"] (defScope s_is_tuple_of) := ⟨rfl, rfl, rfl, by decide +kernel, rfl, by decide +kernel, by decide +kernel⟩
def dd_is_tuple_of : He.DefD := ⟨("is_tuple_of", none), "is_tuple_of", "is_tuple_of", defArgs s_is_tuple_of, defBody s_is_tuple_of, defScope s_is_tuple_of, [], []⟩
abbrev s_is_integer : Stmt := top 8
theorem sc_is_integer : FnScope ["value"] ["value"] (defScope s_is_integer) := ⟨rfl, rfl, rfl, by decide +kernel, rfl, by decide +kernel, by decide +kernel⟩
def dd_is_integer : He.DefD := ⟨("is_integer", none), "is_integer", "is_integer", defArgs s_is_integer, defBody s_is_integer, defScope s_is_integer, [], []⟩
abbrev s_is_between : Stmt := top 9
theorem sc_is_between : FnScope ["value", "least", "most"] ["value", "least", "most"] (defScope s_is_between) := ⟨rfl, rfl, rfl, by decide +kernel, rfl, by decide +kernel, by decide +kernel⟩
def dd_is_between : He.DefD := ⟨("is_between", none), "is_between", "is_between", defArgs s_is_between, defBody s_is_between, defScope s_is_between, [], []⟩
abbrev s_is_row : Stmt := top 11
theorem sc_is_row : FnScope ["value", "many", "least", "most", "item"] ["value", "many", "least", "most"] (defScope s_is_row) := ⟨rfl, rfl, rfl, by decide +kernel, rfl, by decide +kernel, by decide +kernel⟩
def dd_is_row : He.DefD := ⟨("is_row", none), "is_row", "is_row", defArgs s_is_row, defBody s_is_row, defScope s_is_row, [], []⟩
abbrev s_is_table : Stmt := top 16
theorem sc_is_table : FnScope ["value", "row"] ["value"] (defScope s_is_table) := ⟨rfl, rfl, rfl, by decide +kernel, rfl, by decide +kernel, by decide +kernel⟩
def dd_is_table : He.DefD := ⟨("is_table", none), "is_table", "is_table", defArgs s_is_table, defBody s_is_table, defScope s_is_table, [], []⟩
abbrev s_is_apart : Stmt := top 18
theorem sc_is_apart : FnScope ["table", "one", "middle", "other"] ["table", "one", "middle", "other"] (defScope s_is_apart) := ⟨rfl, rfl, rfl, by decide +kernel, rfl, by decide +kernel, by decide +kernel⟩
def dd_is_apart : He.DefD := ⟨("is_apart", none), "is_apart", "is_apart", defArgs s_is_apart, defBody s_is_apart, defScope s_is_apart, [], []⟩
abbrev s_first_apart : Stmt := top 20
theorem sc_first_apart : FnScope ["table", "middles", "every", "one", "middle", "other"] ["table", "middles"] (defScope s_first_apart) := ⟨rfl, rfl, rfl, by decide +kernel, rfl, by decide +kernel, by decide +kernel⟩
def dd_first_apart : He.DefD := ⟨("first_apart", none), "first_apart", "first_apart", defArgs s_first_apart, defBody s_first_apart, defScope s_first_apart, [], []⟩
abbrev s_is_moved : Stmt := top 17
theorem sc_is_moved : FnScope ["table", "element"] ["table", "element"] (defScope s_is_moved) := ⟨rfl, rfl, rfl, by decide +kernel, rfl, by decide +kernel, by decide +kernel⟩
def dd_is_moved : He.DefD := ⟨("is_moved", none), "is_moved", "is_moved", defArgs s_is_moved, defBody s_is_moved, defScope s_is_moved, [], []⟩
abbrev s_inverses_of : Stmt := top 19
theorem sc_inverses_of : FnScope ["table", "element", "other"] ["table", "element"] (defScope s_inverses_of) := ⟨rfl, rfl, rfl, by decide +kernel, rfl, by decide +kernel, by decide +kernel⟩
def dd_inverses_of : He.DefD := ⟨("inverses_of", none), "inverses_of", "inverses_of", defArgs s_inverses_of, defBody s_inverses_of, defScope s_inverses_of, [], []⟩
abbrev s_fault_of : Stmt := top 21
theorem sc_fault_of : FnScope ["table", "every", "moved", "triple", "alone", "element"] ["table"] (defScope s_fault_of) := ⟨rfl, rfl, rfl, by decide +kernel, rfl, by decide +kernel, by decide +kernel⟩
def dd_fault_of : He.DefD := ⟨("fault_of", none), "fault_of", "fault_of", defArgs s_fault_of, defBody s_fault_of, defScope s_fault_of, [], []⟩
abbrev s_Group___init__ : Stmt := clsBody (top 23) 0
theorem sc_Group___init__ : FnScope ["self", "table", "element"] ["self", "table"] (defScope s_Group___init__) := ⟨rfl, rfl, rfl, by decide +kernel, rfl, by decide +kernel, by decide +kernel⟩
def dd_Group___init__ : He.DefD := ⟨("Group", some "__init__"), "__init__", "Group.__init__", defArgs s_Group___init__, defBody s_Group___init__, defScope s_Group___init__, [], []⟩
abbrev s__law_group : Stmt := top 44
theorem sc__law_group : FnScope ["table", "row"] ["table"] (defScope s__law_group) := ⟨rfl, rfl, rfl, by decide +kernel, rfl, by decide +kernel, by decide +kernel⟩
def dd__law_group : He.DefD := ⟨("_law_group", none), "_law_group", "_law_group", defArgs s__law_group, defBody s__law_group, defScope s__law_group, [], []⟩
abbrev s__law_same : Stmt := top 34
theorem sc__law_same : FnScope ["told", "due", "k"] ["told", "due"] (defScope s__law_same) := ⟨rfl, rfl, rfl, by decide +kernel, rfl, by decide +kernel, by decide +kernel⟩
def dd__law_same : He.DefD := ⟨("_law_same", none), "_law_same", "_law_same", defArgs s__law_same, defBody s__law_same, defScope s__law_same, [], []⟩
abbrev s_is_rising : Stmt := top 12
theorem sc_is_rising : FnScope ["items", "one", "other"] ["items"] (defScope s_is_rising) := ⟨rfl, rfl, rfl, by decide +kernel, rfl, by decide +kernel, by decide +kernel⟩
def dd_is_rising : He.DefD := ⟨("is_rising", none), "is_rising", "is_rising", defArgs s_is_rising, defBody s_is_rising, defScope s_is_rising, [], []⟩
abbrev s_is_set : Stmt := top 13
theorem sc_is_set : FnScope ["value", "size"] ["value", "size"] (defScope s_is_set) := ⟨rfl, rfl, rfl, by decide +kernel, rfl, by decide +kernel, by decide +kernel⟩
def dd_is_set : He.DefD := ⟨("is_set", none), "is_set", "is_set", defArgs s_is_set, defBody s_is_set, defScope s_is_set, [], []⟩
abbrev s_check_subset : Stmt := top 25
theorem sc_check_subset : FnScope ["group", "subset"] ["group", "subset"] (defScope s_check_subset) := ⟨rfl, rfl, rfl, by decide +kernel, rfl, by decide +kernel, by decide +kernel⟩
def dd_check_subset : He.DefD := ⟨("check_subset", none), "check_subset", "check_subset", defArgs s_check_subset, defBody s_check_subset, defScope s_check_subset, [], []⟩
abbrev s_walks_of : Stmt := top 28
theorem sc_walks_of : FnScope ["group", "subset", "came", "level", "longer", "mask", "last", "by", "to", "state"] ["group", "subset"] (defScope s_walks_of) := ⟨rfl, rfl, rfl, by decide +kernel, rfl, by decide +kernel, by decide +kernel⟩
def dd_walks_of : He.DefD := ⟨("walks_of", none), "walks_of", "walks_of", defArgs s_walks_of, defBody s_walks_of, defScope s_walks_of, [], []⟩
abbrev s_Group_has : Stmt := clsBody (top 23) 2
theorem sc_Group_has : FnScope ["self", "value"] ["self", "value"] (defScope s_Group_has) := ⟨rfl, rfl, rfl, by decide +kernel, rfl, by decide +kernel, by decide +kernel⟩
def dd_Group_has : He.DefD := ⟨("Group", some "has"), "has", "Group.has", defArgs s_Group_has, defBody s_Group_has, defScope s_Group_has, [], []⟩
abbrev s_Group__check : Stmt := clsBody (top 23) 3
theorem sc_Group__check : FnScope ["self", "element"] ["self", "element"] (defScope s_Group__check) := ⟨rfl, rfl, rfl, by decide +kernel, rfl, by decide +kernel, by decide +kernel⟩
def dd_Group__check : He.DefD := ⟨("Group", some "_check"), "_check", "Group._check", defArgs s_Group__check, defBody s_Group__check, defScope s_Group__check, [], []⟩
abbrev s_Group_inverse : Stmt := clsBody (top 23) 5
theorem sc_Group_inverse : FnScope ["self", "element"] ["self", "element"] (defScope s_Group_inverse) := ⟨rfl, rfl, rfl, by decide +kernel, rfl, by decide +kernel, by decide +kernel⟩
def dd_Group_inverse : He.DefD := ⟨("Group", some "inverse"), "inverse", "Group.inverse", defArgs s_Group_inverse, defBody s_Group_inverse, defScope s_Group_inverse, [], []⟩
abbrev s_hamilton : Stmt := top 29
theorem sc_hamilton : FnScope ["group", "subset", "came", "full", "ends", "found", "state", "by", "last"] ["group", "subset"] (defScope s_hamilton) := ⟨rfl, rfl, rfl, by decide +kernel, rfl, by decide +kernel, by decide +kernel⟩
def dd_hamilton : He.DefD := ⟨("hamilton", none), "hamilton", "hamilton", defArgs s_hamilton, defBody s_hamilton, defScope s_hamilton, [], []⟩
abbrev s__law_asked : Stmt := top 48
theorem sc__law_asked : FnScope ["group", "subset", "named", "e"] ["group", "subset", "named"] (defScope s__law_asked) := ⟨rfl, rfl, rfl, by decide +kernel, rfl, by decide +kernel, by decide +kernel⟩
def dd__law_asked : He.DefD := ⟨("_law_asked", none), "_law_asked", "_law_asked", defArgs s__law_asked, defBody s__law_asked, defScope s__law_asked, [], []⟩
abbrev s__law_is_set : Stmt := top 49
theorem sc__law_is_set : FnScope ["order", "value", "a", "k"] ["order", "value"] (defScope s__law_is_set) := ⟨rfl, rfl, rfl, by decide +kernel, rfl, by decide +kernel, by decide +kernel⟩
def dd__law_is_set : He.DefD := ⟨("_law_is_set", none), "_law_is_set", "_law_is_set", defArgs s__law_is_set, defBody s__law_is_set, defScope s__law_is_set, [], []⟩
abbrev s__law_refusals_right : Stmt := top 50
theorem sc__law_refusals_right : FnScope ["box", "group", "order", "subset", "menu", "bad", "table", "great"] ["box", "group", "order", "subset"] (defScope s__law_refusals_right) := ⟨rfl, rfl, rfl, by decide +kernel, rfl, by decide +kernel, by decide +kernel⟩
def dd__law_refusals_right : He.DefD := ⟨("_law_refusals_right", none), "_law_refusals_right", "_law_refusals_right", defArgs s__law_refusals_right, defBody s__law_refusals_right, defScope s__law_refusals_right, [], []⟩
abbrev s__law_exists : Stmt := top 45
theorem sc__law_exists : FnScope ["table", "subset", "order", "level", "g", "turn", "more", "mask", "at", "new", "spot"] ["table", "subset"] (defScope s__law_exists) := ⟨rfl, rfl, rfl, by decide +kernel, rfl, by decide +kernel, by decide +kernel⟩
def dd__law_exists : He.DefD := ⟨("_law_exists", none), "_law_exists", "_law_exists", defArgs s__law_exists, defBody s__law_exists, defScope s__law_exists, [], []⟩
abbrev s__law_subset : Stmt := top 47
theorem sc__law_subset : FnScope ["box", "order", "few", "way", "many", "k"] ["box", "order", "few"] (defScope s__law_subset) := ⟨rfl, rfl, rfl, by decide +kernel, rfl, by decide +kernel, by decide +kernel⟩
def dd__law_subset : He.DefD := ⟨("_law_subset", none), "_law_subset", "_law_subset", defArgs s__law_subset, defBody s__law_subset, defScope s__law_subset, [], []⟩
abbrev s__law_walk_right : Stmt := top 46
theorem sc__law_walk_right : FnScope ["table", "subset", "told", "order", "now", "seen", "a"] ["table", "subset", "told"] (defScope s__law_walk_right) := ⟨rfl, rfl, rfl, by decide +kernel, rfl, by decide +kernel, by decide +kernel⟩
def dd__law_walk_right : He.DefD := ⟨("_law_walk_right", none), "_law_walk_right", "_law_walk_right", defArgs s__law_walk_right, defBody s__law_walk_right, defScope s__law_walk_right, [], []⟩
abbrev s__law_right : Stmt := top 51
theorem sc__law_right : FnScope ["box", "few", "table", "group", "order", "turn", "subset", "named", "told"] ["box"] (defScope s__law_right) := ⟨rfl, rfl, rfl, by decide +kernel, rfl, by decide +kernel, by decide +kernel⟩
def dd__law_right : He.DefD := ⟨("_law_right", none), "_law_right", "_law_right", defArgs s__law_right, defBody s__law_right, defScope s__law_right, [], []⟩
abbrev s__law_box : Stmt := top 32
theorem sc__law_box : FnScope ["great"] ["great"] (defScope s__law_box) := ⟨rfl, rfl, rfl, by decide +kernel, rfl, by decide +kernel, by decide +kernel⟩
def dd__law_box : He.DefD := ⟨("_law_box", none), "_law_box", "_law_box", defArgs s__law_box, defBody s__law_box, defScope s__law_box, [], []⟩
abbrev s__law_cell : Stmt := top 31
theorem sc__law_cell : FnScope ["script", "k"] ["script", "k"] (defScope s__law_cell) := ⟨rfl, rfl, rfl, by decide +kernel, rfl, by decide +kernel, by decide +kernel⟩
def dd__law_cell : He.DefD := ⟨("_law_cell", none), "_law_cell", "_law_cell", defArgs s__law_cell, defBody s__law_cell, defScope s__law_cell, [], []⟩
abbrev s_law : Stmt := top 52
theorem sc_law : FnScope ["script", "k"] ["script"] (defScope s_law) := ⟨rfl, rfl, rfl, by decide +kernel, rfl, by decide +kernel, by decide +kernel⟩
def dd_law : He.DefD := ⟨("law", none), "law", "law", defArgs s_law, defBody s_law, defScope s_law, [], []⟩
abbrev s_InvalidElement___init__ : Stmt := clsBody (top 3) 0
theorem sc_InvalidElement___init__ : FnScope ["self", "given"] ["self", "given"] (defScope s_InvalidElement___init__) := ⟨rfl, rfl, rfl, by decide +kernel, rfl, by decide +kernel, by decide +kernel⟩
def dd_InvalidElement___init__ : He.DefD := ⟨("InvalidElement", some "__init__"), "__init__", "InvalidElement.__init__", defArgs s_InvalidElement___init__, defBody s_InvalidElement___init__, defScope s_InvalidElement___init__, [], []⟩
abbrev s_InvalidSubset___init__ : Stmt := clsBody (top 4) 0
theorem sc_InvalidSubset___init__ : FnScope ["self", "given"] ["self", "given"] (defScope s_InvalidSubset___init__) := ⟨rfl, rfl, rfl, by decide +kernel, rfl, by decide +kernel, by decide +kernel⟩
def dd_InvalidSubset___init__ : He.DefD := ⟨("InvalidSubset", some "__init__"), "__init__", "InvalidSubset.__init__", defArgs s_InvalidSubset___init__, defBody s_InvalidSubset___init__, defScope s_InvalidSubset___init__, [], []⟩
abbrev s_InvalidTable___init__ : Stmt := clsBody (top 5) 0
theorem sc_InvalidTable___init__ : FnScope ["self", "given"] ["self", "given"] (defScope s_InvalidTable___init__) := ⟨rfl, rfl, rfl, by decide +kernel, rfl, by decide +kernel, by decide +kernel⟩
def dd_InvalidTable___init__ : He.DefD := ⟨("InvalidTable", some "__init__"), "__init__", "InvalidTable.__init__", defArgs s_InvalidTable___init__, defBody s_InvalidTable___init__, defScope s_InvalidTable___init__, [], []⟩
abbrev s_TooMany___init__ : Stmt := clsBody (top 6) 0
theorem sc_TooMany___init__ : FnScope ["self", "count"] ["self", "count"] (defScope s_TooMany___init__) := ⟨rfl, rfl, rfl, by decide +kernel, rfl, by decide +kernel, by decide +kernel⟩
def dd_TooMany___init__ : He.DefD := ⟨("TooMany", some "__init__"), "__init__", "TooMany.__init__", defArgs s_TooMany___init__, defBody s_TooMany___init__, defScope s_TooMany___init__, [], []⟩
def cl (K : PySem.W.Frag) : Nat → CI
  | 0 => ⟨He.ga K "Group", ["table", "order", "_inverses"]⟩
  | _ => ⟨0, []⟩
def ec (K : PySem.W.Frag) : Nat → CI
  | 0 => ⟨He.ga K "InvalidElement", ["given"]⟩
  | 1 => ⟨He.ga K "InvalidSubset", ["given"]⟩
  | 2 => ⟨He.ga K "InvalidTable", ["given"]⟩
  | 3 => ⟨He.ga K "TooMany", ["count"]⟩
  | _ => ⟨0, []⟩
abbrev gg (K : PySem.W.Frag) : Gx := ⟨K, cl K, ec K⟩
def frees : List Str := [("int" : Str), ("len" : Str), ("range" : Str), ("list" : Str), ("tuple" : Str), ("sorted" : Str), ("min" : Str), ("isinstance" : Str), ("bool" : Str), ("all" : Str), ("str" : Str), ("zip" : Str), ("set" : Str), ("abs" : Str), ("sum" : Str)]
def glos : List Str := [("_law_take" : Str), ("_law_renamed" : Str), ("_law_cyclic" : Str), ("_law_dihedral" : Str), ("_law_dicyclic" : Str), ("_law_mixed" : Str), ("_law_table" : Str), ("_law_direct" : Str), ("_law_by_permutations" : Str), ("_law_drawn" : Str), ("is_tuple_of" : Str), ("is_integer" : Str), ("is_between" : Str), ("is_row" : Str), ("is_table" : Str), ("is_apart" : Str), ("first_apart" : Str), ("is_moved" : Str), ("inverses_of" : Str), ("fault_of" : Str), ("Group" : Str), ("_law_group" : Str), ("_law_same" : Str), ("is_rising" : Str), ("is_set" : Str), ("check_subset" : Str), ("walks_of" : Str), ("hamilton" : Str), ("TooMany" : Str), ("InvalidSubset" : Str), ("_law_asked" : Str), ("_law_is_set" : Str), ("_law_refusals_right" : Str), ("_law_exists" : Str), ("_law_subset" : Str), ("_law_walk_right" : Str), ("_law_right" : Str), ("_law_box" : Str), ("_law_cell" : Str), ("law" : Str), ("InvalidElement" : Str), ("InvalidTable" : Str)]
def nums : List (Str × Int) := [(("MOST_ELEMENTS" : Str), 24), (("MOST_WALKED" : Str), 12)]
def fns : List He.DefD := [dd__law_take, dd__law_renamed, dd__law_cyclic, dd__law_dihedral, dd__law_dicyclic, dd__law_mixed, dd__law_table, dd__law_direct, dd__law_by_permutations, dd__law_drawn, dd_is_tuple_of, dd_is_integer, dd_is_between, dd_is_row, dd_is_table, dd_is_apart, dd_first_apart, dd_is_moved, dd_inverses_of, dd_fault_of, dd_Group___init__, dd__law_group, dd__law_same, dd_is_rising, dd_is_set, dd_check_subset, dd_walks_of, dd_Group_has, dd_Group__check, dd_Group_inverse, dd_hamilton, dd__law_asked, dd__law_is_set, dd__law_refusals_right, dd__law_exists, dd__law_subset, dd__law_walk_right, dd__law_right, dd__law_box, dd__law_cell, dd_law, dd_InvalidElement___init__, dd_InvalidSubset___init__, dd_InvalidTable___init__, dd_TooMany___init__]
def fs : List (PySem.W.Frag → Bool) := [(fun K => kdB K [He.ga K "Group"] .tuple (fun _ => true) (.type "tuple")),
  (fun K => kdB K [He.ga K "Group"] .int (fun _ => true) (.type "int")),
  (fun K => kdB K [He.ga K "Group"] .bool (fun _ => true) (.type "bool")),
  (He.Fa.cls "Group").ok,
  (He.Fa.noat "Group" "table").ok,
  (He.Fa.noat "Group" "order").ok,
  (He.Fa.noat "Group" "_inverses").ok,
  (He.Fa.mkr "Group").ok,
  (fun K => kdB K [He.ga K "Group"] .str (fun _ => true) (.type "str")),
  (fun K => kdB K [He.ga K "Group"] .list (fun _ => true) (.type "list")),
  (He.Fa.meth "Group" "has").ok,
  (He.Fa.meth "Group" "_check").ok,
  (He.Fa.meth "Group" "inverse").ok,
  (fun K => oexB K (He.ga K "InvalidElement")),
  (He.Fa.noat "InvalidElement" "given").ok,
  (fun K => He.eqO (PySem.W.findIn K (.ref (He.ga K "InvalidElement")) "__init__") (some (some (.ref (He.ma K (He.ga K "InvalidElement") "__init__"))))),
  (fun K => decide (PySem.W.typeIn K (.ref (He.ma K (He.ga K "InvalidElement") "__init__")) = some (.type "function"))),
  (fun K => oexB K (He.ga K "InvalidSubset")),
  (He.Fa.noat "InvalidSubset" "given").ok,
  (fun K => He.eqO (PySem.W.findIn K (.ref (He.ga K "InvalidSubset")) "__init__") (some (some (.ref (He.ma K (He.ga K "InvalidSubset") "__init__"))))),
  (fun K => decide (PySem.W.typeIn K (.ref (He.ma K (He.ga K "InvalidSubset") "__init__")) = some (.type "function"))),
  (fun K => oexB K (He.ga K "InvalidTable")),
  (He.Fa.noat "InvalidTable" "given").ok,
  (fun K => He.eqO (PySem.W.findIn K (.ref (He.ga K "InvalidTable")) "__init__") (some (some (.ref (He.ma K (He.ga K "InvalidTable") "__init__"))))),
  (fun K => decide (PySem.W.typeIn K (.ref (He.ma K (He.ga K "InvalidTable") "__init__")) = some (.type "function"))),
  (fun K => oexB K (He.ga K "TooMany")),
  (He.Fa.noat "TooMany" "count").ok,
  (fun K => He.eqO (PySem.W.findIn K (.ref (He.ga K "TooMany")) "__init__") (some (some (.ref (He.ma K (He.ga K "TooMany") "__init__"))))),
  (fun K => decide (PySem.W.typeIn K (.ref (He.ma K (He.ga K "TooMany") "__init__")) = some (.type "function"))),
  (He.Fa.exm "InvalidElement" "InvalidSubset" false).ok,
  (He.Fa.exm "InvalidSubset" "InvalidSubset" true).ok,
  (He.Fa.exm "InvalidTable" "InvalidSubset" false).ok,
  (He.Fa.exm "TooMany" "InvalidSubset" false).ok,
  (fun K => xfB K (He.ga K "InvalidSubset")),
  (He.Fa.exm "InvalidElement" "TooMany" false).ok,
  (He.Fa.exm "InvalidSubset" "TooMany" false).ok,
  (He.Fa.exm "InvalidTable" "TooMany" false).ok,
  (He.Fa.exm "TooMany" "TooMany" true).ok,
  (fun K => xfB K (He.ga K "TooMany")),
  (fun K => tyB K (He.ga K "Group"))]
abbrev HDx (K : PySem.W.Frag) (mg : Str → Option Value) : Prop := HD frees glos nums fns fs K mg
theorem cl_ok {K : PySem.W.Frag} : ∀ c, c < [He.ga K "Group"].length → ((gg K).cl c).C = [He.ga K "Group"].getD c 0
  | 0, _ => rfl
  | k + 1, h => absurd h (Nat.not_lt_of_le (Nat.le_add_left _ _))
theorem ty_ok {K : PySem.W.Frag} {mg : Str → Option Value} (hd : HDx K mg) : ∀ c, c < 1 → TyF K ((gg K).cl c).C
  | 0, _ => tyB_ok (He.cls_ok (hd.fact 3 _ rfl)) (hd.fact 39 _ rfl)
  | k + 1, h => absurd h (Nat.not_lt_of_le (Nat.le_add_left _ _))
theorem x_InvalidElement {X : Cx} {K : PySem.W.Frag} {mg : Str → Option Value} (hd : HDx K mg) (hK : X.K = K) (hm : X.mg = mg) : ExF (gg K) X 1 "InvalidElement" 0 "given" := by
  subst hK hm
  obtain ⟨fd, F⟩ := hd.fn 41 _ rfl
  have bd := F.bindsN (ps := ["self", "given"]) fun _ _ _ _ _ _ us hl => match us, hl with | [_, _], _ => rfl
  obtain ⟨oc, od, dV, kV, doc, pm, an, cdv, ct, osl, rfl, lk, hcd, _, _⟩ := F.ex
  exact ⟨oexB_ok (hd.fact 13 _ rfl), rfl, He.noat_ok (hd.fact 14 _ rfl), (hd.glo 40 _ rfl), _, _, _, He.eqO_ok (hd.fact 15 _ rfl), of_decide_eq_true (hd.fact 16 _ rfl), fn_spX lk hcd sc_InvalidElement___init__ rfl rfl rfl rfl rfl rfl, bd⟩
theorem x_InvalidSubset {X : Cx} {K : PySem.W.Frag} {mg : Str → Option Value} (hd : HDx K mg) (hK : X.K = K) (hm : X.mg = mg) : ExF (gg K) X 1 "InvalidSubset" 1 "given" := by
  subst hK hm
  obtain ⟨fd, F⟩ := hd.fn 42 _ rfl
  have bd := F.bindsN (ps := ["self", "given"]) fun _ _ _ _ _ _ us hl => match us, hl with | [_, _], _ => rfl
  obtain ⟨oc, od, dV, kV, doc, pm, an, cdv, ct, osl, rfl, lk, hcd, _, _⟩ := F.ex
  exact ⟨oexB_ok (hd.fact 17 _ rfl), rfl, He.noat_ok (hd.fact 18 _ rfl), (hd.glo 29 _ rfl), _, _, _, He.eqO_ok (hd.fact 19 _ rfl), of_decide_eq_true (hd.fact 20 _ rfl), fn_spX lk hcd sc_InvalidSubset___init__ rfl rfl rfl rfl rfl rfl, bd⟩
theorem x_InvalidTable {X : Cx} {K : PySem.W.Frag} {mg : Str → Option Value} (hd : HDx K mg) (hK : X.K = K) (hm : X.mg = mg) : ExF (gg K) X 1 "InvalidTable" 2 "given" := by
  subst hK hm
  obtain ⟨fd, F⟩ := hd.fn 43 _ rfl
  have bd := F.bindsN (ps := ["self", "given"]) fun _ _ _ _ _ _ us hl => match us, hl with | [_, _], _ => rfl
  obtain ⟨oc, od, dV, kV, doc, pm, an, cdv, ct, osl, rfl, lk, hcd, _, _⟩ := F.ex
  exact ⟨oexB_ok (hd.fact 21 _ rfl), rfl, He.noat_ok (hd.fact 22 _ rfl), (hd.glo 41 _ rfl), _, _, _, He.eqO_ok (hd.fact 23 _ rfl), of_decide_eq_true (hd.fact 24 _ rfl), fn_spX lk hcd sc_InvalidTable___init__ rfl rfl rfl rfl rfl rfl, bd⟩
theorem x_TooMany {X : Cx} {K : PySem.W.Frag} {mg : Str → Option Value} (hd : HDx K mg) (hK : X.K = K) (hm : X.mg = mg) : ExF (gg K) X 1 "TooMany" 3 "count" := by
  subst hK hm
  obtain ⟨fd, F⟩ := hd.fn 44 _ rfl
  have bd := F.bindsN (ps := ["self", "count"]) fun _ _ _ _ _ _ us hl => match us, hl with | [_, _], _ => rfl
  obtain ⟨oc, od, dV, kV, doc, pm, an, cdv, ct, osl, rfl, lk, hcd, _, _⟩ := F.ex
  exact ⟨oexB_ok (hd.fact 25 _ rfl), rfl, He.noat_ok (hd.fact 26 _ rfl), (hd.glo 28 _ rfl), _, _, _, He.eqO_ok (hd.fact 27 _ rfl), of_decide_eq_true (hd.fact 28 _ rfl), fn_spX lk hcd sc_TooMany___init__ rfl rfl rfl rfl rfl rfl, bd⟩
def cs_InvalidSubset : Nat → Option Bool
  | 0 => some false
  | 1 => some true
  | 2 => some false
  | 3 => some false
  | _ => none
theorem xt_InvalidSubset {K : PySem.W.Frag} {mg : Str → Option Value} (hd : HDx K mg) : ∀ (c : Nat) (b : Bool), cs_InvalidSubset c = some b → PySem.W.exmOne K (.ref ((gg K).ec c).C) (.ref (He.ga K "InvalidSubset")) = some b
  | 0, b, h => by cases h; exact He.exm_ok (hd.fact 29 _ rfl)
  | 1, b, h => by cases h; exact He.exm_ok (hd.fact 30 _ rfl)
  | 2, b, h => by cases h; exact He.exm_ok (hd.fact 31 _ rfl)
  | 3, b, h => by cases h; exact He.exm_ok (hd.fact 32 _ rfl)
  | n + 4, b, h => nomatch h
theorem xf_InvalidSubset {K : PySem.W.Frag} {mg : Str → Option Value} (hd : HDx K mg) : ∀ c : Nat, cs_InvalidSubset c = some true → XfC K ((gg K).ec c).C ∧ PySem.W.findIn K (.ref ((gg K).ec c).C) "given" = some none ∧ (((gg K).ec c).fs.take 0).contains "given" = false ∧ ((gg K).ec c).fs[0]? = some ("given" : Str)
  | 0, h => nomatch h
  | 1, h => ⟨xfB_ok (hd.fact 33 _ rfl), He.noat_ok (hd.fact 18 _ rfl), rfl, rfl⟩
  | 2, h => nomatch h
  | 3, h => nomatch h
  | n + 4, h => nomatch h
def cs_TooMany : Nat → Option Bool
  | 0 => some false
  | 1 => some false
  | 2 => some false
  | 3 => some true
  | _ => none
theorem xt_TooMany {K : PySem.W.Frag} {mg : Str → Option Value} (hd : HDx K mg) : ∀ (c : Nat) (b : Bool), cs_TooMany c = some b → PySem.W.exmOne K (.ref ((gg K).ec c).C) (.ref (He.ga K "TooMany")) = some b
  | 0, b, h => by cases h; exact He.exm_ok (hd.fact 34 _ rfl)
  | 1, b, h => by cases h; exact He.exm_ok (hd.fact 35 _ rfl)
  | 2, b, h => by cases h; exact He.exm_ok (hd.fact 36 _ rfl)
  | 3, b, h => by cases h; exact He.exm_ok (hd.fact 37 _ rfl)
  | n + 4, b, h => nomatch h
theorem xf_TooMany {K : PySem.W.Frag} {mg : Str → Option Value} (hd : HDx K mg) : ∀ c : Nat, cs_TooMany c = some true → XfC K ((gg K).ec c).C ∧ PySem.W.findIn K (.ref ((gg K).ec c).C) "count" = some none ∧ (((gg K).ec c).fs.take 0).contains "count" = false ∧ ((gg K).ec c).fs[0]? = some ("count" : Str)
  | 0, h => nomatch h
  | 1, h => nomatch h
  | 2, h => nomatch h
  | 3, h => ⟨xfB_ok (hd.fact 38 _ rfl), He.noat_ok (hd.fact 26 _ rfl), rfl, rfl⟩
  | n + 4, h => nomatch h
end K66
end
section
set_option Elab.async false
set_option linter.all false
set_option maxRecDepth 100000
set_option maxHeartbeats 4000000

/-! K66_0: printed by gen.py. -/
namespace K66
open PySem PySem.Spec PyProof.Rows L2 G
section
variable {P : Program} {w : World} {K : PySem.W.Frag} {mg : Str → Option Value} {base : Heap}
/-! ### _law_take -/
def b__law_take : S := (.seq (.ite ((.and ((.prim pIx (.cons (.var 0) (.cons (.lit (.int 1)) .nil)))) (.prim pGt (.cons (.prim pIx (.cons (.var 0) (.cons (.lit (.int 0)) .nil))) (.cons (.lit (.int 0)) .nil))))) ((.seq (.set (.one 2) (.prim pMod (.cons (.prim pInt (.cons (.prim pIx (.cons (.var 0) (.cons (.lit (.int 0)) .nil))) .nil)) (.cons (.var 1) .nil))))
  (.seq (.refIx (.var 0) (.lit (.int 0)) (.prim pDiv (.cons (.prim pIx (.cons (.var 0) (.cons (.lit (.int 0)) .nil))) (.cons (.var 1) .nil))))
  (.ret (.var 2))))) (.skip))
  (.seq (.refIx (.var 0) (.lit (.int 3)) (.prim pAdd (.cons (.prim pIx (.cons (.var 0) (.cons (.lit (.int 3)) .nil))) (.cons (.lit (.int 1)) .nil))))
  (.seq (.set (.one 3) (.prim pMod (.cons (.prim pInt (.cons (.prim pPow (.cons (.prim pAdd (.cons (.prim pAdd (.cons (.prim pIx (.cons (.var 0) (.cons (.lit (.int 2)) .nil))) (.cons (.prim pMul (.cons (.lit (.int 15485863)) (.cons (.prim pIx (.cons (.var 0) (.cons (.lit (.int 3)) .nil))) .nil))) .nil))) (.cons (.lit (.int 179424673)) .nil))) (.cons (.lit (.int 5)) .nil))) .nil)) (.cons (.lit (.int 2147483647)) .nil))))
  (.ret (.prim pMod (.cons (.prim pInt (.cons (.prim pDiv (.cons (.prim pMod (.cons (.prim pInt (.cons (.prim pPow (.cons (.prim pAdd (.cons (.prim pMul (.cons (.var 3) (.cons (.lit (.int 48271)) .nil))) (.cons (.prim pMul (.cons (.lit (.int 104729)) (.cons (.prim pIx (.cons (.var 0) (.cons (.lit (.int 3)) .nil))) .nil))) .nil))) (.cons (.lit (.int 3)) .nil))) .nil)) (.cons (.lit (.int 2147483587)) .nil))) (.cons (.lit (.int 64)) .nil))) .nil)) (.cons (.var 1) .nil)))))))
def F__law_take : Fn := evF 4 b__law_take
theorem d__law_take (hd : HDx K mg) : FnG P w K mg base (gg K) 1 "_law_take" 2 F__law_take := by
  obtain ⟨fd, F⟩ := hd.fn 0 _ rfl
  refine ⟨_, fd, _, fnO_D (N := ["box", "many", "digit", "mixed"]) F sc__law_take rfl fun cdv A outer s H E hr tks pod => ?_, (hd.glo 0 _ rfl), F.kp, F.bindsN fun _ _ _ _ _ _ us hl => match us, hl with | [_, _], _ => rfl⟩
  exact (ss_cons (s1_if (w_st (sw_and (t_truth rfl (fun _ => rfl) (w_ix rfl (fun _ _ => rfl) (sv 0 (.inl rfl) rfl rfl rfl) (w_int))) (sw_and1 (t_gt (w_ix rfl (fun _ _ => rfl) (sv 0 (.inl rfl) rfl rfl rfl) (w_int)) (w_int))))) ((ss_cons (a_setl 2 sc__law_take.nd rfl rfl rfl (w_mod (w_toint (hd.free 0 _ rfl) rfl rfl (w_ix rfl (fun _ _ => rfl) (sv 0 (.inl rfl) rfl rfl rfl) (w_int))) (sv 1 (.inl rfl) rfl rfl rfl)))
  (ss_cons (s1_refIx (sv 0 (.inl rfl) rfl rfl rfl) (w_div (w_ix rfl (fun _ _ => rfl) (sv 0 (.inl rfl) rfl rfl rfl) (w_int)) (sv 1 (.inl rfl) rfl rfl rfl)) (w_int) (fun _ _ _ _ h => nomatch h) rfl rfl)
  (ss_one (s1_ret (sv 2 (.inl rfl) rfl rfl rfl)))))) (ss_nil))
  (ss_cons (s1_refIx (sv 0 (.inl rfl) rfl rfl rfl) (w_add rfl (w_ix rfl (fun _ _ => rfl) (sv 0 (.inl rfl) rfl rfl rfl) (w_int)) (w_int)) (w_int) (fun _ _ _ _ h => nomatch h) rfl rfl)
  (ss_cons (a_setl 3 sc__law_take.nd rfl rfl rfl (w_mod (w_toint (hd.free 0 _ rfl) rfl rfl (w_pow (w_add rfl (w_add rfl (w_ix rfl (fun _ _ => rfl) (sv 0 (.inl rfl) rfl rfl rfl) (w_int)) (w_mul (w_int) (w_ix rfl (fun _ _ => rfl) (sv 0 (.inl rfl) rfl rfl rfl) (w_int)))) (w_int)) (w_int))) (w_int)))
  (ss_one (s1_ret (w_mod (w_toint (hd.free 0 _ rfl) rfl rfl (w_div (w_mod (w_toint (hd.free 0 _ rfl) rfl rfl (w_pow (w_add rfl (w_mul (sv 3 (.inl rfl) rfl rfl rfl) (w_int)) (w_mul (w_int) (w_ix rfl (fun _ _ => rfl) (sv 0 (.inl rfl) rfl rfl rfl) (w_int)))) (w_int))) (w_int)) (w_int))) (sv 1 (.inl rfl) rfl rfl rfl)))))))
/-! ### _law_renamed -/
def C__law_renamed_0 : E := .comp (.one 4) (.wk pRange1 (.cons (.var 2) .nil)) (.lit (.bl true)) (.share (.prim pRep (.cons (.lstE (.cons (.lit (.int 0)) (.nil))) (.cons (.var 2) .nil))))
def B__law_renamed_0 : S := ((.refIx (.prim pIx (.cons (.var 3) (.cons (.prim pIx (.cons (.var 1) (.cons (.var 4) .nil))) .nil))) (.prim pIx (.cons (.var 1) (.cons (.var 5) .nil))) (.prim pIx (.cons (.var 1) (.cons (.prim pIx (.cons (.prim pIx (.cons (.var 0) (.cons (.var 4) .nil))) (.cons (.var 5) .nil))) .nil)))))
def L__law_renamed_0 : S := .for (.one 5) (.wk pRange1 (.cons (.var 2) .nil)) (B__law_renamed_0)
def B__law_renamed_1 : S := ((L__law_renamed_0))
def L__law_renamed_1 : S := .for (.one 4) (.wk pRange1 (.cons (.var 2) .nil)) (B__law_renamed_1)
def b__law_renamed : S := (.seq (.set (.one 2) (.prim pLen (.cons (.var 0) .nil)))
  (.seq (.set (.one 3) (C__law_renamed_0))
  (.seq (L__law_renamed_1)
  (.ret (.var 3)))))
def F__law_renamed : Fn := evU 6 b__law_renamed
theorem d__law_renamed (hd : HDx K mg) : FnG P w K mg base (gg K) 1 "_law_renamed" 2 F__law_renamed := by
  obtain ⟨fd, F⟩ := hd.fn 1 _ rfl
  refine ⟨_, fd, _, fnO_U (N := ["table", "images", "n", "found", "a", "b"]) F sc__law_renamed rfl fun cdv A outer s H E hr tks pod => ?_, (hd.glo 1 _ rfl), F.kp, F.bindsN fun _ _ _ _ _ _ us hl => match us, hl with | [_, _], _ => rfl⟩
  exact (ss_cons (a_setc 2 sc__law_renamed.nd rfl rfl rfl rfl (w_len (hd.free 1 _ rfl) rfl rfl rfl (sv 0 (.inl rfl) rfl rfl rfl)))
  (ss_cons (a_lcSet (i := 3) (own := [("a", 4)]) sc__law_renamed.nd rfl rfl rfl rfl (si_range1 rfl (hd.free 2 _ rfl) (sv 2 (.inr (.inl rfl)) rfl rfl rfl) (fun _ _ h => nomatch h)) (blkOk_by rfl) rfl (fun _ _ _ _ _ => tg_pg rfl sc__law_renamed.nd rfl (.one (nml 4 rfl rfl))) (fun _ _ _ _ _ => sts_nil) (fun _ _ _ _ _ => (se_share (sf_mul (SF.se (sf_lst (sac rfl (w_int) (sa_nil))) rfl) (sv 2 (.inr (.inl rfl)) rfl rfl rfl)))) (fun _ => rfl))
  (ss_cons (s1_for pod rfl (si_range1 rfl (hd.free 2 _ rfl) (sv 2 (.inr (.inl rfl)) rfl rfl rfl) (fun _ _ h => nomatch h)) (tg_pg rfl sc__law_renamed.nd rfl (.one (nml 4 rfl rfl))) ((ss_one (s1_for pod rfl (si_range1 rfl (hd.free 2 _ rfl) (sv 2 (.inr (.inl rfl)) rfl rfl rfl) (fun _ _ h => nomatch h)) (tg_pg rfl sc__law_renamed.nd rfl (.one (nml 5 rfl rfl))) ((ss_one (s1_refIx (w_ix rfl (fun _ _ => rfl) (sv 3 (.inl rfl) rfl rfl rfl) (w_ix rfl (fun _ _ => rfl) (sv 1 (.inl rfl) rfl rfl rfl) (sv 4 (.inl rfl) rfl rfl rfl))) (w_ix rfl (fun _ _ => rfl) (sv 1 (.inl rfl) rfl rfl rfl) (w_ix rfl (fun _ _ => rfl) (w_ix rfl (fun _ _ => rfl) (sv 0 (.inl rfl) rfl rfl rfl) (sv 4 (.inl rfl) rfl rfl rfl)) (sv 5 (.inl rfl) rfl rfl rfl))) (w_ix rfl (fun _ _ => rfl) (sv 1 (.inl rfl) rfl rfl rfl) (sv 5 (.inl rfl) rfl rfl rfl)) (fun _ _ _ _ h => nomatch h) rfl rfl))) (fun _ => rfl)))) (fun _ => rfl))
  (ss_one (s1_ret (sv 3 (.inl rfl) rfl rfl rfl))))))
/-! ### _law_cyclic -/
def C__law_cyclic_0 : E := .comp (.one 2) (.wk pRange1 (.cons (.var 0) .nil)) (.lit (.bl true)) (.prim pMod (.cons (.prim pAdd (.cons (.var 1) (.cons (.var 2) .nil))) (.cons (.var 0) .nil)))
def C__law_cyclic_1 : E := .comp (.one 1) (.wk pRange1 (.cons (.var 0) .nil)) (.lit (.bl true)) (C__law_cyclic_0)
def b__law_cyclic : S := (.ret (C__law_cyclic_1))
def F__law_cyclic : Fn := evF 3 b__law_cyclic
theorem d__law_cyclic (hd : HDx K mg) : FnG P w K mg base (gg K) 1 "_law_cyclic" 1 F__law_cyclic := by
  obtain ⟨fd, F⟩ := hd.fn 2 _ rfl
  refine ⟨_, fd, _, fnO_D (N := ["order", "a", "b"]) F sc__law_cyclic rfl fun cdv A outer s H E hr tks pod => ?_, (hd.glo 2 _ rfl), F.kp, F.bindsN fun _ _ _ _ _ _ us hl => match us, hl with | [_], _ => rfl⟩
  exact (ss_one (s1_ret (SF.se (sf_comp (own := [("a", 1)]) rfl sc__law_cyclic.nd (si_range1 rfl (hd.free 2 _ rfl) (sv 0 (.inr (.inl rfl)) rfl rfl rfl) (fun _ _ h => nomatch h)) (blkOk_by rfl) rfl (fun _ _ _ _ _ => tg_pg rfl sc__law_cyclic.nd rfl (.one (nmc 1 rfl rfl rfl))) (fun _ _ _ _ _ => sts_nil) (fun _ _ _ _ _ => (SF.se (sf_comp (own := [("b", 2)]) rfl sc__law_cyclic.nd (si_range1 rfl (hd.free 2 _ rfl) (sv 0 (.inr (.inl rfl)) rfl rfl rfl) (fun _ _ h => nomatch h)) (blkOk_by rfl) rfl (fun _ _ _ _ _ => tg_pg rfl sc__law_cyclic.nd rfl (.one (nml 2 rfl rfl))) (fun _ _ _ _ _ => sts_nil) (fun _ _ _ _ _ => (w_mod (w_add rfl (sv 1 (.inr (.inl rfl)) rfl rfl rfl) (sv 2 (.inl rfl) rfl rfl rfl)) (sv 0 (.inr (.inl rfl)) rfl rfl rfl))) (fun _ => rfl)) rfl)) (fun _ => rfl)) rfl)))
/-! ### _law_dihedral -/
def B__law_dihedral_0 : S := ((.seq (.set (.one 5) (.prim pMod (.cons (.prim pAdd (.cons (.prim pMod (.cons (.var 2) (.cons (.var 0) .nil))) (.cons (.ite (.prim pLt (.cons (.var 2) (.cons (.var 0) .nil))) (.prim pMod (.cons (.var 4) (.cons (.var 0) .nil))) (.prim pSub (.cons (.var 0) (.cons (.prim pMod (.cons (.var 4) (.cons (.var 0) .nil))) .nil)))) .nil))) (.cons (.var 0) .nil))))
  (.app 3 (.prim pAdd (.cons (.var 5) (.cons (.prim pMul (.cons (.var 0) (.cons (.prim pInt (.cons (.prim pNe (.cons (.prim pLt (.cons (.var 2) (.cons (.var 0) .nil))) (.cons (.prim pLt (.cons (.var 4) (.cons (.var 0) .nil))) .nil))) .nil)) .nil))) .nil))))))
def L__law_dihedral_0 : S := .for (.one 4) (.wk pRange1 (.cons (.prim pMul (.cons (.lit (.int 2)) (.cons (.var 0) .nil))) .nil)) (B__law_dihedral_0)
def B__law_dihedral_1 : S := ((.seq (.own 3 (.lstE (.nil)))
  (.seq (L__law_dihedral_0)
  (.app 1 (.var 3)))))
def L__law_dihedral_1 : S := .for (.one 2) (.wk pRange1 (.cons (.prim pMul (.cons (.lit (.int 2)) (.cons (.var 0) .nil))) .nil)) (B__law_dihedral_1)
def b__law_dihedral : S := (.seq (.own 1 (.lstE (.nil)))
  (.seq (L__law_dihedral_1)
  (.ret (.var 1))))
def F__law_dihedral : Fn := evF 6 b__law_dihedral
theorem d__law_dihedral (hd : HDx K mg) : FnG P w K mg base (gg K) 1 "_law_dihedral" 1 F__law_dihedral := by
  obtain ⟨fd, F⟩ := hd.fn 3 _ rfl
  refine ⟨_, fd, _, fnO_D (N := ["half", "table", "a", "row", "b", "turn"]) F sc__law_dihedral rfl fun cdv A outer s H E hr tks pod => ?_, (hd.glo 3 _ rfl), F.kp, F.bindsN fun _ _ _ _ _ _ us hl => match us, hl with | [_], _ => rfl⟩
  exact (ss_cons (a_ownl 1 sc__law_dihedral.nd rfl rfl rfl (sf_lst (sa_nil)))
  (ss_cons (s1_for pod rfl (si_range1 rfl (hd.free 2 _ rfl) (w_mul (w_int) (sv 0 (.inl rfl) rfl rfl rfl)) (fun _ _ h => nomatch h)) (tg_pg rfl sc__law_dihedral.nd rfl (.one (nml 2 rfl rfl))) ((ss_cons (a_ownl 3 sc__law_dihedral.nd rfl rfl rfl (sf_lst (sa_nil)))
  (ss_cons (s1_for pod rfl (si_range1 rfl (hd.free 2 _ rfl) (w_mul (w_int) (sv 0 (.inl rfl) rfl rfl rfl)) (fun _ _ h => nomatch h)) (tg_pg rfl sc__law_dihedral.nd rfl (.one (nml 4 rfl rfl))) ((ss_cons (a_setl 5 sc__law_dihedral.nd rfl rfl rfl (w_mod (w_add rfl (w_mod (sv 2 (.inl rfl) rfl rfl rfl) (sv 0 (.inl rfl) rfl rfl rfl)) (se_ite (t_lt (sv 2 (.inl rfl) rfl rfl rfl) (sv 0 (.inl rfl) rfl rfl rfl)) (w_mod (sv 4 (.inl rfl) rfl rfl rfl) (sv 0 (.inl rfl) rfl rfl rfl)) (w_sub (sv 0 (.inl rfl) rfl rfl rfl) (w_mod (sv 4 (.inl rfl) rfl rfl rfl) (sv 0 (.inl rfl) rfl rfl rfl))))) (sv 0 (.inl rfl) rfl rfl rfl)))
  (ss_one (s1_app rfl (.inl rfl) rfl rfl (w_add rfl (sv 5 (.inl rfl) rfl rfl rfl) (w_mul (sv 0 (.inl rfl) rfl rfl rfl) (w_toint (hd.free 0 _ rfl) rfl rfl (v_ne (hu65 hr) rfl (v_lt (sv 2 (.inl rfl) rfl rfl rfl) (sv 0 (.inl rfl) rfl rfl rfl)) (v_lt (sv 4 (.inl rfl) rfl rfl rfl) (sv 0 (.inl rfl) rfl rfl rfl)))))) (fun _ _ h => nomatch h) rfl)))) (fun _ => rfl))
  (ss_one (s1_app rfl (.inl rfl) rfl rfl (sv 3 (.inl rfl) rfl rfl rfl) (fun _ _ h => nomatch h) rfl))))) (fun _ => rfl))
  (ss_one (s1_ret (sv 1 (.inl rfl) rfl rfl rfl)))))
/-! ### _law_dicyclic -/
def B__law_dicyclic_0 : S := ((.seq (.set (.tup [6, 7, 8, 9]) (.tupE (.cons (.prim pMod (.cons (.var 3) (.cons (.var 1) .nil))) (.cons (.prim pGe (.cons (.var 3) (.cons (.var 1) .nil))) (.cons (.prim pMod (.cons (.var 5) (.cons (.var 1) .nil))) (.cons (.prim pGe (.cons (.var 5) (.cons (.var 1) .nil))) (.nil)))))))
  (.seq (.set (.one 10) (.prim pAdd (.cons (.prim pAdd (.cons (.var 6) (.cons (.ite ((.var 7)) (.prim pSub (.cons (.var 1) (.cons (.var 8) .nil))) (.var 8)) .nil))) (.cons (.ite ((.and ((.var 7)) ((.var 9)))) (.var 0) (.lit (.int 0))) .nil))))
  (.app 4 (.prim pAdd (.cons (.prim pMod (.cons (.var 10) (.cons (.var 1) .nil))) (.cons (.prim pMul (.cons (.var 1) (.cons (.prim pInt (.cons (.prim pNe (.cons (.var 7) (.cons (.var 9) .nil))) .nil)) .nil))) .nil)))))))
def L__law_dicyclic_0 : S := .for (.one 5) (.wk pRange1 (.cons (.prim pMul (.cons (.lit (.int 4)) (.cons (.var 0) .nil))) .nil)) (B__law_dicyclic_0)
def B__law_dicyclic_1 : S := ((.seq (.own 4 (.lstE (.nil)))
  (.seq (L__law_dicyclic_0)
  (.app 2 (.var 4)))))
def L__law_dicyclic_1 : S := .for (.one 3) (.wk pRange1 (.cons (.prim pMul (.cons (.lit (.int 4)) (.cons (.var 0) .nil))) .nil)) (B__law_dicyclic_1)
def b__law_dicyclic : S := (.seq (.par [(1, false, (.prim pMul (.cons (.lit (.int 2)) (.cons (.var 0) .nil)))), (2, true, (.lstE (.nil)))])
  (.seq (L__law_dicyclic_1)
  (.ret (.var 2))))
def F__law_dicyclic : Fn := evF 11 b__law_dicyclic
theorem d__law_dicyclic (hd : HDx K mg) : FnG P w K mg base (gg K) 1 "_law_dicyclic" 1 F__law_dicyclic := by
  obtain ⟨fd, F⟩ := hd.fn 4 _ rfl
  refine ⟨_, fd, _, fnO_D (N := ["half", "full", "table", "a", "row", "b", "i", "s", "j", "t", "k"]) F sc__law_dicyclic rfl fun cdv A outer s H E hr tks pod => ?_, (hd.glo 4 _ rfl), F.kp, F.bindsN fun _ _ _ _ _ _ us hl => match us, hl with | [_], _ => rfl⟩
  exact (ss_cons (a_par2 1 2 false true sc__law_dicyclic.nd rfl rfl rfl (by decide) rfl rfl rfl rfl rfl rfl (w_mul (w_int) (sv 0 (.inl rfl) rfl rfl rfl)) (sf_lst (sa_nil)))
  (ss_cons (s1_for pod rfl (si_range1 rfl (hd.free 2 _ rfl) (w_mul (w_int) (sv 0 (.inl rfl) rfl rfl rfl)) (fun _ _ h => nomatch h)) (tg_pg rfl sc__law_dicyclic.nd rfl (.one (nml 3 rfl rfl))) ((ss_cons (a_ownl 4 sc__law_dicyclic.nd rfl rfl rfl (sf_lst (sa_nil)))
  (ss_cons (s1_for pod rfl (si_range1 rfl (hd.free 2 _ rfl) (w_mul (w_int) (sv 0 (.inl rfl) rfl rfl rfl)) (fun _ _ h => nomatch h)) (tg_pg rfl sc__law_dicyclic.nd rfl (.one (nml 5 rfl rfl))) ((ss_cons (a_asgT rfl sc__law_dicyclic.nd rfl (.cons (nml 6 rfl rfl) (.cons (nml 7 rfl rfl) (.cons (nml 8 rfl rfl) (.cons (nml 9 rfl rfl) .nil)))) rfl rfl (se_tup (sac rfl (w_mod (sv 3 (.inl rfl) rfl rfl rfl) (sv 1 (.inl rfl) rfl rfl rfl)) (sac rfl (v_ge (sv 3 (.inl rfl) rfl rfl rfl) (sv 1 (.inl rfl) rfl rfl rfl)) (sac rfl (w_mod (sv 5 (.inl rfl) rfl rfl rfl) (sv 1 (.inl rfl) rfl rfl rfl)) (sac rfl (v_ge (sv 5 (.inl rfl) rfl rfl rfl) (sv 1 (.inl rfl) rfl rfl rfl)) (sa_nil)))))))
  (ss_cons (a_setl 10 sc__law_dicyclic.nd rfl rfl rfl (w_add rfl (w_add rfl (sv 6 (.inl rfl) rfl rfl rfl) (se_ite (t_truth rfl (fun _ => rfl) (sv 7 (.inl rfl) rfl rfl rfl)) (w_sub (sv 1 (.inl rfl) rfl rfl rfl) (sv 8 (.inl rfl) rfl rfl rfl)) (sv 8 (.inl rfl) rfl rfl rfl))) (se_ite (w_st (sw_and (t_truth rfl (fun _ => rfl) (sv 7 (.inl rfl) rfl rfl rfl)) (sw_and1 (t_truth rfl (fun _ => rfl) (sv 9 (.inl rfl) rfl rfl rfl))))) (sv 0 (.inl rfl) rfl rfl rfl) (w_int))))
  (ss_one (s1_app rfl (.inl rfl) rfl rfl (w_add rfl (w_mod (sv 10 (.inl rfl) rfl rfl rfl) (sv 1 (.inl rfl) rfl rfl rfl)) (w_mul (sv 1 (.inl rfl) rfl rfl rfl) (w_toint (hd.free 0 _ rfl) rfl rfl (v_ne (hu65 hr) rfl (sv 7 (.inl rfl) rfl rfl rfl) (sv 9 (.inl rfl) rfl rfl rfl))))) (fun _ _ h => nomatch h) rfl))))) (fun _ => rfl))
  (ss_one (s1_app rfl (.inl rfl) rfl rfl (sv 4 (.inl rfl) rfl rfl rfl) (fun _ _ h => nomatch h) rfl))))) (fun _ => rfl))
  (ss_one (s1_ret (sv 2 (.inl rfl) rfl rfl rfl)))))
/-! ### _law_mixed -/
def B__law_mixed_0 : S := ((.app 3 (.popAt 2 (.call F__law_take (.cons (.var 0) (.cons (.prim pLen (.cons (.var 2) .nil)) (.nil)))))))
def L__law_mixed_0 : S := .while (.prim pNe (.cons (.var 2) (.cons (.lstE (.nil)) .nil))) (B__law_mixed_0)
def b__law_mixed : S := (.seq (.par [(2, true, (.prim pRange1 (.cons (.var 1) .nil))), (3, true, (.lstE (.nil)))])
  (.seq (L__law_mixed_0)
  (.ret (.var 3))))
def F__law_mixed : Fn := evF 4 b__law_mixed
theorem d__law_mixed (hd : HDx K mg) : FnG P w K mg base (gg K) 2 "_law_mixed" 2 F__law_mixed := by
  obtain ⟨fd, F⟩ := hd.fn 5 _ rfl
  refine ⟨_, fd, _, fnO_D (N := ["box", "many", "left", "found"]) F sc__law_mixed rfl fun cdv A outer s H E hr tks pod => ?_, (hd.glo 5 _ rfl), F.kp, F.bindsN fun _ _ _ _ _ _ us hl => match us, hl with | [_, _], _ => rfl⟩
  exact (ss_cons (a_par2 2 3 true true sc__law_mixed.nd rfl rfl rfl (by decide) rfl rfl rfl rfl rfl rfl (sf_listRange rfl rfl (hd.free 3 _ rfl) rfl (hd.free 2 _ rfl) (sv 1 (.inl rfl) rfl rfl rfl) (fun _ _ h => nomatch h)) (sf_lst (sa_nil)))
  (ss_cons (s1_while pod (t_ne (hu65 hr) rfl (sv 2 (.inl rfl) rfl rfl rfl) (SF.se (sf_lst (sa_nil)) rfl)) ((ss_one (s1_app rfl (.inl rfl) rfl rfl (se_popAt rfl (.inl rfl) rfl rfl (se_call (d__law_take hd).d (hr.mono (j := 1) (Nat.le_of_ble_eq_true rfl)) (tk_of tks) rfl (sac rfl (sv 0 (.inl rfl) rfl rfl rfl) (sac rfl (w_len (hd.free 1 _ rfl) rfl rfl rfl (sv 2 (.inl rfl) rfl rfl rfl)) (sa_nil))) rfl rfl rfl (manyE rfl)) (fun _ _ h => nomatch h) rfl) (fun _ _ h => nomatch h) rfl))))
  (ss_one (s1_ret (sv 3 (.inl rfl) rfl rfl rfl)))))
/-! ### _law_table -/
def C__law_table_0 : E := .comp (.one 3) ((.var 1)) (.lit (.bl true)) (.prim pIx (.cons (.var 2) (.cons (.var 3) .nil)))
def C__law_table_1 : E := .comp (.one 2) ((.var 0)) (.lit (.bl true)) (.prim pIndex (.cons (.wk pLst (.cons (.var 0) .nil)) (.cons (.prim pTuple (.cons (C__law_table_0) .nil)) .nil)))
def C__law_table_2 : E := .comp (.one 1) ((.var 0)) (.lit (.bl true)) (C__law_table_1)
def b__law_table : S := (.ret (C__law_table_2))
def F__law_table : Fn := evF 4 b__law_table
theorem d__law_table (hd : HDx K mg) : FnG P w K mg base (gg K) 1 "_law_table" 1 F__law_table := by
  obtain ⟨fd, F⟩ := hd.fn 6 _ rfl
  refine ⟨_, fd, _, fnO_D (N := ["permutations", "a", "b", "p"]) F sc__law_table rfl fun cdv A outer s H E hr tks pod => ?_, (hd.glo 6 _ rfl), F.kp, F.bindsN fun _ _ _ _ _ _ us hl => match us, hl with | [_], _ => rfl⟩
  exact (ss_one (s1_ret (SF.se (sf_comp (own := [("a", 1)]) rfl sc__law_table.nd (si_any rfl (sv 0 (.inr (.inl rfl)) rfl rfl rfl) rfl) (blkOk_by rfl) rfl (fun _ _ _ _ _ => tg_pg rfl sc__law_table.nd rfl (.one (nmc 1 rfl rfl rfl))) (fun _ _ _ _ _ => sts_nil) (fun _ _ _ _ _ => (SF.se (sf_comp (own := [("b", 2)]) rfl sc__law_table.nd (si_any rfl (sv 0 (.inr (.inl rfl)) rfl rfl rfl) rfl) (blkOk_by rfl) rfl (fun _ _ _ _ _ => tg_pg rfl sc__law_table.nd rfl (.one (nmc 2 rfl rfl rfl))) (fun _ _ _ _ _ => sts_nil) (fun _ _ _ _ _ => (se_index rfl (hu65 hr) (sv 0 (.inr (.inl rfl)) rfl rfl rfl) (w_totuple (hd.free 4 _ rfl) rfl rfl rfl (SF.se (sf_comp (own := [("p", 3)]) rfl sc__law_table.nd (si_any rfl (sv 1 (.inr (.inl rfl)) rfl rfl rfl) rfl) (blkOk_by rfl) rfl (fun _ _ _ _ _ => tg_pg rfl sc__law_table.nd rfl (.one (nml 3 rfl rfl))) (fun _ _ _ _ _ => sts_nil) (fun _ _ _ _ _ => (w_ix rfl (fun _ _ => rfl) (sv 2 (.inr (.inl rfl)) rfl rfl rfl) (sv 3 (.inl rfl) rfl rfl rfl))) (fun _ => rfl)) rfl)) (fun _ _ h => nomatch h) rfl rfl)) (fun _ => rfl)) rfl)) (fun _ => rfl)) rfl)))
/-! ### _law_direct -/
def C__law_direct_0 : E := .comp (.one 5) (.wk pRange1 (.cons (.prim pMul (.cons (.var 2) (.cons (.var 3) .nil))) .nil)) (.lit (.bl true)) (.prim pAdd (.cons (.prim pMul (.cons (.prim pIx (.cons (.prim pIx (.cons (.var 0) (.cons (.prim pDiv (.cons (.var 4) (.cons (.var 3) .nil))) .nil))) (.cons (.prim pDiv (.cons (.var 5) (.cons (.var 3) .nil))) .nil))) (.cons (.var 3) .nil))) (.cons (.prim pIx (.cons (.prim pIx (.cons (.var 1) (.cons (.prim pMod (.cons (.var 4) (.cons (.var 3) .nil))) .nil))) (.cons (.prim pMod (.cons (.var 5) (.cons (.var 3) .nil))) .nil))) .nil)))
def C__law_direct_1 : E := .comp (.one 4) (.wk pRange1 (.cons (.prim pMul (.cons (.var 2) (.cons (.var 3) .nil))) .nil)) (.lit (.bl true)) (C__law_direct_0)
def b__law_direct : S := (.seq (.set (.tup [2, 3]) (.tupE (.cons (.prim pLen (.cons (.var 0) .nil)) (.cons (.prim pLen (.cons (.var 1) .nil)) (.nil)))))
  (.ret (C__law_direct_1)))
def F__law_direct : Fn := evF 6 b__law_direct
theorem d__law_direct (hd : HDx K mg) : FnG P w K mg base (gg K) 1 "_law_direct" 2 F__law_direct := by
  obtain ⟨fd, F⟩ := hd.fn 7 _ rfl
  refine ⟨_, fd, _, fnO_D (N := ["one", "other", "m", "n", "a", "b"]) F sc__law_direct rfl fun cdv A outer s H E hr tks pod => ?_, (hd.glo 7 _ rfl), F.kp, F.bindsN fun _ _ _ _ _ _ us hl => match us, hl with | [_, _], _ => rfl⟩
  exact (ss_cons (a_asgT rfl sc__law_direct.nd rfl (.cons (nmc 2 rfl rfl rfl) (.cons (nmc 3 rfl rfl rfl) .nil)) rfl rfl (se_tup (sac rfl (w_len (hd.free 1 _ rfl) rfl rfl rfl (sv 0 (.inr (.inl rfl)) rfl rfl rfl)) (sac rfl (w_len (hd.free 1 _ rfl) rfl rfl rfl (sv 1 (.inr (.inl rfl)) rfl rfl rfl)) (sa_nil)))))
  (ss_one (s1_ret (SF.se (sf_comp (own := [("a", 4)]) rfl sc__law_direct.nd (si_range1 rfl (hd.free 2 _ rfl) (w_mul (sv 2 (.inr (.inl rfl)) rfl rfl rfl) (sv 3 (.inr (.inl rfl)) rfl rfl rfl)) (fun _ _ h => nomatch h)) (blkOk_by rfl) rfl (fun _ _ _ _ _ => tg_pg rfl sc__law_direct.nd rfl (.one (nmc 4 rfl rfl rfl))) (fun _ _ _ _ _ => sts_nil) (fun _ _ _ _ _ => (SF.se (sf_comp (own := [("b", 5)]) rfl sc__law_direct.nd (si_range1 rfl (hd.free 2 _ rfl) (w_mul (sv 2 (.inr (.inl rfl)) rfl rfl rfl) (sv 3 (.inr (.inl rfl)) rfl rfl rfl)) (fun _ _ h => nomatch h)) (blkOk_by rfl) rfl (fun _ _ _ _ _ => tg_pg rfl sc__law_direct.nd rfl (.one (nml 5 rfl rfl))) (fun _ _ _ _ _ => sts_nil) (fun _ _ _ _ _ => (w_add rfl (w_mul (w_ix rfl (fun _ _ => rfl) (w_ix rfl (fun _ _ => rfl) (sv 0 (.inr (.inl rfl)) rfl rfl rfl) (w_div (sv 4 (.inr (.inl rfl)) rfl rfl rfl) (sv 3 (.inr (.inl rfl)) rfl rfl rfl))) (w_div (sv 5 (.inl rfl) rfl rfl rfl) (sv 3 (.inr (.inl rfl)) rfl rfl rfl))) (sv 3 (.inr (.inl rfl)) rfl rfl rfl)) (w_ix rfl (fun _ _ => rfl) (w_ix rfl (fun _ _ => rfl) (sv 1 (.inr (.inl rfl)) rfl rfl rfl) (w_mod (sv 4 (.inr (.inl rfl)) rfl rfl rfl) (sv 3 (.inr (.inl rfl)) rfl rfl rfl))) (w_mod (sv 5 (.inl rfl) rfl rfl rfl) (sv 3 (.inr (.inl rfl)) rfl rfl rfl))))) (fun _ => rfl)) rfl)) (fun _ => rfl)) rfl))))
end
end K66
end
section
set_option Elab.async false
set_option linter.all false
set_option maxRecDepth 100000
set_option maxHeartbeats 4000000

/-! K66_1: printed by gen.py. -/
namespace K66
open PySem PySem.Spec PyProof.Rows L2 G
section
variable {P : Program} {w : World} {K : PySem.W.Frag} {mg : Str → Option Value} {base : Heap}
/-! ### _law_by_permutations -/
def C__law_by_permutations_0 : E := .comp (.one 7) ((.var 4)) (.lit (.bl true)) (.prim pIx (.cons (.var 5) (.cons (.var 7) .nil)))
def B__law_by_permutations_0 : S := ((.seq (.set (.one 6) (.prim pTuple (.cons (C__law_by_permutations_0) .nil)))
  (.ite ((.and (.prim pNotIn (.cons (.var 6) (.cons (.var 2) .nil))) (.prim pLt (.cons (.prim pLen (.cons (.var 2) .nil)) (.cons (.lit (.int 25)) .nil))))) ((.seq (.app 2 (.var 6))
  (.app 3 (.var 6)))) (.skip))))
def L__law_by_permutations_0 : S := .for (.one 5) ((.var 0)) (B__law_by_permutations_0)
def B__law_by_permutations_1 : S := ((.seq (.set (.one 4) (.pop 3))
  (L__law_by_permutations_0)))
def L__law_by_permutations_1 : S := .while (.prim pNe (.cons (.var 3) (.cons (.lstE (.nil)) .nil))) (B__law_by_permutations_1)
def b__law_by_permutations : S := (.seq (.set (.one 1) (.prim pLen (.cons (.prim pIx (.cons (.var 0) (.cons (.lit (.int 0)) .nil))) .nil)))
  (.seq (.par [(2, true, (.lstE (.cons (.prim pRangeT (.cons (.var 1) .nil)) (.nil)))), (3, true, (.lstE (.cons (.prim pRangeT (.cons (.var 1) .nil)) (.nil))))])
  (.seq (L__law_by_permutations_1)
  (.ret (.prim pSortTs (.cons (.var 2) .nil))))))
def F__law_by_permutations : Fn := evF 8 b__law_by_permutations
theorem d__law_by_permutations (hd : HDx K mg) : FnG P w K mg base (gg K) 1 "_law_by_permutations" 1 F__law_by_permutations := by
  obtain ⟨fd, F⟩ := hd.fn 8 _ rfl
  refine ⟨_, fd, _, fnO_D (N := ["generators", "points", "found", "more", "one", "g", "new", "p"]) F sc__law_by_permutations rfl fun cdv A outer s H E hr tks pod => ?_, (hd.glo 8 _ rfl), F.kp, F.bindsN fun _ _ _ _ _ _ us hl => match us, hl with | [_], _ => rfl⟩
  exact (ss_cons (a_setl 1 sc__law_by_permutations.nd rfl rfl rfl (w_len (hd.free 1 _ rfl) rfl rfl rfl (w_ix rfl (fun _ _ => rfl) (sv 0 (.inl rfl) rfl rfl rfl) (w_int))))
  (ss_cons (a_par2 2 3 true true sc__law_by_permutations.nd rfl rfl rfl (by decide) rfl rfl rfl rfl rfl rfl (sf_lst (sac rfl (se_tupleRange rfl rfl (hd.free 4 _ rfl) rfl (hd.free 2 _ rfl) (sv 1 (.inl rfl) rfl rfl rfl) (fun _ _ h => nomatch h)) (sa_nil))) (sf_lst (sac rfl (se_tupleRange rfl rfl (hd.free 4 _ rfl) rfl (hd.free 2 _ rfl) (sv 1 (.inl rfl) rfl rfl rfl) (fun _ _ h => nomatch h)) (sa_nil))))
  (ss_cons (s1_while pod (t_ne (hu65 hr) rfl (sv 3 (.inl rfl) rfl rfl rfl) (SF.se (sf_lst (sa_nil)) rfl)) ((ss_cons (a_setl 4 sc__law_by_permutations.nd rfl rfl rfl (se_pop rfl (.inl rfl) rfl rfl rfl))
  (ss_one (s1_for pod rfl (si_any rfl (sv 0 (.inl rfl) rfl rfl rfl) rfl) (tg_pg rfl sc__law_by_permutations.nd rfl (.one (nmc 5 rfl rfl rfl))) ((ss_cons (a_setl 6 sc__law_by_permutations.nd rfl rfl rfl (w_totuple (hd.free 4 _ rfl) rfl rfl rfl (SF.se (sf_comp (own := [("p", 7)]) rfl sc__law_by_permutations.nd (si_any rfl (sv 4 (.inl rfl) rfl rfl rfl) rfl) (blkOk_by rfl) rfl (fun _ _ _ _ _ => tg_pg rfl sc__law_by_permutations.nd rfl (.one (nml 7 rfl rfl))) (fun _ _ _ _ _ => sts_nil) (fun _ _ _ _ _ => (w_ix rfl (fun _ _ => rfl) (sv 5 (.inr (.inl rfl)) rfl rfl rfl) (sv 7 (.inl rfl) rfl rfl rfl))) (fun _ => rfl)) rfl)))
  (ss_one (s1_if (w_st (sw_and (t_notin (hu65 hr) rfl rfl (sv 6 (.inl rfl) rfl rfl rfl) (sv 2 (.inl rfl) rfl rfl rfl)) (sw_and1 (t_lt (w_len (hd.free 1 _ rfl) rfl rfl rfl (sv 2 (.inl rfl) rfl rfl rfl)) (w_int))))) ((ss_cons (s1_app rfl (.inl rfl) rfl rfl (sv 6 (.inl rfl) rfl rfl rfl) (fun _ _ h => nomatch h) rfl)
  (ss_one (s1_app rfl (.inl rfl) rfl rfl (sv 6 (.inl rfl) rfl rfl rfl) (fun _ _ h => nomatch h) rfl)))) (ss_nil))))) (fun _ => rfl))))))
  (ss_one (s1_ret (w_sortTs (hd.free 5 _ rfl) rfl rfl rfl (sv 2 (.inl rfl) rfl rfl rfl)))))))
/-! ### _law_drawn -/
def C__law_drawn_0 : E := .comp (.one 8) ((.call F__law_mixed (.cons (.var 0) (.cons (.prim pSub (.cons (.prim pLen (.cons (.var 3) .nil)) (.cons (.lit (.int 1)) .nil))) (.nil))))) (.lit (.bl true)) (.prim pAdd (.cons (.lit (.int 1)) (.cons (.var 8) .nil)))
def b__law_drawn : S := (.seq (.set (.one 2) (.call F__law_take (.cons (.var 0) (.cons (.lit (.int 9)) (.nil)))))
  (.seq (.ite (.prim pLt (.cons (.var 2) (.cons (.lit (.int 2)) .nil))) ((.set (.one 3) (.call F__law_cyclic (.cons (.prim pAdd (.cons (.lit (.int 1)) (.cons (.call F__law_take (.cons (.var 0) (.cons (.var 1) (.nil)))) .nil))) (.nil))))) ((.ite ((.and (.prim pLt (.cons (.var 2) (.cons (.lit (.int 4)) .nil))) (.prim pGt (.cons (.var 1) (.cons (.lit (.int 5)) .nil))))) ((.set (.one 3) (.call F__law_dihedral (.cons (.prim pAdd (.cons (.lit (.int 1)) (.cons (.call F__law_take (.cons (.var 0) (.cons (.prim pMin2 (.cons (.lit (.int 12)) (.cons (.prim pDiv (.cons (.var 1) (.cons (.lit (.int 2)) .nil))) .nil))) (.nil)))) .nil))) (.nil))))) ((.ite ((.and (.prim pEq (.cons (.var 2) (.cons (.lit (.int 4)) .nil))) (.prim pGt (.cons (.var 1) (.cons (.lit (.int 7)) .nil))))) ((.set (.one 3) (.call F__law_dicyclic (.cons (.prim pAdd (.cons (.lit (.int 1)) (.cons (.call F__law_take (.cons (.var 0) (.cons (.prim pMin2 (.cons (.lit (.int 6)) (.cons (.prim pDiv (.cons (.var 1) (.cons (.lit (.int 4)) .nil))) .nil))) (.nil)))) .nil))) (.nil))))) ((.ite (.prim pLt (.cons (.var 2) (.cons (.lit (.int 7)) .nil))) ((.seq (.set (.one 4) (.prim pAdd (.cons (.lit (.int 1)) (.cons (.call F__law_take (.cons (.var 0) (.cons (.lit (.int 6)) (.nil)))) .nil))))
  (.seq (.set (.one 3) (.call F__law_cyclic (.cons (.var 4) (.nil))))
  (.seq (.set (.one 5) (.prim pDiv (.cons (.var 1) (.cons (.var 4) .nil))))
  (.ite ((.and (.prim pGt (.cons (.var 5) (.cons (.lit (.int 5)) .nil))) (.prim pEq (.cons (.call F__law_take (.cons (.var 0) (.cons (.lit (.int 2)) (.nil)))) (.cons (.lit (.int 0)) .nil))))) ((.set (.one 3) (.call F__law_direct (.cons (.var 3) (.cons (.call F__law_dihedral (.cons (.prim pAdd (.cons (.lit (.int 2)) (.cons (.call F__law_take (.cons (.var 0) (.cons (.prim pMin2 (.cons (.lit (.int 5)) (.cons (.prim pSub (.cons (.prim pDiv (.cons (.var 5) (.cons (.lit (.int 2)) .nil))) (.cons (.lit (.int 1)) .nil))) .nil))) (.nil)))) .nil))) (.nil))) (.nil)))))) ((.ite (.prim pGt (.cons (.var 5) (.cons (.lit (.int 1)) .nil))) ((.set (.one 3) (.call F__law_direct (.cons (.var 3) (.cons (.call F__law_cyclic (.cons (.prim pAdd (.cons (.lit (.int 1)) (.cons (.call F__law_take (.cons (.var 0) (.cons (.var 5) (.nil)))) .nil))) (.nil))) (.nil)))))) (.skip)))))))) ((.seq (.set (.one 6) (.lstE (.cons (.lstE (.cons (.tupE (.cons (.lit (.int 1)) (.cons (.lit (.int 0)) (.cons (.lit (.int 2)) (.nil))))) (.cons (.tupE (.cons (.lit (.int 0)) (.cons (.lit (.int 2)) (.cons (.lit (.int 1)) (.nil))))) (.nil)))) (.cons (.lstE (.cons (.tupE (.cons (.lit (.int 1)) (.cons (.lit (.int 0)) (.cons (.lit (.int 3)) (.cons (.lit (.int 2)) (.nil)))))) (.cons (.tupE (.cons (.lit (.int 1)) (.cons (.lit (.int 2)) (.cons (.lit (.int 0)) (.cons (.lit (.int 3)) (.nil)))))) (.nil)))) (.cons (.lstE (.cons (.tupE (.cons (.lit (.int 1)) (.cons (.lit (.int 2)) (.cons (.lit (.int 3)) (.cons (.lit (.int 0)) (.nil)))))) (.cons (.tupE (.cons (.lit (.int 1)) (.cons (.lit (.int 0)) (.cons (.lit (.int 2)) (.cons (.lit (.int 3)) (.nil)))))) (.nil)))) (.cons (.lstE (.cons (.tupE (.cons (.lit (.int 1)) (.cons (.lit (.int 2)) (.cons (.lit (.int 3)) (.cons (.lit (.int 4)) (.cons (.lit (.int 0)) (.nil))))))) (.cons (.tupE (.cons (.lit (.int 0)) (.cons (.lit (.int 2)) (.cons (.lit (.int 4)) (.cons (.lit (.int 1)) (.cons (.lit (.int 3)) (.nil))))))) (.nil)))) (.cons (.lstE (.cons (.tupE (.cons (.lit (.int 1)) (.cons (.lit (.int 2)) (.cons (.lit (.int 3)) (.cons (.lit (.int 4)) (.cons (.lit (.int 5)) (.cons (.lit (.int 6)) (.cons (.lit (.int 0)) (.nil))))))))) (.cons (.tupE (.cons (.lit (.int 0)) (.cons (.lit (.int 2)) (.cons (.lit (.int 4)) (.cons (.lit (.int 6)) (.cons (.lit (.int 1)) (.cons (.lit (.int 3)) (.cons (.lit (.int 5)) (.nil))))))))) (.nil)))) (.cons (.lstE (.cons (.tupE (.cons (.lit (.int 1)) (.cons (.lit (.int 2)) (.cons (.lit (.int 0)) (.cons (.lit (.int 4)) (.cons (.lit (.int 5)) (.cons (.lit (.int 3)) (.nil)))))))) (.cons (.tupE (.cons (.lit (.int 0)) (.cons (.lit (.int 2)) (.cons (.lit (.int 1)) (.cons (.lit (.int 3)) (.cons (.lit (.int 5)) (.cons (.lit (.int 4)) (.nil)))))))) (.nil)))) (.nil)))))))))
  (.seq (.set (.one 3) (.call F__law_table (.cons (.call F__law_by_permutations (.cons (.prim pIx (.cons (.var 6) (.cons (.call F__law_take (.cons (.var 0) (.cons (.prim pLen (.cons (.var 6) .nil)) (.nil)))) .nil))) (.nil))) (.nil))))
  (.ite (.prim pGt (.cons (.prim pLen (.cons (.var 3) .nil)) (.cons (.var 1) .nil))) ((.set (.one 3) (.call F__law_cyclic (.cons (.prim pAdd (.cons (.lit (.int 1)) (.cons (.call F__law_take (.cons (.var 0) (.cons (.var 1) (.nil)))) .nil))) (.nil))))) (.skip))))))))))))
  (.seq (.set (.one 7) (.prim pAdd (.cons (.lstE (.cons (.lit (.int 0)) (.nil))) (.cons (C__law_drawn_0) .nil))))
  (.ret (.call F__law_renamed (.cons (.var 3) (.cons (.var 7) (.nil))))))))
def F__law_drawn : Fn := evF 9 b__law_drawn
theorem d__law_drawn (hd : HDx K mg) : FnG P w K mg base (gg K) 3 "_law_drawn" 2 F__law_drawn := by
  obtain ⟨fd, F⟩ := hd.fn 9 _ rfl
  refine ⟨_, fd, _, fnO_D (N := ["box", "most", "way", "table", "one", "room", "menu", "images", "a"]) F sc__law_drawn rfl fun cdv A outer s H E hr tks pod => ?_, (hd.glo 9 _ rfl), F.kp, F.bindsN fun _ _ _ _ _ _ us hl => match us, hl with | [_, _], _ => rfl⟩
  exact (ss_cons (a_setl 2 sc__law_drawn.nd rfl rfl rfl (se_call (d__law_take hd).d (hr.mono (j := 1) (Nat.le_of_ble_eq_true rfl)) (tk_of tks) rfl (sac rfl (sv 0 (.inl rfl) rfl rfl rfl) (sac rfl (w_int) (sa_nil))) rfl rfl rfl (manyE rfl)))
  (ss_cons (s1_if (t_lt (sv 2 (.inl rfl) rfl rfl rfl) (w_int)) ((ss_one (a_setl 3 sc__law_drawn.nd rfl rfl rfl (se_call (d__law_cyclic hd).d (hr.mono (j := 1) (Nat.le_of_ble_eq_true rfl)) (tk_of tks) rfl (sac rfl (w_add rfl (w_int) (se_call (d__law_take hd).d (hr.mono (j := 1) (Nat.le_of_ble_eq_true rfl)) (tk_of tks) rfl (sac rfl (sv 0 (.inl rfl) rfl rfl rfl) (sac rfl (sv 1 (.inl rfl) rfl rfl rfl) (sa_nil))) rfl rfl rfl (manyE rfl))) (sa_nil)) rfl rfl rfl (manyE rfl))))) ((ss_one (s1_if (w_st (sw_and (t_lt (sv 2 (.inl rfl) rfl rfl rfl) (w_int)) (sw_and1 (t_gt (sv 1 (.inl rfl) rfl rfl rfl) (w_int))))) ((ss_one (a_setl 3 sc__law_drawn.nd rfl rfl rfl (se_call (d__law_dihedral hd).d (hr.mono (j := 1) (Nat.le_of_ble_eq_true rfl)) (tk_of tks) rfl (sac rfl (w_add rfl (w_int) (se_call (d__law_take hd).d (hr.mono (j := 1) (Nat.le_of_ble_eq_true rfl)) (tk_of tks) rfl (sac rfl (sv 0 (.inl rfl) rfl rfl rfl) (sac rfl (w_min2 (hd.free 6 _ rfl) rfl rfl rfl rfl (w_int) (w_div (sv 1 (.inl rfl) rfl rfl rfl) (w_int))) (sa_nil))) rfl rfl rfl (manyE rfl))) (sa_nil)) rfl rfl rfl (manyE rfl))))) ((ss_one (s1_if (w_st (sw_and (t_eq (hu65 hr) rfl (sv 2 (.inl rfl) rfl rfl rfl) (w_int)) (sw_and1 (t_gt (sv 1 (.inl rfl) rfl rfl rfl) (w_int))))) ((ss_one (a_setl 3 sc__law_drawn.nd rfl rfl rfl (se_call (d__law_dicyclic hd).d (hr.mono (j := 1) (Nat.le_of_ble_eq_true rfl)) (tk_of tks) rfl (sac rfl (w_add rfl (w_int) (se_call (d__law_take hd).d (hr.mono (j := 1) (Nat.le_of_ble_eq_true rfl)) (tk_of tks) rfl (sac rfl (sv 0 (.inl rfl) rfl rfl rfl) (sac rfl (w_min2 (hd.free 6 _ rfl) rfl rfl rfl rfl (w_int) (w_div (sv 1 (.inl rfl) rfl rfl rfl) (w_int))) (sa_nil))) rfl rfl rfl (manyE rfl))) (sa_nil)) rfl rfl rfl (manyE rfl))))) ((ss_one (s1_if (t_lt (sv 2 (.inl rfl) rfl rfl rfl) (w_int)) ((ss_cons (a_setl 4 sc__law_drawn.nd rfl rfl rfl (w_add rfl (w_int) (se_call (d__law_take hd).d (hr.mono (j := 1) (Nat.le_of_ble_eq_true rfl)) (tk_of tks) rfl (sac rfl (sv 0 (.inl rfl) rfl rfl rfl) (sac rfl (w_int) (sa_nil))) rfl rfl rfl (manyE rfl))))
  (ss_cons (a_setl 3 sc__law_drawn.nd rfl rfl rfl (se_call (d__law_cyclic hd).d (hr.mono (j := 1) (Nat.le_of_ble_eq_true rfl)) (tk_of tks) rfl (sac rfl (sv 4 (.inl rfl) rfl rfl rfl) (sa_nil)) rfl rfl rfl (manyE rfl)))
  (ss_cons (a_setl 5 sc__law_drawn.nd rfl rfl rfl (w_div (sv 1 (.inl rfl) rfl rfl rfl) (sv 4 (.inl rfl) rfl rfl rfl)))
  (ss_one (s1_if (w_st (sw_and (t_gt (sv 5 (.inl rfl) rfl rfl rfl) (w_int)) (sw_and1 (t_eq (hu65 hr) rfl (se_call (d__law_take hd).d (hr.mono (j := 1) (Nat.le_of_ble_eq_true rfl)) (tk_of tks) rfl (sac rfl (sv 0 (.inl rfl) rfl rfl rfl) (sac rfl (w_int) (sa_nil))) rfl rfl rfl (manyE rfl)) (w_int))))) ((ss_one (a_setl 3 sc__law_drawn.nd rfl rfl rfl (se_call (d__law_direct hd).d (hr.mono (j := 1) (Nat.le_of_ble_eq_true rfl)) (tk_of tks) rfl (sac rfl (sv 3 (.inl rfl) rfl rfl rfl) (sac rfl (se_call (d__law_dihedral hd).d (hr.mono (j := 1) (Nat.le_of_ble_eq_true rfl)) (tk_of tks) rfl (sac rfl (w_add rfl (w_int) (se_call (d__law_take hd).d (hr.mono (j := 1) (Nat.le_of_ble_eq_true rfl)) (tk_of tks) rfl (sac rfl (sv 0 (.inl rfl) rfl rfl rfl) (sac rfl (w_min2 (hd.free 6 _ rfl) rfl rfl rfl rfl (w_int) (w_sub (w_div (sv 5 (.inl rfl) rfl rfl rfl) (w_int)) (w_int))) (sa_nil))) rfl rfl rfl (manyE rfl))) (sa_nil)) rfl rfl rfl (manyE rfl)) (sa_nil))) rfl rfl rfl (manyE rfl))))) ((ss_one (s1_if (t_gt (sv 5 (.inl rfl) rfl rfl rfl) (w_int)) ((ss_one (a_setl 3 sc__law_drawn.nd rfl rfl rfl (se_call (d__law_direct hd).d (hr.mono (j := 1) (Nat.le_of_ble_eq_true rfl)) (tk_of tks) rfl (sac rfl (sv 3 (.inl rfl) rfl rfl rfl) (sac rfl (se_call (d__law_cyclic hd).d (hr.mono (j := 1) (Nat.le_of_ble_eq_true rfl)) (tk_of tks) rfl (sac rfl (w_add rfl (w_int) (se_call (d__law_take hd).d (hr.mono (j := 1) (Nat.le_of_ble_eq_true rfl)) (tk_of tks) rfl (sac rfl (sv 0 (.inl rfl) rfl rfl rfl) (sac rfl (sv 5 (.inl rfl) rfl rfl rfl) (sa_nil))) rfl rfl rfl (manyE rfl))) (sa_nil)) rfl rfl rfl (manyE rfl)) (sa_nil))) rfl rfl rfl (manyE rfl))))) (ss_nil)))))))))) ((ss_cons (a_setl 6 sc__law_drawn.nd rfl rfl rfl (SF.se (sf_lst (sac rfl (SF.se (sf_lst (sac rfl (se_tup (sac rfl (w_int) (sac rfl (w_int) (sac rfl (w_int) (sa_nil))))) (sac rfl (se_tup (sac rfl (w_int) (sac rfl (w_int) (sac rfl (w_int) (sa_nil))))) (sa_nil)))) rfl) (sac rfl (SF.se (sf_lst (sac rfl (se_tup (sac rfl (w_int) (sac rfl (w_int) (sac rfl (w_int) (sac rfl (w_int) (sa_nil)))))) (sac rfl (se_tup (sac rfl (w_int) (sac rfl (w_int) (sac rfl (w_int) (sac rfl (w_int) (sa_nil)))))) (sa_nil)))) rfl) (sac rfl (SF.se (sf_lst (sac rfl (se_tup (sac rfl (w_int) (sac rfl (w_int) (sac rfl (w_int) (sac rfl (w_int) (sa_nil)))))) (sac rfl (se_tup (sac rfl (w_int) (sac rfl (w_int) (sac rfl (w_int) (sac rfl (w_int) (sa_nil)))))) (sa_nil)))) rfl) (sac rfl (SF.se (sf_lst (sac rfl (se_tup (sac rfl (w_int) (sac rfl (w_int) (sac rfl (w_int) (sac rfl (w_int) (sac rfl (w_int) (sa_nil))))))) (sac rfl (se_tup (sac rfl (w_int) (sac rfl (w_int) (sac rfl (w_int) (sac rfl (w_int) (sac rfl (w_int) (sa_nil))))))) (sa_nil)))) rfl) (sac rfl (SF.se (sf_lst (sac rfl (se_tup (sac rfl (w_int) (sac rfl (w_int) (sac rfl (w_int) (sac rfl (w_int) (sac rfl (w_int) (sac rfl (w_int) (sac rfl (w_int) (sa_nil))))))))) (sac rfl (se_tup (sac rfl (w_int) (sac rfl (w_int) (sac rfl (w_int) (sac rfl (w_int) (sac rfl (w_int) (sac rfl (w_int) (sac rfl (w_int) (sa_nil))))))))) (sa_nil)))) rfl) (sac rfl (SF.se (sf_lst (sac rfl (se_tup (sac rfl (w_int) (sac rfl (w_int) (sac rfl (w_int) (sac rfl (w_int) (sac rfl (w_int) (sac rfl (w_int) (sa_nil)))))))) (sac rfl (se_tup (sac rfl (w_int) (sac rfl (w_int) (sac rfl (w_int) (sac rfl (w_int) (sac rfl (w_int) (sac rfl (w_int) (sa_nil)))))))) (sa_nil)))) rfl) (sa_nil)))))))) rfl))
  (ss_cons (a_setl 3 sc__law_drawn.nd rfl rfl rfl (se_call (d__law_table hd).d (hr.mono (j := 1) (Nat.le_of_ble_eq_true rfl)) (tk_of tks) rfl (sac rfl (se_call (d__law_by_permutations hd).d (hr.mono (j := 1) (Nat.le_of_ble_eq_true rfl)) (tk_of tks) rfl (sac rfl (w_ix rfl (fun _ _ => rfl) (sv 6 (.inl rfl) rfl rfl rfl) (se_call (d__law_take hd).d (hr.mono (j := 1) (Nat.le_of_ble_eq_true rfl)) (tk_of tks) rfl (sac rfl (sv 0 (.inl rfl) rfl rfl rfl) (sac rfl (w_len (hd.free 1 _ rfl) rfl rfl rfl (sv 6 (.inl rfl) rfl rfl rfl)) (sa_nil))) rfl rfl rfl (manyE rfl))) (sa_nil)) rfl rfl rfl (manyE rfl)) (sa_nil)) rfl rfl rfl (manyE rfl)))
  (ss_one (s1_if (t_gt (w_len (hd.free 1 _ rfl) rfl rfl rfl (sv 3 (.inl rfl) rfl rfl rfl)) (sv 1 (.inl rfl) rfl rfl rfl)) ((ss_one (a_setl 3 sc__law_drawn.nd rfl rfl rfl (se_call (d__law_cyclic hd).d (hr.mono (j := 1) (Nat.le_of_ble_eq_true rfl)) (tk_of tks) rfl (sac rfl (w_add rfl (w_int) (se_call (d__law_take hd).d (hr.mono (j := 1) (Nat.le_of_ble_eq_true rfl)) (tk_of tks) rfl (sac rfl (sv 0 (.inl rfl) rfl rfl rfl) (sac rfl (sv 1 (.inl rfl) rfl rfl rfl) (sa_nil))) rfl rfl rfl (manyE rfl))) (sa_nil)) rfl rfl rfl (manyE rfl))))) (ss_nil))))))))))))))))
  (ss_cons (a_setl 7 sc__law_drawn.nd rfl rfl rfl (w_add rfl (SF.se (sf_lst (sac rfl (w_int) (sa_nil))) rfl) (SF.se (sf_comp (own := [("a", 8)]) rfl sc__law_drawn.nd (si_any rfl (se_call (d__law_mixed hd).d (hr.mono (j := 2) (Nat.le_of_ble_eq_true rfl)) (tk_of tks) rfl (sac rfl (sv 0 (.inl rfl) rfl rfl rfl) (sac rfl (w_sub (w_len (hd.free 1 _ rfl) rfl rfl rfl (sv 3 (.inl rfl) rfl rfl rfl)) (w_int)) (sa_nil))) rfl rfl rfl (manyE rfl)) rfl) (blkOk_by rfl) rfl (fun _ _ _ _ _ => tg_pg rfl sc__law_drawn.nd rfl (.one (nml 8 rfl rfl))) (fun _ _ _ _ _ => sts_nil) (fun _ _ _ _ _ => (w_add rfl (w_int) (sv 8 (.inl rfl) rfl rfl rfl))) (fun _ => rfl)) rfl)))
  (ss_one (s1_ret (se_call (d__law_renamed hd).d (hr.mono (j := 1) (Nat.le_of_ble_eq_true rfl)) (tk_of tks) rfl (sac rfl (sv 3 (.inl rfl) rfl rfl rfl) (sac rfl (sv 7 (.inl rfl) rfl rfl rfl) (sa_nil))) rfl rfl rfl (manyE rfl)))))))
/-! ### is_tuple_of -/
def b_is_tuple_of : S := (.ret ((.and (.prim (pIsi 1 [.tuple]) (.cons (.var 0) .nil)) (.prim pEq (.cons (.prim pLen (.cons (.var 0) .nil)) (.cons (.var 1) .nil))))))
def F_is_tuple_of : Fn := evF 2 b_is_tuple_of
theorem d_is_tuple_of (hd : HDx K mg) : FnG P w K mg base (gg K) 1 "is_tuple_of" 2 F_is_tuple_of := by
  obtain ⟨fd, F⟩ := hd.fn 10 _ rfl
  refine ⟨_, fd, _, fnO_D (N := ["value", "many"]) F sc_is_tuple_of rfl fun cdv A outer s H E hr tks pod => ?_, (hd.glo 10 _ rfl), F.kp, F.bindsN fun _ _ _ _ _ _ us hl => match us, hl with | [_, _], _ => rfl⟩
  exact (ss_one (s1_ret ((se_and rfl (se_isi rfl (ty_ok hd) (kdB_ok (cs := [He.ga K "Group"]) cl_ok (hd.fact 0 _ rfl)) (.ty "tuple") rfl (hd.free 7 _ rfl) (sv 0 (.inl rfl) rfl rfl rfl) (pe_bltn rfl (hd.free 4 _ rfl) (by decide +kernel) rfl (by decide) rfl) (fun _ _ h => nomatch h) (fun _ _ h => nomatch h)) (se_and1 (v_eq (hu65 hr) rfl (w_len (hd.free 1 _ rfl) rfl rfl rfl (sv 0 (.inl rfl) rfl rfl rfl)) (sv 1 (.inl rfl) rfl rfl rfl)))))))
/-! ### is_integer -/
def b_is_integer : S := (.ret ((.and (.prim (pIsi 1 [.int]) (.cons (.var 0) .nil)) (.not (.prim (pIsi 1 [.bool]) (.cons (.var 0) .nil))))))
def F_is_integer : Fn := evF 1 b_is_integer
theorem d_is_integer (hd : HDx K mg) : FnG P w K mg base (gg K) 1 "is_integer" 1 F_is_integer := by
  obtain ⟨fd, F⟩ := hd.fn 11 _ rfl
  refine ⟨_, fd, _, fnO_D (N := ["value"]) F sc_is_integer rfl fun cdv A outer s H E hr tks pod => ?_, (hd.glo 11 _ rfl), F.kp, F.bindsN fun _ _ _ _ _ _ us hl => match us, hl with | [_], _ => rfl⟩
  exact (ss_one (s1_ret ((se_and rfl (se_isi rfl (ty_ok hd) (kdB_ok (cs := [He.ga K "Group"]) cl_ok (hd.fact 1 _ rfl)) (.ty "int") rfl (hd.free 7 _ rfl) (sv 0 (.inl rfl) rfl rfl rfl) (pe_bltn rfl (hd.free 0 _ rfl) (by decide +kernel) rfl (by decide) rfl) (fun _ _ h => nomatch h) (fun _ _ h => nomatch h)) (se_and1 (se_not rfl (se_isi rfl (ty_ok hd) (kdB_ok (cs := [He.ga K "Group"]) cl_ok (hd.fact 2 _ rfl)) (.ty "bool") rfl (hd.free 7 _ rfl) (sv 0 (.inl rfl) rfl rfl rfl) (pe_bltn rfl (hd.free 8 _ rfl) (by decide +kernel) rfl (by decide) rfl) (fun _ _ h => nomatch h) (fun _ _ h => nomatch h))))))))
/-! ### is_between -/
def b_is_between : S := (.ret ((.and (.call F_is_integer (.cons (.var 0) (.nil))) (.chain pLe pLe (.var 1) (.var 0) (.var 2)))))
def F_is_between : Fn := evF 3 b_is_between
theorem d_is_between (hd : HDx K mg) : FnG P w K mg base (gg K) 2 "is_between" 3 F_is_between := by
  obtain ⟨fd, F⟩ := hd.fn 12 _ rfl
  refine ⟨_, fd, _, fnO_D (N := ["value", "least", "most"]) F sc_is_between rfl fun cdv A outer s H E hr tks pod => ?_, (hd.glo 12 _ rfl), F.kp, F.bindsN fun _ _ _ _ _ _ us hl => match us, hl with | [_, _, _], _ => rfl⟩
  exact (ss_one (s1_ret ((se_and rfl (se_call (d_is_integer hd).d (hr.mono (j := 1) (Nat.le_of_ble_eq_true rfl)) (tk_of tks) rfl (sac rfl (sv 0 (.inl rfl) rfl rfl rfl) (sa_nil)) rfl rfl rfl (manyE rfl)) (se_and1 (v_chain op_le op_le pr_le pr_le rfl (sv 1 (.inl rfl) rfl rfl rfl) (sv 0 (.inl rfl) rfl rfl rfl) (sv 2 (.inl rfl) rfl rfl rfl)))))))
/-! ### is_row -/
def C_is_row_0 : E := .comp (.one 4) ((.var 0)) (.lit (.bl true)) (.call F_is_between (.cons (.var 4) (.cons (.var 2) (.cons (.var 3) (.nil)))))
def b_is_row : S := (.ret ((.and (.call F_is_tuple_of (.cons (.var 0) (.cons (.var 1) (.nil)))) (.prim pAll (.cons (C_is_row_0) .nil)))))
def F_is_row : Fn := evF 5 b_is_row
theorem d_is_row (hd : HDx K mg) : FnG P w K mg base (gg K) 3 "is_row" 4 F_is_row := by
  obtain ⟨fd, F⟩ := hd.fn 13 _ rfl
  refine ⟨_, fd, _, fnO_D (N := ["value", "many", "least", "most", "item"]) F sc_is_row rfl fun cdv A outer s H E hr tks pod => ?_, (hd.glo 13 _ rfl), F.kp, F.bindsN fun _ _ _ _ _ _ us hl => match us, hl with | [_, _, _, _], _ => rfl⟩
  exact (ss_one (s1_ret ((se_and rfl (se_call (d_is_tuple_of hd).d (hr.mono (j := 1) (Nat.le_of_ble_eq_true rfl)) (tk_of tks) rfl (sac rfl (sv 0 (.inl rfl) rfl rfl rfl) (sac rfl (sv 1 (.inl rfl) rfl rfl rfl) (sa_nil))) rfl rfl rfl (manyE rfl)) (se_and1 (w_all (hd.free 9 _ rfl) rfl rfl rfl rfl (SF.se (sf_comp (own := [("item", 4)]) rfl sc_is_row.nd (si_any rfl (sv 0 (.inl rfl) rfl rfl rfl) rfl) (blkOk_by rfl) rfl (fun _ _ _ _ _ => tg_pg rfl sc_is_row.nd rfl (.one (nml 4 rfl rfl))) (fun _ _ _ _ _ => sts_nil) (fun _ _ _ _ _ => (se_call (d_is_between hd).d (hr.mono (j := 2) (Nat.le_of_ble_eq_true rfl)) tk_none rfl (sac rfl (sv 4 (.inl rfl) rfl rfl rfl) (sac rfl (sv 2 (.inr (.inl rfl)) rfl rfl rfl) (sac rfl (sv 3 (.inr (.inl rfl)) rfl rfl rfl) (sa_nil)))) rfl rfl rfl (manyE rfl))) (fun _ => rfl)) rfl)))))))
/-! ### is_table -/
def C_is_table_0 : E := .comp (.one 1) ((.var 0)) (.lit (.bl true)) (.call F_is_row (.cons (.var 1) (.cons (.prim pLen (.cons (.var 0) .nil)) (.cons (.lit (.int 0)) (.cons (.prim pSub (.cons (.prim pLen (.cons (.var 0) .nil)) (.cons (.lit (.int 1)) .nil))) (.nil))))))
def b_is_table : S := (.seq (.ite ((.or (.not ((.prim (pIsi 1 [.tuple]) (.cons (.var 0) .nil)))) (.not (.chain pLe pLe (.lit (.int 1)) (.prim pLen (.cons (.var 0) .nil)) (.lit (.int 24)))))) ((.ret (.lit (.bl false)))) (.skip))
  (.ret (.prim pAll (.cons (C_is_table_0) .nil))))
def F_is_table : Fn := evF 2 b_is_table
theorem d_is_table (hd : HDx K mg) : FnG P w K mg base (gg K) 4 "is_table" 1 F_is_table := by
  obtain ⟨fd, F⟩ := hd.fn 14 _ rfl
  refine ⟨_, fd, _, fnO_D (N := ["value", "row"]) F sc_is_table rfl fun cdv A outer s H E hr tks pod => ?_, (hd.glo 14 _ rfl), F.kp, F.bindsN fun _ _ _ _ _ _ us hl => match us, hl with | [_], _ => rfl⟩
  exact (ss_cons (s1_if (w_st (sw_or (st_not (t_truth rfl (fun _ => rfl) (se_isi rfl (ty_ok hd) (kdB_ok (cs := [He.ga K "Group"]) cl_ok (hd.fact 0 _ rfl)) (.ty "tuple") rfl (hd.free 7 _ rfl) (sv 0 (.inr (.inl rfl)) rfl rfl rfl) (pe_bltn rfl (hd.free 4 _ rfl) (by decide +kernel) rfl (by decide) rfl) (fun _ _ h => nomatch h) (fun _ _ h => nomatch h)))) (sw_or1 (st_not (t_chain op_le op_le pr_le pr_le rfl (w_int) (w_len (hd.free 1 _ rfl) rfl rfl rfl (sv 0 (.inr (.inl rfl)) rfl rfl rfl)) (w_gint rfl (hd.int 0 _ rfl) rfl)))))) ((ss_one (s1_ret (w_bl)))) (ss_nil))
  (ss_one (s1_ret (w_all (hd.free 9 _ rfl) rfl rfl rfl rfl (SF.se (sf_comp (own := [("row", 1)]) rfl sc_is_table.nd (si_any rfl (sv 0 (.inr (.inl rfl)) rfl rfl rfl) rfl) (blkOk_by rfl) rfl (fun _ _ _ _ _ => tg_pg rfl sc_is_table.nd rfl (.one (nml 1 rfl rfl))) (fun _ _ _ _ _ => sts_nil) (fun _ _ _ _ _ => (se_call (d_is_row hd).d (hr.mono (j := 3) (Nat.le_of_ble_eq_true rfl)) tk_none rfl (sac rfl (sv 1 (.inl rfl) rfl rfl rfl) (sac rfl (w_len (hd.free 1 _ rfl) rfl rfl rfl (sv 0 (.inr (.inl rfl)) rfl rfl rfl)) (sac rfl (w_int) (sac rfl (w_sub (w_len (hd.free 1 _ rfl) rfl rfl rfl (sv 0 (.inr (.inl rfl)) rfl rfl rfl)) (w_int)) (sa_nil))))) rfl rfl rfl (manyE rfl))) (fun _ => rfl)) rfl)))))
/-! ### is_apart -/
def b_is_apart : S := (.ret (.prim pNe (.cons (.prim pIx (.cons (.prim pIx (.cons (.var 0) (.cons (.prim pIx (.cons (.prim pIx (.cons (.var 0) (.cons (.var 1) .nil))) (.cons (.var 2) .nil))) .nil))) (.cons (.var 3) .nil))) (.cons (.prim pIx (.cons (.prim pIx (.cons (.var 0) (.cons (.var 1) .nil))) (.cons (.prim pIx (.cons (.prim pIx (.cons (.var 0) (.cons (.var 2) .nil))) (.cons (.var 3) .nil))) .nil))) .nil))))
def F_is_apart : Fn := evF 4 b_is_apart
theorem d_is_apart (hd : HDx K mg) : FnG P w K mg base (gg K) 1 "is_apart" 4 F_is_apart := by
  obtain ⟨fd, F⟩ := hd.fn 15 _ rfl
  refine ⟨_, fd, _, fnO_D (N := ["table", "one", "middle", "other"]) F sc_is_apart rfl fun cdv A outer s H E hr tks pod => ?_, (hd.glo 15 _ rfl), F.kp, F.bindsN fun _ _ _ _ _ _ us hl => match us, hl with | [_, _, _, _], _ => rfl⟩
  exact (ss_one (s1_ret (v_ne (hu65 hr) rfl (w_ix rfl (fun _ _ => rfl) (w_ix rfl (fun _ _ => rfl) (sv 0 (.inl rfl) rfl rfl rfl) (w_ix rfl (fun _ _ => rfl) (w_ix rfl (fun _ _ => rfl) (sv 0 (.inl rfl) rfl rfl rfl) (sv 1 (.inl rfl) rfl rfl rfl)) (sv 2 (.inl rfl) rfl rfl rfl))) (sv 3 (.inl rfl) rfl rfl rfl)) (w_ix rfl (fun _ _ => rfl) (w_ix rfl (fun _ _ => rfl) (sv 0 (.inl rfl) rfl rfl rfl) (sv 1 (.inl rfl) rfl rfl rfl)) (w_ix rfl (fun _ _ => rfl) (w_ix rfl (fun _ _ => rfl) (sv 0 (.inl rfl) rfl rfl rfl) (sv 2 (.inl rfl) rfl rfl rfl)) (sv 3 (.inl rfl) rfl rfl rfl))))))
end
end K66
end
section
set_option Elab.async false
set_option linter.all false
set_option maxRecDepth 100000
set_option maxHeartbeats 4000000

/-! K66_2: printed by gen.py. -/
namespace K66
open PySem PySem.Spec PyProof.Rows L2 G
section
variable {P : Program} {w : World} {K : PySem.W.Frag} {mg : Str → Option Value} {base : Heap}
/-! ### first_apart -/
def B_first_apart_0 : S := ((.ite ((.call F_is_apart (.cons (.var 0) (.cons (.var 3) (.cons (.var 4) (.cons (.var 5) (.nil))))))) ((.ret (.tupE (.cons (.var 3) (.cons (.var 4) (.cons (.var 5) (.nil))))))) (.skip)))
def L_first_apart_0 : S := .for (.one 5) ((.var 2)) (B_first_apart_0)
def B_first_apart_1 : S := ((L_first_apart_0))
def L_first_apart_1 : S := .for (.one 4) ((.var 1)) (B_first_apart_1)
def B_first_apart_2 : S := ((L_first_apart_1))
def L_first_apart_2 : S := .for (.one 3) ((.var 2)) (B_first_apart_2)
def b_first_apart : S := (.seq (.set (.one 2) (.prim pRange1 (.cons (.prim pLen (.cons (.var 0) .nil)) .nil)))
  (.seq (L_first_apart_2)
  (.ret (.lit .non))))
def F_first_apart : Fn := evF 6 b_first_apart
theorem d_first_apart (hd : HDx K mg) : FnG P w K mg base (gg K) 2 "first_apart" 2 F_first_apart := by
  obtain ⟨fd, F⟩ := hd.fn 16 _ rfl
  refine ⟨_, fd, _, fnO_D (N := ["table", "middles", "every", "one", "middle", "other"]) F sc_first_apart rfl fun cdv A outer s H E hr tks pod => ?_, (hd.glo 16 _ rfl), F.kp, F.bindsN fun _ _ _ _ _ _ us hl => match us, hl with | [_, _], _ => rfl⟩
  exact (ss_cons (a_setl 2 sc_first_apart.nd rfl rfl rfl (se_listRange rfl rfl (hd.free 3 _ rfl) rfl (hd.free 2 _ rfl) (w_len (hd.free 1 _ rfl) rfl rfl rfl (sv 0 (.inl rfl) rfl rfl rfl)) (fun _ _ h => nomatch h)))
  (ss_cons (s1_for pod rfl (si_any rfl (sv 2 (.inl rfl) rfl rfl rfl) rfl) (tg_pg rfl sc_first_apart.nd rfl (.one (nml 3 rfl rfl))) ((ss_one (s1_for pod rfl (si_any rfl (sv 1 (.inl rfl) rfl rfl rfl) rfl) (tg_pg rfl sc_first_apart.nd rfl (.one (nml 4 rfl rfl))) ((ss_one (s1_for pod rfl (si_any rfl (sv 2 (.inl rfl) rfl rfl rfl) rfl) (tg_pg rfl sc_first_apart.nd rfl (.one (nml 5 rfl rfl))) ((ss_one (s1_if (t_truth rfl (fun _ => rfl) (se_call (d_is_apart hd).d (hr.mono (j := 1) (Nat.le_of_ble_eq_true rfl)) (tk_of tks) rfl (sac rfl (sv 0 (.inl rfl) rfl rfl rfl) (sac rfl (sv 3 (.inl rfl) rfl rfl rfl) (sac rfl (sv 4 (.inl rfl) rfl rfl rfl) (sac rfl (sv 5 (.inl rfl) rfl rfl rfl) (sa_nil))))) rfl rfl rfl (manyE rfl))) ((ss_one (s1_ret (se_tup (sac rfl (sv 3 (.inl rfl) rfl rfl rfl) (sac rfl (sv 4 (.inl rfl) rfl rfl rfl) (sac rfl (sv 5 (.inl rfl) rfl rfl rfl) (sa_nil)))))))) (ss_nil)))) (fun _ => rfl)))) (fun _ => rfl)))) (fun _ => rfl))
  (ss_one (s1_ret (w_non)))))
/-! ### is_moved -/
def b_is_moved : S := (.ret ((.or (.prim pNe (.cons (.prim pIx (.cons (.prim pIx (.cons (.var 0) (.cons (.lit (.int 0)) .nil))) (.cons (.var 1) .nil))) (.cons (.var 1) .nil))) (.prim pNe (.cons (.prim pIx (.cons (.prim pIx (.cons (.var 0) (.cons (.var 1) .nil))) (.cons (.lit (.int 0)) .nil))) (.cons (.var 1) .nil))))))
def F_is_moved : Fn := evF 2 b_is_moved
theorem d_is_moved (hd : HDx K mg) : FnG P w K mg base (gg K) 1 "is_moved" 2 F_is_moved := by
  obtain ⟨fd, F⟩ := hd.fn 17 _ rfl
  refine ⟨_, fd, _, fnO_D (N := ["table", "element"]) F sc_is_moved rfl fun cdv A outer s H E hr tks pod => ?_, (hd.glo 17 _ rfl), F.kp, F.bindsN fun _ _ _ _ _ _ us hl => match us, hl with | [_, _], _ => rfl⟩
  exact (ss_one (s1_ret ((se_or rfl (v_ne (hu65 hr) rfl (w_ix rfl (fun _ _ => rfl) (w_ix rfl (fun _ _ => rfl) (sv 0 (.inl rfl) rfl rfl rfl) (w_int)) (sv 1 (.inl rfl) rfl rfl rfl)) (sv 1 (.inl rfl) rfl rfl rfl)) (se_and1 (v_ne (hu65 hr) rfl (w_ix rfl (fun _ _ => rfl) (w_ix rfl (fun _ _ => rfl) (sv 0 (.inl rfl) rfl rfl rfl) (sv 1 (.inl rfl) rfl rfl rfl)) (w_int)) (sv 1 (.inl rfl) rfl rfl rfl)))))))
/-! ### inverses_of -/
def C_inverses_of_0 : E := .comp (.one 2) (.wk pRange1 (.cons (.prim pLen (.cons (.var 0) .nil)) .nil)) ((.and (.prim pEq (.cons (.prim pIx (.cons (.prim pIx (.cons (.var 0) (.cons (.var 1) .nil))) (.cons (.var 2) .nil))) (.cons (.lit (.int 0)) .nil))) (.prim pEq (.cons (.prim pIx (.cons (.prim pIx (.cons (.var 0) (.cons (.var 2) .nil))) (.cons (.var 1) .nil))) (.cons (.lit (.int 0)) .nil))))) (.var 2)
def b_inverses_of : S := (.ret (C_inverses_of_0))
def F_inverses_of : Fn := evF 3 b_inverses_of
theorem d_inverses_of (hd : HDx K mg) : FnG P w K mg base (gg K) 1 "inverses_of" 2 F_inverses_of := by
  obtain ⟨fd, F⟩ := hd.fn 18 _ rfl
  refine ⟨_, fd, _, fnO_D (N := ["table", "element", "other"]) F sc_inverses_of rfl fun cdv A outer s H E hr tks pod => ?_, (hd.glo 18 _ rfl), F.kp, F.bindsN fun _ _ _ _ _ _ us hl => match us, hl with | [_, _], _ => rfl⟩
  exact (ss_one (s1_ret (SF.se (sf_comp (own := [("other", 2)]) rfl sc_inverses_of.nd (si_range1 rfl (hd.free 2 _ rfl) (w_len (hd.free 1 _ rfl) rfl rfl rfl (sv 0 (.inr (.inl rfl)) rfl rfl rfl)) (fun _ _ h => nomatch h)) (blkOk_by rfl) rfl (fun _ _ _ _ _ => tg_pg rfl sc_inverses_of.nd rfl (.one (nml 2 rfl rfl))) (fun _ _ _ _ _ => (sts_one (w_st (sw_and (t_eq (hu65 hr) rfl (w_ix rfl (fun _ _ => rfl) (w_ix rfl (fun _ _ => rfl) (sv 0 (.inr (.inl rfl)) rfl rfl rfl) (sv 1 (.inr (.inl rfl)) rfl rfl rfl)) (sv 2 (.inl rfl) rfl rfl rfl)) (w_int)) (sw_and1 (t_eq (hu65 hr) rfl (w_ix rfl (fun _ _ => rfl) (w_ix rfl (fun _ _ => rfl) (sv 0 (.inr (.inl rfl)) rfl rfl rfl) (sv 2 (.inl rfl) rfl rfl rfl)) (sv 1 (.inr (.inl rfl)) rfl rfl rfl)) (w_int))))))) (fun _ _ _ _ _ => (sv 2 (.inl rfl) rfl rfl rfl)) (fun _ => rfl)) rfl)))
/-! ### fault_of -/
def C_fault_of_0 : E := .comp (.one 5) ((.var 1)) ((.call F_is_moved (.cons (.var 0) (.cons (.var 5) (.nil))))) (.var 5)
def C_fault_of_1 : E := .comp (.one 5) ((.var 1)) (.prim pEq (.cons (.call F_inverses_of (.cons (.var 0) (.cons (.var 5) (.nil)))) (.cons (.lstE (.nil)) .nil))) (.var 5)
def b_fault_of : S := (.seq (.set (.one 1) (.prim pRange1 (.cons (.prim pLen (.cons (.var 0) .nil)) .nil)))
  (.seq (.set (.one 2) (C_fault_of_0))
  (.seq (.ite (.prim pNe (.cons (.var 2) (.cons (.lstE (.nil)) .nil))) ((.ret (.tupE (.cons (.lit (.str "identity")) (.cons (.prim pIx (.cons (.var 2) (.cons (.lit (.int 0)) .nil))) (.nil)))))) (.skip))
  (.seq (.set (.one 3) (.call F_first_apart (.cons (.var 0) (.cons (.var 1) (.nil)))))
  (.seq (.ite (.prim pIsNot (.cons (.var 3) (.cons (.lit .non) .nil))) ((.bad)) (.skip))
  (.seq (.set (.one 4) (C_fault_of_1))
  (.ret (.ite (.prim pNe (.cons (.var 4) (.cons (.lstE (.nil)) .nil))) (.tupE (.cons (.lit (.str "inverse")) (.cons (.prim pIx (.cons (.var 4) (.cons (.lit (.int 0)) .nil))) (.nil)))) (.lit .non)))))))))
def F_fault_of : Fn := evF 6 b_fault_of
theorem d_fault_of (hd : HDx K mg) : FnG P w K mg base (gg K) 3 "fault_of" 1 F_fault_of := by
  obtain ⟨fd, F⟩ := hd.fn 19 _ rfl
  refine ⟨_, fd, _, fnO_D (N := ["table", "every", "moved", "triple", "alone", "element"]) F sc_fault_of rfl fun cdv A outer s H E hr tks pod => ?_, (hd.glo 19 _ rfl), F.kp, F.bindsN fun _ _ _ _ _ _ us hl => match us, hl with | [_], _ => rfl⟩
  exact (ss_cons (a_setl 1 sc_fault_of.nd rfl rfl rfl (se_listRange rfl rfl (hd.free 3 _ rfl) rfl (hd.free 2 _ rfl) (w_len (hd.free 1 _ rfl) rfl rfl rfl (sv 0 (.inr (.inl rfl)) rfl rfl rfl)) (fun _ _ h => nomatch h)))
  (ss_cons (a_lcSet (i := 2) (own := [("element", 5)]) sc_fault_of.nd rfl rfl rfl rfl (si_any rfl (sv 1 (.inl rfl) rfl rfl rfl) rfl) (blkOk_by rfl) rfl (fun _ _ _ _ _ => tg_pg rfl sc_fault_of.nd rfl (.one (nml 5 rfl rfl))) (fun _ _ _ _ _ => (sts_one (t_truth rfl (fun _ => rfl) (se_call (d_is_moved hd).d (hr.mono (j := 1) (Nat.le_of_ble_eq_true rfl)) tk_none rfl (sac rfl (sv 0 (.inr (.inl rfl)) rfl rfl rfl) (sac rfl (sv 5 (.inl rfl) rfl rfl rfl) (sa_nil))) rfl rfl rfl (manyE rfl))))) (fun _ _ _ _ _ => (sv 5 (.inl rfl) rfl rfl rfl)) (fun _ => rfl))
  (ss_cons (s1_if (t_ne (hu65 hr) rfl (sv 2 (.inl rfl) rfl rfl rfl) (SF.se (sf_lst (sa_nil)) rfl)) ((ss_one (s1_ret (se_tup (sac rfl (w_str (by decide +kernel) (by decide +kernel)) (sac rfl (w_ix rfl (fun _ _ => rfl) (sv 2 (.inl rfl) rfl rfl rfl) (w_int)) (sa_nil))))))) (ss_nil))
  (ss_cons (a_setl 3 sc_fault_of.nd rfl rfl rfl (se_call (d_first_apart hd).d (hr.mono (j := 2) (Nat.le_of_ble_eq_true rfl)) (tk_of tks) rfl (sac rfl (sv 0 (.inr (.inl rfl)) rfl rfl rfl) (sac rfl (sv 1 (.inl rfl) rfl rfl rfl) (sa_nil))) rfl rfl rfl (manyE rfl)))
  (ss_cons (s1_if (t_isnot (sv 3 (.inl rfl) rfl rfl rfl) (w_non)) ((ss_one (s1_bad))) (ss_nil))
  (ss_cons (a_lcSet (i := 4) (own := [("element", 5)]) sc_fault_of.nd rfl rfl rfl rfl (si_any rfl (sv 1 (.inl rfl) rfl rfl rfl) rfl) (blkOk_by rfl) rfl (fun _ _ _ _ _ => tg_pg rfl sc_fault_of.nd rfl (.one (nml 5 rfl rfl))) (fun _ _ _ _ _ => (sts_one (t_eq (hu65 hr) rfl (se_call (d_inverses_of hd).d (hr.mono (j := 1) (Nat.le_of_ble_eq_true rfl)) tk_none rfl (sac rfl (sv 0 (.inr (.inl rfl)) rfl rfl rfl) (sac rfl (sv 5 (.inl rfl) rfl rfl rfl) (sa_nil))) rfl rfl rfl (manyE rfl)) (SF.se (sf_lst (sa_nil)) rfl)))) (fun _ _ _ _ _ => (sv 5 (.inl rfl) rfl rfl rfl)) (fun _ => rfl))
  (ss_one (s1_ret (se_ite (t_ne (hu65 hr) rfl (sv 4 (.inl rfl) rfl rfl rfl) (SF.se (sf_lst (sa_nil)) rfl)) (se_tup (sac rfl (w_str (by decide +kernel) (by decide +kernel)) (sac rfl (w_ix rfl (fun _ _ => rfl) (sv 4 (.inl rfl) rfl rfl rfl) (w_int)) (sa_nil)))) (w_non))))))))))
/-! ### Group.__init__ -/
def C_Group___init___0 : E := .comp (.one 2) (.wk pRange1 (.cons (.prim pLen (.cons (.var 1) .nil)) .nil)) (.lit (.bl true)) (.prim pIx (.cons (.call F_inverses_of (.cons (.var 1) (.cons (.var 2) (.nil)))) (.cons (.lit (.int 0)) .nil)))
def b_Group___init__ : S := (.seq (.ite ((.or (.not ((.call F_is_table (.cons (.var 1) (.nil))))) (.prim pIsNot (.cons (.call F_fault_of (.cons (.var 1) (.nil))) (.cons (.lit .non) .nil))))) ((.raise 2 1 (.cons (.var 1) .nil))) (.skip))
  (.seq (.fld 0 0 0 (.var 1))
  (.seq (.fld 0 0 1 (.prim pLen (.cons (.var 1) .nil)))
  (.fld 0 0 2 (C_Group___init___0)))))
def F_Group___init__ : Fn := evI 0 3 2 b_Group___init__
theorem g_Group___init__ (hd : HDx K mg) : ∃ (fI : Addr) (fd : FuncData) (ps : List Str), FnOk P w K mg base (L2.CX P w) 5 fI fd ps (spI (gg K) 0 1 F_Group___init__) ∧ Mk K (He.ga K "Group") fI ∧ Binds K fd ps [] := by
  obtain ⟨fd, F⟩ := hd.fn 20 _ rfl
  refine ⟨_, fd, _, fnO_I (nf := 3) (N := ["self", "table", "element"]) F sc_Group___init__ rfl fun cdv A outer s H E hr tks pod => ?_, He.mkr_ok (hd.fact 7 _ rfl), F.bindsN fun _ _ _ _ _ _ us hl => match us, hl with | [_, _], _ => rfl⟩
  exact (ss_cons (s1_if (w_st (sw_or (st_not (t_truth rfl (fun _ => rfl) (se_call (d_is_table hd).d (hr.mono (j := 4) (Nat.le_of_ble_eq_true rfl)) (tk_of tks) rfl (sac rfl (sv 1 (.inr (.inl rfl)) rfl rfl rfl) (sa_nil)) rfl rfl rfl (manyE rfl)))) (sw_or1 (t_isnot (se_call (d_fault_of hd).d (hr.mono (j := 3) (Nat.le_of_ble_eq_true rfl)) (tk_of tks) rfl (sac rfl (sv 1 (.inr (.inl rfl)) rfl rfl rfl) (sa_nil)) rfl rfl rfl (manyE rfl)) (w_non))))) ((ss_one (s1_raise (x_InvalidTable hd rfl rfl) rfl tks (hr.mono (j := 2) (Nat.le_of_ble_eq_true rfl)) rfl (sv 1 (.inr (.inl rfl)) rfl rfl rfl) (fun _ _ h => nomatch h) rfl))) (ss_nil))
  (ss_cons (s1_fld rfl (He.cls_ok (hd.fact 3 _ rfl)) (He.noat_ok (hd.fact 4 _ rfl)) rfl rfl (by decide) rfl (.inl rfl) rfl rfl (sv 1 (.inr (.inl rfl)) rfl rfl rfl) rfl)
  (ss_cons (s1_fld rfl (He.cls_ok (hd.fact 3 _ rfl)) (He.noat_ok (hd.fact 5 _ rfl)) rfl rfl (by decide) rfl (.inl rfl) rfl rfl (w_len (hd.free 1 _ rfl) rfl rfl rfl (sv 1 (.inr (.inl rfl)) rfl rfl rfl)) rfl)
  (ss_one (s1_fld rfl (He.cls_ok (hd.fact 3 _ rfl)) (He.noat_ok (hd.fact 6 _ rfl)) rfl rfl (by decide) rfl (.inl rfl) rfl rfl (SF.se (sf_comp (own := [("element", 2)]) rfl sc_Group___init__.nd (si_range1 rfl (hd.free 2 _ rfl) (w_len (hd.free 1 _ rfl) rfl rfl rfl (sv 1 (.inr (.inl rfl)) rfl rfl rfl)) (fun _ _ h => nomatch h)) (blkOk_by rfl) rfl (fun _ _ _ _ _ => tg_pg rfl sc_Group___init__.nd rfl (.one (nml 2 rfl rfl))) (fun _ _ _ _ _ => sts_nil) (fun _ _ _ _ _ => (w_ix rfl (fun _ _ => rfl) (se_call (d_inverses_of hd).d (hr.mono (j := 1) (Nat.le_of_ble_eq_true rfl)) tk_none rfl (sac rfl (sv 1 (.inr (.inl rfl)) rfl rfl rfl) (sac rfl (sv 2 (.inl rfl) rfl rfl rfl) (sa_nil))) rfl rfl rfl (manyE rfl)) (w_int))) (fun _ => rfl)) rfl) rfl)))))
theorem d_Group___init__ {X : Cx} (hd : HDx K mg) (hK : X.K = K) (hm : X.mg = mg) : FnI (gg K) X 5 "Group" 0 1 F_Group___init__ := by
  subst hK hm
  exact ⟨(hd.glo 20 _ rfl), g_Group___init__ hd⟩
/-! ### _law_group -/
def C__law_group_0 : E := .comp (.one 1) ((.var 0)) (.lit (.bl true)) (.prim pTuple (.cons (.var 1) .nil))
def b__law_group : S := (.ret (.call F_Group___init__ (.cons (.prim pTuple (.cons (C__law_group_0) .nil)) (.nil))))
def F__law_group : Fn := evF 2 b__law_group
theorem d__law_group (hd : HDx K mg) : FnG P w K mg base (gg K) 7 "_law_group" 1 F__law_group := by
  obtain ⟨fd, F⟩ := hd.fn 21 _ rfl
  refine ⟨_, fd, _, fnO_D (N := ["table", "row"]) F sc__law_group rfl fun cdv A outer s H E hr tks pod => ?_, (hd.glo 21 _ rfl), F.kp, F.bindsN fun _ _ _ _ _ _ us hl => match us, hl with | [_], _ => rfl⟩
  exact (ss_one (s1_ret (se_new (d_Group___init__ hd rfl rfl) (hr.mono (j := 6) (Nat.le_of_ble_eq_true rfl)) (tk_of tks) rfl (sac rfl (w_totuple (hd.free 4 _ rfl) rfl rfl rfl (SF.se (sf_comp (own := [("row", 1)]) rfl sc__law_group.nd (si_any rfl (sv 0 (.inl rfl) rfl rfl rfl) rfl) (blkOk_by rfl) rfl (fun _ _ _ _ _ => tg_pg rfl sc__law_group.nd rfl (.one (nml 1 rfl rfl))) (fun _ _ _ _ _ => sts_nil) (fun _ _ _ _ _ => (w_totuple (hd.free 4 _ rfl) rfl rfl rfl (sv 1 (.inl rfl) rfl rfl rfl))) (fun _ => rfl)) rfl)) (sa_nil)) rfl rfl (manyE rfl))))
/-! ### _law_same -/
def C__law_same_0 (fS : Fn) : E := .comp (.one 2) (.wk pRange1 (.cons (.prim pLen (.cons (.var 1) .nil)) .nil)) (.prim pNe (.cons (.prim (pCut true true) (.cons (.var 0) (.cons (.prim pI (.cons (.var 2) .nil)) (.cons (.prim pI (.cons (.prim pAdd (.cons (.var 2) (.cons (.lit (.int 1)) .nil))) .nil)) .nil)))) (.cons (.prim pIx (.cons (.var 1) (.cons (.var 2) .nil))) .nil))) (.var 2)
def C__law_same_1 (fS : Fn) : E := .comp (.one 2) (.wk pRange1 (.cons (.prim pLen (.cons (.var 1) .nil)) .nil)) (.not ((.call fS (.cons (.prim pIx (.cons (.var 0) (.cons (.var 2) .nil))) (.cons (.prim pIx (.cons (.var 1) (.cons (.var 2) .nil))) (.nil)))))) (.var 2)
def b__law_same (fS : Fn) : S := (.seq (.ite ((.or (.prim pIs (.cons (.var 1) (.cons (.lit .non) .nil))) ((.prim (pIsi 1 [.bool]) (.cons (.var 1) .nil))))) ((.ret (.ite (.prim pIs (.cons (.var 1) (.cons (.lit .non) .nil))) (.prim pIs (.cons (.var 0) (.cons (.lit .non) .nil))) ((.and (.prim (pIsi 1 [.bool]) (.cons (.var 0) .nil)) (.prim pEq (.cons (.prim pIs (.cons (.var 0) (.cons (.lit (.bl true)) .nil))) (.cons (.prim pIs (.cons (.var 1) (.cons (.lit (.bl true)) .nil))) .nil)))))))) (.skip))
  (.seq (.ite ((.prim (pIsi 1 [.int]) (.cons (.var 1) .nil))) ((.ret ((.and (.prim (pIsi 1 [.int]) (.cons (.var 0) .nil)) (.and (.not (.prim (pIsi 1 [.bool]) (.cons (.var 0) .nil))) (.prim pEq (.cons (.prim pSub (.cons (.prim pInt (.cons (.var 0) .nil)) (.cons (.var 1) .nil))) (.cons (.lit (.int 0)) .nil)))))))) (.skip))
  (.seq (.ite ((.prim (pIsi 1 [.str]) (.cons (.var 1) .nil))) ((.ret ((.and (.prim (pIsi 1 [.str]) (.cons (.var 0) .nil)) (.and (.prim pEq (.cons (.prim pLen (.cons (.var 0) .nil)) (.cons (.prim pLen (.cons (.var 1) .nil)) .nil))) (.prim pEq (.cons (C__law_same_0 fS) (.cons (.lstE (.nil)) .nil)))))))) (.skip))
  (.seq (.ite ((.or (.prim pNe (.cons (.prim (pIsi 1 [.list]) (.cons (.var 0) .nil)) (.cons (.prim (pIsi 1 [.list]) (.cons (.var 1) .nil)) .nil))) (.prim pNe (.cons (.prim (pIsi 1 [.tuple]) (.cons (.var 0) .nil)) (.cons (.prim (pIsi 1 [.tuple]) (.cons (.var 1) .nil)) .nil))))) ((.ret (.lit (.bl false)))) (.skip))
  (.ret ((.and (.prim pEq (.cons (.prim pLen (.cons (.var 0) .nil)) (.cons (.prim pLen (.cons (.var 1) .nil)) .nil))) (.prim pEq (.cons (C__law_same_1 fS) (.cons (.lstE (.nil)) .nil))))))))))
def F__law_same : Nat → Fn
  | 0 => Fbad
  | r + 1 => evF 3 (b__law_same (F__law_same r))
theorem d__law_same (hd : HDx K mg) : ∀ r : Nat, FnG P w K mg base (gg K) (0 + r) "_law_same" 2 (F__law_same r)
  | 0 => by
    obtain ⟨fd, F⟩ := hd.fn 22 _ rfl
    exact fnG_bad F (hd.glo 22 _ rfl) (F.bindsN (ps := ["told", "due"]) fun _ _ _ _ _ _ us hl => match us, hl with | [_, _], _ => rfl) rfl
  | r + 1 => by
    obtain ⟨fd, F⟩ := hd.fn 22 _ rfl
    have fG := d__law_same hd r
    refine ⟨_, fd, _, fnO_D (k := 0 + r) (N := ["told", "due", "k"]) F sc__law_same rfl fun cdv A outer s H E hr tks pod => ?_, (hd.glo 22 _ rfl), F.kp, F.bindsN fun _ _ _ _ _ _ us hl => match us, hl with | [_, _], _ => rfl⟩
    exact (ss_cons (s1_if (w_st (sw_or (t_is (sv 1 (.inr (.inl rfl)) rfl rfl rfl) (w_non)) (sw_or1 (t_truth rfl (fun _ => rfl) (se_isi rfl (ty_ok hd) (kdB_ok (cs := [He.ga K "Group"]) cl_ok (hd.fact 2 _ rfl)) (.ty "bool") rfl (hd.free 7 _ rfl) (sv 1 (.inr (.inl rfl)) rfl rfl rfl) (pe_bltn rfl (hd.free 8 _ rfl) (by decide +kernel) rfl (by decide) rfl) (fun _ _ h => nomatch h) (fun _ _ h => nomatch h)))))) ((ss_one (s1_ret (se_ite (t_is (sv 1 (.inr (.inl rfl)) rfl rfl rfl) (w_non)) (v_is (sv 0 (.inr (.inl rfl)) rfl rfl rfl) (w_non)) ((se_and rfl (se_isi rfl (ty_ok hd) (kdB_ok (cs := [He.ga K "Group"]) cl_ok (hd.fact 2 _ rfl)) (.ty "bool") rfl (hd.free 7 _ rfl) (sv 0 (.inr (.inl rfl)) rfl rfl rfl) (pe_bltn rfl (hd.free 8 _ rfl) (by decide +kernel) rfl (by decide) rfl) (fun _ _ h => nomatch h) (fun _ _ h => nomatch h)) (se_and1 (v_eq (hu65 hr) rfl (v_is (sv 0 (.inr (.inl rfl)) rfl rfl rfl) (w_bl)) (v_is (sv 1 (.inr (.inl rfl)) rfl rfl rfl) (w_bl)))))))))) (ss_nil))
  (ss_cons (s1_if (t_truth rfl (fun _ => rfl) (se_isi rfl (ty_ok hd) (kdB_ok (cs := [He.ga K "Group"]) cl_ok (hd.fact 1 _ rfl)) (.ty "int") rfl (hd.free 7 _ rfl) (sv 1 (.inr (.inl rfl)) rfl rfl rfl) (pe_bltn rfl (hd.free 0 _ rfl) (by decide +kernel) rfl (by decide) rfl) (fun _ _ h => nomatch h) (fun _ _ h => nomatch h))) ((ss_one (s1_ret ((se_and rfl (se_isi rfl (ty_ok hd) (kdB_ok (cs := [He.ga K "Group"]) cl_ok (hd.fact 1 _ rfl)) (.ty "int") rfl (hd.free 7 _ rfl) (sv 0 (.inr (.inl rfl)) rfl rfl rfl) (pe_bltn rfl (hd.free 0 _ rfl) (by decide +kernel) rfl (by decide) rfl) (fun _ _ h => nomatch h) (fun _ _ h => nomatch h)) (se_and rfl (se_not rfl (se_isi rfl (ty_ok hd) (kdB_ok (cs := [He.ga K "Group"]) cl_ok (hd.fact 2 _ rfl)) (.ty "bool") rfl (hd.free 7 _ rfl) (sv 0 (.inr (.inl rfl)) rfl rfl rfl) (pe_bltn rfl (hd.free 8 _ rfl) (by decide +kernel) rfl (by decide) rfl) (fun _ _ h => nomatch h) (fun _ _ h => nomatch h))) (se_and1 (v_eq (hu65 hr) rfl (w_sub (w_toint (hd.free 0 _ rfl) rfl rfl (sv 0 (.inr (.inl rfl)) rfl rfl rfl)) (sv 1 (.inr (.inl rfl)) rfl rfl rfl)) (w_int))))))))) (ss_nil))
  (ss_cons (s1_if (t_truth rfl (fun _ => rfl) (se_isi rfl (ty_ok hd) (kdB_ok (cs := [He.ga K "Group"]) cl_ok (hd.fact 8 _ rfl)) (.ty "str") rfl (hd.free 7 _ rfl) (sv 1 (.inr (.inl rfl)) rfl rfl rfl) (pe_bltn rfl (hd.free 10 _ rfl) (by decide +kernel) rfl (by decide) rfl) (fun _ _ h => nomatch h) (fun _ _ h => nomatch h))) ((ss_one (s1_ret ((se_and rfl (se_isi rfl (ty_ok hd) (kdB_ok (cs := [He.ga K "Group"]) cl_ok (hd.fact 8 _ rfl)) (.ty "str") rfl (hd.free 7 _ rfl) (sv 0 (.inr (.inl rfl)) rfl rfl rfl) (pe_bltn rfl (hd.free 10 _ rfl) (by decide +kernel) rfl (by decide) rfl) (fun _ _ h => nomatch h) (fun _ _ h => nomatch h)) (se_and rfl (v_eq (hu65 hr) rfl (w_len (hd.free 1 _ rfl) rfl rfl rfl (sv 0 (.inr (.inl rfl)) rfl rfl rfl)) (w_len (hd.free 1 _ rfl) rfl rfl rfl (sv 1 (.inr (.inl rfl)) rfl rfl rfl))) (se_and1 (v_eq (hu65 hr) rfl (SF.se (sf_comp (own := [("k", 2)]) rfl sc__law_same.nd (si_range1 rfl (hd.free 2 _ rfl) (w_len (hd.free 1 _ rfl) rfl rfl rfl (sv 1 (.inr (.inl rfl)) rfl rfl rfl)) (fun _ _ h => nomatch h)) (blkOk_by rfl) rfl (fun _ _ _ _ _ => tg_pg rfl sc__law_same.nd rfl (.one (nml 2 rfl rfl))) (fun _ _ _ _ _ => (sts_one (t_ne (hu65 hr) rfl (se_cut rfl (sv 0 (.inr (.inl rfl)) rfl rfl rfl) (.inr ⟨_, _, rfl, rfl, rfl, (sv 2 (.inl rfl) rfl rfl rfl)⟩) (.inr ⟨_, _, rfl, rfl, rfl, (w_add rfl (sv 2 (.inl rfl) rfl rfl rfl) (w_int))⟩)) (w_ix rfl (fun _ _ => rfl) (sv 1 (.inr (.inl rfl)) rfl rfl rfl) (sv 2 (.inl rfl) rfl rfl rfl))))) (fun _ _ _ _ _ => (sv 2 (.inl rfl) rfl rfl rfl)) (fun _ => rfl)) rfl) (SF.se (sf_lst (sa_nil)) rfl))))))))) (ss_nil))
  (ss_cons (s1_if (w_st (sw_or (t_ne (hu65 hr) rfl (se_isi rfl (ty_ok hd) (kdB_ok (cs := [He.ga K "Group"]) cl_ok (hd.fact 9 _ rfl)) (.ty "list") rfl (hd.free 7 _ rfl) (sv 0 (.inr (.inl rfl)) rfl rfl rfl) (pe_bltn rfl (hd.free 3 _ rfl) (by decide +kernel) rfl (by decide) rfl) (fun _ _ h => nomatch h) (fun _ _ h => nomatch h)) (se_isi rfl (ty_ok hd) (kdB_ok (cs := [He.ga K "Group"]) cl_ok (hd.fact 9 _ rfl)) (.ty "list") rfl (hd.free 7 _ rfl) (sv 1 (.inr (.inl rfl)) rfl rfl rfl) (pe_bltn rfl (hd.free 3 _ rfl) (by decide +kernel) rfl (by decide) rfl) (fun _ _ h => nomatch h) (fun _ _ h => nomatch h))) (sw_or1 (t_ne (hu65 hr) rfl (se_isi rfl (ty_ok hd) (kdB_ok (cs := [He.ga K "Group"]) cl_ok (hd.fact 0 _ rfl)) (.ty "tuple") rfl (hd.free 7 _ rfl) (sv 0 (.inr (.inl rfl)) rfl rfl rfl) (pe_bltn rfl (hd.free 4 _ rfl) (by decide +kernel) rfl (by decide) rfl) (fun _ _ h => nomatch h) (fun _ _ h => nomatch h)) (se_isi rfl (ty_ok hd) (kdB_ok (cs := [He.ga K "Group"]) cl_ok (hd.fact 0 _ rfl)) (.ty "tuple") rfl (hd.free 7 _ rfl) (sv 1 (.inr (.inl rfl)) rfl rfl rfl) (pe_bltn rfl (hd.free 4 _ rfl) (by decide +kernel) rfl (by decide) rfl) (fun _ _ h => nomatch h) (fun _ _ h => nomatch h)))))) ((ss_one (s1_ret (w_bl)))) (ss_nil))
  (ss_one (s1_ret ((se_and rfl (v_eq (hu65 hr) rfl (w_len (hd.free 1 _ rfl) rfl rfl rfl (sv 0 (.inr (.inl rfl)) rfl rfl rfl)) (w_len (hd.free 1 _ rfl) rfl rfl rfl (sv 1 (.inr (.inl rfl)) rfl rfl rfl))) (se_and1 (v_eq (hu65 hr) rfl (SF.se (sf_comp (own := [("k", 2)]) rfl sc__law_same.nd (si_range1 rfl (hd.free 2 _ rfl) (w_len (hd.free 1 _ rfl) rfl rfl rfl (sv 1 (.inr (.inl rfl)) rfl rfl rfl)) (fun _ _ h => nomatch h)) (blkOk_by rfl) rfl (fun _ _ _ _ _ => tg_pg rfl sc__law_same.nd rfl (.one (nml 2 rfl rfl))) (fun _ _ _ _ _ => (sts_one (st_not (t_truth rfl (fun _ => rfl) (se_call fG.d (hr.mono (Nat.le_refl _)) tk_none rfl (sac rfl (w_ix rfl (fun _ _ => rfl) (sv 0 (.inr (.inl rfl)) rfl rfl rfl) (sv 2 (.inl rfl) rfl rfl rfl)) (sac rfl (w_ix rfl (fun _ _ => rfl) (sv 1 (.inr (.inl rfl)) rfl rfl rfl) (sv 2 (.inl rfl) rfl rfl rfl)) (sa_nil))) rfl rfl rfl (manyE rfl)))))) (fun _ _ _ _ _ => (sv 2 (.inl rfl) rfl rfl rfl)) (fun _ => rfl)) rfl) (SF.se (sf_lst (sa_nil)) rfl)))))))))))
/-! ### is_rising -/
def C_is_rising_0 : E := .comp (.tup [1, 2]) (.wk pZip (.cons (.var 0) (.cons (.prim (pCut true false) (.cons (.var 0) (.cons (.prim pI (.cons (.lit (.int 1)) .nil)) (.cons (.lit .non) .nil)))) .nil))) (.lit (.bl true)) (.prim pLt (.cons (.var 1) (.cons (.var 2) .nil)))
def b_is_rising : S := (.ret (.prim pAll (.cons (C_is_rising_0) .nil)))
def F_is_rising : Fn := evF 3 b_is_rising
theorem d_is_rising (hd : HDx K mg) : FnG P w K mg base (gg K) 1 "is_rising" 1 F_is_rising := by
  obtain ⟨fd, F⟩ := hd.fn 23 _ rfl
  refine ⟨_, fd, _, fnO_D (N := ["items", "one", "other"]) F sc_is_rising rfl fun cdv A outer s H E hr tks pod => ?_, (hd.glo 23 _ rfl), F.kp, F.bindsN fun _ _ _ _ _ _ us hl => match us, hl with | [_], _ => rfl⟩
  exact (ss_one (s1_ret (w_all (hd.free 9 _ rfl) rfl rfl rfl rfl (SF.se (sf_comp (own := [("one", 1), ("other", 2)]) rfl sc_is_rising.nd (si_zip rfl rfl (hd.free 11 _ rfl) (sv 0 (.inl rfl) rfl rfl rfl) (se_cut rfl (sv 0 (.inl rfl) rfl rfl rfl) (.inr ⟨_, _, rfl, rfl, rfl, (w_int)⟩) (.inl ⟨rfl, rfl, rfl⟩)) (fun _ _ h => nomatch h) (fun _ _ h => nomatch h)) (blkOk_by rfl) rfl (fun _ _ _ _ _ => tg_pg rfl sc_is_rising.nd rfl (.tup (.cons (nml 1 rfl rfl) (.cons (nml 2 rfl rfl) .nil)))) (fun _ _ _ _ _ => sts_nil) (fun _ _ _ _ _ => (v_lt (sv 1 (.inl rfl) rfl rfl rfl) (sv 2 (.inl rfl) rfl rfl rfl))) (fun _ => rfl)) rfl))))
end
end K66
end
section
set_option Elab.async false
set_option linter.all false
set_option maxRecDepth 100000
set_option maxHeartbeats 4000000

/-! K66_3: printed by gen.py. -/
namespace K66
open PySem PySem.Spec PyProof.Rows L2 G
section
variable {P : Program} {w : World} {K : PySem.W.Frag} {mg : Str → Option Value} {base : Heap}
/-! ### is_set -/
def b_is_set : S := (.ret ((.and (.prim (pIsi 1 [.tuple]) (.cons (.var 0) .nil)) (.and (.call F_is_row (.cons (.var 0) (.cons (.prim pLen (.cons (.var 0) .nil)) (.cons (.lit (.int 0)) (.cons (.prim pSub (.cons (.var 1) (.cons (.lit (.int 1)) .nil))) (.nil)))))) (.call F_is_rising (.cons (.var 0) (.nil)))))))
def F_is_set : Fn := evF 2 b_is_set
theorem d_is_set (hd : HDx K mg) : FnG P w K mg base (gg K) 4 "is_set" 2 F_is_set := by
  obtain ⟨fd, F⟩ := hd.fn 24 _ rfl
  refine ⟨_, fd, _, fnO_D (N := ["value", "size"]) F sc_is_set rfl fun cdv A outer s H E hr tks pod => ?_, (hd.glo 24 _ rfl), F.kp, F.bindsN fun _ _ _ _ _ _ us hl => match us, hl with | [_, _], _ => rfl⟩
  exact (ss_one (s1_ret ((se_and rfl (se_isi rfl (ty_ok hd) (kdB_ok (cs := [He.ga K "Group"]) cl_ok (hd.fact 0 _ rfl)) (.ty "tuple") rfl (hd.free 7 _ rfl) (sv 0 (.inl rfl) rfl rfl rfl) (pe_bltn rfl (hd.free 4 _ rfl) (by decide +kernel) rfl (by decide) rfl) (fun _ _ h => nomatch h) (fun _ _ h => nomatch h)) (se_and rfl (se_call (d_is_row hd).d (hr.mono (j := 3) (Nat.le_of_ble_eq_true rfl)) (tk_of tks) rfl (sac rfl (sv 0 (.inl rfl) rfl rfl rfl) (sac rfl (w_len (hd.free 1 _ rfl) rfl rfl rfl (sv 0 (.inl rfl) rfl rfl rfl)) (sac rfl (w_int) (sac rfl (w_sub (sv 1 (.inl rfl) rfl rfl rfl) (w_int)) (sa_nil))))) rfl rfl rfl (manyE rfl)) (se_and1 (se_call (d_is_rising hd).d (hr.mono (j := 1) (Nat.le_of_ble_eq_true rfl)) (tk_of tks) rfl (sac rfl (sv 0 (.inl rfl) rfl rfl rfl) (sa_nil)) rfl rfl rfl (manyE rfl))))))))
/-! ### check_subset -/
def b_check_subset : S := (.ite (.not ((.call F_is_set (.cons (.var 1) (.cons (.prim (pAttr 0 1) (.cons (.var 0) .nil)) (.nil)))))) ((.raise 1 1 (.cons (.var 1) .nil))) (.skip))
def F_check_subset : Fn := evF 2 b_check_subset
theorem d_check_subset (hd : HDx K mg) : FnG P w K mg base (gg K) 5 "check_subset" 2 F_check_subset := by
  obtain ⟨fd, F⟩ := hd.fn 25 _ rfl
  refine ⟨_, fd, _, fnO_D (N := ["group", "subset"]) F sc_check_subset rfl fun cdv A outer s H E hr tks pod => ?_, (hd.glo 25 _ rfl), F.kp, F.bindsN fun _ _ _ _ _ _ us hl => match us, hl with | [_, _], _ => rfl⟩
  exact (ss_one (s1_if (st_not (t_truth rfl (fun _ => rfl) (se_call (d_is_set hd).d (hr.mono (j := 4) (Nat.le_of_ble_eq_true rfl)) (tk_of tks) rfl (sac rfl (sv 1 (.inl rfl) rfl rfl rfl) (sac rfl (se_attr rfl (He.cls_ok (hd.fact 3 _ rfl)) (He.noat_ok (hd.fact 5 _ rfl)) rfl rfl (sv 0 (.inl rfl) rfl rfl rfl) rfl) (sa_nil))) rfl rfl rfl (manyE rfl)))) ((ss_one (s1_raise (x_InvalidSubset hd rfl rfl) rfl tks (hr.mono (j := 2) (Nat.le_of_ble_eq_true rfl)) rfl (sv 1 (.inl rfl) rfl rfl rfl) (fun _ _ h => nomatch h) rfl))) (ss_nil)))
/-! ### walks_of -/
def B_walks_of_0 : S := ((.seq (.set (.one 8) (.prim pIx (.cons (.prim pIx (.cons (.prim (pAttr 0 0) (.cons (.var 0) .nil)) (.cons (.var 6) .nil))) (.cons (.var 7) .nil))))
  (.seq (.set (.one 9) (.tupE (.cons (.prim pOr (.cons (.var 5) (.cons (.prim pShl (.cons (.lit (.int 1)) (.cons (.var 8) .nil))) .nil))) (.cons (.var 8) (.nil)))))
  (.ite ((.and (.prim pEq (.cons (.prim pAnd (.cons (.prim pShr (.cons (.var 5) (.cons (.var 8) .nil))) (.cons (.lit (.int 1)) .nil))) (.cons (.lit (.int 0)) .nil))) (.prim pDNotIn (.cons (.var 9) (.cons (.var 2) .nil))))) ((.seq (.putD 2 (.var 9) (.tupE (.cons (.tupE (.cons (.var 5) (.cons (.var 6) (.nil)))) (.cons (.var 7) (.nil)))))
  (.app 4 (.var 9)))) (.skip)))))
def L_walks_of_0 : S := .for (.one 7) ((.var 1)) (B_walks_of_0)
def B_walks_of_1 : S := ((L_walks_of_0))
def L_walks_of_1 : S := .for (.tup [5, 6]) ((.var 3)) (B_walks_of_1)
def B_walks_of_2 : S := ((.seq (.own 4 (.lstE (.nil)))
  (.seq (L_walks_of_1)
  (.set (.one 3) (.var 4)))))
def L_walks_of_2 : S := .while (.prim pNe (.cons (.var 3) (.cons (.lstE (.nil)) .nil))) (B_walks_of_2)
def b_walks_of : S := (.seq (.par [(2, true, (.dctE true (.cons (.tupE (.cons (.lit (.int 1)) (.cons (.lit (.int 0)) (.nil)))) (.cons (.lit .non) (.nil))))), (3, false, (.lstE (.cons (.tupE (.cons (.lit (.int 1)) (.cons (.lit (.int 0)) (.nil)))) (.nil))))])
  (.seq (L_walks_of_2)
  (.ret (.keepD 2))))
def F_walks_of : Fn := evF 10 b_walks_of
theorem d_walks_of (hd : HDx K mg) : FnG P w K mg base (gg K) 1 "walks_of" 2 F_walks_of := by
  obtain ⟨fd, F⟩ := hd.fn 26 _ rfl
  refine ⟨_, fd, _, fnO_D (N := ["group", "subset", "came", "level", "longer", "mask", "last", "by", "to", "state"]) F sc_walks_of rfl fun cdv A outer s H E hr tks pod => ?_, (hd.glo 26 _ rfl), F.kp, F.bindsN fun _ _ _ _ _ _ us hl => match us, hl with | [_, _], _ => rfl⟩
  exact (ss_cons (a_par2 2 3 true false sc_walks_of.nd rfl rfl rfl (by decide) rfl rfl rfl rfl rfl rfl (sf_dct (hu1 hr) (sps_cons (se_tup (sac rfl (w_int) (sac rfl (w_int) (sa_nil)))) (w_non) (sps_nil)) rfl rfl (fun h => nomatch h) (by decide)) (SF.se (sf_lst (sac rfl (se_tup (sac rfl (w_int) (sac rfl (w_int) (sa_nil)))) (sa_nil))) rfl))
  (ss_cons (s1_while pod (t_ne (hu65 hr) rfl (sv 3 (.inl rfl) rfl rfl rfl) (SF.se (sf_lst (sa_nil)) rfl)) ((ss_cons (a_ownl 4 sc_walks_of.nd rfl rfl rfl (sf_lst (sa_nil)))
  (ss_cons (s1_for pod rfl (si_any rfl (sv 3 (.inl rfl) rfl rfl rfl) rfl) (tg_pg rfl sc_walks_of.nd rfl (.tup (.cons (nml 5 rfl rfl) (.cons (nml 6 rfl rfl) .nil)))) ((ss_one (s1_for pod rfl (si_any rfl (sv 1 (.inl rfl) rfl rfl rfl) rfl) (tg_pg rfl sc_walks_of.nd rfl (.one (nml 7 rfl rfl))) ((ss_cons (a_setl 8 sc_walks_of.nd rfl rfl rfl (w_ix rfl (fun _ _ => rfl) (w_ix rfl (fun _ _ => rfl) (se_attr rfl (He.cls_ok (hd.fact 3 _ rfl)) (He.noat_ok (hd.fact 4 _ rfl)) rfl rfl (sv 0 (.inl rfl) rfl rfl rfl) rfl) (sv 6 (.inl rfl) rfl rfl rfl)) (sv 7 (.inl rfl) rfl rfl rfl)))
  (ss_cons (a_setl 9 sc_walks_of.nd rfl rfl rfl (se_tup (sac rfl (w_bor (sv 5 (.inl rfl) rfl rfl rfl) (w_shl (w_int) (sv 8 (.inl rfl) rfl rfl rfl))) (sac rfl (sv 8 (.inl rfl) rfl rfl rfl) (sa_nil)))))
  (ss_one (s1_if (w_st (sw_and (t_eq (hu65 hr) rfl (w_band (w_shr (sv 5 (.inl rfl) rfl rfl rfl) (sv 8 (.inl rfl) rfl rfl rfl)) (w_int)) (w_int)) (sw_and1 (t_dnotin (hu65 hr) rfl (sv 9 (.inl rfl) rfl rfl rfl) (sv 2 (.inl rfl) rfl rfl rfl))))) ((ss_cons (s1_putD (hu1 hr) rfl (.inl rfl) rfl rfl (se_tup (sac rfl (se_tup (sac rfl (sv 5 (.inl rfl) rfl rfl rfl) (sac rfl (sv 6 (.inl rfl) rfl rfl rfl) (sa_nil)))) (sac rfl (sv 7 (.inl rfl) rfl rfl rfl) (sa_nil)))) (sv 9 (.inl rfl) rfl rfl rfl) rfl)
  (ss_one (s1_app rfl (.inl rfl) rfl rfl (sv 9 (.inl rfl) rfl rfl rfl) (fun _ _ h => nomatch h) rfl)))) (ss_nil)))))) (fun _ => rfl)))) (fun _ => rfl))
  (ss_one (a_setl 3 sc_walks_of.nd rfl rfl rfl (sv 4 (.inl rfl) rfl rfl rfl)))))))
  (ss_one (s1_ret (svd 2 (.inl rfl) rfl rfl rfl)))))
/-! ### Group.has -/
def b_Group_has : S := (.ret (.call F_is_between (.cons (.var 1) (.cons (.lit (.int 0)) (.cons (.prim pSub (.cons (.prim (pAttr 0 1) (.cons (.var 0) .nil)) (.cons (.lit (.int 1)) .nil))) (.nil))))))
def F_Group_has : Fn := evF 2 b_Group_has
theorem g_Group_has (hd : HDx K mg) : ∃ (fa : Addr) (fd : FuncData) (ps : List Str), FnOk P w K mg base (L2.CX P w) 3 fa fd ps (spD (gg K) 2 F_Group_has) ∧ Meth K (He.ga K "Group") "has" fa ∧ Binds K fd ps [] := by
  obtain ⟨fd, F⟩ := hd.fn 27 _ rfl
  refine ⟨_, fd, _, fnO_D (N := ["self", "value"]) F sc_Group_has rfl fun cdv A outer s H E hr tks pod => ?_, He.meth_ok (hd.fact 10 _ rfl), F.bindsN fun _ _ _ _ _ _ us hl => match us, hl with | [_, _], _ => rfl⟩
  exact (ss_one (s1_ret (se_call (d_is_between hd).d (hr.mono (j := 2) (Nat.le_of_ble_eq_true rfl)) (tk_of tks) rfl (sac rfl (sv 1 (.inl rfl) rfl rfl rfl) (sac rfl (w_int) (sac rfl (w_sub (se_attr rfl (He.cls_ok (hd.fact 3 _ rfl)) (He.noat_ok (hd.fact 5 _ rfl)) rfl rfl (sv 0 (.inl rfl) rfl rfl rfl) rfl) (w_int)) (sa_nil)))) rfl rfl rfl (manyE rfl))))
theorem d_Group_has {X : Cx} (hd : HDx K mg) (hK : X.K = K) (hm : X.mg = mg) : FnM (gg K) X 3 0 "has" 2 F_Group_has := by
  subst hK hm
  exact ⟨(He.cls_ok (hd.fact 3 _ rfl)), rfl, g_Group_has hd⟩
/-! ### Group._check -/
def b_Group__check : S := (.ite (.not ((.call F_Group_has (.cons (.prim (pInst 0) (.cons (.var 0) .nil)) (.cons (.var 1) (.nil)))))) ((.raise 0 1 (.cons (.var 1) .nil))) (.skip))
def F_Group__check : Fn := evF 2 b_Group__check
theorem g_Group__check (hd : HDx K mg) : ∃ (fa : Addr) (fd : FuncData) (ps : List Str), FnOk P w K mg base (L2.CX P w) 4 fa fd ps (spD (gg K) 2 F_Group__check) ∧ Meth K (He.ga K "Group") "_check" fa ∧ Binds K fd ps [] := by
  obtain ⟨fd, F⟩ := hd.fn 28 _ rfl
  refine ⟨_, fd, _, fnO_D (N := ["self", "element"]) F sc_Group__check rfl fun cdv A outer s H E hr tks pod => ?_, He.meth_ok (hd.fact 11 _ rfl), F.bindsN fun _ _ _ _ _ _ us hl => match us, hl with | [_, _], _ => rfl⟩
  exact (ss_one (s1_if (st_not (t_truth rfl (fun _ => rfl) (se_meth (d_Group_has hd rfl rfl) (hr.mono (j := 3) (Nat.le_of_ble_eq_true rfl)) (tk_of tks) (sv 0 (.inl rfl) rfl rfl rfl) (sac rfl (sv 1 (.inl rfl) rfl rfl rfl) (sa_nil)) rfl (manyE rfl) rfl))) ((ss_one (s1_raise (x_InvalidElement hd rfl rfl) rfl tks (hr.mono (j := 2) (Nat.le_of_ble_eq_true rfl)) rfl (sv 1 (.inl rfl) rfl rfl rfl) (fun _ _ h => nomatch h) rfl))) (ss_nil)))
theorem d_Group__check {X : Cx} (hd : HDx K mg) (hK : X.K = K) (hm : X.mg = mg) : FnM (gg K) X 4 0 "_check" 2 F_Group__check := by
  subst hK hm
  exact ⟨(He.cls_ok (hd.fact 3 _ rfl)), rfl, g_Group__check hd⟩
/-! ### Group.inverse -/
def b_Group_inverse : S := (.seq (.expr (.call F_Group__check (.cons (.prim (pInst 0) (.cons (.var 0) .nil)) (.cons (.var 1) (.nil)))))
  (.ret (.prim pIx (.cons (.prim (pAttr 0 2) (.cons (.var 0) .nil)) (.cons (.var 1) .nil)))))
def F_Group_inverse : Fn := evF 2 b_Group_inverse
theorem g_Group_inverse (hd : HDx K mg) : ∃ (fa : Addr) (fd : FuncData) (ps : List Str), FnOk P w K mg base (L2.CX P w) 5 fa fd ps (spD (gg K) 2 F_Group_inverse) ∧ Meth K (He.ga K "Group") "inverse" fa ∧ Binds K fd ps [] := by
  obtain ⟨fd, F⟩ := hd.fn 29 _ rfl
  refine ⟨_, fd, _, fnO_D (N := ["self", "element"]) F sc_Group_inverse rfl fun cdv A outer s H E hr tks pod => ?_, He.meth_ok (hd.fact 12 _ rfl), F.bindsN fun _ _ _ _ _ _ us hl => match us, hl with | [_, _], _ => rfl⟩
  exact (ss_cons (s1_expr (se_meth (d_Group__check hd rfl rfl) (hr.mono (j := 4) (Nat.le_of_ble_eq_true rfl)) (tk_of tks) (sv 0 (.inl rfl) rfl rfl rfl) (sac rfl (sv 1 (.inl rfl) rfl rfl rfl) (sa_nil)) rfl (manyE rfl) rfl) rfl)
  (ss_one (s1_ret (w_ix rfl (fun _ _ => rfl) (se_attr rfl (He.cls_ok (hd.fact 3 _ rfl)) (He.noat_ok (hd.fact 6 _ rfl)) rfl rfl (sv 0 (.inl rfl) rfl rfl rfl) rfl) (sv 1 (.inl rfl) rfl rfl rfl)))))
theorem d_Group_inverse {X : Cx} (hd : HDx K mg) (hK : X.K = K) (hm : X.mg = mg) : FnM (gg K) X 5 0 "inverse" 2 F_Group_inverse := by
  subst hK hm
  exact ⟨(He.cls_ok (hd.fact 3 _ rfl)), rfl, g_Group_inverse hd⟩
/-! ### hamilton -/
def C_hamilton_0 : E := .comp (.one 8) (.wk pRange1 (.cons (.prim (pAttr 0 1) (.cons (.var 0) .nil)) .nil)) ((.and (.prim pDIn (.cons (.tupE (.cons (.var 3) (.cons (.var 8) (.nil)))) (.cons (.var 2) .nil))) (.prim pIn (.cons (.call F_Group_inverse (.cons (.prim (pInst 0) (.cons (.var 0) .nil)) (.cons (.var 8) (.nil)))) (.cons (.var 1) .nil))))) (.var 8)
def B_hamilton_0 : S := ((.seq (.set (.tup [6, 7]) (.prim pDIx (.cons (.var 2) (.cons (.var 6) .nil))))
  (.app 5 (.var 7))))
def L_hamilton_0 : S := .while (.prim pIsNot (.cons (.prim pDIx (.cons (.var 2) (.cons (.var 6) .nil))) (.cons (.lit .non) .nil))) (B_hamilton_0)
def b_hamilton : S := (.seq (.expr (.call F_check_subset (.cons (.var 0) (.cons (.var 1) (.nil)))))
  (.seq (.ite (.prim pGt (.cons (.prim (pAttr 0 1) (.cons (.var 0) .nil)) (.cons (.lit (.int 12)) .nil))) ((.raise 3 1 (.cons (.prim (pAttr 0 1) (.cons (.var 0) .nil)) .nil))) (.skip))
  (.seq (.set (.tup [2, 3]) (.tupE (.cons (.call F_walks_of (.cons (.var 0) (.cons (.var 1) (.nil)))) (.cons (.prim pSub (.cons (.prim pShl (.cons (.lit (.int 1)) (.cons (.prim (pAttr 0 1) (.cons (.var 0) .nil)) .nil))) (.cons (.lit (.int 1)) .nil))) (.nil)))))
  (.seq (.set (.one 4) (C_hamilton_0))
  (.seq (.ite (.prim pEq (.cons (.var 4) (.cons (.lstE (.nil)) .nil))) ((.ret (.lit .non))) (.skip))
  (.seq (.par [(5, true, (.lstE (.cons (.call F_Group_inverse (.cons (.prim (pInst 0) (.cons (.var 0) .nil)) (.cons (.prim pIx (.cons (.var 4) (.cons (.lit (.int 0)) .nil))) (.nil)))) (.nil)))), (6, false, (.tupE (.cons (.var 3) (.cons (.prim pIx (.cons (.var 4) (.cons (.lit (.int 0)) .nil))) (.nil)))))])
  (.seq (L_hamilton_0)
  (.ret (.prim pTuple (.cons (.prim pRev (.cons (.var 5) .nil)) .nil))))))))))
def F_hamilton : Fn := evF 9 b_hamilton
theorem o_hamilton (hd : HDx K mg) : ∃ fd : FuncData, FnOk P w K mg base (L2.CX P w) 6 (He.ga K "hamilton") fd ["group", "subset"] (spD (gg K) 2 F_hamilton) ∧ PySem.W.keepIn K (.ref (He.ga K "hamilton")) = true ∧ Binds K fd ["group", "subset"] [] ∧ KB2 K fd "group" "subset" := by
  obtain ⟨fd, F⟩ := hd.fn 30 _ rfl
  refine ⟨fd, fnO_D (N := ["group", "subset", "came", "full", "ends", "found", "state", "by", "last"]) F sc_hamilton rfl fun cdv A outer s H E hr tks pod => ?_, F.kp, F.bindsN fun _ _ _ _ _ _ us hl => match us, hl with | [_, _], _ => rfl, kb2_of F fun _ _ _ _ _ _ _ _ => rfl⟩
  exact (ss_cons (s1_expr (se_call (d_check_subset hd).d (hr.mono (j := 5) (Nat.le_of_ble_eq_true rfl)) (tk_of tks) rfl (sac rfl (sv 0 (.inr (.inl rfl)) rfl rfl rfl) (sac rfl (sv 1 (.inr (.inl rfl)) rfl rfl rfl) (sa_nil))) rfl rfl rfl (manyE rfl)) rfl)
  (ss_cons (s1_if (t_gt (se_attr rfl (He.cls_ok (hd.fact 3 _ rfl)) (He.noat_ok (hd.fact 5 _ rfl)) rfl rfl (sv 0 (.inr (.inl rfl)) rfl rfl rfl) rfl) (w_gint rfl (hd.int 1 _ rfl) rfl)) ((ss_one (s1_raise (x_TooMany hd rfl rfl) rfl tks (hr.mono (j := 2) (Nat.le_of_ble_eq_true rfl)) rfl (se_attr rfl (He.cls_ok (hd.fact 3 _ rfl)) (He.noat_ok (hd.fact 5 _ rfl)) rfl rfl (sv 0 (.inr (.inl rfl)) rfl rfl rfl) rfl) (fun _ _ h => nomatch h) rfl))) (ss_nil))
  (ss_cons (a_asgT rfl sc_hamilton.nd rfl (.cons (nmc 2 rfl rfl rfl) (.cons (nmc 3 rfl rfl rfl) .nil)) rfl rfl (se_tup (sac rfl (se_call (d_walks_of hd).d (hr.mono (j := 1) (Nat.le_of_ble_eq_true rfl)) (tk_of tks) rfl (sac rfl (sv 0 (.inr (.inl rfl)) rfl rfl rfl) (sac rfl (sv 1 (.inr (.inl rfl)) rfl rfl rfl) (sa_nil))) rfl rfl rfl (manyE rfl)) (sac rfl (w_sub (w_shl (w_int) (se_attr rfl (He.cls_ok (hd.fact 3 _ rfl)) (He.noat_ok (hd.fact 5 _ rfl)) rfl rfl (sv 0 (.inr (.inl rfl)) rfl rfl rfl) rfl)) (w_int)) (sa_nil)))))
  (ss_cons (a_lcSet (i := 4) (own := [("last", 8)]) sc_hamilton.nd rfl rfl rfl rfl (si_range1 rfl (hd.free 2 _ rfl) (se_attr rfl (He.cls_ok (hd.fact 3 _ rfl)) (He.noat_ok (hd.fact 5 _ rfl)) rfl rfl (sv 0 (.inr (.inl rfl)) rfl rfl rfl) rfl) (fun _ _ h => nomatch h)) (blkOk_by rfl) rfl (fun _ _ _ _ _ => tg_pg rfl sc_hamilton.nd rfl (.one (nml 8 rfl rfl))) (fun _ _ _ _ _ => (sts_one (w_st (sw_and (t_din (hu65 hr) rfl (se_tup (sac rfl (sv 3 (.inr (.inl rfl)) rfl rfl rfl) (sac rfl (sv 8 (.inl rfl) rfl rfl rfl) (sa_nil)))) (sv 2 (.inr (.inl rfl)) rfl rfl rfl)) (sw_and1 (t_in (hu65 hr) rfl rfl (se_meth (d_Group_inverse hd rfl rfl) (hr.mono (j := 5) (Nat.le_of_ble_eq_true rfl)) tk_none (sv 0 (.inr (.inl rfl)) rfl rfl rfl) (sac rfl (sv 8 (.inl rfl) rfl rfl rfl) (sa_nil)) rfl (manyE rfl) rfl) (sv 1 (.inr (.inl rfl)) rfl rfl rfl))))))) (fun _ _ _ _ _ => (sv 8 (.inl rfl) rfl rfl rfl)) (fun _ => rfl))
  (ss_cons (s1_if (t_eq (hu65 hr) rfl (sv 4 (.inl rfl) rfl rfl rfl) (SF.se (sf_lst (sa_nil)) rfl)) ((ss_one (s1_ret (w_non)))) (ss_nil))
  (ss_cons (a_par2 5 6 true false sc_hamilton.nd rfl rfl rfl (by decide) rfl rfl rfl rfl rfl rfl (sf_lst (sac rfl (se_meth (d_Group_inverse hd rfl rfl) (hr.mono (j := 5) (Nat.le_of_ble_eq_true rfl)) (tk_of tks) (sv 0 (.inr (.inl rfl)) rfl rfl rfl) (sac rfl (w_ix rfl (fun _ _ => rfl) (sv 4 (.inl rfl) rfl rfl rfl) (w_int)) (sa_nil)) rfl (manyE rfl) rfl) (sa_nil))) (se_tup (sac rfl (sv 3 (.inr (.inl rfl)) rfl rfl rfl) (sac rfl (w_ix rfl (fun _ _ => rfl) (sv 4 (.inl rfl) rfl rfl rfl) (w_int)) (sa_nil)))))
  (ss_cons (s1_while pod (t_isnot (se_dix (hu1 hr) (sv 2 (.inr (.inl rfl)) rfl rfl rfl) (sv 6 (.inl rfl) rfl rfl rfl) (fun _ _ => rfl)) (w_non)) ((ss_cons (a_asgT rfl sc_hamilton.nd rfl (.cons (nml 6 rfl rfl) (.cons (nml 7 rfl rfl) .nil)) rfl rfl (se_dix (hu1 hr) (sv 2 (.inr (.inl rfl)) rfl rfl rfl) (sv 6 (.inl rfl) rfl rfl rfl) (fun _ _ => rfl)))
  (ss_one (s1_app rfl (.inl rfl) rfl rfl (sv 7 (.inl rfl) rfl rfl rfl) (fun _ _ h => nomatch h) rfl)))))
  (ss_one (s1_ret (w_totuple (hd.free 4 _ rfl) rfl rfl rfl (se_rev rfl (sv 5 (.inl rfl) rfl rfl rfl))))))))))))
theorem d_hamilton (hd : HDx K mg) : FnG P w K mg base (gg K) 6 "hamilton" 2 F_hamilton := by
  obtain ⟨fd, h1, h2, h3, h4⟩ := o_hamilton (P := P) (w := w) (base := base) hd
  exact ⟨_, fd, _, h1, (hd.glo 27 _ rfl), h2, h3⟩
theorem k_hamilton (hd : HDx K mg) : FnK P w K mg base (gg K) 6 "hamilton" "group" "subset" F_hamilton := by
  obtain ⟨fd, h1, h2, h3, h4⟩ := o_hamilton (P := P) (w := w) (base := base) hd
  exact ⟨_, fd, h1, (hd.glo 27 _ rfl), h2, h4⟩
/-! ### _law_asked -/
def b__law_asked : S := (.tryS ((.ret (.ite ((.var 2)) (.call (flip2 F_hamilton) (.cons (.var 1) (.cons (.var 0) .nil))) (.call F_hamilton (.cons (.var 0) (.cons (.var 1) (.nil))))))) (.cons (cs_InvalidSubset) (some [.lit (.str "refused"), .fld 0]) (.cons (cs_TooMany) (some [.lit (.str "many"), .fld 0]) .nil)))
def F__law_asked : Fn := evF 4 b__law_asked
theorem d__law_asked (hd : HDx K mg) : FnG P w K mg base (gg K) 7 "_law_asked" 3 F__law_asked := by
  obtain ⟨fd, F⟩ := hd.fn 31 _ rfl
  refine ⟨_, fd, _, fnO_D (N := ["group", "subset", "named", "e"]) F sc__law_asked rfl fun cdv A outer s H E hr tks pod => ?_, (hd.glo 30 _ rfl), F.kp, F.bindsN fun _ _ _ _ _ _ us hl => match us, hl with | [_, _, _], _ => rfl⟩
  exact (ss_one (s1_try (n := "e") (i := 3) rfl rfl sc__law_asked.nd rfl rfl (.inl rfl) rfl rfl tks (fun W pn xe tk po => ((ss_one (s1_ret (se_ite (t_truth rfl (fun _ => rfl) (sv 2 (.inl rfl) rfl rfl rfl)) (se_kw2 (k_hamilton hd) (hr.mono (j := 6) (Nat.le_of_ble_eq_true rfl)) (tk_of tk) rfl (sv 1 (.inl rfl) rfl rfl rfl) (sv 0 (.inl rfl) rfl rfl rfl) rfl rfl rfl) (se_call (d_hamilton hd).d (hr.mono (j := 6) (Nat.le_of_ble_eq_true rfl)) (tk_of tk) rfl (sac rfl (sv 0 (.inl rfl) rfl rfl rfl) (sac rfl (sv 1 (.inl rfl) rfl rfl rfl) (sa_nil))) rfl rfl rfl (manyE rfl))))))) (.cons ⟨rfl, rfl, .inl (hd.glo 29 _ rfl)⟩ (xt_InvalidSubset hd) (.lst (.lit (fun _ => pe_str) (fun _ _ _ _ _ => ⟨rfl, by decide +kernel, by decide +kernel⟩) (fun _ _ h => nomatch h) (.fld (xf_InvalidSubset hd) .nil)) (by decide)) (.cons ⟨rfl, rfl, .inl (hd.glo 28 _ rfl)⟩ (xt_TooMany hd) (.lst (.lit (fun _ => pe_str) (fun _ _ _ _ _ => ⟨rfl, by decide +kernel, by decide +kernel⟩) (fun _ _ h => nomatch h) (.fld (xf_TooMany hd) .nil)) (by decide)) .nil))))
end
end K66
end
section
set_option Elab.async false
set_option linter.all false
set_option maxRecDepth 100000
set_option maxHeartbeats 4000000

/-! K66_4: printed by gen.py. -/
namespace K66
open PySem PySem.Spec PyProof.Rows L2 G
section
variable {P : Program} {w : World} {K : PySem.W.Frag} {mg : Str → Option Value} {base : Heap}
/-! ### _law_is_set -/
def C__law_is_set_0 : E := .comp (.one 2) ((.var 1)) ((.or (.not ((.prim (pIsi 1 [.int]) (.cons (.var 2) .nil)))) (.or ((.prim (pIsi 1 [.bool]) (.cons (.var 2) .nil))) (.not (.chain pLe pLt (.lit (.int 0)) (.var 2) (.var 0)))))) (.var 2)
def C__law_is_set_1 : E := .comp (.one 3) (.wk pRange2 (.cons (.lit (.int 1)) (.cons (.prim pLen (.cons (.var 1) .nil)) .nil))) (.prim pGe (.cons (.prim pIx (.cons (.var 1) (.cons (.prim pSub (.cons (.var 3) (.cons (.lit (.int 1)) .nil))) .nil))) (.cons (.prim pIx (.cons (.var 1) (.cons (.var 3) .nil))) .nil))) (.var 3)
def b__law_is_set : S := (.seq (.ite ((.or (.not ((.prim (pIsi 1 [.tuple]) (.cons (.var 1) .nil)))) (.prim pNe (.cons (C__law_is_set_0) (.cons (.lstE (.nil)) .nil))))) ((.ret (.lit (.bl false)))) (.skip))
  (.ret (.prim pEq (.cons (C__law_is_set_1) (.cons (.lstE (.nil)) .nil)))))
def F__law_is_set : Fn := evF 4 b__law_is_set
theorem d__law_is_set (hd : HDx K mg) : FnG P w K mg base (gg K) 1 "_law_is_set" 2 F__law_is_set := by
  obtain ⟨fd, F⟩ := hd.fn 32 _ rfl
  refine ⟨_, fd, _, fnO_D (N := ["order", "value", "a", "k"]) F sc__law_is_set rfl fun cdv A outer s H E hr tks pod => ?_, (hd.glo 31 _ rfl), F.kp, F.bindsN fun _ _ _ _ _ _ us hl => match us, hl with | [_, _], _ => rfl⟩
  exact (ss_cons (s1_if (w_st (sw_or (st_not (t_truth rfl (fun _ => rfl) (se_isi rfl (ty_ok hd) (kdB_ok (cs := [He.ga K "Group"]) cl_ok (hd.fact 0 _ rfl)) (.ty "tuple") rfl (hd.free 7 _ rfl) (sv 1 (.inr (.inl rfl)) rfl rfl rfl) (pe_bltn rfl (hd.free 4 _ rfl) (by decide +kernel) rfl (by decide) rfl) (fun _ _ h => nomatch h) (fun _ _ h => nomatch h)))) (sw_or1 (t_ne (hu65 hr) rfl (SF.se (sf_comp (own := [("a", 2)]) rfl sc__law_is_set.nd (si_any rfl (sv 1 (.inr (.inl rfl)) rfl rfl rfl) rfl) (blkOk_by rfl) rfl (fun _ _ _ _ _ => tg_pg rfl sc__law_is_set.nd rfl (.one (nml 2 rfl rfl))) (fun _ _ _ _ _ => (sts_one (w_st (sw_or (st_not (t_truth rfl (fun _ => rfl) (se_isi rfl (ty_ok hd) (kdB_ok (cs := [He.ga K "Group"]) cl_ok (hd.fact 1 _ rfl)) (.ty "int") rfl (hd.free 7 _ rfl) (sv 2 (.inl rfl) rfl rfl rfl) (pe_bltn rfl (hd.free 0 _ rfl) (by decide +kernel) rfl (by decide) rfl) (fun _ _ h => nomatch h) (fun _ _ h => nomatch h)))) (sw_or (t_truth rfl (fun _ => rfl) (se_isi rfl (ty_ok hd) (kdB_ok (cs := [He.ga K "Group"]) cl_ok (hd.fact 2 _ rfl)) (.ty "bool") rfl (hd.free 7 _ rfl) (sv 2 (.inl rfl) rfl rfl rfl) (pe_bltn rfl (hd.free 8 _ rfl) (by decide +kernel) rfl (by decide) rfl) (fun _ _ h => nomatch h) (fun _ _ h => nomatch h))) (sw_or1 (st_not (t_chain op_le op_lt pr_le pr_lt rfl (w_int) (sv 2 (.inl rfl) rfl rfl rfl) (sv 0 (.inr (.inl rfl)) rfl rfl rfl))))))))) (fun _ _ _ _ _ => (sv 2 (.inl rfl) rfl rfl rfl)) (fun _ => rfl)) rfl) (SF.se (sf_lst (sa_nil)) rfl))))) ((ss_one (s1_ret (w_bl)))) (ss_nil))
  (ss_one (s1_ret (v_eq (hu65 hr) rfl (SF.se (sf_comp (own := [("k", 3)]) rfl sc__law_is_set.nd (si_range2 rfl (hd.free 2 _ rfl) (w_int) (w_len (hd.free 1 _ rfl) rfl rfl rfl (sv 1 (.inr (.inl rfl)) rfl rfl rfl)) (fun _ _ h => nomatch h) (fun _ _ h => nomatch h)) (blkOk_by rfl) rfl (fun _ _ _ _ _ => tg_pg rfl sc__law_is_set.nd rfl (.one (nml 3 rfl rfl))) (fun _ _ _ _ _ => (sts_one (t_ge (w_ix rfl (fun _ _ => rfl) (sv 1 (.inr (.inl rfl)) rfl rfl rfl) (w_sub (sv 3 (.inl rfl) rfl rfl rfl) (w_int))) (w_ix rfl (fun _ _ => rfl) (sv 1 (.inr (.inl rfl)) rfl rfl rfl) (sv 3 (.inl rfl) rfl rfl rfl))))) (fun _ _ _ _ _ => (sv 3 (.inl rfl) rfl rfl rfl)) (fun _ => rfl)) rfl) (SF.se (sf_lst (sa_nil)) rfl)))))
/-! ### _law_refusals_right -/
def b__law_refusals_right : S := (.seq (.set (.one 4) (.lstE (.cons (.prim pList (.cons (.var 3) .nil)) (.cons (.prim pAdd (.cons (.var 3) (.cons (.tupE (.cons (.var 2) (.nil))) .nil))) (.cons (.prim pAdd (.cons (.tupE (.cons (.prim pNeg (.cons (.lit (.int 1)) .nil)) (.nil))) (.cons (.var 3) .nil))) (.cons (.tupE (.cons (.lit (.int 1)) (.cons (.lit (.int 0)) (.nil)))) (.cons (.prim pAdd (.cons (.var 3) (.cons (.prim (pCut true false) (.cons (.var 3) (.cons (.prim pI (.cons (.prim pNeg (.cons (.lit (.int 1)) .nil)) .nil)) (.cons (.lit .non) .nil)))) .nil))) (.cons (.lit .non) (.cons (.lit (.str "set")) (.cons (.tupE (.cons (.lit (.bl true)) (.nil))) (.cons (.tupE (.cons (.lit .non) (.nil))) (.cons (.tupE (.cons (.lit (.int 0)) (.cons (.lit (.int 0)) (.nil)))) (.nil)))))))))))))
  (.seq (.set (.one 5) (.prim pIx (.cons (.var 4) (.cons (.call F__law_take (.cons (.var 0) (.cons (.prim pLen (.cons (.var 4) .nil)) (.nil)))) .nil))))
  (.seq (.ite ((.and (.not ((.call F__law_is_set (.cons (.var 2) (.cons (.var 5) (.nil)))))) (.not ((.call (F__law_same 4) (.cons (.call F__law_asked (.cons (.var 1) (.cons (.var 5) (.cons (.prim pEq (.cons (.call F__law_take (.cons (.var 0) (.cons (.lit (.int 2)) (.nil)))) (.cons (.lit (.int 0)) .nil))) (.nil))))) (.cons (.lstE (.cons (.lit (.str "refused")) (.cons (.var 5) (.nil)))) (.nil)))))))) ((.ret (.lit (.bl false)))) (.skip))
  (.seq (.set (.one 6) (.prim pIx (.cons (.lstE (.cons (.call F__law_cyclic (.cons (.prim pAdd (.cons (.lit (.int 13)) (.cons (.call F__law_take (.cons (.var 0) (.cons (.lit (.int 12)) (.nil)))) .nil))) (.nil))) (.cons (.call F__law_dihedral (.cons (.prim pAdd (.cons (.lit (.int 7)) (.cons (.call F__law_take (.cons (.var 0) (.cons (.lit (.int 6)) (.nil)))) .nil))) (.nil))) (.cons (.call F__law_dicyclic (.cons (.prim pAdd (.cons (.lit (.int 4)) (.cons (.call F__law_take (.cons (.var 0) (.cons (.lit (.int 3)) (.nil)))) .nil))) (.nil))) (.nil))))) (.cons (.call F__law_take (.cons (.var 0) (.cons (.lit (.int 3)) (.nil)))) .nil))))
  (.seq (.set (.one 7) (.call F__law_group (.cons (.var 6) (.nil))))
  (.seq (.ite (.not ((.call (F__law_same 4) (.cons (.call F__law_asked (.cons (.var 7) (.cons (.tupE (.cons (.lit (.int 24)) (.nil))) (.cons (.lit (.bl false)) (.nil))))) (.cons (.lstE (.cons (.lit (.str "refused")) (.cons (.tupE (.cons (.lit (.int 24)) (.nil))) (.nil)))) (.nil)))))) ((.ret (.lit (.bl false)))) (.skip))
  (.ret (.call (F__law_same 4) (.cons (.call F__law_asked (.cons (.var 7) (.cons (.prim pIx (.cons (.lstE (.cons (.tupE (.cons (.lit (.int 1)) (.nil))) (.cons (.tupE (.nil)) (.cons (.tupE (.cons (.lit (.int 0)) (.cons (.lit (.int 1)) (.nil)))) (.nil))))) (.cons (.call F__law_take (.cons (.var 0) (.cons (.lit (.int 3)) (.nil)))) .nil))) (.cons (.lit (.bl true)) (.nil))))) (.cons (.lstE (.cons (.lit (.str "many")) (.cons (.prim pLen (.cons (.var 6) .nil)) (.nil)))) (.nil)))))))))))
def F__law_refusals_right : Fn := evF 8 b__law_refusals_right
theorem d__law_refusals_right (hd : HDx K mg) : FnG P w K mg base (gg K) 8 "_law_refusals_right" 4 F__law_refusals_right := by
  obtain ⟨fd, F⟩ := hd.fn 33 _ rfl
  refine ⟨_, fd, _, fnO_D (N := ["box", "group", "order", "subset", "menu", "bad", "table", "great"]) F sc__law_refusals_right rfl fun cdv A outer s H E hr tks pod => ?_, (hd.glo 32 _ rfl), F.kp, F.bindsN fun _ _ _ _ _ _ us hl => match us, hl with | [_, _, _, _], _ => rfl⟩
  exact (ss_cons (a_setl 4 sc__law_refusals_right.nd rfl rfl rfl (SF.se (sf_lst (sac rfl (w_tolist (hd.free 3 _ rfl) rfl rfl rfl (sv 3 (.inl rfl) rfl rfl rfl)) (sac rfl (w_add rfl (sv 3 (.inl rfl) rfl rfl rfl) (se_tup (sac rfl (sv 2 (.inl rfl) rfl rfl rfl) (sa_nil)))) (sac rfl (w_add rfl (se_tup (sac rfl (w_neg (w_int)) (sa_nil))) (sv 3 (.inl rfl) rfl rfl rfl)) (sac rfl (se_tup (sac rfl (w_int) (sac rfl (w_int) (sa_nil)))) (sac rfl (w_add rfl (sv 3 (.inl rfl) rfl rfl rfl) (se_cut rfl (sv 3 (.inl rfl) rfl rfl rfl) (.inr ⟨_, _, rfl, rfl, rfl, (w_neg (w_int))⟩) (.inl ⟨rfl, rfl, rfl⟩))) (sac rfl (w_non) (sac rfl (w_str (by decide +kernel) (by decide +kernel)) (sac rfl (se_tup (sac rfl (w_bl) (sa_nil))) (sac rfl (se_tup (sac rfl (w_non) (sa_nil))) (sac rfl (se_tup (sac rfl (w_int) (sac rfl (w_int) (sa_nil)))) (sa_nil)))))))))))) rfl))
  (ss_cons (a_setl 5 sc__law_refusals_right.nd rfl rfl rfl (w_ix rfl (fun _ _ => rfl) (sv 4 (.inl rfl) rfl rfl rfl) (se_call (d__law_take hd).d (hr.mono (j := 1) (Nat.le_of_ble_eq_true rfl)) (tk_of tks) rfl (sac rfl (sv 0 (.inl rfl) rfl rfl rfl) (sac rfl (w_len (hd.free 1 _ rfl) rfl rfl rfl (sv 4 (.inl rfl) rfl rfl rfl)) (sa_nil))) rfl rfl rfl (manyE rfl))))
  (ss_cons (s1_if (w_st (sw_and (st_not (t_truth rfl (fun _ => rfl) (se_call (d__law_is_set hd).d (hr.mono (j := 1) (Nat.le_of_ble_eq_true rfl)) (tk_of tks) rfl (sac rfl (sv 2 (.inl rfl) rfl rfl rfl) (sac rfl (sv 5 (.inl rfl) rfl rfl rfl) (sa_nil))) rfl rfl rfl (manyE rfl)))) (sw_and1 (st_not (t_truth rfl (fun _ => rfl) (se_call (d__law_same hd 4).d (hr.mono (j := 4) (Nat.le_of_ble_eq_true rfl)) (tk_of tks) rfl (sac rfl (se_call (d__law_asked hd).d (hr.mono (j := 7) (Nat.le_of_ble_eq_true rfl)) (tk_of tks) rfl (sac rfl (sv 1 (.inl rfl) rfl rfl rfl) (sac rfl (sv 5 (.inl rfl) rfl rfl rfl) (sac rfl (v_eq (hu65 hr) rfl (se_call (d__law_take hd).d (hr.mono (j := 1) (Nat.le_of_ble_eq_true rfl)) (tk_of tks) rfl (sac rfl (sv 0 (.inl rfl) rfl rfl rfl) (sac rfl (w_int) (sa_nil))) rfl rfl rfl (manyE rfl)) (w_int)) (sa_nil)))) rfl rfl rfl (manyE rfl)) (sac rfl (SF.se (sf_lst (sac rfl (w_str (by decide +kernel) (by decide +kernel)) (sac rfl (sv 5 (.inl rfl) rfl rfl rfl) (sa_nil)))) rfl) (sa_nil))) rfl rfl rfl (manyE rfl))))))) ((ss_one (s1_ret (w_bl)))) (ss_nil))
  (ss_cons (a_setl 6 sc__law_refusals_right.nd rfl rfl rfl (w_ix rfl (fun _ _ => rfl) (SF.se (sf_lst (sac rfl (se_call (d__law_cyclic hd).d (hr.mono (j := 1) (Nat.le_of_ble_eq_true rfl)) (tk_of tks) rfl (sac rfl (w_add rfl (w_int) (se_call (d__law_take hd).d (hr.mono (j := 1) (Nat.le_of_ble_eq_true rfl)) (tk_of tks) rfl (sac rfl (sv 0 (.inl rfl) rfl rfl rfl) (sac rfl (w_int) (sa_nil))) rfl rfl rfl (manyE rfl))) (sa_nil)) rfl rfl rfl (manyE rfl)) (sac rfl (se_call (d__law_dihedral hd).d (hr.mono (j := 1) (Nat.le_of_ble_eq_true rfl)) (tk_of tks) rfl (sac rfl (w_add rfl (w_int) (se_call (d__law_take hd).d (hr.mono (j := 1) (Nat.le_of_ble_eq_true rfl)) (tk_of tks) rfl (sac rfl (sv 0 (.inl rfl) rfl rfl rfl) (sac rfl (w_int) (sa_nil))) rfl rfl rfl (manyE rfl))) (sa_nil)) rfl rfl rfl (manyE rfl)) (sac rfl (se_call (d__law_dicyclic hd).d (hr.mono (j := 1) (Nat.le_of_ble_eq_true rfl)) (tk_of tks) rfl (sac rfl (w_add rfl (w_int) (se_call (d__law_take hd).d (hr.mono (j := 1) (Nat.le_of_ble_eq_true rfl)) (tk_of tks) rfl (sac rfl (sv 0 (.inl rfl) rfl rfl rfl) (sac rfl (w_int) (sa_nil))) rfl rfl rfl (manyE rfl))) (sa_nil)) rfl rfl rfl (manyE rfl)) (sa_nil))))) rfl) (se_call (d__law_take hd).d (hr.mono (j := 1) (Nat.le_of_ble_eq_true rfl)) (tk_of tks) rfl (sac rfl (sv 0 (.inl rfl) rfl rfl rfl) (sac rfl (w_int) (sa_nil))) rfl rfl rfl (manyE rfl))))
  (ss_cons (a_setl 7 sc__law_refusals_right.nd rfl rfl rfl (se_call (d__law_group hd).d (hr.mono (j := 7) (Nat.le_of_ble_eq_true rfl)) (tk_of tks) rfl (sac rfl (sv 6 (.inl rfl) rfl rfl rfl) (sa_nil)) rfl rfl rfl (manyE rfl)))
  (ss_cons (s1_if (st_not (t_truth rfl (fun _ => rfl) (se_call (d__law_same hd 4).d (hr.mono (j := 4) (Nat.le_of_ble_eq_true rfl)) (tk_of tks) rfl (sac rfl (se_call (d__law_asked hd).d (hr.mono (j := 7) (Nat.le_of_ble_eq_true rfl)) (tk_of tks) rfl (sac rfl (sv 7 (.inl rfl) rfl rfl rfl) (sac rfl (se_tup (sac rfl (w_int) (sa_nil))) (sac rfl (w_bl) (sa_nil)))) rfl rfl rfl (manyE rfl)) (sac rfl (SF.se (sf_lst (sac rfl (w_str (by decide +kernel) (by decide +kernel)) (sac rfl (se_tup (sac rfl (w_int) (sa_nil))) (sa_nil)))) rfl) (sa_nil))) rfl rfl rfl (manyE rfl)))) ((ss_one (s1_ret (w_bl)))) (ss_nil))
  (ss_one (s1_ret (se_call (d__law_same hd 4).d (hr.mono (j := 4) (Nat.le_of_ble_eq_true rfl)) (tk_of tks) rfl (sac rfl (se_call (d__law_asked hd).d (hr.mono (j := 7) (Nat.le_of_ble_eq_true rfl)) (tk_of tks) rfl (sac rfl (sv 7 (.inl rfl) rfl rfl rfl) (sac rfl (w_ix rfl (fun _ _ => rfl) (SF.se (sf_lst (sac rfl (se_tup (sac rfl (w_int) (sa_nil))) (sac rfl (se_tup (sa_nil)) (sac rfl (se_tup (sac rfl (w_int) (sac rfl (w_int) (sa_nil)))) (sa_nil))))) rfl) (se_call (d__law_take hd).d (hr.mono (j := 1) (Nat.le_of_ble_eq_true rfl)) (tk_of tks) rfl (sac rfl (sv 0 (.inl rfl) rfl rfl rfl) (sac rfl (w_int) (sa_nil))) rfl rfl rfl (manyE rfl))) (sac rfl (w_bl) (sa_nil)))) rfl rfl rfl (manyE rfl)) (sac rfl (SF.se (sf_lst (sac rfl (w_str (by decide +kernel) (by decide +kernel)) (sac rfl (w_len (hd.free 1 _ rfl) rfl rfl rfl (sv 6 (.inl rfl) rfl rfl rfl)) (sa_nil)))) rfl) (sa_nil))) rfl rfl rfl (manyE rfl))))))))))
/-! ### _law_exists -/
def B__law_exists_0 : S := ((.putD 3 (.tupE (.cons (.prim pShl (.cons (.lit (.int 1)) (.cons (.var 4) .nil))) (.cons (.var 4) (.nil)))) (.lit (.bl true))))
def L__law_exists_0 : S := .for (.one 4) ((.var 1)) (B__law_exists_0)
def B__law_exists_1 : S := ((.seq (.set (.one 9) (.prim pIx (.cons (.prim pIx (.cons (.var 0) (.cons (.var 8) .nil))) (.cons (.var 4) .nil))))
  (.ite (.not ((.prim pAnd (.cons (.prim pShr (.cons (.var 7) (.cons (.var 9) .nil))) (.cons (.lit (.int 1)) .nil))))) ((.putD 6 (.tupE (.cons (.prim pOr (.cons (.var 7) (.cons (.prim pShl (.cons (.lit (.int 1)) (.cons (.var 9) .nil))) .nil))) (.cons (.var 9) (.nil)))) (.lit (.bl true)))) (.skip))))
def L__law_exists_1 : S := .for (.one 4) ((.var 1)) (B__law_exists_1)
def B__law_exists_2 : S := ((.ite (.prim pEq (.cons (.prim pAnd (.cons (.var 7) (.cons (.lit (.int 1)) .nil))) (.cons (.lit (.int 0)) .nil))) ((L__law_exists_1)) (.skip)))
def L__law_exists_2 : S := .for (.tup [7, 8]) ((.keepD 3)) (B__law_exists_2)
def B__law_exists_3 : S := ((.seq (.own 6 (.dctE true .nil))
  (.seq (L__law_exists_2)
  (.set (.one 3) (.keepD 6)))))
def L__law_exists_3 : S := .for (.one 5) (.wk pRange1 (.cons (.prim pSub (.cons (.var 2) (.cons (.lit (.int 1)) .nil))) .nil)) (B__law_exists_3)
def C__law_exists_0 : E := .comp (.one 10) ((.keepD 3)) (.prim pEq (.cons (.prim pIx (.cons (.var 10) (.cons (.lit (.int 1)) .nil))) (.cons (.lit (.int 0)) .nil))) (.var 10)
def b__law_exists : S := (.seq (.set (.one 2) (.prim pLen (.cons (.var 0) .nil)))
  (.seq (.own 3 (.dctE true .nil))
  (.seq (L__law_exists_0)
  (.seq (L__law_exists_3)
  (.ret (.prim pNe (.cons (C__law_exists_0) (.cons (.lstE (.nil)) .nil))))))))
def F__law_exists : Fn := evF 11 b__law_exists
theorem d__law_exists (hd : HDx K mg) : FnG P w K mg base (gg K) 1 "_law_exists" 2 F__law_exists := by
  obtain ⟨fd, F⟩ := hd.fn 34 _ rfl
  refine ⟨_, fd, _, fnO_D (N := ["table", "subset", "order", "level", "g", "turn", "more", "mask", "at", "new", "spot"]) F sc__law_exists rfl fun cdv A outer s H E hr tks pod => ?_, (hd.glo 33 _ rfl), F.kp, F.bindsN fun _ _ _ _ _ _ us hl => match us, hl with | [_, _], _ => rfl⟩
  exact (ss_cons (a_setl 2 sc__law_exists.nd rfl rfl rfl (w_len (hd.free 1 _ rfl) rfl rfl rfl (sv 0 (.inl rfl) rfl rfl rfl)))
  (ss_cons (a_ownl 3 sc__law_exists.nd rfl rfl rfl (sf_new))
  (ss_cons (s1_for pod rfl (si_any rfl (sv 1 (.inl rfl) rfl rfl rfl) rfl) (tg_pg rfl sc__law_exists.nd rfl (.one (nml 4 rfl rfl))) ((ss_one (s1_putD (hu1 hr) rfl (.inl rfl) rfl rfl (w_bl) (se_tup (sac rfl (w_shl (w_int) (sv 4 (.inl rfl) rfl rfl rfl)) (sac rfl (sv 4 (.inl rfl) rfl rfl rfl) (sa_nil)))) rfl))) (fun _ => rfl))
  (ss_cons (s1_for pod rfl (si_range1 rfl (hd.free 2 _ rfl) (w_sub (sv 2 (.inl rfl) rfl rfl rfl) (w_int)) (fun _ _ h => nomatch h)) (tg_pg rfl sc__law_exists.nd rfl (.one (nml 5 rfl rfl))) ((ss_cons (a_ownl 6 sc__law_exists.nd rfl rfl rfl (sf_new))
  (ss_cons (s1_for pod rfl (si_keepD rfl (svd 3 (.inl rfl) rfl rfl rfl)) (tg_pg rfl sc__law_exists.nd rfl (.tup (.cons (nml 7 rfl rfl) (.cons (nml 8 rfl rfl) .nil)))) ((ss_one (s1_if (t_eq (hu65 hr) rfl (w_band (sv 7 (.inl rfl) rfl rfl rfl) (w_int)) (w_int)) ((ss_one (s1_for pod rfl (si_any rfl (sv 1 (.inl rfl) rfl rfl rfl) rfl) (tg_pg rfl sc__law_exists.nd rfl (.one (nml 4 rfl rfl))) ((ss_cons (a_setl 9 sc__law_exists.nd rfl rfl rfl (w_ix rfl (fun _ _ => rfl) (w_ix rfl (fun _ _ => rfl) (sv 0 (.inl rfl) rfl rfl rfl) (sv 8 (.inl rfl) rfl rfl rfl)) (sv 4 (.inl rfl) rfl rfl rfl)))
  (ss_one (s1_if (st_not (t_truth rfl (fun _ => rfl) (w_band (w_shr (sv 7 (.inl rfl) rfl rfl rfl) (sv 9 (.inl rfl) rfl rfl rfl)) (w_int)))) ((ss_one (s1_putD (hu1 hr) rfl (.inl rfl) rfl rfl (w_bl) (se_tup (sac rfl (w_bor (sv 7 (.inl rfl) rfl rfl rfl) (w_shl (w_int) (sv 9 (.inl rfl) rfl rfl rfl))) (sac rfl (sv 9 (.inl rfl) rfl rfl rfl) (sa_nil)))) rfl))) (ss_nil))))) (fun _ => rfl)))) (ss_nil)))) (fun _ => rfl))
  (ss_one (a_setl 3 sc__law_exists.nd rfl rfl rfl (svd 6 (.inl rfl) rfl rfl rfl)))))) (fun _ => rfl))
  (ss_one (s1_ret (v_ne (hu65 hr) rfl (SF.se (sf_comp (own := [("spot", 10)]) rfl sc__law_exists.nd (si_keepD rfl (svd 3 (.inl rfl) rfl rfl rfl)) (blkOk_by rfl) rfl (fun _ _ _ _ _ => tg_pg rfl sc__law_exists.nd rfl (.one (nml 10 rfl rfl))) (fun _ _ _ _ _ => (sts_one (t_eq (hu65 hr) rfl (w_ix rfl (fun _ _ => rfl) (sv 10 (.inl rfl) rfl rfl rfl) (w_int)) (w_int)))) (fun _ _ _ _ _ => (sv 10 (.inl rfl) rfl rfl rfl)) (fun _ => rfl)) rfl) (SF.se (sf_lst (sa_nil)) rfl))))))))
/-! ### _law_subset -/
def C__law_subset_0 : E := .comp (.one 5) (.wk pRange1 (.cons (.var 4) .nil)) (.lit (.bl true)) (.call F__law_take (.cons (.var 0) (.cons (.var 1) (.nil))))
def b__law_subset : S := (.seq (.set (.one 3) (.call F__law_take (.cons (.var 0) (.cons (.lit (.int 6)) (.nil)))))
  (.seq (.ite ((.and (.prim pEq (.cons (.var 3) (.cons (.lit (.int 0)) .nil))) (.prim pLt (.cons (.var 1) (.cons (.lit (.int 9)) .nil))))) ((.ret (.prim pIx (.cons (.lstE (.cons (.tupE (.nil)) (.cons (.prim pRangeT (.cons (.var 1) .nil)) (.cons (.tupE (.cons (.lit (.int 0)) (.nil))) (.nil))))) (.cons (.call F__law_take (.cons (.var 0) (.cons (.lit (.int 3)) (.nil)))) .nil))))) (.skip))
  (.seq (.set (.one 4) (.prim pAdd (.cons (.lit (.int 1)) (.cons (.call F__law_take (.cons (.var 0) (.cons (.ite ((.var 2)) (.lit (.int 2)) (.lit (.int 3))) (.nil)))) .nil))))
  (.ret (.prim pTuple (.cons (.prim pSortSet (.cons (C__law_subset_0) .nil)) .nil))))))
def F__law_subset : Fn := evF 6 b__law_subset
theorem d__law_subset (hd : HDx K mg) : FnG P w K mg base (gg K) 2 "_law_subset" 3 F__law_subset := by
  obtain ⟨fd, F⟩ := hd.fn 35 _ rfl
  refine ⟨_, fd, _, fnO_D (N := ["box", "order", "few", "way", "many", "k"]) F sc__law_subset rfl fun cdv A outer s H E hr tks pod => ?_, (hd.glo 34 _ rfl), F.kp, F.bindsN fun _ _ _ _ _ _ us hl => match us, hl with | [_, _, _], _ => rfl⟩
  exact (ss_cons (a_setl 3 sc__law_subset.nd rfl rfl rfl (se_call (d__law_take hd).d (hr.mono (j := 1) (Nat.le_of_ble_eq_true rfl)) (tk_of tks) rfl (sac rfl (sv 0 (.inr (.inl rfl)) rfl rfl rfl) (sac rfl (w_int) (sa_nil))) rfl rfl rfl (manyE rfl)))
  (ss_cons (s1_if (w_st (sw_and (t_eq (hu65 hr) rfl (sv 3 (.inl rfl) rfl rfl rfl) (w_int)) (sw_and1 (t_lt (sv 1 (.inr (.inl rfl)) rfl rfl rfl) (w_int))))) ((ss_one (s1_ret (w_ix rfl (fun _ _ => rfl) (SF.se (sf_lst (sac rfl (se_tup (sa_nil)) (sac rfl (se_tupleRange rfl rfl (hd.free 4 _ rfl) rfl (hd.free 2 _ rfl) (sv 1 (.inr (.inl rfl)) rfl rfl rfl) (fun _ _ h => nomatch h)) (sac rfl (se_tup (sac rfl (w_int) (sa_nil))) (sa_nil))))) rfl) (se_call (d__law_take hd).d (hr.mono (j := 1) (Nat.le_of_ble_eq_true rfl)) (tk_of tks) rfl (sac rfl (sv 0 (.inr (.inl rfl)) rfl rfl rfl) (sac rfl (w_int) (sa_nil))) rfl rfl rfl (manyE rfl)))))) (ss_nil))
  (ss_cons (a_setl 4 sc__law_subset.nd rfl rfl rfl (w_add rfl (w_int) (se_call (d__law_take hd).d (hr.mono (j := 1) (Nat.le_of_ble_eq_true rfl)) (tk_of tks) rfl (sac rfl (sv 0 (.inr (.inl rfl)) rfl rfl rfl) (sac rfl (se_ite (t_truth rfl (fun _ => rfl) (sv 2 (.inl rfl) rfl rfl rfl)) (w_int) (w_int)) (sa_nil))) rfl rfl rfl (manyE rfl))))
  (ss_one (s1_ret (w_totuple (hd.free 4 _ rfl) rfl rfl rfl (se_sortSet rfl rfl rfl (hd.free 5 _ rfl) rfl (hd.free 12 _ rfl) (SF.se (sf_comp (own := [("k", 5)]) rfl sc__law_subset.nd (si_range1 rfl (hd.free 2 _ rfl) (sv 4 (.inl rfl) rfl rfl rfl) (fun _ _ h => nomatch h)) (blkOk_by rfl) rfl (fun _ _ _ _ _ => tg_pg rfl sc__law_subset.nd rfl (.one (nml 5 rfl rfl))) (fun _ _ _ _ _ => sts_nil) (fun _ _ _ _ _ => (se_call (d__law_take hd).d (hr.mono (j := 1) (Nat.le_of_ble_eq_true rfl)) tk_none rfl (sac rfl (sv 0 (.inr (.inl rfl)) rfl rfl rfl) (sac rfl (sv 1 (.inr (.inl rfl)) rfl rfl rfl) (sa_nil))) rfl rfl rfl (manyE rfl))) (fun _ => rfl)) rfl) (fun _ _ h => nomatch h))))))))
/-! ### _law_walk_right -/
def C__law_walk_right_0 : E := .comp (.one 6) ((.var 2)) ((.or (.not ((.prim (pIsi 1 [.int]) (.cons (.var 6) .nil)))) (.or ((.prim (pIsi 1 [.bool]) (.cons (.var 6) .nil))) (.prim pNotIn (.cons (.var 6) (.cons (.var 1) .nil)))))) (.var 6)
def B__law_walk_right_0 : S := ((.seq (.set (.one 4) (.prim pIx (.cons (.prim pIx (.cons (.var 0) (.cons (.var 4) .nil))) (.cons (.var 6) .nil))))
  (.app 5 (.var 4))))
def L__law_walk_right_0 : S := .for (.one 6) ((.var 2)) (B__law_walk_right_0)
def b__law_walk_right : S := (.seq (.set (.one 3) (.prim pLen (.cons (.var 0) .nil)))
  (.seq (.ite ((.or (.not ((.prim (pIsi 1 [.tuple]) (.cons (.var 2) .nil)))) (.prim pNe (.cons (.prim pLen (.cons (.var 2) .nil)) (.cons (.var 3) .nil))))) ((.ret (.lit (.bl false)))) (.skip))
  (.seq (.ite (.prim pNe (.cons (C__law_walk_right_0) (.cons (.lstE (.nil)) .nil))) ((.ret (.lit (.bl false)))) (.skip))
  (.seq (.par [(4, false, (.lit (.int 0))), (5, true, (.lstE (.nil)))])
  (.seq (L__law_walk_right_0)
  (.ret ((.and (.prim pEq (.cons (.var 4) (.cons (.lit (.int 0)) .nil))) (.prim pEq (.cons (.prim pSortI (.cons (.var 5) .nil)) (.cons (.prim pRange1 (.cons (.var 3) .nil)) .nil)))))))))))
def F__law_walk_right : Fn := evF 7 b__law_walk_right
theorem d__law_walk_right (hd : HDx K mg) : FnG P w K mg base (gg K) 1 "_law_walk_right" 3 F__law_walk_right := by
  obtain ⟨fd, F⟩ := hd.fn 36 _ rfl
  refine ⟨_, fd, _, fnO_D (N := ["table", "subset", "told", "order", "now", "seen", "a"]) F sc__law_walk_right rfl fun cdv A outer s H E hr tks pod => ?_, (hd.glo 35 _ rfl), F.kp, F.bindsN fun _ _ _ _ _ _ us hl => match us, hl with | [_, _, _], _ => rfl⟩
  exact (ss_cons (a_setl 3 sc__law_walk_right.nd rfl rfl rfl (w_len (hd.free 1 _ rfl) rfl rfl rfl (sv 0 (.inl rfl) rfl rfl rfl)))
  (ss_cons (s1_if (w_st (sw_or (st_not (t_truth rfl (fun _ => rfl) (se_isi rfl (ty_ok hd) (kdB_ok (cs := [He.ga K "Group"]) cl_ok (hd.fact 0 _ rfl)) (.ty "tuple") rfl (hd.free 7 _ rfl) (sv 2 (.inl rfl) rfl rfl rfl) (pe_bltn rfl (hd.free 4 _ rfl) (by decide +kernel) rfl (by decide) rfl) (fun _ _ h => nomatch h) (fun _ _ h => nomatch h)))) (sw_or1 (t_ne (hu65 hr) rfl (w_len (hd.free 1 _ rfl) rfl rfl rfl (sv 2 (.inl rfl) rfl rfl rfl)) (sv 3 (.inl rfl) rfl rfl rfl))))) ((ss_one (s1_ret (w_bl)))) (ss_nil))
  (ss_cons (s1_if (t_ne (hu65 hr) rfl (SF.se (sf_comp (own := [("a", 6)]) rfl sc__law_walk_right.nd (si_any rfl (sv 2 (.inl rfl) rfl rfl rfl) rfl) (blkOk_by rfl) rfl (fun _ _ _ _ _ => tg_pg rfl sc__law_walk_right.nd rfl (.one (nml 6 rfl rfl))) (fun _ _ _ _ _ => (sts_one (w_st (sw_or (st_not (t_truth rfl (fun _ => rfl) (se_isi rfl (ty_ok hd) (kdB_ok (cs := [He.ga K "Group"]) cl_ok (hd.fact 1 _ rfl)) (.ty "int") rfl (hd.free 7 _ rfl) (sv 6 (.inl rfl) rfl rfl rfl) (pe_bltn rfl (hd.free 0 _ rfl) (by decide +kernel) rfl (by decide) rfl) (fun _ _ h => nomatch h) (fun _ _ h => nomatch h)))) (sw_or (t_truth rfl (fun _ => rfl) (se_isi rfl (ty_ok hd) (kdB_ok (cs := [He.ga K "Group"]) cl_ok (hd.fact 2 _ rfl)) (.ty "bool") rfl (hd.free 7 _ rfl) (sv 6 (.inl rfl) rfl rfl rfl) (pe_bltn rfl (hd.free 8 _ rfl) (by decide +kernel) rfl (by decide) rfl) (fun _ _ h => nomatch h) (fun _ _ h => nomatch h))) (sw_or1 (t_notin (hu65 hr) rfl rfl (sv 6 (.inl rfl) rfl rfl rfl) (sv 1 (.inr (.inl rfl)) rfl rfl rfl)))))))) (fun _ _ _ _ _ => (sv 6 (.inl rfl) rfl rfl rfl)) (fun _ => rfl)) rfl) (SF.se (sf_lst (sa_nil)) rfl)) ((ss_one (s1_ret (w_bl)))) (ss_nil))
  (ss_cons (a_par2 4 5 false true sc__law_walk_right.nd rfl rfl rfl (by decide) rfl rfl rfl rfl rfl rfl (w_int) (sf_lst (sa_nil)))
  (ss_cons (s1_for pod rfl (si_any rfl (sv 2 (.inl rfl) rfl rfl rfl) rfl) (tg_pg rfl sc__law_walk_right.nd rfl (.one (nml 6 rfl rfl))) ((ss_cons (a_setl 4 sc__law_walk_right.nd rfl rfl rfl (w_ix rfl (fun _ _ => rfl) (w_ix rfl (fun _ _ => rfl) (sv 0 (.inl rfl) rfl rfl rfl) (sv 4 (.inl rfl) rfl rfl rfl)) (sv 6 (.inl rfl) rfl rfl rfl)))
  (ss_one (s1_app rfl (.inl rfl) rfl rfl (sv 4 (.inl rfl) rfl rfl rfl) (fun _ _ h => nomatch h) rfl)))) (fun _ => rfl))
  (ss_one (s1_ret ((se_and rfl (v_eq (hu65 hr) rfl (sv 4 (.inl rfl) rfl rfl rfl) (w_int)) (se_and1 (v_eq (hu65 hr) rfl (w_sortI (hd.free 5 _ rfl) rfl rfl rfl (sv 5 (.inl rfl) rfl rfl rfl)) (se_listRange rfl rfl (hd.free 3 _ rfl) rfl (hd.free 2 _ rfl) (sv 3 (.inl rfl) rfl rfl rfl) (fun _ _ h => nomatch h)))))))))))))
/-! ### _law_right -/
def B__law_right_0 : S := ((.seq (.par [(6, false, (.call F__law_subset (.cons (.var 0) (.cons (.var 4) (.cons (.prim pGt (.cons (.var 4) (.cons (.lit (.int 8)) .nil))) (.nil)))))), (7, false, (.prim pEq (.cons (.call F__law_take (.cons (.var 0) (.cons (.lit (.int 2)) (.nil)))) (.cons (.lit (.int 0)) .nil))))])
  (.seq (.set (.one 8) (.call F__law_asked (.cons (.var 3) (.cons (.var 6) (.cons (.var 7) (.nil))))))
  (.seq (.ite ((.call F__law_exists (.cons (.var 2) (.cons (.var 6) (.nil))))) ((.ite (.not ((.call F__law_walk_right (.cons (.var 2) (.cons (.var 6) (.cons (.var 8) (.nil))))))) ((.ret (.lit (.bl false)))) (.skip))) ((.ite (.prim pIsNot (.cons (.var 8) (.cons (.lit .non) .nil))) ((.ret (.lit (.bl false)))) (.skip))))
  (.ite (.not ((.call (F__law_same 4) (.cons (.call F__law_asked (.cons (.var 3) (.cons (.var 6) (.cons (.not (.var 7)) (.nil))))) (.cons (.var 8) (.nil)))))) ((.ret (.lit (.bl false)))) (.skip))))))
def L__law_right_0 : S := .for (.one 5) (.wk pRange1 (.cons (.ite (.prim pLt (.cons (.var 4) (.cons (.lit (.int 9)) .nil))) (.lit (.int 3)) (.lit (.int 1))) .nil)) (B__law_right_0)
def b__law_right : S := (.seq (.set (.one 1) (.prim pEq (.cons (.call F__law_take (.cons (.var 0) (.cons (.lit (.int 4)) (.nil)))) (.cons (.lit (.int 0)) .nil))))
  (.seq (.set (.one 2) (.call F__law_drawn (.cons (.var 0) (.cons (.ite ((.var 1)) (.lit (.int 12)) (.lit (.int 8))) (.nil)))))
  (.seq (.par [(3, false, (.call F__law_group (.cons (.var 2) (.nil)))), (4, false, (.prim pLen (.cons (.var 2) .nil)))])
  (.seq (L__law_right_0)
  (.ret (.call F__law_refusals_right (.cons (.var 0) (.cons (.var 3) (.cons (.var 4) (.cons (.var 6) (.nil)))))))))))
def F__law_right : Fn := evF 9 b__law_right
theorem d__law_right (hd : HDx K mg) : FnG P w K mg base (gg K) 9 "_law_right" 1 F__law_right := by
  obtain ⟨fd, F⟩ := hd.fn 37 _ rfl
  refine ⟨_, fd, _, fnO_D (N := ["box", "few", "table", "group", "order", "turn", "subset", "named", "told"]) F sc__law_right rfl fun cdv A outer s H E hr tks pod => ?_, (hd.glo 36 _ rfl), F.kp, F.bindsN fun _ _ _ _ _ _ us hl => match us, hl with | [_], _ => rfl⟩
  exact (ss_cons (a_setl 1 sc__law_right.nd rfl rfl rfl (v_eq (hu65 hr) rfl (se_call (d__law_take hd).d (hr.mono (j := 1) (Nat.le_of_ble_eq_true rfl)) (tk_of tks) rfl (sac rfl (sv 0 (.inl rfl) rfl rfl rfl) (sac rfl (w_int) (sa_nil))) rfl rfl rfl (manyE rfl)) (w_int)))
  (ss_cons (a_setl 2 sc__law_right.nd rfl rfl rfl (se_call (d__law_drawn hd).d (hr.mono (j := 3) (Nat.le_of_ble_eq_true rfl)) (tk_of tks) rfl (sac rfl (sv 0 (.inl rfl) rfl rfl rfl) (sac rfl (se_ite (t_truth rfl (fun _ => rfl) (sv 1 (.inl rfl) rfl rfl rfl)) (w_int) (w_int)) (sa_nil))) rfl rfl rfl (manyE rfl)))
  (ss_cons (a_par2 3 4 false false sc__law_right.nd rfl rfl rfl (by decide) rfl rfl rfl rfl rfl rfl (se_call (d__law_group hd).d (hr.mono (j := 7) (Nat.le_of_ble_eq_true rfl)) (tk_of tks) rfl (sac rfl (sv 2 (.inl rfl) rfl rfl rfl) (sa_nil)) rfl rfl rfl (manyE rfl)) (w_len (hd.free 1 _ rfl) rfl rfl rfl (sv 2 (.inl rfl) rfl rfl rfl)))
  (ss_cons (s1_for pod rfl (si_range1 rfl (hd.free 2 _ rfl) (se_ite (t_lt (sv 4 (.inl rfl) rfl rfl rfl) (w_int)) (w_int) (w_int)) (fun _ _ h => nomatch h)) (tg_pg rfl sc__law_right.nd rfl (.one (nml 5 rfl rfl))) ((ss_cons (a_par2 6 7 false false sc__law_right.nd rfl rfl rfl (by decide) rfl rfl rfl rfl rfl rfl (se_call (d__law_subset hd).d (hr.mono (j := 2) (Nat.le_of_ble_eq_true rfl)) (tk_of tks) rfl (sac rfl (sv 0 (.inl rfl) rfl rfl rfl) (sac rfl (sv 4 (.inl rfl) rfl rfl rfl) (sac rfl (v_gt (sv 4 (.inl rfl) rfl rfl rfl) (w_int)) (sa_nil)))) rfl rfl rfl (manyE rfl)) (v_eq (hu65 hr) rfl (se_call (d__law_take hd).d (hr.mono (j := 1) (Nat.le_of_ble_eq_true rfl)) (tk_of tks) rfl (sac rfl (sv 0 (.inl rfl) rfl rfl rfl) (sac rfl (w_int) (sa_nil))) rfl rfl rfl (manyE rfl)) (w_int)))
  (ss_cons (a_setl 8 sc__law_right.nd rfl rfl rfl (se_call (d__law_asked hd).d (hr.mono (j := 7) (Nat.le_of_ble_eq_true rfl)) (tk_of tks) rfl (sac rfl (sv 3 (.inl rfl) rfl rfl rfl) (sac rfl (sv 6 (.inl rfl) rfl rfl rfl) (sac rfl (sv 7 (.inl rfl) rfl rfl rfl) (sa_nil)))) rfl rfl rfl (manyE rfl)))
  (ss_cons (s1_if (t_truth rfl (fun _ => rfl) (se_call (d__law_exists hd).d (hr.mono (j := 1) (Nat.le_of_ble_eq_true rfl)) (tk_of tks) rfl (sac rfl (sv 2 (.inl rfl) rfl rfl rfl) (sac rfl (sv 6 (.inl rfl) rfl rfl rfl) (sa_nil))) rfl rfl rfl (manyE rfl))) ((ss_one (s1_if (st_not (t_truth rfl (fun _ => rfl) (se_call (d__law_walk_right hd).d (hr.mono (j := 1) (Nat.le_of_ble_eq_true rfl)) (tk_of tks) rfl (sac rfl (sv 2 (.inl rfl) rfl rfl rfl) (sac rfl (sv 6 (.inl rfl) rfl rfl rfl) (sac rfl (sv 8 (.inl rfl) rfl rfl rfl) (sa_nil)))) rfl rfl rfl (manyE rfl)))) ((ss_one (s1_ret (w_bl)))) (ss_nil)))) ((ss_one (s1_if (t_isnot (sv 8 (.inl rfl) rfl rfl rfl) (w_non)) ((ss_one (s1_ret (w_bl)))) (ss_nil)))))
  (ss_one (s1_if (st_not (t_truth rfl (fun _ => rfl) (se_call (d__law_same hd 4).d (hr.mono (j := 4) (Nat.le_of_ble_eq_true rfl)) (tk_of tks) rfl (sac rfl (se_call (d__law_asked hd).d (hr.mono (j := 7) (Nat.le_of_ble_eq_true rfl)) (tk_of tks) rfl (sac rfl (sv 3 (.inl rfl) rfl rfl rfl) (sac rfl (sv 6 (.inl rfl) rfl rfl rfl) (sac rfl (se_not rfl (sv 7 (.inl rfl) rfl rfl rfl)) (sa_nil)))) rfl rfl rfl (manyE rfl)) (sac rfl (sv 8 (.inl rfl) rfl rfl rfl) (sa_nil))) rfl rfl rfl (manyE rfl)))) ((ss_one (s1_ret (w_bl)))) (ss_nil))))))) (fun _ => rfl))
  (ss_one (s1_ret (se_call (d__law_refusals_right hd).d (hr.mono (j := 8) (Nat.le_of_ble_eq_true rfl)) (tk_of tks) rfl (sac rfl (sv 0 (.inl rfl) rfl rfl rfl) (sac rfl (sv 3 (.inl rfl) rfl rfl rfl) (sac rfl (sv 4 (.inl rfl) rfl rfl rfl) (sac rfl (sv 6 (.inl rfl) rfl rfl rfl) (sa_nil))))) rfl rfl rfl (manyE rfl))))))))
/-! ### _law_box -/
def b__law_box : S := (.ret (.share (.lstE (.cons (.prim pAbs (.cons (.var 0) .nil)) (.cons (.prim pGe (.cons (.prim pAbs (.cons (.var 0) .nil)) (.cons (.prim pPow (.cons (.lit (.int 10)) (.cons (.lit (.int 18)) .nil))) .nil))) (.cons (.prim pMod (.cons (.prim pInt (.cons (.prim pAbs (.cons (.var 0) .nil)) .nil)) (.cons (.lit (.int 2147483629)) .nil))) (.cons (.lit (.int 0)) (.nil))))))))
def F__law_box : Fn := evF 1 b__law_box
theorem d__law_box (hd : HDx K mg) : FnG P w K mg base (gg K) 1 "_law_box" 1 F__law_box := by
  obtain ⟨fd, F⟩ := hd.fn 38 _ rfl
  refine ⟨_, fd, _, fnO_D (N := ["great"]) F sc__law_box rfl fun cdv A outer s H E hr tks pod => ?_, (hd.glo 37 _ rfl), F.kp, F.bindsN fun _ _ _ _ _ _ us hl => match us, hl with | [_], _ => rfl⟩
  exact (ss_one (s1_ret (se_share (sf_lst (sac rfl (w_abs (hd.free 13 _ rfl) rfl rfl (sv 0 (.inl rfl) rfl rfl rfl)) (sac rfl (v_ge (w_abs (hd.free 13 _ rfl) rfl rfl (sv 0 (.inl rfl) rfl rfl rfl)) (w_pow (w_int) (w_int))) (sac rfl (w_mod (w_toint (hd.free 0 _ rfl) rfl rfl (w_abs (hd.free 13 _ rfl) rfl rfl (sv 0 (.inl rfl) rfl rfl rfl))) (w_int)) (sac rfl (w_int) (sa_nil)))))))))
/-! ### _law_cell -/
def b__law_cell : S := (.ret (.ite (.prim pLt (.cons (.var 1) (.cons (.prim pLen (.cons (.var 0) .nil)) .nil))) (.prim pIx (.cons (.var 0) (.cons (.var 1) .nil))) (.prim pAdd (.cons (.prim pMul (.cons (.lit (.int 6007)) (.cons (.var 1) .nil))) (.cons (.prim pMod (.cons (.prim pInt (.cons (.prim pSum (.cons (.prim (pCut false true) (.cons (.var 0) (.cons (.lit .non) (.cons (.prim pI (.cons (.lit (.int 1)) .nil)) .nil)))) .nil)) .nil)) (.cons (.lit (.int 1000033)) .nil))) .nil)))))
def F__law_cell : Fn := evF 2 b__law_cell
theorem d__law_cell (hd : HDx K mg) : FnG P w K mg base (gg K) 1 "_law_cell" 2 F__law_cell := by
  obtain ⟨fd, F⟩ := hd.fn 39 _ rfl
  refine ⟨_, fd, _, fnO_D (N := ["script", "k"]) F sc__law_cell rfl fun cdv A outer s H E hr tks pod => ?_, (hd.glo 38 _ rfl), F.kp, F.bindsN fun _ _ _ _ _ _ us hl => match us, hl with | [_, _], _ => rfl⟩
  exact (ss_one (s1_ret (se_ite (t_lt (sv 1 (.inl rfl) rfl rfl rfl) (w_len (hd.free 1 _ rfl) rfl rfl rfl (sv 0 (.inl rfl) rfl rfl rfl))) (w_ix rfl (fun _ _ => rfl) (sv 0 (.inl rfl) rfl rfl rfl) (sv 1 (.inl rfl) rfl rfl rfl)) (w_add rfl (w_mul (w_int) (sv 1 (.inl rfl) rfl rfl rfl)) (w_mod (w_toint (hd.free 0 _ rfl) rfl rfl (w_sum (hd.free 14 _ rfl) rfl rfl rfl rfl (se_cut rfl (sv 0 (.inl rfl) rfl rfl rfl) (.inl ⟨rfl, rfl, rfl⟩) (.inr ⟨_, _, rfl, rfl, rfl, (w_int)⟩)))) (w_int))))))
end
end K66
end
section
set_option Elab.async false
set_option linter.all false
set_option maxRecDepth 100000
set_option maxHeartbeats 4000000

/-! K66_5: printed by gen.py. -/
namespace K66
open PySem PySem.Spec PyProof.Rows L2 G
section
variable {P : Program} {w : World} {K : PySem.W.Frag} {mg : Str → Option Value} {base : Heap}
/-! ### law -/
def B_law_0 : S := ((.ite (.not ((.call F__law_right (.cons (.call F__law_box (.cons (.call F__law_cell (.cons (.var 0) (.cons (.var 1) (.nil)))) (.nil))) (.nil))))) ((.ret (.lit (.bl false)))) (.skip)))
def L_law_0 : S := .for (.one 1) (.wk pRange1 (.cons (.lit (.int 2)) .nil)) (B_law_0)
def b_law : S := (.seq (L_law_0)
  (.ret (.lit (.bl true))))
def F_law : Fn := evF 2 b_law
theorem o_law (hd : HDx K mg) : ∃ fd : FuncData, (∀ base : Heap, FnOk P w K mg base (L2.CX P w) 10 (He.ga K "law") fd ["script"] (spD (gg K) 1 F_law)) ∧ ∀ (s : Shared) (u : Value), BindsTo s fd ⟨[u], []⟩ [("script", u)] := by
  obtain ⟨fd, F⟩ := hd.fn 40 _ rfl
  refine ⟨fd, fun base => fnO_D (N := ["script", "k"]) F sc_law rfl fun cdv A outer s H E hr tks pod => ?_, fun s u => F.bindsA (ps := ["script"]) (fun _ _ _ _ _ _ us hl => match us, hl with | [_], _ => rfl) s [u] rfl⟩
  exact (ss_cons (s1_for pod rfl (si_range1 rfl (hd.free 2 _ rfl) (w_int) (fun _ _ h => nomatch h)) (tg_pg rfl sc_law.nd rfl (.one (nml 1 rfl rfl))) ((ss_one (s1_if (st_not (t_truth rfl (fun _ => rfl) (se_call (d__law_right hd).d (hr.mono (j := 9) (Nat.le_of_ble_eq_true rfl)) (tk_of tks) rfl (sac rfl (se_call (d__law_box hd).d (hr.mono (j := 1) (Nat.le_of_ble_eq_true rfl)) (tk_of tks) rfl (sac rfl (se_call (d__law_cell hd).d (hr.mono (j := 1) (Nat.le_of_ble_eq_true rfl)) (tk_of tks) rfl (sac rfl (sv 0 (.inl rfl) rfl rfl rfl) (sac rfl (sv 1 (.inl rfl) rfl rfl rfl) (sa_nil))) rfl rfl rfl (manyE rfl)) (sa_nil)) rfl rfl rfl (manyE rfl)) (sa_nil)) rfl rfl rfl (manyE rfl)))) ((ss_one (s1_ret (w_bl)))) (ss_nil)))) (fun _ => rfl))
  (ss_one (s1_ret (w_bl))))
end
end K66
end
section
set_option Elab.async false
set_option linter.all false
set_option maxRecDepth 100000
set_option maxHeartbeats 0
/-! K66_E: the head. -/
namespace K66
open PySem PySem.Spec PyProof.Rows L2 G
def loose0 : List Str := [("_wall" : Str), ("__name__" : Str), ("GroupError" : Str), ("InvalidElement" : Str), ("InvalidSubset" : Str), ("InvalidTable" : Str), ("TooMany" : Str), ("is_integer" : Str), ("is_between" : Str), ("is_tuple_of" : Str), ("is_row" : Str), ("is_rising" : Str), ("is_set" : Str), ("MOST_ELEMENTS" : Str), ("is_table" : Str), ("is_moved" : Str), ("is_apart" : Str), ("inverses_of" : Str), ("first_apart" : Str), ("fault_of" : Str), ("Group" : Str), ("check_subset" : Str), ("MOST_WALKED" : Str), ("walks_of" : Str), ("hamilton" : Str), ("_law_cell" : Str), ("_law_box" : Str), ("_law_take" : Str), ("_law_same" : Str), ("_law_by_permutations" : Str)]
def loose1 : List Str := [("_law_table" : Str), ("_law_cyclic" : Str), ("_law_dihedral" : Str), ("_law_dicyclic" : Str), ("_law_direct" : Str), ("_law_renamed" : Str), ("_law_mixed" : Str), ("_law_drawn" : Str), ("_law_group" : Str), ("_law_exists" : Str), ("_law_walk_right" : Str), ("_law_subset" : Str), ("_law_asked" : Str), ("_law_is_set" : Str), ("_law_refusals_right" : Str), ("_law_right" : Str)]
def loose : List Str := loose0 ++ loose1
abbrev R : PySem.W.OpenRow := PySem.W.OpenLaw.row PySem.Challenge.rw_groupbench_k66_hamilton_walks
abbrev hk : PySem.W.Hook := hookP frees glos nums fns fs 6
def ob (s : PySem.W.SharedT) : He.AlD := obsPG frees glos nums fns fs 6 (HandSHeadRun.getT s)
theorem ob_eq (s : PySem.W.SharedT) : ob s = hk.obs s.abs := by
  have e : HandSHeadRun.getT s = s.abs.heap.get? := funext (HandSHeadRun.getT_eq s)
  show obsPG frees glos nums fns fs 6 (HandSHeadRun.getT s) = obsPG frees glos nums fns fs 6 s.abs.heap.get?
  rw [e]
theorem run (w : World) : HandSHeadRun.RunEq R (PySem.W.view R.prog [52]) hk ob 6000 loose w := by
  intro os
  kernel_rfl
end K66
end
section
set_option Elab.async false
set_option linter.all false
set_option maxRecDepth 100000
set_option maxHeartbeats 0
/-! K66_Z: from the plain law to the statement. -/
namespace K66
open PySem PySem.Spec PyProof.Rows L2 G
theorem law_sp {K : PySem.W.Frag} (plain : ∀ ns : List Int, ns.length ≤ 63 → ∃ hp, F_law [.scr ns] [] = .ok (.bl true) hp) (H : Hp) (a : Addr) (ns : List Int) (hl : ns.length ≤ 63) (hO : Only H) (hS : SqL K H a (ns.map V.int)) :
    spD (gg K) 1 F_law [.ref a] H (fun v _ => v = .bl true) fun _ _ _ => False := by
  have hs : ScrAt K H a (ns.map V.int) := by
    rcases hS with (h | h) | h
    · rcases hO a with q | ⟨o, xs, q⟩
      · rw [q] at h; cases h
      · rw [q] at h; cases h
    · exact .inl h
    · exact .inr h
  refine ⟨rfl, fun _ => False, [], [], [.scr ns], fun _ h => h.elim, fun _ h => (List.not_mem_nil h).elim, List.nodup_nil, rfl, fun k b c h _ => (by simp at h), ⟨_, _, rfl, ⟨a, rfl, hs⟩, rfl⟩, ?_⟩
  obtain ⟨hp, e⟩ := plain ns hl
  rw [e]
  intro v H' m' _ r
  exact r
end K66
open PySem PySem.W PySem.Calls PyProof.Rows
theorem K66.holds_of (plain : ∀ ns : List Int, ns.length ≤ 63 → ∃ hp, K66.F_law [.scr ns] [] = .ok (.bl true) hp) : PySem.Challenge.rw_groupbench_k66_hamilton_walks.Holds := by
  w_on; o_law
  refine HandSHeadRun.head_any (r := OpenLaw.row PySem.Challenge.rw_groupbench_k66_hamilton_walks) (q := view (OpenLaw.row PySem.Challenge.rw_groupbench_k66_hamilton_walks).prog [52]) (H := K66.hk) (ob := K66.ob) (M := 6000) (loose := K66.loose) (d := HandSHeadRun.topDef (OpenLaw.row PySem.Challenge.rw_groupbench_k66_hamilton_walks).prog 52) (kwd := []) K66.ob_eq
    (by kernel_rfl) (fun s => by kernel_rfl) K66.run (by kernel_rfl) (by kernel_rfl) (by kernel_rfl) (by rfl) (by first | assumption | decide +kernel) (by decide +kernel) ⟨rfl, rfl, rfl, rfl, rfl, by decide +kernel⟩ ?hw ?hc
  case hw => w_witness2
  case hc =>
    refine G.walk_w (l := PySem.Challenge.rw_groupbench_k66_hamilton_walks) (n := 63) (k := 10) (x := "script") (CX := fun w => L2.CX (PySem.Challenge.rw_groupbench_k66_hamilton_walks).prog w) rfl (by decide) (by kernel_rfl) ⟨rfl, by decide, by decide⟩ ?F (fun _ _ _ _ _ ⟨_, _, _, _, _, _, _, _, _, _, _, _, z⟩ => z)
    intro w mg fa h Y G hmg0
    obtain ⟨K, KX, c⟩ := Y
    have hd := _root_.G.hd_of KX G c
    have hmg : mg ("law" : PySem.Str) = some (.ref fa) := by
      have e : (HandSHeadRun.topDef (OpenLaw.row PySem.Challenge.rw_groupbench_k66_hamilton_walks).prog 52).name = ("law" : PySem.Str) := by kernel_rfl
      rw [← e]
      exact hmg0
    have e := hmg.symm.trans (hd.glo 39 ("law" : PySem.Str) rfl)
    cases e
    obtain ⟨fd, F, hb⟩ := K66.o_law (P := (PySem.Challenge.rw_groupbench_k66_hamilton_walks).prog) (w := w) hd
    exact ⟨K, fd, _, KX, hb, fun H a ns hl hO hS => K66.law_sp plain H a ns hl hO hS, fun base _ _ => F base⟩
end
section
set_option Elab.async false
set_option linter.all false
set_option maxRecDepth 100000
/-! PA: the package's small defs, in plain Lean. -/
namespace K66
open G
/-- plain data: no cell, instance, dict, script -/
def plainD : D → Bool
  | .ref _ => false
  | .scr _ => false
  | .dct _ _ _ => false
  | .ins _ _ => false
  | _ => true
def btw (a b : Int) : D → Bool
  | .int i => decide (a ≤ i) && decide (i ≤ b)
  | _ => false
def isI : D → Bool
  | .int _ => true
  | _ => false
theorem is_integer {d : D} (h : plainD d = true) (hp : List D) : F_is_integer [d] hp = .ok (.bl (isI d)) hp := by
  cases d <;> first
    | rfl
    | cases h
theorem is_between {d : D} (h : plainD d = true) (a b : Int) (hp : List D) : F_is_between [d, .int a, .int b] hp = .ok (.bl (btw a b d)) hp := by
  have e := is_integer h hp
  cases d with
  | int i =>
    simp [F_is_between, b_is_between, evF, r_ok, r_exn, r_to, r_toX, e_lit, e_val, e_nil, e_cons, e_tup, e_lst, e_prim, e_wk, e_call, e_chain, e_and, e_or, e_not, e_ite, e_dct, e_share, e_test, s_skip, s_seq, s_set, s_own, s_expr, s_ret, s_retN, s_ite, truth, view, setTg, E.np, e_ownL, e_ownN, e_lockN, s_par, p_nil, p_cons, e, isI, btw, pLe]
    by_cases h1 : a ≤ i <;> by_cases h2 : i ≤ b <;> simp [h1, h2, evF, r_ok, r_exn, r_to, r_toX, e_lit, e_val, e_nil, e_cons, e_tup, e_lst, e_prim, e_wk, e_call, e_chain, e_and, e_or, e_not, e_ite, e_dct, e_share, e_test, s_skip, s_seq, s_set, s_own, s_expr, s_ret, s_retN, s_ite, truth, view, setTg, E.np, e_ownL, e_ownN, e_lockN, s_par, p_nil, p_cons]
  | ref _ => cases h
  | scr _ => cases h
  | dct _ _ _ => cases h
  | ins _ _ => cases h
  | _ => simp [F_is_between, b_is_between, evF, r_ok, r_exn, r_to, r_toX, e_lit, e_val, e_nil, e_cons, e_tup, e_lst, e_prim, e_wk, e_call, e_chain, e_and, e_or, e_not, e_ite, e_dct, e_share, e_test, s_skip, s_seq, s_set, s_own, s_expr, s_ret, s_retN, s_ite, truth, view, setTg, E.np, e_ownL, e_ownN, e_lockN, s_par, p_nil, p_cons, e, isI, btw]
theorem boolsD_map {α : Type} (p : α → Bool) : ∀ xs : List α, boolsD (xs.map fun a => .bl (p a)) = some (xs.map p)
  | [] => rfl
  | x :: xs => by
    show (boolsD (xs.map fun a => .bl (p a))).map (fun l => p x :: l) = _
    rw [boolsD_map p xs]
    rfl
theorem all_map {α : Type} (p : α → Bool) : ∀ xs : List α, (xs.map p).all id = xs.all p
  | [] => rfl
  | x :: xs => by
    rw [List.map_cons, List.all_cons, all_map p xs]
    rfl
theorem is_row {xs : List D} (h : ∀ d ∈ xs, plainD d = true) (hl : xs.length ≤ big) (n : Nat) (a b : Int) (hp : List D) : F_is_row [.tup xs, .int n, .int a, .int b] hp = .ok (.bl (decide (xs.length = n) && xs.all (btw a b))) hp := by
  have e1 : F_is_tuple_of [.tup xs, .int n] hp = .ok (.bl (decide (xs.length = n))) hp := by
    simp [F_is_tuple_of, b_is_tuple_of, evF, r_ok, r_exn, r_to, r_toX, e_lit, e_val, e_nil, e_cons, e_tup, e_lst, e_prim, e_wk, e_call, e_chain, e_and, e_or, e_not, e_ite, e_dct, e_share, e_test, s_skip, s_seq, s_set, s_own, s_expr, s_ret, s_retN, s_ite, truth, view, setTg, E.np, e_ownL, e_ownN, e_lockN, s_par, p_nil, p_cons, pIsi, isKd, pLen, lenD, pEq, flat, eqb]
    by_cases e : xs.length = n <;> simp [e]
    omega
  by_cases e : xs.length = n
  · have c : ∀ pk, evE pk C_is_row_0 ⟨[.val (.tup xs), .val (.int n), .val (.int a), .val (.int b), .no], hp⟩ = .ok [.lst (xs.map fun d => .bl (btw a b d))] ⟨[.val (.tup xs), .val (.int n), .val (.int a), .val (.int b), .no], hp⟩ := fun pk => e_comp (xs := xs.map id) (e_val rfl) (by rw [List.map_id]; exact items_tup hl) rfl
      (compL_map id (fun d => .bl (btw a b d)) _ hp xs fun d hd => by simp [body1, lockE, wipeE, Slot.locked, Tg.ix, evF, r_ok, r_exn, r_to, r_toX, e_lit, e_val, e_nil, e_cons, e_tup, e_lst, e_prim, e_wk, e_call, e_chain, e_and, e_or, e_not, e_ite, e_dct, e_share, e_test, s_skip, s_seq, s_set, s_own, s_expr, s_ret, s_retN, s_ite, truth, view, setTg, E.np, e_ownL, e_ownN, e_lockN, s_par, p_nil, p_cons, is_between (h d hd)])
    simp [F_is_row, b_is_row, evF, r_ok, r_exn, r_to, r_toX, e_lit, e_val, e_nil, e_cons, e_tup, e_lst, e_prim, e_wk, e_call, e_chain, e_and, e_or, e_not, e_ite, e_dct, e_share, e_test, s_skip, s_seq, s_set, s_own, s_expr, s_ret, s_retN, s_ite, truth, view, setTg, E.np, e_ownL, e_ownN, e_lockN, s_par, p_nil, p_cons, e1, c, e, pAll, boolsD_map, all_map]
  · simp [F_is_row, b_is_row, evF, r_ok, r_exn, r_to, r_toX, e_lit, e_val, e_nil, e_cons, e_tup, e_lst, e_prim, e_wk, e_call, e_chain, e_and, e_or, e_not, e_ite, e_dct, e_share, e_test, s_skip, s_seq, s_set, s_own, s_expr, s_ret, s_retN, s_ite, truth, view, setTg, E.np, e_ownL, e_ownN, e_lockN, s_par, p_nil, p_cons, e1, e]
end K66
end
section
set_option Elab.async false
set_option linter.all false
set_option maxRecDepth 100000
/-! PB: tables, groups. -/
namespace K66
open G
/-- a row of a table -/
def ro (T : List (List Nat)) (a : Nat) : List Nat := T.getD a []
def tab (T : List (List Nat)) (a b : Nat) : Nat := (ro T a).getD b 0
abbrev rowT (r : List Nat) : D := .tup (dl r)
def tabT (T : List (List Nat)) : D := .tup (T.map fun r => .tup (dl r))
def tabL (T : List (List Nat)) : D := .lst (T.map fun r => .lst (dl r))
/-- a square table of so many rows -/
structure Tb (n : Nat) (T : List (List Nat)) : Prop where
  len : T.length = n
  row : ∀ a, a < n → (ro T a).length = n
  lt : ∀ a b, a < n → b < n → tab T a b < n
structure Grp (n : Nat) (T : List (List Nat)) : Prop extends Tb n T where
  pos : 1 ≤ n
  le : n ≤ 24
  id1 : ∀ a, a < n → tab T 0 a = a
  id2 : ∀ a, a < n → tab T a 0 = a
  assoc : ∀ a b c, a < n → b < n → c < n → tab T (tab T a b) c = tab T a (tab T b c)
  inv : ∀ a, a < n → ∃ b, b < n ∧ tab T a b = 0 ∧ tab T b a = 0
theorem getD_map {α β : Type} (f : α → β) (l : List α) (k : Nat) (x : α) (h : k < l.length) : (l.map f)[k]? = some (f (l.getD k x)) := by
  rw [List.getElem?_map, List.getD_eq_getElem?_getD, List.getElem?_eq_getElem h]
  rfl
theorem big24 {n : Nat} (h : n ≤ 24) : n ≤ big := Nat.le_trans h (by decide)
section
variable {n : Nat} {T : List (List Nat)} {hp : List D}
theorem ixT (h : Tb n T) {a : Nat} (ha : a < n) : pIx hp [tabT T, .int (a : Int)] = some (rowT (ro T a)) := by
  have e : a < (T.map fun r => D.tup (dl r)).length := by rw [List.length_map, h.len]; exact ha
  simp only [pIx, view, tabT, ixD]
  rw [ixOf_nat e]
  exact getD_map _ T a [] (by rw [h.len]; exact ha)
theorem ixR (h : Tb n T) {a b : Nat} (ha : a < n) (hb : b < n) : pIx hp [rowT (ro T a), .int (b : Int)] = some (dn (tab T a b)) := by
  have e : b < (dl (ro T a)).length := by rw [dl_len, h.row a ha]; exact hb
  simp only [pIx, view, ixD]
  rw [ixOf_nat e]
  exact getD_map _ _ b 0 (by rw [h.row a ha]; exact hb)
theorem ixT0 (h : Tb n T) (ha : 0 < n) : pIx hp [tabT T, .int 0] = some (rowT (ro T 0)) := ixT (a := 0) h ha
theorem ixR0 (h : Tb n T) {a : Nat} (ha : a < n) (hb : 0 < n) : pIx hp [rowT (ro T a), .int 0] = some (dn (tab T a 0)) := ixR (b := 0) h ha hb
theorem lenT (h : Tb n T) : pLen hp [tabT T] = some (dn n) := by
  simp [pLen, view, tabT, lenD, h.len]
theorem neN (a b : Nat) : pNe hp [.int (a : Int), .int (b : Int)] = some (.bl (!decide (a = b))) := by
  simp only [pNe, flat, Bool.and_self, if_true]
  rw [eqb_dn]
theorem eqN (a b : Nat) : pEq hp [.int (a : Int), .int (b : Int)] = some (.bl (decide (a = b))) := by
  simp only [pEq, flat, Bool.and_self, if_true]
  rw [eqb_dn]
theorem eqN0 (a : Nat) : pEq hp [.int (a : Int), .int 0] = some (.bl (decide (a = 0))) := eqN a 0
theorem is_moved (g : Grp n T) {e : Nat} (he : e < n) : F_is_moved [tabT T, .int (e : Int)] hp = .ok (.bl false) hp := by
  have h0 := g.pos
  simp [F_is_moved, b_is_moved, evF, r_ok, r_exn, r_to, r_toX, e_lit, e_val, e_nil, e_cons, e_tup, e_lst, e_prim, e_wk, e_call, e_chain, e_and, e_or, e_not, e_ite, e_dct, e_share, e_test, s_skip, s_seq, s_set, s_own, s_expr, s_ret, s_retN, s_ite, truth, view, setTg, E.np, e_ownL, e_ownN, e_lockN, s_par, p_nil, p_cons, ixT0 g.toTb h0, ixT g.toTb he, ixR g.toTb h0 he, ixR0 g.toTb he h0, neN, g.id1 e he, g.id2 e he]
theorem is_apart (g : Grp n T) {a b c : Nat} (ha : a < n) (hb : b < n) (hc : c < n) : F_is_apart [tabT T, .int (a : Int), .int (b : Int), .int (c : Int)] hp = .ok (.bl false) hp := by
  have h1 := g.lt a b ha hb
  have h2 := g.lt b c hb hc
  simp [F_is_apart, b_is_apart, evF, r_ok, r_exn, r_to, r_toX, e_lit, e_val, e_nil, e_cons, e_tup, e_lst, e_prim, e_wk, e_call, e_chain, e_and, e_or, e_not, e_ite, e_dct, e_share, e_test, s_skip, s_seq, s_set, s_own, s_expr, s_ret, s_retN, s_ite, truth, view, setTg, E.np, e_ownL, e_ownN, e_lockN, s_par, p_nil, p_cons, ixT g.toTb ha, ixT g.toTb hb, ixR g.toTb ha hb, ixR g.toTb hb hc, ixT g.toTb h1, ixR g.toTb h1 hc, ixR g.toTb ha h2, neN, g.assoc a b c ha hb hc]
theorem g_big (g : Grp n T) : n ≤ big := big_of g.le
theorem rl (g : Grp n T) : (List.range n).length ≤ big := rng_len (g_big g)
theorem first_apart (g : Grp n T) : F_first_apart [tabT T, .lst (dl (List.range n))] hp = .ok .non hp := by
  have l0 : ∀ (a b : Nat) (s5 : Slot), a < n → b < n → ∃ z', evS L_first_apart_0 ⟨[.val (tabT T), .val (.lst (dl (List.range n))), .val (.lst (dl (List.range n))), .val (.int (a : Int)), .val (.int (b : Int)), s5], hp⟩ = .next z' ∧
      ∃ s5, z' = ⟨[.val (tabT T), .val (.lst (dl (List.range n))), .val (.lst (dl (List.range n))), .val (.int (a : Int)), .val (.int (b : Int)), s5], hp⟩ := fun a b s5 ha hb =>
    for_fold (β := Unit) dn (fun _ z => ∃ s5, z = ⟨[.val (tabT T), .val (.lst (dl (List.range n))), .val (.lst (dl (List.range n))), .val (.int (a : Int)), .val (.int (b : Int)), s5], hp⟩) (fun _ _ => ()) (List.range n) () (e_val rfl) (items_dn (rl g)) ⟨s5, rfl⟩ fun c _ z hc hz => by
      obtain ⟨s5, rfl⟩ := hz
      exact ⟨_, _, rfl, .inl (by simp [B_first_apart_0, evF, r_ok, r_exn, r_to, r_toX, e_lit, e_val, e_nil, e_cons, e_tup, e_lst, e_prim, e_wk, e_call, e_chain, e_and, e_or, e_not, e_ite, e_dct, e_share, e_test, s_skip, s_seq, s_set, s_own, s_expr, s_ret, s_retN, s_ite, truth, view, setTg, E.np, e_ownL, e_ownN, e_lockN, s_par, p_nil, p_cons, is_apart g ha hb (List.mem_range.mp hc)]; rfl), _, rfl⟩
  have l1 : ∀ (a : Nat) (s4 s5 : Slot), a < n → ∃ z', evS L_first_apart_1 ⟨[.val (tabT T), .val (.lst (dl (List.range n))), .val (.lst (dl (List.range n))), .val (.int (a : Int)), s4, s5], hp⟩ = .next z' ∧
      ∃ s4 s5, z' = ⟨[.val (tabT T), .val (.lst (dl (List.range n))), .val (.lst (dl (List.range n))), .val (.int (a : Int)), s4, s5], hp⟩ := fun a s4 s5 ha =>
    for_fold (β := Unit) dn (fun _ z => ∃ s4 s5, z = ⟨[.val (tabT T), .val (.lst (dl (List.range n))), .val (.lst (dl (List.range n))), .val (.int (a : Int)), s4, s5], hp⟩) (fun _ _ => ()) (List.range n) () (e_val rfl) (items_dn (rl g)) ⟨s4, s5, rfl⟩ fun c _ z hc hz => by
      obtain ⟨s4, s5, rfl⟩ := hz
      obtain ⟨z', e, s5', rfl⟩ := l0 a c s5 ha (List.mem_range.mp hc)
      exact ⟨_, _, rfl, .inl e, _, _, rfl⟩
  obtain ⟨z', e, s3, s4, s5, rfl⟩ : ∃ z', evS L_first_apart_2 ⟨[.val (tabT T), .val (.lst (dl (List.range n))), .val (.lst (dl (List.range n))), .no, .no, .no], hp⟩ = .next z' ∧
      ∃ s3 s4 s5, z' = ⟨[.val (tabT T), .val (.lst (dl (List.range n))), .val (.lst (dl (List.range n))), s3, s4, s5], hp⟩ :=
    for_fold (β := Unit) dn (fun _ z => ∃ s3 s4 s5, z = ⟨[.val (tabT T), .val (.lst (dl (List.range n))), .val (.lst (dl (List.range n))), s3, s4, s5], hp⟩) (fun _ _ => ()) (List.range n) () (e_val rfl) (items_dn (rl g)) ⟨_, _, _, rfl⟩ fun c _ z hc hz => by
      obtain ⟨s3, s4, s5, rfl⟩ := hz
      obtain ⟨z', e, s4', s5', rfl⟩ := l1 c s4 s5 (List.mem_range.mp hc)
      exact ⟨_, _, rfl, .inl e, _, _, _, rfl⟩
  simp [F_first_apart, b_first_apart, evF, r_ok, r_exn, r_to, r_toX, e_lit, e_val, e_nil, e_cons, e_tup, e_lst, e_prim, e_wk, e_call, e_chain, e_and, e_or, e_not, e_ite, e_dct, e_share, e_test, s_skip, s_seq, s_set, s_own, s_expr, s_ret, s_retN, s_ite, truth, view, setTg, E.np, e_ownL, e_ownN, e_lockN, s_par, p_nil, p_cons, lenT g.toTb, rng (g_big g), e]
/-- the inverses of an element -/
def invs (T : List (List Nat)) (n a : Nat) : List Nat := (List.range n).filter fun b => decide (tab T a b = 0) && decide (tab T b a = 0)
theorem inverses_of (g : Grp n T) {a : Nat} (ha : a < n) : F_inverses_of [tabT T, .int (a : Int)] hp = .ok (.lst (dl (invs T n a))) hp := by
  have c : ∀ pk, evE pk C_inverses_of_0 ⟨[.val (tabT T), .val (.int (a : Int)), .no], hp⟩ = .ok [.lst (dl (invs T n a))] ⟨[.val (tabT T), .val (.int (a : Int)), .no], hp⟩ := fun pk =>
    e_comp (by simp [evF, r_ok, r_exn, r_to, r_toX, e_lit, e_val, e_nil, e_cons, e_tup, e_lst, e_prim, e_wk, e_call, e_chain, e_and, e_or, e_not, e_ite, e_dct, e_share, e_test, s_skip, s_seq, s_set, s_own, s_expr, s_ret, s_retN, s_ite, truth, view, setTg, E.np, e_ownL, e_ownN, e_lockN, s_par, p_nil, p_cons, lenT g.toTb, rng (g_big g)] <;> rfl) (items_dn (rl g)) rfl (compL_filter dn dn (fun b => decide (tab T a b = 0) && decide (tab T b a = 0)) _ hp _ fun b hb => by
      have hb := List.mem_range.mp hb
      simp [body1, lockE, wipeE, Slot.locked, Tg.ix, evF, r_ok, r_exn, r_to, r_toX, e_lit, e_val, e_nil, e_cons, e_tup, e_lst, e_prim, e_wk, e_call, e_chain, e_and, e_or, e_not, e_ite, e_dct, e_share, e_test, s_skip, s_seq, s_set, s_own, s_expr, s_ret, s_retN, s_ite, truth, view, setTg, E.np, e_ownL, e_ownN, e_lockN, s_par, p_nil, p_cons, ixT g.toTb ha, ixR g.toTb ha hb, ixT g.toTb hb, ixR g.toTb hb ha, eqN0]
      by_cases h1 : tab T a b = 0 <;> by_cases h2 : tab T b a = 0 <;> simp [h1, h2, evF, r_ok, r_exn, r_to, r_toX, e_lit, e_val, e_nil, e_cons, e_tup, e_lst, e_prim, e_wk, e_call, e_chain, e_and, e_or, e_not, e_ite, e_dct, e_share, e_test, s_skip, s_seq, s_set, s_own, s_expr, s_ret, s_retN, s_ite, truth, view, setTg, E.np, e_ownL, e_ownN, e_lockN, s_par, p_nil, p_cons])
  simp [F_inverses_of, b_inverses_of, evF, r_ok, r_exn, r_to, r_toX, e_lit, e_val, e_nil, e_cons, e_tup, e_lst, e_prim, e_wk, e_call, e_chain, e_and, e_or, e_not, e_ite, e_dct, e_share, e_test, s_skip, s_seq, s_set, s_own, s_expr, s_ret, s_retN, s_ite, truth, view, setTg, E.np, e_ownL, e_ownN, e_lockN, s_par, p_nil, p_cons, c]
theorem invs_ne (g : Grp n T) {a : Nat} (ha : a < n) : ∃ b r, invs T n a = b :: r ∧ b < n ∧ tab T a b = 0 ∧ tab T b a = 0 := by
  obtain ⟨b, hb, h1, h2⟩ := g.inv a ha
  have hm : b ∈ invs T n a := List.mem_filter.mpr ⟨List.mem_range.mpr hb, by simp [h1, h2]⟩
  cases e : invs T n a with
  | nil => rw [e] at hm; cases hm
  | cons c r =>
    have hc : c ∈ invs T n a := by rw [e]; exact List.mem_cons_self
    obtain ⟨q1, q2⟩ := List.mem_filter.mp hc
    simp at q2
    exact ⟨c, r, rfl, List.mem_range.mp q1, q2.1, q2.2⟩
theorem isiT : pIsi 1 [.tuple] hp [tabT T] = some (.bl true) := rfl
theorem pAllT {α : Type} (xs : List α) : pAll hp [.lst (xs.map fun _ => D.bl true)] = some (.bl true) := by
  have := boolsD_map (fun _ : α => true) xs
  simp only [pAll, this, Option.map_some]
  simp
theorem pNeE : pNe hp [.lst [], .lst []] = some (.bl false) := rfl
theorem pNe1 {xs : List D} (h : xs ≠ []) (hf : flat 50 (.lst xs) = true) : pNe hp [.lst xs, .lst []] = some (.bl true) := by
  cases xs with
  | nil => exact absurd rfl h
  | cons x xs =>
    simp only [pNe]
    rw [hf]
    rfl
theorem pEq1 {xs : List D} (h : xs ≠ []) (hf : flat 50 (.lst xs) = true) : pEq hp [.lst xs, .lst []] = some (.bl false) := by
  cases xs with
  | nil => exact absurd rfl h
  | cons x xs =>
    simp only [pEq]
    rw [hf]
    rfl
theorem flats_dl (k : Nat) : ∀ l : List Nat, flats k (dl l) = true
  | [] => by cases k <;> rfl
  | x :: l => by
    show (flat k (dn x) && flats k (dl l)) = true
    rw [flats_dl k l]
    cases k <;> rfl
theorem fault_of (g : Grp n T) : F_fault_of [tabT T] hp = .ok .non hp := by
  have c0 : ∀ (pk : Bool), evE pk C_fault_of_0 ⟨[.val (tabT T), .val (.lst (dl (List.range n))), .no, .no, .no, .no], hp⟩ = .ok [.lst []] ⟨[.val (tabT T), .val (.lst (dl (List.range n))), .no, .no, .no, .no], hp⟩ := fun pk =>
    e_comp (e_val rfl) (items_dn (rl g)) rfl ((compL_filter dn dn (fun b => false) _ hp _ fun b hb => by
      have hb := List.mem_range.mp hb
      simp [body1, lockE, wipeE, Slot.locked, Tg.ix, evF, r_ok, r_exn, r_to, r_toX, e_lit, e_val, e_nil, e_cons, e_tup, e_lst, e_prim, e_wk, e_call, e_chain, e_and, e_or, e_not, e_ite, e_dct, e_share, e_test, s_skip, s_seq, s_set, s_own, s_expr, s_ret, s_retN, s_ite, truth, view, setTg, E.np, e_ownL, e_ownN, e_lockN, s_par, p_nil, p_cons, is_moved g hb]).trans (by simp))
  have c1 : ∀ (pk : Bool), evE pk C_fault_of_1 ⟨[.val (tabT T), .val (.lst (dl (List.range n))), .val (.lst []), .val .non, .no, .no], hp⟩ = .ok [.lst []] ⟨[.val (tabT T), .val (.lst (dl (List.range n))), .val (.lst []), .val .non, .no, .no], hp⟩ := fun pk =>
    e_comp (e_val rfl) (items_dn (rl g)) rfl ((compL_filter dn dn (fun b => false) _ hp _ fun b hb => by
      have hb := List.mem_range.mp hb
      obtain ⟨c, r, e, _⟩ := invs_ne g hb
      have e2 := pEq1 (hp := hp) (xs := dl (invs T n b)) (by rw [e]; exact fun h => nomatch h) (flats_dl 49 _)
      simp [body1, lockE, wipeE, Slot.locked, Tg.ix, evF, r_ok, r_exn, r_to, r_toX, e_lit, e_val, e_nil, e_cons, e_tup, e_lst, e_prim, e_wk, e_call, e_chain, e_and, e_or, e_not, e_ite, e_dct, e_share, e_test, s_skip, s_seq, s_set, s_own, s_expr, s_ret, s_retN, s_ite, truth, view, setTg, E.np, e_ownL, e_ownN, e_lockN, s_par, p_nil, p_cons, inverses_of g hb, e2]).trans (by simp))
  simp [F_fault_of, b_fault_of, evF, r_ok, r_exn, r_to, r_toX, e_lit, e_val, e_nil, e_cons, e_tup, e_lst, e_prim, e_wk, e_call, e_chain, e_and, e_or, e_not, e_ite, e_dct, e_share, e_test, s_skip, s_seq, s_set, s_own, s_expr, s_ret, s_retN, s_ite, truth, view, setTg, E.np, e_ownL, e_ownN, e_lockN, s_par, p_nil, p_cons, lenT g.toTb, rng (g_big g), c0, c1, pNeE, first_apart g, pIsNot, isN]
theorem is_table (g : Grp n T) : F_is_table [tabT T] hp = .ok (.bl true) hp := by
  have h0 := g.pos
  have h24 := g.le
  have rowok : ∀ r ∈ T, r.length = n ∧ ∀ x ∈ r, x < n := fun r hr => by
    obtain ⟨a, ha, e⟩ := List.getElem_of_mem hr
    have ha' : a < n := by rw [← g.len]; exact ha
    have er : ro T a = r := by
      unfold ro
      rw [List.getD_eq_getElem?_getD, List.getElem?_eq_getElem ha]
      exact e
    have hl := g.row a ha'
    rw [er] at hl
    refine ⟨hl, fun x hx => ?_⟩
    obtain ⟨b, hb, e⟩ := List.getElem_of_mem hx
    have := g.lt a b ha' (by omega)
    unfold tab at this
    rw [er, List.getD_eq_getElem?_getD, List.getElem?_eq_getElem hb] at this
    rw [← e]
    exact this
  have c : ∀ pk, evE pk C_is_table_0 ⟨[.val (tabT T), .no], hp⟩ = .ok [.lst (T.map fun _ => .bl true)] ⟨[.val (tabT T), .no], hp⟩ := fun pk =>
    e_comp (xs := T.map rowT) (e_val rfl) (items_tup (by rw [List.length_map, g.len]; exact g_big g)) rfl (compL_map rowT (fun _ => .bl true) _ hp _ fun r hr => by
      obtain ⟨hl, hx⟩ := rowok r hr
      have e1 : F_is_row [rowT r, .int (n : Int), .int 0, .int ((n : Int) - 1)] hp = .ok (.bl true) hp := by
        rw [is_row (fun d hd => by obtain ⟨x, _, rfl⟩ := List.mem_map.mp hd; rfl) (by rw [dl_len, hl]; exact g_big g)]
        have e2 : (dl r).all (btw 0 ((n : Int) - 1)) = true := List.all_eq_true.mpr fun d hd => by
          obtain ⟨x, hx', rfl⟩ := List.mem_map.mp hd
          have := hx x hx'
          show (decide (0 ≤ (x : Int)) && decide ((x : Int) ≤ (n : Int) - 1)) = true
          simp
          omega
        rw [e2, dl_len, hl]
        simp
      simp [body1, lockE, wipeE, Slot.locked, Tg.ix, evF, r_ok, r_exn, r_to, r_toX, e_lit, e_val, e_nil, e_cons, e_tup, e_lst, e_prim, e_wk, e_call, e_chain, e_and, e_or, e_not, e_ite, e_dct, e_share, e_test, s_skip, s_seq, s_set, s_own, s_expr, s_ret, s_retN, s_ite, truth, view, setTg, E.np, e_ownL, e_ownN, e_lockN, s_par, p_nil, p_cons, lenT g.toTb, pSub, e1])
  have e3 : ((1 : Int) ≤ (n : Int)) := by omega
  have e4 : ((n : Int) ≤ 24) := by omega
  simp [F_is_table, b_is_table, evF, r_ok, r_exn, r_to, r_toX, e_lit, e_val, e_nil, e_cons, e_tup, e_lst, e_prim, e_wk, e_call, e_chain, e_and, e_or, e_not, e_ite, e_dct, e_share, e_test, s_skip, s_seq, s_set, s_own, s_expr, s_ret, s_retN, s_ite, truth, view, setTg, E.np, e_ownL, e_ownN, e_lockN, s_par, p_nil, p_cons, lenT g.toTb, c, isiT, pLe, e3, e4, pAllT]
/-- the group of a table -/
def ivs (n : Nat) (T : List (List Nat)) : List Nat := (List.range n).map fun a => (invs T n a).headD 0
def grD (n : Nat) (T : List (List Nat)) : D := .ins 0 [tabT T, .int (n : Int), .lst (dl (ivs n T))]
theorem pIx0 (l : List Nat) (h : l ≠ []) : pIx hp [.lst (dl l), .int 0] = some (dn (l.headD 0)) := by
  cases l with
  | nil => exact absurd rfl h
  | cons x l => exact ix_dl0 (Nat.succ_pos _)
/-- no cell names another -/
def Hn (hp : List D) : Prop := ∀ d ∈ hp, ∀ k, noRef k d = true
theorem Hn.all : ∀ {hp : List D} (k : Nat), Hn hp → noRefs k hp = true
  | [], _, _ => rfl
  | d :: hp, k, h => by
    show (noRef k d && noRefs k hp) = true
    rw [h d List.mem_cons_self k, Hn.all k fun e he => h e (List.mem_cons_of_mem _ he)]
    rfl
theorem noRefs_dl (k : Nat) : ∀ l : List Nat, noRefs k (dl l) = true
  | [] => rfl
  | x :: l => by
    show (true && noRefs k (dl l)) = true
    rw [noRefs_dl k l]
    rfl
theorem noRefs_rows (k : Nat) : ∀ T : List (List Nat), noRefs k (T.map fun r => D.tup (dl r)) = true
  | [] => rfl
  | r :: T => by
    show (noRefs k (dl r) && noRefs k (T.map fun r => D.tup (dl r))) = true
    rw [noRefs_dl, noRefs_rows k T]
    rfl
theorem init_ (g : Grp n T) (hn : Hn hp) : F_Group___init__ [tabT T] hp = .ok (grD n T) hp := by
  have c : ∀ pk (hq : List D) (s : Slot), freeTg [2] [s, .val (tabT T), .no] = true → evE pk C_Group___init___0 ⟨[s, .val (tabT T), .no], hq⟩ = .ok [.lst (dl (ivs n T))] ⟨[s, .val (tabT T), .no], hq⟩ := fun pk hq s hs =>
    e_comp (by simp [evF, r_ok, r_exn, r_to, r_toX, e_lit, e_val, e_nil, e_cons, e_tup, e_lst, e_prim, e_wk, e_call, e_chain, e_and, e_or, e_not, e_ite, e_dct, e_share, e_test, s_skip, s_seq, s_set, s_own, s_expr, s_ret, s_retN, s_ite, truth, view, setTg, E.np, e_ownL, e_ownN, e_lockN, s_par, p_nil, p_cons, lenT g.toTb, rng (g_big g)] <;> rfl) (items_dn (rl g)) hs ((compL_map dn (fun a => dn ((invs T n a).headD 0)) _ hq _ fun a ha => by
      have ha := List.mem_range.mp ha
      obtain ⟨b, r, e, _⟩ := invs_ne g ha
      have e2 := pIx0 (hp := hq) (invs T n a) (by rw [e]; exact fun h => nomatch h)
      cases s <;> simp [body1, lockE, wipeE, Slot.locked, Tg.ix, evF, r_ok, r_exn, r_to, r_toX, e_lit, e_val, e_nil, e_cons, e_tup, e_lst, e_prim, e_wk, e_call, e_chain, e_and, e_or, e_not, e_ite, e_dct, e_share, e_test, s_skip, s_seq, s_set, s_own, s_expr, s_ret, s_retN, s_ite, truth, view, setTg, E.np, e_ownL, e_ownN, e_lockN, s_par, p_nil, p_cons, inverses_of g ha, e2]).trans (by simp [dl, ivs]))
  have e : evS b_Group___init__ ⟨[.val (.ref hp.length), .val (tabT T), .no], hp ++ [.ins 0 []]⟩ = .next ⟨[.val (.ref hp.length), .val (tabT T), .no], hp ++ [grD n T]⟩ := by
    have f1 : ∀ z, z = (⟨[.val (.ref hp.length), .val (tabT T), .no], hp ++ [.ins 0 []]⟩ : Z) → evS (.fld 0 0 0 (.var 1)) z = .next ⟨[.val (.ref hp.length), .val (tabT T), .no], hp ++ [.ins 0 [tabT T]]⟩ := by
      rintro z rfl
      refine Eq.trans (s_fld (fs := []) (e_val rfl) rfl (get_last _ _) rfl) ?_
      simp only [set_last]
      rfl
    have f2 : evS (.fld 0 0 1 (.prim pLen (.cons (.var 1) .nil))) ⟨[.val (.ref hp.length), .val (tabT T), .no], hp ++ [.ins 0 [tabT T]]⟩ = .next ⟨[.val (.ref hp.length), .val (tabT T), .no], hp ++ [.ins 0 [tabT T, .int (n : Int)]]⟩ := by
      refine Eq.trans (s_fld (fs := [tabT T]) (d := .int (n : Int)) (z1 := ⟨[.val (.ref hp.length), .val (tabT T), .no], hp ++ [.ins 0 [tabT T]]⟩) (by simp [evF, r_ok, r_exn, r_to, r_toX, e_lit, e_val, e_nil, e_cons, e_tup, e_lst, e_prim, e_wk, e_call, e_chain, e_and, e_or, e_not, e_ite, e_dct, e_share, e_test, s_skip, s_seq, s_set, s_own, s_expr, s_ret, s_retN, s_ite, truth, view, setTg, E.np, e_ownL, e_ownN, e_lockN, s_par, p_nil, p_cons, lenT g.toTb]) rfl (get_last _ _) rfl) ?_
      simp only [set_last]
      rfl
    have f3 : evS (.fld 0 0 2 C_Group___init___0) ⟨[.val (.ref hp.length), .val (tabT T), .no], hp ++ [.ins 0 [tabT T, .int (n : Int)]]⟩ = .next ⟨[.val (.ref hp.length), .val (tabT T), .no], hp ++ [grD n T]⟩ := by
      refine Eq.trans (s_fld (fs := [tabT T, .int (n : Int)]) (c _ _ _ rfl) rfl (get_last _ _) rfl) ?_
      simp only [set_last]
      rfl
    simp [b_Group___init__, evF, r_ok, r_exn, r_to, r_toX, e_lit, e_val, e_nil, e_cons, e_tup, e_lst, e_prim, e_wk, e_call, e_chain, e_and, e_or, e_not, e_ite, e_dct, e_share, e_test, s_skip, s_seq, s_set, s_own, s_expr, s_ret, s_retN, s_ite, truth, view, setTg, E.np, e_ownL, e_ownN, e_lockN, s_par, p_nil, p_cons, is_table g, fault_of g, pIsNot, isN, f1, f2, f3]
  have e2 : noRefs hp.length [tabT T, .int (n : Int), .lst (dl (ivs n T))] = true := by
    show (noRefs _ _ && (true && (noRefs _ _ && true))) = true
    rw [noRefs_rows, noRefs_dl]
    rfl
  have e3 : endU hp.length (.ok (.ref hp.length) (hp ++ [grD n T])) = .ok (grD n T) hp := by
    unfold endU
    have e4 : noRefs hp.length hp = true := hn.all _
    simp only [List.take_left', e4, if_true]
    unfold unsh
    rw [if_neg (Nat.lt_irrefl _), get_last]
    unfold grD
    simp only [e2, if_true]
  show (match endU hp.length (match evS b_Group___init__ ⟨[.val (.ref hp.length), .val (tabT T), .no], hp ++ [.ins 0 []]⟩ with | O.next z => RF.ok (.ref hp.length) z.hp | O.exn c ds z => RF.exn c ds z.hp | _ => RF.bad) with
    | RF.ok (.ins c' fs) hp' => if c' = 0 ∧ fs.length = 3 then RF.ok (.ins 0 fs) hp' else RF.bad
    | RF.exn c ds hp => RF.exn c ds hp
    | _ => RF.bad) = _
  rw [e]
  dsimp only
  rw [e3]
  rfl
end
end K66
end
section
set_option Elab.async false
set_option linter.all false
set_option maxRecDepth 100000
/-! PC: sets, inverses. -/
namespace K66
open G PySem
section
variable {n : Nat} {T : List (List Nat)} {hp : List D}
theorem pTup (xs : List D) : pTuple hp [.lst xs] = some (.tup xs) := rfl
theorem law_group (g : Grp n T) (hn : Hn hp) : F__law_group [tabL T] hp = .ok (grD n T) hp := by
  have c : ∀ pk, evE pk C__law_group_0 ⟨[.val (tabL T), .no], hp⟩ = .ok [.lst (T.map fun r => .tup (dl r))] ⟨[.val (tabL T), .no], hp⟩ := fun pk =>
    e_comp (xs := T.map fun r => .lst (dl r)) (e_val rfl) (items_lst (by rw [List.length_map, g.len]; exact g_big g)) rfl (compL_map (fun r => .lst (dl r)) (fun r => .tup (dl r)) _ hp _ fun r hr => by
      simp [body1, lockE, wipeE, Slot.locked, Tg.ix, evF, r_ok, r_exn, r_to, r_toX, e_lit, e_val, e_nil, e_cons, e_tup, e_lst, e_prim, e_wk, e_call, e_chain, e_and, e_or, e_not, e_ite, e_dct, e_share, e_test, s_skip, s_seq, s_set, s_own, s_expr, s_ret, s_retN, s_ite, truth, view, setTg, E.np, e_ownL, e_ownN, e_lockN, s_par, p_nil, p_cons, pTup])
  have e : D.tup (T.map fun r => D.tup (dl r)) = tabT T := rfl
  simp [F__law_group, b__law_group, evF, r_ok, r_exn, r_to, r_toX, e_lit, e_val, e_nil, e_cons, e_tup, e_lst, e_prim, e_wk, e_call, e_chain, e_and, e_or, e_not, e_ite, e_dct, e_share, e_test, s_skip, s_seq, s_set, s_own, s_expr, s_ret, s_retN, s_ite, truth, view, setTg, E.np, e_ownL, e_ownN, e_lockN, s_par, p_nil, p_cons, c, pTup, e, init_ g hn]
def natsB (n : Nat) : List D → Option (List Nat)
  | [] => some []
  | .int i :: r => if 0 ≤ i ∧ i < n then (natsB n r).map (i.toNat :: ·) else none
  | _ => none
theorem natsB_some : ∀ {xs : List D} {l : List Nat}, natsB n xs = some l → xs = dl l ∧ ∀ x ∈ l, x < n
  | [], l, h => by cases h; exact ⟨rfl, fun _ q => nomatch q⟩
  | d :: xs, l, h => by
    unfold natsB at h
    split at h
    · rename_i e; cases e
    · rename_i i r e
      cases e
      split at h
      · rename_i hi
        obtain ⟨m, hm, rfl⟩ := Option.map_eq_some_iff.mp h
        obtain ⟨e1, e2⟩ := natsB_some hm
        have : (i.toNat : Int) = i := Int.toNat_of_nonneg hi.1
        refine ⟨by rw [e1]; show _ = D.int (i.toNat : Int) :: dl m; rw [this], fun x hx => ?_⟩
        rcases List.mem_cons.mp hx with e | hx
        · omega
        · exact e2 x hx
      · cases h
    · cases h
theorem natsB_dl : ∀ {l : List Nat}, (∀ x ∈ l, x < n) → natsB n (dl l) = some l
  | [], _ => rfl
  | x :: l, h => by
    show (if 0 ≤ (x : Int) ∧ (x : Int) < n then (natsB n (dl l)).map ((x : Int).toNat :: ·) else none) = _
    have := h x List.mem_cons_self
    rw [if_pos (by omega), natsB_dl fun y hy => h y (List.mem_cons_of_mem _ hy)]
    rfl
theorem natsB_all : ∀ (xs : List D), xs.all (btw 0 ((n : Int) - 1)) = (natsB n xs).isSome
  | [] => rfl
  | d :: xs => by
    rw [List.all_cons, natsB_all xs]
    cases d with
    | int i =>
      show (btw 0 ((n : Int) - 1) (.int i) && (natsB n xs).isSome) = (if 0 ≤ i ∧ i < n then (natsB n xs).map (i.toNat :: ·) else none).isSome
      by_cases h : 0 ≤ i ∧ i < n
      · rw [if_pos h, Option.isSome_map]
        have : btw 0 ((n : Int) - 1) (.int i) = true := by simp [btw]; omega
        rw [this]; rfl
      · rw [if_neg h]
        have : btw 0 ((n : Int) - 1) (.int i) = false := by simp [btw]; omega
        rw [this]; rfl
    | _ => rfl
def risB (l : List Nat) : Bool := (l.zip l.tail).all fun p => decide (p.1 < p.2)
theorem cut1 (xs : List D) : cutL xs (some 1) none = xs.tail := by
  unfold cutL
  rw [show HT.sIx xs.length 0 (some 1) = min 1 xs.length from HT.sIx_nat xs.length 0 1, HT.sIx_none]
  cases xs with
  | nil => rfl
  | cons x r =>
    rw [show min 1 (x :: r).length = 1 by rw [List.length_cons]; omega]
    show (List.take ((x :: r).length - 1) r) = r
    rw [List.length_cons, Nat.add_sub_cancel]
    exact List.take_length
theorem zip_dl : ∀ (a b : List Nat), List.zipWith (fun x y => D.tup [x, y]) (dl a) (dl b) = (a.zip b).map fun p => D.tup [dn p.1, dn p.2]
  | [], _ => rfl
  | _ :: _, [] => rfl
  | x :: a, y :: b => by
    show D.tup [dn x, dn y] :: List.zipWith _ (dl a) (dl b) = _
    rw [zip_dl a b]
    rfl
theorem dl_tail (l : List Nat) : (dl l).tail = dl l.tail := by cases l <;> rfl
theorem is_rising (l : List Nat) (h : l.length ≤ big) : F_is_rising [.tup (dl l)] hp = .ok (.bl (risB l)) hp := by
  have z1 : pZip hp [.tup (dl l), .tup (dl l.tail)] = some (.lst ((l.zip l.tail).map fun p => D.tup [dn p.1, dn p.2])) := by
    show some (D.lst (List.zipWith _ (dl l) (dl l.tail))) = _
    rw [zip_dl]
  have c1 : pCut true false hp [.tup (dl l), .int 1, .non] = some (.tup (dl l.tail)) := by
    show some (D.tup (cutL (dl l) (some 1) none)) = _
    rw [cut1, dl_tail]
  have c : ∀ pk, evE pk C_is_rising_0 ⟨[.val (.tup (dl l)), .no, .no], hp⟩ = .ok [.lst ((l.zip l.tail).map fun p => .bl (decide (p.1 < p.2)))] ⟨[.val (.tup (dl l)), .no, .no], hp⟩ := fun pk =>
    e_comp (by simp [evF, r_ok, r_exn, r_to, r_toX, e_lit, e_val, e_nil, e_cons, e_tup, e_lst, e_prim, e_wk, e_call, e_chain, e_and, e_or, e_not, e_ite, e_dct, e_share, e_test, s_skip, s_seq, s_set, s_own, s_expr, s_ret, s_retN, s_ite, truth, view, setTg, E.np, e_ownL, e_ownN, e_lockN, s_par, p_nil, p_cons, pI, c1, z1] <;> rfl) (items_lst (by rw [List.length_map, List.length_zip]; exact Nat.le_trans (Nat.min_le_left _ _) h)) rfl (compL_map (fun p : Nat × Nat => D.tup [dn p.1, dn p.2]) (fun p => .bl (decide (p.1 < p.2))) _ hp _ fun p hp' => by
      simp [body1, lockE, wipeE, Slot.locked, Tg.ix, evF, r_ok, r_exn, r_to, r_toX, e_lit, e_val, e_nil, e_cons, e_tup, e_lst, e_prim, e_wk, e_call, e_chain, e_and, e_or, e_not, e_ite, e_dct, e_share, e_test, s_skip, s_seq, s_set, s_own, s_expr, s_ret, s_retN, s_ite, truth, view, setTg, E.np, e_ownL, e_ownN, e_lockN, s_par, p_nil, p_cons, setMany, pLt])
  simp [F_is_rising, b_is_rising, evF, r_ok, r_exn, r_to, r_toX, e_lit, e_val, e_nil, e_cons, e_tup, e_lst, e_prim, e_wk, e_call, e_chain, e_and, e_or, e_not, e_ite, e_dct, e_share, e_test, s_skip, s_seq, s_set, s_own, s_expr, s_ret, s_retN, s_ite, truth, view, setTg, E.np, e_ownL, e_ownN, e_lockN, s_par, p_nil, p_cons, c, pAll, boolsD_map, all_map, risB]
/-- a set of elements -/
def setB (n : Nat) : D → Bool
  | .tup xs => (match natsB n xs with
    | some l => risB l
    | none => false)
  | _ => false
/-- data of a value that may be asked about -/
def okV : D → Bool
  | .tup xs => xs.all plainD && decide (xs.length ≤ big)
  | d => plainD d
theorem is_set {d : D} (h : okV d = true) : F_is_set [d, .int (n : Int)] hp = .ok (.bl (setB n d)) hp := by
  cases d with
  | tup xs =>
    obtain ⟨h1, h2⟩ := and_tt h
    have h2 := of_decide_eq_true h2
    have e := is_row (hp := hp) (xs := xs) (List.all_eq_true.mp h1) h2 xs.length 0 ((n : Int) - 1)
    rw [natsB_all] at e
    have el : pLen hp [.tup xs] = some (dn xs.length) := rfl
    have ei : pIsi 1 [.tuple] hp [.tup xs] = some (.bl true) := rfl
    cases q : natsB n xs with
    | none =>
      rw [q] at e
      simp [F_is_set, b_is_set, evF, r_ok, r_exn, r_to, r_toX, e_lit, e_val, e_nil, e_cons, e_tup, e_lst, e_prim, e_wk, e_call, e_chain, e_and, e_or, e_not, e_ite, e_dct, e_share, e_test, s_skip, s_seq, s_set, s_own, s_expr, s_ret, s_retN, s_ite, truth, view, setTg, E.np, e_ownL, e_ownN, e_lockN, s_par, p_nil, p_cons, ei, el, pSub, e, setB, q]
    | some l =>
      rw [q] at e
      obtain ⟨rfl, _⟩ := natsB_some q
      simp [F_is_set, b_is_set, evF, r_ok, r_exn, r_to, r_toX, e_lit, e_val, e_nil, e_cons, e_tup, e_lst, e_prim, e_wk, e_call, e_chain, e_and, e_or, e_not, e_ite, e_dct, e_share, e_test, s_skip, s_seq, s_set, s_own, s_expr, s_ret, s_retN, s_ite, truth, view, setTg, E.np, e_ownL, e_ownN, e_lockN, s_par, p_nil, p_cons, ei, el, pSub, e, setB, q, is_rising l (by rw [dl_len] at h2; exact h2)]
  | ref _ => cases h
  | scr _ => cases h
  | dct _ _ _ => cases h
  | ins _ _ => cases h
  | _ => rfl
theorem attr1 : pAttr 0 1 hp [grD n T] = some (.int (n : Int)) := rfl
theorem attr0 : pAttr 0 0 hp [grD n T] = some (tabT T) := rfl
theorem attr2 : pAttr 0 2 hp [grD n T] = some (.lst (dl (ivs n T))) := rfl
theorem inst0 : pInst 0 hp [grD n T] = some (grD n T) := rfl
theorem check_subset {d : D} (h : okV d = true) : F_check_subset [grD n T, d] hp = if setB n d then .ok .non hp else .exn 1 [d] hp := by
  have r : ∀ z : Z, z = ⟨[.val (grD n T), .val d], hp⟩ → evS (.raise 1 1 (.cons (.var 1) .nil)) z = .exn 1 [d] z := by
    rintro z rfl
    exact s_raise (by simp [evF, r_ok, r_exn, r_to, r_toX, e_lit, e_val, e_nil, e_cons, e_tup, e_lst, e_prim, e_wk, e_call, e_chain, e_and, e_or, e_not, e_ite, e_dct, e_share, e_test, s_skip, s_seq, s_set, s_own, s_expr, s_ret, s_retN, s_ite, truth, view, setTg, E.np, e_ownL, e_ownN, e_lockN, s_par, p_nil, p_cons]) rfl
  cases e : setB n d <;> simp [F_check_subset, b_check_subset, evF, r_ok, r_exn, r_to, r_toX, e_lit, e_val, e_nil, e_cons, e_tup, e_lst, e_prim, e_wk, e_call, e_chain, e_and, e_or, e_not, e_ite, e_dct, e_share, e_test, s_skip, s_seq, s_set, s_own, s_expr, s_ret, s_retN, s_ite, truth, view, setTg, E.np, e_ownL, e_ownN, e_lockN, s_par, p_nil, p_cons, attr1, is_set h, e, r]
theorem has_ {a : Nat} (ha : a < n) : F_Group_has [grD n T, .int (a : Int)] hp = .ok (.bl true) hp := by
  have e : btw 0 ((n : Int) - 1) (.int (a : Int)) = true := by
    simp [btw]
    omega
  simp [F_Group_has, b_Group_has, evF, r_ok, r_exn, r_to, r_toX, e_lit, e_val, e_nil, e_cons, e_tup, e_lst, e_prim, e_wk, e_call, e_chain, e_and, e_or, e_not, e_ite, e_dct, e_share, e_test, s_skip, s_seq, s_set, s_own, s_expr, s_ret, s_retN, s_ite, truth, view, setTg, E.np, e_ownL, e_ownN, e_lockN, s_par, p_nil, p_cons, attr1, pSub, is_between (d := .int (a : Int)) rfl, e]
theorem check_ {a : Nat} (ha : a < n) : F_Group__check [grD n T, .int (a : Int)] hp = .ok .non hp := by
  simp [F_Group__check, b_Group__check, evF, r_ok, r_exn, r_to, r_toX, e_lit, e_val, e_nil, e_cons, e_tup, e_lst, e_prim, e_wk, e_call, e_chain, e_and, e_or, e_not, e_ite, e_dct, e_share, e_test, s_skip, s_seq, s_set, s_own, s_expr, s_ret, s_retN, s_ite, truth, view, setTg, E.np, e_ownL, e_ownN, e_lockN, s_par, p_nil, p_cons, inst0, has_ ha]
def iv (T : List (List Nat)) (n a : Nat) : Nat := (invs T n a).headD 0
theorem inverse_ {a : Nat} (ha : a < n) : F_Group_inverse [grD n T, .int (a : Int)] hp = .ok (.int (iv T n a : Int)) hp := by
  have e := ix_dl (hp := hp) (l := ivs n T) (k := a) (by unfold ivs; rw [List.length_map, List.length_range]; exact ha)
  have e2 : (ivs n T).getD a 0 = iv T n a := by
    unfold ivs
    rw [List.getD_eq_getElem?_getD, List.getElem?_map, List.getElem?_range ha]
    rfl
  rw [e2] at e
  simp [F_Group_inverse, b_Group_inverse, evF, r_ok, r_exn, r_to, r_toX, e_lit, e_val, e_nil, e_cons, e_tup, e_lst, e_prim, e_wk, e_call, e_chain, e_and, e_or, e_not, e_ite, e_dct, e_share, e_test, s_skip, s_seq, s_set, s_own, s_expr, s_ret, s_retN, s_ite, truth, view, setTg, E.np, e_ownL, e_ownN, e_lockN, s_par, p_nil, p_cons, inst0, check_ ha, attr2, e]
theorem iv_ok (g : Grp n T) {a : Nat} (ha : a < n) : iv T n a < n ∧ tab T a (iv T n a) = 0 := by
  obtain ⟨b, r, e, h1, h2, h3⟩ := invs_ne g ha
  unfold iv
  rw [e]
  exact ⟨h1, h2⟩
theorem iv_uniq (g : Grp n T) {a b : Nat} (ha : a < n) (hb : b < n) (h : tab T a b = 0) : b = iv T n a := by
  obtain ⟨c, r, e, h1, h2, h3⟩ := invs_ne g ha
  have e2 : iv T n a = c := by unfold iv; rw [e]; rfl
  rw [e2]
  have q := g.assoc c a b h1 ha hb
  rw [h3, h, g.id1 b hb, g.id2 c h1] at q
  exact q
end
end K66
end
section
set_option Elab.async false
set_option linter.all false
/-! PM: words whose products are all elements; no interpreter here. -/
namespace K66
theorem nodup_bound : ∀ (n : Nat) (l : List Nat), l.Nodup → (∀ x ∈ l, x < n) → l.length ≤ n
  | 0, l, _, h => by
    cases l with
    | nil => exact Nat.le_refl _
    | cons x l => exact absurd (h x List.mem_cons_self) (Nat.not_lt_zero _)
  | n + 1, l, hn, h => by
    by_cases hm : n ∈ l
    · have e := List.length_erase_of_mem hm
      have h1 := nodup_bound n (l.erase n) (hn.erase n) fun x hx => by
        have q := (hn.mem_erase_iff).mp hx
        have := h x q.2
        have := q.1
        omega
      have : 0 < l.length := List.length_pos_of_mem hm
      omega
    · exact Nat.le_succ_of_le (nodup_bound n l hn fun x hx => by
        have := h x hx
        have : x ≠ n := fun e => hm (e ▸ hx)
        omega)
theorem perm_range {n : Nat} {l : List Nat} (hn : l.Nodup) (h : ∀ x ∈ l, x < n) (hl : l.length = n) : l.Perm (List.range n) := by
  have full : ∀ x, x < n → x ∈ l := fun x hx => by
    by_cases hm : x ∈ l
    · exact hm
    · have := nodup_bound n (x :: l) (List.nodup_cons.mpr ⟨hm, hn⟩) fun y hy => by
        rcases List.mem_cons.mp hy with e | hy
        · rw [e]; exact hx
        · exact h y hy
      rw [List.length_cons] at this
      omega
  rw [List.perm_iff_count]
  intro a
  have c1 := List.nodup_iff_count.mp hn a
  have c2 := List.nodup_iff_count.mp (List.nodup_range (n := n)) a
  by_cases ha : a < n
  · have := List.count_pos_iff.mpr (full a ha)
    have := List.count_pos_iff.mpr (List.mem_range.mpr ha)
    omega
  · rw [List.count_eq_zero.mpr fun q => ha (h a q), List.count_eq_zero.mpr fun q => ha (List.mem_range.mp q)]
section
variable (n : Nat) (T : List (List Nat)) (S : List Nat)
/-- words from 0, its place noted: the mask of what is met, the last one -/
inductive Wd : List Nat → Nat → Nat → Prop
  | nil : Wd [] 1 0
  | snoc {w : List Nat} {m l : Nat} (b : Nat) (h : Wd w m l) (hb : b ∈ S) (hf : m.testBit (tab T l b) = false) : Wd (w ++ [b]) (m ||| 2 ^ tab T l b) (tab T l b)
/-- words from 0 that may come to 0 at their end alone -/
inductive Lw : List Nat → Nat → Nat → Prop
  | one (g : Nat) (hb : g ∈ S) : Lw [g] (2 ^ g) g
  | snoc {w : List Nat} {m l : Nat} (b : Nat) (h : Lw w m l) (h0 : m.testBit 0 = false) (hb : b ∈ S) (hf : m.testBit (tab T l b) = false) : Lw (w ++ [b]) (m ||| 2 ^ tab T l b) (tab T l b)
/-- the products -/
def pps : Nat → List Nat → List Nat
  | _, [] => []
  | a, b :: w => tab T a b :: pps (tab T a b) w
end
section
variable {n : Nat} {T : List (List Nat)} {S : List Nat}
theorem pps_snoc (b : Nat) : ∀ (w : List Nat) (a : Nat), pps T a (w ++ [b]) = pps T a w ++ [tab T ((pps T a w).getLastD a) b]
  | [], a => rfl
  | c :: w, a => by
    show tab T a c :: pps T (tab T a c) (w ++ [b]) = tab T a c :: (pps T (tab T a c) w ++ [_])
    rw [pps_snoc b w (tab T a c)]
    have : (tab T a c :: pps T (tab T a c) w).getLastD a = (pps T (tab T a c) w).getLastD (tab T a c) := by
      cases pps T (tab T a c) w <;> rfl
    show _ = tab T a c :: (pps T (tab T a c) w ++ [tab T ((tab T a c :: pps T (tab T a c) w).getLastD a) b])
    rw [this]
theorem bit_or (m k i : Nat) : (m ||| 2 ^ k).testBit i = (m.testBit i || decide (k = i)) := by
  rw [Nat.testBit_or, Nat.testBit_two_pow]
structure WdF (n : Nat) (T : List (List Nat)) (S w : List Nat) (m l : Nat) : Prop where
  nd : (0 :: pps T 0 w).Nodup
  lt : ∀ x ∈ 0 :: pps T 0 w, x < n
  bit : ∀ i, m.testBit i = decide (i ∈ 0 :: pps T 0 w)
  last : (pps T 0 w).getLastD 0 = l
  len : (pps T 0 w).length = w.length
  ll : l < n
  S : ∀ b ∈ w, b ∈ S
theorem wd_f (g : Grp n T) (hS : ∀ b ∈ S, b < n) {w : List Nat} {m l : Nat} (h : Wd T S w m l) : WdF n T S w m l := by
  induction h with
  | nil => exact ⟨by simp [pps], fun x hx => by simp [pps] at hx; rw [hx]; exact g.pos, fun i => by
      rw [show (1 : Nat) = 2 ^ 0 from rfl, Nat.testBit_two_pow]
      simp [pps, eq_comm], rfl, rfl, g.pos, fun _ q => nomatch q⟩
  | @snoc w m l b h hb hf ih =>
    have e : pps T 0 (w ++ [b]) = pps T 0 w ++ [tab T l b] := by rw [pps_snoc, ih.last]
    have ht := g.lt l b ih.ll (hS b hb)
    have hno : tab T l b ∉ 0 :: pps T 0 w := fun q => by
      have := ih.bit (tab T l b)
      rw [hf, decide_eq_true q] at this
      cases this
    refine ⟨?_, fun x hx => ?_, fun i => ?_, ?_, ?_, ht, fun c hc => ?_⟩
    · rw [e, ← List.cons_append]
      refine List.nodup_append.mpr ⟨ih.nd, by simp, fun x hx y hy => ?_⟩
      rw [List.mem_singleton] at hy
      subst hy
      exact fun q => hno (q ▸ hx)
    · rw [e, ← List.cons_append] at hx
      rcases List.mem_append.mp hx with q | q
      · exact ih.lt x q
      · rw [List.mem_singleton.mp q]; exact ht
    · rw [bit_or, ih.bit, e, ← List.cons_append]
      by_cases h1 : i ∈ 0 :: pps T 0 w
      · have : i ∈ (0 :: pps T 0 w) ++ [tab T l b] := List.mem_append_left _ h1
        rw [decide_eq_true h1, decide_eq_true this]; rfl
      · by_cases h2 : tab T l b = i
        · have : i ∈ (0 :: pps T 0 w) ++ [tab T l b] := List.mem_append_right _ (by rw [h2]; simp)
          rw [decide_eq_true this, decide_eq_true h2, Bool.or_true]
        · have : i ∉ (0 :: pps T 0 w) ++ [tab T l b] := fun q => by
            rcases List.mem_append.mp q with q | q
            · exact h1 q
            · exact h2 (List.mem_singleton.mp q).symm
          rw [decide_eq_false h1, decide_eq_false this, decide_eq_false h2]; rfl
    · rw [e]; simp
    · rw [e, List.length_append, List.length_append, ih.len]; rfl
    · rcases List.mem_append.mp hc with q | q
      · exact ih.S c q
      · rw [List.mem_singleton.mp q]; exact hb
theorem wd_mask (g : Grp n T) (hS : ∀ b ∈ S, b < n) {w : List Nat} {m l : Nat} (h : Wd T S w m l) (hl : w.length = n - 1) : m = 2 ^ n - 1 := by
  have f := wd_f g hS h
  have hp := g.pos
  have p := perm_range f.nd f.lt (by rw [List.length_cons, f.len, hl]; omega)
  refine Nat.eq_of_testBit_eq fun i => ?_
  rw [f.bit, Nat.testBit_two_pow_sub_one]
  exact decide_eq_decide.mpr (p.mem_iff.trans List.mem_range)
theorem wd_full (g : Grp n T) (hS : ∀ b ∈ S, b < n) {w : List Nat} {l : Nat} (h : Wd T S w (2 ^ n - 1) l) : w.length = n - 1 ∧ (0 :: pps T 0 w).Perm (List.range n) := by
  have f := wd_f g hS h
  have hl : (0 :: pps T 0 w).length ≤ n := nodup_bound n _ f.nd f.lt
  have hg : n ≤ (0 :: pps T 0 w).length := by
    have := nodup_bound' f
    exact this
  have e : (0 :: pps T 0 w).length = n := by omega
  refine ⟨?_, perm_range f.nd f.lt e⟩
  rw [List.length_cons, f.len] at e
  omega
where
  nodup_bound' {w : List Nat} {l : Nat} (f : WdF n T S w (2 ^ n - 1) l) : n ≤ (0 :: pps T 0 w).length := by
    have sub : ∀ x ∈ List.range n, x ∈ 0 :: pps T 0 w := fun x hx => by
      have := f.bit x
      rw [Nat.testBit_two_pow_sub_one, decide_eq_true (List.mem_range.mp hx)] at this
      exact of_decide_eq_true this.symm
    have key : ∀ (a b : List Nat), a.Nodup → (∀ x ∈ a, x ∈ b) → a.length ≤ b.length := by
      intro a
      induction a with
      | nil => intro b _ _; exact Nat.zero_le _
      | cons x a ih =>
        intro b hn hs
        obtain ⟨h1, h2⟩ := List.nodup_cons.mp hn
        have hx := hs x List.mem_cons_self
        have := ih (b.erase x) h2 fun y hy => by
          have : y ≠ x := fun e => h1 (e ▸ hy)
          exact (List.mem_erase_of_ne this).mpr (hs y (List.mem_cons_of_mem _ hy))
        have e := List.length_erase_of_mem hx
        have := List.length_pos_of_mem hx
        rw [List.length_cons]
        omega
    have := key (List.range n) _ List.nodup_range sub
    rw [List.length_range] at this
    exact this
/-- both kinds of words -/
theorem lw_wd (g : Grp n T) (hS : ∀ b ∈ S, b < n) {w : List Nat} {m l : Nat} (h : Lw T S w m l) : m.testBit 0 = false → Wd T S w (m ||| 2 ^ 0) l := by
  induction h with
  | one b hb =>
    intro h0
    have hb0 : b ≠ 0 := fun e => by rw [e] at h0; simp at h0
    have e : tab T 0 b = b := g.id1 b (hS b hb)
    have q := Wd.snoc b (Wd.nil (T := T) (S := S)) hb (by
      rw [e, show (1 : Nat) = 2 ^ 0 from rfl, Nat.testBit_two_pow]
      exact decide_eq_false (fun z => hb0 z.symm))
    rw [e] at q
    rw [Nat.or_comm]
    exact q
  | @snoc w m l b h h0 hb hf ih =>
    intro h1
    rw [bit_or] at h1
    have hne : tab T l b ≠ 0 := fun e => by rw [e] at h1; simp at h1
    have q := Wd.snoc b (ih h0) hb (by
      rw [bit_or, hf]
      exact decide_eq_false (fun z => hne z.symm))
    rw [show (m ||| 2 ^ tab T l b ||| 2 ^ 0) = (m ||| 2 ^ 0 ||| 2 ^ tab T l b) by
      rw [Nat.or_assoc, Nat.or_comm (2 ^ tab T l b), ← Nat.or_assoc]]
    exact q
theorem wd_nil {w : List Nat} {m l : Nat} (h : Wd T S w m l) : w = [] → m = 1 := by
  intro e
  cases h with
  | nil => rfl
  | snoc b' h' => exact absurd e (by simp)
theorem wd_lw (g : Grp n T) (hS : ∀ b ∈ S, b < n) {w : List Nat} {m l : Nat} (h : Wd T S w m l) : w ≠ [] → ∃ m', Lw T S w m' l ∧ m'.testBit 0 = false ∧ ∀ i, 0 < i → m'.testBit i = m.testBit i := by
  induction h with
  | nil => intro q; exact absurd rfl q
  | @snoc w m l b h hb hf ih =>
    intro _
    have f := wd_f g hS h
    have hm0 : m.testBit 0 = true := by rw [f.bit]; simp
    have hne : tab T l b ≠ 0 := fun e => by rw [e, hm0] at hf; cases hf
    by_cases hw : w = []
    · subst hw
      have hl : l = 0 := by rw [← f.last]; rfl
      have hm : m = 1 := wd_nil h rfl
      subst hl hm
      have e : tab T 0 b = b := g.id1 b (hS b hb)
      refine ⟨2 ^ b, ?_, ?_, fun i hi => ?_⟩
      · rw [e]; exact Lw.one b hb
      · rw [Nat.testBit_two_pow]
        exact decide_eq_false (by rw [← e]; exact hne)
      · rw [bit_or, e, Nat.testBit_two_pow, show (1 : Nat) = 2 ^ 0 from rfl, Nat.testBit_two_pow, decide_eq_false (by omega : ¬ 0 = i)]
        rfl
    · obtain ⟨m', h1, h2, h3⟩ := ih hw
      refine ⟨m' ||| 2 ^ tab T l b, Lw.snoc b h1 h2 hb (by rw [h3 _ (Nat.pos_of_ne_zero hne)]; exact hf), ?_, fun i hi => ?_⟩
      · rw [bit_or, h2]
        exact decide_eq_false hne
      · rw [bit_or, bit_or, h3 i hi]
theorem lw_ne {w : List Nat} {m l : Nat} (h : Lw T S w m l) : w ≠ [] := by
  cases h <;> simp
/-- the two searches tell the same -/
theorem same_ends (g : Grp n T) (hS : ∀ b ∈ S, b < n) : (∃ u m, u.length = n ∧ Lw T S u m 0) ↔ ∃ w l, Wd T S w (2 ^ n - 1) l ∧ l < n ∧ iv T n l ∈ S := by
  have hp := g.pos
  constructor
  · rintro ⟨u, m, hu, h⟩
    generalize hl : (0 : Nat) = l at h
    cases h with
    | one b hb =>
      subst hl
      have e1 : n = 1 := hu.symm
      subst e1
      refine ⟨[], 0, Wd.nil, Nat.one_pos, ?_⟩
      rw [← iv_uniq g Nat.one_pos Nat.one_pos (g.id1 0 Nat.one_pos)]
      exact hb
    | @snoc w m l b h h0 hb hf =>
      have q := lw_wd g hS h h0
      have hw : w.length = n - 1 := by
        rw [List.length_append] at hu
        have : [b].length = 1 := rfl
        omega
      have f := wd_f g hS q
      have em := wd_mask g hS q hw
      rw [em] at q
      refine ⟨w, l, q, f.ll, ?_⟩
      rw [← iv_uniq g f.ll (hS b hb) hl.symm]
      exact hb
  · rintro ⟨w, l, h, hl, hi⟩
    obtain ⟨hw, _⟩ := wd_full g hS h
    obtain ⟨i1, i2⟩ := iv_ok g hl
    by_cases h0 : w = []
    · subst h0
      have e1 : n = 1 := by
        have : ([] : List Nat).length = 0 := rfl
        omega
      have f := wd_f g hS h
      have el : l = 0 := by rw [← f.last]; rfl
      subst el
      have : iv T n 0 = 0 := (iv_uniq g hl hl (g.id1 0 hl)).symm
      rw [this] at hi
      exact ⟨[0], 2 ^ 0, e1.symm, Lw.one 0 hi⟩
    · obtain ⟨m', h1, h2, h3⟩ := wd_lw g hS h h0
      have := Lw.snoc (iv T n l) h1 h2 hi (by rw [i2]; exact h2)
      rw [i2] at this
      refine ⟨_, _, ?_, this⟩
      rw [List.length_append, hw]
      have : [iv T n l].length = 1 := rfl
      omega
/-- what a walk found is -/
theorem walk_ok (g : Grp n T) (hS : ∀ b ∈ S, b < n) {w : List Nat} {l : Nat} (h : Wd T S w (2 ^ n - 1) l) (hi : iv T n l ∈ S) :
    (w ++ [iv T n l]).length = n ∧ (∀ b ∈ w ++ [iv T n l], b ∈ S) ∧ pps T 0 (w ++ [iv T n l]) = pps T 0 w ++ [0] ∧ (pps T 0 w ++ [0]).Perm (List.range n) := by
  obtain ⟨h1, h2⟩ := wd_full g hS h
  have f := wd_f g hS h
  have hp := g.pos
  refine ⟨?_, fun b hb => ?_, ?_, ?_⟩
  · rw [List.length_append, h1]
    have : [iv T n l].length = 1 := rfl
    omega
  · rcases List.mem_append.mp hb with q | q
    · exact f.S b q
    · rw [List.mem_singleton.mp q]; exact hi
  · rw [pps_snoc, f.last, (iv_ok g f.ll).2]
  · exact (List.perm_append_comm).trans h2
end
end K66
end
section
set_option Elab.async false
set_option linter.all false
set_option maxRecDepth 100000
/-! PD: the package's search. -/
namespace K66
open G
abbrev Sp := Nat × Nat
def stD (s : Sp) : D := .tup [.int (s.1 : Int), .int (s.2 : Int)]
def valD : Option (Sp × Nat) → D
  | none => .non
  | some (s, b) => .tup [stD s, .int (b : Int)]
abbrev Cm := List (Sp × Option (Sp × Nat))
def keys (c : Cm) : List Sp := c.map (·.1)
def cmD (c : Cm) : D := .dct true (c.map fun p => stD p.1) (c.map fun p => valD p.2)
def look : Cm → Sp → Option (Option (Sp × Nat))
  | [], _ => none
  | p :: c, s => if p.1 = s then some p.2 else look c s
theorem eqb_st (a b : Sp) : eqb (stD a) (stD b) = decide (a = b) := by
  obtain ⟨a1, a2⟩ := a
  obtain ⟨b1, b2⟩ := b
  show (eqb (dn a1) (dn b1) && (eqb (dn a2) (dn b2) && true)) = _
  rw [eqb_dn, eqb_dn, Bool.and_true, ← Bool.decide_and]
  exact decide_eq_decide.mpr (by simp)
theorem dGet_cm (s : Sp) : ∀ c : Cm, dGet (c.map fun p => stD p.1) (c.map fun p => valD p.2) (stD s) = (look c s).map valD
  | [] => rfl
  | p :: c => by
    show (if eqb (stD p.1) (stD s) then some (valD p.2) else dGet (c.map fun p => stD p.1) (c.map fun p => valD p.2) (stD s)) = (if p.1 = s then some p.2 else look c s).map valD
    rw [eqb_st, dGet_cm s c]
    by_cases h : p.1 = s <;> simp [h]
theorem look_none {s : Sp} : ∀ {c : Cm}, s ∉ keys c → look c s = none
  | [], _ => rfl
  | p :: c, h => by
    unfold look
    rw [if_neg (fun e => h (by rw [← e]; exact List.mem_cons_self)), look_none fun q => h (List.mem_cons_of_mem _ q)]
theorem look_mem {s : Sp} : ∀ {c : Cm}, s ∈ keys c → ∃ v, look c s = some v ∧ (s, v) ∈ c
  | [], h => nomatch h
  | p :: c, h => by
    unfold look
    by_cases e : p.1 = s
    · rw [if_pos e]
      exact ⟨p.2, rfl, by rw [← e]; exact List.mem_cons_self⟩
    · rw [if_neg e]
      have h' : s ∈ keys c := by
        rcases List.mem_cons.mp h with q | q
        · exact absurd q.symm e
        · exact q
      obtain ⟨v, h1, h2⟩ := look_mem h'
      exact ⟨v, h1, List.mem_cons_of_mem _ h2⟩
theorem look_some (s : Sp) (c : Cm) : (look c s).isSome = decide (s ∈ keys c) := by
  by_cases h : s ∈ keys c
  · obtain ⟨v, e, _⟩ := look_mem h
    rw [e, decide_eq_true h]; rfl
  · rw [look_none h, decide_eq_false h]; rfl
theorem key_st (s : Sp) : isKey true (stD s) = true := rfl
section
variable {hp : List D}
theorem din (s : Sp) (c : Cm) : pDIn hp [stD s, cmD c] = some (.bl (decide (s ∈ keys c))) := by
  have e : pDIn hp [stD s, cmD c] = some (.bl (dGet (c.map fun p => stD p.1) (c.map fun p => valD p.2) (stD s)).isSome) := rfl
  rw [e, dGet_cm, Option.isSome_map, look_some]
theorem dnotin (s : Sp) (c : Cm) : pDNotIn hp [stD s, cmD c] = some (.bl (!decide (s ∈ keys c))) := by
  have e : pDNotIn hp [stD s, cmD c] = some (.bl (!(dGet (c.map fun p => stD p.1) (c.map fun p => valD p.2) (stD s)).isSome)) := rfl
  rw [e, dGet_cm, Option.isSome_map, look_some]
theorem dix {s : Sp} {c : Cm} {v : Option (Sp × Nat)} (h : look c s = some v) : pDIx hp [cmD c, stD s] = some (valD v) := by
  have e : pDIx hp [cmD c, stD s] = dGet (c.map fun p => stD p.1) (c.map fun p => valD p.2) (stD s) := rfl
  rw [e, dGet_cm, h]
  rfl
end
theorem any_st (s : Sp) : ∀ c : Cm, ((c.map fun p => stD p.1).any fun k => eqb k (stD s)) = decide (s ∈ keys c)
  | [] => rfl
  | p :: c => by
    show (eqb (stD p.1) (stD s) || (c.map fun p => stD p.1).any fun k => eqb k (stD s)) = _
    rw [any_st s c, eqb_st, ← Bool.decide_or]
    exact decide_eq_decide.mpr (by
      show p.1 = s ∨ s ∈ keys c ↔ s ∈ p.1 :: keys c
      rw [List.mem_cons]
      exact or_congr eq_comm Iff.rfl)
theorem dPut_new {s : Sp} {c : Cm} (v : Option (Sp × Nat)) (h : s ∉ keys c) : dPut (c.map fun p => stD p.1) (c.map fun p => valD p.2) (stD s) (valD v) = ((c ++ [(s, v)]).map (fun p => stD p.1), (c ++ [(s, v)]).map fun p => valD p.2) := by
  unfold dPut
  rw [any_st, decide_eq_false h]
  simp
/-! ### one step -/
section
variable (T : List (List Nat)) (S : List Nat)
def nxt (s : Sp) (b : Nat) : Sp := (s.1 ||| 2 ^ tab T s.2 b, tab T s.2 b)
def free (s : Sp) (b : Nat) : Bool := !s.1.testBit (tab T s.2 b)
def stp (s : Sp) (q : Cm × List Sp) (b : Nat) : Cm × List Sp := if free T s b ∧ nxt T s b ∉ keys q.1 then (q.1 ++ [(nxt T s b, some (s, b))], q.2 ++ [nxt T s b]) else q
def lev (q : Cm × List Sp) (s : Sp) : Cm × List Sp := S.foldl (stp T s) q
def Ex (c : Cm) (s : Sp) : Prop := ∀ b ∈ S, free T s b = true → nxt T s b ∈ keys c
end
section
variable {n : Nat} {T : List (List Nat)} {S : List Nat}
structure Cv (n : Nat) (T : List (List Nat)) (S : List Nat) (c : Cm) : Prop where
  nd : (keys c).Nodup
  lt : ∀ s ∈ keys c, s.1 < 2 ^ n ∧ s.2 < n
  wd : ∀ s ∈ keys c, ∃ w, Wd T S w s.1 s.2
  pred : ∀ p ∈ c, (p.2 = none ∧ p.1 = (1, 0)) ∨ ∃ q b, p.2 = some (q, b) ∧ q ∈ keys c ∧ b ∈ S ∧ free T q b = true ∧ p.1 = nxt T q b
  start : (1, 0) ∈ keys c
theorem Cv.len {c : Cm} (h : Cv n T S c) (hn : n ≤ 12) (hp : 0 < n) : c.length ≤ 49152 := by
  have e : ((keys c).map fun s => s.1 * n + s.2).length ≤ 2 ^ n * n := nodup_bound _ _ (by
    unfold List.Nodup
    rw [List.pairwise_map]
    refine h.nd.imp_of_mem fun {a b} ha hb hne e => hne ?_
    have h1 := (h.lt a ha).2
    have h2 := (h.lt b hb).2
    have e1 : a.1 = b.1 := by
      have q1 : (a.1 * n + a.2) / n = a.1 := by rw [Nat.mul_comm, Nat.mul_add_div hp, Nat.div_eq_of_lt h1, Nat.add_zero]
      have q2 : (b.1 * n + b.2) / n = b.1 := by rw [Nat.mul_comm, Nat.mul_add_div hp, Nat.div_eq_of_lt h2, Nat.add_zero]
      rw [← q1, ← q2, e]
    have e2 : a.2 = b.2 := by
      rw [e1] at e
      omega
    exact Prod.ext e1 e2) fun x hx => by
      obtain ⟨s, hs, rfl⟩ := List.mem_map.mp hx
      have h1 := (h.lt s hs).1
      have h2 := (h.lt s hs).2
      calc s.1 * n + s.2 < s.1 * n + n := by omega
        _ = (s.1 + 1) * n := by rw [Nat.add_mul, Nat.one_mul]
        _ ≤ 2 ^ n * n := Nat.mul_le_mul_right n h1
  have e2 : 2 ^ n * n ≤ 2 ^ 12 * 12 := Nat.mul_le_mul (Nat.pow_le_pow_right (by decide) hn) hn
  have e3 : (2 : Nat) ^ 12 * 12 = 49152 := by decide
  have e4 : ((keys c).map fun s => s.1 * n + s.2).length = c.length := by
    unfold keys
    rw [List.length_map, List.length_map]
  omega
theorem nxt_lt (g : Grp n T) (hS : ∀ b ∈ S, b < n) {s : Sp} {b : Nat} (h : s.1 < 2 ^ n ∧ s.2 < n) (hb : b ∈ S) : (nxt T s b).1 < 2 ^ n ∧ (nxt T s b).2 < n := by
  have ht := g.lt s.2 b h.2 (hS b hb)
  exact ⟨Nat.or_lt_two_pow h.1 (Nat.pow_lt_pow_right (by decide) ht), ht⟩
theorem keys_app (c : Cm) (x : Sp × Option (Sp × Nat)) : keys (c ++ [x]) = keys c ++ [x.1] := by
  unfold keys
  rw [List.map_append]
  rfl
/-- what holds while a state's edges are followed -/
structure Gd (n : Nat) (T : List (List Nat)) (S : List Nat) (c0 : Cm) (q : Cm × List Sp) : Prop where
  cv : Cv n T S q.1
  lo : ∀ x ∈ q.2, x ∈ keys q.1
  ll : q.2.length + c0.length = q.1.length
  mono : ∀ x ∈ keys c0, x ∈ keys q.1
  new : ∀ x ∈ keys q.1, x ∈ keys c0 ∨ x ∈ q.2
theorem stp_gd (g : Grp n T) (hS : ∀ b ∈ S, b < n) {c0 : Cm} {q : Cm × List Sp} {s : Sp} {b : Nat} (h : Gd n T S c0 q) (hs : s ∈ keys q.1) (hb : b ∈ S) :
    Gd n T S c0 (stp T s q b) ∧ (∀ x ∈ keys q.1, x ∈ keys (stp T s q b).1) ∧ (free T s b = true → nxt T s b ∈ keys (stp T s q b).1) := by
  unfold stp
  by_cases hc : free T s b = true ∧ nxt T s b ∉ keys q.1
  · rw [if_pos hc]
    have k := keys_app q.1 (nxt T s b, some (s, b))
    have up : ∀ x ∈ keys q.1, x ∈ keys (q.1 ++ [(nxt T s b, some (s, b))]) := fun x hx => by rw [k]; exact List.mem_append_left _ hx
    have me : nxt T s b ∈ keys (q.1 ++ [(nxt T s b, some (s, b))]) := by rw [k]; simp
    refine ⟨⟨⟨?_, fun x hx => ?_, fun x hx => ?_, fun p hp => ?_, up _ h.cv.start⟩, fun x hx => ?_, ?_, fun x hx => up x (h.mono x hx), fun x hx => ?_⟩, up, fun _ => me⟩
    · rw [k]
      refine List.nodup_append.mpr ⟨h.cv.nd, by simp, fun x hx y hy => ?_⟩
      rw [List.mem_singleton] at hy
      subst hy
      exact fun (e : x = nxt T s b) => hc.2 (e ▸ hx)
    · rw [k] at hx
      rcases List.mem_append.mp hx with q' | q'
      · exact h.cv.lt x q'
      · rw [List.mem_singleton.mp q']; exact nxt_lt g hS (h.cv.lt s hs) hb
    · rw [k] at hx
      rcases List.mem_append.mp hx with q' | q'
      · exact h.cv.wd x q'
      · rw [List.mem_singleton.mp q']
        obtain ⟨w, hw⟩ := h.cv.wd s hs
        exact ⟨_, Wd.snoc b hw hb (by simpa [free] using hc.1)⟩
    · rcases List.mem_append.mp hp with q' | q'
      · rcases h.cv.pred p q' with z | ⟨a, b', z1, z2, z3⟩
        · exact .inl z
        · exact .inr ⟨a, b', z1, up a z2, z3⟩
      · rw [List.mem_singleton.mp q']
        exact .inr ⟨s, b, rfl, up s hs, hb, hc.1, rfl⟩
    · rcases List.mem_append.mp hx with q' | q'
      · exact up x (h.lo x q')
      · rw [List.mem_singleton.mp q']; exact me
    · rw [List.length_append, List.length_append]
      have := h.ll
      simp
      omega
    · rw [k] at hx
      rcases List.mem_append.mp hx with q' | q'
      · rcases h.new x q' with z | z
        · exact .inl z
        · exact .inr (List.mem_append_left _ z)
      · exact .inr (List.mem_append_right _ q')
  · rw [if_neg hc]
    refine ⟨h, fun _ hx => hx, fun hf => ?_⟩
    by_cases hk : nxt T s b ∈ keys q.1
    · exact hk
    · exact absurd ⟨hf, hk⟩ hc
theorem lev_gd (g : Grp n T) (hS : ∀ b ∈ S, b < n) {c0 : Cm} {s : Sp} : ∀ (R : List Nat) (q : Cm × List Sp), (∀ b ∈ R, b ∈ S) → Gd n T S c0 q → s ∈ keys q.1 →
    Gd n T S c0 (R.foldl (stp T s) q) ∧ (∀ x ∈ keys q.1, x ∈ keys (R.foldl (stp T s) q).1) ∧ ∀ b ∈ R, free T s b = true → nxt T s b ∈ keys (R.foldl (stp T s) q).1
  | [], q, _, h, _ => ⟨h, fun _ hx => hx, fun _ hb => nomatch hb⟩
  | b :: R, q, hR, h, hs => by
    obtain ⟨h1, h2, h3⟩ := stp_gd g hS h hs (hR b List.mem_cons_self)
    obtain ⟨h4, h5, h6⟩ := lev_gd g hS R (stp T s q b) (fun x hx => hR x (List.mem_cons_of_mem _ hx)) h1 (h2 s hs)
    refine ⟨h4, fun x hx => h5 x (h2 x hx), fun c hc hf => ?_⟩
    rcases List.mem_cons.mp hc with e | hc
    · subst e
      exact h5 _ (h3 hf)
    · exact h6 c hc hf
theorem levs_gd (g : Grp n T) (hS : ∀ b ∈ S, b < n) {c0 : Cm} : ∀ (L : List Sp) (q : Cm × List Sp), Gd n T S c0 q → (∀ s ∈ L, s ∈ keys q.1) →
    Gd n T S c0 (L.foldl (lev T S) q) ∧ (∀ x ∈ keys q.1, x ∈ keys (L.foldl (lev T S) q).1) ∧ ∀ s ∈ L, Ex T S (L.foldl (lev T S) q).1 s
  | [], q, h, _ => ⟨h, fun _ hx => hx, fun _ hs => nomatch hs⟩
  | s :: L, q, h, hL => by
    obtain ⟨h1, h2, h3⟩ := lev_gd g hS S q (fun _ hb => hb) h (hL s List.mem_cons_self)
    obtain ⟨h4, h5, h6⟩ := levs_gd g hS L (lev T S q s) h1 fun x hx => h2 x (hL x (List.mem_cons_of_mem _ hx))
    refine ⟨h4, fun x hx => h5 x (h2 x hx), fun c hc => ?_⟩
    rcases List.mem_cons.mp hc with e | hc
    · subst e
      exact fun b hb hf => h5 _ (h3 b hb hf)
    · exact h6 c hc
/-- all walks' ends are met -/
theorem all_met (g : Grp n T) {c : Cm} (hc : Cv n T S c) (he : ∀ x ∈ keys c, Ex T S c x) {w : List Nat} {m l : Nat} (h : Wd T S w m l) : (m, l) ∈ keys c := by
  induction h with
  | nil => exact hc.start
  | snoc b h hb hf ih => exact he _ ih b hb (by simp [free, hf])
end
end K66
end
section
set_option Elab.async false
set_option linter.all false
set_option maxRecDepth 100000
/-! PE: walks_of, run. -/
namespace K66
open G
section
variable {n : Nat} {T : List (List Nat)} {S : List Nat} {hp : List D}
theorem nI (c : Cm) : notIns (cmD c) = true := by cases c <;> rfl
theorem bitT (a t : Nat) : pEq hp [.int ((a / 2 ^ t &&& 1 : Nat) : Int), .int 0] = some (.bl (!a.testBit t)) := by
  rw [bit_and]
  cases a.testBit t <;> rfl
/-- the state within a level -/
def Z0 (n : Nat) (T : List (List Nat)) (S : List Nat) (hp : List D) (lv : D) (s5 s6 s7 s8 s9 : Slot) (q : Cm × List Sp) : Z :=
  ⟨[.val (grD n T), .val (.tup (dl S)), .own (cmD q.1), .val lv, .own (.lst (q.2.map stD)), s5, s6, s7, s8, s9], hp⟩
theorem and1 (a b : Nat) : pAnd hp [.int ((a / 2 ^ b : Nat) : Int), .int 1] = some (.int ((a / 2 ^ b &&& 1 : Nat) : Int)) := andN (a / 2 ^ b) 1
theorem wo_turn (g : Grp n T) (hS : ∀ b ∈ S, b < n) (hn : n ≤ 12) {c0 : Cm} {lv : D} {s : Sp} {q : Cm × List Sp} {b : Nat} {s8 s9 : Slot} (h : Gd n T S c0 q) (hs : s ∈ keys q.1) (hb : b ∈ S) :
    ∃ z', evS B_walks_of_0 (Z0 n T S hp lv (.val (.int (s.1 : Int))) (.val (.int (s.2 : Int))) (.val (.int (b : Int))) s8 s9 q) = .next z' ∧
    ∃ s8 s9, z' = Z0 n T S hp lv (.val (.int (s.1 : Int))) (.val (.int (s.2 : Int))) (.val (.int (b : Int))) s8 s9 (stp T s q b) := by
  have hl := h.cv.lt s hs
  have hbn := hS b hb
  have ht := g.lt s.2 b hl.2 hbn
  have e1 := ixT (hp := hp) g.toTb hl.2
  have e2 := ixR (hp := hp) g.toTb hl.2 hbn
  have e3 := shl1 (hp := hp) (t := tab T s.2 b) (by have := g.le; omega)
  have e4 := orN (hp := hp) s.1 (2 ^ tab T s.2 b)
  have e5 := shrN (hp := hp) s.1 (tab T s.2 b)
  have e6 := and1 (hp := hp) s.1 (tab T s.2 b)
  have e7 := bitT (hp := hp) s.1 (tab T s.2 b)
  have e8 := dnotin (hp := hp) (nxt T s b) q.1
  have lc := h.cv.len hn g.pos
  have ll := h.ll
  have hbig : big = 1000000 := rfl
  have en : nxt T s b = (s.1 ||| 2 ^ tab T s.2 b, tab T s.2 b) := rfl
  obtain ⟨p, hp2⟩ : ∃ p, 2 ^ tab T s.2 b = p := ⟨_, rfl⟩
  obtain ⟨o, ho⟩ : ∃ o, s.1 ||| p = o := ⟨_, rfl⟩
  obtain ⟨r, hr⟩ : ∃ r, s.1 / p = r := ⟨_, rfl⟩
  obtain ⟨v, hv⟩ : ∃ v, r &&& 1 = v := ⟨_, rfl⟩
  rw [hp2] at e3 e4 e5 e6 e7 en
  rw [hr] at e5 e6 e7
  rw [hv] at e6 e7
  rw [ho] at e4 en
  rw [en] at e8
  have e8 : pDNotIn hp [.tup [.int (o : Int), .int (tab T s.2 b : Int)], cmD q.1] = some (.bl (!decide ((o, tab T s.2 b) ∈ keys q.1))) := e8
  unfold stp
  rw [en]
  by_cases hf : s.1.testBit (tab T s.2 b) = false
  · rw [hf] at e7
    by_cases hk : (o, tab T s.2 b) ∈ keys q.1
    · rw [if_neg (fun z => z.2 hk)]
      rw [decide_eq_true hk] at e8
      refine ⟨Z0 n T S hp lv (.val (.int (s.1 : Int))) (.val (.int (s.2 : Int))) (.val (.int (b : Int))) (.val (.int (tab T s.2 b : Int))) (.val (stD (o, tab T s.2 b))) q, ?_, _, _, rfl⟩
      simp [B_walks_of_0, Z0, evF, r_ok, r_exn, r_to, r_toX, e_lit, e_val, e_nil, e_cons, e_tup, e_lst, e_prim, e_wk, e_call, e_chain, e_and, e_or, e_not, e_ite, e_dct, e_share, e_test, s_skip, s_seq, s_set, s_own, s_expr, s_ret, s_retN, s_ite, truth, view, setTg, E.np, e_ownL, e_ownN, e_lockN, s_par, p_nil, p_cons, attr0, e1, e2, e3, e4, e5, e6, e7, e8, big, nI, stD]
    · rw [if_pos ⟨by simp [free, hf], hk⟩]
      rw [decide_eq_false hk] at e8
      have p1 : ∀ z, z = (⟨[.val (grD n T), .val (.tup (dl S)), .own (cmD q.1), .val lv, .own (.lst (q.2.map stD)), .val (.int (s.1 : Int)), .val (.int (s.2 : Int)), .val (.int (b : Int)), .val (.int (tab T s.2 b : Int)), .val (.tup [.int (o : Int), .int (tab T s.2 b : Int)])], hp⟩ : Z) →
          evS (.seq (.putD 2 (.var 9) (.tupE (.cons (.tupE (.cons (.var 5) (.cons (.var 6) .nil))) (.cons (.var 7) .nil)))) (.app 4 (.var 9))) z = .next (Z0 n T S hp lv (.val (.int (s.1 : Int))) (.val (.int (s.2 : Int))) (.val (.int (b : Int))) (.val (.int (tab T s.2 b : Int))) (.val (stD (o, tab T s.2 b))) (q.1 ++ [((o, tab T s.2 b), some (s, b))], q.2 ++ [(o, tab T s.2 b)])) := by
        rintro z rfl
        rw [s_seq]
        have a1 := s_putD (i := 2) (z := ⟨[.val (grD n T), .val (.tup (dl S)), .own (cmD q.1), .val lv, .own (.lst (q.2.map stD)), .val (.int (s.1 : Int)), .val (.int (s.2 : Int)), .val (.int (b : Int)), .val (.int (tab T s.2 b : Int)), .val (.tup [.int (o : Int), .int (tab T s.2 b : Int)])], hp⟩) (k := .var 9) (e := .tupE (.cons (.tupE (.cons (.var 5) (.cons (.var 6) .nil))) (.cons (.var 7) .nil))) (d := valD (some (s, b))) (j := stD (o, tab T s.2 b))
          (z1 := ⟨[.val (grD n T), .val (.tup (dl S)), .own (cmD q.1), .val lv, .own (.lst (q.2.map stD)), .val (.int (s.1 : Int)), .val (.int (s.2 : Int)), .val (.int (b : Int)), .val (.int (tab T s.2 b : Int)), .val (.tup [.int (o : Int), .int (tab T s.2 b : Int)])], hp⟩) (by simp [evF, r_ok, r_exn, r_to, r_toX, e_lit, e_val, e_nil, e_cons, e_tup, e_lst, e_prim, e_wk, e_call, e_chain, e_and, e_or, e_not, e_ite, e_dct, e_share, e_test, s_skip, s_seq, s_set, s_own, s_expr, s_ret, s_retN, s_ite, truth, view, setTg, E.np, e_ownL, e_ownN, e_lockN, s_par, p_nil, p_cons, big, valD, stD]) rfl (e_val rfl) rfl (key_st _) (by rw [List.length_map]; omega)
        rw [a1, dPut_new _ hk]
        dsimp only
        have a2 := s_app (i := 4) (z := Z0 n T S hp lv (.val (.int (s.1 : Int))) (.val (.int (s.2 : Int))) (.val (.int (b : Int))) (.val (.int (tab T s.2 b : Int))) (.val (stD (o, tab T s.2 b))) (q.1 ++ [((o, tab T s.2 b), some (s, b))], q.2)) (e := .var 9) (d := stD (o, tab T s.2 b)) rfl (e_val rfl) rfl (by simp only [List.length_map]; omega)
        refine Eq.trans a2 ?_
        simp [Z0]
      refine ⟨Z0 n T S hp lv (.val (.int (s.1 : Int))) (.val (.int (s.2 : Int))) (.val (.int (b : Int))) (.val (.int (tab T s.2 b : Int))) (.val (stD (o, tab T s.2 b))) (q.1 ++ [((o, tab T s.2 b), some (s, b))], q.2 ++ [(o, tab T s.2 b)]), ?_, _, _, rfl⟩
      unfold B_walks_of_0
      generalize G.S.seq (.putD 2 (.var 9) (.tupE (.cons (.tupE (.cons (.var 5) (.cons (.var 6) .nil))) (.cons (.var 7) .nil)))) (.app 4 (.var 9)) = SS at p1
      simp [evF, r_ok, r_exn, r_to, r_toX, e_lit, e_val, e_nil, e_cons, e_tup, e_lst, e_prim, e_wk, e_call, e_chain, e_and, e_or, e_not, e_ite, e_dct, e_share, e_test, s_skip, s_seq, s_set, s_own, s_expr, s_ret, s_retN, s_ite, truth, view, setTg, E.np, e_ownL, e_ownN, e_lockN, s_par, p_nil, p_cons, Z0, attr0, e1, e2, e3, e4, e5, e6, e7, e8, big, nI]
      have p1' := p1 _ rfl
      simp only [Z0, List.map_append] at p1'
      exact p1'
  · rw [if_neg (fun z => hf (by simpa [free] using z.1))]
    have hf : s.1.testBit (tab T s.2 b) = true := by simpa using hf
    rw [hf] at e7
    refine ⟨Z0 n T S hp lv (.val (.int (s.1 : Int))) (.val (.int (s.2 : Int))) (.val (.int (b : Int))) (.val (.int (tab T s.2 b : Int))) (.val (stD (o, tab T s.2 b))) q, ?_, _, _, rfl⟩
    simp [B_walks_of_0, Z0, evF, r_ok, r_exn, r_to, r_toX, e_lit, e_val, e_nil, e_cons, e_tup, e_lst, e_prim, e_wk, e_call, e_chain, e_and, e_or, e_not, e_ite, e_dct, e_share, e_test, s_skip, s_seq, s_set, s_own, s_expr, s_ret, s_retN, s_ite, truth, view, setTg, E.np, e_ownL, e_ownN, e_lockN, s_par, p_nil, p_cons, attr0, e1, e2, e3, e4, e5, e6, e7, big, stD]
theorem wo_row (g : Grp n T) (hS : ∀ b ∈ S, b < n) (hs12 : S.length ≤ 24) (hn : n ≤ 12) {c0 : Cm} {lv : D} {s : Sp} {q : Cm × List Sp} {s7 s8 s9 : Slot} (h : Gd n T S c0 q) (hs : s ∈ keys q.1) :
    ∃ z', evS L_walks_of_0 (Z0 n T S hp lv (.val (.int (s.1 : Int))) (.val (.int (s.2 : Int))) s7 s8 s9 q) = .next z' ∧ ∃ s7 s8 s9, z' = Z0 n T S hp lv (.val (.int (s.1 : Int))) (.val (.int (s.2 : Int))) s7 s8 s9 (lev T S q s) := by
  obtain ⟨z', e, h1, h2, s7', s8', s9', rfl⟩ := for_fold (t := .one 7) (it := .var 1) (b := B_walks_of_0) (z := Z0 n T S hp lv (.val (.int (s.1 : Int))) (.val (.int (s.2 : Int))) s7 s8 s9 q) dn
    (fun (q : Cm × List Sp) z => Gd n T S c0 q ∧ s ∈ keys q.1 ∧ ∃ s7 s8 s9, z = Z0 n T S hp lv (.val (.int (s.1 : Int))) (.val (.int (s.2 : Int))) s7 s8 s9 q) (stp T s) S q (e_val rfl) (items_dnT (big_of hs12)) ⟨h, hs, _, _, _, rfl⟩ (fun b q z hb hz => by
      obtain ⟨h, hs, s7, s8, s9, rfl⟩ := hz
      obtain ⟨z', e, s8', s9', rfl⟩ := wo_turn (hp := hp) (lv := lv) (s8 := s8) (s9 := s9) g hS hn h hs hb
      obtain ⟨h1, h2, _⟩ := stp_gd g hS h hs hb
      exact ⟨_, _, rfl, .inl e, h1, h2 s hs, _, _, _, rfl⟩)
  exact ⟨_, e, _, _, _, rfl⟩
theorem gd0 {c0 : Cm} (hc : Cv n T S c0) : Gd n T S c0 (c0, []) := ⟨hc, (fun _ q => nomatch q), by simp, fun _ h => h, fun _ h => .inl h⟩
theorem wo_level (g : Grp n T) (hS : ∀ b ∈ S, b < n) (hs12 : S.length ≤ 24) (hn : n ≤ 12) {c0 : Cm} {L : List Sp} {s5 s6 s7 s8 s9 : Slot} (hc : Cv n T S c0) (hL : ∀ s ∈ L, s ∈ keys c0) (hl : L.length ≤ 49152) :
    ∃ z', evS L_walks_of_1 (Z0 n T S hp (.lst (L.map stD)) s5 s6 s7 s8 s9 (c0, [])) = .next z' ∧ ∃ s5 s6 s7 s8 s9, z' = Z0 n T S hp (.lst (L.map stD)) s5 s6 s7 s8 s9 (L.foldl (lev T S) (c0, [])) := by
  obtain ⟨z', e, h1, h2, s5', s6', s7', s8', s9', rfl⟩ := for_fold (t := .tup [5, 6]) (it := .var 3) (b := B_walks_of_1) (z := Z0 n T S hp (.lst (L.map stD)) s5 s6 s7 s8 s9 (c0, [])) stD
    (fun (q : Cm × List Sp) z => Gd n T S c0 q ∧ (∀ s ∈ L, s ∈ keys q.1) ∧ ∃ s5 s6 s7 s8 s9, z = Z0 n T S hp (.lst (L.map stD)) s5 s6 s7 s8 s9 q) (lev T S) L (c0, []) (e_val rfl) (items_lst (by rw [List.length_map]; exact big_of hl)) ⟨(gd0 hc), hL, _, _, _, _, _, rfl⟩ (fun s q z hs hz => by
      obtain ⟨h, hL, s5, s6, s7, s8, s9, rfl⟩ := hz
      obtain ⟨z', e, s7', s8', s9', rfl⟩ := wo_row (hp := hp) (lv := .lst (L.map stD)) (s7 := s7) (s8 := s8) (s9 := s9) g hS hs12 hn h (hL s hs)
      obtain ⟨h1, h2, _⟩ := lev_gd g hS (s := s) S q (fun _ hb => hb) h (hL s hs)
      exact ⟨_, _, rfl, .inl e, h1, fun x hx => h2 x (hL x hx), _, _, _, _, _, rfl⟩)
  exact ⟨_, e, _, _, _, _, _, rfl⟩
theorem nodup_len {a b : List Sp} (ha : a.Nodup) (h : ∀ x ∈ a, x ∈ b) : a.length ≤ b.length := by
  induction a generalizing b with
  | nil => exact Nat.zero_le _
  | cons x a ih =>
    obtain ⟨h1, h2⟩ := List.nodup_cons.mp ha
    have hx := h x List.mem_cons_self
    have := ih (b := b.erase x) h2 fun y hy => (List.mem_erase_of_ne fun (e : y = x) => h1 (e ▸ hy)).mpr (h y (List.mem_cons_of_mem _ hy))
    have e := List.length_erase_of_mem hx
    have := List.length_pos_of_mem hx
    rw [List.length_cons]
    omega
/-- what the outer loop keeps -/
def PW (n : Nat) (T : List (List Nat)) (S : List Nat) (hp : List D) (k : Nat) (z : Z) : Prop := ∃ (c : Cm) (L : List Sp) (s4 s5 s6 s7 s8 s9 : Slot), z = ⟨[.val (grD n T), .val (.tup (dl S)), .own (cmD c), .val (.lst (L.map stD)), s4, s5, s6, s7, s8, s9], hp⟩ ∧
  Cv n T S c ∧ (∀ s ∈ L, s ∈ keys c) ∧ (∀ x ∈ keys c, x ∈ L ∨ Ex T S c x) ∧ L.length ≤ c.length ∧ k = 2 * (60000 - c.length) + (if L = [] then 0 else 1)
theorem flats_st (k : Nat) : ∀ L : List Sp, flats (k + 1) (L.map stD) = true
  | [] => by cases k <;> rfl
  | s :: L => by
    show (flat (k + 1) (stD s) && flats (k + 1) (L.map stD)) = true
    rw [flats_st k L]
    cases k <;> rfl
theorem wo_while (g : Grp n T) (hS : ∀ b ∈ S, b < n) (hs12 : S.length ≤ 24) (hn : n ≤ 12) {z : Z} {k : Nat} (hz : PW n T S hp k z) (hk : k ≤ 1000000) :
    ∃ z', evS L_walks_of_2 z = .next z' ∧ ∃ (c : Cm) (s3 s4 s5 s6 s7 s8 s9 : Slot), z' = ⟨[.val (grD n T), .val (.tup (dl S)), .own (cmD c), s3, s4, s5, s6, s7, s8, s9], hp⟩ ∧ Cv n T S c ∧ ∀ x ∈ keys c, Ex T S c x :=
  while_ix (c := .prim pNe (.cons (.var 3) (.cons (.lstE .nil) .nil))) (b := B_walks_of_2) (PW n T S hp) _ k hz hk fun k z hz => by
    obtain ⟨c, L, s4, s5, s6, s7, s8, s9, rfl, hc, hL, he, hlen, rfl⟩ := hz
    by_cases h0 : L = []
    · subst h0
      refine .inl ⟨⟨[.val (grD n T), .val (.tup (dl S)), .own (cmD c), .val (.lst []), s4, s5, s6, s7, s8, s9], hp⟩, ?_, c, _, _, _, _, _, _, _, rfl, hc, fun x hx => (he x hx).elim (fun q => (nomatch q)) id⟩
      simp [evF, r_ok, r_exn, r_to, r_toX, e_lit, e_val, e_nil, e_cons, e_tup, e_lst, e_prim, e_wk, e_call, e_chain, e_and, e_or, e_not, e_ite, e_dct, e_share, e_test, s_skip, s_seq, s_set, s_own, s_expr, s_ret, s_retN, s_ite, truth, view, setTg, E.np, e_ownL, e_ownN, e_lockN, s_par, p_nil, p_cons, pNeE]
    · have e1 := pNe1 (hp := hp) (xs := L.map stD) (fun q => h0 (List.map_eq_nil_iff.mp q)) (flats_st 48 L)
      have hcl := hc.len hn g.pos
      obtain ⟨z', e, s5', s6', s7', s8', s9', rfl⟩ := wo_level (hp := hp) (s5 := s5) (s6 := s6) (s7 := s7) (s8 := s8) (s9 := s9) g hS hs12 hn hc hL (by omega)
      obtain ⟨h1, h2, h3⟩ := levs_gd g hS L (c, []) (gd0 hc) hL
      generalize hq : L.foldl (lev T S) (c, []) = q at *
      obtain ⟨c', lo⟩ := q
      have hcl' := h1.cv.len hn g.pos
      have hll := h1.ll
      dsimp only at hll hcl'
      refine .inr ⟨⟨[.val (grD n T), .val (.tup (dl S)), .own (cmD c), .val (.lst (L.map stD)), s4, s5, s6, s7, s8, s9], hp⟩, ⟨[.val (grD n T), .val (.tup (dl S)), .own (cmD c'), .val (.lst (lo.map stD)), .val (.lst (lo.map stD)), s5', s6', s7', s8', s9'], hp⟩, 2 * (60000 - c'.length) + (if lo = [] then 0 else 1), ?_, .inl ?_, ⟨c', lo, _, _, _, _, _, _, rfl, h1.cv, h1.lo, fun x hx => ?_, by omega, rfl⟩, ?_⟩
      · simp [evF, r_ok, r_exn, r_to, r_toX, e_lit, e_val, e_nil, e_cons, e_tup, e_lst, e_prim, e_wk, e_call, e_chain, e_and, e_or, e_not, e_ite, e_dct, e_share, e_test, s_skip, s_seq, s_set, s_own, s_expr, s_ret, s_retN, s_ite, truth, view, setTg, E.np, e_ownL, e_ownN, e_lockN, s_par, p_nil, p_cons, e1]
      · have e3 : evS (.own 4 (.lstE .nil)) ⟨[.val (grD n T), .val (.tup (dl S)), .own (cmD c), .val (.lst (L.map stD)), s4, s5, s6, s7, s8, s9], hp⟩ = .next (Z0 n T S hp (.lst (L.map stD)) s5 s6 s7 s8 s9 (c, [])) := by
          simp [evF, r_ok, r_exn, r_to, r_toX, e_lit, e_val, e_nil, e_cons, e_tup, e_lst, e_prim, e_wk, e_call, e_chain, e_and, e_or, e_not, e_ite, e_dct, e_share, e_test, s_skip, s_seq, s_set, s_own, s_expr, s_ret, s_retN, s_ite, truth, view, setTg, E.np, e_ownL, e_ownN, e_lockN, s_par, p_nil, p_cons, ownable, Z0]
        have e4 : evS (.set (.one 3) (.var 4)) (Z0 n T S hp (.lst (L.map stD)) s5' s6' s7' s8' s9' (c', lo)) = .next ⟨[.val (grD n T), .val (.tup (dl S)), .own (cmD c'), .val (.lst (lo.map stD)), .val (.lst (lo.map stD)), s5', s6', s7', s8', s9'], hp⟩ := by
          rw [s_set, e_frz (xs := lo.map stD) rfl, r_to]
          rfl
        unfold B_walks_of_2
        rw [s_seq, e3]
        dsimp only
        rw [s_seq, e]
        exact e4
      · rcases h1.new x hx with q | q
        · rcases he x q with q' | q'
          · exact .inr (h3 x q')
          · exact .inr fun b hb hf => h2 _ (q' b hb hf)
        · exact .inl q
      · rw [if_neg h0]
        by_cases hlo : lo = []
        · rw [if_pos hlo]
          subst hlo
          have : ([] : List Sp).length = 0 := rfl
          omega
        · rw [if_neg hlo]
          have := List.length_pos_iff.mpr hlo
          omega
theorem walks_of (g : Grp n T) (hS : ∀ b ∈ S, b < n) (hs12 : S.length ≤ 24) (hn : n ≤ 12) : ∃ c, F_walks_of [grD n T, .tup (dl S)] hp = .ok (cmD c) hp ∧ Cv n T S c ∧ ∀ x ∈ keys c, Ex T S c x := by
  have hp0 := g.pos
  have hc0 : Cv n T S [((1, 0), none)] := by
    refine ⟨by simp [keys], fun s hs => ?_, fun s hs => ?_, fun p hp => ?_, by simp [keys]⟩
    · simp [keys] at hs
      subst hs
      exact ⟨Nat.one_lt_two_pow (by omega), hp0⟩
    · simp [keys] at hs
      subst hs
      exact ⟨[], Wd.nil⟩
    · simp at hp
      subst hp
      exact .inl ⟨rfl, rfl⟩
  obtain ⟨z', e, c, s3, s4, s5, s6, s7, s8, s9, rfl, h1, h2⟩ := wo_while (hp := hp) (z := ⟨[.val (grD n T), .val (.tup (dl S)), .own (cmD [((1, 0), none)]), .val (.lst [stD (1, 0)]), .no, .no, .no, .no, .no, .no], hp⟩) g hS hs12 hn (k := _)
    ⟨[((1, 0), none)], [(1, 0)], _, _, _, _, _, _, rfl, hc0, fun s hs => by simp at hs; subst hs; simp [keys], fun x hx => .inl (by simpa [keys] using hx), by simp, rfl⟩ (by decide)
  refine ⟨c, ?_, h1, h2⟩
  have e2 : evS (.par [(2, true, (.dctE true (.cons (.tupE (.cons (.lit (.int 1)) (.cons (.lit (.int 0)) .nil))) (.cons (.lit .non) .nil)))), (3, false, (.lstE (.cons (.tupE (.cons (.lit (.int 1)) (.cons (.lit (.int 0)) .nil))) .nil)))]) ⟨[.val (grD n T), .val (.tup (dl S)), .no, .no, .no, .no, .no, .no, .no, .no], hp⟩ =
      .next ⟨[.val (grD n T), .val (.tup (dl S)), .own (cmD [((1, 0), none)]), .val (.lst [stD (1, 0)]), .no, .no, .no, .no, .no, .no], hp⟩ := rfl
  have e3 : evS (.ret (.keepD 2)) ⟨[.val (grD n T), .val (.tup (dl S)), .own (cmD c), s3, s4, s5, s6, s7, s8, s9], hp⟩ = .ret (cmD c) ⟨[.val (grD n T), .val (.tup (dl S)), .val (cmD c), s3, s4, s5, s6, s7, s8, s9], hp⟩ := by
    rw [s_ret, e_keepO (tk := true) (ks := c.map fun p => stD p.1) (vs := c.map fun p => valD p.2) rfl, r_to]
    rfl
  show (match evS b_walks_of ⟨[.val (grD n T), .val (.tup (dl S)), .no, .no, .no, .no, .no, .no, .no, .no], hp⟩ with | O.ret d z => RF.ok d z.hp | O.next z => RF.ok .non z.hp | O.exn c ds z => RF.exn c ds z.hp | _ => RF.bad) = _
  unfold b_walks_of
  rw [s_seq, e2]
  dsimp only
  rw [s_seq, e]
  dsimp only
  rw [e3]
end
end K66
end
section
set_option Elab.async false
set_option linter.all false
set_option maxRecDepth 100000
/-! PF: hamilton. -/
namespace K66
open G
section
variable {n : Nat} {T : List (List Nat)} {S : List Nat} {hp : List D}
theorem ris_pw : ∀ {l : List Nat}, risB l = true → l.Pairwise (· < ·)
  | [], _ => List.Pairwise.nil
  | [x], _ => List.pairwise_singleton _ _
  | x :: y :: r, h => by
    have h : (decide (x < y) && risB (y :: r)) = true := h
    obtain ⟨h1, h2⟩ := and_tt h
    have h1 := of_decide_eq_true h1
    have ih := ris_pw h2
    refine List.pairwise_cons.mpr ⟨fun z hz => ?_, ih⟩
    rcases List.mem_cons.mp hz with e | hz
    · rw [e]; exact h1
    · exact Nat.lt_trans h1 ((List.pairwise_cons.mp ih).1 z hz)
theorem ris_len {l : List Nat} (h : risB l = true) (hl : ∀ x ∈ l, x < n) : l.length ≤ n := nodup_bound n l ((ris_pw h).imp fun h => Nat.ne_of_lt h) hl
theorem isSc_dl : ∀ l : List Nat, (dl l).all isSc = true
  | [] => rfl
  | x :: l => isSc_dl l
theorem any_dl (x : Nat) : ∀ l : List Nat, ((dl l).any fun y => eqb y (dn x)) = decide (x ∈ l)
  | [] => rfl
  | y :: l => by
    show (eqb (dn y) (dn x) || (dl l).any fun y => eqb y (dn x)) = _
    rw [any_dl x l, eqb_dn, ← Bool.decide_or]
    exact decide_eq_decide.mpr (by rw [List.mem_cons]; exact or_congr eq_comm Iff.rfl)
theorem inN (x : Nat) (l : List Nat) : pIn hp [.int (x : Int), .tup (dl l)] = some (.bl (decide (x ∈ l))) := by
  have e : pIn hp [.int (x : Int), .tup (dl l)] = if isSc (dn x) && (dl l).all isSc then some (.bl ((dl l).any fun y => eqb y (dn x))) else none := rfl
  rw [e, isSc_dl, any_dl]
  rfl
/-- the walks that come back -/
def Back (n : Nat) (T : List (List Nat)) (S : List Nat) : Prop := ∃ w l, Wd T S w (2 ^ n - 1) l ∧ l < n ∧ iv T n l ∈ S
def PH (n : Nat) (T : List (List Nat)) (S : List Nat) (hp : List D) (c : Cm) (En : List Nat) (l full k : Nat) (z : Z) : Prop := ∃ (s : Sp) (fs rest : List Nat) (s7 s8 : Slot), z = ⟨[.val (grD n T), .val (.tup (dl S)), .val (cmD c), .val (.int (full : Int)), .val (.lst (dl En)), .own (.lst (dl fs)), .val (stD s), s7, s8], hp⟩ ∧
  s ∈ keys c ∧ fs = iv T n l :: rest.reverse ∧ (∀ w, Wd T S w s.1 s.2 → Wd T S (w ++ rest) full l) ∧ k = s.1
theorem hm_while (g : Grp n T) (hS : ∀ b ∈ S, b < n) (hn : n ≤ 12) {c : Cm} {En : List Nat} {l : Nat} (hc : Cv n T S c) {z : Z} {k : Nat} (hz : PH n T S hp c En l (2 ^ n - 1) k z) (hk : k ≤ 1000000) :
    ∃ z', evS L_hamilton_0 z = .next z' ∧ ∃ (rest : List Nat) (s6 s7 s8 : Slot), z' = ⟨[.val (grD n T), .val (.tup (dl S)), .val (cmD c), .val (.int ((2 ^ n - 1 : Nat) : Int)), .val (.lst (dl En)), .own (.lst (dl (iv T n l :: rest.reverse))), s6, s7, s8], hp⟩ ∧ Wd T S rest (2 ^ n - 1) l :=
  while_ix (c := .prim pIsNot (.cons (.prim pDIx (.cons (.var 2) (.cons (.var 6) .nil))) (.cons (.lit .non) .nil))) (b := B_hamilton_0) (PH n T S hp c En l (2 ^ n - 1)) _ k hz hk fun k z hz => by
    obtain ⟨s, fs, rest, s7, s8, rfl, hs, rfl, hw, rfl⟩ := hz
    generalize 2 ^ n - 1 = full at *
    obtain ⟨v, hv, hm⟩ := look_mem hs
    have e1 := dix (hp := hp) hv
    rcases hc.pred _ hm with ⟨h1, h2⟩ | ⟨q, b, h1, h2, h3, h4, h5⟩
    · have h1 : v = none := h1
      subst h1
      have h2 : s = (1, 0) := h2
      subst h2
      refine .inl ⟨⟨[.val (grD n T), .val (.tup (dl S)), .val (cmD c), .val (.int (full : Int)), .val (.lst (dl En)), .own (.lst (dl (iv T n l :: rest.reverse))), .val (stD (1, 0)), s7, s8], hp⟩, ?_, rest, _, _, _, rfl, hw [] Wd.nil⟩
      simp [evF, r_ok, r_exn, r_to, r_toX, e_lit, e_val, e_nil, e_cons, e_tup, e_lst, e_prim, e_wk, e_call, e_chain, e_and, e_or, e_not, e_ite, e_dct, e_share, e_test, s_skip, s_seq, s_set, s_own, s_expr, s_ret, s_retN, s_ite, truth, view, setTg, E.np, e_ownL, e_ownN, e_lockN, s_par, p_nil, p_cons, e1, valD, pIsNot, isN]
    · have h1 : v = some (q, b) := h1
      subst h1
      have h5 : s = nxt T q b := h5
      obtain ⟨w0, hw0⟩ := hc.wd s hs
      have hlen : rest.length ≤ 24 := by
        have f := wd_f g hS (hw w0 hw0)
        have := nodup_bound n _ f.nd f.lt
        have f2 := f.len
        rw [List.length_append] at f2
        rw [List.length_cons] at this
        omega
      refine .inr ⟨⟨[.val (grD n T), .val (.tup (dl S)), .val (cmD c), .val (.int (full : Int)), .val (.lst (dl En)), .own (.lst (dl (iv T n l :: rest.reverse))), .val (stD s), s7, s8], hp⟩, ⟨[.val (grD n T), .val (.tup (dl S)), .val (cmD c), .val (.int (full : Int)), .val (.lst (dl En)), .own (.lst (dl (iv T n l :: (b :: rest).reverse))), .val (stD q), .val (.int (b : Int)), s8], hp⟩, q.1, ?_, .inl ?_, ⟨q, _, b :: rest, _, _, rfl, h2, rfl, fun w hq => ?_, rfl⟩, ?_⟩
      · simp [evF, r_ok, r_exn, r_to, r_toX, e_lit, e_val, e_nil, e_cons, e_tup, e_lst, e_prim, e_wk, e_call, e_chain, e_and, e_or, e_not, e_ite, e_dct, e_share, e_test, s_skip, s_seq, s_set, s_own, s_expr, s_ret, s_retN, s_ite, truth, view, setTg, E.np, e_ownL, e_ownN, e_lockN, s_par, p_nil, p_cons, e1, valD, pIsNot, isN]
      · have a1 : evS (.set (.tup [6, 7]) (.prim pDIx (.cons (.var 2) (.cons (.var 6) .nil)))) ⟨[.val (grD n T), .val (.tup (dl S)), .val (cmD c), .val (.int (full : Int)), .val (.lst (dl En)), .own (.lst (dl (iv T n l :: rest.reverse))), .val (stD s), s7, s8], hp⟩ =
            .next ⟨[.val (grD n T), .val (.tup (dl S)), .val (cmD c), .val (.int (full : Int)), .val (.lst (dl En)), .own (.lst (dl (iv T n l :: rest.reverse))), .val (stD q), .val (.int (b : Int)), s8], hp⟩ := by
          simp [evF, r_ok, r_exn, r_to, r_toX, e_lit, e_val, e_nil, e_cons, e_tup, e_lst, e_prim, e_wk, e_call, e_chain, e_and, e_or, e_not, e_ite, e_dct, e_share, e_test, s_skip, s_seq, s_set, s_own, s_expr, s_ret, s_retN, s_ite, truth, view, setTg, E.np, e_ownL, e_ownN, e_lockN, s_par, p_nil, p_cons, e1, valD, setMany]
        unfold B_hamilton_0
        rw [s_seq, a1]
        dsimp only
        refine Eq.trans (s_app (xs := dl (iv T n l :: rest.reverse)) rfl (e_val rfl) rfl (by rw [dl_len, List.length_cons, List.length_reverse]; show _ < 1000000; omega)) ?_
        simp [dl]
      · have := hw (w ++ [b]) (by rw [h5]; exact Wd.snoc b hq h3 (by simpa [free] using h4))
        rw [List.append_assoc] at this
        exact this
      · rw [h5]
        have h4 : q.1.testBit (tab T q.2 b) = false := by simpa [free] using h4
        have le : q.1 ≤ q.1 ||| 2 ^ tab T q.2 b := Nat.left_le_or
        have ne : q.1 ≠ q.1 ||| 2 ^ tab T q.2 b := fun e => by
          rw [e, bit_or] at h4
          simp at h4
        show q.1 < q.1 ||| 2 ^ tab T q.2 b
        omega
theorem pEqE : pEq hp [.lst [], .lst []] = some (.bl true) := rfl
theorem sub1 (m : Nat) (h : 1 ≤ m) : pSub hp [.int (m : Int), .int 1] = some (.int ((m - 1 : Nat) : Int)) := by
  show some (D.int ((m : Int) - 1)) = _
  rw [show ((m : Int) - 1) = ((m - 1 : Nat) : Int) by omega]
theorem hamilton (g : Grp n T) (hn : n ≤ 12) (hset : setB n (.tup (dl S)) = true) (hS : ∀ b ∈ S, b < n) : ∃ d, F_hamilton [grD n T, .tup (dl S)] hp = .ok d hp ∧
    ((d = .non ∧ ¬ Back n T S) ∨ ∃ w l, d = .tup (dl (w ++ [iv T n l])) ∧ Wd T S w (2 ^ n - 1) l ∧ l < n ∧ iv T n l ∈ S) := by
  have hris : risB S = true := by
    have e : setB n (.tup (dl S)) = (match natsB n (dl S) with | some l => risB l | none => false) := rfl
    rw [e, natsB_dl hS] at hset
    exact hset
  have hlen := ris_len hris hS
  have h24 := g.le
  have hp0 := g.pos
  have okS : okV (.tup (dl S)) = true := by
    show ((dl S).all plainD && decide ((dl S).length ≤ big)) = true
    rw [dl_len, decide_eq_true (big_of (by omega : S.length ≤ 24))]
    have : (dl S).all plainD = true := List.all_eq_true.mpr fun d hd => by
      obtain ⟨x, _, rfl⟩ := List.mem_map.mp hd
      rfl
    rw [this]; rfl
  have e0 := check_subset (n := n) (T := T) (hp := hp) okS
  rw [hset, if_pos rfl] at e0
  obtain ⟨c, e1, hc, hx⟩ := walks_of (hp := hp) g hS (by omega) hn
  obtain ⟨p, ep⟩ : ∃ p, 2 ^ n = p := ⟨_, rfl⟩
  have hp1 : 1 ≤ p := by rw [← ep]; exact Nat.one_le_two_pow
  have e2 := shl1 (hp := hp) (t := n) (by omega)
  rw [ep] at e2
  have e3 := sub1 (hp := hp) p hp1
  obtain ⟨full, ef⟩ : ∃ f, p - 1 = f := ⟨_, rfl⟩
  rw [ef] at e3
  have efull : 2 ^ n - 1 = full := by rw [ep, ef]
  have nin : ¬ ((12 : Int) < (n : Int)) := by omega
  let En := (List.range n).filter fun l => decide ((full, l) ∈ keys c) && decide (iv T n l ∈ S)
  have c0 : ∀ pk s4 s5 s6 s7 s8, freeTg [8] [.val (grD n T), .val (.tup (dl S)), .val (cmD c), .val (.int (full : Int)), s4, s5, s6, s7, s8] = true → (s4 = .no ∧ s5 = .no ∧ s6 = .no ∧ s7 = .no) → evE pk C_hamilton_0 ⟨[.val (grD n T), .val (.tup (dl S)), .val (cmD c), .val (.int (full : Int)), s4, s5, s6, s7, s8], hp⟩ = .ok [.lst (dl En)] ⟨[.val (grD n T), .val (.tup (dl S)), .val (cmD c), .val (.int (full : Int)), s4, s5, s6, s7, s8], hp⟩ := by
    rintro pk s4 s5 s6 s7 s8 hf ⟨rfl, rfl, rfl, rfl⟩
    refine e_comp (by simp [evF, r_ok, r_exn, r_to, r_toX, e_lit, e_val, e_nil, e_cons, e_tup, e_lst, e_prim, e_wk, e_call, e_chain, e_and, e_or, e_not, e_ite, e_dct, e_share, e_test, s_skip, s_seq, s_set, s_own, s_expr, s_ret, s_retN, s_ite, truth, view, setTg, E.np, e_ownL, e_ownN, e_lockN, s_par, p_nil, p_cons, attr1, rng (g_big g)] <;> rfl) (items_dn (rl g)) hf (compL_filter dn dn (fun l => decide ((full, l) ∈ keys c) && decide (iv T n l ∈ S)) _ hp _ fun l hl => ?_)
    have hl := List.mem_range.mp hl
    have e4 : pDIn hp [.tup [.int (full : Int), .int (l : Int)], cmD c] = some (.bl (decide ((full, l) ∈ keys c))) := din (full, l) c
    have e5 := inN (hp := hp) (iv T n l) S
    by_cases h1 : (full, l) ∈ keys c
    · by_cases h2 : iv T n l ∈ S <;> simp [body1, lockE, wipeE, Slot.locked, Tg.ix, evF, r_ok, r_exn, r_to, r_toX, e_lit, e_val, e_nil, e_cons, e_tup, e_lst, e_prim, e_wk, e_call, e_chain, e_and, e_or, e_not, e_ite, e_dct, e_share, e_test, s_skip, s_seq, s_set, s_own, s_expr, s_ret, s_retN, s_ite, truth, view, setTg, E.np, e_ownL, e_ownN, e_lockN, s_par, p_nil, p_cons, inst0, inverse_ hl, e4, e5, h1, h2, big]
    · simp [body1, lockE, wipeE, Slot.locked, Tg.ix, evF, r_ok, r_exn, r_to, r_toX, e_lit, e_val, e_nil, e_cons, e_tup, e_lst, e_prim, e_wk, e_call, e_chain, e_and, e_or, e_not, e_ite, e_dct, e_share, e_test, s_skip, s_seq, s_set, s_own, s_expr, s_ret, s_retN, s_ite, truth, view, setTg, E.np, e_ownL, e_ownN, e_lockN, s_par, p_nil, p_cons, e4, h1, big]
  have hEn : ∀ l, l ∈ En ↔ l < n ∧ (full, l) ∈ keys c ∧ iv T n l ∈ S := fun l => by
    show l ∈ (List.range n).filter _ ↔ _
    rw [List.mem_filter, List.mem_range]
    simp
  have c1 := fun pk => c0 pk .no .no .no .no .no rfl ⟨rfl, rfl, rfl, rfl⟩
  cases hE : En with
  | nil =>
    rw [hE] at c1
    refine ⟨.non, ?_, .inl ⟨rfl, ?_⟩⟩
    · simp [F_hamilton, b_hamilton, evF, r_ok, r_exn, r_to, r_toX, e_lit, e_val, e_nil, e_cons, e_tup, e_lst, e_prim, e_wk, e_call, e_chain, e_and, e_or, e_not, e_ite, e_dct, e_share, e_test, s_skip, s_seq, s_set, s_own, s_expr, s_ret, s_retN, s_ite, truth, view, setTg, E.np, e_ownL, e_ownN, e_lockN, s_par, p_nil, p_cons, e0, attr1, pGt, nin, e1, e2, e3, c1, pEqE, big, setMany, dl_nil]
    · rintro ⟨w, l, h1, h2, h3⟩
      rw [efull] at h1
      have := (hEn l).mpr ⟨h2, all_met g hc hx h1, h3⟩
      rw [hE] at this
      cases this
  | cons l r =>
    rw [hE] at c1
    obtain ⟨hl, hk, hi⟩ := (hEn l).mp (by rw [hE]; exact List.mem_cons_self)
    have e6 := pEq1 (hp := hp) (xs := dl (l :: r)) (fun q => nomatch q) (flats_dl 49 _)
    have e7 := ix_dl0 (hp := hp) (l := l :: r) (Nat.succ_pos _)
    have e7 : pIx hp [.lst (dl (l :: r)), .int 0] = some (.int (l : Int)) := e7
    have hbound : full ≤ 1000000 := by
      have : 2 ^ n ≤ 2 ^ 12 := Nat.pow_le_pow_right (by decide) hn
      have : (2 : Nat) ^ 12 = 4096 := by decide
      omega
    obtain ⟨z', e8, rest, s6, s7, s8, rfl, hw⟩ := hm_while (hp := hp) (En := l :: r) (l := l) g hS hn hc (z := ⟨[.val (grD n T), .val (.tup (dl S)), .val (cmD c), .val (.int ((2 ^ n - 1 : Nat) : Int)), .val (.lst (dl (l :: r))), .own (.lst (dl [iv T n l])), .val (stD (2 ^ n - 1, l)), .no, .no], hp⟩) (k := 2 ^ n - 1)
      ⟨(2 ^ n - 1, l), [iv T n l], [], .no, .no, rfl, by rw [efull]; exact hk, rfl, fun w hw => by rw [List.append_nil]; exact hw, rfl⟩ (by rw [efull]; exact hbound)
    rw [efull] at e8 hw
    refine ⟨_, ?_, .inr ⟨rest, l, rfl, by rw [efull]; exact hw, hl, hi⟩⟩
    have e9 : evS (.ret (.prim pTuple (.cons (.prim pRev (.cons (.var 5) .nil)) .nil))) ⟨[.val (grD n T), .val (.tup (dl S)), .val (cmD c), .val (.int (full : Int)), .val (.lst (dl (l :: r))), .own (.lst (dl (iv T n l :: rest.reverse))), s6, s7, s8], hp⟩ =
        .ret (.tup (dl (rest ++ [iv T n l]))) ⟨[.val (grD n T), .val (.tup (dl S)), .val (cmD c), .val (.int (full : Int)), .val (.lst (dl (l :: r))), .own (.lst (dl (iv T n l :: rest.reverse))), s6, s7, s8], hp⟩ := by
      have : pRev hp [.lst (dl (iv T n l :: rest.reverse))] = some (.lst (dl (rest ++ [iv T n l]))) := by
        show some (D.lst (dl (iv T n l :: rest.reverse)).reverse) = _
        rw [show (dl (iv T n l :: rest.reverse)).reverse = dl (rest ++ [iv T n l]) by unfold dl; rw [← List.map_reverse]; simp]
      simp [evF, r_ok, r_exn, r_to, r_toX, e_lit, e_val, e_nil, e_cons, e_tup, e_lst, e_prim, e_wk, e_call, e_chain, e_and, e_or, e_not, e_ite, e_dct, e_share, e_test, s_skip, s_seq, s_set, s_own, s_expr, s_ret, s_retN, s_ite, truth, view, setTg, E.np, e_ownL, e_ownN, e_lockN, s_par, p_nil, p_cons, this, pTup]
    have e10 : evS (.par [(5, true, (.lstE (.cons (.call F_Group_inverse (.cons (.prim (pInst 0) (.cons (.var 0) .nil)) (.cons (.prim pIx (.cons (.var 4) (.cons (.lit (.int 0)) .nil))) .nil))) .nil))), (6, false, (.tupE (.cons (.var 3) (.cons (.prim pIx (.cons (.var 4) (.cons (.lit (.int 0)) .nil))) .nil))))])
        ⟨[.val (grD n T), .val (.tup (dl S)), .val (cmD c), .val (.int (full : Int)), .val (.lst (dl (l :: r))), .no, .no, .no, .no], hp⟩ = .next ⟨[.val (grD n T), .val (.tup (dl S)), .val (cmD c), .val (.int (full : Int)), .val (.lst (dl (l :: r))), .own (.lst (dl [iv T n l])), .val (stD (full, l)), .no, .no], hp⟩ := by
      simp [evF, r_ok, r_exn, r_to, r_toX, e_lit, e_val, e_nil, e_cons, e_tup, e_lst, e_prim, e_wk, e_call, e_chain, e_and, e_or, e_not, e_ite, e_dct, e_share, e_test, s_skip, s_seq, s_set, s_own, s_expr, s_ret, s_retN, s_ite, truth, view, setTg, E.np, e_ownL, e_ownN, e_lockN, s_par, p_nil, p_cons, inst0, e7, inverse_ hl, big, noLock, ownable, stD, dl_one]
    simp [F_hamilton, b_hamilton, evF, r_ok, r_exn, r_to, r_toX, e_lit, e_val, e_nil, e_cons, e_tup, e_lst, e_prim, e_wk, e_call, e_chain, e_and, e_or, e_not, e_ite, e_dct, e_share, e_test, s_skip, s_seq, s_set, s_own, s_expr, s_ret, s_retN, s_ite, truth, view, setTg, E.np, e_ownL, e_ownN, e_lockN, s_par, p_nil, p_cons, e0, attr1, pGt, nin, e1, e2, e3, c1, e6, big, setMany, e10, e8, e9]
end
end K66
end
section
set_option Elab.async false
set_option linter.all false
set_option maxRecDepth 100000
/-! PG: what the law asks, small parts. -/
namespace K66
open G
section
variable {n : Nat} {T : List (List Nat)} {S : List Nat} {hp : List D}
theorem flip2_eq (f : Fn) (a b : D) : flip2 f [b, a] hp = f [a, b] hp := rfl
theorem asked_ok {d r : D} (h : F_hamilton [grD n T, d] hp = .ok r hp) (nm : Bool) : F__law_asked [grD n T, d, .bl nm] hp = .ok r hp := by
  cases nm <;> simp [F__law_asked, b__law_asked, evF, r_ok, r_exn, r_to, r_toX, e_lit, e_val, e_nil, e_cons, e_tup, e_lst, e_prim, e_wk, e_call, e_chain, e_and, e_or, e_not, e_ite, e_dct, e_share, e_test, s_skip, s_seq, s_set, s_own, s_expr, s_ret, s_retN, s_ite, truth, view, setTg, E.np, e_ownL, e_ownN, e_lockN, s_par, p_nil, p_cons, s_try, flip2_eq, h]
theorem asked_ref {d x : D} (h : F_hamilton [grD n T, d] hp = .exn 1 [x] hp) (nm : Bool) : F__law_asked [grD n T, d, .bl nm] hp = .ok (.lst [.str "refused", x]) hp := by
  cases nm <;> (simp [F__law_asked, b__law_asked, evF, r_ok, r_exn, r_to, r_toX, e_lit, e_val, e_nil, e_cons, e_tup, e_lst, e_prim, e_wk, e_call, e_chain, e_and, e_or, e_not, e_ite, e_dct, e_share, e_test, s_skip, s_seq, s_set, s_own, s_expr, s_ret, s_retN, s_ite, truth, view, setTg, E.np, e_ownL, e_ownN, e_lockN, s_par, p_nil, p_cons, s_try, flip2_eq, h]; rfl)
theorem asked_many {d x : D} (h : F_hamilton [grD n T, d] hp = .exn 3 [x] hp) (nm : Bool) : F__law_asked [grD n T, d, .bl nm] hp = .ok (.lst [.str "many", x]) hp := by
  cases nm <;> (simp [F__law_asked, b__law_asked, evF, r_ok, r_exn, r_to, r_toX, e_lit, e_val, e_nil, e_cons, e_tup, e_lst, e_prim, e_wk, e_call, e_chain, e_and, e_or, e_not, e_ite, e_dct, e_share, e_test, s_skip, s_seq, s_set, s_own, s_expr, s_ret, s_retN, s_ite, truth, view, setTg, E.np, e_ownL, e_ownN, e_lockN, s_par, p_nil, p_cons, s_try, flip2_eq, h]; rfl)
theorem hamilton_bad {d : D} (h : okV d = true) (hs : setB n d = false) : F_hamilton [grD n T, d] hp = .exn 1 [d] hp := by
  have e0 := check_subset (n := n) (T := T) (hp := hp) h
  rw [hs] at e0
  have e0 : F_check_subset [grD n T, d] hp = .exn 1 [d] hp := e0
  simp [F_hamilton, b_hamilton, evF, r_ok, r_exn, r_to, r_toX, e_lit, e_val, e_nil, e_cons, e_tup, e_lst, e_prim, e_wk, e_call, e_chain, e_and, e_or, e_not, e_ite, e_dct, e_share, e_test, s_skip, s_seq, s_set, s_own, s_expr, s_ret, s_retN, s_ite, truth, view, setTg, E.np, e_ownL, e_ownN, e_lockN, s_par, p_nil, p_cons, e0]
theorem hamilton_many {d : D} (h : okV d = true) (hs : setB n d = true) (hn : 12 < n) : F_hamilton [grD n T, d] hp = .exn 3 [.int (n : Int)] hp := by
  have e0 := check_subset (n := n) (T := T) (hp := hp) h
  rw [hs, if_pos rfl] at e0
  have e1 : (12 : Int) < (n : Int) := by omega
  have r : ∀ z : Z, z = ⟨[.val (grD n T), .val d, .no, .no, .no, .no, .no, .no, .no], hp⟩ → evS (.raise 3 1 (.cons (.prim (pAttr 0 1) (.cons (.var 0) .nil)) .nil)) z = .exn 3 [.int (n : Int)] z := by
    rintro z rfl
    exact s_raise (by simp [evF, r_ok, r_exn, r_to, r_toX, e_lit, e_val, e_nil, e_cons, e_tup, e_lst, e_prim, e_wk, e_call, e_chain, e_and, e_or, e_not, e_ite, e_dct, e_share, e_test, s_skip, s_seq, s_set, s_own, s_expr, s_ret, s_retN, s_ite, truth, view, setTg, E.np, e_ownL, e_ownN, e_lockN, s_par, p_nil, p_cons, attr1]) rfl
  simp [F_hamilton, b_hamilton, evF, r_ok, r_exn, r_to, r_toX, e_lit, e_val, e_nil, e_cons, e_tup, e_lst, e_prim, e_wk, e_call, e_chain, e_and, e_or, e_not, e_ite, e_dct, e_share, e_test, s_skip, s_seq, s_set, s_own, s_expr, s_ret, s_retN, s_ite, truth, view, setTg, E.np, e_ownL, e_ownN, e_lockN, s_par, p_nil, p_cons, e0, attr1, pGt, e1, r]
/-- the same, told the same -/
def Sm (r : Nat) (d : D) : Prop := ∀ hp, F__law_same r [d, d] hp = .ok (.bl true) hp
theorem sm_non (r : Nat) : Sm (r + 1) .non := fun hp => by
  simp [F__law_same, b__law_same, evF, r_ok, r_exn, r_to, r_toX, e_lit, e_val, e_nil, e_cons, e_tup, e_lst, e_prim, e_wk, e_call, e_chain, e_and, e_or, e_not, e_ite, e_dct, e_share, e_test, s_skip, s_seq, s_set, s_own, s_expr, s_ret, s_retN, s_ite, truth, view, setTg, E.np, e_ownL, e_ownN, e_lockN, s_par, p_nil, p_cons, pIs, isN]
theorem sm_bl (r : Nat) (b : Bool) : Sm (r + 1) (.bl b) := fun hp => by
  cases b <;> simp [F__law_same, b__law_same, evF, r_ok, r_exn, r_to, r_toX, e_lit, e_val, e_nil, e_cons, e_tup, e_lst, e_prim, e_wk, e_call, e_chain, e_and, e_or, e_not, e_ite, e_dct, e_share, e_test, s_skip, s_seq, s_set, s_own, s_expr, s_ret, s_retN, s_ite, truth, view, setTg, E.np, e_ownL, e_ownN, e_lockN, s_par, p_nil, p_cons, pIs, isN, pIsi, isKd, pEq, flat, eqb]
theorem sm_int (r : Nat) (i : Int) : Sm (r + 1) (.int i) := fun hp => by
  simp [F__law_same, b__law_same, evF, r_ok, r_exn, r_to, r_toX, e_lit, e_val, e_nil, e_cons, e_tup, e_lst, e_prim, e_wk, e_call, e_chain, e_and, e_or, e_not, e_ite, e_dct, e_share, e_test, s_skip, s_seq, s_set, s_own, s_expr, s_ret, s_retN, s_ite, truth, view, setTg, E.np, e_ownL, e_ownN, e_lockN, s_par, p_nil, p_cons, pIs, isN, pIsi, isKd, pEq, flat, eqb, pInt, pSub]
theorem sm_str1 (r : Nat) : Sm (r + 1) (.str "refused") := fun hp => rfl
theorem sm_str2 (r : Nat) : Sm (r + 1) (.str "many") := fun hp => rfl
theorem sm_str3 (r : Nat) : Sm (r + 1) (.str "set") := fun hp => rfl
theorem ix_lst {xs : List D} {k : Nat} (h : k < xs.length) : pIx hp [.lst xs, .int (k : Int)] = some xs[k] := by
  simp only [pIx, view, ixD]
  rw [ixOf_nat h]
  exact List.getElem?_eq_getElem h
theorem ix_tup {xs : List D} {k : Nat} (h : k < xs.length) : pIx hp [.tup xs, .int (k : Int)] = some xs[k] := by
  simp only [pIx, view, ixD]
  rw [ixOf_nat h]
  exact List.getElem?_eq_getElem h
theorem len_lst (xs : List D) : pLen hp [.lst xs] = some (.int (xs.length : Int)) := rfl
theorem len_tup (xs : List D) : pLen hp [.tup xs] = some (.int (xs.length : Int)) := rfl
theorem sm_lst {r : Nat} {xs : List D} (hl : xs.length ≤ big) (h : ∀ x ∈ xs, Sm r x) : Sm (r + 1) (.lst xs) := fun hp => by
  have c : ∀ pk, evE pk (C__law_same_1 (F__law_same r)) ⟨[.val (.lst xs), .val (.lst xs), .no], hp⟩ = .ok [.lst []] ⟨[.val (.lst xs), .val (.lst xs), .no], hp⟩ := fun pk =>
    e_comp (by simp [evF, r_ok, r_exn, r_to, r_toX, e_lit, e_val, e_nil, e_cons, e_tup, e_lst, e_prim, e_wk, e_call, e_chain, e_and, e_or, e_not, e_ite, e_dct, e_share, e_test, s_skip, s_seq, s_set, s_own, s_expr, s_ret, s_retN, s_ite, truth, view, setTg, E.np, e_ownL, e_ownN, e_lockN, s_par, p_nil, p_cons, len_lst, rng hl] <;> rfl) (items_dn (rng_len hl)) rfl ((compL_filter dn dn (fun _ => false) _ hp _ fun k hk => by
      have hk := List.mem_range.mp hk
      have := h xs[k] (List.getElem_mem hk) hp
      simp [body1, lockE, wipeE, Slot.locked, Tg.ix, evF, r_ok, r_exn, r_to, r_toX, e_lit, e_val, e_nil, e_cons, e_tup, e_lst, e_prim, e_wk, e_call, e_chain, e_and, e_or, e_not, e_ite, e_dct, e_share, e_test, s_skip, s_seq, s_set, s_own, s_expr, s_ret, s_retN, s_ite, truth, view, setTg, E.np, e_ownL, e_ownN, e_lockN, s_par, p_nil, p_cons, ix_lst hk, this]).trans (by simp))
  simp [F__law_same, b__law_same, evF, r_ok, r_exn, r_to, r_toX, e_lit, e_val, e_nil, e_cons, e_tup, e_lst, e_prim, e_wk, e_call, e_chain, e_and, e_or, e_not, e_ite, e_dct, e_share, e_test, s_skip, s_seq, s_set, s_own, s_expr, s_ret, s_retN, s_ite, truth, view, setTg, E.np, e_ownL, e_ownN, e_lockN, s_par, p_nil, p_cons, pIs, isN, pIsi, isKd, pNe, pEq, flat, flats, eqb, eqbs, len_lst, c]
theorem sm_tup {r : Nat} {xs : List D} (hl : xs.length ≤ big) (h : ∀ x ∈ xs, Sm r x) : Sm (r + 1) (.tup xs) := fun hp => by
  have c : ∀ pk, evE pk (C__law_same_1 (F__law_same r)) ⟨[.val (.tup xs), .val (.tup xs), .no], hp⟩ = .ok [.lst []] ⟨[.val (.tup xs), .val (.tup xs), .no], hp⟩ := fun pk =>
    e_comp (by simp [evF, r_ok, r_exn, r_to, r_toX, e_lit, e_val, e_nil, e_cons, e_tup, e_lst, e_prim, e_wk, e_call, e_chain, e_and, e_or, e_not, e_ite, e_dct, e_share, e_test, s_skip, s_seq, s_set, s_own, s_expr, s_ret, s_retN, s_ite, truth, view, setTg, E.np, e_ownL, e_ownN, e_lockN, s_par, p_nil, p_cons, len_tup, rng hl] <;> rfl) (items_dn (rng_len hl)) rfl ((compL_filter dn dn (fun _ => false) _ hp _ fun k hk => by
      have hk := List.mem_range.mp hk
      have := h xs[k] (List.getElem_mem hk) hp
      simp [body1, lockE, wipeE, Slot.locked, Tg.ix, evF, r_ok, r_exn, r_to, r_toX, e_lit, e_val, e_nil, e_cons, e_tup, e_lst, e_prim, e_wk, e_call, e_chain, e_and, e_or, e_not, e_ite, e_dct, e_share, e_test, s_skip, s_seq, s_set, s_own, s_expr, s_ret, s_retN, s_ite, truth, view, setTg, E.np, e_ownL, e_ownN, e_lockN, s_par, p_nil, p_cons, ix_tup hk, this]).trans (by simp))
  simp [F__law_same, b__law_same, evF, r_ok, r_exn, r_to, r_toX, e_lit, e_val, e_nil, e_cons, e_tup, e_lst, e_prim, e_wk, e_call, e_chain, e_and, e_or, e_not, e_ite, e_dct, e_share, e_test, s_skip, s_seq, s_set, s_own, s_expr, s_ret, s_retN, s_ite, truth, view, setTg, E.np, e_ownL, e_ownN, e_lockN, s_par, p_nil, p_cons, pIs, isN, pIsi, isKd, pNe, pEq, flat, flats, eqb, eqbs, len_tup, c]
theorem sm_dl {r : Nat} {l : List Nat} (hl : l.length ≤ big) : Sm (r + 2) (.tup (dl l)) := sm_tup (by rw [dl_len]; exact hl) fun x hx => by
  obtain ⟨y, _, rfl⟩ := List.mem_map.mp hx
  exact sm_int r _
theorem sm_dlL {r : Nat} {l : List Nat} (hl : l.length ≤ big) : Sm (r + 2) (.lst (dl l)) := sm_lst (by rw [dl_len]; exact hl) fun x hx => by
  obtain ⟨y, _, rfl⟩ := List.mem_map.mp hx
  exact sm_int r _
end
end K66
end
section
set_option Elab.async false
set_option linter.all false
set_option maxRecDepth 100000
/-! PH: the law's own look at sets; walks judged. -/
namespace K66
open G
section
variable {n : Nat} {T : List (List Nat)} {S : List Nat} {hp : List D}
/-- values whose items are scalars -/
def scV : D → Bool
  | .tup xs => xs.all isSc && decide (xs.length ≤ big)
  | d => plainD d
theorem sc_plain {d : D} (h : isSc d = true) : plainD d = true := by
  cases d <;> first
    | rfl
    | cases h
theorem scV_okV {d : D} (h : scV d = true) : okV d = true := by
  cases d with
  | tup xs =>
    obtain ⟨h1, h2⟩ := and_tt h
    show (xs.all plainD && decide (xs.length ≤ big)) = true
    rw [h2, Bool.and_true]
    exact List.all_eq_true.mpr fun d hd => sc_plain (List.all_eq_true.mp h1 d hd)
  | _ => exact h
theorem flats_sc : ∀ {xs : List D}, xs.all isSc = true → ∀ k, flats k xs = true
  | [], _, k => by cases k <;> rfl
  | x :: xs, h, k => by
    obtain ⟨h1, h2⟩ := and_tt (show (isSc x && xs.all isSc) = true from h)
    show (flat k x && flats k xs) = true
    rw [flats_sc h2 k, Bool.and_true]
    cases x <;> first
      | (cases k <;> rfl)
      | cases h1
theorem pNeL {xs : List D} (h : flats 49 xs = true) : pNe hp [.lst xs, .lst []] = some (.bl (!xs.isEmpty)) := by
  cases xs with
  | nil => rfl
  | cons x xs =>
    simp only [pNe]
    rw [show flat 50 (.lst (x :: xs)) = true from h]
    rfl
theorem pEqL {xs : List D} (h : flats 49 xs = true) : pEq hp [.lst xs, .lst []] = some (.bl xs.isEmpty) := by
  cases xs with
  | nil => rfl
  | cons x xs =>
    simp only [pEq]
    rw [show flat 50 (.lst (x :: xs)) = true from h]
    rfl
theorem all_filter {α : Type} (p : α → Bool) (xs : List α) : (xs.filter fun x => !p x).isEmpty = xs.all p := by
  induction xs with
  | nil => rfl
  | cons x xs ih =>
    rw [List.filter_cons, List.all_cons]
    cases h : p x
    · simp
    · simpa using ih
theorem ris_range : ∀ (l : List Nat), risB l = (List.range (l.length - 1)).all fun k => decide (l.getD k 0 < l.getD (k + 1) 0)
  | [] => rfl
  | [_] => rfl
  | x :: y :: r => by
    show (decide (x < y) && risB (y :: r)) = _
    rw [ris_range (y :: r)]
    have e : (x :: y :: r).length - 1 = (y :: r).length - 1 + 1 := by simp
    rw [e, List.range_succ_eq_map, List.all_cons, List.all_map]
    rfl
theorem sc_filter {xs : List D} (h : xs.all isSc = true) (p : D → Bool) : (xs.filter p).all isSc = true := List.all_eq_true.mpr fun d hd => List.all_eq_true.mp h d (List.mem_filter.mp hd).1
theorem rng21 {m : Nat} (h : m ≤ big) : pRange2 hp [.int 1, .int (m : Int)] = some (.lst ((List.range (m - 1)).map fun (k : Nat) => D.int (1 + (k : Int)))) := by
  have hb : (big : Int) = 1000000 := by decide
  have h' : m ≤ 1000000 := h
  have e1 : decide (-(2 ^ 62) ≤ (1 : Int)) = true := by decide
  have e2 : decide ((1 : Int) < 2 ^ 62) = true := by decide
  have e3 : decide (-(2 ^ 62) ≤ (m : Int)) = true := decide_eq_true (by omega)
  have e4 : decide ((m : Int) < 2 ^ 62) = true := decide_eq_true (by omega)
  have e5 : decide ((m : Int) - 1 ≤ (big : Int)) = true := decide_eq_true (by rw [hb]; omega)
  have e6 : ((m : Int) - 1).toNat = m - 1 := by omega
  simp only [pRange2, e1, e2, e3, e4, e5, e6, Bool.and_self, if_true]
theorem set_c0 {xs : List D} (h1 : xs.all isSc = true) (h2 : xs.length ≤ big) : ∀ pk, evE pk C__law_is_set_0 ⟨[.val (.int (n : Int)), .val (.tup xs), .no, .no], hp⟩ = .ok [.lst (xs.filter fun d => !btw 0 ((n : Int) - 1) d)] ⟨[.val (.int (n : Int)), .val (.tup xs), .no, .no], hp⟩ := fun pk =>
      e_comp (xs := xs.map id) (e_val rfl) (by rw [List.map_id]; exact items_tup h2) rfl ((compL_filter id id (fun d => !btw 0 ((n : Int) - 1) d) _ hp xs fun d hd => by
        have hs := List.all_eq_true.mp h1 d hd
        cases d with
        | int i =>
          have e1 : pIsi 1 [.int] hp [.int i] = some (.bl true) := rfl
          have e2 : pIsi 1 [.bool] hp [.int i] = some (.bl false) := rfl
          by_cases h1 : 0 ≤ i
          · by_cases h2 : i < (n : Int)
            · have : i ≤ (n : Int) - 1 := by omega
              simp [body1, lockE, wipeE, Slot.locked, Tg.ix, evF, r_ok, r_exn, r_to, r_toX, e_lit, e_val, e_nil, e_cons, e_tup, e_lst, e_prim, e_wk, e_call, e_chain, e_and, e_or, e_not, e_ite, e_dct, e_share, e_test, s_skip, s_seq, s_set, s_own, s_expr, s_ret, s_retN, s_ite, truth, view, setTg, E.np, e_ownL, e_ownN, e_lockN, s_par, p_nil, p_cons, e1, e2, pLe, pLt, btw, h1, h2, this]
            · have : ¬ i ≤ (n : Int) - 1 := by omega
              simp [body1, lockE, wipeE, Slot.locked, Tg.ix, evF, r_ok, r_exn, r_to, r_toX, e_lit, e_val, e_nil, e_cons, e_tup, e_lst, e_prim, e_wk, e_call, e_chain, e_and, e_or, e_not, e_ite, e_dct, e_share, e_test, s_skip, s_seq, s_set, s_own, s_expr, s_ret, s_retN, s_ite, truth, view, setTg, E.np, e_ownL, e_ownN, e_lockN, s_par, p_nil, p_cons, e1, e2, pLe, pLt, btw, h1, h2, this]
          · simp [body1, lockE, wipeE, Slot.locked, Tg.ix, evF, r_ok, r_exn, r_to, r_toX, e_lit, e_val, e_nil, e_cons, e_tup, e_lst, e_prim, e_wk, e_call, e_chain, e_and, e_or, e_not, e_ite, e_dct, e_share, e_test, s_skip, s_seq, s_set, s_own, s_expr, s_ret, s_retN, s_ite, truth, view, setTg, E.np, e_ownL, e_ownN, e_lockN, s_par, p_nil, p_cons, e1, e2, pLe, pLt, btw, h1]
        | bl b =>
          have e1 : pIsi 1 [.int] hp [.bl b] = some (.bl true) := rfl
          have e2 : pIsi 1 [.bool] hp [.bl b] = some (.bl true) := rfl
          simp [body1, lockE, wipeE, Slot.locked, Tg.ix, evF, r_ok, r_exn, r_to, r_toX, e_lit, e_val, e_nil, e_cons, e_tup, e_lst, e_prim, e_wk, e_call, e_chain, e_and, e_or, e_not, e_ite, e_dct, e_share, e_test, s_skip, s_seq, s_set, s_own, s_expr, s_ret, s_retN, s_ite, truth, view, setTg, E.np, e_ownL, e_ownN, e_lockN, s_par, p_nil, p_cons, e1, e2, btw]
        | non =>
          have e1 : pIsi 1 [.int] hp [.non] = some (.bl false) := rfl
          simp [body1, lockE, wipeE, Slot.locked, Tg.ix, evF, r_ok, r_exn, r_to, r_toX, e_lit, e_val, e_nil, e_cons, e_tup, e_lst, e_prim, e_wk, e_call, e_chain, e_and, e_or, e_not, e_ite, e_dct, e_share, e_test, s_skip, s_seq, s_set, s_own, s_expr, s_ret, s_retN, s_ite, truth, view, setTg, E.np, e_ownL, e_ownN, e_lockN, s_par, p_nil, p_cons, e1, btw]
        | str z =>
          have e1 : pIsi 1 [.int] hp [.str z] = some (.bl false) := rfl
          simp [body1, lockE, wipeE, Slot.locked, Tg.ix, evF, r_ok, r_exn, r_to, r_toX, e_lit, e_val, e_nil, e_cons, e_tup, e_lst, e_prim, e_wk, e_call, e_chain, e_and, e_or, e_not, e_ite, e_dct, e_share, e_test, s_skip, s_seq, s_set, s_own, s_expr, s_ret, s_retN, s_ite, truth, view, setTg, E.np, e_ownL, e_ownN, e_lockN, s_par, p_nil, p_cons, e1, btw]
        | _ => cases hs).trans (by rw [List.map_id]))
theorem ixTd {l : List Nat} {k : Nat} {i : Int} (h : k < l.length) (hi : i = (k : Int)) : pIx hp [.tup (dl l), .int i] = some (dn (l.getD k 0)) := by
  subst hi
  have := ix_tup (hp := hp) (xs := dl l) (k := k) (by rw [dl_len]; exact h)
  rw [this]
  simp [dl, List.getD_eq_getElem?_getD, List.getElem?_eq_getElem h]
theorem geNN (a b : Nat) : pGe hp [.int (b : Int), .int (a : Int)] = some (.bl (!decide (b < a))) := by
  simp only [pGe]
  by_cases hba : b < a
  · simp [hba]
  · simp [hba]; omega
theorem wkD {pk : Bool} {f : Pr} {es : E} {z z1 : Z} {xs : List D} {d : D} (h : evE pk es z = .ok xs z1) (h2 : f z1.hp xs = some d) : evE pk (.wk f es) z = .ok [d] z1 := by
  rw [e_wk, h, r_ok, h2]
theorem set_c1 {l : List Nat} (h2 : l.length ≤ big) : ∀ pk, evE pk C__law_is_set_1 ⟨[.val (.int (n : Int)), .val (.tup (dl l)), .no, .no], hp⟩ = .ok [.lst (((List.range (l.length - 1)).filter fun k => !decide (l.getD k 0 < l.getD (k + 1) 0)).map fun (k : Nat) => D.int (1 + (k : Int)))] ⟨[.val (.int (n : Int)), .val (.tup (dl l)), .no, .no], hp⟩ := fun pk => by
  have er := rng21 (hp := hp) h2
  refine e_comp (d := .lst ((List.range (l.length - 1)).map fun (k : Nat) => D.int (1 + (k : Int)))) ?_ (items_lst (by rw [List.length_map, List.length_range]; exact Nat.le_trans (Nat.sub_le _ _) h2)) rfl (compL_filter (fun k : Nat => D.int (1 + (k : Int))) (fun k : Nat => D.int (1 + (k : Int))) (fun k => !decide (l.getD k 0 < l.getD (k + 1) 0)) _ hp _ ?_)
  · refine wkD (xs := [.int 1, .int (l.length : Int)]) ?_ er
    simp [evF, r_ok, r_exn, r_to, r_toX, e_lit, e_val, e_nil, e_cons, e_tup, e_lst, e_prim, e_wk, e_call, e_chain, e_and, e_or, e_not, e_ite, e_dct, e_share, e_test, s_skip, s_seq, s_set, s_own, s_expr, s_ret, s_retN, s_ite, truth, view, setTg, E.np, e_ownL, e_ownN, e_lockN, s_par, p_nil, p_cons, len_tup, dl_len]
  · intro k hk
    have hk := List.mem_range.mp hk
    have i1 := ixTd (hp := hp) (l := l) (k := k + 1) (i := 1 + (k : Int)) (by omega) (by omega)
    have i2 := ixTd (hp := hp) (l := l) (k := k) (i := 1 + (k : Int) - 1) (by omega) (by omega)
    generalize l.getD (k + 1) 0 = a at *
    generalize l.getD k 0 = b at *
    have i3 := geNN (hp := hp) a b
    by_cases hba : b < a
    · rw [decide_eq_true hba] at i3
      simp [body1, lockE, wipeE, Slot.locked, Tg.ix, evF, r_ok, r_exn, r_to, r_toX, e_lit, e_val, e_nil, e_cons, e_tup, e_lst, e_prim, e_wk, e_call, e_chain, e_and, e_or, e_not, e_ite, e_dct, e_share, e_test, s_skip, s_seq, s_set, s_own, s_expr, s_ret, s_retN, s_ite, truth, view, setTg, E.np, e_ownL, e_ownN, e_lockN, s_par, p_nil, p_cons, pSub, i1, i2, i3, hba]
    · rw [decide_eq_false hba] at i3
      simp [body1, lockE, wipeE, Slot.locked, Tg.ix, evF, r_ok, r_exn, r_to, r_toX, e_lit, e_val, e_nil, e_cons, e_tup, e_lst, e_prim, e_wk, e_call, e_chain, e_and, e_or, e_not, e_ite, e_dct, e_share, e_test, s_skip, s_seq, s_set, s_own, s_expr, s_ret, s_retN, s_ite, truth, view, setTg, E.np, e_ownL, e_ownN, e_lockN, s_par, p_nil, p_cons, pSub, i1, i2, i3, hba]
theorem rng_sc (l : List Nat) (p : Nat → Bool) (j : Nat) : flats j ((l.filter p).map fun (k : Nat) => D.int (1 + (k : Int))) = true := flats_sc (List.all_eq_true.mpr fun d hd => by
        obtain ⟨k, _, rfl⟩ := List.mem_map.mp hd
        rfl) j
theorem set_e4 (l : List Nat) : pEq hp [.lst (((List.range (l.length - 1)).filter fun k => !decide (l.getD k 0 < l.getD (k + 1) 0)).map fun (k : Nat) => D.int (1 + (k : Int))), .lst []] = some (.bl (risB l)) := by
  rw [pEqL (rng_sc _ _ _), List.isEmpty_map, all_filter, ← ris_range]
theorem law_is_set {d : D} (h : scV d = true) : F__law_is_set [.int (n : Int), d] hp = .ok (.bl (setB n d)) hp := by
  cases d with
  | tup xs =>
    obtain ⟨h1, h2⟩ := and_tt h
    have h2 := of_decide_eq_true h2
    have c0 := set_c0 (n := n) (hp := hp) h1 h2
    have ei : pIsi 1 [.tuple] hp [.tup xs] = some (.bl true) := rfl
    have e2 := pNeL (hp := hp) (flats_sc (sc_filter h1 fun d => !btw 0 ((n : Int) - 1) d) 49)
    rw [all_filter, natsB_all] at e2
    generalize (xs.filter fun d => !btw 0 ((n : Int) - 1) d) = Ys at c0 e2
    cases q : natsB n xs with
    | none =>
      rw [q] at e2
      simp [F__law_is_set, b__law_is_set, evF, r_ok, r_exn, r_to, r_toX, e_lit, e_val, e_nil, e_cons, e_tup, e_lst, e_prim, e_wk, e_call, e_chain, e_and, e_or, e_not, e_ite, e_dct, e_share, e_test, s_skip, s_seq, s_set, s_own, s_expr, s_ret, s_retN, s_ite, truth, view, setTg, E.np, e_ownL, e_ownN, e_lockN, s_par, p_nil, p_cons, ei, c0, e2, setB, q]
    | some l =>
      rw [q] at e2
      obtain ⟨rfl, _⟩ := natsB_some q
      rw [dl_len] at h2
      have c1 := set_c1 (n := n) (hp := hp) h2
      have e4 := set_e4 (hp := hp) l
      generalize (((List.range (l.length - 1)).filter fun k => !decide (l.getD k 0 < l.getD (k + 1) 0)).map fun (k : Nat) => D.int (1 + (k : Int))) = Xs at c1 e4
      simp [F__law_is_set, b__law_is_set, evF, r_ok, r_exn, r_to, r_toX, e_lit, e_val, e_nil, e_cons, e_tup, e_lst, e_prim, e_wk, e_call, e_chain, e_and, e_or, e_not, e_ite, e_dct, e_share, e_test, s_skip, s_seq, s_set, s_own, s_expr, s_ret, s_retN, s_ite, truth, view, setTg, E.np, e_ownL, e_ownN, e_lockN, s_par, p_nil, p_cons, ei, c0, e2, setB, q, c1, e4]
  | ref _ => cases h
  | scr _ => cases h
  | dct _ _ _ => cases h
  | ins _ _ => cases h
  | _ => simp [F__law_is_set, b__law_is_set, evF, r_ok, r_exn, r_to, r_toX, e_lit, e_val, e_nil, e_cons, e_tup, e_lst, e_prim, e_wk, e_call, e_chain, e_and, e_or, e_not, e_ite, e_dct, e_share, e_test, s_skip, s_seq, s_set, s_own, s_expr, s_ret, s_retN, s_ite, truth, view, setTg, E.np, e_ownL, e_ownN, e_lockN, s_par, p_nil, p_cons, pIsi, isKd, setB]
/-! ### the law's tables are lists -/
theorem ixTL (h : Tb n T) {a : Nat} (ha : a < n) : pIx hp [tabL T, .int (a : Int)] = some (.lst (dl (ro T a))) := by
  have e : a < (T.map fun r => D.lst (dl r)).length := by rw [List.length_map, h.len]; exact ha
  simp only [pIx, view, tabL, ixD]
  rw [ixOf_nat e]
  exact getD_map _ T a [] (by rw [h.len]; exact ha)
theorem ixRL (h : Tb n T) {a b : Nat} (ha : a < n) (hb : b < n) : pIx hp [.lst (dl (ro T a)), .int (b : Int)] = some (dn (tab T a b)) := ix_dl (by rw [h.row a ha]; exact hb)
theorem lenTL (h : Tb n T) : pLen hp [tabL T] = some (dn n) := by
  simp [pLen, view, tabL, lenD, h.len]
theorem nInN (x : Nat) (l : List Nat) : pNotIn hp [.int (x : Int), .tup (dl l)] = some (.bl (!decide (x ∈ l))) := by
  have e : pNotIn hp [.int (x : Int), .tup (dl l)] = if isSc (dn x) && (dl l).all isSc then some (.bl (!(dl l).any fun y => eqb y (dn x))) else none := rfl
  rw [e, isSc_dl, any_dl]
  rfl
theorem eqbs_dl : ∀ (a b : List Nat), eqbs (dl a) (dl b) = decide (a = b)
  | [], [] => rfl
  | [], _ :: _ => rfl
  | _ :: _, [] => rfl
  | x :: a, y :: b => by
    show (eqb (dn x) (dn y) && eqbs (dl a) (dl b)) = _
    rw [eqb_dn, eqbs_dl a b, ← Bool.decide_and]
    exact decide_eq_decide.mpr (by simp)
theorem eqLL (a b : List Nat) : pEq hp [.lst (dl a), .lst (dl b)] = some (.bl (decide (a = b))) := by
  have e : pEq hp [.lst (dl a), .lst (dl b)] = if flat 50 (.lst (dl a)) && flat 50 (.lst (dl b)) then some (.bl (eqbs (dl a) (dl b))) else none := rfl
  rw [e, show flat 50 (.lst (dl a)) = true from flats_dl 49 a, show flat 50 (.lst (dl b)) = true from flats_dl 49 b, eqbs_dl]
  rfl
theorem intsD_dl : ∀ l : List Nat, intsD (dl l) = some (l.map fun (x : Nat) => (x : Int))
  | [] => rfl
  | x :: l => by
    show (intsD (dl l)).map (fun r => (x : Int) :: r) = _
    rw [intsD_dl l]
    rfl
theorem sort_perm {l : List Nat} (h : l.Perm (List.range n)) : pSortI hp [.lst (dl l)] = some (.lst (dl (List.range n))) := by
  have e : pSortI hp [.lst (dl l)] = (intsD (dl l)).map fun l => .lst ((sortK id l).map D.int) := rfl
  rw [e, intsD_dl]
  have e2 : sortK id (l.map fun (x : Nat) => (x : Int)) = (List.range n).map fun (x : Nat) => (x : Int) := by
    refine sort_uniq id _ _ ((sortK_perm id _).trans (h.map _)) (sortK_sort id _) ?_ fun a _ b _ q => q
    rw [List.pairwise_map]
    refine (List.pairwise_lt_range).imp fun h => ?_
    show ((_ : Nat) : Int) ≤ ((_ : Nat) : Int)
    omega
  rw [Option.map_some, e2]
  simp [dl]
/-- a walk that is one is told to be one -/
theorem walk_right (g : Grp n T) {w : List Nat} (hS : ∀ b ∈ S, b < n) (hl : w.length = n) (hm : ∀ b ∈ w, b ∈ S) {p : List Nat} (hpp : pps T 0 w = p ++ [0]) (hperm : (p ++ [0]).Perm (List.range n)) :
    F__law_walk_right [tabL T, .tup (dl S), .tup (dl w)] hp = .ok (.bl true) hp := by
  have h24 := g.le
  have hp0 := g.pos
  have c0 : ∀ pk, evE pk C__law_walk_right_0 ⟨[.val (tabL T), .val (.tup (dl S)), .val (.tup (dl w)), .val (.int (n : Int)), .no, .no, .no], hp⟩ = .ok [.lst []] ⟨[.val (tabL T), .val (.tup (dl S)), .val (.tup (dl w)), .val (.int (n : Int)), .no, .no, .no], hp⟩ := fun pk =>
    e_comp (e_val rfl) (items_dnT (big_of (by omega : w.length ≤ 24))) rfl ((compL_filter dn dn (fun _ => false) _ hp w fun b hb => by
      have e1 : pIsi 1 [.int] hp [.int (b : Int)] = some (.bl true) := rfl
      have e2 : pIsi 1 [.bool] hp [.int (b : Int)] = some (.bl false) := rfl
      have e3 := nInN (hp := hp) b S
      rw [decide_eq_true (hm b hb)] at e3
      simp [body1, lockE, wipeE, Slot.locked, Tg.ix, evF, r_ok, r_exn, r_to, r_toX, e_lit, e_val, e_nil, e_cons, e_tup, e_lst, e_prim, e_wk, e_call, e_chain, e_and, e_or, e_not, e_ite, e_dct, e_share, e_test, s_skip, s_seq, s_set, s_own, s_expr, s_ret, s_retN, s_ite, truth, view, setTg, E.np, e_ownL, e_ownN, e_lockN, s_par, p_nil, p_cons, e1, e2, e3]).trans (by simp))
  have lp : ∀ (v : List Nat) (a : Nat) (sn : List Nat) (s6 : Slot), a < n → (∀ b ∈ v, b < n) → sn.length + v.length ≤ 30 → ∃ z', forL (fun x z2 => match setTg (.one 6) x z2.env with | some env => evS B__law_walk_right_0 { z2 with env := env } | none => .bad) (v.map dn)
      ⟨[.val (tabL T), .val (.tup (dl S)), .val (.tup (dl w)), .val (.int (n : Int)), .val (.int (a : Int)), .own (.lst (dl sn)), s6], hp⟩ = .next z' ∧
      ∃ s6, z' = ⟨[.val (tabL T), .val (.tup (dl S)), .val (.tup (dl w)), .val (.int (n : Int)), .val (.int ((pps T a v).getLastD a : Int)), .own (.lst (dl (sn ++ pps T a v))), s6], hp⟩ := by
    intro v
    induction v with
    | nil => intro a sn s6 _ _ _; exact ⟨_, rfl, s6, by simp [pps]⟩
    | cons b v ih =>
      intro a sn s6 ha hv hl
      have hb := hv b List.mem_cons_self
      have ht := g.lt a b ha hb
      have st : evS B__law_walk_right_0 ⟨[.val (tabL T), .val (.tup (dl S)), .val (.tup (dl w)), .val (.int (n : Int)), .val (.int (a : Int)), .own (.lst (dl sn)), .val (.int (b : Int))], hp⟩ =
          .next ⟨[.val (tabL T), .val (.tup (dl S)), .val (.tup (dl w)), .val (.int (n : Int)), .val (.int (tab T a b : Int)), .own (.lst (dl (sn ++ [tab T a b]))), .val (.int (b : Int))], hp⟩ := by
        have a1 : evS (.set (.one 4) (.prim pIx (.cons (.prim pIx (.cons (.var 0) (.cons (.var 4) .nil))) (.cons (.var 6) .nil)))) ⟨[.val (tabL T), .val (.tup (dl S)), .val (.tup (dl w)), .val (.int (n : Int)), .val (.int (a : Int)), .own (.lst (dl sn)), .val (.int (b : Int))], hp⟩ =
            .next ⟨[.val (tabL T), .val (.tup (dl S)), .val (.tup (dl w)), .val (.int (n : Int)), .val (.int (tab T a b : Int)), .own (.lst (dl sn)), .val (.int (b : Int))], hp⟩ := by
          simp [evF, r_ok, r_exn, r_to, r_toX, e_lit, e_val, e_nil, e_cons, e_tup, e_lst, e_prim, e_wk, e_call, e_chain, e_and, e_or, e_not, e_ite, e_dct, e_share, e_test, s_skip, s_seq, s_set, s_own, s_expr, s_ret, s_retN, s_ite, truth, view, setTg, E.np, e_ownL, e_ownN, e_lockN, s_par, p_nil, p_cons, ixTL g.toTb ha, ixRL g.toTb ha hb]
        unfold B__law_walk_right_0
        rw [s_seq, a1]
        dsimp only
        rw [List.length_cons] at hl
        refine Eq.trans (s_app (xs := dl sn) rfl (e_val rfl) rfl (by rw [dl_len]; show _ < 1000000; omega)) ?_
        simp [dl]
      obtain ⟨z', e, s6', rfl⟩ := ih (tab T a b) (sn ++ [tab T a b]) (.val (.int (b : Int))) ht (fun x hx => hv x (List.mem_cons_of_mem _ hx)) (by simp at hl ⊢; omega)
      refine ⟨_, ?_, s6', rfl⟩
      have e2 : (tab T a b :: pps T (tab T a b) v).getLastD a = (pps T (tab T a b) v).getLastD (tab T a b) := by
        cases pps T (tab T a b) v <;> rfl
      show (match evS B__law_walk_right_0 ⟨[.val (tabL T), .val (.tup (dl S)), .val (.tup (dl w)), .val (.int (n : Int)), .val (.int (a : Int)), .own (.lst (dl sn)), .val (.int (b : Int))], hp⟩ with
        | .next z1 => forL _ (v.map dn) z1 | .cont z1 => forL _ (v.map dn) z1 | .brk z1 => .next z1 | .ret d z1 => .ret d z1 | .exn c ds z1 => .exn c ds z1 | .bad => .bad) = _
      rw [st]
      refine Eq.trans e ?_
      show O.next _ = O.next _
      rw [show pps T a (b :: v) = tab T a b :: pps T (tab T a b) v from rfl, e2, List.append_assoc]
      rfl
  obtain ⟨z', e, s6, rfl⟩ := lp w 0 [] .no hp0 (fun b hb => hS b (hm b hb)) (by simp; omega)
  have e : evS L__law_walk_right_0 ⟨[.val (tabL T), .val (.tup (dl S)), .val (.tup (dl w)), .val (.int (n : Int)), .val (.int 0), .own (.lst []), .no], hp⟩ = .next ⟨[.val (tabL T), .val (.tup (dl S)), .val (.tup (dl w)), .val (.int (n : Int)), .val (.int 0), .own (.lst (dl (p ++ [0]))), s6], hp⟩ := by
    unfold L__law_walk_right_0
    rw [s_for, e_val (d := .tup (dl w)) rfl, r_to, items_dnT (big_of (by omega : w.length ≤ 24))]
    refine Eq.trans e ?_
    rw [hpp]
    simp
  have e1 : pIsi 1 [.tuple] hp [.tup (dl w)] = some (.bl true) := rfl
  have e2 := len_tup (hp := hp) (dl w)
  rw [dl_len, hl] at e2
  have e3 := sort_perm (hp := hp) hperm
  have e4 := eqLL (hp := hp) (List.range n) (List.range n)
  rw [decide_eq_true rfl] at e4
  have e5 : pEq hp [.int 0, .int 0] = some (.bl true) := rfl
  simp [F__law_walk_right, b__law_walk_right, evF, r_ok, r_exn, r_to, r_toX, e_lit, e_val, e_nil, e_cons, e_tup, e_lst, e_prim, e_wk, e_call, e_chain, e_and, e_or, e_not, e_ite, e_dct, e_share, e_test, s_skip, s_seq, s_set, s_own, s_expr, s_ret, s_retN, s_ite, truth, view, setTg, E.np, e_ownL, e_ownN, e_lockN, s_par, p_nil, p_cons, lenTL g.toTb, e1, e2, neN, c0, pNeE, big, noLock, ownable, e, e5, e3, rng (g_big g), e4]
end
end K66
end
section
set_option Elab.async false
set_option linter.all false
set_option maxRecDepth 100000
/-! PI: the law's own search. -/
namespace K66
open G
def kD (K : List Sp) : D := .dct true (K.map stD) (K.map fun _ => .bl true)
def putL (K : List Sp) (s : Sp) : List Sp := if s ∈ K then K else K ++ [s]
theorem any_stk (s : Sp) : ∀ K : List Sp, ((K.map stD).any fun k => eqb k (stD s)) = decide (s ∈ K)
  | [] => rfl
  | p :: K => by
    show (eqb (stD p) (stD s) || (K.map stD).any fun k => eqb k (stD s)) = _
    rw [any_stk s K, eqb_st, ← Bool.decide_or]
    exact decide_eq_decide.mpr (by rw [List.mem_cons]; exact or_congr eq_comm Iff.rfl)
theorem zip_true (f : D → Bool) : ∀ K : List Sp, (((K.map stD).zip (K.map fun _ => D.bl true)).map fun p => if f p.1 then D.bl true else p.2) = K.map fun _ => D.bl true
  | [] => rfl
  | p :: K => by
    show (if f (stD p) then D.bl true else D.bl true) :: (((K.map stD).zip (K.map fun _ => D.bl true)).map fun p => if f p.1 then D.bl true else p.2) = D.bl true :: K.map fun _ => D.bl true
    rw [zip_true f K]
    cases f (stD p) <;> rfl
theorem dPut_k (K : List Sp) (s : Sp) : dPut (K.map stD) (K.map fun _ => .bl true) (stD s) (.bl true) = ((putL K s).map stD, (putL K s).map fun _ => .bl true) := by
  unfold dPut putL
  rw [any_stk]
  by_cases h : s ∈ K
  · rw [decide_eq_true h, if_pos rfl, if_pos h, zip_true (fun k => eqb k (stD s))]
  · rw [decide_eq_false h, if_neg (fun q => nomatch q), if_neg h]
    simp
section
variable {n : Nat} {T : List (List Nat)} {S : List Nat} {hp : List D}
structure Kv (n : Nat) (K : List Sp) : Prop where
  nd : K.Nodup
  lt : ∀ s ∈ K, s.1 < 2 ^ n ∧ s.2 < n
theorem Kv.len {K : List Sp} (h : Kv n K) (hn : n ≤ 12) (hp : 0 < n) : K.length ≤ 49152 := by
  have e : (K.map fun s => s.1 * n + s.2).length ≤ 2 ^ n * n := nodup_bound _ _ (by
    unfold List.Nodup
    rw [List.pairwise_map]
    refine h.nd.imp_of_mem fun {a b} ha hb hne e => hne ?_
    have h1 := (h.lt a ha).2
    have h2 := (h.lt b hb).2
    have e1 : a.1 = b.1 := by
      have q1 : (a.1 * n + a.2) / n = a.1 := by rw [Nat.mul_comm, Nat.mul_add_div hp, Nat.div_eq_of_lt h1, Nat.add_zero]
      have q2 : (b.1 * n + b.2) / n = b.1 := by rw [Nat.mul_comm, Nat.mul_add_div hp, Nat.div_eq_of_lt h2, Nat.add_zero]
      rw [← q1, ← q2, e]
    have e2 : a.2 = b.2 := by
      rw [e1] at e
      omega
    exact Prod.ext e1 e2) fun x hx => by
      obtain ⟨s, hs, rfl⟩ := List.mem_map.mp hx
      have h1 := (h.lt s hs).1
      have h2 := (h.lt s hs).2
      calc s.1 * n + s.2 < s.1 * n + n := by omega
        _ = (s.1 + 1) * n := by rw [Nat.add_mul, Nat.one_mul]
        _ ≤ 2 ^ n * n := Nat.mul_le_mul_right n h1
  have e2 : 2 ^ n * n ≤ 2 ^ 12 * 12 := Nat.mul_le_mul (Nat.pow_le_pow_right (by decide) hn) hn
  have e3 : (2 : Nat) ^ 12 * 12 = 49152 := by decide
  rw [List.length_map] at e
  omega
theorem mem_putL {K : List Sp} {s x : Sp} : x ∈ putL K s ↔ x ∈ K ∨ x = s := by
  unfold putL
  by_cases h : s ∈ K
  · rw [if_pos h]
    exact ⟨.inl, fun q => q.elim id fun e => e ▸ h⟩
  · rw [if_neg h]; simp
theorem kv_put {K : List Sp} {s : Sp} (h : Kv n K) (hs : s.1 < 2 ^ n ∧ s.2 < n) : Kv n (putL K s) := by
  refine ⟨?_, fun x hx => (mem_putL.mp hx).elim (h.lt x) fun e => e ▸ hs⟩
  unfold putL
  by_cases hm : s ∈ K
  · rw [if_pos hm]; exact h.nd
  · rw [if_neg hm]
    refine List.nodup_append.mpr ⟨h.nd, by simp, fun x hx y hy => ?_⟩
    rw [List.mem_singleton] at hy
    subst hy
    exact fun e => hm (e ▸ hx)
variable (T S) in
def stq (s : Sp) (M : List Sp) (b : Nat) : List Sp := if free T s b = true then putL M (nxt T s b) else M
variable (T S) in
def lvq (M : List Sp) (s : Sp) : List Sp := if s.1.testBit 0 = false then S.foldl (stq T s) M else M
variable (T S) in
def levq (K : List Sp) (_ : Nat) : List Sp := K.foldl (lvq T S) []
theorem mem_stq {s x : Sp} {M : List Sp} {b : Nat} : x ∈ stq T s M b ↔ x ∈ M ∨ (free T s b = true ∧ x = nxt T s b) := by
  unfold stq
  by_cases h : free T s b = true
  · rw [if_pos h, mem_putL]
    simp [h]
  · rw [if_neg h]
    exact ⟨.inl, fun q => q.elim id fun e => absurd e.1 h⟩
theorem mem_stqs {s x : Sp} : ∀ (R : List Nat) (M : List Sp), x ∈ R.foldl (stq T s) M ↔ x ∈ M ∨ ∃ b ∈ R, free T s b = true ∧ x = nxt T s b
  | [], M => ⟨.inl, fun q => q.elim id fun ⟨_, h, _⟩ => nomatch h⟩
  | b :: R, M => by
    rw [List.foldl_cons, mem_stqs R, mem_stq, or_assoc]
    refine or_congr Iff.rfl ⟨fun q => q.elim (fun h => ⟨b, List.mem_cons_self, h⟩) fun ⟨c, h1, h2⟩ => ⟨c, List.mem_cons_of_mem _ h1, h2⟩, fun ⟨c, h1, h2⟩ => ?_⟩
    rcases List.mem_cons.mp h1 with e | h1
    · subst e; exact .inl h2
    · exact .inr ⟨c, h1, h2⟩
theorem mem_lvq {x : Sp} : ∀ (K M : List Sp), x ∈ K.foldl (lvq T S) M ↔ x ∈ M ∨ ∃ s ∈ K, s.1.testBit 0 = false ∧ ∃ b ∈ S, free T s b = true ∧ x = nxt T s b
  | [], M => ⟨.inl, fun q => q.elim id fun ⟨_, h, _⟩ => nomatch h⟩
  | s :: K, M => by
    have e : x ∈ lvq T S M s ↔ x ∈ M ∨ (s.1.testBit 0 = false ∧ ∃ b ∈ S, free T s b = true ∧ x = nxt T s b) := by
      unfold lvq
      by_cases h : s.1.testBit 0 = false
      · rw [if_pos h, mem_stqs]
        exact or_congr Iff.rfl ⟨fun q => ⟨h, q⟩, fun q => q.2⟩
      · rw [if_neg h]
        exact ⟨.inl, fun q => q.elim id fun e => absurd e.1 h⟩
    rw [List.foldl_cons, mem_lvq K, e, or_assoc]
    refine or_congr Iff.rfl ⟨fun q => q.elim (fun h => ⟨s, List.mem_cons_self, h⟩) fun ⟨c, h1, h2⟩ => ⟨c, List.mem_cons_of_mem _ h1, h2⟩, fun ⟨c, h1, h2⟩ => ?_⟩
    rcases List.mem_cons.mp h1 with e | h1
    · subst e; exact .inl h2
    · exact .inr ⟨c, h1, h2⟩
theorem kv_stq (g : Grp n T) (hS : ∀ b ∈ S, b < n) {s : Sp} (hs : s.1 < 2 ^ n ∧ s.2 < n) {M : List Sp} (h : Kv n M) {b : Nat} (hb : b ∈ S) : Kv n (stq T s M b) := by
  unfold stq
  by_cases hf : free T s b = true
  · rw [if_pos hf]; exact kv_put h (nxt_lt g hS hs hb)
  · rw [if_neg hf]; exact h
theorem kv_stqs (g : Grp n T) (hS : ∀ b ∈ S, b < n) {s : Sp} (hs : s.1 < 2 ^ n ∧ s.2 < n) : ∀ (R : List Nat) {M : List Sp}, (∀ b ∈ R, b ∈ S) → Kv n M → Kv n (R.foldl (stq T s) M)
  | [], M, _, h => h
  | b :: R, M, hR, h => kv_stqs g hS hs R (fun c hc => hR c (List.mem_cons_of_mem _ hc)) (kv_stq g hS hs h (hR b List.mem_cons_self))
theorem kv_lvq (g : Grp n T) (hS : ∀ b ∈ S, b < n) {s : Sp} (hs : s.1 < 2 ^ n ∧ s.2 < n) {M : List Sp} (h : Kv n M) : Kv n (lvq T S M s) := by
  unfold lvq
  by_cases hf : s.1.testBit 0 = false
  · rw [if_pos hf]; exact kv_stqs g hS hs S (fun _ h => h) h
  · rw [if_neg hf]; exact h
/-! ### words by length -/
def Lv (T : List (List Nat)) (S : List Nat) (j : Nat) (K : List Sp) : Prop := ∀ x : Sp, x ∈ K ↔ ∃ u, u.length = j ∧ Lw T S u x.1 x.2
theorem lw_inv {u : List Nat} {m l : Nat} (h : Lw T S u m l) : (∃ b ∈ S, u = [b] ∧ m = 2 ^ b ∧ l = b) ∨ ∃ w m' l' b, Lw T S w m' l' ∧ m'.testBit 0 = false ∧ b ∈ S ∧ m'.testBit (tab T l' b) = false ∧ u = w ++ [b] ∧ m = m' ||| 2 ^ tab T l' b ∧ l = tab T l' b := by
  cases h with
  | one b hb => exact .inl ⟨_, hb, rfl, rfl, rfl⟩
  | snoc b h h0 hb hf => exact .inr ⟨_, _, _, b, h, h0, hb, hf, rfl, rfl, rfl⟩
theorem lv_step {j : Nat} {K : List Sp} (hj : 1 ≤ j) (h : Lv T S j K) (i : Nat) : Lv T S (j + 1) (levq T S K i) := fun x => by
  unfold levq
  rw [mem_lvq]
  constructor
  · rintro (q | ⟨s, hs, h0, b, hb, hf, rfl⟩)
    · cases q
    · obtain ⟨u, hu, hw⟩ := (h s).mp hs
      exact ⟨u ++ [b], by rw [List.length_append, hu]; rfl, Lw.snoc b hw h0 hb (by simpa [free] using hf)⟩
  · rintro ⟨u, hu, hw⟩
    obtain ⟨m, l⟩ := x
    rcases lw_inv hw with ⟨b, hb, rfl, h1, h2⟩ | ⟨w, m', l', b, hw', h0, hb, hf, rfl, h1, h2⟩
    · exact absurd hu (by simp; omega)
    · exact .inr ⟨(m', l'), (h (m', l')).mpr ⟨w, by rw [List.length_append] at hu; have : [b].length = 1 := rfl; omega, hw'⟩, h0, b, hb, by simp [free, hf], Prod.ext h1 h2⟩
theorem lv_steps {j : Nat} (hj : 1 ≤ j) : ∀ (R : List Nat) {K : List Sp} {j : Nat}, 1 ≤ j → Lv T S j K → Lv T S (j + R.length) (R.foldl (levq T S) K)
  | [], K, j, _, h => h
  | i :: R, K, j, hj, h => by
    have := lv_steps hj R (Nat.le_succ_of_le hj) (lv_step hj h i)
    rw [List.length_cons, show j + (R.length + 1) = j + 1 + R.length by omega]
    exact this
def fst0 (K : List Sp) (b : Nat) : List Sp := putL K (2 ^ b, b)
theorem mem_fst0 {x : Sp} : ∀ (R : List Nat) (K : List Sp), x ∈ R.foldl fst0 K ↔ x ∈ K ∨ ∃ b ∈ R, x = (2 ^ b, b)
  | [], K => ⟨.inl, fun q => q.elim id fun ⟨_, h, _⟩ => nomatch h⟩
  | b :: R, K => by
    rw [List.foldl_cons, mem_fst0 R, fst0, mem_putL, or_assoc]
    refine or_congr Iff.rfl ⟨fun q => q.elim (fun h => ⟨b, List.mem_cons_self, h⟩) fun ⟨c, h1, h2⟩ => ⟨c, List.mem_cons_of_mem _ h1, h2⟩, fun ⟨c, h1, h2⟩ => ?_⟩
    rcases List.mem_cons.mp h1 with e | h1
    · subst e; exact .inl h2
    · exact .inr ⟨c, h1, h2⟩
theorem lv_one : Lv T S 1 (S.foldl fst0 []) := fun x => by
  rw [mem_fst0]
  constructor
  · rintro (q | ⟨b, hb, rfl⟩)
    · cases q
    · exact ⟨[b], rfl, Lw.one b hb⟩
  · rintro ⟨u, hu, hw⟩
    obtain ⟨m, l⟩ := x
    rcases lw_inv hw with ⟨b, hb, rfl, h1, h2⟩ | ⟨w, m', l', b, hw', h0, hb, hf, rfl, h1, h2⟩
    · exact .inr ⟨b, hb, by cases h2; exact Prod.ext h1 rfl⟩
    · have := lw_ne hw'
      have := List.length_pos_iff.mpr this
      rw [List.length_append] at hu
      have : [b].length = 1 := rfl
      omega
theorem kv_fst0 {S : List Nat} (hS : ∀ b ∈ S, b < n) : ∀ (R : List Nat) {K : List Sp}, (∀ b ∈ R, b ∈ S) → Kv n K → Kv n (R.foldl fst0 K)
  | [], _, _, h => h
  | b :: R, K, hR, h => kv_fst0 hS R (fun c hc => hR c (List.mem_cons_of_mem _ hc)) (kv_put h ⟨Nat.pow_lt_pow_right (by decide) (hS b (hR b List.mem_cons_self)), hS b (hR b List.mem_cons_self)⟩)
/-! ### run -/
theorem bitI (a b : Nat) : pAnd hp [.int ((a / 2 ^ b : Nat) : Int), .int 1] = some (.int (if a.testBit b then 1 else 0)) := by
  rw [and1, bit_and]
  cases a.testBit b <;> rfl
theorem bit0 (a : Nat) : pAnd hp [.int (a : Int), .int 1] = some (.int (if a.testBit 0 then 1 else 0)) := by
  have := bitI (hp := hp) a 0
  rw [Nat.pow_zero, Nat.div_one] at this
  exact this
theorem nK (K : List Sp) : notIns (kD K) = true := by cases K <;> rfl
def Z1 (n : Nat) (T : List (List Nat)) (S : List Nat) (hp : List D) (s3 s4 s5 s7 s8 s9 : Slot) (M : List Sp) : Z :=
  ⟨[.val (tabL T), .val (.tup (dl S)), .val (.int (n : Int)), s3, s4, s5, .own (kD M), s7, s8, s9, .no], hp⟩
theorem le_turn (g : Grp n T) (hS : ∀ b ∈ S, b < n) (hn : n ≤ 12) {s3 s5 s9 : Slot} {s : Sp} {M : List Sp} {b : Nat} (h : Kv n M) (hs : s.1 < 2 ^ n ∧ s.2 < n) (hb : b ∈ S) :
    ∃ z', evS B__law_exists_1 (Z1 n T S hp s3 (.val (.int (b : Int))) s5 (.val (.int (s.1 : Int))) (.val (.int (s.2 : Int))) s9 M) = .next z' ∧
    ∃ s9, z' = Z1 n T S hp s3 (.val (.int (b : Int))) s5 (.val (.int (s.1 : Int))) (.val (.int (s.2 : Int))) s9 (stq T s M b) := by
  have hbn := hS b hb
  have ht := g.lt s.2 b hs.2 hbn
  have e1 := ixTL (hp := hp) g.toTb hs.2
  have e2 := ixRL (hp := hp) g.toTb hs.2 hbn
  have e3 := shl1 (hp := hp) (t := tab T s.2 b) (by have := g.le; omega)
  have e4 := orN (hp := hp) s.1 (2 ^ tab T s.2 b)
  have e5 := shrN (hp := hp) s.1 (tab T s.2 b)
  have e6 := bitI (hp := hp) s.1 (tab T s.2 b)
  have lc := h.len hn g.pos
  have hbig : big = 1000000 := rfl
  have en : nxt T s b = (s.1 ||| 2 ^ tab T s.2 b, tab T s.2 b) := rfl
  obtain ⟨p, hp2⟩ : ∃ p, 2 ^ tab T s.2 b = p := ⟨_, rfl⟩
  obtain ⟨o, ho⟩ : ∃ o, s.1 ||| p = o := ⟨_, rfl⟩
  obtain ⟨r, hr⟩ : ∃ r, s.1 / p = r := ⟨_, rfl⟩
  rw [hp2] at e3 e4 e5 e6 en
  rw [hr] at e5 e6
  rw [ho] at e4 en
  unfold stq
  rw [en]
  have a0 : evS (.set (.one 9) (.prim pIx (.cons (.prim pIx (.cons (.var 0) (.cons (.var 8) .nil))) (.cons (.var 4) .nil)))) (Z1 n T S hp s3 (.val (.int (b : Int))) s5 (.val (.int (s.1 : Int))) (.val (.int (s.2 : Int))) s9 M) =
      .next (Z1 n T S hp s3 (.val (.int (b : Int))) s5 (.val (.int (s.1 : Int))) (.val (.int (s.2 : Int))) (.val (.int (tab T s.2 b : Int))) M) := by
    simp [Z1, evF, r_ok, r_exn, r_to, r_toX, e_lit, e_val, e_nil, e_cons, e_tup, e_lst, e_prim, e_wk, e_call, e_chain, e_and, e_or, e_not, e_ite, e_dct, e_share, e_test, s_skip, s_seq, s_set, s_own, s_expr, s_ret, s_retN, s_ite, truth, view, setTg, E.np, e_ownL, e_ownN, e_lockN, s_par, p_nil, p_cons, e1, e2]
  unfold B__law_exists_1
  rw [s_seq, a0]
  dsimp only
  by_cases hf : s.1.testBit (tab T s.2 b) = false
  · rw [hf, if_neg (fun q => nomatch q)] at e6
    rw [if_pos (by simp [free, hf])]
    refine ⟨_, ?_, .val (.int (tab T s.2 b : Int)), rfl⟩
    have p1 : evS (.putD 6 (.tupE (.cons (.prim pOr (.cons (.var 7) (.cons (.prim pShl (.cons (.lit (.int 1)) (.cons (.var 9) .nil))) .nil))) (.cons (.var 9) (.nil)))) (.lit (.bl true))) (Z1 n T S hp s3 (.val (.int (b : Int))) s5 (.val (.int (s.1 : Int))) (.val (.int (s.2 : Int))) (.val (.int (tab T s.2 b : Int))) M) =
        .next (Z1 n T S hp s3 (.val (.int (b : Int))) s5 (.val (.int (s.1 : Int))) (.val (.int (s.2 : Int))) (.val (.int (tab T s.2 b : Int))) (putL M (o, tab T s.2 b))) := by
      refine (s_putD (i := 6) (tk := true) (ks := M.map stD) (vs := M.map fun _ => .bl true) (d := .bl true) (j := stD (o, tab T s.2 b)) (z1 := Z1 n T S hp s3 (.val (.int (b : Int))) s5 (.val (.int (s.1 : Int))) (.val (.int (s.2 : Int))) (.val (.int (tab T s.2 b : Int))) M) e_lit rfl
        (z2 := Z1 n T S hp s3 (.val (.int (b : Int))) s5 (.val (.int (s.1 : Int))) (.val (.int (s.2 : Int))) (.val (.int (tab T s.2 b : Int))) M) (by simp [Z1, evF, r_ok, r_exn, r_to, r_toX, e_lit, e_val, e_nil, e_cons, e_tup, e_lst, e_prim, e_wk, e_call, e_chain, e_and, e_or, e_not, e_ite, e_dct, e_share, e_test, s_skip, s_seq, s_set, s_own, s_expr, s_ret, s_retN, s_ite, truth, view, setTg, E.np, e_ownL, e_ownN, e_lockN, s_par, p_nil, p_cons, e3, e4, big, stD]) rfl (key_st _) (by rw [List.length_map]; omega)).trans ?_
      rw [dPut_k]
      rfl
    generalize G.S.putD 6 (.tupE (.cons (.prim pOr (.cons (.var 7) (.cons (.prim pShl (.cons (.lit (.int 1)) (.cons (.var 9) .nil))) .nil))) (.cons (.var 9) (.nil)))) (.lit (.bl true)) = SS at p1
    have t1 : evT (.not ((.prim pAnd (.cons (.prim pShr (.cons (.var 7) (.cons (.var 9) .nil))) (.cons (.lit (.int 1)) .nil))))) (Z1 n T S hp s3 (.val (.int (b : Int))) s5 (.val (.int (s.1 : Int))) (.val (.int (s.2 : Int))) (.val (.int (tab T s.2 b : Int))) M) = .ok true (Z1 n T S hp s3 (.val (.int (b : Int))) s5 (.val (.int (s.1 : Int))) (.val (.int (s.2 : Int))) (.val (.int (tab T s.2 b : Int))) M) := by
      simp [Z1, evF, r_ok, r_exn, r_to, r_toX, e_lit, e_val, e_nil, e_cons, e_tup, e_lst, e_prim, e_wk, e_call, e_chain, e_and, e_or, e_not, e_ite, e_dct, e_share, e_test, s_skip, s_seq, s_set, s_own, s_expr, s_ret, s_retN, s_ite, truth, view, setTg, E.np, e_ownL, e_ownN, e_lockN, s_par, p_nil, p_cons, e5, e6]
    rw [s_ite, t1]
    exact p1
  · rw [if_neg (fun z => hf (by simpa [free] using z))]
    have hf : s.1.testBit (tab T s.2 b) = true := by simpa using hf
    rw [hf, if_pos rfl] at e6
    refine ⟨_, ?_, .val (.int (tab T s.2 b : Int)), rfl⟩
    simp [Z1, evF, r_ok, r_exn, r_to, r_toX, e_lit, e_val, e_nil, e_cons, e_tup, e_lst, e_prim, e_wk, e_call, e_chain, e_and, e_or, e_not, e_ite, e_dct, e_share, e_test, s_skip, s_seq, s_set, s_own, s_expr, s_ret, s_retN, s_ite, truth, view, setTg, E.np, e_ownL, e_ownN, e_lockN, s_par, p_nil, p_cons, e5, e6]
theorem le_row (g : Grp n T) (hS : ∀ b ∈ S, b < n) (hs12 : S.length ≤ 24) (hn : n ≤ 12) {s3 s4 s5 s9 : Slot} {s : Sp} {M : List Sp} (h : Kv n M) (hs : s.1 < 2 ^ n ∧ s.2 < n) :
    ∃ z', evS B__law_exists_2 (Z1 n T S hp s3 s4 s5 (.val (.int (s.1 : Int))) (.val (.int (s.2 : Int))) s9 M) = .next z' ∧
    ∃ s4 s9, z' = Z1 n T S hp s3 s4 s5 (.val (.int (s.1 : Int))) (.val (.int (s.2 : Int))) s9 (lvq T S M s) := by
  have e0 := bit0 (hp := hp) s.1
  unfold lvq
  by_cases hf : s.1.testBit 0 = false
  · rw [if_pos hf]
    rw [hf, if_neg (fun q => nomatch q)] at e0
    have t1 : evT (.prim pEq (.cons (.prim pAnd (.cons (.var 7) (.cons (.lit (.int 1)) .nil))) (.cons (.lit (.int 0)) .nil))) (Z1 n T S hp s3 s4 s5 (.val (.int (s.1 : Int))) (.val (.int (s.2 : Int))) s9 M) = .ok true (Z1 n T S hp s3 s4 s5 (.val (.int (s.1 : Int))) (.val (.int (s.2 : Int))) s9 M) := by
      have e1 : pEq hp [.int 0, .int 0] = some (.bl true) := rfl
      simp [Z1, evF, r_ok, r_exn, r_to, r_toX, e_lit, e_val, e_nil, e_cons, e_tup, e_lst, e_prim, e_wk, e_call, e_chain, e_and, e_or, e_not, e_ite, e_dct, e_share, e_test, s_skip, s_seq, s_set, s_own, s_expr, s_ret, s_retN, s_ite, truth, view, setTg, E.np, e_ownL, e_ownN, e_lockN, s_par, p_nil, p_cons, e0, e1]
    unfold B__law_exists_2
    rw [s_ite, t1]
    obtain ⟨z', e, h1, s4', s9', rfl⟩ := for_fold (t := .one 4) (it := .var 1) (b := B__law_exists_1) (z := Z1 n T S hp s3 s4 s5 (.val (.int (s.1 : Int))) (.val (.int (s.2 : Int))) s9 M) dn
      (fun (M : List Sp) z => Kv n M ∧ ∃ s4 s9, z = Z1 n T S hp s3 s4 s5 (.val (.int (s.1 : Int))) (.val (.int (s.2 : Int))) s9 M) (stq T s) S M (e_val rfl) (items_dnT (big_of hs12)) ⟨h, _, _, rfl⟩ (fun b M z hb hz => by
        obtain ⟨h, s4, s9, rfl⟩ := hz
        obtain ⟨z', e, s9', rfl⟩ := le_turn (hp := hp) (s3 := s3) (s5 := s5) (s9 := s9) g hS hn h hs hb
        exact ⟨_, _, rfl, .inl e, kv_stq g hS hs h hb, _, _, rfl⟩)
    exact ⟨_, e, _, _, rfl⟩
  · rw [if_neg hf]
    have hf : s.1.testBit 0 = true := by simpa using hf
    rw [hf, if_pos rfl] at e0
    refine ⟨_, ?_, s4, s9, rfl⟩
    have e1 : pEq hp [.int 1, .int 0] = some (.bl false) := rfl
    simp [B__law_exists_2, Z1, evF, r_ok, r_exn, r_to, r_toX, e_lit, e_val, e_nil, e_cons, e_tup, e_lst, e_prim, e_wk, e_call, e_chain, e_and, e_or, e_not, e_ite, e_dct, e_share, e_test, s_skip, s_seq, s_set, s_own, s_expr, s_ret, s_retN, s_ite, truth, view, setTg, E.np, e_ownL, e_ownN, e_lockN, s_par, p_nil, p_cons, e0, e1]
theorem kv_nil : Kv n [] := ⟨List.nodup_nil, fun _ q => nomatch q⟩
theorem le_keep {K : List Sp} {s3 : Slot} (h3 : s3 = .own (kD K) ∨ s3 = .val (kD K)) {s4 s5 s6 s7 s8 s9 : Slot} {pk : Bool} : evE pk (.keepD 3) ⟨[.val (tabL T), .val (.tup (dl S)), .val (.int (n : Int)), s3, s4, s5, s6, s7, s8, s9, .no], hp⟩ = .ok [kD K] ⟨[.val (tabL T), .val (.tup (dl S)), .val (.int (n : Int)), .val (kD K), s4, s5, s6, s7, s8, s9, .no], hp⟩ := by
  rcases h3 with rfl | rfl
  · exact e_keepO (tk := true) (ks := K.map stD) (vs := K.map fun _ => .bl true) rfl
  · exact e_keepV rfl
theorem items_k {K : List Sp} (h : K.length ≤ big) : items (E.keepD 3).dk (kD K) = some (K.map stD) := by
  show (if (true && decide ((K.map stD).length ≤ big)) = true then some (K.map stD) else none) = _
  rw [List.length_map, decide_eq_true h]
  rfl
theorem le_level (g : Grp n T) (hS : ∀ b ∈ S, b < n) (hs12 : S.length ≤ 24) (hn : n ≤ 12) {K : List Sp} {s3 s4 s5 s6 s7 s8 s9 : Slot} (i : Nat) (hK : Kv n K) (h3 : s3 = .own (kD K) ∨ s3 = .val (kD K)) :
    ∃ z', evS B__law_exists_3 ⟨[.val (tabL T), .val (.tup (dl S)), .val (.int (n : Int)), s3, s4, s5, s6, s7, s8, s9, .no], hp⟩ = .next z' ∧ Kv n (levq T S K i) ∧
    ∃ s4 s6 s7 s8 s9, z' = ⟨[.val (tabL T), .val (.tup (dl S)), .val (.int (n : Int)), .val (kD (levq T S K i)), s4, s5, s6, s7, s8, s9, .no], hp⟩ := by
  have hl := hK.len hn g.pos
  obtain ⟨z', e, h1, s4', s7', s8', s9', rfl⟩ := for_fold (t := .tup [7, 8]) (it := .keepD 3) (b := B__law_exists_2) (z := Z1 n T S hp s3 s4 s5 s7 s8 s9 []) stD
    (fun (M : List Sp) z => Kv n M ∧ ∃ s4 s7 s8 s9, z = Z1 n T S hp (.val (kD K)) s4 s5 s7 s8 s9 M) (lvq T S) K [] (le_keep h3) (items_k (big_of hl)) ⟨kv_nil, _, _, _, _, rfl⟩ (fun s M z hs hz => by
      obtain ⟨h, s4, s7, s8, s9, rfl⟩ := hz
      obtain ⟨z', e, s4', s9', rfl⟩ := le_row (hp := hp) (s3 := .val (kD K)) (s4 := s4) (s5 := s5) (s9 := s9) g hS hs12 hn h (hK.lt s hs)
      exact ⟨_, _, rfl, .inl e, kv_lvq g hS (hK.lt s hs) h, _, _, _, _, rfl⟩)
  have a1 : evS (.own 6 (.dctE true .nil)) ⟨[.val (tabL T), .val (.tup (dl S)), .val (.int (n : Int)), s3, s4, s5, s6, s7, s8, s9, .no], hp⟩ = .next (Z1 n T S hp s3 s4 s5 s7 s8 s9 []) := rfl
  refine ⟨⟨[.val (tabL T), .val (.tup (dl S)), .val (.int (n : Int)), .val (kD (levq T S K i)), s4', s5, .val (kD (levq T S K i)), s7', s8', s9', .no], hp⟩, ?_, h1, _, _, _, _, _, rfl⟩
  · unfold B__law_exists_3
    rw [s_seq, a1]
    dsimp only
    rw [s_seq]
    unfold L__law_exists_2
    rw [e]
    dsimp only
    rw [s_set, e_keepO (tk := true) (ks := (levq T S K i).map stD) (vs := (levq T S K i).map fun _ => .bl true) rfl, r_to]
    rfl
theorem law_exists (g : Grp n T) (hS : ∀ b ∈ S, b < n) (hs12 : S.length ≤ 24) (hn : n ≤ 12) : ∃ b, F__law_exists [tabL T, .tup (dl S)] hp = .ok (.bl b) hp ∧ (b = true ↔ Back n T S) := by
  have hp0 := g.pos
  have hbig : big = 1000000 := rfl
  obtain ⟨z1, e1, h1, s4, rfl⟩ := for_fold (t := .one 4) (it := .var 1) (b := B__law_exists_0) (z := ⟨[.val (tabL T), .val (.tup (dl S)), .val (.int (n : Int)), .own (kD []), .no, .no, .no, .no, .no, .no, .no], hp⟩) dn
    (fun (K : List Sp) z => Kv n K ∧ ∃ s4, z = ⟨[.val (tabL T), .val (.tup (dl S)), .val (.int (n : Int)), .own (kD K), s4, .no, .no, .no, .no, .no, .no], hp⟩) fst0 S [] (e_val rfl) (items_dnT (big_of hs12)) ⟨kv_nil, _, rfl⟩ (fun b K z hb hz => by
      obtain ⟨h, s4, rfl⟩ := hz
      have hbn := hS b hb
      have lc := h.len hn hp0
      refine ⟨[.val (tabL T), .val (.tup (dl S)), .val (.int (n : Int)), .own (kD K), .val (.int (b : Int)), .no, .no, .no, .no, .no, .no], ⟨[.val (tabL T), .val (.tup (dl S)), .val (.int (n : Int)), .own (kD (fst0 K b)), .val (.int (b : Int)), .no, .no, .no, .no, .no, .no], hp⟩, rfl, .inl ?_, kv_put h ⟨Nat.pow_lt_pow_right (by decide) hbn, hbn⟩, _, rfl⟩
      have e3 := shl1 (hp := hp) (t := b) (by omega)
      unfold fst0
      generalize 2 ^ b = p at *
      refine (s_putD (i := 3) (tk := true) (ks := K.map stD) (vs := K.map fun _ => .bl true) (d := .bl true) (j := stD (p, b)) (z1 := ⟨[.val (tabL T), .val (.tup (dl S)), .val (.int (n : Int)), .own (kD K), .val (.int (b : Int)), .no, .no, .no, .no, .no, .no], hp⟩) e_lit rfl
        (z2 := ⟨[.val (tabL T), .val (.tup (dl S)), .val (.int (n : Int)), .own (kD K), .val (.int (b : Int)), .no, .no, .no, .no, .no, .no], hp⟩) (by simp [evF, r_ok, r_exn, r_to, r_toX, e_lit, e_val, e_nil, e_cons, e_tup, e_lst, e_prim, e_wk, e_call, e_chain, e_and, e_or, e_not, e_ite, e_dct, e_share, e_test, s_skip, s_seq, s_set, s_own, s_expr, s_ret, s_retN, s_ite, truth, view, setTg, E.np, e_ownL, e_ownN, e_lockN, s_par, p_nil, p_cons, e3, big, stD]) rfl (key_st _) (by rw [List.length_map]; omega)).trans ?_
      rw [dPut_k]
      rfl)
  have e2 := sub1 (hp := hp) n hp0
  have e3 := rng (hp := hp) (n := n - 1) (by show _ ≤ 1000000; omega)
  obtain ⟨z2, e4, h2, s3, s4', s5', s6', s7', s8', s9', h3, rfl⟩ := for_fold (t := .one 5) (it := .wk pRange1 (.cons (.prim pSub (.cons (.var 2) (.cons (.lit (.int 1)) .nil))) .nil)) (b := B__law_exists_3) (z := ⟨[.val (tabL T), .val (.tup (dl S)), .val (.int (n : Int)), .own (kD (S.foldl fst0 [])), s4, .no, .no, .no, .no, .no, .no], hp⟩) dn
    (fun (K : List Sp) z => Kv n K ∧ ∃ s3 s4 s5 s6 s7 s8 s9, (s3 = Slot.own (kD K) ∨ s3 = Slot.val (kD K)) ∧ z = ⟨[.val (tabL T), .val (.tup (dl S)), .val (.int (n : Int)), s3, s4, s5, s6, s7, s8, s9, .no], hp⟩) (levq T S) (List.range (n - 1)) (S.foldl fst0 [])
      (z1 := ⟨[.val (tabL T), .val (.tup (dl S)), .val (.int (n : Int)), .own (kD (S.foldl fst0 [])), s4, .no, .no, .no, .no, .no, .no], hp⟩) (d := .lst (dl (List.range (n - 1)))) (wkD (xs := [.int ((n - 1 : Nat) : Int)]) (by simp [evF, r_ok, r_exn, r_to, r_toX, e_lit, e_val, e_nil, e_cons, e_tup, e_lst, e_prim, e_wk, e_call, e_chain, e_and, e_or, e_not, e_ite, e_dct, e_share, e_test, s_skip, s_seq, s_set, s_own, s_expr, s_ret, s_retN, s_ite, truth, view, setTg, E.np, e_ownL, e_ownN, e_lockN, s_par, p_nil, p_cons, e2]) e3) (items_dn (by rw [List.length_range]; show _ ≤ 1000000; omega)) ⟨h1, _, _, _, _, _, _, _, .inl rfl, rfl⟩ (fun i K z hi hz => by
      obtain ⟨h, s3, s4, s5, s6, s7, s8, s9, h3, rfl⟩ := hz
      obtain ⟨z', e, hk, s4', s6', s7', s8', s9', rfl⟩ := le_level (hp := hp) (s4 := s4) (s5 := .val (.int (i : Int))) (s6 := s6) (s7 := s7) (s8 := s8) (s9 := s9) g hS hs12 hn i h h3
      exact ⟨_, _, rfl, .inl e, hk, _, _, _, _, _, _, _, .inr rfl, rfl⟩)
  have hlv : Lv T S n ((List.range (n - 1)).foldl (levq T S) (S.foldl fst0 [])) := by
    have := lv_steps (T := T) (S := S) (Nat.le_refl 1) (List.range (n - 1)) (Nat.le_refl 1) lv_one
    rw [List.length_range, show 1 + (n - 1) = n by omega] at this
    exact this
  generalize (List.range (n - 1)).foldl (levq T S) (S.foldl fst0 []) = K at *
  have c0 : ∀ pk, evE pk C__law_exists_0 ⟨[.val (tabL T), .val (.tup (dl S)), .val (.int (n : Int)), s3, s4', s5', s6', s7', s8', s9', .no], hp⟩ = .ok [.lst ((K.filter fun s => decide (s.2 = 0)).map stD)] ⟨[.val (tabL T), .val (.tup (dl S)), .val (.int (n : Int)), .val (kD K), s4', s5', s6', s7', s8', s9', .no], hp⟩ := fun pk =>
    e_comp (le_keep h3) (items_k (big_of (h2.len hn hp0))) rfl (compL_filter stD stD (fun s => decide (s.2 = 0)) _ hp _ fun s hs => by
      have i1 : pIx hp [stD s, .int 1] = some (.int (s.2 : Int)) := rfl
      have i2 : pEq hp [.int (s.2 : Int), .int 0] = some (.bl (decide (s.2 = 0))) := eqN s.2 0
      cases hd : decide (s.2 = 0) <;> rw [hd] at i2 <;> simp [body1, lockE, wipeE, Slot.locked, Tg.ix, evF, r_ok, r_exn, r_to, r_toX, e_lit, e_val, e_nil, e_cons, e_tup, e_lst, e_prim, e_wk, e_call, e_chain, e_and, e_or, e_not, e_ite, e_dct, e_share, e_test, s_skip, s_seq, s_set, s_own, s_expr, s_ret, s_retN, s_ite, truth, view, setTg, E.np, e_ownL, e_ownN, e_lockN, s_par, p_nil, p_cons, i1, i2])
  have e5 := pNeL (hp := hp) (flats_st 48 (K.filter fun s => decide (s.2 = 0)))
  refine ⟨!((K.filter fun s => decide (s.2 = 0)).map stD).isEmpty, ?_, ?_⟩
  · generalize ((K.filter fun s => decide (s.2 = 0)).map stD) = Xs at c0 e5
    have a1 : evS (.own 3 (.dctE true .nil)) ⟨[.val (tabL T), .val (.tup (dl S)), .val (.int (n : Int)), .no, .no, .no, .no, .no, .no, .no, .no], hp⟩ = .next ⟨[.val (tabL T), .val (.tup (dl S)), .val (.int (n : Int)), .own (kD []), .no, .no, .no, .no, .no, .no, .no], hp⟩ := rfl
    have e1 : evS L__law_exists_0 _ = _ := e1
    have e4 : evS L__law_exists_3 _ = _ := e4
    have a0 : evS (.set (.one 2) (.prim pLen (.cons (.var 0) .nil))) ⟨[.val (tabL T), .val (.tup (dl S)), .no, .no, .no, .no, .no, .no, .no, .no, .no], hp⟩ = .next ⟨[.val (tabL T), .val (.tup (dl S)), .val (.int (n : Int)), .no, .no, .no, .no, .no, .no, .no, .no], hp⟩ := by
      simp [evF, r_ok, r_exn, r_to, r_toX, e_lit, e_val, e_nil, e_cons, e_tup, e_lst, e_prim, e_wk, e_call, e_chain, e_and, e_or, e_not, e_ite, e_dct, e_share, e_test, s_skip, s_seq, s_set, s_own, s_expr, s_ret, s_retN, s_ite, truth, view, setTg, E.np, e_ownL, e_ownN, e_lockN, s_par, p_nil, p_cons, lenTL g.toTb]
    have a2 : evS (.ret (.prim pNe (.cons (C__law_exists_0) (.cons (.lstE (.nil)) .nil)))) ⟨[.val (tabL T), .val (.tup (dl S)), .val (.int (n : Int)), s3, s4', s5', s6', s7', s8', s9', .no], hp⟩ = .ret (.bl (!Xs.isEmpty)) ⟨[.val (tabL T), .val (.tup (dl S)), .val (.int (n : Int)), .val (kD K), s4', s5', s6', s7', s8', s9', .no], hp⟩ := by
      simp [evF, r_ok, r_exn, r_to, r_toX, e_lit, e_val, e_nil, e_cons, e_tup, e_lst, e_prim, e_wk, e_call, e_chain, e_and, e_or, e_not, e_ite, e_dct, e_share, e_test, s_skip, s_seq, s_set, s_own, s_expr, s_ret, s_retN, s_ite, truth, view, setTg, E.np, e_ownL, e_ownN, e_lockN, s_par, p_nil, p_cons, c0, e5]
    show (match evS b__law_exists ⟨[.val (tabL T), .val (.tup (dl S)), .no, .no, .no, .no, .no, .no, .no, .no, .no], hp⟩ with | O.ret d z => RF.ok d z.hp | O.next z => RF.ok .non z.hp | O.exn c ds z => RF.exn c ds z.hp | _ => RF.bad) = _
    unfold b__law_exists
    rw [s_seq, a0]
    dsimp only
    rw [s_seq, a1]
    dsimp only
    rw [s_seq, e1]
    dsimp only
    rw [s_seq, e4]
    dsimp only
    rw [a2]
  · rw [List.isEmpty_map]
    have hs : (∃ u m, u.length = n ∧ Lw T S u m 0) ↔ Back n T S := same_ends g hS
    rw [← hs]
    have : (!(K.filter fun s => decide (s.2 = 0)).isEmpty) = true ↔ ∃ s ∈ K, s.2 = 0 := by
      rw [Bool.not_eq_true', List.isEmpty_eq_false_iff_exists_mem]
      exact exists_congr fun s => by rw [List.mem_filter]; simp
    rw [this]
    constructor
    · rintro ⟨s, hs, h0⟩
      obtain ⟨u, h1, h2⟩ := (hlv s).mp hs
      rw [h0] at h2
      exact ⟨u, _, h1, h2⟩
    · rintro ⟨u, m, h1, h2⟩
      exact ⟨(m, 0), (hlv (m, 0)).mpr ⟨u, h1, h2⟩, rfl⟩
end
end K66
end
section
set_option Elab.async false
set_option linter.all false
set_option maxRecDepth 100000
/-! PJ: draws. -/
namespace K66
open G
theorem s_refIx {o ke e : E} {z z1 z2 z3 : Z} {d j c c2 : D} {n : Nat} (h1 : evE false e z = .ok [d] z1) (h2 : evE false o z1 = .ok [.ref n] z2) (h3 : evE true ke z2 = .ok [j] z3) (h4 : z3.hp[n]? = some c) (h5 : cellSet c j d = some c2) :
    evS (.refIx o ke e) z = .next { z3 with hp := z3.hp.set n c2 } := by
  unfold evS
  rw [h1, r_to, h2, r_to, h3, r_to]
  dsimp only
  rw [h4]
  dsimp only
  rw [h5]
section
variable {hp : List D}
def boxD (a : Nat) (s : Bool) (c t : Nat) : D := .lst [.int (a : Int), .bl s, .int (c : Int), .int (t : Int)]
/-- the box: cell k, so many draws left to it -/
def Bx (k b : Nat) (hp : List D) : Prop := Hn hp ∧ ∃ (a c t : Nat) (s : Bool), hp[k]? = some (boxD a s c t) ∧ c < 2147483629 ∧ t + b ≤ 100000
theorem Bx.le {k b b' : Nat} (h : Bx k b hp) (hb : b' ≤ b) : Bx k b' hp := by
  obtain ⟨h1, a, c, t, s, h2, h3, h4⟩ := h
  exact ⟨h1, a, c, t, s, h2, h3, by omega⟩
theorem noRef_box (a : Nat) (s : Bool) (c t : Nat) : ∀ j, noRef j (boxD a s c t) = true := fun j => rfl
theorem hn_set {k : Nat} {d : D} (h : Hn hp) (hd : ∀ j, noRef j d = true) : Hn (hp.set k d) := fun x hx j => by
  rcases List.mem_or_eq_of_mem_set hx with q | q
  · exact h x q j
  · rw [q]; exact hd j
theorem modE (x : Int) (m : Int) (hm : 0 < m) : ∃ r : Nat, pMod hp [.int x, .int m] = some (.int (r : Int)) ∧ (r : Int) < m := by
  have h1 := Int.emod_nonneg x (Int.ne_of_gt hm)
  have h2 := Int.emod_lt_of_pos x hm
  refine ⟨(x % m).toNat, ?_, ?_⟩
  · rw [Int.toNat_of_nonneg h1]
    exact if_pos hm
  · rw [Int.toNat_of_nonneg h1]; exact h2
theorem powE (x j : Int) (hj : 0 ≤ j) (hj2 : j ≤ 1000000) (h : x.natAbs < 2 ^ 64) : ∃ y, pPow hp [.int x, .int j] = some (.int y) := ⟨x ^ j.toNat, if_pos (by unfold powOk; rw [decide_eq_true hj, decide_eq_true hj2, decide_eq_true h]; rfl)⟩
theorem divE (a m : Nat) (hm : 0 < m) (hm2 : divOk (m : Int) = true) : ∃ r : Nat, pDiv hp [.int (a : Int), .int (m : Int)] = some (.int (r : Int)) ∧ r = a / m := by
  refine ⟨a / m, ?_, rfl⟩
  show (if 0 < (m : Int) then (if divOk (m : Int) then some (D.int ((a : Int) / (m : Int))) else none) else none) = _
  rw [if_pos (by omega), if_pos hm2]
  rfl
theorem log_lt {n : Nat} (h : n < 2 ^ 64) : n.log2 < 64 := by
  by_cases h0 : n = 0
  · rw [h0]; decide
  · exact (Nat.log2_lt h0).mpr h
theorem divOk_of {m : Nat} (h : m ≤ 1000000) : divOk (m : Int) = true := decide_eq_true (Nat.lt_of_lt_of_le (log_lt (by omega : (m : Int).natAbs < 2 ^ 64)) (by decide))
theorem mulE {i j : Int} (hi : i.natAbs < 2 ^ 64) (hj : j.natAbs < 2 ^ 64) : pMul hp [.int i, .int j] = some (.int (i * j)) := if_pos (by
  have h1 := log_lt hi
  have h2 := log_lt hj
  exact decide_eq_true (by omega))
theorem ix_box {k : Nat} {a c t : Nat} {s : Bool} (h : hp[k]? = some (boxD a s c t)) : pIx hp [.ref k, .int 0] = some (.int (a : Int)) ∧ pIx hp [.ref k, .int 1] = some (.bl s) ∧ pIx hp [.ref k, .int 2] = some (.int (c : Int)) ∧ pIx hp [.ref k, .int 3] = some (.int (t : Int)) := by
  have e : ∀ i, pIx hp [.ref k, .int i] = ixD (boxD a s c t) i := fun i => by
    show ixD (hp.getD k .non) i = _
    rw [getD_of h]
  exact ⟨(e 0).trans rfl, (e 1).trans rfl, (e 2).trans rfl, (e 3).trans rfl⟩
theorem take {k b m : Nat} (hm : 0 < m) (hm2 : divOk (m : Int) = true) (h : Bx k (b + 1) hp) : ∃ (d : Nat) (hp' : List D), F__law_take [.ref k, .int (m : Int)] hp = .ok (.int (d : Int)) hp' ∧ d < m ∧ Bx k b hp' ∧ hp'.length = hp.length := by
  obtain ⟨hn, a, c, t, s, h0, hc, ht⟩ := h
  obtain ⟨i0, i1, i2, i3⟩ := ix_box h0
  have g0 : pGt hp [.int (a : Int), .int 0] = some (.bl (decide (0 < a))) := by
    show some (D.bl (decide ((0 : Int) < a))) = _
    rw [decide_eq_decide.mpr (by omega : (0 : Int) < a ↔ 0 < a)]
  have hbx : ∀ (a' t' : Nat), t' + b ≤ 100000 → Bx k b (hp.set k (boxD a' s c t')) := fun a' t' h => ⟨hn_set hn (noRef_box _ _ _ _), a', c, t', s, get_set h0, hc, h⟩
  by_cases hw : s = true ∧ 0 < a
  · obtain ⟨rfl, ha⟩ := hw
    obtain ⟨r, e1, hr⟩ := modE (hp := hp) (a : Int) (m : Int) (by omega)
    obtain ⟨q, e2, _⟩ := divE (hp := hp) a m hm hm2
    rw [decide_eq_true ha] at g0
    refine ⟨r, hp.set k (boxD q true c t), ?_, by omega, hbx q t (by omega), List.length_set⟩
    have a1 : evS (.refIx (.var 0) (.lit (.int 0)) (.prim pDiv (.cons (.prim pIx (.cons (.var 0) (.cons (.lit (.int 0)) .nil))) (.cons (.var 1) .nil)))) ⟨[.val (.ref k), .val (.int (m : Int)), .val (.int (r : Int)), .no], hp⟩ = .next ⟨[.val (.ref k), .val (.int (m : Int)), .val (.int (r : Int)), .no], hp.set k (boxD q true c t)⟩ :=
      s_refIx (d := .int (q : Int)) (j := .int 0) (z1 := ⟨[.val (.ref k), .val (.int (m : Int)), .val (.int (r : Int)), .no], hp⟩) (by simp [evF, r_ok, r_exn, r_to, r_toX, e_lit, e_val, e_nil, e_cons, e_tup, e_lst, e_prim, e_wk, e_call, e_chain, e_and, e_or, e_not, e_ite, e_dct, e_share, e_test, s_skip, s_seq, s_set, s_own, s_expr, s_ret, s_retN, s_ite, truth, view, setTg, E.np, e_ownL, e_ownN, e_lockN, s_par, p_nil, p_cons, i0, e2]) (e_val rfl) e_lit h0 rfl
    simp [F__law_take, b__law_take, evF, r_ok, r_exn, r_to, r_toX, e_lit, e_val, e_nil, e_cons, e_tup, e_lst, e_prim, e_wk, e_call, e_chain, e_and, e_or, e_not, e_ite, e_dct, e_share, e_test, s_skip, s_seq, s_set, s_own, s_expr, s_ret, s_retN, s_ite, truth, view, setTg, E.np, e_ownL, e_ownN, e_lockN, s_par, p_nil, p_cons, i0, i1, g0, e1, a1, pInt]
  · obtain ⟨u, hu⟩ : ∃ u, t + 1 = u := ⟨_, rfl⟩
    obtain ⟨y1, p1⟩ := powE (hp := hp.set k (boxD a s c u)) ((c : Int) + 15485863 * (u : Int) + 179424673) 5 (by decide) (by decide) (by omega)
    obtain ⟨r1, m1, l1⟩ := modE (hp := hp.set k (boxD a s c u)) y1 2147483647 (by decide)
    obtain ⟨y2, p2⟩ := powE (hp := hp.set k (boxD a s c u)) ((r1 : Int) * 48271 + 104729 * (u : Int)) 3 (by decide) (by decide) (by omega)
    obtain ⟨r2, m2, l2⟩ := modE (hp := hp.set k (boxD a s c u)) y2 2147483587 (by decide)
    obtain ⟨q, d1, _⟩ := divE (hp := hp.set k (boxD a s c u)) r2 64 (by decide) (by decide)
    obtain ⟨d, m3, l3⟩ := modE (hp := hp.set k (boxD a s c u)) (q : Int) (m : Int) (by omega)
    obtain ⟨j0, j1, j2, j3⟩ := ix_box (hp := hp.set k (boxD a s c u)) (get_set h0)
    refine ⟨d, hp.set k (boxD a s c u), ?_, by omega, hbx a u (by omega), List.length_set⟩
    have a1 : evS (.refIx (.var 0) (.lit (.int 3)) (.prim pAdd (.cons (.prim pIx (.cons (.var 0) (.cons (.lit (.int 3)) .nil))) (.cons (.lit (.int 1)) .nil)))) ⟨[.val (.ref k), .val (.int (m : Int)), .no, .no], hp⟩ = .next ⟨[.val (.ref k), .val (.int (m : Int)), .no, .no], hp.set k (boxD a s c u)⟩ :=
      s_refIx (d := .int (u : Int)) (j := .int 3) (z1 := ⟨[.val (.ref k), .val (.int (m : Int)), .no, .no], hp⟩) (by
        have : pAdd hp [.int (t : Int), .int 1] = some (.int (u : Int)) := by rw [← hu]; rfl
        simp [evF, r_ok, r_exn, r_to, r_toX, e_lit, e_val, e_nil, e_cons, e_tup, e_lst, e_prim, e_wk, e_call, e_chain, e_and, e_or, e_not, e_ite, e_dct, e_share, e_test, s_skip, s_seq, s_set, s_own, s_expr, s_ret, s_retN, s_ite, truth, view, setTg, E.np, e_ownL, e_ownN, e_lockN, s_par, p_nil, p_cons, i3, this]) (e_val rfl) e_lit h0 rfl
    generalize hp.set k (boxD a s c u) = hp2 at *
    obtain ⟨tt, htt⟩ : ∃ tt, (u : Int) = tt := ⟨_, rfl⟩
    rw [htt] at p1 p2 j3
    have b1 : pMul hp2 [.int 15485863, .int tt] = some (.int (15485863 * tt)) := mulE (by decide) (by omega)
    have b2 : pAdd hp2 [.int (c : Int), .int (15485863 * tt)] = some (.int ((c : Int) + 15485863 * tt)) := rfl
    have b3 : pAdd hp2 [.int ((c : Int) + 15485863 * tt), .int 179424673] = some (.int ((c : Int) + 15485863 * tt + 179424673)) := rfl
    have b4 : pMul hp2 [.int (r1 : Int), .int 48271] = some (.int ((r1 : Int) * 48271)) := mulE (by omega) (by decide)
    have b5 : pMul hp2 [.int 104729, .int tt] = some (.int (104729 * tt)) := mulE (by decide) (by omega)
    have b6 : pAdd hp2 [.int ((r1 : Int) * 48271), .int (104729 * tt)] = some (.int ((r1 : Int) * 48271 + 104729 * tt)) := rfl
    have b7 : ∀ i, pInt hp2 [.int i] = some (.int i) := fun _ => rfl
    have d1 : pDiv hp2 [.int (r2 : Int), .int 64] = some (.int (q : Int)) := d1
    have fin : evS (.seq (.set (.one 3) (.prim pMod (.cons (.prim pInt (.cons (.prim pPow (.cons (.prim pAdd (.cons (.prim pAdd (.cons (.prim pIx (.cons (.var 0) (.cons (.lit (.int 2)) .nil))) (.cons (.prim pMul (.cons (.lit (.int 15485863)) (.cons (.prim pIx (.cons (.var 0) (.cons (.lit (.int 3)) .nil))) .nil))) .nil))) (.cons (.lit (.int 179424673)) .nil))) (.cons (.lit (.int 5)) .nil))) .nil)) (.cons (.lit (.int 2147483647)) .nil))))
        (.ret (.prim pMod (.cons (.prim pInt (.cons (.prim pDiv (.cons (.prim pMod (.cons (.prim pInt (.cons (.prim pPow (.cons (.prim pAdd (.cons (.prim pMul (.cons (.var 3) (.cons (.lit (.int 48271)) .nil))) (.cons (.prim pMul (.cons (.lit (.int 104729)) (.cons (.prim pIx (.cons (.var 0) (.cons (.lit (.int 3)) .nil))) .nil))) .nil))) (.cons (.lit (.int 3)) .nil))) .nil)) (.cons (.lit (.int 2147483587)) .nil))) (.cons (.lit (.int 64)) .nil))) .nil)) (.cons (.var 1) .nil))))) ⟨[.val (.ref k), .val (.int (m : Int)), .no, .no], hp2⟩ =
        .ret (.int (d : Int)) ⟨[.val (.ref k), .val (.int (m : Int)), .no, .val (.int (r1 : Int))], hp2⟩ := by
      simp [evF, r_ok, r_exn, r_to, r_toX, e_lit, e_val, e_nil, e_cons, e_tup, e_lst, e_prim, e_wk, e_call, e_chain, e_and, e_or, e_not, e_ite, e_dct, e_share, e_test, s_skip, s_seq, s_set, s_own, s_expr, s_ret, s_retN, s_ite, truth, view, setTg, E.np, e_ownL, e_ownN, e_lockN, s_par, p_nil, p_cons, j2, j3, b1, b2, b3, b4, b5, b6, b7, p1, m1, p2, m2, d1, m3]
    have a0 : evS (.ite ((.and ((.prim pIx (.cons (.var 0) (.cons (.lit (.int 1)) .nil)))) (.prim pGt (.cons (.prim pIx (.cons (.var 0) (.cons (.lit (.int 0)) .nil))) (.cons (.lit (.int 0)) .nil))))) ((.seq (.set (.one 2) (.prim pMod (.cons (.prim pInt (.cons (.prim pIx (.cons (.var 0) (.cons (.lit (.int 0)) .nil))) .nil)) (.cons (.var 1) .nil))))
        (.seq (.refIx (.var 0) (.lit (.int 0)) (.prim pDiv (.cons (.prim pIx (.cons (.var 0) (.cons (.lit (.int 0)) .nil))) (.cons (.var 1) .nil))))
        (.ret (.var 2))))) (.skip)) ⟨[.val (.ref k), .val (.int (m : Int)), .no, .no], hp⟩ = .next ⟨[.val (.ref k), .val (.int (m : Int)), .no, .no], hp⟩ := by
      cases s with
      | false => simp [evF, r_ok, r_exn, r_to, r_toX, e_lit, e_val, e_nil, e_cons, e_tup, e_lst, e_prim, e_wk, e_call, e_chain, e_and, e_or, e_not, e_ite, e_dct, e_share, e_test, s_skip, s_seq, s_set, s_own, s_expr, s_ret, s_retN, s_ite, truth, view, setTg, E.np, e_ownL, e_ownN, e_lockN, s_par, p_nil, p_cons, i1]
      | true =>
        have : ¬ 0 < a := fun q => hw ⟨rfl, q⟩
        rw [decide_eq_false this] at g0
        simp [evF, r_ok, r_exn, r_to, r_toX, e_lit, e_val, e_nil, e_cons, e_tup, e_lst, e_prim, e_wk, e_call, e_chain, e_and, e_or, e_not, e_ite, e_dct, e_share, e_test, s_skip, s_seq, s_set, s_own, s_expr, s_ret, s_retN, s_ite, truth, view, setTg, E.np, e_ownL, e_ownN, e_lockN, s_par, p_nil, p_cons, i0, i1, g0]
    show (match evS b__law_take ⟨[.val (.ref k), .val (.int (m : Int)), .no, .no], hp⟩ with | O.ret d z => RF.ok d z.hp | O.next z => RF.ok .non z.hp | O.exn c ds z => RF.exn c ds z.hp | _ => RF.bad) = _
    unfold b__law_take
    rw [s_seq, a0]
    dsimp only
    rw [s_seq, a1]
    dsimp only
    rw [fin]
end
end K66
end
section
set_option Elab.async false
set_option linter.all false
set_option maxRecDepth 1000000
/-! PK: the law's tables. -/
namespace K66
open G
def cyc (n : Nat) : List (List Nat) := (List.range n).map fun a => (List.range n).map fun b => (a + b) % n
def dih (n : Nat) : List (List Nat) := (List.range (2 * n)).map fun a => (List.range (2 * n)).map fun b => (a % n + (if a < n then b % n else n - b % n)) % n + n * (if decide (a < n) != decide (b < n) then 1 else 0)
def dic (n : Nat) : List (List Nat) := (List.range (4 * n)).map fun a => (List.range (4 * n)).map fun b =>
  ((a % (2 * n) + (if a < 2 * n then b % (2 * n) else 2 * n - b % (2 * n)) + (if !decide (a < 2 * n) && !decide (b < 2 * n) then n else 0)) % (2 * n)) + 2 * n * (if decide (a < 2 * n) != decide (b < 2 * n) then 1 else 0)
def dirT (m n : Nat) (A B : List (List Nat)) : List (List Nat) := (List.range (m * n)).map fun a => (List.range (m * n)).map fun b => tab A (a / n) (b / n) * n + tab B (a % n) (b % n)
def rowB (T : List (List Nat)) (n a : Nat) : Bool := Nat.beq (tab T 0 a) a && Nat.beq (tab T a 0) a && ((List.range n).any fun b => Nat.beq (tab T a b) 0 && Nat.beq (tab T b a) 0) && (List.range n).all fun b => (List.range n).all fun c => Nat.beq (tab T (tab T a b) c) (tab T a (tab T b c))
def grpB (n : Nat) (T : List (List Nat)) : Bool := Nat.beq T.length n && (T.all fun r => Nat.beq r.length n && r.all fun x => Nat.blt x n) && Nat.ble 1 n && Nat.ble n 24 && (List.range n).all (rowB T n)
theorem grp_of {n : Nat} {T : List (List Nat)} (h : grpB n T = true) : Grp n T := by
  obtain ⟨h, h5⟩ := and_tt h
  obtain ⟨h, h4⟩ := and_tt h
  obtain ⟨h, h3⟩ := and_tt h
  obtain ⟨h1, h2⟩ := and_tt h
  have hl : T.length = n := Nat.eq_of_beq_eq_true h1
  have hr : ∀ a, a < n → (ro T a).length = n ∧ ∀ b, b < n → tab T a b < n := fun a ha => by
    have ha' : a < T.length := by rw [hl]; exact ha
    have e : ro T a = T[a] := by unfold ro; rw [List.getD_eq_getElem?_getD, List.getElem?_eq_getElem ha']; rfl
    obtain ⟨q1, q2⟩ := and_tt (List.all_eq_true.mp h2 _ (List.getElem_mem ha'))
    rw [← e] at q1 q2
    have hrl : (ro T a).length = n := Nat.eq_of_beq_eq_true q1
    refine ⟨hrl, fun b hb => ?_⟩
    have hb' : b < (ro T a).length := by rw [hrl]; exact hb
    have e2 : tab T a b = (ro T a)[b] := by unfold tab; rw [List.getD_eq_getElem?_getD, List.getElem?_eq_getElem hb']; rfl
    rw [e2]
    have := List.all_eq_true.mp q2 _ (List.getElem_mem hb')
    simp [Nat.blt] at this
    omega
  have hrow : ∀ a, a < n → rowB T n a = true := fun a ha => List.all_eq_true.mp h5 a (List.mem_range.mpr ha)
  refine ⟨⟨hl, fun a ha => (hr a ha).1, fun a b ha hb => (hr a ha).2 b hb⟩, Nat.le_of_ble_eq_true h3, Nat.le_of_ble_eq_true h4, fun a ha => ?_, fun a ha => ?_, fun a b c ha hb hc => ?_, fun a ha => ?_⟩
  · obtain ⟨q, _⟩ := and_tt (hrow a ha)
    obtain ⟨q, _⟩ := and_tt q
    obtain ⟨q, _⟩ := and_tt q
    exact Nat.eq_of_beq_eq_true q
  · obtain ⟨q, _⟩ := and_tt (hrow a ha)
    obtain ⟨q, _⟩ := and_tt q
    obtain ⟨_, q⟩ := and_tt q
    exact Nat.eq_of_beq_eq_true q
  · obtain ⟨_, q⟩ := and_tt (hrow a ha)
    have := List.all_eq_true.mp (List.all_eq_true.mp q b (List.mem_range.mpr hb)) c (List.mem_range.mpr hc)
    exact Nat.eq_of_beq_eq_true this
  · obtain ⟨q, _⟩ := and_tt (hrow a ha)
    obtain ⟨_, q⟩ := and_tt q
    obtain ⟨b, hb, q⟩ := List.any_eq_true.mp q
    obtain ⟨q1, q2⟩ := and_tt q
    exact ⟨b, List.mem_range.mp hb, Nat.eq_of_beq_eq_true q1, Nat.eq_of_beq_eq_true q2⟩
theorem tab_mk (n : Nat) (f : Nat → Nat → Nat) {a b : Nat} (ha : a < n) (hb : b < n) : tab ((List.range n).map fun a => (List.range n).map fun b => f a b) a b = f a b := by
  unfold tab ro
  simp [List.getD_eq_getElem?_getD, ha, hb]
theorem tb_mk (n : Nat) (f : Nat → Nat → Nat) (h : ∀ a b, a < n → b < n → f a b < n) : Tb n ((List.range n).map fun a => (List.range n).map fun b => f a b) := by
  refine ⟨by simp, fun a ha => ?_, fun a b ha hb => ?_⟩
  · unfold ro
    simp [List.getD_eq_getElem?_getD, ha]
  · rw [tab_mk n f ha hb]; exact h a b ha hb
theorem grp_cyc {n : Nat} (h1 : 1 ≤ n) (h2 : n ≤ 24) : Grp n (cyc n) := by
  have ht : ∀ a b, a < n → b < n → tab (cyc n) a b = (a + b) % n := fun a b ha hb => tab_mk n _ ha hb
  have tb : Tb n (cyc n) := tb_mk n (fun a b => (a + b) % n) fun a b _ _ => Nat.mod_lt _ h1
  refine ⟨tb, h1, h2, fun a ha => ?_, fun a ha => ?_, fun a b c ha hb hc => ?_, fun a ha => ?_⟩
  · rw [ht 0 a h1 ha, Nat.zero_add, Nat.mod_eq_of_lt ha]
  · rw [ht a 0 ha h1, Nat.add_zero, Nat.mod_eq_of_lt ha]
  · rw [ht a b ha hb, ht b c hb hc, ht _ c (Nat.mod_lt _ h1) hc, ht a _ ha (Nat.mod_lt _ h1), Nat.mod_add_mod, Nat.add_mod_mod, Nat.add_assoc]
  · by_cases h0 : a = 0
    · subst h0
      exact ⟨0, h1, by rw [ht 0 0 h1 h1]; exact Nat.zero_mod n, by rw [ht 0 0 h1 h1]; exact Nat.zero_mod n⟩
    · have hb : n - a < n := by omega
      refine ⟨n - a, hb, ?_, ?_⟩
      · rw [ht a _ ha hb, show a + (n - a) = n by omega, Nat.mod_self]
      · rw [ht _ a hb ha, show n - a + a = n by omega, Nat.mod_self]
section
variable {hp : List D}
theorem addN (a b : Nat) : pAdd hp [.int (a : Int), .int (b : Int)] = some (.int ((a + b : Nat) : Int)) := rfl
theorem modN (a m : Nat) (hm : 0 < m) : pMod hp [.int (a : Int), .int (m : Int)] = some (.int ((a % m : Nat) : Int)) := if_pos (by omega)
theorem divN (a m : Nat) (hm : 0 < m) (h : m ≤ 1000000) : pDiv hp [.int (a : Int), .int (m : Int)] = some (.int ((a / m : Nat) : Int)) := by
  obtain ⟨r, h1, h2⟩ := divE (hp := hp) a m hm (divOk_of h)
  rw [h1, h2]
theorem mulN (a m : Nat) (ha : a ≤ 1000000) (hm : m ≤ 1000000) : pMul hp [.int (a : Int), .int (m : Int)] = some (.int ((a * m : Nat) : Int)) := mulE (by omega) (by omega)
theorem law_cyclic {n : Nat} (h1 : 1 ≤ n) (h2 : n ≤ 24) : F__law_cyclic [.int (n : Int)] hp = .ok (tabL (cyc n)) hp := by
  have hb : n ≤ big := big_of h2
  have er := rng (hp := hp) hb
  have hr : (List.range n).length ≤ big := rng_len hb
  have c0 : ∀ pk (a : Nat), evE pk C__law_cyclic_0 ⟨[.val (.int (n : Int)), .val (.int (a : Int)), .no], hp⟩ = .ok [.lst (dl ((List.range n).map fun b => (a + b) % n))] ⟨[.val (.int (n : Int)), .val (.int (a : Int)), .no], hp⟩ := fun pk a => by
    have := e_comp (pk := pk) (env := [.val (.int (n : Int)), .val (.int (a : Int)), .no]) (hp1 := hp) (tg := .one 2) (it := .wk pRange1 (.cons (.var 0) .nil)) (c := .lit (.bl true)) (e := .prim pMod (.cons (.prim pAdd (.cons (.var 1) (.cons (.var 2) .nil))) (.cons (.var 0) .nil))) (z := ⟨[.val (.int (n : Int)), .val (.int (a : Int)), .no], hp⟩)
      (wkD (xs := [.int (n : Int)]) (by simp [evF, r_ok, r_exn, r_to, r_toX, e_lit, e_val, e_nil, e_cons, e_tup, e_lst, e_prim, e_wk, e_call, e_chain, e_and, e_or, e_not, e_ite, e_dct, e_share, e_test, s_skip, s_seq, s_set, s_own, s_expr, s_ret, s_retN, s_ite, truth, view, setTg, E.np, e_ownL, e_ownN, e_lockN, s_par, p_nil, p_cons]) er) (items_dn hr) rfl (compL_map dn (fun b => dn ((a + b) % n)) _ hp (List.range n) fun b hb => by
        have e1 := addN (hp := hp) a b
        have e2 := modN (hp := hp) (a + b) n h1
        generalize a + b = s at *
        generalize s % n = t at *
        simp [body1, lockE, wipeE, Slot.locked, Tg.ix, evF, r_ok, r_exn, r_to, r_toX, e_lit, e_val, e_nil, e_cons, e_tup, e_lst, e_prim, e_wk, e_call, e_chain, e_and, e_or, e_not, e_ite, e_dct, e_share, e_test, s_skip, s_seq, s_set, s_own, s_expr, s_ret, s_retN, s_ite, truth, view, setTg, E.np, e_ownL, e_ownN, e_lockN, s_par, p_nil, p_cons, e1, e2])
    refine Eq.trans this ?_
    simp [dl]
  have c1 : ∀ pk, evE pk C__law_cyclic_1 ⟨[.val (.int (n : Int)), .no, .no], hp⟩ = .ok [tabL (cyc n)] ⟨[.val (.int (n : Int)), .no, .no], hp⟩ := fun pk => by
    have := e_comp (pk := pk) (env := [.val (.int (n : Int)), .no, .no]) (hp1 := hp) (tg := .one 1) (it := .wk pRange1 (.cons (.var 0) .nil)) (c := .lit (.bl true)) (e := C__law_cyclic_0) (z := ⟨[.val (.int (n : Int)), .no, .no], hp⟩)
      (wkD (xs := [.int (n : Int)]) (by simp [evF, r_ok, r_exn, r_to, r_toX, e_lit, e_val, e_nil, e_cons, e_tup, e_lst, e_prim, e_wk, e_call, e_chain, e_and, e_or, e_not, e_ite, e_dct, e_share, e_test, s_skip, s_seq, s_set, s_own, s_expr, s_ret, s_retN, s_ite, truth, view, setTg, E.np, e_ownL, e_ownN, e_lockN, s_par, p_nil, p_cons]) er) (items_dn hr) rfl (compL_map dn (fun a => .lst (dl ((List.range n).map fun b => (a + b) % n))) _ hp (List.range n) fun a ha => by
        simp [body1, lockE, wipeE, Slot.locked, Tg.ix, evF, r_ok, r_exn, r_to, r_toX, e_lit, e_val, e_nil, e_cons, e_tup, e_lst, e_prim, e_wk, e_call, e_chain, e_and, e_or, e_not, e_ite, e_dct, e_share, e_test, s_skip, s_seq, s_set, s_own, s_expr, s_ret, s_retN, s_ite, truth, view, setTg, E.np, e_ownL, e_ownN, e_lockN, s_par, p_nil, p_cons, c0])
    refine Eq.trans this ?_
    unfold tabL cyc
    simp
  simp [F__law_cyclic, b__law_cyclic, evF, r_ok, r_exn, r_to, r_toX, e_lit, e_val, e_nil, e_cons, e_tup, e_lst, e_prim, e_wk, e_call, e_chain, e_and, e_or, e_not, e_ite, e_dct, e_share, e_test, s_skip, s_seq, s_set, s_own, s_expr, s_ret, s_retN, s_ite, truth, view, setTg, E.np, e_ownL, e_ownN, e_lockN, s_par, p_nil, p_cons, c1]
theorem law_direct {m n : Nat} {A B : List (List Nat)} (hA : Tb m A) (hB : Tb n B) (hm : 1 ≤ m) (hn : 1 ≤ n) (hmn : m * n ≤ 24) (hn2 : n ≤ 24) (hm2 : m ≤ 24) : F__law_direct [tabL A, tabL B] hp = .ok (tabL (dirT m n A B)) hp := by
  have hb : m * n ≤ big := big_of hmn
  have er := rng (hp := hp) hb
  have hr : (List.range (m * n)).length ≤ big := rng_len hb
  have em := mulN (hp := hp) m n (by omega) (by omega)
  have hdiv : ∀ {x : Nat}, x < m * n → x / n < m := fun h => Nat.div_lt_of_lt_mul (by rw [Nat.mul_comm]; exact h)
  have hmod : ∀ {x : Nat}, x % n < n := Nat.mod_lt _ hn
  have c0 : ∀ pk (a : Nat), a < m * n → evE pk C__law_direct_0 ⟨[.val (tabL A), .val (tabL B), .val (.int (m : Int)), .val (.int (n : Int)), .val (.int (a : Int)), .no], hp⟩ = .ok [.lst (dl ((List.range (m * n)).map fun b => tab A (a / n) (b / n) * n + tab B (a % n) (b % n)))] ⟨[.val (tabL A), .val (tabL B), .val (.int (m : Int)), .val (.int (n : Int)), .val (.int (a : Int)), .no], hp⟩ := fun pk a ha => by
    have := e_comp (pk := pk) (env := [.val (tabL A), .val (tabL B), .val (.int (m : Int)), .val (.int (n : Int)), .val (.int (a : Int)), .no]) (hp1 := hp) (tg := .one 5) (it := .wk pRange1 (.cons (.prim pMul (.cons (.var 2) (.cons (.var 3) .nil))) .nil)) (c := .lit (.bl true)) (e := .prim pAdd (.cons (.prim pMul (.cons (.prim pIx (.cons (.prim pIx (.cons (.var 0) (.cons (.prim pDiv (.cons (.var 4) (.cons (.var 3) .nil))) .nil))) (.cons (.prim pDiv (.cons (.var 5) (.cons (.var 3) .nil))) .nil))) (.cons (.var 3) .nil))) (.cons (.prim pIx (.cons (.prim pIx (.cons (.var 1) (.cons (.prim pMod (.cons (.var 4) (.cons (.var 3) .nil))) .nil))) (.cons (.prim pMod (.cons (.var 5) (.cons (.var 3) .nil))) .nil))) .nil)))
      (z := ⟨[.val (tabL A), .val (tabL B), .val (.int (m : Int)), .val (.int (n : Int)), .val (.int (a : Int)), .no], hp⟩)
      (wkD (xs := [.int ((m * n : Nat) : Int)]) (by simp [evF, r_ok, r_exn, r_to, r_toX, e_lit, e_val, e_nil, e_cons, e_tup, e_lst, e_prim, e_wk, e_call, e_chain, e_and, e_or, e_not, e_ite, e_dct, e_share, e_test, s_skip, s_seq, s_set, s_own, s_expr, s_ret, s_retN, s_ite, truth, view, setTg, E.np, e_ownL, e_ownN, e_lockN, s_par, p_nil, p_cons, em]) er) (items_dn hr) rfl (compL_map dn (fun b => dn (tab A (a / n) (b / n) * n + tab B (a % n) (b % n))) _ hp (List.range (m * n)) fun b hb => by
        have hb := List.mem_range.mp hb
        have e1 := divN (hp := hp) a n hn (by omega)
        have e2 := divN (hp := hp) b n hn (by omega)
        have e3 := modN (hp := hp) a n hn
        have e4 := modN (hp := hp) b n hn
        have e5 := ixTL (hp := hp) hA (hdiv ha)
        have e6 := ixRL (hp := hp) hA (hdiv ha) (hdiv hb)
        have e7 := ixTL (hp := hp) hB (hmod (x := a))
        have e8 := ixRL (hp := hp) hB (hmod (x := a)) (hmod (x := b))
        have l1 := hA.lt _ _ (hdiv ha) (hdiv hb)
        have e9 := mulN (hp := hp) (tab A (a / n) (b / n)) n (by omega) (by omega)
        have e10 := addN (hp := hp) (tab A (a / n) (b / n) * n) (tab B (a % n) (b % n))
        generalize tab A (a / n) (b / n) = x at *
        generalize tab B (a % n) (b % n) = y at *
        generalize x * n + y = u at *
        generalize x * n = v at *
        generalize a / n = a1 at *
        generalize b / n = b1 at *
        generalize a % n = a2 at *
        generalize b % n = b2 at *
        simp [body1, lockE, wipeE, Slot.locked, Tg.ix, evF, r_ok, r_exn, r_to, r_toX, e_lit, e_val, e_nil, e_cons, e_tup, e_lst, e_prim, e_wk, e_call, e_chain, e_and, e_or, e_not, e_ite, e_dct, e_share, e_test, s_skip, s_seq, s_set, s_own, s_expr, s_ret, s_retN, s_ite, truth, view, setTg, E.np, e_ownL, e_ownN, e_lockN, s_par, p_nil, p_cons, e1, e2, e3, e4, e5, e6, e7, e8, e9, e10])
    refine Eq.trans this ?_
    simp [dl]
  have c1 : ∀ pk, evE pk C__law_direct_1 ⟨[.val (tabL A), .val (tabL B), .val (.int (m : Int)), .val (.int (n : Int)), .no, .no], hp⟩ = .ok [tabL (dirT m n A B)] ⟨[.val (tabL A), .val (tabL B), .val (.int (m : Int)), .val (.int (n : Int)), .no, .no], hp⟩ := fun pk => by
    have := e_comp (pk := pk) (env := [.val (tabL A), .val (tabL B), .val (.int (m : Int)), .val (.int (n : Int)), .no, .no]) (hp1 := hp) (tg := .one 4) (it := .wk pRange1 (.cons (.prim pMul (.cons (.var 2) (.cons (.var 3) .nil))) .nil)) (c := .lit (.bl true)) (e := C__law_direct_0) (z := ⟨[.val (tabL A), .val (tabL B), .val (.int (m : Int)), .val (.int (n : Int)), .no, .no], hp⟩)
      (wkD (xs := [.int ((m * n : Nat) : Int)]) (by simp [evF, r_ok, r_exn, r_to, r_toX, e_lit, e_val, e_nil, e_cons, e_tup, e_lst, e_prim, e_wk, e_call, e_chain, e_and, e_or, e_not, e_ite, e_dct, e_share, e_test, s_skip, s_seq, s_set, s_own, s_expr, s_ret, s_retN, s_ite, truth, view, setTg, E.np, e_ownL, e_ownN, e_lockN, s_par, p_nil, p_cons, em]) er) (items_dn hr) rfl (compL_map dn (fun a => .lst (dl ((List.range (m * n)).map fun b => tab A (a / n) (b / n) * n + tab B (a % n) (b % n)))) _ hp (List.range (m * n)) fun a ha => by
        simp [body1, lockE, wipeE, Slot.locked, Tg.ix, evF, r_ok, r_exn, r_to, r_toX, e_lit, e_val, e_nil, e_cons, e_tup, e_lst, e_prim, e_wk, e_call, e_chain, e_and, e_or, e_not, e_ite, e_dct, e_share, e_test, s_skip, s_seq, s_set, s_own, s_expr, s_ret, s_retN, s_ite, truth, view, setTg, E.np, e_ownL, e_ownN, e_lockN, s_par, p_nil, p_cons, c0 _ a (List.mem_range.mp ha)])
    refine Eq.trans this ?_
    unfold tabL dirT
    simp
  simp [F__law_direct, b__law_direct, evF, r_ok, r_exn, r_to, r_toX, e_lit, e_val, e_nil, e_cons, e_tup, e_lst, e_prim, e_wk, e_call, e_chain, e_and, e_or, e_not, e_ite, e_dct, e_share, e_test, s_skip, s_seq, s_set, s_own, s_expr, s_ret, s_retN, s_ite, truth, view, setTg, E.np, e_ownL, e_ownN, e_lockN, s_par, p_nil, p_cons, lenTL hA, lenTL hB, c1, setMany, big]
end
end K66
end
section
set_option Elab.async false
set_option linter.all false
set_option maxRecDepth 1000000
/-! PL: concrete tables. -/
namespace K66
open G
section
variable {hp : List D}
theorem dih_1 : F__law_dihedral [.int (1 : Nat)] hp = .ok (tabL (dih 1)) hp := by kernel_rfl
theorem dihG_1 : grpB (2 * 1) (dih 1) = true := by kernel_rfl
theorem dih_2 : F__law_dihedral [.int (2 : Nat)] hp = .ok (tabL (dih 2)) hp := by kernel_rfl
theorem dihG_2 : grpB (2 * 2) (dih 2) = true := by kernel_rfl
theorem dih_3 : F__law_dihedral [.int (3 : Nat)] hp = .ok (tabL (dih 3)) hp := by kernel_rfl
theorem dihG_3 : grpB (2 * 3) (dih 3) = true := by kernel_rfl
theorem dih_4 : F__law_dihedral [.int (4 : Nat)] hp = .ok (tabL (dih 4)) hp := by kernel_rfl
theorem dihG_4 : grpB (2 * 4) (dih 4) = true := by kernel_rfl
theorem dih_5 : F__law_dihedral [.int (5 : Nat)] hp = .ok (tabL (dih 5)) hp := by kernel_rfl
theorem dihG_5 : grpB (2 * 5) (dih 5) = true := by kernel_rfl
theorem dih_6 : F__law_dihedral [.int (6 : Nat)] hp = .ok (tabL (dih 6)) hp := by kernel_rfl
theorem dihG_6 : grpB (2 * 6) (dih 6) = true := by kernel_rfl
theorem dih_7 : F__law_dihedral [.int (7 : Nat)] hp = .ok (tabL (dih 7)) hp := by kernel_rfl
theorem dihG_7 : grpB (2 * 7) (dih 7) = true := by kernel_rfl
theorem dih_8 : F__law_dihedral [.int (8 : Nat)] hp = .ok (tabL (dih 8)) hp := by kernel_rfl
theorem dihG_8 : grpB (2 * 8) (dih 8) = true := by kernel_rfl
theorem dih_9 : F__law_dihedral [.int (9 : Nat)] hp = .ok (tabL (dih 9)) hp := by kernel_rfl
theorem dihG_9 : grpB (2 * 9) (dih 9) = true := by kernel_rfl
theorem dih_10 : F__law_dihedral [.int (10 : Nat)] hp = .ok (tabL (dih 10)) hp := by kernel_rfl
theorem dihG_10 : grpB (2 * 10) (dih 10) = true := by kernel_rfl
theorem dih_11 : F__law_dihedral [.int (11 : Nat)] hp = .ok (tabL (dih 11)) hp := by kernel_rfl
theorem dihG_11 : grpB (2 * 11) (dih 11) = true := by kernel_rfl
theorem dih_12 : F__law_dihedral [.int (12 : Nat)] hp = .ok (tabL (dih 12)) hp := by kernel_rfl
theorem dihG_12 : grpB (2 * 12) (dih 12) = true := by kernel_rfl
theorem law_dih {h : Nat} (h1 : 1 ≤ h) (h2 : h ≤ 12) : F__law_dihedral [.int (h : Int)] hp = .ok (tabL (dih h)) hp := by
  have : h = 1 ∨ h = 2 ∨ h = 3 ∨ h = 4 ∨ h = 5 ∨ h = 6 ∨ h = 7 ∨ h = 8 ∨ h = 9 ∨ h = 10 ∨ h = 11 ∨ h = 12 := by omega
  rcases this with rfl | rfl | rfl | rfl | rfl | rfl | rfl | rfl | rfl | rfl | rfl | rfl
  · exact dih_1
  · exact dih_2
  · exact dih_3
  · exact dih_4
  · exact dih_5
  · exact dih_6
  · exact dih_7
  · exact dih_8
  · exact dih_9
  · exact dih_10
  · exact dih_11
  · exact dih_12
theorem grp_dih {h : Nat} (h1 : 1 ≤ h) (h2 : h ≤ 12) : Grp (2 * h) (dih h) := by
  have : h = 1 ∨ h = 2 ∨ h = 3 ∨ h = 4 ∨ h = 5 ∨ h = 6 ∨ h = 7 ∨ h = 8 ∨ h = 9 ∨ h = 10 ∨ h = 11 ∨ h = 12 := by omega
  rcases this with rfl | rfl | rfl | rfl | rfl | rfl | rfl | rfl | rfl | rfl | rfl | rfl
  · exact grp_of dihG_1
  · exact grp_of dihG_2
  · exact grp_of dihG_3
  · exact grp_of dihG_4
  · exact grp_of dihG_5
  · exact grp_of dihG_6
  · exact grp_of dihG_7
  · exact grp_of dihG_8
  · exact grp_of dihG_9
  · exact grp_of dihG_10
  · exact grp_of dihG_11
  · exact grp_of dihG_12
theorem dic_1 : F__law_dicyclic [.int (1 : Nat)] hp = .ok (tabL (dic 1)) hp := by kernel_rfl
theorem dicG_1 : grpB (4 * 1) (dic 1) = true := by kernel_rfl
theorem dic_2 : F__law_dicyclic [.int (2 : Nat)] hp = .ok (tabL (dic 2)) hp := by kernel_rfl
theorem dicG_2 : grpB (4 * 2) (dic 2) = true := by kernel_rfl
theorem dic_3 : F__law_dicyclic [.int (3 : Nat)] hp = .ok (tabL (dic 3)) hp := by kernel_rfl
theorem dicG_3 : grpB (4 * 3) (dic 3) = true := by kernel_rfl
theorem dic_4 : F__law_dicyclic [.int (4 : Nat)] hp = .ok (tabL (dic 4)) hp := by kernel_rfl
theorem dicG_4 : grpB (4 * 4) (dic 4) = true := by kernel_rfl
theorem dic_5 : F__law_dicyclic [.int (5 : Nat)] hp = .ok (tabL (dic 5)) hp := by kernel_rfl
theorem dicG_5 : grpB (4 * 5) (dic 5) = true := by kernel_rfl
theorem dic_6 : F__law_dicyclic [.int (6 : Nat)] hp = .ok (tabL (dic 6)) hp := by kernel_rfl
theorem dicG_6 : grpB (4 * 6) (dic 6) = true := by kernel_rfl
theorem law_dic {h : Nat} (h1 : 1 ≤ h) (h2 : h ≤ 6) : F__law_dicyclic [.int (h : Int)] hp = .ok (tabL (dic h)) hp := by
  have : h = 1 ∨ h = 2 ∨ h = 3 ∨ h = 4 ∨ h = 5 ∨ h = 6 := by omega
  rcases this with rfl | rfl | rfl | rfl | rfl | rfl
  · exact dic_1
  · exact dic_2
  · exact dic_3
  · exact dic_4
  · exact dic_5
  · exact dic_6
theorem grp_dic {h : Nat} (h1 : 1 ≤ h) (h2 : h ≤ 6) : Grp (4 * h) (dic h) := by
  have : h = 1 ∨ h = 2 ∨ h = 3 ∨ h = 4 ∨ h = 5 ∨ h = 6 := by omega
  rcases this with rfl | rfl | rfl | rfl | rfl | rfl
  · exact grp_of dicG_1
  · exact grp_of dicG_2
  · exact grp_of dicG_3
  · exact grp_of dicG_4
  · exact grp_of dicG_5
  · exact grp_of dicG_6
theorem dcc : ((List.range 7).all fun o => (List.range 13).all fun r => Nat.beq o 0 || Nat.beq r 0 || Nat.blt 12 (o * r) || grpB (o * r) (dirT o r (cyc o) (cyc r))) = true := by kernel_rfl
theorem dcd : ((List.range 3).all fun o => (List.range 7).all fun r => Nat.beq o 0 || Nat.beq r 0 || Nat.blt 12 (o * (2 * r)) || grpB (o * (2 * r)) (dirT o (2 * r) (cyc o) (dih r))) = true := by kernel_rfl
theorem beq0 {a : Nat} (h : 1 ≤ a) : Nat.beq a 0 = false := by
  cases a with
  | zero => exact absurd h (by decide)
  | succ a => rfl
theorem blt12 {a : Nat} (h : a ≤ 12) : Nat.blt 12 a = false := by
  cases e : Nat.blt 12 a with
  | false => rfl
  | true => simp [Nat.blt] at e; omega
theorem grp_cc {o r : Nat} (h1 : 1 ≤ o) (h2 : o ≤ 6) (h3 : 1 ≤ r) (h4 : r ≤ 12) (h5 : o * r ≤ 12) : Grp (o * r) (dirT o r (cyc o) (cyc r)) := by
  have := List.all_eq_true.mp (List.all_eq_true.mp dcc o (List.mem_range.mpr (by omega))) r (List.mem_range.mpr (by omega))
  rw [beq0 h1, beq0 h3, blt12 h5] at this
  exact grp_of this
theorem grp_cd {o r : Nat} (h1 : 1 ≤ o) (h2 : o ≤ 2) (h3 : 1 ≤ r) (h4 : r ≤ 6) (h5 : o * (2 * r) ≤ 12) : Grp (o * (2 * r)) (dirT o (2 * r) (cyc o) (dih r)) := by
  have := List.all_eq_true.mp (List.all_eq_true.mp dcd o (List.mem_range.mpr (by omega))) r (List.mem_range.mpr (by omega))
  rw [beq0 h1, beq0 h3, blt12 h5] at this
  exact grp_of this
/-! ### tables by permutations -/
def tp (l : List Nat) : D := .tup (dl l)
def menu : List D := [.lst [tp [1, 0, 2], tp [0, 2, 1]], .lst [tp [1, 0, 3, 2], tp [1, 2, 0, 3]], .lst [tp [1, 2, 3, 0], tp [1, 0, 2, 3]], .lst [tp [1, 2, 3, 4, 0], tp [0, 2, 4, 1, 3]], .lst [tp [1, 2, 3, 4, 5, 6, 0], tp [0, 2, 4, 6, 1, 3, 5]], .lst [tp [1, 2, 0, 4, 5, 3], tp [0, 2, 1, 3, 5, 4]]]
def prm0 : List D := [tp [0, 1, 2], tp [0, 2, 1], tp [1, 0, 2], tp [1, 2, 0], tp [2, 0, 1], tp [2, 1, 0]]
def pT0 : List (List Nat) := [[0, 1, 2, 3, 4, 5], [1, 0, 3, 2, 5, 4], [2, 4, 0, 5, 1, 3], [3, 5, 1, 4, 0, 2], [4, 2, 5, 0, 3, 1], [5, 3, 4, 1, 2, 0]]
def prm1 : List D := [tp [0, 1, 2, 3], tp [0, 2, 3, 1], tp [0, 3, 1, 2], tp [1, 0, 3, 2], tp [1, 2, 0, 3], tp [1, 3, 2, 0], tp [2, 0, 1, 3], tp [2, 1, 3, 0], tp [2, 3, 0, 1], tp [3, 0, 2, 1], tp [3, 1, 0, 2], tp [3, 2, 1, 0]]
def pT1 : List (List Nat) := [[0, 1, 2, 3, 4, 5, 6, 7, 8, 9, 10, 11], [1, 2, 0, 5, 3, 4, 7, 8, 6, 11, 9, 10], [2, 0, 1, 4, 5, 3, 8, 6, 7, 10, 11, 9], [3, 6, 9, 0, 7, 10, 1, 4, 11, 2, 5, 8], [4, 8, 10, 2, 6, 11, 0, 5, 9, 1, 3, 7], [5, 7, 11, 1, 8, 9, 2, 3, 10, 0, 4, 6], [6, 9, 3, 10, 0, 7, 4, 11, 1, 8, 2, 5], [7, 11, 5, 9, 1, 8, 3, 10, 2, 6, 0, 4], [8, 10, 4, 11, 2, 6, 5, 9, 0, 7, 1, 3], [9, 3, 6, 7, 10, 0, 11, 1, 4, 5, 8, 2], [10, 4, 8, 6, 11, 2, 9, 0, 5, 3, 7, 1], [11, 5, 7, 8, 9, 1, 10, 2, 3, 4, 6, 0]]
def prm2 : List D := [tp [0, 1, 2, 3], tp [0, 1, 3, 2], tp [0, 2, 1, 3], tp [0, 2, 3, 1], tp [0, 3, 1, 2], tp [0, 3, 2, 1], tp [1, 0, 2, 3], tp [1, 0, 3, 2], tp [1, 2, 0, 3], tp [1, 2, 3, 0], tp [1, 3, 0, 2], tp [1, 3, 2, 0], tp [2, 0, 1, 3], tp [2, 0, 3, 1], tp [2, 1, 0, 3], tp [2, 1, 3, 0], tp [2, 3, 0, 1], tp [2, 3, 1, 0], tp [3, 0, 1, 2], tp [3, 0, 2, 1], tp [3, 1, 0, 2], tp [3, 1, 2, 0], tp [3, 2, 0, 1], tp [3, 2, 1, 0]]
def pT2 : List (List Nat) := [[0, 1, 2, 3, 4, 5, 6, 7, 8, 9, 10, 11, 12, 13, 14, 15, 16, 17, 18, 19, 20, 21, 22, 23], [1, 0, 3, 2, 5, 4, 7, 6, 9, 8, 11, 10, 13, 12, 15, 14, 17, 16, 19, 18, 21, 20, 23, 22], [2, 4, 0, 5, 1, 3, 8, 10, 6, 11, 7, 9, 14, 16, 12, 17, 13, 15, 20, 22, 18, 23, 19, 21], [3, 5, 1, 4, 0, 2, 9, 11, 7, 10, 6, 8, 15, 17, 13, 16, 12, 14, 21, 23, 19, 22, 18, 20], [4, 2, 5, 0, 3, 1, 10, 8, 11, 6, 9, 7, 16, 14, 17, 12, 15, 13, 22, 20, 23, 18, 21, 19], [5, 3, 4, 1, 2, 0, 11, 9, 10, 7, 8, 6, 17, 15, 16, 13, 14, 12, 23, 21, 22, 19, 20, 18], [6, 7, 12, 13, 18, 19, 0, 1, 14, 15, 20, 21, 2, 3, 8, 9, 22, 23, 4, 5, 10, 11, 16, 17], [7, 6, 13, 12, 19, 18, 1, 0, 15, 14, 21, 20, 3, 2, 9, 8, 23, 22, 5, 4, 11, 10, 17, 16], [8, 10, 14, 16, 20, 22, 2, 4, 12, 17, 18, 23, 0, 5, 6, 11, 19, 21, 1, 3, 7, 9, 13, 15], [9, 11, 15, 17, 21, 23, 3, 5, 13, 16, 19, 22, 1, 4, 7, 10, 18, 20, 0, 2, 6, 8, 12, 14], [10, 8, 16, 14, 22, 20, 4, 2, 17, 12, 23, 18, 5, 0, 11, 6, 21, 19, 3, 1, 9, 7, 15, 13], [11, 9, 17, 15, 23, 21, 5, 3, 16, 13, 22, 19, 4, 1, 10, 7, 20, 18, 2, 0, 8, 6, 14, 12], [12, 18, 6, 19, 7, 13, 14, 20, 0, 21, 1, 15, 8, 22, 2, 23, 3, 9, 10, 16, 4, 17, 5, 11], [13, 19, 7, 18, 6, 12, 15, 21, 1, 20, 0, 14, 9, 23, 3, 22, 2, 8, 11, 17, 5, 16, 4, 10], [14, 20, 8, 22, 10, 16, 12, 18, 2, 23, 4, 17, 6, 19, 0, 21, 5, 11, 7, 13, 1, 15, 3, 9], [15, 21, 9, 23, 11, 17, 13, 19, 3, 22, 5, 16, 7, 18, 1, 20, 4, 10, 6, 12, 0, 14, 2, 8], [16, 22, 10, 20, 8, 14, 17, 23, 4, 18, 2, 12, 11, 21, 5, 19, 0, 6, 9, 15, 3, 13, 1, 7], [17, 23, 11, 21, 9, 15, 16, 22, 5, 19, 3, 13, 10, 20, 4, 18, 1, 7, 8, 14, 2, 12, 0, 6], [18, 12, 19, 6, 13, 7, 20, 14, 21, 0, 15, 1, 22, 8, 23, 2, 9, 3, 16, 10, 17, 4, 11, 5], [19, 13, 18, 7, 12, 6, 21, 15, 20, 1, 14, 0, 23, 9, 22, 3, 8, 2, 17, 11, 16, 5, 10, 4], [20, 14, 22, 8, 16, 10, 18, 12, 23, 2, 17, 4, 19, 6, 21, 0, 11, 5, 13, 7, 15, 1, 9, 3], [21, 15, 23, 9, 17, 11, 19, 13, 22, 3, 16, 5, 18, 7, 20, 1, 10, 4, 12, 6, 14, 0, 8, 2], [22, 16, 20, 10, 14, 8, 23, 17, 18, 4, 12, 2, 21, 11, 19, 5, 6, 0, 15, 9, 13, 3, 7, 1], [23, 17, 21, 11, 15, 9, 22, 16, 19, 5, 13, 3, 20, 10, 18, 4, 7, 1, 14, 8, 12, 2, 6, 0]]
def prm3 : List D := [tp [0, 1, 2, 3, 4], tp [0, 2, 4, 1, 3], tp [0, 3, 1, 4, 2], tp [0, 4, 3, 2, 1], tp [1, 0, 4, 3, 2], tp [1, 2, 3, 4, 0], tp [1, 3, 0, 2, 4], tp [1, 4, 2, 0, 3], tp [2, 0, 3, 1, 4], tp [2, 1, 0, 4, 3], tp [2, 3, 4, 0, 1], tp [2, 4, 1, 3, 0], tp [3, 0, 2, 4, 1], tp [3, 1, 4, 2, 0], tp [3, 2, 1, 0, 4], tp [3, 4, 0, 1, 2], tp [4, 0, 1, 2, 3], tp [4, 1, 3, 0, 2], tp [4, 2, 0, 3, 1], tp [4, 3, 2, 1, 0]]
def pT3 : List (List Nat) := [[0, 1, 2, 3, 4, 5, 6, 7, 8, 9, 10, 11, 12, 13, 14, 15, 16, 17, 18, 19], [1, 3, 0, 2, 7, 6, 4, 5, 10, 8, 11, 9, 14, 15, 13, 12, 17, 19, 16, 18], [2, 0, 3, 1, 6, 7, 5, 4, 9, 11, 8, 10, 15, 14, 12, 13, 18, 16, 19, 17], [3, 2, 1, 0, 5, 4, 7, 6, 11, 10, 9, 8, 13, 12, 15, 14, 19, 18, 17, 16], [4, 8, 12, 16, 0, 9, 13, 17, 1, 5, 14, 18, 2, 6, 10, 19, 3, 7, 11, 15], [5, 11, 13, 19, 3, 10, 12, 18, 2, 4, 15, 17, 1, 7, 9, 16, 0, 6, 8, 14], [6, 9, 15, 18, 2, 11, 14, 16, 0, 7, 12, 19, 3, 5, 8, 17, 1, 4, 10, 13], [7, 10, 14, 17, 1, 8, 15, 19, 3, 6, 13, 16, 0, 4, 11, 18, 2, 5, 9, 12], [8, 16, 4, 12, 17, 13, 0, 9, 14, 1, 18, 5, 10, 19, 6, 2, 7, 15, 3, 11], [9, 18, 6, 15, 16, 14, 2, 11, 12, 0, 19, 7, 8, 17, 5, 3, 4, 13, 1, 10], [10, 17, 7, 14, 19, 15, 1, 8, 13, 3, 16, 6, 11, 18, 4, 0, 5, 12, 2, 9], [11, 19, 5, 13, 18, 12, 3, 10, 15, 2, 17, 4, 9, 16, 7, 1, 6, 14, 0, 8], [12, 4, 16, 8, 13, 17, 9, 0, 5, 18, 1, 14, 19, 10, 2, 6, 11, 3, 15, 7], [13, 5, 19, 11, 12, 18, 10, 3, 4, 17, 2, 15, 16, 9, 1, 7, 8, 0, 14, 6], [14, 7, 17, 10, 15, 19, 8, 1, 6, 16, 3, 13, 18, 11, 0, 4, 9, 2, 12, 5], [15, 6, 18, 9, 14, 16, 11, 2, 7, 19, 0, 12, 17, 8, 3, 5, 10, 1, 13, 4], [16, 12, 8, 4, 9, 0, 17, 13, 18, 14, 5, 1, 6, 2, 19, 10, 15, 11, 7, 3], [17, 14, 10, 7, 8, 1, 19, 15, 16, 13, 6, 3, 4, 0, 18, 11, 12, 9, 5, 2], [18, 15, 9, 6, 11, 2, 16, 14, 19, 12, 7, 0, 5, 3, 17, 8, 13, 10, 4, 1], [19, 13, 11, 5, 10, 3, 18, 12, 17, 15, 4, 2, 7, 1, 16, 9, 14, 8, 6, 0]]
def prm4 : List D := [tp [0, 1, 2, 3, 4, 5, 6], tp [0, 2, 4, 6, 1, 3, 5], tp [0, 4, 1, 5, 2, 6, 3], tp [1, 2, 3, 4, 5, 6, 0], tp [1, 3, 5, 0, 2, 4, 6], tp [1, 5, 2, 6, 3, 0, 4], tp [2, 3, 4, 5, 6, 0, 1], tp [2, 4, 6, 1, 3, 5, 0], tp [2, 6, 3, 0, 4, 1, 5], tp [3, 0, 4, 1, 5, 2, 6], tp [3, 4, 5, 6, 0, 1, 2], tp [3, 5, 0, 2, 4, 6, 1], tp [4, 1, 5, 2, 6, 3, 0], tp [4, 5, 6, 0, 1, 2, 3], tp [4, 6, 1, 3, 5, 0, 2], tp [5, 0, 2, 4, 6, 1, 3], tp [5, 2, 6, 3, 0, 4, 1], tp [5, 6, 0, 1, 2, 3, 4], tp [6, 0, 1, 2, 3, 4, 5], tp [6, 1, 3, 5, 0, 2, 4], tp [6, 3, 0, 4, 1, 5, 2]]
def pT4 : List (List Nat) := [[0, 1, 2, 3, 4, 5, 6, 7, 8, 9, 10, 11, 12, 13, 14, 15, 16, 17, 18, 19, 20], [1, 2, 0, 4, 5, 3, 7, 8, 6, 10, 11, 9, 13, 14, 12, 16, 17, 15, 19, 20, 18], [2, 0, 1, 5, 3, 4, 8, 6, 7, 11, 9, 10, 14, 12, 13, 17, 15, 16, 20, 18, 19], [3, 7, 12, 6, 11, 16, 10, 14, 20, 2, 13, 15, 5, 17, 19, 1, 8, 18, 0, 4, 9], [4, 8, 13, 7, 9, 17, 11, 12, 18, 0, 14, 16, 3, 15, 20, 2, 6, 19, 1, 5, 10], [5, 6, 14, 8, 10, 15, 9, 13, 19, 1, 12, 17, 4, 16, 18, 0, 7, 20, 2, 3, 11], [6, 14, 5, 10, 15, 8, 13, 19, 9, 12, 17, 1, 16, 18, 4, 7, 20, 0, 3, 11, 2], [7, 12, 3, 11, 16, 6, 14, 20, 10, 13, 15, 2, 17, 19, 5, 8, 18, 1, 4, 9, 0], [8, 13, 4, 9, 17, 7, 12, 18, 11, 14, 16, 0, 15, 20, 3, 6, 19, 2, 5, 10, 1], [9, 18, 15, 12, 0, 19, 16, 3, 1, 4, 20, 6, 7, 2, 10, 13, 11, 5, 8, 17, 14], [10, 19, 16, 13, 1, 20, 17, 4, 2, 5, 18, 7, 8, 0, 11, 14, 9, 3, 6, 15, 12], [11, 20, 17, 14, 2, 18, 15, 5, 0, 3, 19, 8, 6, 1, 9, 12, 10, 4, 7, 16, 13], [12, 3, 7, 16, 6, 11, 20, 10, 14, 15, 2, 13, 19, 5, 17, 18, 1, 8, 9, 0, 4], [13, 4, 8, 17, 7, 9, 18, 11, 12, 16, 0, 14, 20, 3, 15, 19, 2, 6, 10, 1, 5], [14, 5, 6, 15, 8, 10, 19, 9, 13, 17, 1, 12, 18, 4, 16, 20, 0, 7, 11, 2, 3], [15, 9, 18, 19, 12, 0, 1, 16, 3, 6, 4, 20, 10, 7, 2, 5, 13, 11, 14, 8, 17], [16, 10, 19, 20, 13, 1, 2, 17, 4, 7, 5, 18, 11, 8, 0, 3, 14, 9, 12, 6, 15], [17, 11, 20, 18, 14, 2, 0, 15, 5, 8, 3, 19, 9, 6, 1, 4, 12, 10, 13, 7, 16], [18, 15, 9, 0, 19, 12, 3, 1, 16, 20, 6, 4, 2, 10, 7, 11, 5, 13, 17, 14, 8], [19, 16, 10, 1, 20, 13, 4, 2, 17, 18, 7, 5, 0, 11, 8, 9, 3, 14, 15, 12, 6], [20, 17, 11, 2, 18, 14, 5, 0, 15, 19, 8, 3, 1, 9, 6, 10, 4, 12, 16, 13, 7]]
def prm5 : List D := [tp [0, 1, 2, 3, 4, 5], tp [0, 2, 1, 3, 5, 4], tp [1, 0, 2, 4, 3, 5], tp [1, 2, 0, 4, 5, 3], tp [2, 0, 1, 5, 3, 4], tp [2, 1, 0, 5, 4, 3]]
def pT5 : List (List Nat) := [[0, 1, 2, 3, 4, 5], [1, 0, 3, 2, 5, 4], [2, 4, 0, 5, 1, 3], [3, 5, 1, 4, 0, 2], [4, 2, 5, 0, 3, 1], [5, 3, 4, 1, 2, 0]]
def prm (k : Nat) : D := .lst ([prm0, prm1, prm2, prm3, prm4, prm5].getD k [])
def pT (k : Nat) : List (List Nat) := [pT0, pT1, pT2, pT3, pT4, pT5].getD k []
theorem prm_0 : F__law_by_permutations [menu.getD 0 .non] hp = .ok (prm 0) hp := by kernel_rfl
theorem pT_0 : F__law_table [prm 0] hp = .ok (tabL (pT 0)) hp := by kernel_rfl
theorem pL_0 : (pT 0).length = 6 := by kernel_rfl
theorem pG_0 : grpB 6 (pT 0) = true := by kernel_rfl
theorem prm_1 : F__law_by_permutations [menu.getD 1 .non] hp = .ok (prm 1) hp := by kernel_rfl
theorem pT_1 : F__law_table [prm 1] hp = .ok (tabL (pT 1)) hp := by kernel_rfl
theorem pL_1 : (pT 1).length = 12 := by kernel_rfl
theorem pG_1 : grpB 12 (pT 1) = true := by kernel_rfl
theorem prm_2 : F__law_by_permutations [menu.getD 2 .non] hp = .ok (prm 2) hp := by kernel_rfl
theorem pT_2 : F__law_table [prm 2] hp = .ok (tabL (pT 2)) hp := by kernel_rfl
theorem pL_2 : (pT 2).length = 24 := by kernel_rfl
theorem prm_3 : F__law_by_permutations [menu.getD 3 .non] hp = .ok (prm 3) hp := by kernel_rfl
theorem pT_3 : F__law_table [prm 3] hp = .ok (tabL (pT 3)) hp := by kernel_rfl
theorem pL_3 : (pT 3).length = 20 := by kernel_rfl
theorem prm_4 : F__law_by_permutations [menu.getD 4 .non] hp = .ok (prm 4) hp := by kernel_rfl
theorem pT_4 : F__law_table [prm 4] hp = .ok (tabL (pT 4)) hp := by kernel_rfl
theorem pL_4 : (pT 4).length = 21 := by kernel_rfl
theorem prm_5 : F__law_by_permutations [menu.getD 5 .non] hp = .ok (prm 5) hp := by kernel_rfl
theorem pT_5 : F__law_table [prm 5] hp = .ok (tabL (pT 5)) hp := by kernel_rfl
theorem pL_5 : (pT 5).length = 6 := by kernel_rfl
theorem pG_5 : grpB 6 (pT 5) = true := by kernel_rfl
theorem law_prm {k : Nat} (h : k < 6) : F__law_by_permutations [menu.getD k .non] hp = .ok (prm k) hp := by
  have : k = 0 ∨ k = 1 ∨ k = 2 ∨ k = 3 ∨ k = 4 ∨ k = 5 := by omega
  rcases this with rfl | rfl | rfl | rfl | rfl | rfl
  · exact prm_0
  · exact prm_1
  · exact prm_2
  · exact prm_3
  · exact prm_4
  · exact prm_5
theorem law_pT {k : Nat} (h : k < 6) : F__law_table [prm k] hp = .ok (tabL (pT k)) hp := by
  have : k = 0 ∨ k = 1 ∨ k = 2 ∨ k = 3 ∨ k = 4 ∨ k = 5 := by omega
  rcases this with rfl | rfl | rfl | rfl | rfl | rfl
  · exact pT_0
  · exact pT_1
  · exact pT_2
  · exact pT_3
  · exact pT_4
  · exact pT_5
theorem grp_pT {k : Nat} (h : k < 6) (hl : (pT k).length ≤ 12) : Grp (pT k).length (pT k) := by
  have : k = 0 ∨ k = 1 ∨ k = 2 ∨ k = 3 ∨ k = 4 ∨ k = 5 := by omega
  rcases this with rfl | rfl | rfl | rfl | rfl | rfl
  · rw [pL_0]; exact grp_of pG_0
  · rw [pL_1]; exact grp_of pG_1
  · rw [pL_2] at hl; exact absurd hl (by decide)
  · rw [pL_3] at hl; exact absurd hl (by decide)
  · rw [pL_4] at hl; exact absurd hl (by decide)
  · rw [pL_5]; exact grp_of pG_5
theorem len_pT {k : Nat} (h : k < 6) : (pT k).length ≤ 24 := by
  have : k = 0 ∨ k = 1 ∨ k = 2 ∨ k = 3 ∨ k = 4 ∨ k = 5 := by omega
  rcases this with rfl | rfl | rfl | rfl | rfl | rfl
  · rw [pL_0]; decide
  · rw [pL_1]; decide
  · rw [pL_2]; decide
  · rw [pL_3]; decide
  · rw [pL_4]; decide
  · rw [pL_5]; decide
end
end K66
end
section
set_option Elab.async false
set_option linter.all false
set_option maxRecDepth 100000
/-! PN: mixed, renamed. -/
namespace K66
open G
theorem e_popAt {pk : Bool} {i : Nat} {e : E} {z z1 : Z} {xs0 xs : List D} {j : Int} {n : Nat} (h0 : z.env.getD i .no = .own (.lst xs0)) (he : evE true e z = .ok [.int j] z1) (h1 : z1.env.getD i .no = .own (.lst xs)) (hl : xs.length ≤ big) (hj : ixOf xs.length j = some n) :
    evE pk (.popAt i e) z = .ok [xs.getD n .non] { z1 with env := z1.env.set i (.own (.lst (xs.eraseIdx n))) } := by
  unfold evE
  rw [h0]
  dsimp only
  rw [he, r_ok, h1]
  dsimp only
  rw [if_pos hl, hj]
theorem dl_erase : ∀ (l : List Nat) (k : Nat), (dl l).eraseIdx k = dl (l.eraseIdx k)
  | [], _ => rfl
  | _ :: _, 0 => rfl
  | x :: l, k + 1 => by
    show dn x :: (dl l).eraseIdx k = dn x :: dl (l.eraseIdx k)
    rw [dl_erase l k]
theorem dl_getD (l : List Nat) (k : Nat) (h : k < l.length) : (dl l).getD k .non = dn (l.getD k 0) := by
  simp [dl, List.getD_eq_getElem?_getD, List.getElem?_eq_getElem h]
theorem erase_perm : ∀ (l : List Nat) (d : Nat), d < l.length → (l.getD d 0 :: l.eraseIdx d).Perm l
  | [], _, h => absurd h (Nat.not_lt_zero _)
  | x :: l, 0, _ => List.Perm.refl _
  | x :: l, d + 1, h => (List.Perm.swap x (l.getD d 0) (l.eraseIdx d)).trans ((erase_perm l d (Nat.lt_of_succ_lt_succ h)).cons x)
section
variable {hp : List D}
def Lf (k b m N : Nat) (j : Nat) (z : Z) : Prop := ∃ (left found : List Nat) (hp' : List D), z = ⟨[.val (.ref k), .val (.int (m : Int)), .own (.lst (dl left)), .own (.lst (dl found))], hp'⟩ ∧ (found ++ left).Perm (List.range m) ∧ Bx k (b + left.length) hp' ∧ hp'.length = N ∧ j = left.length
theorem mixed {k b m : Nat} (hm : m ≤ 24) (h : Bx k (b + m) hp) : ∃ (l : List Nat) (hp' : List D), F__law_mixed [.ref k, .int (m : Int)] hp = .ok (.lst (dl l)) hp' ∧ l.Perm (List.range m) ∧ Bx k b hp' ∧ hp'.length = hp.length := by
  have er := rng (hp := hp) (n := m) (big_of hm)
  obtain ⟨z', e, l, hp', rfl, h1, h2, h3⟩ := while_ix (c := .prim pNe (.cons (.var 2) (.cons (.lstE (.nil)) .nil))) (b := B__law_mixed_0) (z := ⟨[.val (.ref k), .val (.int (m : Int)), .own (.lst (dl (List.range m))), .own (.lst (dl []))], hp⟩) (Lf k b m hp.length)
    (fun z => ∃ (l : List Nat) (hp' : List D), z = ⟨[.val (.ref k), .val (.int (m : Int)), .own (.lst (dl [])), .own (.lst (dl l))], hp'⟩ ∧ l.Perm (List.range m) ∧ Bx k b hp' ∧ hp'.length = hp.length) m
    ⟨List.range m, [], hp, rfl, List.Perm.refl _, by rw [List.length_range]; exact h, rfl, by rw [List.length_range]⟩ (by omega) (fun j z hz => by
      obtain ⟨left, found, hp', rfl, hperm, hb, hl, rfl⟩ := hz
      have hlen := hperm.length_eq
      rw [List.length_append, List.length_range] at hlen
      have e1 := pNeL (hp := hp') (flats_dl 49 left)
      have t1 : evT (.prim pNe (.cons (.var 2) (.cons (.lstE (.nil)) .nil))) ⟨[.val (.ref k), .val (.int (m : Int)), .own (.lst (dl left)), .own (.lst (dl found))], hp'⟩ = .ok (!(dl left).isEmpty) ⟨[.val (.ref k), .val (.int (m : Int)), .own (.lst (dl left)), .own (.lst (dl found))], hp'⟩ := by
        simp [evF, r_ok, r_exn, r_to, r_toX, e_lit, e_val, e_nil, e_cons, e_tup, e_lst, e_prim, e_wk, e_call, e_chain, e_and, e_or, e_not, e_ite, e_dct, e_share, e_test, s_skip, s_seq, s_set, s_own, s_expr, s_ret, s_retN, s_ite, truth, view, setTg, E.np, e_ownL, e_ownN, e_lockN, s_par, p_nil, p_cons, e1]
      cases left with
      | nil =>
        rw [List.append_nil] at hperm
        exact .inl ⟨_, t1, found, hp', rfl, hperm, hb.le (by simp), hl⟩
      | cons x r =>
        obtain ⟨d, hp2, e2, hd, hb2, hl2⟩ := take (m := (x :: r).length) (Nat.succ_pos _) (divOk_of (by omega)) (hb.le (b' := b + r.length + 1) (by rw [List.length_cons]; omega))
        have e3 := len_lst (hp := hp') (dl (x :: r))
        rw [dl_len] at e3
        have q := e_popAt (pk := false) (i := 2) (j := (d : Int)) (n := d) (e := .call F__law_take (.cons (.var 0) (.cons (.prim pLen (.cons (.var 2) .nil)) (.nil)))) (z := ⟨[.val (.ref k), .val (.int (m : Int)), .own (.lst (dl (x :: r))), .own (.lst (dl found))], hp'⟩) (z1 := ⟨[.val (.ref k), .val (.int (m : Int)), .own (.lst (dl (x :: r))), .own (.lst (dl found))], hp2⟩) (xs := dl (x :: r)) rfl
          (by
            obtain ⟨ln, hln⟩ : ∃ ln, (x :: r).length = ln := ⟨_, rfl⟩
            rw [hln] at e2 e3
            simp [evF, r_ok, r_exn, r_to, r_toX, e_lit, e_val, e_nil, e_cons, e_tup, e_lst, e_prim, e_wk, e_call, e_chain, e_and, e_or, e_not, e_ite, e_dct, e_share, e_test, s_skip, s_seq, s_set, s_own, s_expr, s_ret, s_retN, s_ite, truth, view, setTg, E.np, e_ownL, e_ownN, e_lockN, s_par, p_nil, p_cons, e3, e2]) rfl (by rw [dl_len]; exact big_of (by omega : _ ≤ 24)) (ixOf_nat (by rw [dl_len]; exact hd))
        rw [dl_erase, dl_getD _ _ hd] at q
        have a1 := s_app (i := 3) (xs0 := dl found) (xs := dl found) rfl q rfl (by rw [dl_len]; exact Nat.lt_of_le_of_lt (by omega : _ ≤ 24) (by decide))
        have hp1 := erase_perm (x :: r) d hd
        have hle : ((x :: r).eraseIdx d).length = r.length := by rw [List.length_eraseIdx_of_lt hd]; simp
        refine .inr ⟨_, _, ((x :: r).eraseIdx d).length, t1, .inl (a1.trans ?_), ⟨(x :: r).eraseIdx d, found ++ [(x :: r).getD d 0], hp2, rfl, ?_, ?_, by rw [hl2, hl], rfl⟩, ?_⟩
        · simp [dl]
        · rw [List.append_assoc]
          refine List.Perm.trans (List.Perm.append_left found ?_) hperm
          exact hp1
        · rw [hle]; exact hb2
        · rw [hle]; simp)
  refine ⟨l, hp', ?_, h1, h2, h3⟩
  have a0 : evS (.par [(2, true, (.prim pRange1 (.cons (.var 1) .nil))), (3, true, (.lstE (.nil)))]) ⟨[.val (.ref k), .val (.int (m : Int)), .no, .no], hp⟩ = .next ⟨[.val (.ref k), .val (.int (m : Int)), .own (.lst (dl (List.range m))), .own (.lst (dl []))], hp⟩ := by
    simp [evF, r_ok, r_exn, r_to, r_toX, e_lit, e_val, e_nil, e_cons, e_tup, e_lst, e_prim, e_wk, e_call, e_chain, e_and, e_or, e_not, e_ite, e_dct, e_share, e_test, s_skip, s_seq, s_set, s_own, s_expr, s_ret, s_retN, s_ite, truth, view, setTg, E.np, e_ownL, e_ownN, e_lockN, s_par, p_nil, p_cons, er, ownable, noLock, big, dl_nil]
  show (match evS b__law_mixed ⟨[.val (.ref k), .val (.int (m : Int)), .no, .no], hp⟩ with | O.ret d z => RF.ok d z.hp | O.next z => RF.ok .non z.hp | O.exn c ds z => RF.exn c ds z.hp | _ => RF.bad) = _
  unfold b__law_mixed
  rw [s_seq, a0]
  dsimp only
  rw [s_seq]
  have e : evS L__law_mixed_0 _ = _ := e
  rw [e]
  dsimp only
  rw [s_ret, e_frz (xs := dl l) rfl, r_to]
end
end K66
end
section
set_option Elab.async false
set_option linter.all false
set_option maxRecDepth 100000
/-! PO: renamed tables. -/
namespace K66
open G
def at0 (l : List Nat) (i : Nat) : Nat := l.getD i 0
def upd (M : List (List Nat)) (i j v : Nat) : List (List Nat) := M.set i ((ro M i).set j v)
/-- a renaming: places and their names -/
structure Rn (n : Nat) (im : List Nat) : Prop where
  perm : im.Perm (List.range n)
  zero : at0 im 0 = 0
def pl (im : List Nat) (x : Nat) : Nat := im.idxOf x
section
variable {n : Nat} {im : List Nat}
theorem Rn.len (h : Rn n im) : im.length = n := by rw [h.perm.length_eq, List.length_range]
theorem Rn.lt (h : Rn n im) {a : Nat} (ha : a < n) : at0 im a < n := by
  have hl : a < im.length := by rw [h.len]; exact ha
  have : at0 im a = im[a] := by unfold at0; rw [List.getD_eq_getElem?_getD, List.getElem?_eq_getElem hl]; rfl
  rw [this]
  exact List.mem_range.mp (h.perm.mem_iff.mp (List.getElem_mem hl))
theorem Rn.pl_lt (h : Rn n im) {x : Nat} (hx : x < n) : pl im x < n := by
  have : x ∈ im := h.perm.mem_iff.mpr (List.mem_range.mpr hx)
  rw [← h.len]
  exact List.idxOf_lt_length_of_mem this
theorem Rn.at_pl (h : Rn n im) {x : Nat} (hx : x < n) : at0 im (pl im x) = x := by
  have hl : pl im x < im.length := by rw [h.len]; exact h.pl_lt hx
  unfold at0
  rw [List.getD_eq_getElem?_getD, List.getElem?_eq_getElem hl]
  exact List.getElem_idxOf hl
theorem Rn.nd (h : Rn n im) : im.Nodup := h.perm.nodup_iff.mpr List.nodup_range
theorem Rn.inj (h : Rn n im) {a b : Nat} (ha : a < n) (hb : b < n) (e : at0 im a = at0 im b) : a = b := by
  have hla : a < im.length := by rw [h.len]; exact ha
  have hlb : b < im.length := by rw [h.len]; exact hb
  have e1 : at0 im a = im[a] := by unfold at0; rw [List.getD_eq_getElem?_getD, List.getElem?_eq_getElem hla]; rfl
  have e2 : at0 im b = im[b] := by unfold at0; rw [List.getD_eq_getElem?_getD, List.getElem?_eq_getElem hlb]; rfl
  rw [e1, e2] at e
  have pw := List.pairwise_iff_getElem.mp h.nd
  rcases Nat.lt_trichotomy a b with q | q | q
  · exact absurd e (pw a b hla hlb q)
  · exact q
  · exact absurd e.symm (pw b a hlb hla q)
theorem Rn.pl_at (h : Rn n im) {a : Nat} (ha : a < n) : pl im (at0 im a) = a := h.inj (h.pl_lt (h.lt ha)) ha (h.at_pl (h.lt ha))
/-- what the new table holds -/
def Wt (T : List (List Nat)) (im : List Nat) (x y : Nat) : Nat := at0 im (tab T (pl im x) (pl im y))
theorem grp_ren {T M : List (List Nat)} (g : Grp n T) (h : Rn n im) (h1 : M.length = n) (h2 : ∀ a, a < n → (ro M a).length = n) (hM : ∀ x y, x < n → y < n → tab M x y = Wt T im x y) : Grp n M := by
  have lt : ∀ a b, a < n → b < n → tab M a b < n := fun a b ha hb => by
    rw [hM a b ha hb]; exact h.lt (g.lt _ _ (h.pl_lt ha) (h.pl_lt hb))
  have p0 : pl im 0 = 0 := by
    have := h.pl_at g.pos
    rw [h.zero] at this
    exact this
  refine ⟨⟨h1, h2, lt⟩, g.pos, g.le, fun a ha => ?_, fun a ha => ?_, fun a b c ha hb hc => ?_, fun a ha => ?_⟩
  · rw [hM 0 a g.pos ha, Wt, p0, g.id1 _ (h.pl_lt ha), h.at_pl ha]
  · rw [hM a 0 ha g.pos, Wt, p0, g.id2 _ (h.pl_lt ha), h.at_pl ha]
  · rw [hM _ c (lt a b ha hb) hc, hM a _ ha (lt b c hb hc), hM a b ha hb, hM b c hb hc]
    unfold Wt
    rw [h.pl_at (g.lt _ _ (h.pl_lt ha) (h.pl_lt hb)), h.pl_at (g.lt _ _ (h.pl_lt hb) (h.pl_lt hc)), g.assoc _ _ _ (h.pl_lt ha) (h.pl_lt hb) (h.pl_lt hc)]
  · obtain ⟨b, hb, q1, q2⟩ := g.inv _ (h.pl_lt ha)
    refine ⟨at0 im b, h.lt hb, ?_, ?_⟩
    · rw [hM _ _ ha (h.lt hb), Wt, h.pl_at hb, q1, h.zero]
    · rw [hM _ _ (h.lt hb) ha, Wt, h.pl_at hb, q2, h.zero]
/-- a square -/
structure Sq (n : Nat) (M : List (List Nat)) : Prop where
  len : M.length = n
  row : ∀ a, a < n → (ro M a).length = n
theorem ro_upd (M : List (List Nat)) (i j v a : Nat) (hi : i < M.length) : ro (upd M i j v) a = if a = i then (ro M i).set j v else ro M a := by
  show (M.set i ((ro M i).set j v)).getD a [] = _
  rw [List.getD_eq_getElem?_getD, List.getElem?_set]
  by_cases h : i = a
  · subst h
    rw [if_pos rfl, if_pos hi, if_pos rfl]; rfl
  · rw [if_neg h, if_neg (fun e => h e.symm)]
    unfold ro
    rw [List.getD_eq_getElem?_getD]
theorem sq_upd {M : List (List Nat)} (h : Sq n M) {i j v : Nat} (hi : i < n) : Sq n (upd M i j v) := by
  refine ⟨by unfold upd; rw [List.length_set, h.len], fun a ha => ?_⟩
  rw [ro_upd M i j v a (by rw [h.len]; exact hi)]
  by_cases e : a = i
  · rw [if_pos e, List.length_set, h.row i hi]
  · rw [if_neg e, h.row a ha]
theorem tab_upd {M : List (List Nat)} (h : Sq n M) {i j v a b : Nat} (hi : i < n) (hj : j < n) : tab (upd M i j v) a b = if a = i ∧ b = j then v else tab M a b := by
  unfold tab
  rw [ro_upd M i j v a (by rw [h.len]; exact hi)]
  by_cases e : a = i
  · subst e
    rw [if_pos rfl, List.getD_eq_getElem?_getD, List.getElem?_set]
    by_cases e2 : j = b
    · subst e2
      rw [if_pos rfl, if_pos (by rw [h.row a hi]; exact hj), if_pos ⟨rfl, rfl⟩]; rfl
    · rw [if_neg e2, if_neg (fun q => e2 q.2.symm), List.getD_eq_getElem?_getD]
  · rw [if_neg e, if_neg (fun q => e q.1)]
def st1 (T : List (List Nat)) (im : List Nat) (a : Nat) (M : List (List Nat)) (b : Nat) : List (List Nat) := upd M (at0 im a) (at0 im b) (at0 im (tab T a b))
def rw1 (T : List (List Nat)) (im : List Nat) (n : Nat) (M : List (List Nat)) (a : Nat) : List (List Nat) := (List.range n).foldl (st1 T im a) M
/-- right at that place -/
def Rt (T : List (List Nat)) (im : List Nat) (M : List (List Nat)) (x y : Nat) : Prop := tab M x y = Wt T im x y
theorem st1_ok {T M : List (List Nat)} (h : Rn n im) (hq : Sq n M) {a b : Nat} (ha : a < n) (hb : b < n) : Sq n (st1 T im a M b) ∧ Rt T im (st1 T im a M b) (at0 im a) (at0 im b) ∧ ∀ x y, Rt T im M x y → Rt T im (st1 T im a M b) x y := by
  have e : at0 im (tab T a b) = Wt T im (at0 im a) (at0 im b) := by unfold Wt; rw [h.pl_at ha, h.pl_at hb]
  refine ⟨sq_upd hq (h.lt ha), ?_, fun x y hr => ?_⟩
  · unfold Rt st1
    rw [tab_upd hq (h.lt ha) (h.lt hb), if_pos ⟨rfl, rfl⟩, e]
  · unfold Rt st1
    rw [tab_upd hq (h.lt ha) (h.lt hb)]
    by_cases q : x = at0 im a ∧ y = at0 im b
    · rw [if_pos q, e, q.1, q.2]
    · rw [if_neg q]; exact hr
theorem st1s_ok {T : List (List Nat)} (h : Rn n im) {a : Nat} (ha : a < n) : ∀ (R : List Nat) {M : List (List Nat)}, (∀ b ∈ R, b < n) → Sq n M → Sq n (R.foldl (st1 T im a) M) ∧ (∀ b ∈ R, Rt T im (R.foldl (st1 T im a) M) (at0 im a) (at0 im b)) ∧ ∀ x y, Rt T im M x y → Rt T im (R.foldl (st1 T im a) M) x y
  | [], M, _, hq => ⟨hq, (fun _ q => nomatch q), fun _ _ h => h⟩
  | b :: R, M, hR, hq => by
    obtain ⟨h1, h2, h3⟩ := st1_ok (T := T) h hq ha (hR b List.mem_cons_self)
    obtain ⟨h4, h5, h6⟩ := st1s_ok h ha R (fun c hc => hR c (List.mem_cons_of_mem _ hc)) h1
    refine ⟨h4, fun c hc => ?_, fun x y hr => h6 x y (h3 x y hr)⟩
    rcases List.mem_cons.mp hc with e | hc
    · subst e; exact h6 _ _ h2
    · exact h5 c hc
theorem rw1s_ok {T : List (List Nat)} (h : Rn n im) : ∀ (R : List Nat) {M : List (List Nat)}, (∀ a ∈ R, a < n) → Sq n M → Sq n (R.foldl (rw1 T im n) M) ∧ (∀ a ∈ R, ∀ b, b < n → Rt T im (R.foldl (rw1 T im n) M) (at0 im a) (at0 im b)) ∧ ∀ x y, Rt T im M x y → Rt T im (R.foldl (rw1 T im n) M) x y
  | [], M, _, hq => ⟨hq, (fun _ q => nomatch q), fun _ _ h => h⟩
  | a :: R, M, hR, hq => by
    obtain ⟨h1, h2, h3⟩ := st1s_ok (T := T) h (hR a List.mem_cons_self) (List.range n) (fun b hb => List.mem_range.mp hb) hq
    obtain ⟨h4, h5, h6⟩ := rw1s_ok (T := T) h R (M := rw1 T im n M a) (fun c hc => hR c (List.mem_cons_of_mem _ hc)) h1
    refine ⟨h4, fun c hc b hb => ?_, fun x y hr => h6 x y (h3 x y hr)⟩
    rcases List.mem_cons.mp hc with e | hc
    · subst e; exact h6 _ _ (h2 b (List.mem_range.mpr hb))
    · exact h5 c hc b hb
def zeroM (n : Nat) : List (List Nat) := List.replicate n (List.replicate n 0)
theorem sq_zero : Sq n (zeroM n) := by
  refine ⟨by unfold zeroM; rw [List.length_replicate], fun a ha => ?_⟩
  unfold ro zeroM
  rw [List.getD_eq_getElem?_getD, List.getElem?_replicate, if_pos ha]
  simp
def renT (T : List (List Nat)) (im : List Nat) (n : Nat) : List (List Nat) := (List.range n).foldl (rw1 T im n) (zeroM n)
theorem grp_renT {T : List (List Nat)} (g : Grp n T) (h : Rn n im) : Grp n (renT T im n) := by
  obtain ⟨h1, h2, _⟩ := rw1s_ok (T := T) h (List.range n) (M := zeroM n) (fun a ha => List.mem_range.mp ha) sq_zero
  refine grp_ren g h h1.len h1.row fun x y hx hy => ?_
  have := h2 (pl im x) (List.mem_range.mpr (h.pl_lt hx)) (pl im y) (h.pl_lt hy)
  rw [h.at_pl hx, h.at_pl hy] at this
  exact this
end
/-! ### run -/
section
variable {n : Nat} {im : List Nat} {hp : List D}
def rows (M : List (List Nat)) : List D := M.map fun r => .lst (dl r)
def refs (N n : Nat) : D := .lst ((List.range n).map fun i => .ref (N + i))
theorem ix_im (h : Rn n im) {a : Nat} (ha : a < n) : pIx hp [.lst (dl im), .int (a : Int)] = some (.int (at0 im a : Int)) := by
  have := ix_dl (hp := hp) (l := im) (k := a) (by rw [h.len]; exact ha)
  exact this
theorem ix_refs {N a : Nat} (ha : a < n) : pIx hp [refs N n, .int (a : Int)] = some (.ref (N + a)) := by
  have := ix_lst (hp := hp) (xs := (List.range n).map fun i => D.ref (N + i)) (k := a) (by simpa using ha)
  refine Eq.trans this ?_
  simp
theorem share_all (n : Nat) (f : D → List D → Option (List D × List D)) (X : D) (hf : ∀ d hp, f d hp = some ([.ref hp.length], hp ++ [X])) : ∀ (l : List Nat) (hp : List D), compL f (l.map dn) hp = some ((List.range l.length).map (fun i => .ref (hp.length + i)), hp ++ List.replicate l.length X)
  | [], hp => by simp [compL]
  | x :: l, hp => by
    have ih := share_all n f X hf l (hp ++ [X])
    show (match f (dn x) hp with | none => none | some (ys, hp1) => match compL f (l.map dn) hp1 with | none => none | some (zs, hp2) => some (ys ++ zs, hp2)) = _
    rw [hf]
    dsimp only
    rw [ih]
    dsimp only
    rw [List.length_cons, List.range_succ_eq_map, List.replicate_succ]
    simp [Nat.add_assoc, Nat.add_comm 1, Function.comp_def]
def Zr (n : Nat) (T : List (List Nat)) (im : List Nat) (hp : List D) (s4 s5 : Slot) (M : List (List Nat)) : Z :=
  ⟨[.val (tabL T), .val (.lst (dl im)), .val (.int (n : Int)), .val (refs hp.length n), s4, s5], hp ++ rows M⟩
theorem set_rows {M : List (List Nat)} (hq : Sq n M) {i j v : Nat} (hi : i < n) (hj : j < n) : (hp ++ rows M)[hp.length + i]? = some (.lst (dl (ro M i))) ∧ cellSet (.lst (dl (ro M i))) (.int (j : Int)) (.int (v : Int)) = some (.lst (dl ((ro M i).set j v))) ∧ (hp ++ rows M).set (hp.length + i) (.lst (dl ((ro M i).set j v))) = hp ++ rows (upd M i j v) := by
  have hl : i < M.length := by rw [hq.len]; exact hi
  refine ⟨?_, ?_, ?_⟩
  · rw [List.getElem?_append_right (Nat.le_add_right _ _), Nat.add_sub_cancel_left]
    exact getD_map _ M i [] hl
  · show (match ixOf (dl (ro M i)).length (j : Int) with | some k => some (D.lst ((dl (ro M i)).set k (.int (v : Int)))) | none => none) = _
    rw [ixOf_nat (by rw [dl_len, hq.row i hi]; exact hj)]
    simp [dl, List.map_set]
  · rw [List.set_append_right _ _ (Nat.le_add_right _ _), Nat.add_sub_cancel_left]
    unfold rows upd
    rw [List.map_set]
theorem noRefs_rowsL (k : Nat) : ∀ T : List (List Nat), noRefs k (rows T) = true
  | [] => rfl
  | r :: T => by
    show (noRefs k (dl r) && noRefs k (rows T)) = true
    rw [noRefs_dl k r, noRefs_rowsL k T]
    rfl
theorem unsh_refs (N : Nat) (hp2 : List D) (X : Nat → List Nat) : ∀ (l : List Nat), (∀ i ∈ l, hp2[N + i]? = some (.lst (dl (X i)))) → unshs N hp2 (l.map fun i => .ref (N + i)) = some (l.map fun i => .lst (dl (X i)))
  | [], _ => rfl
  | i :: l, h => by
    have ih := unsh_refs N hp2 X l fun j hj => h j (List.mem_cons_of_mem _ hj)
    show (match (if N + i < N then some (D.ref (N + i)) else (match hp2[N + i]? with | some (.lst xs) => if noRefs N xs then some (D.lst xs) else none | some (.ins c fs) => if noRefs N fs then some (.ins c fs) else none | _ => none)), unshs N hp2 (l.map fun i => .ref (N + i)) with | some x, some r => some (x :: r) | _, _ => none) = _
    rw [if_neg (by omega), h i List.mem_cons_self, ih]
    dsimp only
    rw [noRefs_dl]
    rfl
theorem primD {pk : Bool} {f : Pr} {es : E} {z z1 : Z} {xs : List D} {d : D} (h : evE true es z = .ok xs z1) (h2 : f z1.hp xs = some d) : evE pk (.prim f es) z = .ok [d] z1 := by
  rw [e_prim, h, r_ok, h2]
def shE : E := .share (.prim pRep (.cons (.lstE (.cons (.lit (.int 0)) (.nil))) (.cons (.var 2) .nil)))
theorem rep0 (h : n ≤ 24) : pRep hp [.lst [.int 0], .int (n : Int)] = some (.lst (dl (List.replicate n 0))) := by
  have e1 : decide (-(2 ^ 62) ≤ (n : Int)) = true := decide_eq_true (by omega)
  have e2 : decide ((n : Int) < 2 ^ 62) = true := decide_eq_true (by omega)
  have e3 : decide (([D.int 0] : List D).length * (n : Int).toNat ≤ big) = true := decide_eq_true (by
    show 1 * (n : Int).toNat ≤ 1000000
    omega)
  simp only [pRep, e1, e2, e3, Bool.and_self, if_true]
  have : (n : Int).toNat = n := rfl
  rw [this]
  have q : ∀ n : Nat, (List.replicate n [D.int 0]).flatten = dl (List.replicate n 0) := fun n => by
    induction n with
    | zero => rfl
    | succ n ih => rw [List.replicate_succ, List.replicate_succ, List.flatten_cons, ih]; rfl
  rw [q]
theorem shE_ev (h : n ≤ 24) {T : List (List Nat)} {s3 s4 s5 : Slot} : evE false shE ⟨[.val (tabL T), .val (.lst (dl im)), .val (.int (n : Int)), s3, s4, s5], hp⟩ = .ok [.ref hp.length] ⟨[.val (tabL T), .val (.lst (dl im)), .val (.int (n : Int)), s3, s4, s5], hp ++ [.lst (dl (List.replicate n 0))]⟩ := by
  unfold shE
  rw [e_share, primD (z1 := ⟨[.val (tabL T), .val (.lst (dl im)), .val (.int (n : Int)), s3, s4, s5], hp⟩) (xs := [.lst [.int 0], .int (n : Int)]) (by simp [evF, r_ok, r_exn, r_to, r_toX, e_lit, e_val, e_nil, e_cons, e_tup, e_lst, e_prim, e_wk, e_call, e_chain, e_and, e_or, e_not, e_ite, e_dct, e_share, e_test, s_skip, s_seq, s_set, s_own, s_expr, s_ret, s_retN, s_ite, truth, view, setTg, E.np, e_ownL, e_ownN, e_lockN, s_par, p_nil, p_cons, big]) (rep0 h), r_ok]
theorem sh_el0 {T : List (List Nat)} (f : Z → G.R (List D)) (X : List D) (h2 : ∀ (s4 : Slot) (hp : List D), f ⟨[.val (tabL T), .val (.lst (dl im)), .val (.int (n : Int)), .no, s4, .no], hp⟩ = .ok [.ref hp.length] ⟨[.val (tabL T), .val (.lst (dl im)), .val (.int (n : Int)), .no, s4, .no], hp ++ X⟩) (d : D) (hp : List D) : body1 (.one 4) (evE true (.lit (.bl true))) f (wipeE (lockE [.val (tabL T), .val (.lst (dl im)), .val (.int (n : Int)), .no, .no, .no]) [4]) d hp = some ([.ref hp.length], hp ++ X) := by
  show (match f ⟨[.val (tabL T), .val (.lst (dl im)), .val (.int (n : Int)), .no, .val d, .no], hp⟩ with | .ok y z3 => some (y, z3.hp) | _ => none) = _
  rw [h2]
theorem sh_el (h : n ≤ 24) {T : List (List Nat)} (d : D) (hp : List D) : body1 (.one 4) (evE true (.lit (.bl true))) (evE false shE) (wipeE (lockE [.val (tabL T), .val (.lst (dl im)), .val (.int (n : Int)), .no, .no, .no]) [4]) d hp = some ([.ref hp.length], hp ++ [.lst (dl (List.replicate n 0))]) := sh_el0 (evE false shE) _ (fun s4 hp => shE_ev h) d hp
theorem ren_c0 (h : n ≤ 24) {T : List (List Nat)} (pk : Bool) : evE pk C__law_renamed_0 ⟨[.val (tabL T), .val (.lst (dl im)), .val (.int (n : Int)), .no, .no, .no], hp⟩ = .ok [refs hp.length n] ⟨[.val (tabL T), .val (.lst (dl im)), .val (.int (n : Int)), .no, .no, .no], hp ++ rows (zeroM n)⟩ := by
  have e := share_all n _ (.lst (dl (List.replicate n 0))) (sh_el (im := im) (T := T) h) (List.range n) hp
  rw [List.length_range] at e
  have : rows (zeroM n) = List.replicate n (.lst (dl (List.replicate n 0))) := by
    unfold rows zeroM
    rw [List.map_replicate]
  rw [this]
  exact e_comp (pk := pk) (env := [.val (tabL T), .val (.lst (dl im)), .val (.int (n : Int)), .no, .no, .no]) (hp1 := hp) (tg := .one 4) (it := .wk pRange1 (.cons (.var 2) .nil)) (c := .lit (.bl true)) (e := shE) (z := ⟨[.val (tabL T), .val (.lst (dl im)), .val (.int (n : Int)), .no, .no, .no], hp⟩)
      (wkD (xs := [.int (n : Int)]) (by simp [evF, r_ok, r_exn, r_to, r_toX, e_lit, e_val, e_nil, e_cons, e_tup, e_lst, e_prim, e_wk, e_call, e_chain, e_and, e_or, e_not, e_ite, e_dct, e_share, e_test, s_skip, s_seq, s_set, s_own, s_expr, s_ret, s_retN, s_ite, truth, view, setTg, E.np, e_ownL, e_ownN, e_lockN, s_par, p_nil, p_cons]) (rng (big_of h))) (items_dn (rng_len (big_of h))) rfl e
theorem renamed {T : List (List Nat)} (g : Grp n T) (h : Rn n im) (hn : Hn hp) : F__law_renamed [tabL T, .lst (dl im)] hp = .ok (tabL (renT T im n)) hp := by
  have hp0 := g.pos
  have h24 := g.le
  have er : ∀ hp, pRange1 hp [.int (n : Int)] = some (.lst (dl (List.range n))) := fun hp => rng (hp := hp) (g_big g)
  have c0 := fun pk => ren_c0 (hp := hp) (im := im) h24 (T := T) pk
  obtain ⟨z', e, h1, s4, s5, rfl⟩ := for_fold (t := .one 4) (it := .wk pRange1 (.cons (.var 2) .nil)) (b := B__law_renamed_1) (z := Zr n T im hp .no .no (zeroM n)) dn
    (fun (M : List (List Nat)) z => Sq n M ∧ ∃ s4 s5, z = Zr n T im hp s4 s5 M) (rw1 T im n) (List.range n) (zeroM n) (z1 := Zr n T im hp .no .no (zeroM n)) (wkD (xs := [.int (n : Int)]) (by simp [evF, r_ok, r_exn, r_to, r_toX, e_lit, e_val, e_nil, e_cons, e_tup, e_lst, e_prim, e_wk, e_call, e_chain, e_and, e_or, e_not, e_ite, e_dct, e_share, e_test, s_skip, s_seq, s_set, s_own, s_expr, s_ret, s_retN, s_ite, truth, view, setTg, E.np, e_ownL, e_ownN, e_lockN, s_par, p_nil, p_cons, Zr]) (er _)) (items_dn (rl g)) ⟨sq_zero, _, _, rfl⟩ (fun a M z ha hz => by
      obtain ⟨hq, s4, s5, rfl⟩ := hz
      have ha := List.mem_range.mp ha
      obtain ⟨z', e, h1, s5', rfl⟩ := for_fold (t := .one 5) (it := .wk pRange1 (.cons (.var 2) .nil)) (b := B__law_renamed_0) (z := Zr n T im hp (.val (.int (a : Int))) s5 M) dn
        (fun (M : List (List Nat)) z => Sq n M ∧ ∃ s5, z = Zr n T im hp (.val (.int (a : Int))) s5 M) (st1 T im a) (List.range n) M (z1 := Zr n T im hp (.val (.int (a : Int))) s5 M) (wkD (xs := [.int (n : Int)]) (by simp [evF, r_ok, r_exn, r_to, r_toX, e_lit, e_val, e_nil, e_cons, e_tup, e_lst, e_prim, e_wk, e_call, e_chain, e_and, e_or, e_not, e_ite, e_dct, e_share, e_test, s_skip, s_seq, s_set, s_own, s_expr, s_ret, s_retN, s_ite, truth, view, setTg, E.np, e_ownL, e_ownN, e_lockN, s_par, p_nil, p_cons, Zr]) (er _)) (items_dn (rl g)) ⟨hq, _, rfl⟩ (fun b M z hb hz => by
          obtain ⟨hq, s5, rfl⟩ := hz
          have hb := List.mem_range.mp hb
          obtain ⟨q1, q2, q3⟩ := set_rows (hp := hp) hq (v := at0 im (tab T a b)) (h.lt ha) (h.lt hb)
          obtain ⟨hp2, hhp⟩ : ∃ hp2, hp ++ rows M = hp2 := ⟨_, rfl⟩
          have i1 := ix_im (hp := hp2) h ha
          have i2 := ix_im (hp := hp2) h hb
          have i3 := ix_im (hp := hp2) h (g.lt a b ha hb)
          have i4 := ixTL (hp := hp2) g.toTb ha
          have i5 := ixRL (hp := hp2) g.toTb ha hb
          have i6 := ix_refs (hp := hp2) (N := hp.length) (h.lt ha)
          refine ⟨[.val (tabL T), .val (.lst (dl im)), .val (.int (n : Int)), .val (refs hp.length n), .val (.int (a : Int)), .val (.int (b : Int))], Zr n T im hp (.val (.int (a : Int))) (.val (.int (b : Int))) (st1 T im a M b), rfl, .inl ?_, (st1_ok (T := T) h hq ha hb).1, _, rfl⟩
          unfold Zr st1
          rw [← q3]
          dsimp only
          rw [hhp] at q1 ⊢
          exact s_refIx (d := .int (at0 im (tab T a b) : Int)) (j := .int (at0 im b : Int)) (n := hp.length + at0 im a) (c := .lst (dl (ro M (at0 im a))))
            (z1 := ⟨[.val (tabL T), .val (.lst (dl im)), .val (.int (n : Int)), .val (refs hp.length n), .val (.int (a : Int)), .val (.int (b : Int))], hp2⟩)
            (z2 := ⟨[.val (tabL T), .val (.lst (dl im)), .val (.int (n : Int)), .val (refs hp.length n), .val (.int (a : Int)), .val (.int (b : Int))], hp2⟩)
            (z3 := ⟨[.val (tabL T), .val (.lst (dl im)), .val (.int (n : Int)), .val (refs hp.length n), .val (.int (a : Int)), .val (.int (b : Int))], hp2⟩)
            (by simp [evF, r_ok, r_exn, r_to, r_toX, e_lit, e_val, e_nil, e_cons, e_tup, e_lst, e_prim, e_wk, e_call, e_chain, e_and, e_or, e_not, e_ite, e_dct, e_share, e_test, s_skip, s_seq, s_set, s_own, s_expr, s_ret, s_retN, s_ite, truth, view, setTg, E.np, e_ownL, e_ownN, e_lockN, s_par, p_nil, p_cons, i4, i5, i3]) (by simp [evF, r_ok, r_exn, r_to, r_toX, e_lit, e_val, e_nil, e_cons, e_tup, e_lst, e_prim, e_wk, e_call, e_chain, e_and, e_or, e_not, e_ite, e_dct, e_share, e_test, s_skip, s_seq, s_set, s_own, s_expr, s_ret, s_retN, s_ite, truth, view, setTg, E.np, e_ownL, e_ownN, e_lockN, s_par, p_nil, p_cons, i1, i6]) (by simp [evF, r_ok, r_exn, r_to, r_toX, e_lit, e_val, e_nil, e_cons, e_tup, e_lst, e_prim, e_wk, e_call, e_chain, e_and, e_or, e_not, e_ite, e_dct, e_share, e_test, s_skip, s_seq, s_set, s_own, s_expr, s_ret, s_retN, s_ite, truth, view, setTg, E.np, e_ownL, e_ownN, e_lockN, s_par, p_nil, p_cons, i2]) q1 q2)
      exact ⟨_, _, rfl, .inl e, h1, _, _, rfl⟩)
  have e : evS L__law_renamed_1 (Zr n T im hp .no .no (zeroM n)) = .next (Zr n T im hp s4 s5 (renT T im n)) := e
  have hq : Sq n (renT T im n) := h1
  have hrun : evF 6 b__law_renamed [tabL T, .lst (dl im)] hp = .ok (refs hp.length n) (hp ++ rows (renT T im n)) := by
    have a0 : evS (.set (.one 2) (.prim pLen (.cons (.var 0) .nil))) ⟨[.val (tabL T), .val (.lst (dl im)), .no, .no, .no, .no], hp⟩ = .next ⟨[.val (tabL T), .val (.lst (dl im)), .val (.int (n : Int)), .no, .no, .no], hp⟩ := by
      simp [evF, r_ok, r_exn, r_to, r_toX, e_lit, e_val, e_nil, e_cons, e_tup, e_lst, e_prim, e_wk, e_call, e_chain, e_and, e_or, e_not, e_ite, e_dct, e_share, e_test, s_skip, s_seq, s_set, s_own, s_expr, s_ret, s_retN, s_ite, truth, view, setTg, E.np, e_ownL, e_ownN, e_lockN, s_par, p_nil, p_cons, lenTL g.toTb]
    have a1 : evS (.set (.one 3) (C__law_renamed_0)) ⟨[.val (tabL T), .val (.lst (dl im)), .val (.int (n : Int)), .no, .no, .no], hp⟩ = .next (Zr n T im hp .no .no (zeroM n)) := by
      rw [s_set, c0, r_to]
      rfl
    show (match evS b__law_renamed ⟨[.val (tabL T), .val (.lst (dl im)), .no, .no, .no, .no], hp⟩ with | O.ret d z => RF.ok d z.hp | O.next z => RF.ok .non z.hp | O.exn c ds z => RF.exn c ds z.hp | _ => RF.bad) = _
    unfold b__law_renamed
    rw [s_seq, a0]
    dsimp only
    rw [s_seq, a1]
    dsimp only
    rw [s_seq, e]
    dsimp only
    rw [s_ret, e_val (d := refs hp.length n) rfl, r_to]
    rfl
  show endU hp.length (evF 6 b__law_renamed [tabL T, .lst (dl im)] hp) = _
  rw [hrun]
  have t1 : (hp ++ rows (renT T im n)).take hp.length = hp := by simp
  have t2 : unsh hp.length (hp ++ rows (renT T im n)) (refs hp.length n) = some (tabL (renT T im n)) := by
    have := unsh_refs hp.length (hp ++ rows (renT T im n)) (ro (renT T im n)) (List.range n) fun i hi => (set_rows (hp := hp) hq (v := 0) (List.mem_range.mp hi) (List.mem_range.mp hi)).1
    show (unshs hp.length (hp ++ rows (renT T im n)) ((List.range n).map fun i => .ref (hp.length + i))).map D.lst = _
    rw [this]
    show some (D.lst ((List.range n).map fun i => .lst (dl (ro (renT T im n) i)))) = some (D.lst ((renT T im n).map fun r => .lst (dl r)))
    congr 2
    refine List.ext_getElem (by rw [List.length_map, List.length_map, List.length_range, hq.len]) fun i h1 h2 => ?_
    have hi : i < (renT T im n).length := by simpa using h2
    rw [List.getElem_map, List.getElem_map, List.getElem_range]
    unfold ro
    rw [List.getD_eq_getElem?_getD, List.getElem?_eq_getElem hi]
    rfl
  show (if noRefs hp.length ((hp ++ rows (renT T im n)).take hp.length) then (match unsh hp.length (hp ++ rows (renT T im n)) (refs hp.length n) with | some d' => RF.ok d' ((hp ++ rows (renT T im n)).take hp.length) | none => .bad) else .bad) = _
  rw [t1, t2, Hn.all _ hn]
  rfl
end
end K66
end
section
set_option Elab.async false
set_option linter.all false
set_option maxRecDepth 100000
/-! PP: the drawn table. -/
namespace K66
open G
def dC1 : E := (.prim pLt (.cons (.var 2) (.cons (.lit (.int 2)) .nil)))
def dC2 : E := (.and (.prim pLt (.cons (.var 2) (.cons (.lit (.int 4)) .nil))) (.prim pGt (.cons (.var 1) (.cons (.lit (.int 5)) .nil))))
def dC3 : E := (.and (.prim pEq (.cons (.var 2) (.cons (.lit (.int 4)) .nil))) (.prim pGt (.cons (.var 1) (.cons (.lit (.int 7)) .nil))))
def dC4 : E := (.prim pLt (.cons (.var 2) (.cons (.lit (.int 7)) .nil)))
def dA1 : S := (.set (.one 3) (.call F__law_cyclic (.cons (.prim pAdd (.cons (.lit (.int 1)) (.cons (.call F__law_take (.cons (.var 0) (.cons (.var 1) (.nil)))) .nil))) (.nil))))
def dA2 : S := (.set (.one 3) (.call F__law_dihedral (.cons (.prim pAdd (.cons (.lit (.int 1)) (.cons (.call F__law_take (.cons (.var 0) (.cons (.prim pMin2 (.cons (.lit (.int 12)) (.cons (.prim pDiv (.cons (.var 1) (.cons (.lit (.int 2)) .nil))) .nil))) (.nil)))) .nil))) (.nil))))
def dA3 : S := (.set (.one 3) (.call F__law_dicyclic (.cons (.prim pAdd (.cons (.lit (.int 1)) (.cons (.call F__law_take (.cons (.var 0) (.cons (.prim pMin2 (.cons (.lit (.int 6)) (.cons (.prim pDiv (.cons (.var 1) (.cons (.lit (.int 4)) .nil))) .nil))) (.nil)))) .nil))) (.nil))))
def dQ1 : S := (.set (.one 4) (.prim pAdd (.cons (.lit (.int 1)) (.cons (.call F__law_take (.cons (.var 0) (.cons (.lit (.int 6)) (.nil)))) .nil))))
def dQ2 : S := (.set (.one 3) (.call F__law_cyclic (.cons (.var 4) (.nil))))
def dQ3 : S := (.set (.one 5) (.prim pDiv (.cons (.var 1) (.cons (.var 4) .nil))))
def dC6 : E := (.and (.prim pGt (.cons (.var 5) (.cons (.lit (.int 5)) .nil))) (.prim pEq (.cons (.call F__law_take (.cons (.var 0) (.cons (.lit (.int 2)) (.nil)))) (.cons (.lit (.int 0)) .nil))))
def dA6 : S := (.set (.one 3) (.call F__law_direct (.cons (.var 3) (.cons (.call F__law_dihedral (.cons (.prim pAdd (.cons (.lit (.int 2)) (.cons (.call F__law_take (.cons (.var 0) (.cons (.prim pMin2 (.cons (.lit (.int 5)) (.cons (.prim pSub (.cons (.prim pDiv (.cons (.var 5) (.cons (.lit (.int 2)) .nil))) (.cons (.lit (.int 1)) .nil))) .nil))) (.nil)))) .nil))) (.nil))) (.nil)))))
def dC7 : E := (.prim pGt (.cons (.var 5) (.cons (.lit (.int 1)) .nil)))
def dA7 : S := (.set (.one 3) (.call F__law_direct (.cons (.var 3) (.cons (.call F__law_cyclic (.cons (.prim pAdd (.cons (.lit (.int 1)) (.cons (.call F__law_take (.cons (.var 0) (.cons (.var 5) (.nil)))) .nil))) (.nil))) (.nil)))))
def dP1 : S := (.set (.one 6) (.lstE (.cons (.lstE (.cons (.tupE (.cons (.lit (.int 1)) (.cons (.lit (.int 0)) (.cons (.lit (.int 2)) (.nil))))) (.cons (.tupE (.cons (.lit (.int 0)) (.cons (.lit (.int 2)) (.cons (.lit (.int 1)) (.nil))))) (.nil)))) (.cons (.lstE (.cons (.tupE (.cons (.lit (.int 1)) (.cons (.lit (.int 0)) (.cons (.lit (.int 3)) (.cons (.lit (.int 2)) (.nil)))))) (.cons (.tupE (.cons (.lit (.int 1)) (.cons (.lit (.int 2)) (.cons (.lit (.int 0)) (.cons (.lit (.int 3)) (.nil)))))) (.nil)))) (.cons (.lstE (.cons (.tupE (.cons (.lit (.int 1)) (.cons (.lit (.int 2)) (.cons (.lit (.int 3)) (.cons (.lit (.int 0)) (.nil)))))) (.cons (.tupE (.cons (.lit (.int 1)) (.cons (.lit (.int 0)) (.cons (.lit (.int 2)) (.cons (.lit (.int 3)) (.nil)))))) (.nil)))) (.cons (.lstE (.cons (.tupE (.cons (.lit (.int 1)) (.cons (.lit (.int 2)) (.cons (.lit (.int 3)) (.cons (.lit (.int 4)) (.cons (.lit (.int 0)) (.nil))))))) (.cons (.tupE (.cons (.lit (.int 0)) (.cons (.lit (.int 2)) (.cons (.lit (.int 4)) (.cons (.lit (.int 1)) (.cons (.lit (.int 3)) (.nil))))))) (.nil)))) (.cons (.lstE (.cons (.tupE (.cons (.lit (.int 1)) (.cons (.lit (.int 2)) (.cons (.lit (.int 3)) (.cons (.lit (.int 4)) (.cons (.lit (.int 5)) (.cons (.lit (.int 6)) (.cons (.lit (.int 0)) (.nil))))))))) (.cons (.tupE (.cons (.lit (.int 0)) (.cons (.lit (.int 2)) (.cons (.lit (.int 4)) (.cons (.lit (.int 6)) (.cons (.lit (.int 1)) (.cons (.lit (.int 3)) (.cons (.lit (.int 5)) (.nil))))))))) (.nil)))) (.cons (.lstE (.cons (.tupE (.cons (.lit (.int 1)) (.cons (.lit (.int 2)) (.cons (.lit (.int 0)) (.cons (.lit (.int 4)) (.cons (.lit (.int 5)) (.cons (.lit (.int 3)) (.nil)))))))) (.cons (.tupE (.cons (.lit (.int 0)) (.cons (.lit (.int 2)) (.cons (.lit (.int 1)) (.cons (.lit (.int 3)) (.cons (.lit (.int 5)) (.cons (.lit (.int 4)) (.nil)))))))) (.nil)))) (.nil)))))))))
def dP2 : S := (.set (.one 3) (.call F__law_table (.cons (.call F__law_by_permutations (.cons (.prim pIx (.cons (.var 6) (.cons (.call F__law_take (.cons (.var 0) (.cons (.prim pLen (.cons (.var 6) .nil)) (.nil)))) .nil))) (.nil))) (.nil))))
def dC8 : E := (.prim pGt (.cons (.prim pLen (.cons (.var 3) .nil)) (.cons (.var 1) .nil)))
def dA8 : S := (.set (.one 3) (.call F__law_cyclic (.cons (.prim pAdd (.cons (.lit (.int 1)) (.cons (.call F__law_take (.cons (.var 0) (.cons (.var 1) (.nil)))) .nil))) (.nil))))
def dS1 : S := (.set (.one 2) (.call F__law_take (.cons (.var 0) (.cons (.lit (.int 9)) (.nil)))))
def dS3 : S := (.set (.one 7) (.prim pAdd (.cons (.lstE (.cons (.lit (.int 0)) (.nil))) (.cons (C__law_drawn_0) .nil))))
def dS4 : S := (.ret (.call F__law_renamed (.cons (.var 3) (.cons (.var 7) (.nil)))))
def dBR : S := .ite dC1 dA1 (.ite dC2 dA2 (.ite dC3 dA3 (.ite dC4 (.seq dQ1 (.seq dQ2 (.seq dQ3 (.ite dC6 dA6 (.ite dC7 dA7 .skip))))) (.seq dP1 (.seq dP2 (.ite dC8 dA8 .skip))))))
theorem drawn_eq : b__law_drawn = .seq dS1 (.seq dBR (.seq dS3 dS4)) := rfl

section
variable {hp : List D}
theorem ltN (a b : Nat) : pLt hp [.int (a : Int), .int (b : Int)] = some (.bl (decide (a < b))) := by
  show some (D.bl (decide ((a : Int) < b))) = _
  rw [decide_eq_decide.mpr (by omega : (a : Int) < b ↔ a < b)]
theorem gtN (a b : Nat) : pGt hp [.int (a : Int), .int (b : Int)] = some (.bl (decide (b < a))) := by
  show some (D.bl (decide ((b : Int) < a))) = _
  rw [decide_eq_decide.mpr (by omega : (b : Int) < a ↔ b < a)]
theorem minN (a b : Nat) : pMin2 hp [.int (a : Int), .int (b : Int)] = some (.int ((if b < a then b else a : Nat) : Int)) := by
  show some (D.int (if (b : Int) < a then (b : Int) else a)) = _
  by_cases h : b < a
  · rw [if_pos (by omega), if_pos h]
  · rw [if_neg (by omega), if_neg h]
theorem add1 (d : Nat) : pAdd hp [.int 1, .int (d : Int)] = some (.int ((1 + d : Nat) : Int)) := addN 1 d
theorem add2 (d : Nat) : pAdd hp [.int 2, .int (d : Int)] = some (.int ((2 + d : Nat) : Int)) := addN 2 d
def Zd (k most : Nat) (s2 s3 s4 s5 s6 s7 : Slot) (hp : List D) : Z := ⟨[.val (.ref k), .val (.int (most : Int)), s2, s3, s4, s5, s6, s7, .no], hp⟩
/-- a table made -/
def Dn (k most b N : Nat) (way : Slot) (z : Z) : Prop := ∃ (n : Nat) (T : List (List Nat)) (s4 s5 s6 : Slot) (hp' : List D), z = Zd k most way (.val (tabL T)) s4 s5 s6 .no hp' ∧ Grp n T ∧ n ≤ most ∧ Bx k b hp' ∧ hp'.length = N
theorem d_cyc {k most b : Nat} (h1 : 1 ≤ most) (h2 : most ≤ 12) (h : Bx k (b + 1) hp) {way s3 s4 s5 s6 : Slot} : ∃ z', evS dA1 (Zd k most way s3 s4 s5 s6 .no hp) = .next z' ∧ Dn k most b hp.length way z' := by
  obtain ⟨d, hp', ht, hd, hb, hl⟩ := take (m := most) h1 (divOk_of (by omega)) h
  have e1 := add1 (hp := hp') d
  obtain ⟨n, hn⟩ : ∃ n, 1 + d = n := ⟨_, rfl⟩
  rw [hn] at e1
  have e2 := law_cyclic (hp := hp') (n := n) (by omega) (by omega)
  refine ⟨Zd k most way (.val (tabL (cyc n))) s4 s5 s6 .no hp', ?_, n, cyc n, s4, s5, s6, hp', rfl, grp_cyc (by omega) (by omega), by omega, hb, hl⟩
  simp [dA1, Zd, evF, r_ok, r_exn, r_to, r_toX, e_lit, e_val, e_nil, e_cons, e_tup, e_lst, e_prim, e_wk, e_call, e_chain, e_and, e_or, e_not, e_ite, e_dct, e_share, e_test, s_skip, s_seq, s_set, s_own, s_expr, s_ret, s_retN, s_ite, truth, view, setTg, E.np, e_ownL, e_ownN, e_lockN, s_par, p_nil, p_cons, ht, e1, e2]
theorem d_dih {k most b : Nat} (h1 : 6 ≤ most) (h2 : most ≤ 12) (h : Bx k (b + 1) hp) {way s3 s4 s5 s6 : Slot} : ∃ z', evS dA2 (Zd k most way s3 s4 s5 s6 .no hp) = .next z' ∧ Dn k most b hp.length way z' := by
  have e0 := divN (hp := hp) most 2 (by decide) (by decide)
  obtain ⟨q, hq⟩ : ∃ q, most / 2 = q := ⟨_, rfl⟩
  rw [hq] at e0
  have e0 : pDiv hp [.int (most : Int), .int 2] = some (.int (q : Int)) := e0
  have e3 : pMin2 hp [.int 12, .int (q : Int)] = some (.int (q : Int)) := by
    have := minN (hp := hp) 12 q
    rw [if_pos (by omega)] at this
    exact this
  obtain ⟨d, hp', ht, hd, hb, hl⟩ := take (m := q) (by omega) (divOk_of (by omega)) h
  have e1 := add1 (hp := hp') d
  obtain ⟨n, hn⟩ : ∃ n, 1 + d = n := ⟨_, rfl⟩
  rw [hn] at e1
  have e2 := law_dih (hp := hp') (h := n) (by omega) (by omega)
  refine ⟨Zd k most way (.val (tabL (dih n))) s4 s5 s6 .no hp', ?_, 2 * n, dih n, s4, s5, s6, hp', rfl, grp_dih (by omega) (by omega), by omega, hb, hl⟩
  simp [dA2, Zd, evF, r_ok, r_exn, r_to, r_toX, e_lit, e_val, e_nil, e_cons, e_tup, e_lst, e_prim, e_wk, e_call, e_chain, e_and, e_or, e_not, e_ite, e_dct, e_share, e_test, s_skip, s_seq, s_set, s_own, s_expr, s_ret, s_retN, s_ite, truth, view, setTg, E.np, e_ownL, e_ownN, e_lockN, s_par, p_nil, p_cons, e0, e3, ht, e1, e2]
theorem d_dic {k most b : Nat} (h1 : 8 ≤ most) (h2 : most ≤ 12) (h : Bx k (b + 1) hp) {way s3 s4 s5 s6 : Slot} : ∃ z', evS dA3 (Zd k most way s3 s4 s5 s6 .no hp) = .next z' ∧ Dn k most b hp.length way z' := by
  have e0 := divN (hp := hp) most 4 (by decide) (by decide)
  obtain ⟨q, hq⟩ : ∃ q, most / 4 = q := ⟨_, rfl⟩
  rw [hq] at e0
  have e0 : pDiv hp [.int (most : Int), .int 4] = some (.int (q : Int)) := e0
  have e3 : pMin2 hp [.int 6, .int (q : Int)] = some (.int (q : Int)) := by
    have := minN (hp := hp) 6 q
    rw [if_pos (by omega)] at this
    exact this
  obtain ⟨d, hp', ht, hd, hb, hl⟩ := take (m := q) (by omega) (divOk_of (by omega)) h
  have e1 := add1 (hp := hp') d
  obtain ⟨n, hn⟩ : ∃ n, 1 + d = n := ⟨_, rfl⟩
  rw [hn] at e1
  have e2 := law_dic (hp := hp') (h := n) (by omega) (by omega)
  refine ⟨Zd k most way (.val (tabL (dic n))) s4 s5 s6 .no hp', ?_, 4 * n, dic n, s4, s5, s6, hp', rfl, grp_dic (by omega) (by omega), by omega, hb, hl⟩
  simp [dA3, Zd, evF, r_ok, r_exn, r_to, r_toX, e_lit, e_val, e_nil, e_cons, e_tup, e_lst, e_prim, e_wk, e_call, e_chain, e_and, e_or, e_not, e_ite, e_dct, e_share, e_test, s_skip, s_seq, s_set, s_own, s_expr, s_ret, s_retN, s_ite, truth, view, setTg, E.np, e_ownL, e_ownN, e_lockN, s_par, p_nil, p_cons, e0, e3, ht, e1, e2]
theorem d_dir {k most b : Nat} (h1 : 8 ≤ most) (h2 : most ≤ 12) (h : Bx k (b + 3) hp) {way : Slot} : ∃ z', evS (.seq dQ1 (.seq dQ2 (.seq dQ3 (.ite dC6 dA6 (.ite dC7 dA7 .skip))))) (Zd k most way .no .no .no .no .no hp) = .next z' ∧ Dn k most b hp.length way z' := by
  obtain ⟨d0, hp1, ht0, hd0, hb0, hl0⟩ := take (m := 6) (by decide) (by decide) h
  have ht0 : F__law_take [.ref k, .int 6] hp = .ok (.int (d0 : Int)) hp1 := ht0
  have e0 := add1 (hp := hp1) d0
  obtain ⟨o, ho⟩ : ∃ o, 1 + d0 = o := ⟨_, rfl⟩
  rw [ho] at e0
  have e1 := law_cyclic (hp := hp1) (n := o) (by omega) (by omega)
  have e2 := divN (hp := hp1) most o (by omega) (by omega)
  obtain ⟨room, hr⟩ : ∃ r, most / o = r := ⟨_, rfl⟩
  rw [hr] at e2
  have hor : o * room ≤ most := by rw [← hr]; exact Nat.mul_div_le most o
  have hr12 : room ≤ 12 := by
    have : 1 * room ≤ o * room := Nat.mul_le_mul_right room (by omega)
    omega
  have a1 : evS dQ1 (Zd k most way .no .no .no .no .no hp) = .next (Zd k most way .no (.val (.int (o : Int))) .no .no .no hp1) := by
    simp [dQ1, Zd, evF, r_ok, r_exn, r_to, r_toX, e_lit, e_val, e_nil, e_cons, e_tup, e_lst, e_prim, e_wk, e_call, e_chain, e_and, e_or, e_not, e_ite, e_dct, e_share, e_test, s_skip, s_seq, s_set, s_own, s_expr, s_ret, s_retN, s_ite, truth, view, setTg, E.np, e_ownL, e_ownN, e_lockN, s_par, p_nil, p_cons, ht0, e0]
  have a2 : evS dQ2 (Zd k most way .no (.val (.int (o : Int))) .no .no .no hp1) = .next (Zd k most way (.val (tabL (cyc o))) (.val (.int (o : Int))) .no .no .no hp1) := by
    simp [dQ2, Zd, evF, r_ok, r_exn, r_to, r_toX, e_lit, e_val, e_nil, e_cons, e_tup, e_lst, e_prim, e_wk, e_call, e_chain, e_and, e_or, e_not, e_ite, e_dct, e_share, e_test, s_skip, s_seq, s_set, s_own, s_expr, s_ret, s_retN, s_ite, truth, view, setTg, E.np, e_ownL, e_ownN, e_lockN, s_par, p_nil, p_cons, e1]
  have a3 : evS dQ3 (Zd k most way (.val (tabL (cyc o))) (.val (.int (o : Int))) .no .no .no hp1) = .next (Zd k most way (.val (tabL (cyc o))) (.val (.int (o : Int))) (.val (.int (room : Int))) .no .no hp1) := by
    simp [dQ3, Zd, evF, r_ok, r_exn, r_to, r_toX, e_lit, e_val, e_nil, e_cons, e_tup, e_lst, e_prim, e_wk, e_call, e_chain, e_and, e_or, e_not, e_ite, e_dct, e_share, e_test, s_skip, s_seq, s_set, s_own, s_expr, s_ret, s_retN, s_ite, truth, view, setTg, E.np, e_ownL, e_ownN, e_lockN, s_par, p_nil, p_cons, e2]
  rw [s_seq, a1]
  dsimp only
  rw [s_seq, a2]
  dsimp only
  rw [s_seq, a3]
  dsimp only
  have key : ∀ hp1 : List D, Bx k (b + 1) hp1 → hp1.length = hp.length → ∃ z', evS (.ite dC7 dA7 .skip) (Zd k most way (.val (tabL (cyc o))) (.val (.int (o : Int))) (.val (.int (room : Int))) .no .no hp1) = .next z' ∧ Dn k most b hp.length way z' := fun hp1 hb1 hl1 => by
    have g1 : pGt hp1 [.int (room : Int), .int 1] = some (.bl (decide (1 < room))) := gtN room 1
    by_cases hr1 : 1 < room
    · rw [decide_eq_true hr1] at g1
      obtain ⟨d, hp2, ht, hd, hb, hl⟩ := take (m := room) (by omega) (divOk_of (by omega)) hb1
      have e3 := add1 (hp := hp2) d
      obtain ⟨r, hrr⟩ : ∃ r, 1 + d = r := ⟨_, rfl⟩
      rw [hrr] at e3
      have hm : o * r ≤ o * room := Nat.mul_le_mul_left o (by omega)
      have e4 := law_cyclic (hp := hp2) (n := r) (by omega) (by omega)
      have e5 := law_direct (hp := hp2) (grp_cyc (n := o) (by omega) (by omega)).toTb (grp_cyc (n := r) (by omega) (by omega)).toTb (by omega) (by omega) (by omega) (by omega) (by omega)
      refine ⟨Zd k most way (.val (tabL (dirT o r (cyc o) (cyc r)))) (.val (.int (o : Int))) (.val (.int (room : Int))) .no .no hp2, ?_, o * r, _, _, _, _, hp2, rfl, grp_cc (by omega) (by omega) (by omega) (by omega) (by omega), by omega, hb, by rw [hl, hl1]⟩
      have t : evT dC7 (Zd k most way (.val (tabL (cyc o))) (.val (.int (o : Int))) (.val (.int (room : Int))) .no .no hp1) = .ok true (Zd k most way (.val (tabL (cyc o))) (.val (.int (o : Int))) (.val (.int (room : Int))) .no .no hp1) := by
        simp [dC7, Zd, evF, r_ok, r_exn, r_to, r_toX, e_lit, e_val, e_nil, e_cons, e_tup, e_lst, e_prim, e_wk, e_call, e_chain, e_and, e_or, e_not, e_ite, e_dct, e_share, e_test, s_skip, s_seq, s_set, s_own, s_expr, s_ret, s_retN, s_ite, truth, view, setTg, E.np, e_ownL, e_ownN, e_lockN, s_par, p_nil, p_cons, g1]
      rw [s_ite, t]
      simp [dA7, Zd, evF, r_ok, r_exn, r_to, r_toX, e_lit, e_val, e_nil, e_cons, e_tup, e_lst, e_prim, e_wk, e_call, e_chain, e_and, e_or, e_not, e_ite, e_dct, e_share, e_test, s_skip, s_seq, s_set, s_own, s_expr, s_ret, s_retN, s_ite, truth, view, setTg, E.np, e_ownL, e_ownN, e_lockN, s_par, p_nil, p_cons, ht, e3, e4, e5]
    · rw [decide_eq_false hr1] at g1
      refine ⟨Zd k most way (.val (tabL (cyc o))) (.val (.int (o : Int))) (.val (.int (room : Int))) .no .no hp1, ?_, o, _, _, _, _, hp1, rfl, grp_cyc (by omega) (by omega), by omega, hb1.le (by omega), hl1⟩
      simp [dC7, Zd, evF, r_ok, r_exn, r_to, r_toX, e_lit, e_val, e_nil, e_cons, e_tup, e_lst, e_prim, e_wk, e_call, e_chain, e_and, e_or, e_not, e_ite, e_dct, e_share, e_test, s_skip, s_seq, s_set, s_own, s_expr, s_ret, s_retN, s_ite, truth, view, setTg, E.np, e_ownL, e_ownN, e_lockN, s_par, p_nil, p_cons, g1]
  have g0 : pGt hp1 [.int (room : Int), .int 5] = some (.bl (decide (5 < room))) := gtN room 5
  by_cases hr5 : 5 < room
  · rw [decide_eq_true hr5] at g0
    obtain ⟨d, hp2, ht, hd, hb, hl⟩ := take (m := 2) (by decide) (by decide) hb0
    have ht : F__law_take [.ref k, .int 2] hp1 = .ok (.int (d : Int)) hp2 := ht
    have g2 : pEq hp2 [.int (d : Int), .int 0] = some (.bl (decide (d = 0))) := eqN d 0
    have t : evT dC6 (Zd k most way (.val (tabL (cyc o))) (.val (.int (o : Int))) (.val (.int (room : Int))) .no .no hp1) = .ok (decide (d = 0)) (Zd k most way (.val (tabL (cyc o))) (.val (.int (o : Int))) (.val (.int (room : Int))) .no .no hp2) := by
      generalize decide (d = 0) = dd at g2
      cases dd <;> simp [dC6, Zd, evF, r_ok, r_exn, r_to, r_toX, e_lit, e_val, e_nil, e_cons, e_tup, e_lst, e_prim, e_wk, e_call, e_chain, e_and, e_or, e_not, e_ite, e_dct, e_share, e_test, s_skip, s_seq, s_set, s_own, s_expr, s_ret, s_retN, s_ite, truth, view, setTg, E.np, e_ownL, e_ownN, e_lockN, s_par, p_nil, p_cons, g0, ht, g2]
    rw [s_ite, t]
    by_cases hd0 : d = 0
    · rw [decide_eq_true hd0]
      dsimp only
      have e3 := divN (hp := hp2) room 2 (by decide) (by decide)
      obtain ⟨q, hq⟩ : ∃ q, room / 2 = q := ⟨_, rfl⟩
      rw [hq] at e3
      have e3 : pDiv hp2 [.int (room : Int), .int 2] = some (.int (q : Int)) := e3
      have e4 := sub1 (hp := hp2) q (by omega)
      obtain ⟨q1, hq1⟩ : ∃ q1, q - 1 = q1 := ⟨_, rfl⟩
      rw [hq1] at e4
      have e5 : pMin2 hp2 [.int 5, .int (q1 : Int)] = some (.int ((if q1 < 5 then q1 else 5 : Nat) : Int)) := minN 5 q1
      obtain ⟨mm, hmm⟩ : ∃ mm, (if q1 < 5 then q1 else 5) = mm := ⟨_, rfl⟩
      rw [hmm] at e5
      have hmm1 : 1 ≤ mm ∧ mm ≤ q1 ∧ mm ≤ 5 := by
        rw [← hmm]
        by_cases h : q1 < 5
        · rw [if_pos h]; omega
        · rw [if_neg h]; omega
      obtain ⟨d2, hp3, ht2, hd2, hb2, hl2⟩ := take (m := mm) (by omega) (divOk_of (by omega)) hb
      have e6 := add2 (hp := hp3) d2
      obtain ⟨r, hrr⟩ : ∃ r, 2 + d2 = r := ⟨_, rfl⟩
      rw [hrr] at e6
      have ho2 : o ≤ 2 := by
        by_cases h : o ≤ 2
        · exact h
        · have : 3 * 6 ≤ o * room := Nat.mul_le_mul (by omega) (by omega)
          omega
      have hm : o * (2 * r) ≤ o * room := Nat.mul_le_mul_left o (by omega)
      have e7 := law_dih (hp := hp3) (h := r) (by omega) (by omega)
      have e8 := law_direct (hp := hp3) (grp_cyc (n := o) (by omega) (by omega)).toTb (grp_dih (h := r) (by omega) (by omega)).toTb (by omega) (by omega) (by omega) (by omega) (by omega)
      refine ⟨Zd k most way (.val (tabL (dirT o (2 * r) (cyc o) (dih r)))) (.val (.int (o : Int))) (.val (.int (room : Int))) .no .no hp3, ?_, o * (2 * r), _, _, _, _, hp3, rfl, grp_cd (by omega) (by omega) (by omega) (by omega) (by omega), by omega, hb2, by rw [hl2, hl, hl0]⟩
      simp [dA6, Zd, evF, r_ok, r_exn, r_to, r_toX, e_lit, e_val, e_nil, e_cons, e_tup, e_lst, e_prim, e_wk, e_call, e_chain, e_and, e_or, e_not, e_ite, e_dct, e_share, e_test, s_skip, s_seq, s_set, s_own, s_expr, s_ret, s_retN, s_ite, truth, view, setTg, E.np, e_ownL, e_ownN, e_lockN, s_par, p_nil, p_cons, e3, e4, e5, ht2, e6, e7, e8]
    · rw [decide_eq_false hd0]
      exact key hp2 hb (by rw [hl, hl0])
  · rw [decide_eq_false hr5] at g0
    have t : evT dC6 (Zd k most way (.val (tabL (cyc o))) (.val (.int (o : Int))) (.val (.int (room : Int))) .no .no hp1) = .ok false (Zd k most way (.val (tabL (cyc o))) (.val (.int (o : Int))) (.val (.int (room : Int))) .no .no hp1) := by
      simp [dC6, Zd, evF, r_ok, r_exn, r_to, r_toX, e_lit, e_val, e_nil, e_cons, e_tup, e_lst, e_prim, e_wk, e_call, e_chain, e_and, e_or, e_not, e_ite, e_dct, e_share, e_test, s_skip, s_seq, s_set, s_own, s_expr, s_ret, s_retN, s_ite, truth, view, setTg, E.np, e_ownL, e_ownN, e_lockN, s_par, p_nil, p_cons, g0]
    rw [s_ite, t]
    exact key hp1 (hb0.le (by omega)) hl0
theorem d_prm {k most b : Nat} (h1 : 8 ≤ most) (h2 : most ≤ 12) (h : Bx k (b + 2) hp) {way : Slot} : ∃ z', evS (.seq dP1 (.seq dP2 (.ite dC8 dA8 .skip))) (Zd k most way .no .no .no .no .no hp) = .next z' ∧ Dn k most b hp.length way z' := by
  have a1 : evS dP1 (Zd k most way .no .no .no .no .no hp) = .next (Zd k most way .no .no .no (.val (.lst menu)) .no hp) := rfl
  obtain ⟨d, hp1, ht, hd, hb, hl⟩ := take (m := 6) (by decide) (by decide) h
  have ht : F__law_take [.ref k, .int 6] hp = .ok (.int (d : Int)) hp1 := ht
  have e1 : pLen hp [.lst menu] = some (.int 6) := rfl
  have e2 : pIx hp1 [.lst menu, .int (d : Int)] = some (menu.getD d .non) := by
    have := ix_lst (hp := hp1) (xs := menu) (k := d) hd
    rw [this, List.getD_eq_getElem?_getD, List.getElem?_eq_getElem hd]
    rfl
  have e3 := law_prm (hp := hp1) hd
  have e4 := law_pT (hp := hp1) hd
  have l24 := len_pT hd
  have a2 : evS dP2 (Zd k most way .no .no .no (.val (.lst menu)) .no hp) = .next (Zd k most way (.val (tabL (pT d))) .no .no (.val (.lst menu)) .no hp1) := by
    generalize menu.getD d .non = md at e2 e3
    generalize prm d = pd at e3 e4
    generalize D.lst menu = mn at *
    simp [dP2, Zd, evF, r_ok, r_exn, r_to, r_toX, e_lit, e_val, e_nil, e_cons, e_tup, e_lst, e_prim, e_wk, e_call, e_chain, e_and, e_or, e_not, e_ite, e_dct, e_share, e_test, s_skip, s_seq, s_set, s_own, s_expr, s_ret, s_retN, s_ite, truth, view, setTg, E.np, e_ownL, e_ownN, e_lockN, s_par, p_nil, p_cons, e1, ht, e2, e3, e4]
  rw [s_seq, a1]
  dsimp only
  rw [s_seq, a2]
  dsimp only
  have e5 : pLen hp1 [tabL (pT d)] = some (.int ((pT d).length : Int)) := by
    have := len_lst (hp := hp1) ((pT d).map fun r => D.lst (dl r))
    rw [List.length_map] at this
    exact this
  have g1 := gtN (hp := hp1) (pT d).length most
  have t : evT dC8 (Zd k most way (.val (tabL (pT d))) .no .no (.val (.lst menu)) .no hp1) = .ok (decide (most < (pT d).length)) (Zd k most way (.val (tabL (pT d))) .no .no (.val (.lst menu)) .no hp1) := by
    simp [dC8, Zd, evF, r_ok, r_exn, r_to, r_toX, e_lit, e_val, e_nil, e_cons, e_tup, e_lst, e_prim, e_wk, e_call, e_chain, e_and, e_or, e_not, e_ite, e_dct, e_share, e_test, s_skip, s_seq, s_set, s_own, s_expr, s_ret, s_retN, s_ite, truth, view, setTg, E.np, e_ownL, e_ownN, e_lockN, s_par, p_nil, p_cons, e5, g1]
  rw [s_ite, t]
  by_cases hm : most < (pT d).length
  · rw [decide_eq_true hm]
    dsimp only
    obtain ⟨z', e, hz⟩ := d_cyc (hp := hp1) (most := most) (b := b) (by omega) h2 hb (way := way) (s3 := .val (tabL (pT d))) (s4 := .no) (s5 := .no) (s6 := .val (.lst menu))
    rw [hl] at hz
    exact ⟨z', e, hz⟩
  · rw [decide_eq_false hm]
    exact ⟨_, rfl, (pT d).length, pT d, _, _, _, hp1, rfl, grp_pT hd (by omega), by omega, hb.le (by omega), hl⟩
theorem d_br {k most b way : Nat} (h1 : 8 ≤ most) (h2 : most ≤ 12) (h : Bx k (b + 3) hp) : ∃ z', evS dBR (Zd k most (.val (.int (way : Int))) .no .no .no .no .no hp) = .next z' ∧ Dn k most b hp.length (.val (.int (way : Int))) z' := by
  have c1 : pLt hp [.int (way : Int), .int 2] = some (.bl (decide (way < 2))) := ltN way 2
  have c2 : pLt hp [.int (way : Int), .int 4] = some (.bl (decide (way < 4))) := ltN way 4
  have c3 : pEq hp [.int (way : Int), .int 4] = some (.bl (decide (way = 4))) := eqN way 4
  have c4 : pLt hp [.int (way : Int), .int 7] = some (.bl (decide (way < 7))) := ltN way 7
  have c5 : pGt hp [.int (most : Int), .int 5] = some (.bl true) := by
    have := gtN (hp := hp) most 5
    rw [decide_eq_true (by omega)] at this
    exact this
  have c6 : pGt hp [.int (most : Int), .int 7] = some (.bl true) := by
    have := gtN (hp := hp) most 7
    rw [decide_eq_true (by omega)] at this
    exact this
  generalize decide (way < 2) = b1 at c1
  generalize decide (way < 4) = b2 at c2
  generalize decide (way = 4) = b3 at c3
  generalize decide (way < 7) = b4 at c4
  have t1 : evT dC1 (Zd k most (.val (.int (way : Int))) .no .no .no .no .no hp) = .ok b1 (Zd k most (.val (.int (way : Int))) .no .no .no .no .no hp) := by
    simp [dC1, Zd, evF, r_ok, r_exn, r_to, r_toX, e_lit, e_val, e_nil, e_cons, e_tup, e_lst, e_prim, e_wk, e_call, e_chain, e_and, e_or, e_not, e_ite, e_dct, e_share, e_test, s_skip, s_seq, s_set, s_own, s_expr, s_ret, s_retN, s_ite, truth, view, setTg, E.np, e_ownL, e_ownN, e_lockN, s_par, p_nil, p_cons, c1]
  have t2 : evT dC2 (Zd k most (.val (.int (way : Int))) .no .no .no .no .no hp) = .ok b2 (Zd k most (.val (.int (way : Int))) .no .no .no .no .no hp) := by
    cases b2 <;> simp [dC2, Zd, evF, r_ok, r_exn, r_to, r_toX, e_lit, e_val, e_nil, e_cons, e_tup, e_lst, e_prim, e_wk, e_call, e_chain, e_and, e_or, e_not, e_ite, e_dct, e_share, e_test, s_skip, s_seq, s_set, s_own, s_expr, s_ret, s_retN, s_ite, truth, view, setTg, E.np, e_ownL, e_ownN, e_lockN, s_par, p_nil, p_cons, c2, c5]
  have t3 : evT dC3 (Zd k most (.val (.int (way : Int))) .no .no .no .no .no hp) = .ok b3 (Zd k most (.val (.int (way : Int))) .no .no .no .no .no hp) := by
    cases b3 <;> simp [dC3, Zd, evF, r_ok, r_exn, r_to, r_toX, e_lit, e_val, e_nil, e_cons, e_tup, e_lst, e_prim, e_wk, e_call, e_chain, e_and, e_or, e_not, e_ite, e_dct, e_share, e_test, s_skip, s_seq, s_set, s_own, s_expr, s_ret, s_retN, s_ite, truth, view, setTg, E.np, e_ownL, e_ownN, e_lockN, s_par, p_nil, p_cons, c3, c6]
  have t4 : evT dC4 (Zd k most (.val (.int (way : Int))) .no .no .no .no .no hp) = .ok b4 (Zd k most (.val (.int (way : Int))) .no .no .no .no .no hp) := by
    simp [dC4, Zd, evF, r_ok, r_exn, r_to, r_toX, e_lit, e_val, e_nil, e_cons, e_tup, e_lst, e_prim, e_wk, e_call, e_chain, e_and, e_or, e_not, e_ite, e_dct, e_share, e_test, s_skip, s_seq, s_set, s_own, s_expr, s_ret, s_retN, s_ite, truth, view, setTg, E.np, e_ownL, e_ownN, e_lockN, s_par, p_nil, p_cons, c4]
  unfold dBR
  rw [s_ite, t1]
  cases b1 with
  | true => exact d_cyc (by omega) h2 (h.le (by omega))
  | false =>
    dsimp only
    rw [s_ite, t2]
    cases b2 with
    | true => exact d_dih (by omega) h2 (h.le (by omega))
    | false =>
      dsimp only
      rw [s_ite, t3]
      cases b3 with
      | true => exact d_dic (by omega) h2 (h.le (by omega))
      | false =>
        dsimp only
        rw [s_ite, t4]
        cases b4 with
        | true => exact d_dir h1 h2 h
        | false => exact d_prm h1 h2 (h.le (by omega))
theorem rn_of {n : Nat} (hn : 1 ≤ n) {l : List Nat} (h : l.Perm (List.range (n - 1))) : Rn n (0 :: l.map fun a => 1 + a) := by
  refine ⟨?_, rfl⟩
  have e : List.range n = 0 :: (List.range (n - 1)).map fun a => 1 + a := by
    obtain ⟨m, rfl⟩ : ∃ m, n = m + 1 := ⟨n - 1, by omega⟩
    rw [List.range_succ_eq_map]
    simp [Nat.add_comm]
  rw [e]
  exact (h.map _).cons 0
theorem drawn {k most b : Nat} (h1 : 8 ≤ most) (h2 : most ≤ 12) (h : Bx k (b + 40) hp) : ∃ (n : Nat) (T : List (List Nat)) (hp' : List D), F__law_drawn [.ref k, .int (most : Int)] hp = .ok (tabL T) hp' ∧ Grp n T ∧ n ≤ most ∧ Bx k b hp' ∧ hp'.length = hp.length := by
  obtain ⟨way, hp1, ht, _, hb1, hl1⟩ := take (m := 9) (by decide) (by decide) h
  have ht : F__law_take [.ref k, .int 9] hp = .ok (.int (way : Int)) hp1 := ht
  have a1 : evS dS1 (Zd k most .no .no .no .no .no .no hp) = .next (Zd k most (.val (.int (way : Int))) .no .no .no .no .no hp1) := by
    simp [dS1, Zd, evF, r_ok, r_exn, r_to, r_toX, e_lit, e_val, e_nil, e_cons, e_tup, e_lst, e_prim, e_wk, e_call, e_chain, e_and, e_or, e_not, e_ite, e_dct, e_share, e_test, s_skip, s_seq, s_set, s_own, s_expr, s_ret, s_retN, s_ite, truth, view, setTg, E.np, e_ownL, e_ownN, e_lockN, s_par, p_nil, p_cons, ht]
  obtain ⟨z', a2, n, T, s4, s5, s6, hp2, rfl, g, hn, hb2, hl2⟩ := d_br (hp := hp1) (b := b + 36) (way := way) h1 h2 hb1
  have hpos := g.pos
  have e1 := sub1 (hp := hp2) n hpos
  obtain ⟨l, hp3, e2, hperm, hb3, hl3⟩ := mixed (hp := hp2) (k := k) (b := b) (m := n - 1) (by omega) (hb2.le (by omega))
  have e3 := lenTL (hp := hp2) g.toTb
  have hll := hperm.length_eq
  rw [List.length_range] at hll
  have c0 : ∀ pk, evE pk C__law_drawn_0 (Zd k most (.val (.int (way : Int))) (.val (tabL T)) s4 s5 s6 .no hp2) = .ok [.lst (l.map fun a => dn (1 + a))] (Zd k most (.val (.int (way : Int))) (.val (tabL T)) s4 s5 s6 .no hp3) := fun pk =>
    e_comp (pk := pk) (env := (Zd k most (.val (.int (way : Int))) (.val (tabL T)) s4 s5 s6 .no hp3).env) (hp1 := hp3) (tg := .one 8) (it := .call F__law_mixed (.cons (.var 0) (.cons (.prim pSub (.cons (.prim pLen (.cons (.var 3) .nil)) (.cons (.lit (.int 1)) .nil))) (.nil)))) (c := .lit (.bl true)) (e := .prim pAdd (.cons (.lit (.int 1)) (.cons (.var 8) .nil))) (d := .lst (dl l))
      (by simp [Zd, evF, r_ok, r_exn, r_to, r_toX, e_lit, e_val, e_nil, e_cons, e_tup, e_lst, e_prim, e_wk, e_call, e_chain, e_and, e_or, e_not, e_ite, e_dct, e_share, e_test, s_skip, s_seq, s_set, s_own, s_expr, s_ret, s_retN, s_ite, truth, view, setTg, E.np, e_ownL, e_ownN, e_lockN, s_par, p_nil, p_cons, e3, e1, e2]) (items_dn (big_of (by omega : l.length ≤ 24))) rfl (compL_map dn (fun a => dn (1 + a)) _ hp3 l fun a ha => by
        have e1 := add1 (hp := hp3) a
        generalize 1 + a = s at *
        simp [Zd, body1, lockE, wipeE, Slot.locked, Tg.ix, evF, r_ok, r_exn, r_to, r_toX, e_lit, e_val, e_nil, e_cons, e_tup, e_lst, e_prim, e_wk, e_call, e_chain, e_and, e_or, e_not, e_ite, e_dct, e_share, e_test, s_skip, s_seq, s_set, s_own, s_expr, s_ret, s_retN, s_ite, truth, view, setTg, E.np, e_ownL, e_ownN, e_lockN, s_par, p_nil, p_cons, e1])
  have a3 : evS dS3 (Zd k most (.val (.int (way : Int))) (.val (tabL T)) s4 s5 s6 .no hp2) = .next (Zd k most (.val (.int (way : Int))) (.val (tabL T)) s4 s5 s6 (.val (.lst (dl (0 :: l.map fun a => 1 + a)))) hp3) := by
    have e4 : pAdd hp3 [.lst [.int 0], .lst (l.map fun a => dn (1 + a))] = some (.lst (dl (0 :: l.map fun a => 1 + a))) := by
      have : pAdd hp3 [.lst [.int 0], .lst (l.map fun a => dn (1 + a))] = if ([D.int 0] : List D).length + (l.map fun a => dn (1 + a)).length ≤ big then some (.lst ([.int 0] ++ l.map fun a => dn (1 + a))) else none := rfl
      rw [this, if_pos (by rw [List.length_map]; show 1 + l.length ≤ 1000000; omega)]
      simp [dl]
    generalize (0 :: l.map fun a => 1 + a) = im at *
    generalize (l.map fun a => dn (1 + a)) = ys at *
    have c0 := fun pk => c0 pk
    unfold Zd at c0
    simp [dS3, Zd, evF, r_ok, r_exn, r_to, r_toX, e_lit, e_val, e_nil, e_cons, e_tup, e_lst, e_prim, e_wk, e_call, e_chain, e_and, e_or, e_not, e_ite, e_dct, e_share, e_test, s_skip, s_seq, s_set, s_own, s_expr, s_ret, s_retN, s_ite, truth, view, setTg, E.np, e_ownL, e_ownN, e_lockN, s_par, p_nil, p_cons, c0, e4, big]
  have e5 := renamed (hp := hp3) g (rn_of hpos hperm) hb3.1
  refine ⟨n, _, hp3, ?_, grp_renT g (rn_of hpos hperm), hn, hb3, by rw [hl3, hl2, hl1]⟩
  generalize renT T _ n = R at *
  generalize (0 :: l.map fun a => 1 + a) = im at *
  have a4 : evS dS4 (Zd k most (.val (.int (way : Int))) (.val (tabL T)) s4 s5 s6 (.val (.lst (dl im))) hp3) = .ret (tabL R) (Zd k most (.val (.int (way : Int))) (.val (tabL T)) s4 s5 s6 (.val (.lst (dl im))) hp3) := by
    simp [dS4, Zd, evF, r_ok, r_exn, r_to, r_toX, e_lit, e_val, e_nil, e_cons, e_tup, e_lst, e_prim, e_wk, e_call, e_chain, e_and, e_or, e_not, e_ite, e_dct, e_share, e_test, s_skip, s_seq, s_set, s_own, s_expr, s_ret, s_retN, s_ite, truth, view, setTg, E.np, e_ownL, e_ownN, e_lockN, s_par, p_nil, p_cons, e5]
  show (match evS b__law_drawn (Zd k most .no .no .no .no .no .no hp) with | O.ret d z => RF.ok d z.hp | O.next z => RF.ok .non z.hp | O.exn c ds z => RF.exn c ds z.hp | _ => RF.bad) = _
  rw [drawn_eq, s_seq, a1]
  dsimp only
  rw [s_seq, a2]
  dsimp only
  rw [s_seq, a3]
  dsimp only
  rw [a4]
  rfl
end
end K66
end
section
set_option Elab.async false
set_option linter.all false
set_option maxRecDepth 100000
/-! PQ: the drawn subset. -/
namespace K66
open G
theorem ris_of : ∀ {l : List Nat}, l.Pairwise (· < ·) → risB l = true
  | [], _ => rfl
  | [_], _ => rfl
  | x :: y :: r, h => by
    obtain ⟨h1, h2⟩ := List.pairwise_cons.mp h
    show (decide (x < y) && risB (y :: r)) = true
    rw [ris_of h2, decide_eq_true (h1 y List.mem_cons_self)]
    rfl
theorem nats_of : ∀ (zs : List Int), (∀ z ∈ zs, 0 ≤ z) → zs.map D.int = dl (zs.map Int.toNat)
  | [], _ => rfl
  | z :: zs, h => by
    have e : ((z.toNat : Nat) : Int) = z := Int.toNat_of_nonneg (h z List.mem_cons_self)
    show D.int z :: zs.map D.int = D.int (z.toNat : Int) :: dl (zs.map Int.toNat)
    rw [nats_of zs fun w hw => h w (List.mem_cons_of_mem _ hw), e]
section
variable {n : Nat} {hp : List D}
theorem sort_set {ys : List Nat} (hl : ys.length < 64) (hy : ∀ y ∈ ys, y < n) : ∃ S : List Nat, pSortSet hp [.lst (dl ys)] = some (.lst (dl S)) ∧ (∀ b ∈ S, b < n) ∧ risB S = true := by
  have e : pSortSet hp [.lst (dl ys)] = if (dl ys).length < 64 then (intsD (dl ys)).map fun l => .lst ((sortSet l).map D.int) else none := rfl
  have hm : ∀ z ∈ sortSet (ys.map fun (x : Nat) => (x : Int)), 0 ≤ z ∧ z < n := fun z hz => by
    have := (sortSet_mem z _).mp hz
    obtain ⟨y, hy', rfl⟩ := List.mem_map.mp this
    have := hy y hy'
    omega
  refine ⟨(sortSet (ys.map fun (x : Nat) => (x : Int))).map Int.toNat, ?_, fun b hb => ?_, ris_of ?_⟩
  · rw [e, if_pos (by rw [dl_len]; exact hl), intsD_dl, Option.map_some, nats_of _ fun z hz => (hm z hz).1]
  · obtain ⟨z, hz, rfl⟩ := List.mem_map.mp hb
    have := hm z hz
    omega
  · rw [List.pairwise_map]
    refine (sortSet_asc _).imp_of_mem fun {a b} ha hb h => ?_
    have := hm a ha
    have := hm b hb
    omega
theorem takes {k m : Nat} (hm : 0 < m) (hm2 : divOk (m : Int) = true) (f : D → List D → Option (List D × List D)) (hf : ∀ (d : D) (hp : List D) (b : Nat), Bx k (b + 1) hp → ∃ (x : Nat) (hp' : List D), f d hp = some ([dn x], hp') ∧ x < m ∧ Bx k b hp' ∧ hp'.length = hp.length) : ∀ (l : List Nat) (hp : List D) (b : Nat), Bx k (b + l.length) hp →
    ∃ (ys : List Nat) (hp' : List D), compL f (l.map dn) hp = some (dl ys, hp') ∧ ys.length = l.length ∧ (∀ y ∈ ys, y < m) ∧ Bx k b hp' ∧ hp'.length = hp.length
  | [], hp, b, h => ⟨[], hp, rfl, rfl, (fun _ q => nomatch q), h, rfl⟩
  | x :: l, hp, b, h => by
    obtain ⟨y, hp1, e1, h1, h2, h3⟩ := hf (dn x) hp (b + l.length) h
    obtain ⟨ys, hp2, e2, h4, h5, h6, h7⟩ := takes hm hm2 f hf l hp1 b h2
    refine ⟨y :: ys, hp2, ?_, by rw [List.length_cons, h4, List.length_cons], fun z hz => ?_, h6, by rw [h7, h3]⟩
    · show (match f (dn x) hp with | none => none | some (ys, hp1) => match compL f (l.map dn) hp1 with | none => none | some (zs, hp2) => some (ys ++ zs, hp2)) = _
      rw [e1]
      dsimp only
      rw [e2]
      rfl
    · rcases List.mem_cons.mp hz with e | hz
      · rw [e]; exact h1
      · exact h5 z hz
theorem rngT (h : n ≤ 24) : pRangeT hp [.int (n : Int)] = some (.tup (dl (List.range n))) := by
  have e1 : decide (-(2 ^ 62) ≤ (n : Int)) = true := decide_eq_true (by omega)
  have hb : (big : Int) = 1000000 := by decide
  have e2 : decide ((n : Int) ≤ (big : Int)) = true := decide_eq_true (by rw [hb]; omega)
  simp only [pRangeT, e1, e2, Bool.and_self, if_true]
  rfl
def sC : E := .call F__law_take (.cons (.var 0) (.cons (.var 1) (.nil)))
theorem sb_el {k : Nat} {s2 s3 s4 : Slot} (f : Z → G.R (List D)) (P : Nat → Prop) (h : ∀ (d : D) (hp : List D) (b : Nat), Bx k (b + 1) hp → ∃ (x : Nat) (hp' : List D), f ⟨[.val (.ref k), .val (.int (n : Int)), s2, s3, s4, .val d], hp⟩ = .ok [dn x] ⟨[.val (.ref k), .val (.int (n : Int)), s2, s3, s4, .val d], hp'⟩ ∧ P x ∧ Bx k b hp' ∧ hp'.length = hp.length) (env : List Slot) (he : wipeE (lockE env) [5] = [.val (.ref k), .val (.int (n : Int)), s2, s3, s4, .no]) (d : D) (hp : List D) (b : Nat) (hb : Bx k (b + 1) hp) :
    ∃ (x : Nat) (hp' : List D), body1 (.one 5) (evE true (.lit (.bl true))) f (wipeE (lockE env) [5]) d hp = some ([dn x], hp') ∧ P x ∧ Bx k b hp' ∧ hp'.length = hp.length := by
  obtain ⟨x, hp', e, h1, h2, h3⟩ := h d hp b hb
  refine ⟨x, hp', ?_, h1, h2, h3⟩
  rw [he]
  show (match f ⟨[.val (.ref k), .val (.int (n : Int)), s2, s3, s4, .val d], hp⟩ with | .ok y z3 => some (y, z3.hp) | _ => none) = _
  rw [e]
theorem subset {k b : Nat} {few : Bool} (hn : 1 ≤ n) (h24 : n ≤ 24) (h : Bx k (b + 10) hp) : ∃ (S : List Nat) (hp' : List D), F__law_subset [.ref k, .int (n : Int), .bl few] hp = .ok (.tup (dl S)) hp' ∧ (∀ b ∈ S, b < n) ∧ risB S = true ∧ Bx k b hp' ∧ hp'.length = hp.length := by
  obtain ⟨way, hp1, ht, _, hb1, hl1⟩ := take (m := 6) (by decide) (by decide) h
  have ht : F__law_take [.ref k, .int 6] hp = .ok (.int (way : Int)) hp1 := ht
  have c1 : pEq hp1 [.int (way : Int), .int 0] = some (.bl (decide (way = 0))) := eqN way 0
  have c2 : pLt hp1 [.int (n : Int), .int 9] = some (.bl (decide (n < 9))) := ltN n 9
  by_cases hc : way = 0 ∧ n < 9
  · rw [decide_eq_true hc.1] at c1
    rw [decide_eq_true hc.2] at c2
    obtain ⟨d, hp2, ht2, hd, hb2, hl2⟩ := take (m := 3) (by decide) (by decide) hb1
    have ht2 : F__law_take [.ref k, .int 3] hp1 = .ok (.int (d : Int)) hp2 := ht2
    have e1 := rngT (hp := hp1) h24
    have hS : ∃ S : List Nat, pIx hp2 [.lst [.tup [], .tup (dl (List.range n)), .tup [.int 0]], .int (d : Int)] = some (.tup (dl S)) ∧ (∀ b ∈ S, b < n) ∧ risB S = true := by
      have : d = 0 ∨ d = 1 ∨ d = 2 := by omega
      rcases this with rfl | rfl | rfl
      · exact ⟨[], rfl, (fun _ q => nomatch q), rfl⟩
      · exact ⟨List.range n, rfl, fun b hb => List.mem_range.mp hb, ris_of List.pairwise_lt_range⟩
      · exact ⟨[0], rfl, fun b hb => by rw [List.mem_singleton.mp hb]; exact hn, rfl⟩
    obtain ⟨S, e2, h1, h2⟩ := hS
    refine ⟨S, hp2, ?_, h1, h2, hb2.le (by omega), by rw [hl2, hl1]⟩
    simp [F__law_subset, b__law_subset, evF, r_ok, r_exn, r_to, r_toX, e_lit, e_val, e_nil, e_cons, e_tup, e_lst, e_prim, e_wk, e_call, e_chain, e_and, e_or, e_not, e_ite, e_dct, e_share, e_test, s_skip, s_seq, s_set, s_own, s_expr, s_ret, s_retN, s_ite, truth, view, setTg, E.np, e_ownL, e_ownN, e_lockN, s_par, p_nil, p_cons, ht, c1, c2, e1, ht2, e2, big]
  · have t0 : (decide (way = 0) && decide (n < 9)) = false := by
      by_cases h1 : way = 0
      · rw [decide_eq_false (fun q => hc ⟨h1, q⟩), Bool.and_false]
      · rw [decide_eq_false h1, Bool.false_and]
    generalize decide (way = 0) = b1 at c1 t0
    generalize decide (n < 9) = b2 at c2 t0
    obtain ⟨fm, hfm⟩ : ∃ fm : Nat, (if few then 2 else 3) = fm := ⟨_, rfl⟩
    have hfm2 : 2 ≤ fm ∧ fm ≤ 3 := by cases few <;> simp at hfm <;> omega
    obtain ⟨d, hp2, ht2, hd, hb2, hl2⟩ := take (m := fm) (by omega) (divOk_of (by omega)) hb1
    have e3 := add1 (hp := hp2) d
    obtain ⟨many, hmany⟩ : ∃ m, 1 + d = m := ⟨_, rfl⟩
    rw [hmany] at e3
    have er := rng (hp := hp2) (n := many) (by show _ ≤ 1000000; omega)
    have hel := sb_el (n := n) (k := k) (s2 := .val (.bl few)) (s3 := .val (.int (way : Int))) (s4 := .val (.int (many : Int))) (evE false sC) (fun x => x < n) (fun d hp b hb => by
      obtain ⟨x, hp', e, h1, h2, h3⟩ := take (m := n) hn (divOk_of (by omega)) hb
      refine ⟨x, hp', ?_, h1, h2, h3⟩
      simp [sC, evF, r_ok, r_exn, r_to, r_toX, e_lit, e_val, e_nil, e_cons, e_tup, e_lst, e_prim, e_wk, e_call, e_chain, e_and, e_or, e_not, e_ite, e_dct, e_share, e_test, s_skip, s_seq, s_set, s_own, s_expr, s_ret, s_retN, s_ite, truth, view, setTg, E.np, e_ownL, e_ownN, e_lockN, s_par, p_nil, p_cons, e]) [.val (.ref k), .val (.int (n : Int)), .val (.bl few), .val (.int (way : Int)), .val (.int (many : Int)), .no] rfl
    obtain ⟨ys, hp3, e4, h4, h5, hb3, hl3⟩ := takes hn (divOk_of (by omega)) _ hel (List.range many) hp2 b (hb2.le (by rw [List.length_range]; omega))
    rw [List.length_range] at h4
    have c0 : ∀ pk, evE pk C__law_subset_0 ⟨[.val (.ref k), .val (.int (n : Int)), .val (.bl few), .val (.int (way : Int)), .val (.int (many : Int)), .no], hp2⟩ = .ok [.lst (dl ys)] ⟨[.val (.ref k), .val (.int (n : Int)), .val (.bl few), .val (.int (way : Int)), .val (.int (many : Int)), .no], hp3⟩ := fun pk =>
      e_comp (pk := pk) (env := [.val (.ref k), .val (.int (n : Int)), .val (.bl few), .val (.int (way : Int)), .val (.int (many : Int)), .no]) (hp1 := hp2) (tg := .one 5) (it := .wk pRange1 (.cons (.var 4) .nil)) (c := .lit (.bl true)) (e := sC)
        (wkD (xs := [.int (many : Int)]) (by simp [evF, r_ok, r_exn, r_to, r_toX, e_lit, e_val, e_nil, e_cons, e_tup, e_lst, e_prim, e_wk, e_call, e_chain, e_and, e_or, e_not, e_ite, e_dct, e_share, e_test, s_skip, s_seq, s_set, s_own, s_expr, s_ret, s_retN, s_ite, truth, view, setTg, E.np, e_ownL, e_ownN, e_lockN, s_par, p_nil, p_cons]) er) (items_dn (by rw [List.length_range]; show _ ≤ 1000000; omega)) rfl e4
    obtain ⟨S, e5, h6, h7⟩ := sort_set (hp := hp3) (n := n) (ys := ys) (by omega) h5
    refine ⟨S, hp3, ?_, h6, h7, hb3, by rw [hl3, hl2, hl1]⟩
    have a1 : evS (.set (.one 4) (.prim pAdd (.cons (.lit (.int 1)) (.cons (.call F__law_take (.cons (.var 0) (.cons (.ite ((.var 2)) (.lit (.int 2)) (.lit (.int 3))) (.nil)))) .nil)))) ⟨[.val (.ref k), .val (.int (n : Int)), .val (.bl few), .val (.int (way : Int)), .no, .no], hp1⟩ =
        .next ⟨[.val (.ref k), .val (.int (n : Int)), .val (.bl few), .val (.int (way : Int)), .val (.int (many : Int)), .no], hp2⟩ := by
      cases few with
      | true =>
        have hfm : 2 = fm := hfm
        subst hfm
        have ht2 : F__law_take [.ref k, .int 2] hp1 = .ok (.int (d : Int)) hp2 := ht2
        simp [evF, r_ok, r_exn, r_to, r_toX, e_lit, e_val, e_nil, e_cons, e_tup, e_lst, e_prim, e_wk, e_call, e_chain, e_and, e_or, e_not, e_ite, e_dct, e_share, e_test, s_skip, s_seq, s_set, s_own, s_expr, s_ret, s_retN, s_ite, truth, view, setTg, E.np, e_ownL, e_ownN, e_lockN, s_par, p_nil, p_cons, ht2, e3]
      | false =>
        have hfm : 3 = fm := hfm
        subst hfm
        have ht2 : F__law_take [.ref k, .int 3] hp1 = .ok (.int (d : Int)) hp2 := ht2
        simp [evF, r_ok, r_exn, r_to, r_toX, e_lit, e_val, e_nil, e_cons, e_tup, e_lst, e_prim, e_wk, e_call, e_chain, e_and, e_or, e_not, e_ite, e_dct, e_share, e_test, s_skip, s_seq, s_set, s_own, s_expr, s_ret, s_retN, s_ite, truth, view, setTg, E.np, e_ownL, e_ownN, e_lockN, s_par, p_nil, p_cons, ht2, e3]
    have a0 : ∀ X : G.S, evS (.ite ((.and (.prim pEq (.cons (.var 3) (.cons (.lit (.int 0)) .nil))) (.prim pLt (.cons (.var 1) (.cons (.lit (.int 9)) .nil))))) X (.skip)) ⟨[.val (.ref k), .val (.int (n : Int)), .val (.bl few), .val (.int (way : Int)), .no, .no], hp1⟩ = .next ⟨[.val (.ref k), .val (.int (n : Int)), .val (.bl few), .val (.int (way : Int)), .no, .no], hp1⟩ := fun X => by
      cases b1 with
      | false => simp [evF, r_ok, r_exn, r_to, r_toX, e_lit, e_val, e_nil, e_cons, e_tup, e_lst, e_prim, e_wk, e_call, e_chain, e_and, e_or, e_not, e_ite, e_dct, e_share, e_test, s_skip, s_seq, s_set, s_own, s_expr, s_ret, s_retN, s_ite, truth, view, setTg, E.np, e_ownL, e_ownN, e_lockN, s_par, p_nil, p_cons, c1]
      | true =>
        have t0 : b2 = false := t0
        subst t0
        simp [evF, r_ok, r_exn, r_to, r_toX, e_lit, e_val, e_nil, e_cons, e_tup, e_lst, e_prim, e_wk, e_call, e_chain, e_and, e_or, e_not, e_ite, e_dct, e_share, e_test, s_skip, s_seq, s_set, s_own, s_expr, s_ret, s_retN, s_ite, truth, view, setTg, E.np, e_ownL, e_ownN, e_lockN, s_par, p_nil, p_cons, c1, c2]
    have a9 : evS (.set (.one 3) (.call F__law_take (.cons (.var 0) (.cons (.lit (.int 6)) (.nil))))) ⟨[.val (.ref k), .val (.int (n : Int)), .val (.bl few), .no, .no, .no], hp⟩ = .next ⟨[.val (.ref k), .val (.int (n : Int)), .val (.bl few), .val (.int (way : Int)), .no, .no], hp1⟩ := by
      simp [evF, r_ok, r_exn, r_to, r_toX, e_lit, e_val, e_nil, e_cons, e_tup, e_lst, e_prim, e_wk, e_call, e_chain, e_and, e_or, e_not, e_ite, e_dct, e_share, e_test, s_skip, s_seq, s_set, s_own, s_expr, s_ret, s_retN, s_ite, truth, view, setTg, E.np, e_ownL, e_ownN, e_lockN, s_par, p_nil, p_cons, ht]
    have a2 : evS (.ret (.prim pTuple (.cons (.prim pSortSet (.cons (C__law_subset_0) .nil)) .nil))) ⟨[.val (.ref k), .val (.int (n : Int)), .val (.bl few), .val (.int (way : Int)), .val (.int (many : Int)), .no], hp2⟩ = .ret (.tup (dl S)) ⟨[.val (.ref k), .val (.int (n : Int)), .val (.bl few), .val (.int (way : Int)), .val (.int (many : Int)), .no], hp3⟩ := by
      simp [evF, r_ok, r_exn, r_to, r_toX, e_lit, e_val, e_nil, e_cons, e_tup, e_lst, e_prim, e_wk, e_call, e_chain, e_and, e_or, e_not, e_ite, e_dct, e_share, e_test, s_skip, s_seq, s_set, s_own, s_expr, s_ret, s_retN, s_ite, truth, view, setTg, E.np, e_ownL, e_ownN, e_lockN, s_par, p_nil, p_cons, c0, e5, pTup]
    show (match evS b__law_subset ⟨[.val (.ref k), .val (.int (n : Int)), .val (.bl few), .no, .no, .no], hp⟩ with | O.ret d z => RF.ok d z.hp | O.next z => RF.ok .non z.hp | O.exn c ds z => RF.exn c ds z.hp | _ => RF.bad) = _
    unfold b__law_subset
    rw [s_seq, a9]
    dsimp only
    rw [s_seq, a0]
    dsimp only
    rw [s_seq, a1]
    dsimp only
    rw [a2]
end
end K66
end
section
set_option Elab.async false
set_option linter.all false
set_option maxRecDepth 100000
/-! PR: refusals. -/
namespace K66
open G
def rS1 : S := (.set (.one 4) (.lstE (.cons (.prim pList (.cons (.var 3) .nil)) (.cons (.prim pAdd (.cons (.var 3) (.cons (.tupE (.cons (.var 2) (.nil))) .nil))) (.cons (.prim pAdd (.cons (.tupE (.cons (.prim pNeg (.cons (.lit (.int 1)) .nil)) (.nil))) (.cons (.var 3) .nil))) (.cons (.tupE (.cons (.lit (.int 1)) (.cons (.lit (.int 0)) (.nil)))) (.cons (.prim pAdd (.cons (.var 3) (.cons (.prim (pCut true false) (.cons (.var 3) (.cons (.prim pI (.cons (.prim pNeg (.cons (.lit (.int 1)) .nil)) .nil)) (.cons (.lit .non) .nil)))) .nil))) (.cons (.lit .non) (.cons (.lit (.str "set")) (.cons (.tupE (.cons (.lit (.bl true)) (.nil))) (.cons (.tupE (.cons (.lit .non) (.nil))) (.cons (.tupE (.cons (.lit (.int 0)) (.cons (.lit (.int 0)) (.nil)))) (.nil)))))))))))))
def rS2 : S := (.set (.one 5) (.prim pIx (.cons (.var 4) (.cons (.call F__law_take (.cons (.var 0) (.cons (.prim pLen (.cons (.var 4) .nil)) (.nil)))) .nil))))
def rS3 : S := (.ite ((.and (.not ((.call F__law_is_set (.cons (.var 2) (.cons (.var 5) (.nil)))))) (.not ((.call (F__law_same 4) (.cons (.call F__law_asked (.cons (.var 1) (.cons (.var 5) (.cons (.prim pEq (.cons (.call F__law_take (.cons (.var 0) (.cons (.lit (.int 2)) (.nil)))) (.cons (.lit (.int 0)) .nil))) (.nil))))) (.cons (.lstE (.cons (.lit (.str "refused")) (.cons (.var 5) (.nil)))) (.nil)))))))) ((.ret (.lit (.bl false)))) (.skip))
def rS4 : S := (.set (.one 6) (.prim pIx (.cons (.lstE (.cons (.call F__law_cyclic (.cons (.prim pAdd (.cons (.lit (.int 13)) (.cons (.call F__law_take (.cons (.var 0) (.cons (.lit (.int 12)) (.nil)))) .nil))) (.nil))) (.cons (.call F__law_dihedral (.cons (.prim pAdd (.cons (.lit (.int 7)) (.cons (.call F__law_take (.cons (.var 0) (.cons (.lit (.int 6)) (.nil)))) .nil))) (.nil))) (.cons (.call F__law_dicyclic (.cons (.prim pAdd (.cons (.lit (.int 4)) (.cons (.call F__law_take (.cons (.var 0) (.cons (.lit (.int 3)) (.nil)))) .nil))) (.nil))) (.nil))))) (.cons (.call F__law_take (.cons (.var 0) (.cons (.lit (.int 3)) (.nil)))) .nil))))
def rS5 : S := (.set (.one 7) (.call F__law_group (.cons (.var 6) (.nil))))
def rS6 : S := (.ite (.not ((.call (F__law_same 4) (.cons (.call F__law_asked (.cons (.var 7) (.cons (.tupE (.cons (.lit (.int 24)) (.nil))) (.cons (.lit (.bl false)) (.nil))))) (.cons (.lstE (.cons (.lit (.str "refused")) (.cons (.tupE (.cons (.lit (.int 24)) (.nil))) (.nil)))) (.nil)))))) ((.ret (.lit (.bl false)))) (.skip))
def rS7 : S := (.ret (.call (F__law_same 4) (.cons (.call F__law_asked (.cons (.var 7) (.cons (.prim pIx (.cons (.lstE (.cons (.tupE (.cons (.lit (.int 1)) (.nil))) (.cons (.tupE (.nil)) (.cons (.tupE (.cons (.lit (.int 0)) (.cons (.lit (.int 1)) (.nil)))) (.nil))))) (.cons (.call F__law_take (.cons (.var 0) (.cons (.lit (.int 3)) (.nil)))) .nil))) (.cons (.lit (.bl true)) (.nil))))) (.cons (.lstE (.cons (.lit (.str "many")) (.cons (.prim pLen (.cons (.var 6) .nil)) (.nil)))) (.nil)))))
theorem ref_eq : b__law_refusals_right = .seq rS1 (.seq rS2 (.seq rS3 (.seq rS4 (.seq rS5 (.seq rS6 (rS7)))))) := rfl
def tS1 : S := (.set (.one 1) (.prim pEq (.cons (.call F__law_take (.cons (.var 0) (.cons (.lit (.int 4)) (.nil)))) (.cons (.lit (.int 0)) .nil))))
def tS2 : S := (.set (.one 2) (.call F__law_drawn (.cons (.var 0) (.cons (.ite ((.var 1)) (.lit (.int 12)) (.lit (.int 8))) (.nil)))))
def tS3 : S := (.par [(3, false, (.call F__law_group (.cons (.var 2) (.nil)))), (4, false, (.prim pLen (.cons (.var 2) .nil)))])
def tS4 : S := (L__law_right_0)
def tS5 : S := (.ret (.call F__law_refusals_right (.cons (.var 0) (.cons (.var 3) (.cons (.var 4) (.cons (.var 6) (.nil)))))))
theorem right_eq : b__law_right = .seq tS1 (.seq tS2 (.seq tS3 (.seq tS4 (tS5)))) := rfl
def uS1 : S := (.par [(6, false, (.call F__law_subset (.cons (.var 0) (.cons (.var 4) (.cons (.prim pGt (.cons (.var 4) (.cons (.lit (.int 8)) .nil))) (.nil)))))), (7, false, (.prim pEq (.cons (.call F__law_take (.cons (.var 0) (.cons (.lit (.int 2)) (.nil)))) (.cons (.lit (.int 0)) .nil))))])
def uS2 : S := (.set (.one 8) (.call F__law_asked (.cons (.var 3) (.cons (.var 6) (.cons (.var 7) (.nil))))))
def uS3 : S := (.ite ((.call F__law_exists (.cons (.var 2) (.cons (.var 6) (.nil))))) ((.ite (.not ((.call F__law_walk_right (.cons (.var 2) (.cons (.var 6) (.cons (.var 8) (.nil))))))) ((.ret (.lit (.bl false)))) (.skip))) ((.ite (.prim pIsNot (.cons (.var 8) (.cons (.lit .non) .nil))) ((.ret (.lit (.bl false)))) (.skip))))
def uS4 : S := (.ite (.not ((.call (F__law_same 4) (.cons (.call F__law_asked (.cons (.var 3) (.cons (.var 6) (.cons (.not (.var 7)) (.nil))))) (.cons (.var 8) (.nil)))))) ((.ret (.lit (.bl false)))) (.skip))
theorem rt0_eq : B__law_right_0 = .seq uS1 (.seq uS2 (.seq uS3 (uS4))) := rfl

def isE : D → Bool
  | .int _ => true
  | .bl _ => true
  | .non => true
  | _ => false
structure Vm (d : D) : Prop where
  sc : scV d = true
  sm : Sm 3 d
theorem isE_sc {d : D} (h : isE d = true) : isSc d = true := by
  cases d <;> first
    | rfl
    | cases h
theorem isE_sm {d : D} (h : isE d = true) (r : Nat) : Sm (r + 1) d := by
  cases d with
  | int i => exact sm_int r i
  | bl b => exact sm_bl r b
  | non => exact sm_non r
  | _ => cases h
theorem vm_tup {xs : List D} (h : xs.all isE = true) (hl : xs.length ≤ 1000) : Vm (.tup xs) := by
  have hb : xs.length ≤ big := big_of hl
  refine ⟨?_, sm_tup hb fun x hx => isE_sm (List.all_eq_true.mp h x hx) 1⟩
  show (xs.all isSc && decide (xs.length ≤ big)) = true
  rw [decide_eq_true hb, Bool.and_true]
  exact List.all_eq_true.mpr fun d hd => isE_sc (List.all_eq_true.mp h d hd)
theorem all_dl : ∀ l : List Nat, (dl l).all isE = true
  | [] => rfl
  | _ :: l => all_dl l
theorem all_app {xs ys : List D} (h1 : xs.all isE = true) (h2 : ys.all isE = true) : (xs ++ ys).all isE = true := by rw [List.all_append, h1, h2]; rfl
theorem cut_all {xs : List D} (lo hi : Option Int) (h : xs.all isE = true) : (cutL xs lo hi).all isE = true := List.all_eq_true.mpr fun d hd => List.all_eq_true.mp h d (List.mem_of_mem_drop (List.mem_of_mem_take hd))
theorem cut_len {xs : List D} (lo hi : Option Int) : (cutL xs lo hi).length ≤ xs.length := by
  unfold cutL
  rw [List.length_take, List.length_drop]
  omega
section
variable {n : Nat} {T : List (List Nat)} {S : List Nat} {hp : List D}
theorem addT {xs ys : List D} (h : xs.length + ys.length ≤ 1000) : pAdd hp [.tup xs, .tup ys] = some (.tup (xs ++ ys)) := if_pos (big_of h)
def Zf (k n : Nat) (T : List (List Nat)) (S : List Nat) (s4 s5 s6 s7 : Slot) (hp : List D) : Z := ⟨[.val (.ref k), .val (grD n T), .val (.int (n : Int)), .val (.tup (dl S)), s4, s5, s6, s7], hp⟩
theorem f_menu {k : Nat} (hS : S.length ≤ 24) : ∃ M : List D, evS rS1 (Zf k n T S .no .no .no .no hp) = .next (Zf k n T S (.val (.lst M)) .no .no .no hp) ∧ M.length = 10 ∧ ∀ d ∈ M, Vm d := by
  obtain ⟨X, hX⟩ : ∃ X, cutL (dl S) (some (-1)) none = X := ⟨_, rfl⟩
  have hl : (dl S).length = S.length := dl_len S
  have hXl : X.length ≤ S.length := by rw [← hX, ← hl]; exact cut_len _ _
  have hXa : X.all isE = true := by rw [← hX]; exact cut_all _ _ (all_dl S)
  have e1 : pCut true false hp [.tup (dl S), .int (-1), .non] = some (.tup X) := by rw [← hX]; rfl
  have e2 := addT (hp := hp) (xs := dl S) (ys := X) (by omega)
  have e3 := addT (hp := hp) (xs := dl S) (ys := [.int (n : Int)]) (by rw [hl]; show S.length + 1 ≤ 1000; omega)
  have e4 := addT (hp := hp) (xs := [.int (-1)]) (ys := dl S) (by rw [hl]; show 1 + S.length ≤ 1000; omega)
  have e5 : pList hp [.tup (dl S)] = some (.lst (dl S)) := rfl
  have e6 : pNeg hp [.int 1] = some (.int (-1)) := rfl
  have e7 : pI hp [.int (-1)] = some (.int (-1)) := rfl
  refine ⟨[.lst (dl S), .tup (dl S ++ [.int (n : Int)]), .tup ([.int (-1)] ++ dl S), .tup [.int 1, .int 0], .tup (dl S ++ X), .non, .str "set", .tup [.bl true], .tup [.non], .tup [.int 0, .int 0]], ?_, rfl, ?_⟩
  · have v4 : Vm (.tup (dl S ++ X)) := vm_tup (all_app (all_dl S) hXa) (by rw [List.length_append]; omega)
    simp [rS1, Zf, evF, r_ok, r_exn, r_to, r_toX, e_lit, e_val, e_nil, e_cons, e_tup, e_lst, e_prim, e_wk, e_call, e_chain, e_and, e_or, e_not, e_ite, e_dct, e_share, e_test, s_skip, s_seq, s_set, s_own, s_expr, s_ret, s_retN, s_ite, truth, view, setTg, E.np, e_ownL, e_ownN, e_lockN, s_par, p_nil, p_cons, e1, e2, e3, e4, e5, e6, e7, big]
  · intro d hd
    simp only [List.mem_cons, List.not_mem_nil, or_false] at hd
    rcases hd with rfl | rfl | rfl | rfl | rfl | rfl | rfl | rfl | rfl | rfl
    · exact ⟨rfl, sm_dlL (r := 1) (big_of hS)⟩
    · exact vm_tup (all_app (all_dl S) rfl) (by rw [List.length_append, hl]; show S.length + 1 ≤ 1000; omega)
    · exact vm_tup (all_app rfl (all_dl S)) (by rw [List.length_append, hl]; show 1 + S.length ≤ 1000; omega)
    · exact vm_tup rfl (by decide)
    · exact vm_tup (all_app (all_dl S) hXa) (by rw [List.length_append]; omega)
    · exact ⟨rfl, sm_non 2⟩
    · exact ⟨rfl, sm_str3 2⟩
    · exact vm_tup rfl (by decide)
    · exact vm_tup rfl (by decide)
    · exact vm_tup rfl (by decide)
theorem sm_ref {r : Nat} {d : D} (h : Sm (r + 1) d) : Sm (r + 2) (.lst [.str "refused", d]) := sm_lst (show 2 ≤ 1000000 by decide) fun x hx => by
  simp only [List.mem_cons, List.not_mem_nil, or_false] at hx
  rcases hx with rfl | rfl
  · exact sm_str1 r
  · exact h
theorem sm_many {r : Nat} {i : Int} : Sm (r + 2) (.lst [.str "many", .int i]) := sm_lst (show 2 ≤ 1000000 by decide) fun x hx => by
  simp only [List.mem_cons, List.not_mem_nil, or_false] at hx
  rcases hx with rfl | rfl
  · exact sm_str2 r
  · exact sm_int r i
theorem f_bad {k b : Nat} {s4 : Slot} {d : D} (hv : Vm d) (h : Bx k (b + 1) hp) : ∃ hp', evS rS3 (Zf k n T S s4 (.val d) .no .no hp) = .next (Zf k n T S s4 (.val d) .no .no hp') ∧ Bx k b hp' ∧ hp'.length = hp.length := by
  have e0 := law_is_set (n := n) (hp := hp) hv.sc
  cases hs : setB n d with
  | true =>
    rw [hs] at e0
    refine ⟨hp, ?_, h.le (by omega), rfl⟩
    simp [rS3, Zf, evF, r_ok, r_exn, r_to, r_toX, e_lit, e_val, e_nil, e_cons, e_tup, e_lst, e_prim, e_wk, e_call, e_chain, e_and, e_or, e_not, e_ite, e_dct, e_share, e_test, s_skip, s_seq, s_set, s_own, s_expr, s_ret, s_retN, s_ite, truth, view, setTg, E.np, e_ownL, e_ownN, e_lockN, s_par, p_nil, p_cons, e0]
  | false =>
    rw [hs] at e0
    obtain ⟨c, hp1, ht, _, hb1, hl1⟩ := take (m := 2) (by decide) (by decide) h
    have ht : F__law_take [.ref k, .int 2] hp = .ok (.int (c : Int)) hp1 := ht
    have e1 : pEq hp1 [.int (c : Int), .int 0] = some (.bl (decide (c = 0))) := eqN c 0
    have e2 := asked_ref (hp := hp1) (hamilton_bad (T := T) (scV_okV hv.sc) hs) (decide (c = 0))
    have e3 := sm_ref (r := 2) hv.sm hp1
    generalize decide (c = 0) = cc at *
    refine ⟨hp1, ?_, hb1, hl1⟩
    generalize hx : D.lst [.str "refused", d] = x at *
    have e4 : ∀ z : Z, z = Zf k n T S s4 (.val d) .no .no hp1 → evE false (.lstE (.cons (.lit (.str "refused")) (.cons (.var 5) .nil))) z = .ok [x] (Zf k n T S s4 (.val d) .no .no hp1) ∧ evE true (.lstE (.cons (.lit (.str "refused")) (.cons (.var 5) .nil))) z = .ok [x] (Zf k n T S s4 (.val d) .no .no hp1) := by
      rintro z rfl
      rw [← hx]
      exact ⟨rfl, rfl⟩
    obtain ⟨e5, e6⟩ := e4 _ rfl
    unfold Zf at e5 e6
    generalize E.lstE (.cons (.lit (.str "refused")) (.cons (.var 5) .nil)) = LE at e5 e6
    have step : ∀ LE : E, (∀ pk, evE pk LE (Zf k n T S s4 (.val d) .no .no hp1) = .ok [x] (Zf k n T S s4 (.val d) .no .no hp1)) → evT (.and (.not ((.call F__law_is_set (.cons (.var 2) (.cons (.var 5) (.nil)))))) (.not ((.call (F__law_same 4) (.cons (.call F__law_asked (.cons (.var 1) (.cons (.var 5) (.cons (.prim pEq (.cons (.call F__law_take (.cons (.var 0) (.cons (.lit (.int 2)) (.nil)))) (.cons (.lit (.int 0)) .nil))) (.nil))))) (.cons LE (.nil))))))) (Zf k n T S s4 (.val d) .no .no hp) = .ok false (Zf k n T S s4 (.val d) .no .no hp1) := fun LE hLE => by
      unfold Zf at *
      simp [evF, r_ok, r_exn, r_to, r_toX, e_lit, e_val, e_nil, e_cons, e_tup, e_lst, e_prim, e_wk, e_call, e_chain, e_and, e_or, e_not, e_ite, e_dct, e_share, e_test, s_skip, s_seq, s_set, s_own, s_expr, s_ret, s_retN, s_ite, truth, view, setTg, E.np, e_ownL, e_ownN, e_lockN, s_par, p_nil, p_cons, e0, ht, e1, e2, e3, hLE]
    have t := step (.lstE (.cons (.lit (.str "refused")) (.cons (.var 5) .nil))) fun pk => by rw [← hx]; cases pk <;> rfl
    unfold rS3
    rw [s_ite, t]
    rfl
theorem f_great {k b : Nat} {s4 s5 : Slot} (h : Bx k (b + 4) hp) : ∃ (n2 : Nat) (T2 : List (List Nat)) (hp' : List D), evS rS4 (Zf k n T S s4 s5 .no .no hp) = .next (Zf k n T S s4 s5 (.val (tabL T2)) .no hp') ∧ Grp n2 T2 ∧ 12 < n2 ∧ Bx k b hp' ∧ hp'.length = hp.length := by
  obtain ⟨c1, h1, t1, d1, b1, l1⟩ := take (m := 12) (by decide) (by decide) h
  obtain ⟨c2, h2, t2, d2, b2, l2⟩ := take (m := 6) (by decide) (by decide) b1
  obtain ⟨c3, h3, t3, d3, b3, l3⟩ := take (m := 3) (by decide) (by decide) b2
  obtain ⟨c4, h4, t4, d4, b4, l4⟩ := take (m := 3) (by decide) (by decide) b3
  have t1 : F__law_take [.ref k, .int 12] hp = .ok (.int (c1 : Int)) h1 := t1
  have t2 : F__law_take [.ref k, .int 6] h1 = .ok (.int (c2 : Int)) h2 := t2
  have t3 : F__law_take [.ref k, .int 3] h2 = .ok (.int (c3 : Int)) h3 := t3
  have t4 : F__law_take [.ref k, .int 3] h3 = .ok (.int (c4 : Int)) h4 := t4
  have a1 : pAdd h1 [.int 13, .int (c1 : Int)] = some (.int ((13 + c1 : Nat) : Int)) := addN 13 c1
  have a2 : pAdd h2 [.int 7, .int (c2 : Int)] = some (.int ((7 + c2 : Nat) : Int)) := addN 7 c2
  have a3 : pAdd h3 [.int 4, .int (c3 : Int)] = some (.int ((4 + c3 : Nat) : Int)) := addN 4 c3
  obtain ⟨n1, hn1⟩ : ∃ m, 13 + c1 = m := ⟨_, rfl⟩
  obtain ⟨n2, hn2⟩ : ∃ m, 7 + c2 = m := ⟨_, rfl⟩
  obtain ⟨n3, hn3⟩ : ∃ m, 4 + c3 = m := ⟨_, rfl⟩
  rw [hn1] at a1
  rw [hn2] at a2
  rw [hn3] at a3
  have f1 := law_cyclic (hp := h1) (n := n1) (by omega) (by omega)
  have f2 := law_dih (hp := h2) (h := n2) (by omega) (by omega)
  have f3 := law_dic (hp := h3) (h := n3) (by omega) (by omega)
  have g1 := grp_cyc (n := n1) (by omega) (by omega)
  have g2 := grp_dih (h := n2) (by omega) (by omega)
  have g3 := grp_dic (h := n3) (by omega) (by omega)
  have hT : ∃ (m : Nat) (T2 : List (List Nat)), pIx h4 [.lst [tabL (cyc n1), tabL (dih n2), tabL (dic n3)], .int (c4 : Int)] = some (tabL T2) ∧ Grp m T2 ∧ 12 < m := by
    have : c4 = 0 ∨ c4 = 1 ∨ c4 = 2 := by omega
    rcases this with rfl | rfl | rfl
    · exact ⟨n1, cyc n1, rfl, g1, by omega⟩
    · exact ⟨2 * n2, dih n2, rfl, g2, by omega⟩
    · exact ⟨4 * n3, dic n3, rfl, g3, by omega⟩
  obtain ⟨m, T2, e1, g, hm⟩ := hT
  refine ⟨m, T2, h4, ?_, g, hm, b4, by rw [l4, l3, l2, l1]⟩
  generalize tabL (cyc n1) = x1 at *
  generalize tabL (dih n2) = x2 at *
  generalize tabL (dic n3) = x3 at *
  simp [rS4, Zf, evF, r_ok, r_exn, r_to, r_toX, e_lit, e_val, e_nil, e_cons, e_tup, e_lst, e_prim, e_wk, e_call, e_chain, e_and, e_or, e_not, e_ite, e_dct, e_share, e_test, s_skip, s_seq, s_set, s_own, s_expr, s_ret, s_retN, s_ite, truth, view, setTg, E.np, e_ownL, e_ownN, e_lockN, s_par, p_nil, p_cons, t1, t2, t3, t4, a1, a2, a3, f1, f2, f3, e1, big]
theorem refusals {k b : Nat} (g : Grp n T) (hS : S.length ≤ 24) (h : Bx k (b + 20) hp) : ∃ hp', F__law_refusals_right [.ref k, grD n T, .int (n : Int), .tup (dl S)] hp = .ok (.bl true) hp' ∧ Bx k b hp' ∧ hp'.length = hp.length := by
  obtain ⟨M, a1, hM, hv⟩ := f_menu (hp := hp) (n := n) (T := T) (S := S) (k := k) hS
  obtain ⟨c, h1, t1, d1, b1, l1⟩ := take (m := 10) (by decide) (by decide) h
  have t1 : F__law_take [.ref k, .int 10] hp = .ok (.int (c : Int)) h1 := t1
  have hc : c < M.length := by rw [hM]; exact d1
  have e1 : pLen hp [.lst M] = some (.int 10) := by
    have := len_lst (hp := hp) M
    rw [hM] at this
    exact this
  have e2 := ix_lst (hp := h1) (xs := M) (k := c) hc
  have hvb := hv _ (List.getElem_mem hc)
  generalize M[c] = bad at *
  have a2 : evS rS2 (Zf k n T S (.val (.lst M)) .no .no .no hp) = .next (Zf k n T S (.val (.lst M)) (.val bad) .no .no h1) := by
    simp [rS2, Zf, evF, r_ok, r_exn, r_to, r_toX, e_lit, e_val, e_nil, e_cons, e_tup, e_lst, e_prim, e_wk, e_call, e_chain, e_and, e_or, e_not, e_ite, e_dct, e_share, e_test, s_skip, s_seq, s_set, s_own, s_expr, s_ret, s_retN, s_ite, truth, view, setTg, E.np, e_ownL, e_ownN, e_lockN, s_par, p_nil, p_cons, e1, t1, e2]
  obtain ⟨h2, a3, b2, l2⟩ := f_bad (hp := h1) (n := n) (T := T) (S := S) (s4 := .val (.lst M)) (b := b + 10) hvb (b1.le (by omega))
  obtain ⟨n2, T2, h3, a4, g2, hn2, b3, l3⟩ := f_great (hp := h2) (n := n) (T := T) (S := S) (s4 := .val (.lst M)) (s5 := .val bad) (b := b + 6) b2
  have e5 := law_group (hp := h3) g2 b3.1
  have a5 : evS rS5 (Zf k n T S (.val (.lst M)) (.val bad) (.val (tabL T2)) .no h3) = .next (Zf k n T S (.val (.lst M)) (.val bad) (.val (tabL T2)) (.val (grD n2 T2)) h3) := by
    simp [rS5, Zf, evF, r_ok, r_exn, r_to, r_toX, e_lit, e_val, e_nil, e_cons, e_tup, e_lst, e_prim, e_wk, e_call, e_chain, e_and, e_or, e_not, e_ite, e_dct, e_share, e_test, s_skip, s_seq, s_set, s_own, s_expr, s_ret, s_retN, s_ite, truth, view, setTg, E.np, e_ownL, e_ownN, e_lockN, s_par, p_nil, p_cons, e5]
  have h24 := g2.le
  have s24 : setB n2 (.tup [.int 24]) = false := by
    show (match (if (0 : Int) ≤ 24 ∧ (24 : Int) < (n2 : Int) then (natsB n2 []).map ((24 : Int).toNat :: ·) else none) with | some l => risB l | none => false) = false
    rw [if_neg (by omega)]
  have e6 := asked_ref (hp := h3) (hamilton_bad (T := T2) (d := .tup [.int 24]) rfl s24) false
  have e7 := sm_ref (r := 2) (vm_tup (xs := [.int 24]) rfl (by decide)).sm h3
  have a6 : evS rS6 (Zf k n T S (.val (.lst M)) (.val bad) (.val (tabL T2)) (.val (grD n2 T2)) h3) = .next (Zf k n T S (.val (.lst M)) (.val bad) (.val (tabL T2)) (.val (grD n2 T2)) h3) := by
    simp [rS6, Zf, evF, r_ok, r_exn, r_to, r_toX, e_lit, e_val, e_nil, e_cons, e_tup, e_lst, e_prim, e_wk, e_call, e_chain, e_and, e_or, e_not, e_ite, e_dct, e_share, e_test, s_skip, s_seq, s_set, s_own, s_expr, s_ret, s_retN, s_ite, truth, view, setTg, E.np, e_ownL, e_ownN, e_lockN, s_par, p_nil, p_cons, e6, e7, big]
  obtain ⟨c4, h4, t4, d4, b4, l4⟩ := take (m := 3) (by decide) (by decide) (b3.le (b' := b + 1) (by omega))
  have t4 : F__law_take [.ref k, .int 3] h3 = .ok (.int (c4 : Int)) h4 := t4
  have hQ : ∃ Q : D, pIx h4 [.lst [.tup [.int 1], .tup [], .tup [.int 0, .int 1]], .int (c4 : Int)] = some Q ∧ okV Q = true ∧ setB n2 Q = true := by
    have hs : ∀ l : List Nat, (∀ x ∈ l, x < n2) → risB l = true → setB n2 (.tup (dl l)) = true := fun l hl hr => by
      show (match natsB n2 (dl l) with | some l => risB l | none => false) = true
      rw [natsB_dl hl]
      exact hr
    have : c4 = 0 ∨ c4 = 1 ∨ c4 = 2 := by omega
    rcases this with rfl | rfl | rfl
    · exact ⟨.tup [.int 1], rfl, rfl, hs [1] (fun x hx => by simp at hx; omega) rfl⟩
    · exact ⟨.tup [], rfl, rfl, hs [] (fun x hx => by simp at hx) rfl⟩
    · exact ⟨.tup [.int 0, .int 1], rfl, rfl, hs [0, 1] (fun x hx => by simp at hx; omega) rfl⟩
  obtain ⟨Q, e8, hQ1, hQ2⟩ := hQ
  have e9 := asked_many (hp := h4) (hamilton_many (T := T2) hQ1 hQ2 hn2) true
  have e10 := sm_many (r := 2) (i := (n2 : Int)) h4
  have e11 := lenTL (hp := h4) g2.toTb
  have a7 : evS rS7 (Zf k n T S (.val (.lst M)) (.val bad) (.val (tabL T2)) (.val (grD n2 T2)) h3) = .ret (.bl true) (Zf k n T S (.val (.lst M)) (.val bad) (.val (tabL T2)) (.val (grD n2 T2)) h4) := by
    simp [rS7, Zf, evF, r_ok, r_exn, r_to, r_toX, e_lit, e_val, e_nil, e_cons, e_tup, e_lst, e_prim, e_wk, e_call, e_chain, e_and, e_or, e_not, e_ite, e_dct, e_share, e_test, s_skip, s_seq, s_set, s_own, s_expr, s_ret, s_retN, s_ite, truth, view, setTg, E.np, e_ownL, e_ownN, e_lockN, s_par, p_nil, p_cons, t4, e8, e9, e10, e11, big]
  refine ⟨h4, ?_, b4, by rw [l4, l3, l2, l1]⟩
  show (match evS b__law_refusals_right (Zf k n T S .no .no .no .no hp) with | O.ret d z => RF.ok d z.hp | O.next z => RF.ok .non z.hp | O.exn c ds z => RF.exn c ds z.hp | _ => RF.bad) = _
  rw [ref_eq, s_seq, a1]
  dsimp only
  rw [s_seq, a2]
  dsimp only
  rw [s_seq, a3]
  dsimp only
  rw [s_seq, a4]
  dsimp only
  rw [s_seq, a5]
  dsimp only
  rw [s_seq, a6]
  dsimp only
  rw [a7]
  rfl
end
end K66
end
section
set_option Elab.async false
set_option linter.all false
set_option maxRecDepth 100000
/-! PS: the law. -/
namespace K66
open G
section
variable {n : Nat} {T : List (List Nat)} {hp : List D}
def Zt (k : Nat) (few : D) (n : Nat) (T : List (List Nat)) (s5 s6 s7 s8 : Slot) (hp : List D) : Z := ⟨[.val (.ref k), .val few, .val (tabL T), .val (grD n T), .val (.int (n : Int)), s5, s6, s7, s8], hp⟩
theorem turn {k b : Nat} {few : D} (g : Grp n T) (hn : n ≤ 12) (h : Bx k (b + 12) hp) {s5 s6 s7 s8 : Slot} : ∃ (S : List Nat) (s7' s8' : Slot) (hp' : List D), evS B__law_right_0 (Zt k few n T s5 s6 s7 s8 hp) = .next (Zt k few n T s5 (.val (.tup (dl S))) s7' s8' hp') ∧ S.length ≤ 24 ∧ Bx k b hp' ∧ hp'.length = hp.length := by
  have c1 : pGt hp [.int (n : Int), .int 8] = some (.bl (decide (8 < n))) := gtN n 8
  obtain ⟨S, h1, t1, hS, hris, b1, l1⟩ := subset (few := decide (8 < n)) (b := b + 1) g.pos g.le (h.le (by omega))
  obtain ⟨c, h2, t2, _, b2, l2⟩ := take (m := 2) (by decide) (by decide) b1
  have t2 : F__law_take [.ref k, .int 2] h1 = .ok (.int (c : Int)) h2 := t2
  have c2 : pEq h2 [.int (c : Int), .int 0] = some (.bl (decide (c = 0))) := eqN c 0
  generalize decide (8 < n) = few2 at c1 t1
  generalize decide (c = 0) = nm at c2
  have hlen := ris_len hris hS
  have hset : setB n (.tup (dl S)) = true := by
    show (match natsB n (dl S) with | some l => risB l | none => false) = true
    rw [natsB_dl hS]
    exact hris
  have a1 : evS uS1 (Zt k few n T s5 s6 s7 s8 hp) = .next (Zt k few n T s5 (.val (.tup (dl S))) (.val (.bl nm)) s8 h2) := by
    simp [uS1, Zt, evF, r_ok, r_exn, r_to, r_toX, e_lit, e_val, e_nil, e_cons, e_tup, e_lst, e_prim, e_wk, e_call, e_chain, e_and, e_or, e_not, e_ite, e_dct, e_share, e_test, s_skip, s_seq, s_set, s_own, s_expr, s_ret, s_retN, s_ite, truth, view, setTg, E.np, e_ownL, e_ownN, e_lockN, s_par, p_nil, p_cons, c1, t1, t2, c2]
  obtain ⟨d, e1, hd⟩ := hamilton (hp := h2) g hn hset hS
  have e2 := fun nm => asked_ok (hp := h2) e1 nm
  obtain ⟨bb, e3, hbb⟩ := law_exists (hp := h2) g hS (by omega) hn
  have a2 : evS uS2 (Zt k few n T s5 (.val (.tup (dl S))) (.val (.bl nm)) s8 h2) = .next (Zt k few n T s5 (.val (.tup (dl S))) (.val (.bl nm)) (.val d) h2) := by
    simp [uS2, Zt, evF, r_ok, r_exn, r_to, r_toX, e_lit, e_val, e_nil, e_cons, e_tup, e_lst, e_prim, e_wk, e_call, e_chain, e_and, e_or, e_not, e_ite, e_dct, e_share, e_test, s_skip, s_seq, s_set, s_own, s_expr, s_ret, s_retN, s_ite, truth, view, setTg, E.np, e_ownL, e_ownN, e_lockN, s_par, p_nil, p_cons, e2]
  have sm : F__law_same 4 [d, d] h2 = .ok (.bl true) h2 := by
    rcases hd with ⟨rfl, _⟩ | ⟨w, l, rfl, hw, hl, hi⟩
    · exact sm_non 3 h2
    · obtain ⟨q1, _⟩ := walk_ok g hS hw hi
      exact sm_dl (r := 2) (big_of (by omega : (w ++ [iv T n l]).length ≤ 24)) h2
  have a3 : evS uS3 (Zt k few n T s5 (.val (.tup (dl S))) (.val (.bl nm)) (.val d) h2) = .next (Zt k few n T s5 (.val (.tup (dl S))) (.val (.bl nm)) (.val d) h2) := by
    rcases hd with ⟨rfl, hno⟩ | ⟨w, l, rfl, hw, hl, hi⟩
    · have : bb = false := by
        cases bb with
        | false => rfl
        | true => exact absurd (hbb.mp rfl) hno
      subst this
      have e4 : pIsNot h2 [.non, .non] = some (.bl false) := rfl
      simp [uS3, Zt, evF, r_ok, r_exn, r_to, r_toX, e_lit, e_val, e_nil, e_cons, e_tup, e_lst, e_prim, e_wk, e_call, e_chain, e_and, e_or, e_not, e_ite, e_dct, e_share, e_test, s_skip, s_seq, s_set, s_own, s_expr, s_ret, s_retN, s_ite, truth, view, setTg, E.np, e_ownL, e_ownN, e_lockN, s_par, p_nil, p_cons, e3, e4]
    · have : bb = true := hbb.mpr ⟨w, l, hw, hl, hi⟩
      subst this
      obtain ⟨q1, q2, q3, q4⟩ := walk_ok g hS hw hi
      have e4 := walk_right (hp := h2) g hS q1 q2 q3 q4
      generalize w ++ [iv T n l] = ww at *
      simp [uS3, Zt, evF, r_ok, r_exn, r_to, r_toX, e_lit, e_val, e_nil, e_cons, e_tup, e_lst, e_prim, e_wk, e_call, e_chain, e_and, e_or, e_not, e_ite, e_dct, e_share, e_test, s_skip, s_seq, s_set, s_own, s_expr, s_ret, s_retN, s_ite, truth, view, setTg, E.np, e_ownL, e_ownN, e_lockN, s_par, p_nil, p_cons, e3, e4]
  have a4 : evS uS4 (Zt k few n T s5 (.val (.tup (dl S))) (.val (.bl nm)) (.val d) h2) = .next (Zt k few n T s5 (.val (.tup (dl S))) (.val (.bl nm)) (.val d) h2) := by
    simp [uS4, Zt, evF, r_ok, r_exn, r_to, r_toX, e_lit, e_val, e_nil, e_cons, e_tup, e_lst, e_prim, e_wk, e_call, e_chain, e_and, e_or, e_not, e_ite, e_dct, e_share, e_test, s_skip, s_seq, s_set, s_own, s_expr, s_ret, s_retN, s_ite, truth, view, setTg, E.np, e_ownL, e_ownN, e_lockN, s_par, p_nil, p_cons, e2, sm]
  refine ⟨S, .val (.bl nm), .val d, h2, ?_, by omega, b2, by rw [l2, l1]⟩
  rw [rt0_eq, s_seq, a1]
  dsimp only
  rw [s_seq, a2]
  dsimp only
  rw [s_seq, a3]
  dsimp only
  exact a4
theorem turns {k : Nat} {few : D} (g : Grp n T) (hn : n ≤ 12) : ∀ (l : List Nat) (b : Nat) (hp : List D) (s5 s6 s7 s8 : Slot), Bx k (b + 12 * l.length) hp → (l ≠ [] ∨ ∃ S : List Nat, s6 = .val (.tup (dl S)) ∧ S.length ≤ 24) → ∃ (S : List Nat) (s5' s7' s8' : Slot) (hp' : List D),
    forL (fun x z2 => match setTg (.one 5) x z2.env with | some env => evS B__law_right_0 { z2 with env := env } | none => .bad) (l.map dn) (Zt k few n T s5 s6 s7 s8 hp) = .next (Zt k few n T s5' (.val (.tup (dl S))) s7' s8' hp') ∧ S.length ≤ 24 ∧ Bx k b hp' ∧ hp'.length = hp.length
  | [], b, hp, s5, s6, s7, s8, h, h6 => by
    rcases h6 with q | ⟨S, rfl, hS⟩
    · exact absurd rfl q
    · exact ⟨S, s5, s7, s8, hp, rfl, hS, h, rfl⟩
  | x :: l, b, hp, s5, s6, s7, s8, h, _ => by
    obtain ⟨S, s7', s8', hp1, e, hS, hb, hl⟩ := turn (hp := hp) (few := few) (b := b + 12 * l.length) g hn (s5 := .val (.int (x : Int))) (s6 := s6) (s7 := s7) (s8 := s8) (h.le (by rw [List.length_cons]; omega))
    obtain ⟨S2, s5'', s7'', s8'', hp2, e2, hS2, hb2, hl2⟩ := turns g hn l b hp1 (.val (.int (x : Int))) (.val (.tup (dl S))) s7' s8' hb (.inr ⟨S, rfl, hS⟩)
    refine ⟨S2, s5'', s7'', s8'', hp2, ?_, hS2, hb2, by rw [hl2, hl]⟩
    show (match evS B__law_right_0 (Zt k few n T (.val (.int (x : Int))) s6 s7 s8 hp) with
        | .next z1 => forL _ (l.map dn) z1 | .cont z1 => forL _ (l.map dn) z1 | .brk z1 => .next z1 | .ret d z1 => .ret d z1 | .exn c ds z1 => .exn c ds z1 | .bad => .bad) = _
    rw [e]
    exact e2
theorem right {k : Nat} (h : Bx k 200 hp) : ∃ hp', F__law_right [.ref k] hp = .ok (.bl true) hp' ∧ Hn hp' ∧ hp'.length = hp.length := by
  obtain ⟨c, h1, t1, _, b1, l1⟩ := take (m := 4) (by decide) (by decide) h
  have t1 : F__law_take [.ref k, .int 4] hp = .ok (.int (c : Int)) h1 := t1
  have c1 : pEq h1 [.int (c : Int), .int 0] = some (.bl (decide (c = 0))) := eqN c 0
  generalize decide (c = 0) = few at c1
  obtain ⟨most, hmost⟩ : ∃ m : Nat, (if few then 12 else 8) = m := ⟨_, rfl⟩
  have hm : 8 ≤ most ∧ most ≤ 12 := by cases few <;> simp at hmost <;> omega
  obtain ⟨n, T, h2, t2, g, hn, b2, l2⟩ := drawn (hp := h1) (b := 100) hm.1 hm.2 (b1.le (by omega))
  have e3 := law_group (hp := h2) g b2.1
  have e4 := lenTL (hp := h2) g.toTb
  have hpos := g.pos
  have a1 : evS tS1 ⟨[.val (.ref k), .no, .no, .no, .no, .no, .no, .no, .no], hp⟩ = .next ⟨[.val (.ref k), .val (.bl few), .no, .no, .no, .no, .no, .no, .no], h1⟩ := by
    simp [tS1, evF, r_ok, r_exn, r_to, r_toX, e_lit, e_val, e_nil, e_cons, e_tup, e_lst, e_prim, e_wk, e_call, e_chain, e_and, e_or, e_not, e_ite, e_dct, e_share, e_test, s_skip, s_seq, s_set, s_own, s_expr, s_ret, s_retN, s_ite, truth, view, setTg, E.np, e_ownL, e_ownN, e_lockN, s_par, p_nil, p_cons, t1, c1]
  have a2 : evS tS2 ⟨[.val (.ref k), .val (.bl few), .no, .no, .no, .no, .no, .no, .no], h1⟩ = .next ⟨[.val (.ref k), .val (.bl few), .val (tabL T), .no, .no, .no, .no, .no, .no], h2⟩ := by
    cases few with
    | true =>
      have hmost : 12 = most := hmost
      subst hmost
      have t2 : F__law_drawn [.ref k, .int 12] h1 = .ok (tabL T) h2 := t2
      simp [tS2, evF, r_ok, r_exn, r_to, r_toX, e_lit, e_val, e_nil, e_cons, e_tup, e_lst, e_prim, e_wk, e_call, e_chain, e_and, e_or, e_not, e_ite, e_dct, e_share, e_test, s_skip, s_seq, s_set, s_own, s_expr, s_ret, s_retN, s_ite, truth, view, setTg, E.np, e_ownL, e_ownN, e_lockN, s_par, p_nil, p_cons, t2]
    | false =>
      have hmost : 8 = most := hmost
      subst hmost
      have t2 : F__law_drawn [.ref k, .int 8] h1 = .ok (tabL T) h2 := t2
      simp [tS2, evF, r_ok, r_exn, r_to, r_toX, e_lit, e_val, e_nil, e_cons, e_tup, e_lst, e_prim, e_wk, e_call, e_chain, e_and, e_or, e_not, e_ite, e_dct, e_share, e_test, s_skip, s_seq, s_set, s_own, s_expr, s_ret, s_retN, s_ite, truth, view, setTg, E.np, e_ownL, e_ownN, e_lockN, s_par, p_nil, p_cons, t2]
  have a3 : evS tS3 ⟨[.val (.ref k), .val (.bl few), .val (tabL T), .no, .no, .no, .no, .no, .no], h2⟩ = .next (Zt k (.bl few) n T .no .no .no .no h2) := by
    simp [tS3, Zt, evF, r_ok, r_exn, r_to, r_toX, e_lit, e_val, e_nil, e_cons, e_tup, e_lst, e_prim, e_wk, e_call, e_chain, e_and, e_or, e_not, e_ite, e_dct, e_share, e_test, s_skip, s_seq, s_set, s_own, s_expr, s_ret, s_retN, s_ite, truth, view, setTg, E.np, e_ownL, e_ownN, e_lockN, s_par, p_nil, p_cons, e3, e4]
  have c5 : pLt h2 [.int (n : Int), .int 9] = some (.bl (decide (n < 9))) := ltN n 9
  obtain ⟨m, hm3⟩ : ∃ m : Nat, (if decide (n < 9) then 3 else 1) = m := ⟨_, rfl⟩
  have hm4 : 1 ≤ m ∧ m ≤ 3 := by
    generalize decide (n < 9) = q at hm3
    cases q <;> simp at hm3 <;> omega
  have er := rng (hp := h2) (n := m) (by show _ ≤ 1000000; omega)
  obtain ⟨S, s5, s7, s8, h3, e6, hS, b3, l3⟩ := turns (k := k) (few := .bl few) g (by omega) (List.range m) 40 h2 .no .no .no .no (b2.le (by rw [List.length_range]; omega)) (.inl (fun q => by
    have := congrArg List.length q
    rw [List.length_range] at this
    have : m = 0 := this
    omega))
  have a4 : evS tS4 (Zt k (.bl few) n T .no .no .no .no h2) = .next (Zt k (.bl few) n T s5 (.val (.tup (dl S))) s7 s8 h3) := by
    have it : evE false (.wk pRange1 (.cons (.ite (.prim pLt (.cons (.var 4) (.cons (.lit (.int 9)) .nil))) (.lit (.int 3)) (.lit (.int 1))) .nil)) (Zt k (.bl few) n T .no .no .no .no h2) = .ok [.lst (dl (List.range m))] (Zt k (.bl few) n T .no .no .no .no h2) := by
      refine wkD (xs := [.int (m : Int)]) ?_ er
      generalize decide (n < 9) = q at c5 hm3
      cases q with
      | true =>
        have hm3 : 3 = m := hm3
        subst hm3
        simp [Zt, evF, r_ok, r_exn, r_to, r_toX, e_lit, e_val, e_nil, e_cons, e_tup, e_lst, e_prim, e_wk, e_call, e_chain, e_and, e_or, e_not, e_ite, e_dct, e_share, e_test, s_skip, s_seq, s_set, s_own, s_expr, s_ret, s_retN, s_ite, truth, view, setTg, E.np, e_ownL, e_ownN, e_lockN, s_par, p_nil, p_cons, c5]
      | false =>
        have hm3 : 1 = m := hm3
        subst hm3
        simp [Zt, evF, r_ok, r_exn, r_to, r_toX, e_lit, e_val, e_nil, e_cons, e_tup, e_lst, e_prim, e_wk, e_call, e_chain, e_and, e_or, e_not, e_ite, e_dct, e_share, e_test, s_skip, s_seq, s_set, s_own, s_expr, s_ret, s_retN, s_ite, truth, view, setTg, E.np, e_ownL, e_ownN, e_lockN, s_par, p_nil, p_cons, c5]
    unfold tS4 L__law_right_0
    rw [s_for, it, r_to, items_dn (by rw [List.length_range]; show _ ≤ 1000000; omega)]
    exact e6
  obtain ⟨h4, e7, b4, l4⟩ := refusals (hp := h3) (k := k) (b := 10) g hS (b3.le (by omega))
  have a5 : evS tS5 (Zt k (.bl few) n T s5 (.val (.tup (dl S))) s7 s8 h3) = .ret (.bl true) (Zt k (.bl few) n T s5 (.val (.tup (dl S))) s7 s8 h4) := by
    simp [tS5, Zt, evF, r_ok, r_exn, r_to, r_toX, e_lit, e_val, e_nil, e_cons, e_tup, e_lst, e_prim, e_wk, e_call, e_chain, e_and, e_or, e_not, e_ite, e_dct, e_share, e_test, s_skip, s_seq, s_set, s_own, s_expr, s_ret, s_retN, s_ite, truth, view, setTg, E.np, e_ownL, e_ownN, e_lockN, s_par, p_nil, p_cons, e7]
  refine ⟨h4, ?_, b4.1, by rw [l4, l3, l2, l1]⟩
  show (match evS b__law_right ⟨[.val (.ref k), .no, .no, .no, .no, .no, .no, .no, .no], hp⟩ with | O.ret d z => RF.ok d z.hp | O.next z => RF.ok .non z.hp | O.exn c ds z => RF.exn c ds z.hp | _ => RF.bad) = _
  rw [right_eq, s_seq, a1]
  dsimp only
  rw [s_seq, a2]
  dsimp only
  rw [s_seq, a3]
  dsimp only
  rw [s_seq, a4]
  dsimp only
  rw [a5]
  rfl
theorem absE (i : Int) : ∃ a : Nat, pAbs hp [.int i] = some (.int (a : Int)) := by
  refine ⟨i.natAbs, ?_⟩
  show some (D.int (if i < 0 then -i else i)) = _
  congr 2
  by_cases h : i < 0
  · rw [if_pos h]; omega
  · rw [if_neg h]; omega
theorem box (i : Int) (hn : Hn hp) : ∃ hp', F__law_box [.int i] hp = .ok (.ref hp.length) hp' ∧ Bx hp.length 200 hp' := by
  obtain ⟨a, e1⟩ := absE (hp := hp) i
  obtain ⟨big18, e2⟩ := powE (hp := hp) 10 18 (by decide) (by decide) (by decide)
  have e3 : pGe hp [.int (a : Int), .int big18] = some (.bl (decide (big18 ≤ (a : Int)))) := rfl
  generalize decide (big18 ≤ (a : Int)) = s at e3
  obtain ⟨c, e4, hc⟩ := modE (hp := hp) (a : Int) 2147483629 (by decide)
  have e5 : pInt hp [.int (a : Int)] = some (.int (a : Int)) := rfl
  refine ⟨hp ++ [boxD a s c 0], ?_, fun d hd j => ?_, a, c, 0, s, by simp, by omega, by omega⟩
  · have : (.lst [.int (a : Int), .bl s, .int (c : Int), .int 0] : D) = boxD a s c 0 := rfl
    simp [F__law_box, b__law_box, evF, r_ok, r_exn, r_to, r_toX, e_lit, e_val, e_nil, e_cons, e_tup, e_lst, e_prim, e_wk, e_call, e_chain, e_and, e_or, e_not, e_ite, e_dct, e_share, e_test, s_skip, s_seq, s_set, s_own, s_expr, s_ret, s_retN, s_ite, truth, view, setTg, E.np, e_ownL, e_ownN, e_lockN, s_par, p_nil, p_cons, e1, e2, e3, e4, e5, big, this]
  · rcases List.mem_append.mp hd with q | q
    · exact hn d q j
    · rw [List.mem_singleton.mp q]; rfl
theorem ints_map : ∀ l : List Int, intsD (l.map D.int) = some l
  | [] => rfl
  | x :: l => by
    show (intsD (l.map D.int)).map (fun r => x :: r) = _
    rw [ints_map l]
    rfl
theorem cell (ns : List Int) (k : Nat) (hk : k ≤ 2) : ∃ i : Int, F__law_cell [.scr ns, .int (k : Int)] hp = .ok (.int i) hp := by
  have e0 : pLen hp [.scr ns] = some (.int (ns.length : Int)) := rfl
  have e1 := ltN (hp := hp) k ns.length
  by_cases h : k < ns.length
  · rw [decide_eq_true h] at e1
    have e2 : pIx hp [.scr ns, .int (k : Int)] = some (.int ns[k]) := by
      show (match ixOf ns.length (k : Int) with | some n => (ns[n]?).map D.int | none => none) = _
      rw [ixOf_nat h]
      dsimp only
      rw [List.getElem?_eq_getElem h]
      rfl
    refine ⟨ns[k], ?_⟩
    generalize ns[k] = v at *
    simp [F__law_cell, b__law_cell, evF, r_ok, r_exn, r_to, r_toX, e_lit, e_val, e_nil, e_cons, e_tup, e_lst, e_prim, e_wk, e_call, e_chain, e_and, e_or, e_not, e_ite, e_dct, e_share, e_test, s_skip, s_seq, s_set, s_own, s_expr, s_ret, s_retN, s_ite, truth, view, setTg, E.np, e_ownL, e_ownN, e_lockN, s_par, p_nil, p_cons, e0, e1, e2]
  · rw [decide_eq_false h] at e1
    have e2 : pCut false true hp [.scr ns, .non, .int 1] = some (.lst ((cutL ns none (some 1)).map D.int)) := rfl
    generalize cutL ns none (some 1) = cs at e2
    have e3 : pSum hp [.lst (cs.map D.int)] = some (.int cs.sum) := by
      show (intsD (cs.map D.int)).map (fun l => D.int l.sum) = _
      rw [ints_map]
      rfl
    generalize cs.map D.int = ds at *
    obtain ⟨r, e4, _⟩ := modE (hp := hp) cs.sum 1000033 (by decide)
    have e5 : pInt hp [.int cs.sum] = some (.int cs.sum) := rfl
    have e6 : pMul hp [.int 6007, .int (k : Int)] = some (.int (6007 * (k : Int))) := mulE (by decide) (by omega)
    have e7 : pI hp [.int 1] = some (.int 1) := rfl
    have e8 : pAdd hp [.int (6007 * (k : Int)), .int (r : Int)] = some (.int (6007 * (k : Int) + (r : Int))) := rfl
    refine ⟨6007 * (k : Int) + (r : Int), ?_⟩
    generalize cs.sum = sm at *
    generalize 6007 * (k : Int) = x at *
    simp [F__law_cell, b__law_cell, evF, r_ok, r_exn, r_to, r_toX, e_lit, e_val, e_nil, e_cons, e_tup, e_lst, e_prim, e_wk, e_call, e_chain, e_and, e_or, e_not, e_ite, e_dct, e_share, e_test, s_skip, s_seq, s_set, s_own, s_expr, s_ret, s_retN, s_ite, truth, view, setTg, E.np, e_ownL, e_ownN, e_lockN, s_par, p_nil, p_cons, e0, e1, e2, e3, e4, e5, e6, e7, e8]
theorem law_turn (ns : List Int) (k : Nat) (hk : k ≤ 2) (hn : Hn hp) : ∃ hp', evS B_law_0 ⟨[.val (.scr ns), .val (.int (k : Int))], hp⟩ = .next ⟨[.val (.scr ns), .val (.int (k : Int))], hp'⟩ ∧ Hn hp' := by
  obtain ⟨i, e1⟩ := cell (hp := hp) ns k hk
  obtain ⟨h1, e2, b1⟩ := box (hp := hp) i hn
  obtain ⟨h2, e3, hn2, _⟩ := right (hp := h1) b1
  refine ⟨h2, ?_, hn2⟩
  simp [B_law_0, evF, r_ok, r_exn, r_to, r_toX, e_lit, e_val, e_nil, e_cons, e_tup, e_lst, e_prim, e_wk, e_call, e_chain, e_and, e_or, e_not, e_ite, e_dct, e_share, e_test, s_skip, s_seq, s_set, s_own, s_expr, s_ret, s_retN, s_ite, truth, view, setTg, E.np, e_ownL, e_ownN, e_lockN, s_par, p_nil, p_cons, e1, e2, e3]
theorem law_plain (ns : List Int) : ∃ hp, F_law [.scr ns] [] = .ok (.bl true) hp := by
  obtain ⟨z', e, hp', s1, rfl, _⟩ := for_fold (t := .one 1) (it := .wk pRange1 (.cons (.lit (.int 2)) .nil)) (b := B_law_0) (z := ⟨[.val (.scr ns), .no], []⟩) dn
    (fun (_ : Unit) z => ∃ (hp' : List D) (s1 : Slot), z = ⟨[.val (.scr ns), s1], hp'⟩ ∧ Hn hp') (fun _ _ => ()) (List.range 2) () (z1 := ⟨[.val (.scr ns), .no], []⟩) (d := .lst (dl (List.range 2))) rfl rfl ⟨[], .no, rfl, fun _ q => nomatch q⟩ (fun a _ z ha hz => by
      obtain ⟨hp', s1, rfl, hn⟩ := hz
      have ha := List.mem_range.mp ha
      obtain ⟨h2, e, hn2⟩ := law_turn (hp := hp') ns a (by omega) hn
      exact ⟨_, _, rfl, .inl e, _, _, rfl, hn2⟩)
  refine ⟨hp', ?_⟩
  have e : evS L_law_0 ⟨[.val (.scr ns), .no], []⟩ = .next ⟨[.val (.scr ns), s1], hp'⟩ := e
  show (match evS b_law ⟨[.val (.scr ns), .no], []⟩ with | O.ret d z => RF.ok d z.hp | O.next z => RF.ok .non z.hp | O.exn c ds z => RF.exn c ds z.hp | _ => RF.bad) = _
  unfold b_law
  rw [s_seq, e]
  rfl
end
end K66
end
theorem PySem.Challenge.cw_groupbench_k66_hamilton_walks_holds : PySem.Challenge.rw_groupbench_k66_hamilton_walks.Holds := by
  exact K66.holds_of fun ns _ => K66.law_plain ns
